/- Part of the proof. -/
import GoSem.Step
import Derived.Calls
set_option linter.all false
noncomputable section
open Option renaming some->A,none->O,getD->Option.g,bind->Option.b
open _root_ renaming rfl->B,List->C,Nat->D,Int->K,Option->Ae,Bool->Ah,cond->Aj,Array->Bg,absurd->BF
open Bool renaming true->L,false->Aa
open Decidable renaming decide->Ao
open Nat renaming beq->AW,ble->BX,le_refl->CK
open Go renaming Value->Ba,World->By,TypeId->BQ
open List renaming replicate->BG,length->List.l,map->List.m,take->List.t,drop->List.d,flatMap->List.f
open Go.IntKind renaming i64->Go.IntKind.n
open Array renaming toList->Array.l,size->Array.z
open Eq renaming trans->Eq.t,symm->Eq.s
open Or renaming inl->Or.i,inr->Or.j
open Int renaming toNat->Int.n
namespace Go.Fg
def AdM:=@not_false_eq_true
def AdN:=@List.getElem?_eq_some_iff
def AdO:=@Bool.and_eq_true
def AdP:=@Option.bind_some
def AdS:=@Classical.byContradiction
def AdQ:=@Nat.eq_of_beq_eq_true
def AdR:=@Int.toNat_natCast
def Ad0:=@List.length_range
def AdT:=@Nat.le_of_ble_eq_true
def AdU:=@List.mem_of_getElem?
def AdW:=@congrArg
def AdY:=@List.length_append
def AdV:=@decide_eq_true_eq
def Ad1:=@List.drop_eq_nil_of_le
def AdX:=@Nat.ble_eq_true_of_le
def AdZ:=@Bool.false_eq_true
def Ad3:=@if_false
def Ad2:=@Nat.zero_add
def Ad4:=@decide_true
def Ad9:=@List.length_map
def Ad5:=@List.append_nil
def Aea:=@if_true
def Ad6:=@List.mem_cons
def Ad7:=@List.drop_zero
def Ad8:=@Bool.not_true
def Aeb:=@trivial
def Aec:=@List.length_cons
def AeA:=@Nat.zero_le
def Aed:=@List.length_set
def Aee:=@Nat.beq_refl
def Aef:=@List.length_take
def Aeg:=@Option.getD_some
def Ael:=@decide_false
def Aeh:=@List.flatMap_cons
def Aei:=@List.all_eq_true
def Aej:=@List.mem_append
def Aek:=@Bool.eq_iff_iff
def Aem:=@Nat.le_trans
def Aen:=@Nat.lt_of_lt_of_le
def Aeo:=@List.getElem?_map
def Aes:=@List.map_append
def Aep:=@Bool.true_and
def Aeu:=@List.mem_map
def Aeq:=@List.take_of_length_le
def Aet:=@Bool.not_false
def Aer:=@List.all_cons
def Aev:=@Nat.add_zero
def Aew:=@Option.some.inj
def Aex:=@List.getElem?_set_self
def Aey:=@List.mem_cons_self
def Aez:=@List.mem_cons_of_mem
def AeB:=@Eq.trans
def AeK:=@Nat.lt_of_le_of_lt
def AeC:=@List.map_cons
def AeD:=@List.getElem?_eq_getElem
def AeE:=@List.length_singleton
def AeF:=@List.map_map
def AeG:=@List.all_append
def AeH:=@Nat.add_mul
def AeI:=@Array.length_toList
def AeW:=@List.mem_singleton
def AeJ:=@List.getElem?_set_ne
def AeL:=@List.getElem?_cons_succ
def AeM:=@Nat.add_assoc
def AeN:=@List.append_assoc
def AeU:=@List.mem_range
def AeO:=@Bool.false_and
def AeX:=@List.range_succ
def AeP:=@List.ext_getElem?
def Afg:=@of_decide_eq_true
def Af4:=@List.getElem?_eq_none
def AeQ:=@List.getElem?_append_left
def AeR:=@Array.getD_eq_getD_getElem?
def AeS:=@Bool.or_eq_true
def AeT:=@List.mem_append_right
def AeV:=@List.length_eq_zero_iff
def Ae6:=@Bool.false_or
def AeY:=@List.foldl_cons
def AeZ:=@Nat.mul_le_mul_right
def Ae0:=@List.mem_append_left
def Ae1:=@eq_false
def Ae2:=@List.not_mem_nil
def Ae3:=@or_false
def Ae4:=@List.replicate_succ
def Ae5:=@List.set_set
def Ae7:=@List.IsPrefix.trans
def Ae8:=@List.flatten_cons
def Ae9:=@List.getElem?_append_right
def Afa:=@List.getElem?_toArray
def Afb:=@List.getElem?_cons_zero
def Afc:=@Nat.sub_self
def Afd:=@Int.le_refl
def Afe:=@Nat.succ_mul
def Aff:=@List.mem_iff_getElem?
def Afh:=@Nat.blt_eq
def Afi:=@List.drop_drop
def Afj:=@Nat.min_eq_left
def Afk:=@List.drop_succ_cons
def Afl:=@List.mem_of_mem_take
def Afm:=@Nat.mul_le_mul_left
def Afn:=@Nat.ne_of_beq_eq_false
def Afo:=@Array.getElem?_eq_getElem
def Afp:=@List.nodup_nil
def Afq:=@beq_self_eq_true
def AfB:=@List.any_cons
def Afr:=@List.length_replicate
def Afs:=@List.set_cons_zero
def Aft:=@List.getElem?_drop
def Afu:=@List.length_eq_one_iff
def Afv:=@List.take_append_drop
def Afw:=@List.length_nil
def Afx:=@List.eq_nil_of_length_eq_zero
def Afy:=@Array.ext'
def Afz:=@List.nodup_cons
def AfW:=@List.cons.inj
def AfA:=@List.drop_length
def AfC:=@List.any_eq_true
def AfD:=@Int.natCast_add
def AfE:=@decide_eq_false_iff_not
def AfF:=@Bool.or_assoc
def AfG:=@Option.some.injEq
def AfH:=@List.mem_or_eq_of_mem_set
def AfI:=@List.length_reverse
def AfJ:=@List.take_succ_cons
def AfK:=@Array.eq_empty_of_size_eq_zero
def AfL:=@Array.getElem?_toList
def AfM:=@Prod.mk.injEq
def AfN:=@Nat.mul_eq_zero
def AfO:=@List.map_take
def AfP:=@Array.toList_modify
def AfQ:=@List.size_toArray
def AfR:=@List.map_toArray
def AfS:=@List.range_eq_range'
def AfT:=@Nat.add_sub_cancel
def AfU:=@Classical.choose_spec
def AfV:=@Nat.le_max_left
def AfX:=@Nat.lt_irrefl
def AfY:=@List.flatMap_append
def AfZ:=@List.nodup_append
def Af0:=@List.foldl_append
def Af1:=@List.take_zero
def Af2:=@List.nil_append
def Age:=@Int.tmod_eq_emod_of_nonneg
def Af3:=@List.set_append_right
def Af5:=@List.Perm.refl
def Af6:=@List.getElem?_inj
def Af7:=@List.pairwise_cons
def Aim:=@Int.emod_nonneg
def Af8:=@Array.getElem?_setIfInBounds_ne
def Af9:=@List.extract_eq_take_drop
def Aga:=@List.drop_length_add_append
def Agb:=@Nat.testBit_eq_decide_div_mod_eq
def Agc:=@Nat.shiftRight_eq_div_pow
def Ain:=@List.drop_eq_getElem_cons
def Agd:=@Int.tdiv_eq_ediv_of_nonneg
def Agf:=@List.takeWhile_append_dropWhile
theorem Om{a:Prop}(b:a:=by omega):a:=b
theorem P{a:Prop}(b:a:=by grind):a:=b
theorem Rl{a:Prop}(b:a:=by intros;exact rfl):a:=b
inductive T where
 |h:T
 |o (a:T):T
 |i (a:T):T
 deriving DecidableEq,Inhabited
def T.num:T->D
 | .h=>1
 | .o a=>2*a.num
 | .i a=>2*a.num+1
def T.FI(a:T):T:= @T.rec (λ_=>T) (.o .h) (λa _=>.i a) (λ_ b=>.o b) a
def T.eq(c:T):T->Ah:=
 @T.rec (λ_=>T->Ah)
  (λa=> @T.rec (λ_=>Ah) L (λ_ _=>Aa) (λ_ _=>Aa) a)
  (λ_ b a=> @T.rec (λ_=>Ah) Aa (λa _=>b a) (λ_ _=>Aa) a)
  (λ_ b a=> @T.rec (λ_=>Ah) Aa (λ_ _=>Aa) (λa _=>b a) a) c
def TA:D->D->T
 |0,_=>.h
 |b+1,a=>if a<=1 then .h else if a % 2=1 then .i (TA b (a/2))else .o (TA b (a/2))
def pos(a:D):T:=TA 64 (a+1)
inductive PT (u:Type)where
 |nil:PT u
 |nd (a:PT u) (c:Ae u) (b:PT u):PT u
namespace PT
variable{u:Type}
def Eo:PT u->Ae u
 | .nil=>O
 | .nd _ a _=>a
def lft:PT u->PT u
 | .nil=>.nil
 | .nd a _ _=>a
def rgt:PT u->PT u
 | .nil=>.nil
 | .nd _ _ a=>a
def M(d:PT u):T->Ae u:= @PT.rec u (λ_=>T->Ae u) (λ_=>O) (λ_ e _ a b c=> @T.casesOn (λ_=>Ae u) c e a b) d
def AJ(c:PT u)(g:T):Ae u->PT u:=
 @T.rec (λ_=>PT u->Ae u->PT u)
  (λc a=> @PT.rec u (λ_=>Ae u->PT u) (λa=>.nd .nil a .nil) (λd _ e _ _ a=>.nd d a e) c a)
  (λ_ b c a=> @PT.rec u (λ_=>(PT u->Ae u->PT u)->Ae u->PT u) (λb a=>.nd (b .nil a) O .nil) (λd f e _ _ b a=>.nd (b d a) f e) c b a)
  (λ_ b c a=> @PT.rec u (λ_=>(PT u->Ae u->PT u)->Ae u->PT u) (λb a=>.nd .nil O (b .nil a)) (λd f e _ _ b a=>.nd d f (b e a)) c b a) g c
end PT
inductive F where
 |b (v:Ah)
 |i (l:IntKind) (d:K)
 |s (a:C D)
 |p (c:T) (e:D)
 |pn
 |Z (c:T) (e d g w:D)
 |sn
 |m (o:T)
 |mn
 |f (k:T) (h:C F)
 |fn
 |S (a:C F)
 |AB (a:C F)
 |ic (q:D) (r:F)
 |KZ
 |pi (a:C F)
 |CV (j:C (C F))
 |mi (n t:C F)
 deriving Inhabited
def UI(a:IntKind):D:= @IntKind.rec (λ_=>D) 0 1 2 3 4 5 6 7 a
def Hu(b a:IntKind):Ah:=AW (UI b) (UI a)
def Ju(d b:K):Ah:= @Int.rec (λ_=>K->Ah) (λa b=> @Int.rec (λ_=>D->Ah) (λc a=>AW a c) (λ_ _=>Aa) b a) (λa b=> @Int.rec (λ_=>D->Ah) (λ_ _=>Aa) (λc a=>AW a c) b a) d b
def LD(d b:K):Ah:= @Int.rec (λ_=>K->Ah) (λa b=> @Int.rec (λ_=>D->Ah) (λc a=>BX a c) (λ_ _=>Aa) b a) (λa b=> @Int.rec (λ_=>D->Ah) (λ_ _=>L) (λc a=>BX c a) b a) d b
def aB(d b:K):K:= @Int.rec (λ_=>K->K) (λa b=> @Int.rec (λ_=>D->K) (λc a=>.ofNat (Nat.add a c)) (λc a=>Int.add (.ofNat a) (.negSucc c)) b a) (λa b=>Int.add (.negSucc a) b) d b
def Og(c:Ah)(a b:K):K:= @Bool.rec (λ_=>K) b a c
def QG(d b:K):K:= @Int.rec (λ_=>K->K) (λa b=> @Int.rec (λ_=>D->K) (λc a=>Og (BX c a) (.ofNat (Nat.sub a c)) (Int.sub (.ofNat a) (.ofNat c))) (λc a=>Int.sub (.ofNat a) (.negSucc c)) b a) (λa b=>Int.sub (.negSucc a) b) d b
def D2(f:C D):C D->Ah:=
 @List.rec D (λ_=>C D->Ah) (λa=> @List.casesOn D (λ_=>Ah) a L (λ_ _=>Aa))
  (λb _ d a=> @List.casesOn D (λ_=>Ah) a Aa (λc e=>Aj (AW b c) (d e) Aa)) f
def Fl:F->Ah
 | .S _=>Aa
 | .AB _=>Aa
 |_=>L
def V0(d:D):C F->C F:= @Nat.rec (λ_=>C F->C F) (λ_=>[]) (λ_ a c=> @List.rec F (λ_=>(C F->C F)->C F) (λ_=>[]) (λb e _ a=>b::a e) c a) d
def WB(c:D):C F->C F:= @Nat.rec (λ_=>C F->C F) (λb=>b) (λ_ a b=> @List.rec F (λ_=>(C F->C F)->C F) (λ_=>[]) (λ_ d _ a=>a d) b a) c
def Bq(a:C F):D:= @List.rec F (λ_=>D) 0 (λ_ _ b=>Nat.succ b) a
def Vn(d:D):C F->Ae F:= @Nat.rec (λ_=>C F->Ae F) (λb=> @List.rec F (λ_=>Ae F) O (λc _ _=>A c) b) (λ_ a b=> @List.rec F (λ_=>(C F->Ae F)->Ae F) (λ_=>O) (λ_ e _ a=>a e) b a) d
def Es(c d:C F):C F:= @List.rec F (λ_=>C F) d (λa _ b=>a::b) c
def KD(e:C F):C F->C F:= @List.rec F (λ_=>C F->C F) (λb=>b) (λc _ a b=> @List.rec F (λ_=>F->(C F->C F)->C F) (λ_ _=>[]) (λ_ d _ c a=>c::a d) b c a) e
def Dg(d:D)(f:C F):C F->C F:= @Nat.rec (λ_=>C F->C F) (KD f) (λ_ a c=> @List.rec F (λ_=>(C F->C F)->C F) (λ_=>[]) (λb e _ a=>b::a e) c a) d
def BU(b:C F):Ah:= @List.rec F (λ_=>Ah) L (λa _ c=>Aj (Fl a) c Aa) b
mutual
def FD:F->F->Ah
 | .b a,.b b=>a==b
 | .i j a,.i i b=>Hu j i&&Ju a b
 | .s a,.s b=>D2 a b
 | .p c d,.p e f=>T.eq c e&&AW d f
 | .pn,.pn=>L
 | .Z c d k l m,.Z e f n o p=>T.eq c e&&AW d f&&AW k n&&AW l o&&AW m p
 | .sn,.sn=>L
 | .m a,.m b=>T.eq a b
 | .mn,.mn=>L
 | .f c d,.f e f=>T.eq c e&&JP d f
 | .fn,.fn=>L
 | .S a,.S b=>JP a b
 | .AB a,.AB b=>JP a b
 | .ic c d,.ic e f=>AW c e&&FD d f
 | .KZ,.KZ=>L
 | .pi a,.pi b=>JP a b
 | .CV a,.CV b=>O3 a b
 | .mi c d,.mi e f=>JP c e&&JP d f
 |_,_=>Aa
def JP:C F->C F->Ah
 |[],[]=>L
 |a::g,b::h=>FD a b&&JP g h
 |_,_=>Aa
def O3:C (C F)->C (C F)->Ah
 |[],[]=>L
 |a::g,b::h=>JP a b&&O3 g h
 |_,_=>Aa
end
def Qb:F->F->Ah
 | .i h a,.i g b=>Aj (Hu h g) (Ju a b) Aa
 | .p c d,.p e f=>Aj (AW d f) (T.eq c e) Aa
 | .Z c d i j k,.Z e f l m n=>Aj (AW d f) (Aj (AW i l) (Aj (AW j m) (Aj (AW k n) (T.eq c e) Aa) Aa) Aa) Aa
 | .m a,.m b=>T.eq a b
 | .s a,.s b=>D2 a b
 | .sn,.sn=>L
 | .pn,.pn=>L
 | .b a,.b b=>a==b
 |a,b=>FD a b
def Uc(e:C F):C F->Ah:= @List.rec F (λ_=>C F->Ah) (λa=> @List.casesOn F (λ_=>Ah) a L (λ_ _=>Aa)) (λb _ d a=> @List.casesOn F (λ_=>Ah) a Aa (λc f=>Aj (Qb b c) (d f) Aa)) e
def Ud:F->F->Ah
 | .S a,.S b=>Uc a b
 | .AB a,.AB b=>Uc a b
 |a,b=>Qb a b
def F.I:F->C F
 | .S a=>a
 |c=>[c]
structure Bx where
 He:F
 Eo:F
 MB:D
inductive BV where
 |I (d:D) (c:C F)
 |Bn (b:C Bx) (a:D)
 |rc (d:D) (c:C F)
 |rm (b:C Bx) (a:D)
structure G where
 t:PT BV
 next:T
def GA:D:=100000000000
def G.M(b:G)(a:T):Ae BV:=PT.M b.t a
def G.set(a:G)(b:T)(c:BV):G:=⟨PT.AJ a.t b (A c),a.next⟩
def G.GG(a:G)(b:T):G:=⟨PT.AJ a.t b O,a.next⟩
def G.V(a:G)(b:BV):G:=⟨PT.AJ a.t a.next (A b),a.next.FI⟩
inductive Od where
 |t (a:T)
 |c (b:F)
inductive Rd where
 |mv
 |pick
 |build (b:C F) (n:C (D×D))
 |ld (l:D)
 |Cq
 |bt
 |YX (e:BinOp)
 |Y1 (e:BinOp)
 |eU (a:Ah)
 |eQ (a:Ah) (c:C D)
 |eX (a:Ah)
 |eY (a:Ah)
 |neg
 |iq
 |eu (j:IntKind)
 |fa (d:D)
 |fs (d:D)
 |ia (b:D)
 |g2
 |M0 (b:D) (k h:Ah)
 |Re
 |a3
 |XE
 |Za
 |ext (i:D)
 |Vf (g:T)
 |h9 (o:D)
 |max
 |Hw (f:Ah) (c:C D) (b:F) (m:Ah)
inductive Al where
 |alloc (d:C F)
 |box
 |Ga (c a:D)
 |bm (e:C F) (a b:D)
 |bk
inductive Ef where
 |st (f:D)
 |Es (a c:D)
 |YK (e:C F) (a c:D)
 |Zh (a:D)
 |BW (b:Ah) (d:C D)
 |bj (b:Ah) (d:C D) (e:F)
 |ZC
inductive Io where
 |rd (e:Rd) (a:C Od)
 |al (b:Al) (a:C Od)
 |ef (c:Ef) (a:C Od)
 |call (d:Od) (a:C Od)
 |CS
structure Cx where
 De:Ae T
 op:Io
 DZ:Ae (T×Ah)
 bits:D
inductive G7 where
 |skip
 |HT (d:C Cx)
 |Hl (d:C Cx)
 |D2 (b a:G7)
 |GB (e:Od) (b a:G7)
 |Bc (c:D) (a:G7)
 |Dt (a:G7)
 |Ck (c:D)
 |Dd
 |CS
inductive FP where
 |t (b:T)
 |B0 (a:T) (b:D)
 |M9 (a:T)
structure Gk where
 nt:D
 GR:C FP
 Ln:G7
abbrev Fm:=PT F
def AC:F:=.AB []
def uY:Ae F->F
 |some a=>a
 |none=>AC
def Fm.at(b:Fm)(a:T):F:=uY (PT.M b a)
def Od.ev(d:Fm):Od->F
 | .t a=>Fm.at d a
 | .c b=>b
def DI(a:Fm)(b:Ae T)(d:F):Fm:=match b with|some c=>PT.AJ a c (A d)|none=>a
def aD(b:K):Ah:= @Int.rec (λ_=>Ah) (λa=>BX a 9223372036854775807) (λa=>BX a 9223372036854775807) b
def Iu(b:IntKind)(a:K):K:=Og (AW (UI b) 3) (Og (aD a) a (b.wrap a)) (b.wrap a)
def PG(a:Ah):Ah:= @Bool.rec (λ_=>Ah) L Aa a
def cr(d:BinOp)(a:IntKind)(c e:K):Ae F:=
 match d,e with
 | .shl,.ofNat b=>A (.i a (a.wrap (c*2^(min b a.bits))))
 | .shr,.ofNat b=>A (.i a (c.fdiv (2^(min b a.bits))))
 |_,_=>O
def lL(d:BinOp)(a:IntKind)(b c:K):Ae F:=
 match d with
 | .and=>A (.i a (a.wrap (BitVec.ofInt a.bits b&&&BitVec.ofInt a.bits c).toNat))
 | .or=>A (.i a (a.wrap (BitVec.ofInt a.bits b|||BitVec.ofInt a.bits c).toNat))
 | .xor=>A (.i a (a.wrap (BitVec.ofInt a.bits b^^^BitVec.ofInt a.bits c).toNat))
 |_=>O
def Wg(a:IntKind)(b c:K):F:=.i a (Iu a (aB b c))
def j7(a:IntKind)(b c:K):F:=.i a (Iu a (QG b c))
def ia(a:IntKind)(b c:K):F:=.i a (Iu a (b*c))
def eV(_:IntKind)(a b:K):F:=.b (Ju a b)
def ih(_:IntKind)(a b:K):F:=.b (PG (Ju a b))
def hU(_:IntKind)(a b:K):F:=.b (PG (LD b a))
def hC(_:IntKind)(a b:K):F:=.b (LD a b)
def gE(_:IntKind)(a b:K):F:=.b (PG (LD a b))
def gq(_:IntKind)(a b:K):F:=.b (LD b a)
def vv(a:IntKind)(c b:K):Ae F:=Aj (Ju b 0) O (A (.i a (Iu a (c.tdiv b))))
def ww(b:IntKind)(c a:K):Ae F:=Aj (Ju a 0) O (A (.i b (c.tmod a)))
def YY(d:BinOp)(a:IntKind)(b c:K):Ae F:=
 match d with
 | .add=>A (Wg a b c)
 | .sub=>A (j7 a b c)
 | .mul=>A (ia a b c)
 | .quo=>vv a b c
 | .rem=>ww a b c
 | .eql=>A (eV a b c)
 | .neq=>A (ih a b c)
 | .lss=>A (hU a b c)
 | .leq=>A (hC a b c)
 | .gtr=>A (gE a b c)
 | .geq=>A (gq a b c)
 |d=>lL d a b c
def YZ(c:BinOp)(a b:C D):Ae F:=
 match c with
 | .eql=>A (.b (D2 a b))
 | .neq=>A (.b (!(D2 a b)))
 |_=>O
def HH(c:D):F->F->Ae Ah
 | .i e a,.i d b=>Aj (AW c 0) (Aj (Hu e d) (A (Ju a b)) O) O
 | .b a,.b b=>Aj (AW c 1) (A (a==b)) O
 | .s a,.s b=>Aj (AW c 2) (A (D2 a b)) O
 |_,_=>O
def JO(b:Ae Ah)(a:Ae Ah):Ae Ah:=match b with
 |some L=>a
 |some Aa=>match a with
  |some _=>A Aa
  |none=>O
 |none=>O
def Gp(g:C D):C F->C F->Ae Ah:=
 @List.rec D (λ_=>C F->C F->Ae Ah)
  (λa b=> @List.rec F (λ_=>Ae Ah) (@List.rec F (λ_=>Ae Ah) (A L) (λ_ _ _=>O) b) (λ_ _ _=>O) a)
  (λf _ e a b=> @List.rec F (λ_=>Ae Ah) O (λc h _=> @List.rec F (λ_=>Ae Ah) O (λd i _=>JO (HH f c d) (e h i)) b) a) g
def Jr(c:Ah)(d:C D):F->F->Ae Ah
 | .S a,.S b=>Aj c (Gp d a b) O
 |a,b=>Aj c O (Gp d [a] [b])
def DR:Ae BV->Ae (D×C F)
 |some (.I b a)=>A (b,a)
 |some (.rc b a)=>A (b,a)
 |_=>O
def Ul:Ae BV->Ae (D×C F)
 |some (.I b a)=>A (b,a)
 |_=>O
def HQ:Ae BV->Ae (C Bx×D)
 |some (.Bn b a)=>A (b,a)
 |some (.rm b a)=>A (b,a)
 |_=>O
def Ox:Ae BV->Ae (C Bx×D)
 |some (.Bn b a)=>A (b,a)
 |_=>O
def G.I(b:G)(a:T):Ae (D×C F):=DR (b.M a)
def G.AL(f:G)(e:T)(d a:D):Ae (C F):=match f.I e with
 |some (c,b)=>Aj (BX (d+a) c) (A (Aj (AW a c) b (V0 a (WB d b)))) O
 |none=>O
def G.Ap(b:G)(a:T)(d:D):Ae F:=match b.I a with
 |some (_,c)=>Vn d c
 |none=>O
def G.Ep(c:G)(b:T)(e d:D)(f:C F):Ae G:=match Ul (c.M b)with
 |some (a,g)=>Aj (BX (e+d) a) (A (c.set b (.I a (Aj (AW d a) f (Dg e f g))))) O
 |none=>O
def Qo(f:C (D×D)):C F->C F->Ae (C F):=
 @List.rec (D×D) (λ_=>C F->C F->Ae (C F)) (λb a=> @List.casesOn F (λ_=>Ae (C F)) b (A a) (λ_ _=>O))
  (λc _ e b a=> @List.casesOn F (λ_=>Ae (C F)) b O (λd g=>Aj (AW (Bq d.I) c.2) (e g (Dg c.1 d.I a)) O)) f
def TH(e:D)(d:C F):Ae (C F):=
 @List.rec F (λ_=>Ae (C F)) (A []) (λa _ c=>Aj (AW (Bq a.I) e) (match c with
  |some b=>A (Es a.I b)
  |none=>O) O) d
def F7(h:G)(b a:D):F->Ae (C F)
 | .Z e j i _ k=>Aj (AW k b&&BX a i) (Aj (AW a 0) (A []) (h.AL e j (a*b))) O
 | .sn=>Aj (AW a 0) (A []) O
 | .s d=>Aj (AW b 1&&BX a d.l) (A (V0 a (d.m λf=>.i .u8 (Int.ofNat f)))) O
 | .CV c=>Aj (BX a c.l&&(c.all λg=>AW g.l b)) (A ((c.t a).flatten)) O
 |_=>O
def Ii:F->Ae D
 | .Z _ _ c _ _=>A c
 | .sn=>A 0
 | .s b=>A b.l
 | .CV a=>A a.l
 |_=>O
def Gs(c:Ah)(h:C D)(g:F)(e:C Bx):D->Ae (Ae (D×Bx)):=
 @List.rec Bx (λ_=>D->Ae (Ae (D×Bx))) (λ_=>A O)
  (λa _ f b=> @Option.casesOn Ah (λ_=>Ae (Ae (D×Bx))) (Jr c h g a.He) O (λd=>Aj d (A (A (b,a))) (f (b+1)))) e
def UN(a:Ah)(b:C D):F->Ah
 | .S c=>Aj a (AW (Bq c) b.l) Aa
 |_=>PG a
def Lw(a:Ah)(c:C D)(b:F)(d:C Bx):Ae (Ae (D×Bx)):=Aj (UN a c b) (Gs a c b d 0) O
def Ug(c d:D)(f e:Ah)(g:C F):Ae (D×D):=
 match f,e,g with
 |false,Aa,[]=>A (0,c)
 |true,Aa,[.i _ (.ofNat b)]=>Aj (BX b c) (A (b,c)) O
 |false,L,[.i _ (.ofNat a)]=>Aj (BX a d) (A (0,a)) O
 |true,L,[.i _ (.ofNat b),.i _ (.ofNat a)]=>Aj (BX a d&&BX b a) (A (b,a)) O
 |_,_,_=>O
def Hc:Rd->Ah
 | .ld _| .Cq| .XE| .Hw .. =>L
 |_=>Aa
def e5:C F->Ae F
 |[a]=>A a
 |_=>O
def DY:C F->Ae F
 |[.b a,b,c]=>A (Aj a b c)
 |_=>O
def Cb(d:C F)(b:C (D×D))(c:C F):Ae F:=match Qo b c d with
 |some a=>A (.S a)
 |none=>O
def A9(b:D)(d:G):C F->Ae F
 |[.p c e]=>match d.AL c e b with
  |some a=>A (.S a)
  |none=>O
 |[.pi a]=>Aj (BX b a.l) (A (.S (a.t b))) O
 |_=>O
def AM(b:G):C F->Ae F
 |[.p a d]=>b.Ap a d
 |[.pi c]=>c[0]?
 |_=>O
def bu:F->Ae F
 | .pn| .KZ| .fn=>O
 |a=>A a
def Dr:C F->Ae F
 |[a]=>bu a
 |_=>O
def A6(a:BinOp):C F->Ae F
 |[.i b c,.i e d]=>match a with
  | .shl| .shr=>cr a b c d
  |a=>Aj (Hu b e) (YY a b c d) O
 |_=>O
def FS(a:BinOp):C F->Ae F
 |[.s b,.s c]=>YZ a b c
 |_=>O
def Fi(c:Ah):C F->Ae F
 |[.b a,.b b]=>A (.b (Aj c (a !=b) (a==b)))
 |_=>O
def FT(c:Ah)(b:C D):C F->Ae F
 |[.S d,.S e]=>match Gp b d e with
  |some a=>A (.b (Aj c (!a) a))
  |none=>O
 |_=>O
def Gq(a:Ah):C F->Ae F
 |[.pn,.pn]=>A (.b (!a))
 |[.p _ _,.pn]=>A (.b a)
 |[.pn,.p _ _]=>A (.b a)
 |[.pi _,.pn]=>A (.b a)
 |[.pn,.pi _]=>A (.b a)
 |_=>O
def HI(a:Ah):C F->Ae F
 |[.sn,.sn]=>A (.b (!a))
 |[.Z ..,.sn]=>A (.b a)
 |[.sn,.Z ..]=>A (.b a)
 |[.CV (_::_),.sn]=>A (.b a)
 |[.sn,.CV (_::_)]=>A (.b a)
 |_=>O
def H_:C F->Ae F
 |[.i a b]=>A (.i a (Iu a (QG 0 b)))
 |_=>O
def DE:C F->Ae F
 |[.b a]=>A (.b (!a))
 |_=>O
def Ho(a:IntKind):C F->Ae F
 |[.i _ b]=>A (.i a (Iu a b))
 |_=>O
def Bl(a:D):C F->Ae F
 |[.p b d]=>A (.p b (d+a))
 |[.pi c]=>A (.pi (c.d a))
 |_=>O
def CX(b:D):C F->Ae F
 |[.S a]=>Vn b a
 |_=>O
def AR(b:D):C F->Ae F
 |[.Z d g f _ h,.i _ (.ofNat a)]=>Aj (Nat.blt a f&&AW h b) (A (.p d (g+a*b))) O
 |[.CV e,.i _ (.ofNat a)]=>match e[a]?with
  |some c=>Aj (AW c.l b) (A (.pi c)) O
  |none=>O
 |_=>O
def Hq:C F->Ae F
 |[.s c,.i _ (.ofNat b)]=>match c[b]?with
  |some a=>A (.i .u8 (Int.ofNat a))
  |none=>O
 |_=>O
def Mb(a b:D):D:=match a with
 |0=>0
 |a+1=>a-b+1
def O7(b a:D):D:=match a with
 |0=>b
 |a+1=>a
def GF(d:D)(g f:Ah):C F->Ae F
 | .Z j l i h m::b=>Aj (AW m d) (match Ug i (O7 i h) g f b with
  |some (a,e)=>A (.Z j (l+a*d) (e-a) (Mb h a) d)
  |none=>O) O
 | .sn::b=>match Ug 0 0 g f b with
  |some _=>A .sn
  |none=>O
 | .CV c::b=>Aj (c.all λk=>AW k.l d) (match Ug c.l c.l g f b with
  |some (a,e)=>A (.CV ((c.t e).d a))
  |none=>O) O
 |_=>O
def DX:C F->Ae F
 |[.Z _ _ b _ _]=>A (.i .n (Int.ofNat b))
 |[.sn]=>A (.i .n 0)
 |[.CV a]=>A (.i .n (Int.ofNat a.l))
 |_=>O
def HJ:C F->Ae F
 |[.s a]=>A (.i .n (Int.ofNat a.l))
 |_=>O
def H8(b:G):C F->Ae F
 |[.mn]=>A (.i .n 0)
 |[.m d]=>match HQ (b.M d)with
  |some (a,_)=>A (.i .n (Int.ofNat a.l))
  |none=>O
 |[.mi c _]=>A (.i .n (Int.ofNat c.l))
 |_=>O
def H7:C F->Ae F
 |[.sn]=>A (.i .n 0)
 |[.Z _ _ _ (a+1) _]=>A (.i .n (Int.ofNat a))
 |_=>O
def CO(a:D):C F->Ae F
 |[.AB b]=>Vn a b
 |_=>O
def Js(a:D):C F->Ae F
 |[b]=>A (.ic a b)
 |_=>O
def Rf(b:IntKind):K->C F->Ae F
 |a,[]=>A (.i b a)
 |a,.i d c::e=>Aj (Hu b d) (Rf b (Aj (LD c a) a c) e) O
 |_,_=>O
def H9:C F->Ae F
 | .i a c::b=>Rf a c b
 |_=>O
def Qj:C F->C F->C Bx
 |a::b,c::d=>⟨a,c,0⟩::Qj b d
 |_,_=>[]
def O_(b:G):F->Ae (C Bx)
 | .mn=>A []
 | .m d=>match HQ (b.M d)with
  |some (a,_)=>A a
  |none=>O
 | .mi c e=>A (Qj c e)
 |_=>O
def EP(d:Ah)(h:C D)(c:F)(b:Ah)(f:G):C F->Ae F
 |[i,g]=>match O_ f i with
  |some e=>match Lw d h g e with
   |some (A (_,a))=>A (Aj b (.AB [a.Eo,.b L]) a.Eo)
   |some O=>A (Aj b (.AB [c,.b Aa]) c)
   |none=>O
  |none=>O
 |_=>O
def Rd.ev(p:Rd)(a:C F)(d:G):Ae F:=
 match p with
 | .mv=>e5 a
 | .pick=>DY a
 | .build c o=>Cb c o a
 | .ld b=>A9 b d a
 | .Cq=>AM d a
 | .bt=>Dr a
 | .YX g=>A6 g a
 | .Y1 g=>FS g a
 | .eU b=>Fi b a
 | .eQ b e=>FT b e a
 | .eX b=>Gq b a
 | .eY b=>HI b a
 | .neg=>H_ a
 | .iq=>DE a
 | .eu l=>Ho l a
 | .fa f=>Bl f a
 | .fs f=>CX f a
 | .ia c=>AR c a
 | .g2=>Hq a
 | .M0 c m j=>GF c m j a
 | .Re=>DX a
 | .a3=>HJ a
 | .XE=>H8 d a
 | .Za=>H7 a
 | .ext k=>CO k a
 | .Vf i=>A (.f i a)
 | .h9 q=>Js q a
 | .max=>H9 a
 | .Hw h e c n=>EP h e c n d a
def F_(c:C F)(a:D):C F:= @Nat.rec (λ_=>C F) [] (λ_ b=>Es c b) a
def k7(b:T):C F->Ae (BV×F)
 |[a]=>A (.I (Bq a.I) a.I,.p b 0)
 |_=>O
def Dq(a b:D)(d:T)(c:C F):Ae (BV×F):=Aj (AW (Bq c) a) (match TH b c with
 |some e=>A (.I (a*b) e,.Z d 0 a (a+1) b)
 |none=>O) O
def Gd(f:C F)(c d:D)(e:T):C F->Ae (BV×F)
 |[.i _ (.ofNat b),.i _ (.ofNat a)]=>Aj (BX b a&&BX (a*d) GA) (A (.I (a*c) (F_ f a),.Z e 0 b (a+1) c)) O
 |_=>O
def Al.ev(e:Al)(c:C F)(a:T):Ae (BV×F):=
 match e with
 | .alloc d=>A (.I (Bq d) d,.p a 0)
 | .box=>k7 a c
 | .Ga g b=>Dq g b a c
 | .bm h b f=>Gd h b f a c
 | .bk=>A (.Bn [] 0,.m a)
def Xo:Ae BV->Ah
 |some (.I _ _)=>L
 |_=>Aa
def SC(d:G)(e:T)(h a f c b:D)(i g:C F):Ae (F×G):=
 match f with
 |0=>Aj (Xo (d.M e)) (A (.Z d.next 0 (a+b) 0 c,(d.GG e).V (.I ((a+b)*c) (Es i g)))) O
 |f+1=>Aj (BX (a+b) f)
  (match d.Ep e (h+a*c) (b*c) g with
   |some j=>A (.Z e h (a+b) (f+1) c,j)
   |none=>O)
  (A (.Z d.next 0 (a+b) 0 c,d.V (.I ((a+b)*c) (Es i g))))
def Jo(b:G)(d g:D)(l:F)(a:D)(i:C F):Ae (F×G):=
 match l with
 | .sn=>Aj (AW a 0) (A (.sn,b)) (Aj (BX (a*g) GA) (A (.Z b.next 0 a 0 d,b.V (.I (a*d) i))) O)
 | .Z e f c h j=>Aj (AW j d) (Aj (AW a 0) (A (.Z e f c h j,b))
  (Aj (BX ((c+a)*g) GA)
   (match(Aj (AW c 0) (A []) (b.AL e f (c*d)))with
    |none=>O
    |some k=>SC b e f c h d a k i)
   O)) O
 |_=>O
def Nr(c:Bx->Bx)(b:C Bx):D->C Bx:=
 @List.rec Bx (λ_=>D->C Bx) (λ_=>[]) (λa g d f=> @Nat.casesOn (λ_=>C Bx) f (c a::g) (λe=>a::d e)) b
def VM(b:F)(a:Bx):Bx:=⟨a.He,b,a.MB⟩
def AX(b:D)(d:G):C F->Ae (F×G)
 |[.p c f,a]=>Aj (Aj (AW (Bq a.I) b) (BU a.I) Aa) (match d.Ep c f b a.I with
  |some e=>A (AC,e)
  |none=>O) O
 |_=>O
def DN(d f:D)(a:G):C F->Ae (F×G)
 |[g,e]=>match Ii e with
  |some b=>match F7 a d b e with
   |some c=>Aj (BU c) (Jo a d f g b c) O
   |none=>O
  |none=>O
 |_=>O
def Hm(c:C F)(f b:D)(d:G):C F->Ae (F×G)
 |[e,.i _ (.ofNat a)]=>Aj (Aj (BX (a*b) GA) (BU (F_ c a)) Aa) (Jo d f b e a (F_ c a)) O
 |_=>O
def Qi(a:G)(c b:D)(f:C F):F->Ae (F×G)
 | .Z d g _ _ h=>Aj (AW h c) (Aj (AW b 0) (A (.i .n 0,a)) (match a.Ep d g (b*c) f with
  |some e=>A (.i .n (Int.ofNat b),e)
  |none=>O)) O
 | .sn=>A (.i .n 0,a)
 |_=>O
def GD(f:D)(b:G):C F->Ae (F×G)
 |[a,g]=>match Ii a,Ii g with
  |some c,A d=>match F7 b f (min d c) g with
   |some e=>Aj (BU e) (Qi b f (min d c) e a) O
   |none=>O
  |_,_=>O
 |_=>O
def G_(g:Ah)(i:C D)(c:G):C F->Ae (F×G)
 |[.m d,e,f]=>match Ox (c.M d)with
  |some (b,a)=>match Lw g i e b with
   |some (A (h,_))=>A (AC,c.set d (.Bn (Nr (VM f) b h) a))
   |some O=>A (AC,c.set d (.Bn (b++[⟨e,f,a⟩]) (a+1)))
   |none=>O
  |none=>O
 |_=>O
def G9(h:Ah)(i:C D)(g:F)(b:G):C F->Ae (F×G)
 |[.m f,e]=>match Ox (b.M f)with
  |some (d,a)=>match Lw h i e d with
   |some (A (_,c))=>A (.AB [c.Eo,.i .n (Int.ofNat c.MB)],b)
   |some O=>A (.AB [g,.i .n (Int.ofNat a)],b.set f (.Bn (d++[⟨e,g,a⟩]) (a+1)))
   |none=>O
  |none=>O
 |_=>O
def O5(e:D)(c:C Bx):D->Ae D:=
 @List.rec Bx (λ_=>D->Ae D) (λ_=>O) (λb _ d a=>Aj (AW b.MB e) (A a) (d (a+1))) c
def Hn(b:G):C F->Ae (F×G)
 |[.m c,.i _ (.ofNat d),g]=>match Ox (b.M c)with
  |some (a,e)=>match O5 d a 0 with
   |some f=>A (AC,b.set c (.Bn (Nr (VM g) a f) e))
   |none=>O
  |none=>O
 |_=>O
def Ef.ev(h:Ef)(b:C F)(a:G):Ae (F×G):=
 match h with
 | .st i=>AX i a b
 | .Es c e=>DN c e a b
 | .YK g c e=>Hm g c e a b
 | .Zh c=>GD c a b
 | .BW d f=>G_ d f a b
 | .bj d f g=>G9 d f g a b
 | .ZC=>Hn a b
inductive Cy where
 |CC (b:PT F) (a:G)
 |Dd (b:PT F) (a:G)
 |Ck (c:D) (b:PT F) (a:G)
 |Cd
def A1(a:Ah):F->Ah
 | .b b=>b==a
 |_=>Aa
def G5(a:Ae (T×Ah))(d:Fm):Ah:=
 match a with
 |none=>L
 |some (b,c)=>A1 c (Fm.at d b)
def AU(d:Fm)(a:C Od):C F:= @List.rec Od (λ_=>C F) [] (λc _ b=>c.ev d::b) a
abbrev Bd:=T->C F->G->Ae (F×G)
def HL(b:Rd)(d:C F)(a:G):Ae (F×G):=match b.ev d a with
 |some c=>A (c,a)
 |none=>O
def DT(b:Al)(e:C F)(a:G):Ae (F×G):=match b.ev e a.next with
 |some (d,c)=>A (c,a.V d)
 |none=>O
def C8(b:Bd)(c:F)(f:C F)(e:G):Ae (F×G):=match c with
 | .f d a=>b d (f++a) e
 |_=>O
def CT(b:G->F->Ae (F×G)):G->C F->Ae (C F×G)
 |a,[]=>A ([],a)
 |a,g::h=>match b a g with
  |none=>O
  |some (e,c)=>match CT b c h with
   |none=>O
   |some (f,d)=>A (e::f,d)
def Iy(a:D):D->C F->C (C F)
 |0,_=>[]
 |c+1,b=>b.t a::Iy a c (b.d a)
def Df:D->G->F->Ae (F×G)
 |0,_,_=>O
 |e+1,a,t=>match t with
  | .p f i=>match DR (a.M f)with
   |some (h,c)=>match CT (Df e) a c with
    |some (d,b)=>A (.pi (d.d i),b.set f (.rc h c))
    |none=>O
   |none=>O
  | .Z f i g _ l=>Aj (AW g 0) (A (.CV [],a)) (match DR (a.M f)with
   |some (h,c)=>Aj (BX (i+g*l) h) (match CT (Df e) a ((c.d i).t (g*l))with
    |some (d,b)=>A (.CV (Iy l g d),b.set f (.rc h c))
    |none=>O) O
   |none=>O)
  | .m m=>match HQ (a.M m)with
   |some (j,n)=>match CT (Df e) a (j.m (·.He))with
    |some (r,o)=>match CT (Df e) o (j.m (·.Eo))with
     |some (v,p)=>A (.mi r v,p.set m (.rm j n))
     |none=>O
    |none=>O
   |none=>O
  | .sn=>A (.CV [],a)
  | .mn=>A (.mi [] [],a)
  | .S c=>match CT (Df e) a c with
   |some (d,b)=>A (.S d,b)
   |none=>O
  | .AB c=>match CT (Df e) a c with
   |some (d,b)=>A (.AB d,b)
   |none=>O
  | .f q c=>match CT (Df e) a c with
   |some (d,b)=>A (.f q d,b)
   |none=>O
  | .ic s k=>match Df e a k with
   |some (w,b)=>A (.ic s w,b)
   |none=>O
  |k=>A (k,a)
def Dp(a:G)(b:F):Ae (F×G):=Df 40 a b
def FV(a:G)(b:C F):Ae (C F×G):=CT Dp a b
def D8(e:Bd)(h:Io)(b:Fm)(c:G):Ae (F×G):=
 match h with
 | .rd i a=>HL i (AU b a) c
 | .al d a=>DT d (AU b a) c
 | .ef f a=>f.ev (AU b a) c
 | .call g a=>C8 e (g.ev b) (AU b a) c
 | .CS=>O
def iy(c:Fm->G->Cy)(e:Fm)(a:Ae T):Ae (F×G)->Cy
 |some (d,b)=>c (DI e a d) b
 |none=>.Cd
def HK(d:Bd):C Cx->Fm->G->Cy
 |[],a,b=>.CC a b
 |c::e,a,b=>Aj (G5 c.DZ a) (iy (HK d e) a c.De (D8 d c.op a b)) (HK d e (DI a c.De AC) b)
structure Ev where
 JB:D
 r:Rd
 xs:C F
 v:F
def Bv(b:Rd)(e:C F)(a:G)(d:F):Ah:=match b.ev e a with
 |some c=>Ud c d
 |none=>Aa
def C0(b:D)(c:G)(d:C Ev):Ah:=
 @List.rec Ev (λ_=>Ah) L (λa _ e=>Aj (Aj (Nat.testBit b a.JB) L (Bv a.r a.xs c a.v)) e Aa) d
def DU(b:D)(e:Rd)(g:C F)(f:F)(d:C (D×G)):Ah:=
 @List.rec (D×G) (λ_=>Ah) L (λa _ c=>Aj (Aj (Nat.testBit b a.1) L (Bv e g a.2 f)) c Aa) d
def Ac5:Io->Ah
 | .rd a _=>Hc a
 |_=>Aa
def Ht:Io->Ah
 | .ef _ _| .call _ _| .CS=>L
 |_=>Aa
structure Kj where
 Jv:C Ev
 BO:C (D×G)
def N0(f e:D)(b:Rd)(d:C F)(c:F)(a:Kj):Ae Kj:=
 Aj (Hc b) (Aj (DU e b d c a.BO) (A ⟨⟨f,b,d,c⟩::a.Jv,a.BO⟩) O) (A a)
def I4(c b:D)(f:Io)(j:Fm)(d:G)(h:F)(e:G)(a:Kj):Ae Kj:=
 match f with
 | .rd g i=>N0 c b g (AU j i) h a
 | .al _ _=>A a
 |_=>Aj (C0 b e a.Jv) (A ⟨a.Jv,(c,d)::a.BO⟩) O
def HG(h:Kj->Fm->G->Cy)(i:D)(a:Cx)(e:Kj)(d:Fm)(g:G):Ae (F×G)->Cy
 |some (c,b)=>match I4 i a.bits a.op d g c b e with
  |some f=>h f (DI d a.De c) b
  |none=>.Cd
 |none=>.Cd
def E6(g:Bd)(h:C Cx):D->Kj->Fm->G->Cy:=
 @List.rec Cx (λ_=>D->Kj->Fm->G->Cy) (λ_ _ a b=>.CC a b)
  (λc _ f d e a b=>Aj (G5 c.DZ a) (HG (f (d+1)) d c e a b (D8 g c.op a b)) (f (d+1) e (DI a c.De AC) b)) h
def jp(c:Fm)(d:G):FP->Ae F
 | .t b=>A (Fm.at c b)
 | .B0 a b=>A9 b d [Fm.at c a]
 | .M9 a=>AM d [Fm.at c a]
def Qh(c:Ae F)(d:Ae (C F)):Ae (C F):=match c with
 |some a=>match d with
  |some b=>A (a::b)
  |none=>O
 |none=>O
def KG(e:Fm)(a:G)(c:C FP):Ae (C F):= @List.rec FP (λ_=>Ae (C F)) (A []) (λd _ b=>Qh (jp e a d) b) c
def Rq:C F->F
 |[a]=>a
 |b=>.AB b
def Jt(d:C F):T->Fm->Fm:=
 @List.rec F (λ_=>T->Fm->Fm) (λ_ a=>a) (λe _ c b a=>c b.FI (PT.AJ a b (A e))) d
def U2(d:C FP):Cy->Ae (F×G)
 | .CC c a=>match KG c a d with
  |some b=>A (Rq b,a)
  |none=>O
 | .Dd c a=>match KG c a d with
  |some b=>A (Rq b,a)
  |none=>O
 |_=>O
def FM(b:Fm->G->Cy):Cy->Cy
 | .CC d a=>b d a
 |c=>c
def KV(d:D):Cy->Cy
 | .Ck b c a=>Aj (AW b d) (.CC c a) (.Ck b c a)
 |e=>e
def Jq(a b:Cy):F->Cy
 | .b L=>a
 | .b Aa=>b
 |_=>.Cd
def HO(a:Fm->G->Cy)(c:D):Fm->G->Cy:= @Nat.rec (λ_=>Fm->G->Cy) (λ_ _=>.Cd) (λ_ d e b=>FM d (a e b)) c
def BM(d:D)(c:Bd):G7->Fm->G->Cy
 | .skip,a,b=>.CC a b
 | .HT h,a,b=>HK c h a b
 | .Hl h,a,b=>E6 c h 0 ⟨[],[]⟩ a b
 | .D2 f e,a,b=>FM (BM d c e) (BM d c f a b)
 | .GB i f e,a,b=>Jq (BM d c f a b) (BM d c e a b) (i.ev a)
 | .Bc g e,a,b=>KV g (BM d c e a b)
 | .Dt e,a,b=>HO (BM d c e) d a b
 | .Ck g,a,b=>.Ck g a b
 | .Dd,a,b=>.Dd a b
 | .CS,_,_=>.Cd
def MC(b:D)(d:Bd)(a:Gk)(c:C F)(e:G):Ae (F×G):=U2 a.GR (BM b d a.Ln (Jt c .h .nil) e)
def Sa(b:T->Ae Gk)(a:D)(h:D):Bd:=
 @Nat.rec (λ_=>Bd) (λ_ _ _=>O) (λ_ d e c g=>match b e with
  |none=>O
  |some f=>MC a d f c g) h
mutual
def Tm:D->Ba->Ae F
 |0,_=>O
 |a+1,e=>match e with
  | .bool b=>A (.b b)
  | .int i b=>A (.i i b)
  | .string j=>A (.s (j.data.l.m UInt8.toNat))
  | .pointer O=>A .pn
  | .slice O 0 0=>A .sn
  | .map O=>A .mn
  | .nilFunc=>A .fn
  | .nilIface=>A .KZ
  | .func (.func f) h g=>if f<1000000/\h.z=0/\g.z=0 then A (.f (pos f) [])else O
  | .agg c=>match Rn a c.l with
   |some d=>A (.S d)
   |none=>O
  | .tuple c=>match Rn a c.l with
   |some d=>A (.AB d)
   |none=>O
  |_=>O
def Rn:D->C Ba->Ae (C F)
 |0,_=>O
 |_+1,[]=>A []
 |a+1,e::k=>match Tm a e,Rn a k with
  |some b,A l=>A (b::l)
  |_,_=>O
end
def od:Operand->Ae Od
 | .tmp b=>if Nat.blt b 1000000 then A (.t (pos b))else O
 | .const c=>match Tm 400 c with
  |some d=>A (.c d)
  |none=>O
 | .global _=>O
 | .func a=>if Nat.blt a 1000000 then A (.c (.f (pos a) []))else O
def Dz:C Operand->Ae (C Od)
 |[]=>A []
 |d::c=>match od d,Dz c with
  |some a,A b=>A (a::b)
  |_,_=>O
section
variable(t:Program)
def sz(b:BQ):Ae D:=match t.info? b with
 |some a=>A a.size
 |none=>O
def O6(b:BQ):Ae D:=match t.info? b with
 |some a=>A a.bytes
 |none=>O
def KR(b:BQ):Ae F:=match t.info? b with
 |some a=>match a.zero with
  |some c=>Tm 400 c
  |none=>O
 |none=>O
def D0(a:BQ):Ah:=match t.underlying a with
 |some (.struct _)|some (.array _ _)=>L
 |_=>Aa
def Sg(t:Program):D->C Field->Ah
 |_,[]=>L
 |b,a::d=>match sz t a.type with
  |some c=>AW a.offset b&&Sg t (b+c) d
  |none=>Aa
def SL(b:BQ->Ae (C D)):C Field->Ae (C D)
 |[]=>A []
 |a::c=>match b a.type,SL b c with
  |some d,A e=>if a.name != "_" then A (d++e)else O
  |_,_=>O
def If:D->BQ->Ae (C D)
 |0,_=>O
 |d+1,a=>match t.underlying a with
  |some (.int _)=>if sz t a==A 1 then A [0]else O
  |some .bool=>if sz t a==A 1 then A [1]else O
  |some .string=>if sz t a==A 1 then A [2]else O
  |some (.struct b)=>if !t.stoodInHeld a&&Sg t 0 b.l then(match SL (If d) b.l with
   |some c=>if sz t a==A c.l then A c else O
   |none=>O)else O
  |_=>O
def LZ(b:Rd)(c:Operand):Ae Io:=match od c with
 |some a=>A (.rd b [a])
 |none=>O
def HV(b:Rd)(c:C Operand):Ae Io:=match Dz c with
 |some a=>A (.rd b a)
 |none=>O
def T4(b:Al)(c:C Operand):Ae Io:=match Dz c with
 |some a=>A (.al b a)
 |none=>O
def N1(b:Ef)(c:C Operand):Ae Io:=match Dz c with
 |some a=>A (.ef b a)
 |none=>O
def X4(b:Bg Field):C (D×Operand)->Ae (C (D×D))
 |[]=>A []
 |(c,_)::f=>match b[c]?with
  |some a=>match sz t a.type,X4 b f with
   |some e,A d=>A ((a.offset,e)::d)
   |_,_=>O
  |none=>O
def OG(a:D)(c:C (D×Operand)):C (D×D):=c.m λb=>(b.1*a,a)
def SK:D->C (D×Operand)->Ah
 |_,[]=>L
 |a,b::c=>AW b.1 a&&SK (a+1) c
def GZ(a:D):C (D×D)->Ah
 |[]=>L
 |b::c=>BX (b.1+b.2) a&&GZ a c
def Oj(a:BQ):Ae (Ah×C D):=match If t 8 a with
 |some b=>A (D0 t a,b)
 |none=>O
def Qk(d:BQ)(a:Ah)(b c:Operand):Ae Io:=
 match t.underlying d with
 |some (.int _)=>HV (.YX (if a then .neq else .eql)) [b,c]
 |some .string=>HV (.Y1 (if a then .neq else .eql)) [b,c]
 |some .bool=>HV (.eU a) [b,c]
 |some (.pointer _)=>HV (.eX a) [b,c]
 |some (.slice _)=>HV (.eY a) [b,c]
 |some (.struct _)=>match If t 8 d with
  |some e=>if !t.eqGuardType t.depth d then HV (.eQ a e) [b,c]else O
  |none=>O
 |_=>O
def PJ(b a:D):Ah:=BX 1 b&&BX 1 a&&BX a 100000
def Sd(a:Call)(_type:BQ):Ae Io:=
 match a.callee with
 | .value h=>match od h,Dz a.args.l with
  |some i,A j=>A (.call i j)
  |_,_=>O
 | .invoke _ _=>O
 | .builtin g=>
  match g,a.argTypes[0]?with
  | .len,A b=>match t.underlying b with
   |some .string=>HV .a3 a.args.l
   |some (.slice _)=>HV .Re a.args.l
   |some (.map _ _)=>HV .XE a.args.l
   |_=>O
  | .cap,A b=>match t.underlying b with
   |some (.slice _)=>HV .Za a.args.l
   |_=>O
  | .max,A b=>match t.underlying b with
   |some (.int _)=>HV .max a.args.l
   |_=>O
  | .append,A b=>match t.underlying b with
   |some (.slice d)=>match sz t d,O6 t d,KR t d with
    |some c,A e,A f=>if PJ c e&&AW (Bq f.I) c then
     (match a.argTypes[1]?with
      |none=>O
      |some k=>match t.underlying k with
       |some (.int _)=>N1 (.YK f.I c e) a.args.l
       |some _=>N1 (.Es c e) a.args.l
       |none=>O)else O
    |_,_,_=>O
   |_=>O
  | .copy,A b=>match t.underlying b with
   |some (.slice d)=>match sz t d with
    |some c=>if BX 1 c then N1 (.Zh c) a.args.l else O
    |none=>O
   |_=>O
  |_,_=>O
def DS(G:Oper):Ae Io:=
 match G.op with
 | .move b| .assign b=>LZ .mv b
 | .pick q h I=>HV .pick [q,h,I]
 | .alloc c=>match KR t c with
  |some e=>A (.al (.alloc e.I) [])
  |none=>O
 | .box _ b=>T4 .box [b]
 | .build a n=>match KR t a,t.underlying a with
  |some (.S e),A (.struct i)=>match X4 t i n.l with
   |some H=>if i.l.all (λf=>(sz t f.type).isSome)&&GZ e.l H then HV (.build e H) (n.l.m (·.2))else O
   |none=>O
  |_,_=>O
 | .buildSlice a y n=>match t.underlying a with
  |some (.slice c)=>match sz t c,KR t c with
   |some d,A e=>if BX (y*d) 1000000&&AW (Bq e.I) d&&BX 1 d then
    (if SK 0 n.l&&AW n.z y then T4 (.Ga y d) (n.l.m (·.2))else O)else O
   |_,_=>O
  |_=>O
 | .insert a k j o| .mapUpdate a k j o=>match t.underlying a with
  |some (.map u _)=>match Oj t u with
   |some (p,s)=>N1 (.BW p s) [k,j,o]
   |none=>O
  |_=>O
 | .mapEntry a k j=>match t.underlying a with
  |some (.map u c)=>match KR t c,Oj t u with
   |some e,A (p,s)=>N1 (.bj p s e) [k,j]
   |_,_=>O
  |_=>O
 | .entryStore _ k v o=>N1 .ZC [k,v,o]
 | .load a h=>if D0 t a then(match sz t a with
  |some l=>LZ (.ld l) h
  |none=>O)else(match t.underlying a with
  |some _=>LZ .Cq h
  |none=>O)
 | .store a h o=>match sz t a with
  |some l=>N1 (.st l) [h,o]
  |none=>O
 | .nilCheck b=>LZ .bt b
 | .binOp m a b w _=>match m with
  | .eql=>Qk t a Aa b w
  | .neq=>Qk t a L b w
  |m=>match t.underlying a with
   |some (.int _)=>HV (.YX m) [b,w]
   |some .string=>HV (.Y1 m) [b,w]
   |_=>O
 | .unOp m _ b=>match m with
  | .neg=>LZ .neg b
  | .not=>LZ .iq b
  |_=>O
 | .convert v M b=>match t.underlying v,t.underlying M with
  |some (.int _),A (.int j)=>LZ (.eu j) b
  |_,_=>O
 | .makeInterface a b=>match t.underlying a with
  |some (.interface _)=>O
  |some _=>if a<1000000 then LZ (.h9 a) b else O
  |none=>O
 | .makeFunc P N J=>match P with
  | .func f=>if f<1000000/\N.z=0 then HV (.Vf (pos f)) J.l else O
  |_=>O
 | .makeMap _ O=>A (.al .bk [])
 | .makeSlice a x q=>match t.underlying a with
  |some (.slice c)=>match sz t c,O6 t c,KR t c with
   |some d,A z,A e=>if PJ d z&&AW (Bq e.I) d then T4 (.bm e.I d z) [x,q]else O
   |_,_,_=>O
  |_=>O
 | .slice a b F E O=>
  match Dz ([b]++F.toList++E.toList)with
  |none=>O
  |some x=>match t.underlying a with
   |some (.slice c)=>match sz t c with
    |some d=>A (.rd (.M0 d F.isSome E.isSome) x)
    |none=>O
   |_=>O
 | .fieldAddr v b f=>match t.underlying v with
  |some (.struct i)=>match i[f]?with
   |some g=>match sz t g.type with
    |some l=>if AW l 0 then O else LZ (.fa g.offset) b
    |none=>O
   |none=>O
  |_=>O
 | .field a b f=>match t.underlying a with
  |some (.struct i)=>match i[f]?with
   |some g=>match sz t g.type with
    |some l=>if D0 t g.type then O else(match t.underlying g.type with
     |some _=>LZ (.fs g.offset) b
     |none=>O)
    |none=>O
   |none=>O
  |_=>O
 | .indexAddr a b r=>match t.underlying a with
  |some (.slice c)=>match sz t c with
   |some d=>if BX 1 d then HV (.ia d) [b,r]else O
   |none=>O
  |_=>O
 | .index a b r=>match t.underlying a with
  |some .string=>HV .g2 [b,r]
  |_=>O
 | .lookup a b r R=>match t.underlying a with
  |some (.map u c)=>match KR t c,Oj t u with
   |some e,A (p,s)=>HV (.Hw p s e R) [b,r]
   |_,_=>O
  |_=>O
 | .extract b Q=>LZ (.ext Q) b
 | .call q=>Sd t q G.type
 |_=>O
def SD(d:Bg Oper):Ae (D×Ah)->Ae (Ae (T×Ah))
 |none=>A O
 |some (b,e)=>match d[b]?with
  |some c=>match c.dst with
   |some a=>if Nat.blt a 1000000 then A (A (pos a,e))else O
   |none=>O
  |none=>O
def Lp(f:D)(c:Bg Oper):C Oper->C D->C Cx
 |a::g,b=>(match SD c a.guard with
  |some e=>(match a.dst with
   |some d=>if Nat.blt d f then{De:=A (pos d),op:=(DS t a).g .CS,DZ:=e,bits:=b.headD 0}else{De:=O,op:=.CS,DZ:=O,bits:=0}
   |none=>{De:=O,op:=(DS t a).g .CS,DZ:=e,bits:=b.headD 0})
  |none=>{De:=O,op:=.CS,DZ:=O,bits:=0})::Lp f c g b.tail
 |[],_=>[]
def Io.Dz:Io->C Od
 | .rd _ a| .al _ a| .ef _ a=>a
 | .call b a=>b::a
 | .CS=>[]
def Te:C Od->C T
 |[]=>[]
 | .t b::a=>b::Te a
 | .c _::a=>Te a
def hG:Ae (T×Ah)->C T
 |some (a,_)=>[a]
 |none=>[]
def SE(a:T):C T->Ah
 |[]=>Aa
 |b::c=>a==b||SE a c
def XF(a:Cx):C T:=hG a.DZ++Te a.op.Dz
def Nx(d:D)(c a:Cx):Ah:=
 Nat.testBit a.bits d||
  ((match c.De with
    |some b=> !(SE b (XF a))&& !(a.De==A b)
    |none=>L)&&
   (match a.De with
    |some b=> !(SE b (XF c))
    |none=>L)&&
   !(Ht c.op&&Ht a.op))
def XZ:C (D×Cx)->Cx->Ah
 |[],_=>L
 |(d,b)::c,a=>Nx d b a&&XZ c a
def T3(b:D)(c:Oper):Ah:=c.after.l.all λa=> !Region.binds .any a||Nat.blt a.on b
def Wj:C (D×Cx)->D->C (Oper×Cx)->Ah
 |_,_,[]=>L
 |c,a,b::d=>XZ c b.2&&T3 a b.1&&Wj ((a,b.2)::c) (a+1) d
def WA(b:C Oper)(a:C Cx):Ah:=Wj [] 0 (b.zip a)
def GW(a:D):Code->G7
 | .skip=>.skip
 | .region _ b Aa=>.HT (Lp t a b b.l (BG b.z 0))
 | .region _ b L=>
  let f:=Lp t a b b.l (Region.before b).l
  if WA b.l f then .Hl f else .CS
 | .seq d c=>.D2 (GW a d) (GW a c)
 | .cond g d c=>match od g with
  |some h=>.GB h (GW a d) (GW a c)
  |none=>.CS
 | .block e c=>.Bc e (GW a c)
 | .loop c=>.Dt (GW a c)
 | .exit e=>.Ck e
 | .ret=>.Dd
 |_=>.CS
def Se(t:Program):C ResultVar->Ae (C FP)
 |[]=>A []
 |e::f=>match(match e with
   | .tmp a=>if Nat.blt a 1000000 then A (.t (pos a))else O
   | .cell b a=>if Nat.blt b 1000000 then(if D0 t a then(match sz t a with
    |some d=>A (.B0 (pos b) d)
    |none=>O)else(match t.underlying a with
    |some _=>A (.M9 (pos b))
    |none=>O))else O:Ae FP),Se t f with
  |some g,A c=>A (g::c)
  |_,_=>O
def Iz(c:D):Ae Gk:=
 match t.funcs[c]?with
 |some a=>match a.body,Se t a.results.l with
  |some b,A d=>if a.ntmps<=100000/\a.name≠ "runtime.NumGoroutine" then A {nt:=a.ntmps,GR:=d,Ln:=GW t a.ntmps b}else O
  |_,_=>O
 |none=>O
end
inductive LC where
 |skip
 |HT (f:C Cx)
 |Hl (f:C Cx)
 |D2 (b a:LC)
 |Ni (e:D) (c:C T) (b a:LC)
 |GB (g:Od) (b a:LC)
 |Bc (d:D) (a:LC)
 |Dt (e:D) (c:C T) (a:LC)
 |Ck (d:D)
 |Dd
 |CS
def LC.erase:LC->G7
 | .skip=>.skip
 | .HT d=>.HT d
 | .Hl d=>.Hl d
 | .D2 b a=>.D2 b.erase a.erase
 | .Ni _ _ b a=>.D2 b.erase a.erase
 | .GB e b a=>.GB e b.erase a.erase
 | .Bc c a=>.Bc c a.erase
 | .Dt _ _ a=>.Dt a.erase
 | .Ck c=>.Ck c
 | .Dd=>.Dd
 | .CS=>.CS
inductive LI where
 |Do (a:LC) (e:Ae (D×C T))
 |Ca (c:D)
 |Dt (d:D) (b:C T) (a:LC)
def Rh(a:T):C T->Ah:= @List.rec T (λ_=>Ah) Aa (λb _ c=>Aj (T.eq a b) L c)
def Wf(b:T)(a:C T):C T:=Aj (Rh b a) a (b::a)
def PV(c d:C T):C T:= @List.rec T (λ_=>C T) d (λa _ b=>Wf a b) c
def O9(d:T)(c:C T):C T:= @List.rec T (λ_=>C T) [] (λa _ b=>Aj (T.eq d a) b (a::b)) c
def cC(c d:C T):Ah:= @List.rec T (λ_=>Ah) L (λa _ b=>Aj (Rh a d) b Aa) c
def Jy:C Od->C T
 |[]=>[]
 | .t b::a=>b::Jy a
 | .c _::a=>Jy a
def Xl:Ae (T×Ah)->C T
 |some (a,_)=>[a]
 |none=>[]
def Io.Rm:Io->C Od
 | .rd _ a| .al _ a| .ef _ a=>a
 | .call b a=>b::a
 | .CS=>[]
def a9(a:Cx)(b:C T):C T:=PV (Xl a.DZ) (PV (Jy a.op.Rm) (match a.De with|some c=>O9 c b|none=>b))
def U_:C Cx->C T->C T
 |[],a=>a
 |b::c,a=>a9 b (U_ c a)
def DB:C FP->C T
 |[]=>[]
 | .t c::a=>c::DB a
 | .B0 b _::a=>b::DB a
 | .M9 b::a=>b::DB a
def lv(c:C T):LC->C T->(D->C T)->C T
 | .skip,a,_=>a
 | .HT h,a,_=>U_ h a
 | .Hl h,a,_=>U_ h a
 | .D2 d e,a,b=>lv c d (lv c e a b) b
 | .Ni _ f d _,_,b=>lv c d f b
 | .GB j d e,a,b=>PV (Jy [j]) (PV (lv c d a b) (lv c e a b))
 | .Bc g e,a,b=>lv c e a (λi=>Aj (AW i g) a (b i))
 | .Dt _ f _,_,_=>f
 | .Ck g,_,b=>b g
 | .Dd,_,_=>c
 | .CS,_,_=>[]
def IL(c:C T):LC->C T->(D->C T)->Ah
 | .D2 f b,d,a=>Aj (IL c b d a) (IL c f (lv c b d a) a) Aa
 | .Ni _ e f b,d,a=>Aj (cC (lv c b d a) e) (Aj (IL c b d a) (IL c f e a) Aa) Aa
 | .GB _ f b,d,a=>Aj (IL c f d a) (IL c b d a) Aa
 | .Bc h b,d,a=>IL c b d (λg=>Aj (AW g h) d (a g))
 | .Dt _ e b,_,a=>Aj (cC (lv c b e a) e) (IL c b e a) Aa
 |_,_,_=>L
structure Pt where
 j:D
 L:C T
 c:LC
 S:C LI
def Gj:LC->C LI->C Pt
 | .D2 e b,a=>Gj e (.Do b O::a)++Gj b a
 | .Ni d c e b,a=>⟨d,c,b,a⟩::(Gj e (.Do b (A (d,c))::a)++Gj b a)
 | .GB _ e b,a=>Gj e a++Gj b a
 | .Bc f b,a=>Gj b (.Ca f::a)
 | .Dt d c b,a=>⟨d,c,.Dt d c b,a⟩::Gj b (.Dt d c b::a)
 |_,_=>[]
def N5(b:D)(c:C Pt):Ae Pt:= @List.rec Pt (λ_=>Ae Pt) O (λa _ d=>Aj (AW a.j b) (A a) d) c
def Rg(c:D)(a:C D):Ah:= @List.rec D (λ_=>Ah) Aa (λb _ d=>Aj (AW c b) L d) a
def bx(a:C D):Ah:= @List.rec D (λ_=>Ah) L (λb d c=>Aj (Rg b d) Aa c) a
def bT:G7->Ah
 | .skip| .HT _| .Hl _| .Ck _| .Dd| .CS=>L
 | .D2 a b=>bT a&&bT b
 |_=>Aa
def MP(c:C T):G7->D->C T->(D->C T)->LC×D
 | .skip,a,_,_=>(.skip,a)
 | .HT k,a,_,_=>(.HT k,a)
 | .Hl k,a,_,_=>(.Hl k,a)
 | .D2 h f,a,e,b=>
  let(d,a):=MP c f a e b
  let g:=lv c d e b
  if bT h then
   let(i,a):=MP c h a g b
   (.D2 i d,a)
  else
   let(i,l):=MP c h (a+1) g b
   (.Ni a g i d,l)
 | .GB n h f,a,e,b=>
  let(i,a):=MP c h a e b
  let(d,a):=MP c f a e b
  (.GB n i d,a)
 | .Bc j f,a,e,b=>
  let(d,a):=MP c f a e (λm=>Aj (AW m j) e (b m))
  (.Bc j d,a)
 | .Dt f,a,_,b=>
  let g:=lv c (MP c f (a+1) [] b).1 [] b
  let(d,l):=MP c f (a+1) g b
  (.Dt a g d,l)
 | .Ck j,a,_,_=>(.Ck j,a)
 | .Dd,a,_,_=>(.Dd,a)
 | .CS,a,_,_=>(.CS,a)
structure E2 where
 GR:C FP
 Do:LC
def Ou(a:Gk):E2:=⟨a.GR,(MP (DB a.GR) a.Ln 1 (DB a.GR) (λ_=>[])).1⟩
def Nv(a:E2):Ah:=Aj (IL (DB a.GR) a.Do (DB a.GR) (λ_=>[])) (bx ((Gj a.Do []).m (·.j))) Aa
theorem T.LO:∀a:T,1<=a.num
 | .h=>CK 1
 | .o a=>by have:=T.LO a;simp only[T.num];omega
 | .i a=>by simp only[T.num];omega
theorem T.Vo:∀{b c:T},b.num=c.num->b=c
 | .h,.h,_=>rfl
 | .h,.o c,a=>by simp only[T.num]at a;omega
 | .h,.i c,a=>by have:=T.LO c;simp only[T.num]at a;omega
 | .o b,.h,a=>by simp only[T.num]at a;omega
 | .i b,.h,a=>by have:=T.LO b;simp only[T.num]at a;omega
 | .o b,.o c,a=>by simp only[T.num]at a;rw[T.Vo (b:=b) (c:=c) (by omega)]
 | .i b,.i c,a=>by simp only[T.num]at a;rw[T.Vo (b:=b) (c:=c) (by omega)]
 | .o b,.i c,a=>by simp only[T.num]at a;omega
 | .i b,.o c,a=>by simp only[T.num]at a;omega
theorem T.Vp:T.FI .h=.o .h:=rfl
theorem T.iu(a:T):T.FI (.o a)=.i a:=rfl
theorem T.it(a:T):T.FI (.i a)=.o a.FI:=rfl
theorem T.Fb:∀a:T,a.FI.num=a.num+1
 | .h=>rfl
 | .o a=>by rw[T.iu];simp only[T.num]
 | .i a=>by rw[T.it];simp only[T.num];have:=T.Fb a;omega
theorem uQ:∀b a,1<=a->a<2^(b+1)->(TA b a).num=a:=by
 intro b
 induction b with
 |zero=>intro a e f;simp only[TA,T.num];omega
 |succ b g=>
  intro a e f;unfold TA;by_cases c:a<=1;.simp only[c,Aea,T.num];omega
  .simp only[c,Ad3];have:=g (a/2) (by omega) (by omega);by_cases d:a % 2=1;.simp only[d,Aea,T.num];omega
   .simp only[d,Ad3,T.num];omega
theorem LO{a:D}(b:a<1000000):(pos a).num=a+1:=uQ 64 (a+1) (by omega) (by omega)
theorem vk{a b:D}(d:a<1000000)(e:b<1000000)(c:pos a=pos b):a=b:=by have:=AdW T.num c;rw[LO d,LO e]at this;omega
theorem Gm{a b:D}(c:a≠b):AW a b=Aa:=by
 cases d:AW a b with
 |false=>rfl
 |true=>exact BF (AdQ d) c
theorem Qd{a b:D}(c:¬a<=b):BX a b=Aa:=by
 cases d:BX a b with
 |false=>rfl
 |true=>exact BF (AdT d) c
theorem T.N4:∀{c b:T},T.eq c b=L->c=b
 | .h,.h,_=>rfl
 | .h,.o _,a=>by cases a
 | .h,.i _,a=>by cases a
 | .o _,.h,a=>by cases a
 | .i _,.h,a=>by cases a
 | .o c,.o b,a=>by rw[T.N4 (b:=b) a]
 | .i c,.i b,a=>by rw[T.N4 (b:=b) a]
 | .o _,.i _,a=>by cases a
 | .i _,.o _,a=>by cases a
namespace PT
variable{t:Type}
theorem UE(a c:PT t)(d:Ae t)(b:T):M (.nd a d c) (.o b)=M a b:=rfl
theorem UD(c b:PT t)(d:Ae t)(a:T):M (.nd c d b) (.i a)=M b a:=rfl
theorem i0(a:T)(b:Ae t):AJ (.nil) (.o a) b=.nd (AJ .nil a b) O .nil:=rfl
theorem iZ(a c:PT t)(d e:Ae t)(b:T):AJ (.nd a d c) (.o b) e=.nd (AJ a b e) d c:=rfl
theorem iY(a:T)(b:Ae t):AJ (.nil) (.i a) b=.nd .nil O (AJ .nil a b):=rfl
theorem iX(a c:PT t)(d e:Ae t)(b:T):AJ (.nd a d c) (.i b) e=.nd a d (AJ c b e):=rfl
theorem UF(c:T):∀a (d:Ae t),M (AJ a c d) c=d:=by
 induction c with
 |h=>intro a d;cases a<;>rfl
 |o c b=>intro a d;cases a with
  |nil=>rw[i0,UE,b]
  |nd e g f=>rw[iZ,UE,b]
 |i c b=>intro a d;cases a with
  |nil=>rw[iY,UD,b]
  |nd e g f=>rw[iX,UD,b]
theorem UG(d:T):∀a b (e:Ae t),a≠d->M (AJ b d e) a=M b a:=by
 induction d with
 |h=>intro a b e f;cases b<;>cases a<;>first|grind|rfl
 |o d c=>
  intro a b e f
  cases b with
  |nil=>
   rw[i0]
   cases a with
   |h=>rfl
   |o a=>rw[UE,c a _ _ P];rfl
   |i a=>rfl
  |nd g k j=>
   rw[iZ]
   cases a with
   |h=>rfl
   |o a=>rw[UE,UE,c a _ _ P]
   |i a=>rfl
 |i d c=>
  intro a b e f
  cases b with
  |nil=>
   rw[iY]
   cases a with
   |h=>rfl
   |i a=>rw[UD,c a _ _ P];rfl
   |o a=>rfl
  |nd g k j=>
   rw[iX]
   cases a with
   |h=>rfl
   |i a=>rw[UD,UD,c a _ _ P]
   |o a=>rfl
end PT
theorem G.Ob(c:G)(a:T)(b:BV):(c.set a b).M a=A b:=PT.UF a _ _
theorem G.Ia(c:G){b a:T}(e:BV)(d:a≠b):(c.set b e).M a=c.M a:=PT.UG b a _ _ d
theorem G.Xf(a:G)(b:BV):(a.V b).M a.next=A b:=PT.UF _ _ _
theorem G.LA(b:G){a:T}(d:BV)(c:a≠b.next):(b.V d).M a=b.M a:=PT.UG _ a _ _ c
theorem G.ao(b:G)(a:T):(b.GG a).M a=O:=PT.UF a _ _
theorem G.Qy(c:G){b a:T}(d:a≠b):(c.GG b).M a=c.M a:=PT.UG b a _ _ d
theorem G.Mr(a:G)(b:T)(c:BV):(a.set b c).next=a.next:=rfl
theorem G.Tk(a:G)(b:T):(a.GG b).next=a.next:=rfl
theorem G.Gh(a:G)(b:BV):(a.V b).next=a.next.FI:=rfl
theorem Fm.Ua(c:Fm)(a:T)(b:F):Fm.at (DI c (A a) b) a=b:=by unfold Fm.at DI;rw[PT.UF];rfl
theorem Fm.R8(c:Fm){b a:T}(e:F)(d:a≠b):Fm.at (DI c (A b) e) a=Fm.at c a:=by unfold Fm.at DI;rw[PT.UG _ _ _ _ d]
theorem Oi(b a:IntKind):Hu b a=L↔b=a:=by cases b<;>cases a<;>simp[Hu,UI]
theorem Tl(a:Ah):PG a= !a:=by cases a<;>rfl
theorem Kz(e d:K):Ju e d=(e==d):=by
 cases e with
 |ofNat c=>cases d with
  |ofNat a=>
   show AW c a=_;by_cases b:c=a;.subst b;simp
   .rw[Gm b];grind
  |negSucc a=>show Aa=_;grind
 |negSucc c=>cases d with
  |ofNat a=>show Aa=_;grind
  |negSucc a=>
   show AW c a=_;by_cases b:c=a;.subst b;simp
   .rw[Gm b];grind
theorem MF(e d:K):LD e d=Ao (e<=d):=by
 cases e with
 |ofNat c=>cases d with
  |ofNat a=>
   show BX c a=_;by_cases b:c<=a;.rw[AdX b];grind
   .rw[Qd b];grind
  |negSucc a=>show Aa=_;grind
 |negSucc c=>cases d with
  |ofNat a=>show L=_;grind
  |negSucc a=>
   show BX a c=_;by_cases b:a<=c;.rw[AdX b];grind
   .rw[Qd b];grind
theorem gN(a b:K):aB a b=a+b:=by cases a<;>cases b<;>rfl
theorem UM(c d:K):QG c d=c-d:=by
 cases c with
 |ofNat a=>cases d with
  |ofNat b=>
   show Og (BX b a) (.ofNat (Nat.sub a b)) (Int.sub (.ofNat a) (.ofNat b))=_;by_cases e:b<=a;.rw[AdX e];show Int.ofNat (a-b)=Int.ofNat a-Int.ofNat b;grind
   .rw[Qd e];rfl
  |negSucc b=>rfl
 |negSucc a=>rfl
theorem gP(a:Ah)(b c:K):Og a b c=if a then b else c:=by cases a<;>rfl
theorem MY:∀a b,D2 a b=(a==b)
 |[],[]=>rfl
 |[],_::_=>rfl
 |_::_,[]=>rfl
 |c::a,d::b=>by
  show Aj (AW c d) (D2 a b) Aa=_;rw[MY a b];by_cases e:c=d;.subst e;simp
  .rw[Gm e];grind
theorem GK:∀a,Bq a=a.l
 |[]=>rfl
 |_::a=>AdW Nat.succ (GK a)
theorem PS:∀b a,V0 b a=a.t b
 |0,a=>by rfl
 |b+1,[]=>by rfl
 |b+1,c::a=>by show c::V0 b a=_;rw[PS b a];rfl
theorem WD:∀b a,WB b a=a.d b
 |0,a=>rfl
 |b+1,[]=>rfl
 |b+1,c::a=>by show WB b a=_;rw[WD b a];rfl
theorem PH:∀a b,Vn a b=b[a]?
 |0,[]=>rfl
 |0,_::_=>rfl
 |a+1,[]=>rfl
 |a+1,c::b=>by show Vn a b=_;rw[PH a b];rfl
theorem KU:∀a b,Es a b=a++b
 |[],_=>rfl
 |c::a,b=>AdW (c:: ·) (KU a b)
theorem DJ:∀a,BU a=a.all Fl
 |[]=>rfl
 |b::a=>by show Aj (Fl b) (BU a) Aa=_;rw[DJ a,Aer];grind
theorem hB:∀b a,(KD b a).l=a.l
 |[],_=>rfl
 |_::_,[]=>rfl
 |c::b,d::a=>by show(c::KD b a).l=_;simp[hB b a]
theorem U4:∀c b a,(Dg c b a).l=a.l
 |0,b,a=>hB b a
 |_+1,_,[]=>rfl
 |c+1,b,d::a=>by show(d::Dg c b a).l=_;simp[U4 c b a]
theorem gr:∀a c b,a.l<=c.l->(KD a c)[b]? =if b<a.l then a[b]?else c[b]?
 |[],c,b,_=>by rfl
 |d::a,[],b,f=>by grind
 |d::a,e::c,0,_=>by show(d::KD a c)[0]? =_;simp
 |d::a,e::c,b+1,f=>by show(d::KD a c)[b+1]? =_;simp only[AeL,(gr a c b (by grind)),Aec];grind
theorem ap:∀d a c b,d+a.l<=c.l->(Dg d a c)[b]? =if d<=b/\b<d+a.l then a[b-d]?else c[b]?
 |0,a,c,b,f=>by show(KD a c)[b]? =_;rw[gr a c b (by omega)];simp
 |d+1,a,[],b,f=>by grind
 |d+1,a,e::c,0,_=>by show(e::Dg d a c)[0]? =_;simp
 |d+1,a,e::c,b+1,f=>by show(e::Dg d a c)[b+1]? =_;simp only[AeL,(ap d a c b (by grind))];grind
structure Fe where
 r:D
 sh:D
 sz:D
inductive IB where
 |c (b:C F)
 |m (a d:C F)
structure AT where
 m:T->Ae Fe
 im:IB->D->D->Prop
instance:CoeFun AT (λ_=>T->Ae Fe):=⟨AT.m⟩
def AT.Fv(a:AT):AT:=⟨λ_=>O,a.im⟩
mutual
inductive VR(a:AT):F->Ba->Prop where
 |b (v:Ah):VR a (.b v) (.bool v)
 |i (J:IntKind) (e:K):VR a (.i J e) (.int J e)
 |s (d:C D) (z:ByteArray) (g:z.data.l.m UInt8.toNat=d):VR a (.s d) (.string z)
 |p (k:T) (n:D) (c:Fe) (g:a k=A c):VR a (.p k n) (.pointer (A ⟨c.r,c.sh+n,O⟩))
 |pn:VR a .pn (.pointer O)
 |Z (k:T) (n e h o:D) (c:Fe) (w:D) (g:a k=A c) (I:e<=w) (H:h=0\/h=w+1) (xa:c.sh+n+w*o<=c.sz):VR a (.Z k n e h o) (.slice (A ⟨c.r,c.sh+n,O⟩) e w)
 |Yl (k:T) (n h o:D) (c:Fe) (y:Addr) (g:a k=A c) (H:h=0\/h=1):VR a (.Z k n 0 h o) (.slice (A y) 0 0)
 |sn:VR a .sn (.slice O 0 0)
 |m (j:T) (c:Fe) (g:a j=A c):VR a (.m j) (.map (A c.r))
 |mn:VR a .mn (.map O)
 |f (e:D) (I:e<1000000) (E:C F) (G:Bg Ba) (g:Bw a E G.l):VR a (.f (pos e) E) (.func (.func e) #[] G)
 |fn:VR a .fn .nilFunc
 |S (d:C F) (l:Bg Ba) (g:Bw a d l.l):VR a (.S d) (.agg l)
 |AB (d:C F) (l:Bg Ba) (g:Bw a d l.l):VR a (.AB d) (.tuple l)
 |ic (x:D) (xb:x<1000000) (P:F) (Q:Ba) (g:VR a P Q):VR a (.ic x P) (.iface x Q)
 |fb (e:D) (I:e<1000000) (d:C F) (l:Bg Ba) (g:Bw a d l.l):VR a (.ic (e+1000000) (.AB d)) (.func (.func e) l #[])
 |KZ:VR a .KZ .nilIface
 |pi (d t:C F) (j u q:D) (g:a.im (.c t) j u) (Y:d<+:t.d q):VR a (.pi d) (.pointer (A ⟨j,u+q,O⟩))
 |CV (r:C (C F)) (t:C F) (j u q o h:D) (g:a.im (.c t) j u) (Y:r.flatten<+:t.d q) (xa:∀X∈r,X.l=o) (H:r.l<=h):VR a (.CV r) (.slice (A ⟨j,u+q,O⟩) r.l h)
 |OM (y:Addr) (h:D):VR a (.CV []) (.slice (A y) 0 h)
 |VQ:VR a (.CV []) (.slice O 0 0)
 |mi (N R:C F) (j:D) (g:a.im (.m N R) j 0):VR a (.mi N R) (.map (A j))
 |XK:VR a (.mi [] []) (.map O)
inductive Bw(a:AT):C F->C Ba->Prop where
 |nil:Bw a [] []
 |cons (v:F) (V:Ba) (U:C F) (W:C Ba) (g:VR a v V) (x:Bw a U W):Bw a (v::U) (V::W)
end
def AT.le(f g:AT):Prop:=(∀b a,f b=A a->g b=A a)/\∀e c d,f.im e c d->g.im e c d
def AT.le.refl(a:AT):a.le a:=⟨P,P⟩
def AT.le.AI{i j k:AT}(d:i.le j)(e:j.le k):i.le k:=⟨λc b a=>e.1 c b (d.1 c b a),λh f g a=>e.2 h f g (d.2 h f g a)⟩
def AT.le.Fv{a b:AT}(d:a.le b):a.Fv.le b.Fv:=⟨λ_ _ c=>(by cases c),d.2⟩
def AT.Wq(a:AT):a.Fv.le a:=⟨λ_ _ b=>(by cases b),λ_ _ _ c=>c⟩
mutual
def VR.Ar{v w:AT}(c:v.le w):∀{e:F}{l:Ba},VR v e l->VR w e l
 |_,_,.b e=>.b e
 |_,_,.i U j=>.i U j
 |_,_,.s d J a=>.s d J a
 |_,_,.p n t g a=>.p n t g (c.1 _ _ a)
 |_,_,.pn=>.pn
 |_,_,.Z n t j h u g N a q o E=>.Z n t j h u g N (c.1 _ _ a) q o E
 |_,_,.Yl n t h u g x a o=>.Yl n t h u g x (c.1 _ _ a) o
 |_,_,.sn=>.sn
 |_,_,.m k g a=>.m k g (c.1 _ _ a)
 |_,_,.mn=>.mn
 |_,_,.f j q P Q a=>.f j q P Q (Bw.Ar c a)
 |_,_,.fn=>.fn
 |_,_,.S d r a=>.S d r (Bw.Ar c a)
 |_,_,.AB d r a=>.AB d r (Bw.Ar c a)
 |_,_,.ic I T W X a=>.ic I T W X (VR.Ar c a)
 |_,_,.fb j q d r a=>.fb j q d r (Bw.Ar c a)
 |_,_,.KZ=>.KZ
 |_,_,.pi d G k H y a z=>.pi d G k H y (c.2 _ _ _ a) z
 |_,_,.CV R G k H y u h a z E o=>.CV R G k H y u h (c.2 _ _ _ a) z E o
 |_,_,.OM x h=>.OM x h
 |_,_,.VQ=>.VQ
 |_,_,.mi V Y k a=>.mi V Y k (c.2 _ _ _ a)
 |_,_,.XK=>.XK
def Bw.Ar{v w:AT}(c:v.le w):∀{e:C F}{l:C Ba},Bw v e l->Bw w e l
 |_,_,.nil=>.nil
 |_,_,.cons e l xa xb a I=>.cons e l xa xb (VR.Ar c a) (Bw.Ar c I)
end
def Bw.length{d:AT}:∀{a:C F}{b:C Ba},Bw d a b->b.l=a.l
 |_,_,.nil=>rfl
 |_,_,.cons _ _ _ _ _ c=>by simp[Bw.length c]
def Bw.M{g:AT}:∀{a:C F}{b:C Ba}{d:D}{e:F},Bw g a b->a[d]? =A e->∃f,b[d]? =A f/\VR g e f
 |_,_,_,_,.nil,c=>by grind
 |_,_,0,_,.cons a b i j k _,c=>by grind
 |_,_,d+1,_,.cons a b i j _ h,c=>by obtain⟨_⟩:=Bw.M h c;grind
def Bw.Tn{i:AT}:∀{c:C F}{d:C Ba},d.l=c.l->(∀(a:D) b,c[a]? =A b->∃e,d[a]? =A e/\VR i b e)->Bw i c d
 |[],[],_,_=>.nil
 |[],_::_,g,_=>by grind
 |_::_,[],g,_=>by grind
 |j::c,l::d,g,h=>by obtain⟨e,f,k⟩:=h 0 j (by simp);simp at f;subst f;refine .cons _ _ _ _ k (Bw.Tn (by grind) λa b m=> ?_);obtain⟨_⟩:=h (a+1) b (by grind);grind
def Bw.Km{d:AT}:∀{a e:C F}{b f:C Ba},Bw d a b->Bw d e f->Bw d (a++e) (b++f)
 |_,_,_,_,.nil,c=>c
 |_,_,_,_,.cons a b i j c h,g=>.cons a b _ _ c (Bw.Km h g)
def Bw.cG{d:AT}:∀a {b:C F}{c:C Ba},Bw d b c->Bw d (b.t a) (c.t a)
 |0,_,_,_=>.nil
 |a+1,_,_,.nil=>.nil
 |a+1,_,_,.cons b c g h e f=>.cons b c _ _ e (Bw.cG a f)
def Bw.Zn{e:AT}:∀a {b:C F}{c:C Ba},Bw e b c->Bw e (b.d a) (c.d a)
 |0,_,_,d=>d
 |a+1,_,_,.nil=>.nil
 |a+1,_,_,.cons b c g h d f=>Bw.Zn a f
inductive FO(a:AT):C Bx->C MapEntry->Prop where
 |nil:FO a [] []
 |cons (b:Bx) (c:MapEntry) (d:C Bx) (e:C MapEntry) (g:VR a b.He c.key) (h:VR a b.Eo c.val) (f:b.MB=c.born) (i:FO a d e):FO a (b::d) (c::e)
def FO.Ar{d e:AT}(c:d.le e):∀{a:C Bx}{b:C MapEntry},FO d a b->FO e a b
 |_,_,.nil=>.nil
 |_,_,.cons a b j k g h f i=>.cons a b j k (VR.Ar c g) (VR.Ar c h) f (FO.Ar c i)
def FO.length{d:AT}:∀{a:C Bx}{b:C MapEntry},FO d a b->b.l=a.l
 |_,_,.nil=>rfl
 |_,_,.cons _ _ _ _ _ _ _ c=>by simp[FO.length c]
def CR(m:AT)(h:D)(f:C F)(a:Fe)(l:By):Prop:=
 f.l=h/\a.sh+h<=a.sz/\∃(b:Bg Ba)(k:BQ)(g d:D),l.heap[a.r]? =A (.cells b k (g,d))/\b.z=a.sz/\(∀c,c<a.sz->¬(g<=c/\c<d))/\
  ∀e i,f[e]? =A i->∃j,b[a.sh+e]? =A j/\VR m i j
def MR(f:AT)(d:C Bx)(c:D)(b:Fe)(e:By):Prop:=∃a:Bg MapEntry,e.heap[b.r]? =A (.map a c)/\FO f d a.l
def BR(c:AT)(h:BV)(a:Fe)(b:By):Prop:=
 match h with
 | .I g f=>CR c g f a b
 | .Bn e d=>MR c e d a b
 | .rc g f=>CR c g f a b
 | .rm e d=>MR c e d a b
variable{a:Fe}{e:By}{f g:AT}
def CR.Ar(t:f.le g){c:D}{b:C F}{d:By}(v:e.heap[a.r]? =d.heap[a.r]?)(l:CR f c b a d):CR g c b a e:=by obtain⟨m,n,h,i,x,s,o,p,q,r⟩:=l;exact⟨m,n,h,i,x,s,by rw[v];exact o,p,q,λw y u=>let⟨z,j,k⟩:=r w y u;⟨z,j,k.Ar t⟩⟩
def MR.Ar(k:f.le g){c:C Bx}{b:D}{d:By}(m:e.heap[a.r]? =d.heap[a.r]?)(i:MR f c b a d):MR g c b a e:=by obtain⟨h,l,j⟩:=i;exact⟨h,by grind,j.Ar k⟩
def BR.Ar{h i:AT}(c:h.le i){e:BV}{f g:By}(d:g.heap[a.r]? =f.heap[a.r]?)(b:BR h e a f):BR i e a g:=by
 cases e with
 |I m l=>exact CR.Ar c d b
 |Bn k j=>exact MR.Ar c d b
 |rc m l=>exact CR.Ar c d b
 |rm k j=>exact MR.Ar c d b
def BV.U6:BV->Ah
 | .I _ _| .Bn _ _=>L
 |_=>Aa
def BI(c:AT)(p:IB)(f g:D)(j:By):Prop:=
 match p with
 | .c e=>∃(a:Bg Ba)(l:BQ)(m:D×D),j.heap[f]? =A (.cells a l m)/\g+e.l<=a.z/\∀d h,e[d]? =A h->∃i,a[g+d]? =A i/\VR c h i
 | .m n o=>∃(b:Bg MapEntry)(k:D),j.heap[f]? =A (.map b k)/\Bw c n (b.l.m (·.key))/\Bw c o (b.l.m (·.val))
def BI.Ar{k l:AT}(e:k.le l){f:IB}{a h:D}{i j:By}(w:j.heap[a]? =i.heap[a]?)(g:BI k f a h i):BI l f a h j:=by
 cases f with
 |c G=>obtain⟨b,n,r,d,t,u⟩:=g;exact⟨b,n,r,by rw[w];exact d,t,λx y v=>let⟨z,o,p⟩:=u x y v;⟨z,o,p.Ar e⟩⟩
 |m F H=>obtain⟨q,b,E,s,d⟩:=g;exact⟨q,b,by grind,s.Ar e,d.Ar e⟩
def BI.lt{e:IB}{b f:D}{d:By}(a:BI g e b f d):b<d.heap.z:=by
 cases e with
 |c i=>obtain⟨_⟩:=a;grind
 |m h j=>obtain⟨_⟩:=a;grind
structure HR(b:AT)(e:G)(j:By):Prop where
 EJ:∀d f g,b.im d f g->BI b.Fv d f g j
 Fg:∀a d c m f g,e.M a=A d->d.U6=L->b a=A c->b.im m f g->f≠c.r
 Ca:∀a d c,e.M a=A d->b a=A c->BR b d c j
 EH:∀h i k l,e.M h≠O->e.M i≠O->b h=A k->b i=A l->k.r=l.r->h=i
 lt:∀a c,b a=A c->c.r<j.heap.z
 E8:∀a,e.M a≠O->a.num<e.next.num
def JH(a b:By):Prop:=b.tape=a.tape/\b.os=a.os/\b.output=a.output/\∀c,b.frozen? c=a.frozen? c
def JH.refl(a:By):JH a a:=⟨B,B,B,P⟩
def JH.AI{a d:By}(b:JH a d)(c:JH d e):JH a e:=⟨c.1.t b.1,c.2.1.t b.2.1,c.2.2.1.t b.2.2.1,λa=>(c.2.2.2 a).t (b.2.2.2 a)⟩
def Uz(a:By)(c:Bg Ba)(d:BQ)(b:Addr):({a with heap:=a.heap.push (.cells c d)}).frozen? b=a.frozen? b:=by unfold World.frozen?;grind
def oK(a:By)(d:Bg MapEntry)(c:D)(b:Addr):({a with heap:=a.heap.push (.map d c)}).frozen? b=a.frozen? b:=by unfold World.frozen?;grind
structure Fin(d:AT)(c:G)(f:By)(j:AT)(g:G)(k:By):Prop where
 ext:d.le j
 F8:∀a,d a=O->j a≠O->c.next.num<=a.num/\a.num<g.next.num
 hr:HR j g k
 up:c.next.num<=g.next.num
 Ez:f.heap.z<=k.heap.z
 FU:∀b,b<f.heap.z->(∀a e,d a=A e->c.M a≠O->e.r≠b)->k.heap[b]? =f.heap[b]?
 Gf:∀a e,j a=A e->g.M a≠O->e.r<f.heap.z->∃i h,d i=A h/\c.M i≠O/\h.r=e.r
 Hb:∀n b l,j.im n b l->b<f.heap.z->(∃o m,d.im o b m)\/∃i h,d i=A h/\c.M i≠O/\h.r=b
 HA:∀a,a.num<c.next.num->d a=O->g.M a=c.M a
 AD:JH f k
def Fin.refl{a:G}(b:HR f a e):Fin f a e f a e where
 ext:=.refl _
 F8 g c d:=BF c d
 hr:=b
 up:=CK _
 Ez:=CK _
 FU _ _ _:=B
 Gf g h c d _:=⟨g,h,c,d,B⟩
 Hb j k i b _:=.i ⟨j,i,b⟩
 HA _ _ _:=B
 AD:=.refl _
def Fin.AI{x y:AT}{o p q:G}{u v w:By}(a:Fin x o u f p v)(c:Fin f p v y q w):Fin x o u y q w where
 ext:=a.ext.AI c.ext
 F8 b I J:=by
  by_cases h:f b=O;.have:=c.F8 b h J;have:=a.up;omega
  .have:=a.F8 b I h;have:=c.up;omega
 hr:=c.hr
 up:=Aem a.up c.up
 Ez:=Aem a.Ez c.Ez
 FU e d s:=by rw[c.FU e (Aen d a.Ez) ?_,a.FU e d s];intro b g k l E;subst E;obtain⟨_⟩:=a.Gf b g k l d;grind
 Gf b g k l d:=by obtain⟨j,i,m,n,H⟩:=c.Gf b g k l (Aen d a.Ez);obtain⟨_⟩:=a.Gf j i m n (by omega);grind
 Hb P e M z d:=by
  rcases c.Hb P e M z (Aen d a.Ez)with⟨Q,N,F⟩|⟨j,i,m,n,H⟩;.exact a.Hb Q e N F d
  .obtain⟨_⟩:=a.Gf j i m n (by omega);grind
 HA b r t:=by
  have h:f b=O:=by
   cases s:f b with
   |none=>rfl
   |some g=>have:=a.F8 b t (by grind);omega
  rw[c.HA b (Aen r a.up) h,a.HA b r t]
 AD:=a.AD.AI c.AD
def TR(c:AT)(d:Fm)(b:Act):Prop:=∀a,a<1000000->VR c (Fm.at d (pos a)) (b.tmps.getD a undef)
def TR.Ar{b c:AT}(f:b.le c){d:Fm}{a:Act}(e:TR b d a):TR c d a:=λh g=>(e h g).Ar f
structure St(d:D)(b:AT)(f:Fm)(c:G)(a:Act)(e:By):Prop where
 tr:TR b f a
 hr:HR b c e
 Ez:d<=a.tmps.z
 Sj:a.defers=[]
def RP(a:AT):VR a AC undef:=.AB [] #[] .nil
def TR.AJ{d:AT}{i:Fm}{b:Act}(k:TR d i b){a:D}(l:a<b.tmps.z)(m:a<1000000){g:F}{h:Ba}(n:VR d g h):TR d (DI i (A (pos a)) g) (b.put (A a) h):=by
 intro f e;by_cases c:f=a;.subst c;rw[Fm.Ua];simpa[Act.put,l]using n
 .rw[Fm.R8 _ _ (λj=>c (vk e m j))];simpa[Act.put,Af8 (Ne.symm c)]using(k f e)
