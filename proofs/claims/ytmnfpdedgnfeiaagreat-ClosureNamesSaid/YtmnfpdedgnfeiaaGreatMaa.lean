/- Part of the proof. -/
import GoSem.Step
import Derived.Calls
set_option linter.all false
noncomputable section
open Option renaming some->A,none->O,getD->Option.g,bind->Option.b
open _root_ renaming rfl->B,List->C,Nat->D,Int->K,Option->Aj,Bool->Ak,cond->An,absurd->A_,Array->Br
open Bool renaming true->L,false->Ac
open Decidable renaming decide->Au
open Nat renaming beq->Bb,ble->Co,le_refl->C6
open Go renaming Value->Bl,World->BH,TypeId->B9
open List renaming replicate->Bv,length->List.l,map->List.m,take->List.t,drop->List.d,flatMap->List.f
open Go.IntKind renaming i64->Go.IntKind.n
open Array renaming toList->Array.l,size->Array.z
open Eq renaming trans->Eq.t,symm->Eq.s
open Or renaming inl->Or.i,inr->Or.j
open Int renaming toNat->Int.n
namespace Go.Fg
def Aic:=@not_false_eq_true
def Aid:=@List.getElem?_eq_some_iff
def Aie:=@Bool.and_eq_true
def Aif:=@Int.toNat_natCast
def Aig:=@Option.bind_some
def Aih:=@Classical.byContradiction
def Aii:=@Nat.eq_of_beq_eq_true
def Aij:=@congrArg
def Aik:=@Nat.lt_of_lt_of_le
def Ail:=@List.mem_of_getElem?
def Aim:=@Nat.le_of_ble_eq_true
def Ain:=@decide_eq_true_eq
def Aio:=@List.length_append
def Aip:=@List.length_range
def Aiq:=@List.drop_eq_nil_of_le
def Air:=@Nat.ble_eq_true_of_le
def Ais:=@trivial
def Ait:=@List.mem_cons
def Aiu:=@Bool.false_eq_true
def Aiv:=@List.length_set
def Aiw:=@List.length_map
def Aix:=@Nat.zero_add
def Aiy:=@List.append_nil
def Aiz:=@Option.getD_some
def AiA:=@decide_true
def AiB:=@Bool.not_true
def AiC:=@if_false
def AiD:=@List.length_cons
def AiE:=@List.drop_zero
def AiF:=@List.getElem?_set_self
def AiG:=@Nat.beq_refl
def AiH:=@List.length_take
def AiI:=@Option.some.inj
def AiJ:=@if_true
def AiK:=@List.all_cons
def AiL:=@List.getElem?_map
def AiM:=@List.mem_append
def AiN:=@Nat.le_trans
def AiO:=@Nat.zero_le
def AiP:=@List.all_eq_true
def AiQ:=@Bool.eq_iff_iff
def AiR:=@List.mem_map
def AiS:=@Nat.lt_or_ge
def AiT:=@List.mem_range
def AiU:=@List.getElem?_set_ne
def AiV:=@List.flatMap_cons
def AiW:=@List.getElem?_eq_getElem
def AiX:=@List.take_of_length_le
def AiY:=@decide_false
def AiZ:=@List.map_append
def Ai0:=@List.mem_cons_self
def Ai1:=@List.mem_cons_of_mem
def Ai2:=@Bool.not_false
def Ai3:=@List.mem_singleton
def Ai4:=@Eq.trans
def Ai5:=@Bool.true_and
def Ai6:=@List.not_mem_nil
def Ai7:=@or_false
def Ai8:=@Int.natCast_nonneg
def Ai9:=@List.map_cons
def Aja:=@List.map_map
def Ajb:=@List.mem_append_right
def Ajc:=@List.ext_getElem?
def Ajd:=@Nat.lt_of_le_of_lt
def Aje:=@Nat.add_mul
def Ajf:=@Array.length_toList
def Ajg:=@List.length_singleton
def Ajh:=@List.mem_iff_getElem?
def Aji:=@List.getElem?_eq_none
def Ajj:=@List.getElem?_cons_succ
def Ajk:=@Nat.add_assoc
def Ajl:=@List.mem_append_left
def Ajm:=@List.all_append
def Ajn:=@List.set_set
def Ajo:=@List.getElem?_append_left
def Ajp:=@List.foldl_cons
def Ajq:=@Nat.add_zero
def Ajr:=@List.append_assoc
def Ajs:=@Array.getD_eq_getD_getElem?
def Ajt:=@Bool.or_eq_true
def Aju:=@List.length_eq_zero_iff
def Ajv:=@List.any_eq_true
def Ajw:=@List.range_succ
def Ajx:=@List.getElem?_append_right
def Ajy:=@List.mem_filter
def Ajz:=@eq_false
def AjA:=@Bool.false_and
def AjB:=@Bool.or_eq_false_iff
def AjC:=@List.replicate_succ
def AjD:=@List.length_replicate
def AjE:=@Bool.false_or
def AjF:=@List.IsPrefix.trans
def AjG:=@List.flatten_cons
def AjH:=@Nat.mul_le_mul_right
def AjI:=@List.getElem?_toArray
def AjJ:=@List.getElem?_cons_zero
def AjK:=@Nat.sub_self
def AjL:=@List.nodup_nil
def AjM:=@List.nodup_cons
def AjN:=@Int.le_refl
def AjO:=@Nat.succ_mul
def AjP:=@of_decide_eq_true
def AjQ:=@List.nodup_range
def AjR:=@Nat.blt_eq
def AjS:=@List.drop_drop
def AjT:=@Nat.min_eq_left
def AjU:=@Nat.mul_le_mul_left
def AjV:=@Nat.ne_of_beq_eq_false
def AjW:=@Array.getElem?_eq_getElem
def AjX:=@List.set_cons_zero
def AjY:=@List.getElem?_drop
def AjZ:=@List.length_eq_one_iff
def Aj0:=@List.take_append_drop
def Aj1:=@List.length_nil
def Aj2:=@Prod.mk.injEq
def Aj3:=@List.eq_nil_of_length_eq_zero
def Aj4:=@Array.ext'
def Aj5:=@List.cons.inj
def Aj6:=@beq_self_eq_true
def Aj7:=@List.any_cons
def Aj8:=@List.nodup_append
def Aj9:=@decide_eq_false_iff_not
def Aka:=@Bool.or_assoc
def Akb:=@Option.some.injEq
def Akc:=@List.mem_or_eq_of_mem_set
def Akd:=@List.getElem?_inj
def Ake:=@Array.eq_empty_of_size_eq_zero
def Akf:=@Array.getElem?_toList
def Akg:=@List.mem_of_mem_take
def Akh:=@Nat.mul_eq_zero
def Aki:=@Array.toList_modify
def Akj:=@List.size_toArray
def Akk:=@List.map_toArray
def Akl:=@List.range_eq_range'
def Akm:=@Nat.add_sub_cancel
def Akn:=@Bool.not_eq_true'
def Ako:=@Classical.choose_spec
def Akp:=@Nat.le_max_left
def Akq:=@List.drop_length
def Akr:=@Nat.lt_irrefl
def Aks:=@List.flatMap_append
def Akt:=@Int.natCast_add
def Aku:=@List.take_zero
def Akv:=@List.nil_append
def Akw:=@List.idxOf_cons
def Akx:=@List.set_append_right
def Aky:=@Array.getElem?_setIfInBounds_ne
def Akz:=@List.extract_eq_take_drop
def AkA:=@List.drop_length_add_append
def AkB:=@Nat.testBit_eq_decide_div_mod_eq
def AkC:=@Nat.shiftRight_eq_div_pow
def AkD:=@Int.tdiv_eq_ediv_of_nonneg
def AkE:=@Int.tmod_eq_emod_of_nonneg
theorem Om{a:Prop}(b:a:=by omega):a:=b
theorem P{a:Prop}(b:a:=by grind):a:=b
theorem Rl{a:Prop}(b:a:=by intros;exact rfl):a:=b
inductive Aa where
 |h:Aa
 |o (a:Aa):Aa
 |i (a:Aa):Aa
 deriving DecidableEq,Inhabited
def Aa.num:Aa->D
 | .h=>1
 | .o a=>2*a.num
 | .i a=>2*a.num+1
def Aa.IP(a:Aa):Aa:= @Aa.rec (λ_=>Aa) (.o .h) (λa _=>.i a) (λ_ b=>.o b) a
def Aa.eq(c:Aa):Aa->Ak:=
 @Aa.rec (λ_=>Aa->Ak)
  (λa=> @Aa.rec (λ_=>Ak) L (λ_ _=>Ac) (λ_ _=>Ac) a)
  (λ_ b a=> @Aa.rec (λ_=>Ak) Ac (λa _=>b a) (λ_ _=>Ac) a)
  (λ_ b a=> @Aa.rec (λ_=>Ak) Ac (λ_ _=>Ac) (λa _=>b a) a) c
def UR:D->D->Aa
 |0,_=>.h
 |b+1,a=>if a<=1 then .h else if a % 2=1 then .i (UR b (a/2))else .o (UR b (a/2))
def Ar(a:D):Aa:=UR 64 (a+1)
inductive PT (u:Type)where
 |nil:PT u
 |nd (a:PT u) (c:Aj u) (b:PT u):PT u
namespace PT
variable{u:Type}
def Dv:PT u->Aj u
 | .nil=>O
 | .nd _ a _=>a
def lft:PT u->PT u
 | .nil=>.nil
 | .nd a _ _=>a
def rgt:PT u->PT u
 | .nil=>.nil
 | .nd _ _ a=>a
def N(d:PT u):Aa->Aj u:= @PT.rec u (λ_=>Aa->Aj u) (λ_=>O) (λ_ e _ a b c=> @Aa.casesOn (λ_=>Aj u) c e a b) d
def AM(c:PT u)(g:Aa):Aj u->PT u:=
 @Aa.rec (λ_=>PT u->Aj u->PT u)
  (λc a=> @PT.rec u (λ_=>Aj u->PT u) (λa=>.nd .nil a .nil) (λd _ e _ _ a=>.nd d a e) c a)
  (λ_ b c a=> @PT.rec u (λ_=>(PT u->Aj u->PT u)->Aj u->PT u) (λb a=>.nd (b .nil a) O .nil) (λd f e _ _ b a=>.nd (b d a) f e) c b a)
  (λ_ b c a=> @PT.rec u (λ_=>(PT u->Aj u->PT u)->Aj u->PT u) (λb a=>.nd .nil O (b .nil a)) (λd f e _ _ b a=>.nd d f (b e a)) c b a) g c
end PT
inductive F where
 |b (v:Ak)
 |i (l:IntKind) (d:K)
 |s (a:C D)
 |p (c:Aa) (e:D)
 |pn
 |Z (c:Aa) (e d g w:D)
 |sn
 |m (o:Aa)
 |mn
 |f (k:Aa) (h:C F)
 |fn
 |S (a:C F)
 |AC (a:C F)
 |ic (q:D) (r:F)
 |LL
 |pi (a:C F)
 |CZ (j:C (C F))
 |mi (n t:C F)
 deriving Inhabited
def VZ(a:IntKind):D:= @IntKind.rec (λ_=>D) 0 1 2 3 4 5 6 7 a
def H8(b a:IntKind):Ak:=Bb (VZ b) (VZ a)
def Kf(d b:K):Ak:= @Int.rec (λ_=>K->Ak) (λa b=> @Int.rec (λ_=>D->Ak) (λc a=>Bb a c) (λ_ _=>Ac) b a) (λa b=> @Int.rec (λ_=>D->Ak) (λ_ _=>Ac) (λc a=>Bb a c) b a) d b
def Mq(d b:K):Ak:= @Int.rec (λ_=>K->Ak) (λa b=> @Int.rec (λ_=>D->Ak) (λc a=>Co a c) (λ_ _=>Ac) b a) (λa b=> @Int.rec (λ_=>D->Ak) (λ_ _=>L) (λc a=>Co c a) b a) d b
def cJ(d b:K):K:= @Int.rec (λ_=>K->K) (λa b=> @Int.rec (λ_=>D->K) (λc a=>.ofNat (Nat.add a c)) (λc a=>Int.add (.ofNat a) (.negSucc c)) b a) (λa b=>Int.add (.negSucc a) b) d b
def Pa(c:Ak)(a b:K):K:= @Bool.rec (λ_=>K) b a c
def R9(d b:K):K:= @Int.rec (λ_=>K->K) (λa b=> @Int.rec (λ_=>D->K) (λc a=>Pa (Co c a) (.ofNat (Nat.sub a c)) (Int.sub (.ofNat a) (.ofNat c))) (λc a=>Int.sub (.ofNat a) (.negSucc c)) b a) (λa b=>Int.sub (.negSucc a) b) d b
def EB(f:C D):C D->Ak:=
 @List.rec D (λ_=>C D->Ak) (λa=> @List.casesOn D (λ_=>Ak) a L (λ_ _=>Ac))
  (λb _ d a=> @List.casesOn D (λ_=>Ak) a Ac (λc e=>An (Bb b c) (d e) Ac)) f
def FX:F->Ak
 | .S _=>Ac
 | .AC _=>Ac
 |_=>L
def Xp(d:D):C F->C F:= @Nat.rec (λ_=>C F->C F) (λ_=>[]) (λ_ a c=> @List.rec F (λ_=>(C F->C F)->C F) (λ_=>[]) (λb e _ a=>b::a e) c a) d
def Yb(c:D):C F->C F:= @Nat.rec (λ_=>C F->C F) (λb=>b) (λ_ a b=> @List.rec F (λ_=>(C F->C F)->C F) (λ_=>[]) (λ_ d _ a=>a d) b a) c
def BK(a:C F):D:= @List.rec F (λ_=>D) 0 (λ_ _ b=>Nat.succ b) a
def WC(d:D):C F->Aj F:= @Nat.rec (λ_=>C F->Aj F) (λb=> @List.rec F (λ_=>Aj F) O (λc _ _=>A c) b) (λ_ a b=> @List.rec F (λ_=>(C F->Aj F)->Aj F) (λ_=>O) (λ_ e _ a=>a e) b a) d
def EK(c d:C F):C F:= @List.rec F (λ_=>C F) d (λa _ b=>a::b) c
def Lf(e:C F):C F->C F:= @List.rec F (λ_=>C F->C F) (λb=>b) (λc _ a b=> @List.rec F (λ_=>F->(C F->C F)->C F) (λ_ _=>[]) (λ_ d _ c a=>c::a d) b c a) e
def DJ(d:D)(f:C F):C F->C F:= @Nat.rec (λ_=>C F->C F) (Lf f) (λ_ a c=> @List.rec F (λ_=>(C F->C F)->C F) (λ_=>[]) (λb e _ a=>b::a e) c a) d
def Ct(b:C F):Ak:= @List.rec F (λ_=>Ak) L (λa _ c=>An (FX a) c Ac) b
mutual
def FT:F->F->Ak
 | .b a,.b b=>a==b
 | .i j a,.i i b=>H8 j i&&Kf a b
 | .s a,.s b=>EB a b
 | .p c d,.p e f=>Aa.eq c e&&Bb d f
 | .pn,.pn=>L
 | .Z c d k l m,.Z e f n o p=>Aa.eq c e&&Bb d f&&Bb k n&&Bb l o&&Bb m p
 | .sn,.sn=>L
 | .m a,.m b=>Aa.eq a b
 | .mn,.mn=>L
 | .f c d,.f e f=>Aa.eq c e&&Jv d f
 | .fn,.fn=>L
 | .S a,.S b=>Jv a b
 | .AC a,.AC b=>Jv a b
 | .ic c d,.ic e f=>Bb c e&&FT d f
 | .LL,.LL=>L
 | .pi a,.pi b=>Jv a b
 | .CZ a,.CZ b=>Qb a b
 | .mi c d,.mi e f=>Jv c e&&Jv d f
 |_,_=>Ac
def Jv:C F->C F->Ak
 |[],[]=>L
 |a::g,b::h=>FT a b&&Jv g h
 |_,_=>Ac
def Qb:C (C F)->C (C F)->Ak
 |[],[]=>L
 |a::g,b::h=>Jv a b&&Qb g h
 |_,_=>Ac
end
def RD:F->F->Ak
 | .i h a,.i g b=>An (H8 h g) (Kf a b) Ac
 | .p c d,.p e f=>An (Bb d f) (Aa.eq c e) Ac
 | .Z c d i j k,.Z e f l m n=>An (Bb d f) (An (Bb i l) (An (Bb j m) (An (Bb k n) (Aa.eq c e) Ac) Ac) Ac) Ac
 | .m a,.m b=>Aa.eq a b
 | .s a,.s b=>EB a b
 | .sn,.sn=>L
 | .pn,.pn=>L
 | .b a,.b b=>a==b
 |a,b=>FT a b
def Vm(e:C F):C F->Ak:= @List.rec F (λ_=>C F->Ak) (λa=> @List.casesOn F (λ_=>Ak) a L (λ_ _=>Ac)) (λb _ d a=> @List.casesOn F (λ_=>Ak) a Ac (λc f=>An (RD b c) (d f) Ac)) e
def Vn:F->F->Ak
 | .S a,.S b=>Vm a b
 | .AC a,.AC b=>Vm a b
 |a,b=>RD a b
def F.I:F->C F
 | .S a=>a
 |c=>[c]
structure BL where
 HS:F
 Dv:F
 Nm:D
inductive Ce where
 |I (d:D) (c:C F)
 |Bu (b:C BL) (a:D)
 |rc (d:D) (c:C F)
 |rm (b:C BL) (a:D)
structure G where
 t:PT Ce
 next:Aa
def Hs:D:=100000000000
def G.N(b:G)(a:Aa):Aj Ce:=PT.N b.t a
def G.set(a:G)(b:Aa)(c:Ce):G:=⟨PT.AM a.t b (A c),a.next⟩
def G.Hg(a:G)(b:Aa):G:=⟨PT.AM a.t b O,a.next⟩
def G.V(a:G)(b:Ce):G:=⟨PT.AM a.t a.next (A b),a.next.IP⟩
inductive Od where
 |t (a:Aa)
 |c (b:F)
inductive Rd where
 |mv
 |pick
 |build (b:C F) (n:C (D×D))
 |ld (l:D)
 |Dg
 |dA
 |aY (e:BinOp)
 |a1 (e:BinOp)
 |hg (a:Ak)
 |hb (a:Ak) (c:C D)
 |hj (a:Ak)
 |hk (a:Ak)
 |neg
 |kM
 |gI (j:IntKind)
 |fa (d:D)
 |hU (d:D)
 |ia (b:D)
 |jq
 |Na (b:D) (k h:Ak)
 |Su
 |da
 |Zg
 |ba
 |ext (i:D)
 |Wv (g:Aa)
 |kt (o:D)
 |max
 |Je (f:Ak) (c:C D) (b:F) (m:Ak)
inductive Al where
 |alloc (d:C F)
 |box
 |E_ (c a:D)
 |dt (e:C F) (a b:D)
 |ds
inductive Ef where
 |st (f:D)
 |EK (a c:D)
 |aJ (e:C F) (a c:D)
 |bj (a:D)
 |Cf (b:Ak) (d:C D)
 |dr (b:Ak) (d:C D) (e:F)
 |bI
inductive Io where
 |rd (e:Rd) (a:C Od)
 |al (b:Al) (a:C Od)
 |ef (c:Ef) (a:C Od)
 |call (d:Od) (a:C Od)
 |Dd
structure CJ where
 DH:Aj Aa
 op:Io
 Ew:Aj (Aa×Ak)
 bits:D
inductive HK where
 |skip
 |It (d:C CJ)
 |HZ (d:C CJ)
 |EB (b a:HK)
 |Hd (e:Od) (b a:HK)
 |A4 (c:D) (a:HK)
 |DY (a:HK)
 |Cm (c:D)
 |DG
 |Dd
inductive Gh where
 |t (b:Aa)
 |Cy (a:Aa) (b:D)
 |NZ (a:Aa)
structure GY where
 nt:D
 Hn:C Gh
 Mb:HK
abbrev Fm:=PT F
def Ax:F:=.AC []
def Ab0:Aj F->F
 |some a=>a
 |none=>Ax
def Fm.at(b:Fm)(a:Aa):F:=Ab0 (PT.N b a)
def Od.ev(d:Fm):Od->F
 | .t a=>Fm.at d a
 | .c b=>b
def Ej(a:Fm)(b:Aj Aa)(d:F):Fm:=match b with|some c=>PT.AM a c (A d)|none=>a
def cM(b:K):Ak:= @Int.rec (λ_=>Ak) (λa=>Co a 9223372036854775807) (λa=>Co a 9223372036854775807) b
def IW(b:IntKind)(a:K):K:=Pa (Bb (VZ b) 3) (Pa (cM a) a (b.wrap a)) (b.wrap a)
def QO(a:Ak):Ak:= @Bool.rec (λ_=>Ak) L Ac a
def ew(d:BinOp)(a:IntKind)(c e:K):Aj F:=
 match d,e with
 | .shl,.ofNat b=>A (.i a (a.wrap (c*2^(min b a.bits))))
 | .shr,.ofNat b=>A (.i a (c.fdiv (2^(min b a.bits))))
 |_,_=>O
def oK(d:BinOp)(a:IntKind)(b c:K):Aj F:=
 match d with
 | .and=>A (.i a (a.wrap (BitVec.ofInt a.bits b&&&BitVec.ofInt a.bits c).toNat))
 | .or=>A (.i a (a.wrap (BitVec.ofInt a.bits b|||BitVec.ofInt a.bits c).toNat))
 | .xor=>A (.i a (a.wrap (BitVec.ofInt a.bits b^^^BitVec.ofInt a.bits c).toNat))
 |_=>O
def XH(a:IntKind)(b c:K):F:=.i a (IW a (cJ b c))
def mF(a:IntKind)(b c:K):F:=.i a (IW a (R9 b c))
def kv(a:IntKind)(b c:K):F:=.i a (IW a (b*c))
def hh(_:IntKind)(a b:K):F:=.b (Kf a b)
def kz(_:IntKind)(a b:K):F:=.b (QO (Kf a b))
def ke(_:IntKind)(a b:K):F:=.b (QO (Mq b a))
def jW(_:IntKind)(a b:K):F:=.b (Mq a b)
def i1(_:IntKind)(a b:K):F:=.b (QO (Mq a b))
def iO(_:IntKind)(a b:K):F:=.b (Mq b a)
def AcC(a:IntKind)(c b:K):Aj F:=An (Kf b 0) O (A (.i a (IW a (c.tdiv b))))
def AdC(b:IntKind)(c a:K):Aj F:=An (Kf a 0) O (A (.i b (c.tmod a)))
def aZ(d:BinOp)(a:IntKind)(b c:K):Aj F:=
 match d with
 | .add=>A (XH a b c)
 | .sub=>A (mF a b c)
 | .mul=>A (kv a b c)
 | .quo=>AcC a b c
 | .rem=>AdC a b c
 | .eql=>A (hh a b c)
 | .neq=>A (kz a b c)
 | .lss=>A (ke a b c)
 | .leq=>A (jW a b c)
 | .gtr=>A (i1 a b c)
 | .geq=>A (iO a b c)
 |d=>oK d a b c
def a0(c:BinOp)(a b:C D):Aj F:=
 match c with
 | .eql=>A (.b (EB a b))
 | .neq=>A (.b (!(EB a b)))
 |_=>O
def Ie(c:D):F->F->Aj Ak
 | .i e a,.i d b=>An (Bb c 0) (An (H8 e d) (A (Kf a b)) O) O
 | .b a,.b b=>An (Bb c 1) (A (a==b)) O
 | .s a,.s b=>An (Bb c 2) (A (EB a b)) O
 |_,_=>O
def KD(b:Aj Ak)(a:Aj Ak):Aj Ak:=match b with
 |some L=>a
 |some Ac=>match a with
  |some _=>A Ac
  |none=>O
 |none=>O
def G2(g:C D):C F->C F->Aj Ak:=
 @List.rec D (λ_=>C F->C F->Aj Ak)
  (λa b=> @List.rec F (λ_=>Aj Ak) (@List.rec F (λ_=>Aj Ak) (A L) (λ_ _ _=>O) b) (λ_ _ _=>O) a)
  (λf _ e a b=> @List.rec F (λ_=>Aj Ak) O (λc h _=> @List.rec F (λ_=>Aj Ak) O (λd i _=>KD (Ie f c d) (e h i)) b) a) g
def J8(c:Ak)(d:C D):F->F->Aj Ak
 | .S a,.S b=>An c (G2 d a b) O
 |a,b=>An c O (G2 d [a] [b])
def Eg:Aj Ce->Aj (D×C F)
 |some (.I b a)=>A (b,a)
 |some (.rc b a)=>A (b,a)
 |_=>O
def Vv:Aj Ce->Aj (D×C F)
 |some (.I b a)=>A (b,a)
 |_=>O
def Ir:Aj Ce->Aj (C BL×D)
 |some (.Bu b a)=>A (b,a)
 |some (.rm b a)=>A (b,a)
 |_=>O
def Pw:Aj Ce->Aj (C BL×D)
 |some (.Bu b a)=>A (b,a)
 |_=>O
def G.I(b:G)(a:Aa):Aj (D×C F):=Eg (b.N a)
def G.AU(f:G)(e:Aa)(d a:D):Aj (C F):=match f.I e with
 |some (c,b)=>An (Co (d+a) c) (A (An (Bb a c) b (Xp a (Yb d b)))) O
 |none=>O
def G.AA(b:G)(a:Aa)(d:D):Aj F:=match b.I a with
 |some (_,c)=>WC d c
 |none=>O
def G.EY(c:G)(b:Aa)(e d:D)(f:C F):Aj G:=match Vv (c.N b)with
 |some (a,g)=>An (Co (e+d) a) (A (c.set b (.I a (An (Bb d a) f (DJ e f g))))) O
 |none=>O
def RR(f:C (D×D)):C F->C F->Aj (C F):=
 @List.rec (D×D) (λ_=>C F->C F->Aj (C F)) (λb a=> @List.casesOn F (λ_=>Aj (C F)) b (A a) (λ_ _=>O))
  (λc _ e b a=> @List.casesOn F (λ_=>Aj (C F)) b O (λd g=>An (Bb (BK d.I) c.2) (e g (DJ c.1 d.I a)) O)) f
def UX(e:D)(d:C F):Aj (C F):=
 @List.rec F (λ_=>Aj (C F)) (A []) (λa _ c=>An (Bb (BK a.I) e) (match c with
  |some b=>A (EK a.I b)
  |none=>O) O) d
def HO(h:G)(b a:D):F->Aj (C F)
 | .Z e j i _ k=>An (Bb k b&&Co a i) (An (Bb a 0) (A []) (h.AU e j (a*b))) O
 | .sn=>An (Bb a 0) (A []) O
 | .s d=>An (Bb b 1&&Co a d.l) (A (Xp a (d.m λf=>.i .u8 (Int.ofNat f)))) O
 | .CZ c=>An (Co a c.l&&(c.all λg=>Bb g.l b)) (A ((c.t a).flatten)) O
 |_=>O
def KP:F->Aj D
 | .Z _ _ c _ _=>A c
 | .sn=>A 0
 | .s b=>A b.l
 | .CZ a=>A a.l
 |_=>O
def G3(c:Ak)(h:C D)(g:F)(e:C BL):D->Aj (Aj (D×BL)):=
 @List.rec BL (λ_=>D->Aj (Aj (D×BL))) (λ_=>A O)
  (λa _ f b=> @Option.casesOn Ak (λ_=>Aj (Aj (D×BL))) (J8 c h g a.HS) O (λd=>An d (A (A (b,a))) (f (b+1)))) e
def V4(a:Ak)(b:C D):F->Ak
 | .S c=>An a (Bb (BK c) b.l) Ac
 |_=>QO a
def Mh(a:Ak)(c:C D)(b:F)(d:C BL):Aj (Aj (D×BL)):=An (V4 a c b) (G3 a c b d 0) O
def Vp(c d:D)(f e:Ak)(g:C F):Aj (D×D):=
 match f,e,g with
 |false,Ac,[]=>A (0,c)
 |true,Ac,[.i _ (.ofNat b)]=>An (Co b c) (A (b,c)) O
 |false,L,[.i _ (.ofNat a)]=>An (Co a d) (A (0,a)) O
 |true,L,[.i _ (.ofNat b),.i _ (.ofNat a)]=>An (Co a d&&Co b a) (A (b,a)) O
 |_,_,_=>O
def HQ:Rd->Ak
 | .ld _| .Dg| .Zg| .Je .. =>L
 |_=>Ac
def hs:C F->Aj F
 |[a]=>A a
 |_=>O
def C8:C F->Aj F
 |[.b a,b,c]=>A (An a b c)
 |_=>O
def BE(d:C F)(b:C (D×D))(c:C F):Aj F:=match RR b c d with
 |some a=>A (.S a)
 |none=>O
def Bf(b:D)(d:G):C F->Aj F
 |[.p c e]=>match d.AU c e b with
  |some a=>A (.S a)
  |none=>O
 |[.pi a]=>An (Co b a.l) (A (.S (a.t b))) O
 |_=>O
def AW(b:G):C F->Aj F
 |[.p a d]=>b.AA a d
 |[.pi c]=>c[0]?
 |_=>O
def dB:F->Aj F
 | .pn| .LL| .fn=>O
 |a=>A a
def DT:C F->Aj F
 |[a]=>dB a
 |_=>O
def A7(a:BinOp):C F->Aj F
 |[.i b c,.i e d]=>match a with
  | .shl| .shr=>ew a b c d
  |a=>An (H8 b e) (aZ a b c d) O
 |_=>O
def F4(a:BinOp):C F->Aj F
 |[.s b,.s c]=>a0 a b c
 |_=>O
def Fx(c:Ak):C F->Aj F
 |[.b a,.b b]=>A (.b (An c (a !=b) (a==b)))
 |_=>O
def F5(c:Ak)(b:C D):C F->Aj F
 |[.S d,.S e]=>match G2 b d e with
  |some a=>A (.b (An c (!a) a))
  |none=>O
 |_=>O
def GO(a:Ak):C F->Aj F
 |[.pn,.pn]=>A (.b (!a))
 |[.p _ _,.pn]=>A (.b a)
 |[.pn,.p _ _]=>A (.b a)
 |[.pi _,.pn]=>A (.b a)
 |[.pn,.pi _]=>A (.b a)
 |_=>O
def H1(a:Ak):C F->Aj F
 |[.sn,.sn]=>A (.b (!a))
 |[.Z ..,.sn]=>A (.b a)
 |[.sn,.Z ..]=>A (.b a)
 |[.CZ (_::_),.sn]=>A (.b a)
 |[.sn,.CZ (_::_)]=>A (.b a)
 |_=>O
def Ii:C F->Aj F
 |[.i a b]=>A (.i a (IW a (R9 0 b)))
 |_=>O
def DW:C F->Aj F
 |[.b a]=>A (.b (!a))
 |_=>O
def Hy(a:IntKind):C F->Aj F
 |[.i _ b]=>A (.i a (IW a b))
 |_=>O
def Bt(a:D):C F->Aj F
 |[.p b d]=>A (.p b (d+a))
 |[.pi c]=>A (.pi (c.d a))
 |_=>O
def De(b:D):C F->Aj F
 |[.S a]=>WC b a
 |_=>O
def AZ(b:D):C F->Aj F
 |[.Z d g f _ h,.i _ (.ofNat a)]=>An (Nat.blt a f&&Bb h b) (A (.p d (g+a*b))) O
 |[.CZ e,.i _ (.ofNat a)]=>match e[a]?with
  |some c=>An (Bb c.l b) (A (.pi c)) O
  |none=>O
 |_=>O
def HN:C F->Aj F
 |[.s c,.i _ (.ofNat b)]=>match c[b]?with
  |some a=>A (.i .u8 (Int.ofNat a))
  |none=>O
 |_=>O
def NY(a b:D):D:=match a with
 |0=>0
 |a+1=>a-b+1
def TE(b a:D):D:=match a with
 |0=>b
 |a+1=>a
def Hz(d:D)(g f:Ak):C F->Aj F
 | .Z j l i h m::b=>An (Bb m d) (match Vp i (TE i h) g f b with
  |some (a,e)=>A (.Z j (l+a*d) (e-a) (NY h a) d)
  |none=>O) O
 | .sn::b=>match Vp 0 0 g f b with
  |some _=>A .sn
  |none=>O
 | .CZ c::b=>An (c.all λk=>Bb k.l d) (match Vp c.l c.l g f b with
  |some (a,e)=>A (.CZ ((c.t e).d a))
  |none=>O) O
 |_=>O
def Ea:C F->Aj F
 |[.Z _ _ b _ _]=>A (.i .n (Int.ofNat b))
 |[.sn]=>A (.i .n 0)
 |[.CZ a]=>A (.i .n (Int.ofNat a.l))
 |_=>O
def H2:C F->Aj F
 |[.s a]=>A (.i .n (Int.ofNat a.l))
 |_=>O
def Ig(b:G):C F->Aj F
 |[.mn]=>A (.i .n 0)
 |[.m d]=>match Ir (b.N d)with
  |some (a,_)=>A (.i .n (Int.ofNat a.l))
  |none=>O
 |[.mi c _]=>A (.i .n (Int.ofNat c.l))
 |_=>O
def If:C F->Aj F
 |[.sn]=>A (.i .n 0)
 |[.Z _ _ _ (a+1) _]=>A (.i .n (Int.ofNat a))
 |_=>O
def Ca(a:D):C F->Aj F
 |[.AC b]=>WC a b
 |_=>O
def JB(a:D):C F->Aj F
 |[b]=>A (.ic a b)
 |_=>O
def Sv(b:IntKind):K->C F->Aj F
 |a,[]=>A (.i b a)
 |a,.i d c::e=>An (H8 b d) (Sv b (An (Mq c a) a c) e) O
 |_,_=>O
def Ih:C F->Aj F
 | .i a c::b=>Sv a c b
 |_=>O
def RK:C F->C F->C BL
 |a::b,c::d=>⟨a,c,0⟩::RK b d
 |_,_=>[]
def Ql(b:G):F->Aj (C BL)
 | .mn=>A []
 | .m d=>match Ir (b.N d)with
  |some (a,_)=>A a
  |none=>O
 | .mi c e=>A (RK c e)
 |_=>O
def E7(d:Ak)(h:C D)(c:F)(b:Ak)(f:G):C F->Aj F
 |[i,g]=>match Ql f i with
  |some e=>match Mh d h g e with
   |some (A (_,a))=>A (An b (.AC [a.Dv,.b L]) a.Dv)
   |some O=>A (An b (.AC [c,.b Ac]) c)
   |none=>O
  |none=>O
 |_=>O
def Rd.ev(p:Rd)(a:C F)(d:G):Aj F:=
 match p with
 | .mv=>hs a
 | .pick=>C8 a
 | .build c o=>BE c o a
 | .ld b=>Bf b d a
 | .Dg=>AW d a
 | .dA=>DT a
 | .aY g=>A7 g a
 | .a1 g=>F4 g a
 | .hg b=>Fx b a
 | .hb b e=>F5 b e a
 | .hj b=>GO b a
 | .hk b=>H1 b a
 | .neg=>Ii a
 | .kM=>DW a
 | .gI l=>Hy l a
 | .fa f=>Bt f a
 | .hU f=>De f a
 | .ia c=>AZ c a
 | .jq=>HN a
 | .Na c m j=>Hz c m j a
 | .Su=>Ea a
 | .da=>H2 a
 | .Zg=>Ig d a
 | .ba=>If a
 | .ext k=>Ca k a
 | .Wv i=>A (.f i a)
 | .kt q=>JB q a
 | .max=>Ih a
 | .Je h e c n=>E7 h e c n d a
def GG(c:C F)(a:D):C F:= @Nat.rec (λ_=>C F) [] (λ_ b=>EK c b) a
def nP(b:Aa):C F->Aj (Ce×F)
 |[a]=>A (.I (BK a.I) a.I,.p b 0)
 |_=>O
def CB(a b:D)(d:Aa)(c:C F):Aj (Ce×F):=An (Bb (BK c) a) (match UX b c with
 |some e=>A (.I (a*b) e,.Z d 0 a (a+1) b)
 |none=>O) O
def Gi(f:C F)(c d:D)(e:Aa):C F->Aj (Ce×F)
 |[.i _ (.ofNat b),.i _ (.ofNat a)]=>An (Co b a&&Co (a*d) Hs) (A (.I (a*c) (GG f a),.Z e 0 b (a+1) c)) O
 |_=>O
def Al.ev(e:Al)(c:C F)(a:Aa):Aj (Ce×F):=
 match e with
 | .alloc d=>A (.I (BK d) d,.p a 0)
 | .box=>nP a c
 | .E_ g b=>CB g b a c
 | .dt h b f=>Gi h b f a c
 | .ds=>A (.Bu [] 0,.m a)
def Y2:Aj Ce->Ak
 |some (.I _ _)=>L
 |_=>Ac
def T0(d:G)(e:Aa)(h a f c b:D)(i g:C F):Aj (F×G):=
 match f with
 |0=>An (Y2 (d.N e)) (A (.Z d.next 0 (a+b) 0 c,(d.Hg e).V (.I ((a+b)*c) (EK i g)))) O
 |f+1=>An (Co (a+b) f)
  (match d.EY e (h+a*c) (b*c) g with
   |some j=>A (.Z e h (a+b) (f+1) c,j)
   |none=>O)
  (A (.Z d.next 0 (a+b) 0 c,d.V (.I ((a+b)*c) (EK i g))))
def LA(b:G)(d g:D)(l:F)(a:D)(i:C F):Aj (F×G):=
 match l with
 | .sn=>An (Bb a 0) (A (.sn,b)) (An (Co (a*g) Hs) (A (.Z b.next 0 a 0 d,b.V (.I (a*d) i))) O)
 | .Z e f c h j=>An (Bb j d) (An (Bb a 0) (A (.Z e f c h j,b))
  (An (Co ((c+a)*g) Hs)
   (match(An (Bb c 0) (A []) (b.AU e f (c*d)))with
    |none=>O
    |some k=>T0 b e f c h d a k i)
   O)) O
 |_=>O
def Oi(c:BL->BL)(b:C BL):D->C BL:=
 @List.rec BL (λ_=>D->C BL) (λ_=>[]) (λa g d f=> @Nat.casesOn (λ_=>C BL) f (c a::g) (λe=>a::d e)) b
def W8(b:F)(a:BL):BL:=⟨a.HS,b,a.Nm⟩
def A1(b:D)(d:G):C F->Aj (F×G)
 |[.p c f,a]=>An (An (Bb (BK a.I) b) (Ct a.I) Ac) (match d.EY c f b a.I with
  |some e=>A (Ax,e)
  |none=>O) O
 |_=>O
def Eo(d f:D)(a:G):C F->Aj (F×G)
 |[g,e]=>match KP e with
  |some b=>match HO a d b e with
   |some c=>An (Ct c) (LA a d f g b c) O
   |none=>O
  |none=>O
 |_=>O
def HL(c:C F)(f b:D)(d:G):C F->Aj (F×G)
 |[e,.i _ (.ofNat a)]=>An (An (Co (a*b) Hs) (Ct (GG c a)) Ac) (LA d f b e a (GG c a)) O
 |_=>O
def RJ(a:G)(c b:D)(f:C F):F->Aj (F×G)
 | .Z d g _ _ h=>An (Bb h c) (An (Bb b 0) (A (.i .n 0,a)) (match a.EY d g (b*c) f with
  |some e=>A (.i .n (Int.ofNat b),e)
  |none=>O)) O
 | .sn=>A (.i .n 0,a)
 |_=>O
def G1(f:D)(b:G):C F->Aj (F×G)
 |[a,g]=>match KP a,KP g with
  |some c,A d=>match HO b f (min d c) g with
   |some e=>An (Ct e) (RJ b f (min d c) e a) O
   |none=>O
  |_,_=>O
 |_=>O
def Hx(g:Ak)(i:C D)(c:G):C F->Aj (F×G)
 |[.m d,e,f]=>match Pw (c.N d)with
  |some (b,a)=>match Mh g i e b with
   |some (A (h,_))=>A (Ax,c.set d (.Bu (Oi (W8 f) b h) a))
   |some O=>A (Ax,c.set d (.Bu (b++[⟨e,f,a⟩]) (a+1)))
   |none=>O
  |none=>O
 |_=>O
def Hw(h:Ak)(i:C D)(g:F)(b:G):C F->Aj (F×G)
 |[.m f,e]=>match Pw (b.N f)with
  |some (d,a)=>match Mh h i e d with
   |some (A (_,c))=>A (.AC [c.Dv,.i .n (Int.ofNat c.Nm)],b)
   |some O=>A (.AC [g,.i .n (Int.ofNat a)],b.set f (.Bu (d++[⟨e,g,a⟩]) (a+1)))
   |none=>O
  |none=>O
 |_=>O
def Qc(e:D)(c:C BL):D->Aj D:=
 @List.rec BL (λ_=>D->Aj D) (λ_=>O) (λb _ d a=>An (Bb b.Nm e) (A a) (d (a+1))) c
def HM(b:G):C F->Aj (F×G)
 |[.m c,.i _ (.ofNat d),g]=>match Pw (b.N c)with
  |some (a,e)=>match Qc d a 0 with
   |some f=>A (Ax,b.set c (.Bu (Oi (W8 g) a f) e))
   |none=>O
  |none=>O
 |_=>O
def Ef.ev(h:Ef)(b:C F)(a:G):Aj (F×G):=
 match h with
 | .st i=>A1 i a b
 | .EK c e=>Eo c e a b
 | .aJ g c e=>HL g c e a b
 | .bj c=>G1 c a b
 | .Cf d f=>Hx d f a b
 | .dr d f g=>Hw d f g a b
 | .bI=>HM a b
inductive CK where
 |CP (b:PT F) (a:G)
 |DG (b:PT F) (a:G)
 |Cm (c:D) (b:PT F) (a:G)
 |Cw
def AO(a:Ak):F->Ak
 | .b b=>b==a
 |_=>Ac
def HJ(a:Aj (Aa×Ak))(d:Fm):Ak:=
 match a with
 |none=>L
 |some (b,c)=>AO c (Fm.at d b)
def A3(d:Fm)(a:C Od):C F:= @List.rec Od (λ_=>C F) [] (λc _ b=>c.ev d::b) a
abbrev Bh:=Aa->C F->G->Aj (F×G)
def Ik(b:Rd)(d:C F)(a:G):Aj (F×G):=match b.ev d a with
 |some c=>A (c,a)
 |none=>O
def DX(b:Al)(e:C F)(a:G):Aj (F×G):=match b.ev e a.next with
 |some (d,c)=>A (c,a.V d)
 |none=>O
def Du(b:Bh)(c:F)(f:C F)(e:G):Aj (F×G):=match c with
 | .f d a=>b d (f++a) e
 |_=>O
def Df(b:G->F->Aj (F×G)):G->C F->Aj (C F×G)
 |a,[]=>A ([],a)
 |a,g::h=>match b a g with
  |none=>O
  |some (e,c)=>match Df b c h with
   |none=>O
   |some (f,d)=>A (e::f,d)
def I3(a:D):D->C F->C (C F)
 |0,_=>[]
 |c+1,b=>b.t a::I3 a c (b.d a)
def DI:D->G->F->Aj (F×G)
 |0,_,_=>O
 |e+1,a,t=>match t with
  | .p f i=>match Eg (a.N f)with
   |some (h,c)=>match Df (DI e) a c with
    |some (d,b)=>A (.pi (d.d i),b.set f (.rc h c))
    |none=>O
   |none=>O
  | .Z f i g _ l=>An (Bb g 0) (A (.CZ [],a)) (match Eg (a.N f)with
   |some (h,c)=>An (Co (i+g*l) h) (match Df (DI e) a ((c.d i).t (g*l))with
    |some (d,b)=>A (.CZ (I3 l g d),b.set f (.rc h c))
    |none=>O) O
   |none=>O)
  | .m m=>match Ir (a.N m)with
   |some (j,n)=>match Df (DI e) a (j.m (·.HS))with
    |some (r,o)=>match Df (DI e) o (j.m (·.Dv))with
     |some (v,p)=>A (.mi r v,p.set m (.rm j n))
     |none=>O
    |none=>O
   |none=>O
  | .sn=>A (.CZ [],a)
  | .mn=>A (.mi [] [],a)
  | .S c=>match Df (DI e) a c with
   |some (d,b)=>A (.S d,b)
   |none=>O
  | .AC c=>match Df (DI e) a c with
   |some (d,b)=>A (.AC d,b)
   |none=>O
  | .f q c=>match Df (DI e) a c with
   |some (d,b)=>A (.f q d,b)
   |none=>O
  | .ic s k=>match DI e a k with
   |some (w,b)=>A (.ic s w,b)
   |none=>O
  |k=>A (k,a)
def Dq(a:G)(b:F):Aj (F×G):=DI 40 a b
def F9(a:G)(b:C F):Aj (C F×G):=Df Dq a b
def EE(e:Bh)(h:Io)(b:Fm)(c:G):Aj (F×G):=
 match h with
 | .rd i a=>Ik i (A3 b a) c
 | .al d a=>DX d (A3 b a) c
 | .ef f a=>f.ev (A3 b a) c
 | .call g a=>Du e (g.ev b) (A3 b a) c
 | .Dd=>O
def kU(c:Fm->G->CK)(e:Fm)(a:Aj Aa):Aj (F×G)->CK
 |some (d,b)=>c (Ej e a d) b
 |none=>.Cw
def Ij(d:Bh):C CJ->Fm->G->CK
 |[],a,b=>.CP a b
 |c::e,a,b=>An (HJ c.Ew a) (kU (Ij d e) a c.DH (EE d c.op a b)) (Ij d e (Ej a c.DH Ax) b)
structure EZ where
 Kp:D
 r:Rd
 xs:C F
 v:F
def BV(b:Rd)(e:C F)(a:G)(d:F):Ak:=match b.ev e a with
 |some c=>Vn c d
 |none=>Ac
def CY(b:D)(c:G)(d:C EZ):Ak:=
 @List.rec EZ (λ_=>Ak) L (λa _ e=>An (An (Nat.testBit b a.Kp) L (BV a.r a.xs c a.v)) e Ac) d
def Er(b:D)(e:Rd)(g:C F)(f:F)(d:C (D×G)):Ak:=
 @List.rec (D×G) (λ_=>Ak) L (λa _ c=>An (An (Nat.testBit b a.1) L (BV e g a.2 f)) c Ac) d
def Ahl:Io->Ak
 | .rd a _=>HQ a
 |_=>Ac
def H7:Io->Ak
 | .ef _ _| .call _ _| .Dd=>L
 |_=>Ac
structure KX where
 Kj:C EZ
 BX:C (D×G)
def OW(f e:D)(b:Rd)(d:C F)(c:F)(a:KX):Aj KX:=
 An (HQ b) (An (Er e b d c a.BX) (A ⟨⟨f,b,d,c⟩::a.Kj,a.BX⟩) O) (A a)
def JA(c b:D)(f:Io)(j:Fm)(d:G)(h:F)(e:G)(a:KX):Aj KX:=
 match f with
 | .rd g i=>OW c b g (A3 j i) h a
 | .al _ _=>A a
 |_=>An (CY b e a.Kj) (A ⟨a.Kj,(c,d)::a.BX⟩) O
def Ic(h:KX->Fm->G->CK)(i:D)(a:CJ)(e:KX)(d:Fm)(g:G):Aj (F×G)->CK
 |some (c,b)=>match JA i a.bits a.op d g c b e with
  |some f=>h f (Ej d a.DH c) b
  |none=>.Cw
 |none=>.Cw
def Fy(g:Bh)(h:C CJ):D->KX->Fm->G->CK:=
 @List.rec CJ (λ_=>D->KX->Fm->G->CK) (λ_ _ a b=>.CP a b)
  (λc _ f d e a b=>An (HJ c.Ew a) (Ic (f (d+1)) d c e a b (EE g c.op a b)) (f (d+1) e (Ej a c.DH Ax) b)) h
def lR(c:Fm)(d:G):Gh->Aj F
 | .t b=>A (Fm.at c b)
 | .Cy a b=>Bf b d [Fm.at c a]
 | .NZ a=>AW d [Fm.at c a]
def RI(c:Aj F)(d:Aj (C F)):Aj (C F):=match c with
 |some a=>match d with
  |some b=>A (a::b)
  |none=>O
 |none=>O
def Lm(e:Fm)(a:G)(c:C Gh):Aj (C F):= @List.rec Gh (λ_=>Aj (C F)) (A []) (λd _ b=>RI (lR e a d) b) c
def SH:C F->F
 |[a]=>a
 |b=>.AC b
def Kc(d:C F):Aa->Fm->Fm:=
 @List.rec F (λ_=>Aa->Fm->Fm) (λ_ a=>a) (λe _ c b a=>c b.IP (PT.AM a b (A e))) d
def Wj(d:C Gh):CK->Aj (F×G)
 | .CP c a=>match Lm c a d with
  |some b=>A (SH b,a)
  |none=>O
 | .DG c a=>match Lm c a d with
  |some b=>A (SH b,a)
  |none=>O
 |_=>O
def Gc(b:Fm->G->CK):CK->CK
 | .CP d a=>b d a
 |c=>c
def LD(d:D):CK->CK
 | .Cm b c a=>An (Bb b d) (.CP c a) (.Cm b c a)
 |e=>e
def J6(a b:CK):F->CK
 | .b L=>a
 | .b Ac=>b
 |_=>.Cw
def Ip(a:Fm->G->CK)(c:D):Fm->G->CK:= @Nat.rec (λ_=>Fm->G->CK) (λ_ _=>.Cw) (λ_ d e b=>Gc d (a e b)) c
def B5(d:D)(c:Bh):HK->Fm->G->CK
 | .skip,a,b=>.CP a b
 | .It h,a,b=>Ij c h a b
 | .HZ h,a,b=>Fy c h 0 ⟨[],[]⟩ a b
 | .EB f e,a,b=>Gc (B5 d c e) (B5 d c f a b)
 | .Hd i f e,a,b=>J6 (B5 d c f a b) (B5 d c e a b) (i.ev a)
 | .A4 g e,a,b=>LD g (B5 d c e a b)
 | .DY e,a,b=>Ip (B5 d c e) d a b
 | .Cm g,a,b=>.Cm g a b
 | .DG,a,b=>.DG a b
 | .Dd,_,_=>.Cw
def Nn(b:D)(d:Bh)(a:GY)(c:C F)(e:G):Aj (F×G):=Wj a.Hn (B5 b d a.Mb (Kc c .h .nil) e)
def TD(b:Aa->Aj GY)(a:D)(h:D):Bh:=
 @Nat.rec (λ_=>Bh) (λ_ _ _=>O) (λ_ d e c g=>match b e with
  |none=>O
  |some f=>Nn a d f c g) h
mutual
def UF:D->Bl->Aj F
 |0,_=>O
 |a+1,e=>match e with
  | .bool b=>A (.b b)
  | .int i b=>A (.i i b)
  | .string j=>A (.s (j.data.l.m UInt8.toNat))
  | .pointer O=>A .pn
  | .slice O 0 0=>A .sn
  | .map O=>A .mn
  | .nilFunc=>A .fn
  | .nilIface=>A .LL
  | .func (.func f) h g=>if f<1000000/\h.z=0/\g.z=0 then A (.f (Ar f) [])else O
  | .agg c=>match SG a c.l with
   |some d=>A (.S d)
   |none=>O
  | .tuple c=>match SG a c.l with
   |some d=>A (.AC d)
   |none=>O
  |_=>O
def SG:D->C Bl->Aj (C F)
 |0,_=>O
 |_+1,[]=>A []
 |a+1,e::k=>match UF a e,SG a k with
  |some b,A l=>A (b::l)
  |_,_=>O
end
def od:Operand->Aj Od
 | .tmp b=>if Nat.blt b 1000000 then A (.t (Ar b))else O
 | .const c=>match UF 400 c with
  |some d=>A (.c d)
  |none=>O
 | .global _=>O
 | .func a=>if Nat.blt a 1000000 then A (.c (.f (Ar a) []))else O
def D6:C Operand->Aj (C Od)
 |[]=>A []
 |d::c=>match od d,D6 c with
  |some a,A b=>A (a::b)
  |_,_=>O
section
variable(t:Program)
def sz(b:B9):Aj D:=match t.info? b with
 |some a=>A a.size
 |none=>O
def Qd(b:B9):Aj D:=match t.info? b with
 |some a=>A a.bytes
 |none=>O
def Lt(b:B9):Aj F:=match t.info? b with
 |some a=>match a.zero with
  |some c=>UF 400 c
  |none=>O
 |none=>O
def Ey(a:B9):Ak:=match t.underlying a with
 |some (.struct _)|some (.array _ _)=>L
 |_=>Ac
def TJ(t:Program):D->C Field->Ak
 |_,[]=>L
 |b,a::d=>match sz t a.type with
  |some c=>Bb a.offset b&&TJ t (b+c) d
  |none=>Ac
def T_(b:B9->Aj (C D)):C Field->Aj (C D)
 |[]=>A []
 |a::c=>match b a.type,T_ b c with
  |some d,A e=>if a.name != "_" then A (d++e)else O
  |_,_=>O
def IJ:D->B9->Aj (C D)
 |0,_=>O
 |d+1,a=>match t.underlying a with
  |some (.int _)=>if sz t a==A 1 then A [0]else O
  |some .bool=>if sz t a==A 1 then A [1]else O
  |some .string=>if sz t a==A 1 then A [2]else O
  |some (.struct b)=>if !t.stoodInHeld a&&TJ t 0 b.l then(match T_ (IJ d) b.l with
   |some c=>if sz t a==A c.l then A c else O
   |none=>O)else O
  |_=>O
def MF(b:Rd)(c:Operand):Aj Io:=match od c with
 |some a=>A (.rd b [a])
 |none=>O
def Iw(b:Rd)(c:C Operand):Aj Io:=match D6 c with
 |some a=>A (.rd b a)
 |none=>O
def Vh(b:Al)(c:C Operand):Aj Io:=match D6 c with
 |some a=>A (.al b a)
 |none=>O
def OX(b:Ef)(c:C Operand):Aj Io:=match D6 c with
 |some a=>A (.ef b a)
 |none=>O
def ZM(b:Br Field):C (D×Operand)->Aj (C (D×D))
 |[]=>A []
 |(c,_)::f=>match b[c]?with
  |some a=>match sz t a.type,ZM b f with
   |some e,A d=>A ((a.offset,e)::d)
   |_,_=>O
  |none=>O
def PC(a:D)(c:C (D×Operand)):C (D×D):=c.m λb=>(b.1*a,a)
def T9:D->C (D×Operand)->Ak
 |_,[]=>L
 |a,b::c=>Bb b.1 a&&T9 (a+1) c
def FM(a:D):C (D×D)->Ak
 |[]=>L
 |b::c=>Co (b.1+b.2) a&&FM a c
def Pe(a:B9):Aj (Ak×C D):=match IJ t 8 a with
 |some b=>A (Ey t a,b)
 |none=>O
def RM(d:B9)(a:Ak)(b c:Operand):Aj Io:=
 match t.underlying d with
 |some (.int _)=>Iw (.aY (if a then .neq else .eql)) [b,c]
 |some .string=>Iw (.a1 (if a then .neq else .eql)) [b,c]
 |some .bool=>Iw (.hg a) [b,c]
 |some (.pointer _)=>Iw (.hj a) [b,c]
 |some (.slice _)=>Iw (.hk a) [b,c]
 |some (.struct _)=>match IJ t 8 d with
  |some e=>if !t.eqGuardType t.depth d then Iw (.hb a e) [b,c]else O
  |none=>O
 |_=>O
def QR(b a:D):Ak:=Co 1 b&&Co 1 a&&Co a 100000
def TG(a:Call)(_type:B9):Aj Io:=
 match a.callee with
 | .value h=>match od h,D6 a.args.l with
  |some i,A j=>A (.call i j)
  |_,_=>O
 | .invoke _ _=>O
 | .builtin g=>
  match g,a.argTypes[0]?with
  | .len,A b=>match t.underlying b with
   |some .string=>Iw .da a.args.l
   |some (.slice _)=>Iw .Su a.args.l
   |some (.map _ _)=>Iw .Zg a.args.l
   |_=>O
  | .cap,A b=>match t.underlying b with
   |some (.slice _)=>Iw .ba a.args.l
   |_=>O
  | .max,A b=>match t.underlying b with
   |some (.int _)=>Iw .max a.args.l
   |_=>O
  | .append,A b=>match t.underlying b with
   |some (.slice d)=>match sz t d,Qd t d,Lt t d with
    |some c,A e,A f=>if QR c e&&Bb (BK f.I) c then
     (match a.argTypes[1]?with
      |none=>O
      |some k=>match t.underlying k with
       |some (.int _)=>OX (.aJ f.I c e) a.args.l
       |some _=>OX (.EK c e) a.args.l
       |none=>O)else O
    |_,_,_=>O
   |_=>O
  | .copy,A b=>match t.underlying b with
   |some (.slice d)=>match sz t d with
    |some c=>if Co 1 c then OX (.bj c) a.args.l else O
    |none=>O
   |_=>O
  |_,_=>O
def Es(G:Oper):Aj Io:=
 match G.op with
 | .move b| .assign b=>MF .mv b
 | .pick q h I=>Iw .pick [q,h,I]
 | .alloc c=>match Lt t c with
  |some e=>A (.al (.alloc e.I) [])
  |none=>O
 | .box _ b=>Vh .box [b]
 | .build a n=>match Lt t a,t.underlying a with
  |some (.S e),A (.struct i)=>match ZM t i n.l with
   |some H=>if i.l.all (λf=>(sz t f.type).isSome)&&FM e.l H then Iw (.build e H) (n.l.m (·.2))else O
   |none=>O
  |_,_=>O
 | .buildSlice a y n=>match t.underlying a with
  |some (.slice c)=>match sz t c,Lt t c with
   |some d,A e=>if Co (y*d) 1000000&&Bb (BK e.I) d&&Co 1 d then
    (if T9 0 n.l&&Bb n.z y then Vh (.E_ y d) (n.l.m (·.2))else O)else O
   |_,_=>O
  |_=>O
 | .insert a k j o| .mapUpdate a k j o=>match t.underlying a with
  |some (.map u _)=>match Pe t u with
   |some (p,s)=>OX (.Cf p s) [k,j,o]
   |none=>O
  |_=>O
 | .mapEntry a k j=>match t.underlying a with
  |some (.map u c)=>match Lt t c,Pe t u with
   |some e,A (p,s)=>OX (.dr p s e) [k,j]
   |_,_=>O
  |_=>O
 | .entryStore _ k v o=>OX .bI [k,v,o]
 | .load a h=>if Ey t a then(match sz t a with
  |some l=>MF (.ld l) h
  |none=>O)else(match t.underlying a with
  |some _=>MF .Dg h
  |none=>O)
 | .store a h o=>match sz t a with
  |some l=>OX (.st l) [h,o]
  |none=>O
 | .nilCheck b=>MF .dA b
 | .binOp m a b w _=>match m with
  | .eql=>RM t a Ac b w
  | .neq=>RM t a L b w
  |m=>match t.underlying a with
   |some (.int _)=>Iw (.aY m) [b,w]
   |some .string=>Iw (.a1 m) [b,w]
   |_=>O
 | .unOp m _ b=>match m with
  | .neg=>MF .neg b
  | .not=>MF .kM b
  |_=>O
 | .convert v M b=>match t.underlying v,t.underlying M with
  |some (.int _),A (.int j)=>MF (.gI j) b
  |_,_=>O
 | .makeInterface a b=>match t.underlying a with
  |some (.interface _)=>O
  |some _=>if a<1000000 then MF (.kt a) b else O
  |none=>O
 | .makeFunc P N J=>match P with
  | .func f=>if f<1000000/\N.z=0 then Iw (.Wv (Ar f)) J.l else O
  |_=>O
 | .makeMap _ O=>A (.al .ds [])
 | .makeSlice a x q=>match t.underlying a with
  |some (.slice c)=>match sz t c,Qd t c,Lt t c with
   |some d,A z,A e=>if QR d z&&Bb (BK e.I) d then Vh (.dt e.I d z) [x,q]else O
   |_,_,_=>O
  |_=>O
 | .slice a b F E O=>
  match D6 ([b]++F.toList++E.toList)with
  |none=>O
  |some x=>match t.underlying a with
   |some (.slice c)=>match sz t c with
    |some d=>A (.rd (.Na d F.isSome E.isSome) x)
    |none=>O
   |_=>O
 | .fieldAddr v b f=>match t.underlying v with
  |some (.struct i)=>match i[f]?with
   |some g=>match sz t g.type with
    |some l=>if Bb l 0 then O else MF (.fa g.offset) b
    |none=>O
   |none=>O
  |_=>O
 | .field a b f=>match t.underlying a with
  |some (.struct i)=>match i[f]?with
   |some g=>match sz t g.type with
    |some l=>if Ey t g.type then O else(match t.underlying g.type with
     |some _=>MF (.hU g.offset) b
     |none=>O)
    |none=>O
   |none=>O
  |_=>O
 | .indexAddr a b r=>match t.underlying a with
  |some (.slice c)=>match sz t c with
   |some d=>if Co 1 d then Iw (.ia d) [b,r]else O
   |none=>O
  |_=>O
 | .index a b r=>match t.underlying a with
  |some .string=>Iw .jq [b,r]
  |_=>O
 | .lookup a b r R=>match t.underlying a with
  |some (.map u c)=>match Lt t c,Pe t u with
   |some e,A (p,s)=>Iw (.Je p s e R) [b,r]
   |_,_=>O
  |_=>O
 | .extract b Q=>MF (.ext Q) b
 | .call q=>TG t q G.type
 |_=>O
def T1(d:Br Oper):Aj (D×Ak)->Aj (Aj (Aa×Ak))
 |none=>A O
 |some (b,e)=>match d[b]?with
  |some c=>match c.dst with
   |some a=>if Nat.blt a 1000000 then A (A (Ar a,e))else O
   |none=>O
  |none=>O
def Md(f:D)(c:Br Oper):C Oper->C D->C CJ
 |a::g,b=>(match T1 c a.guard with
  |some e=>(match a.dst with
   |some d=>if Nat.blt d f then{DH:=A (Ar d),op:=(Es t a).g .Dd,Ew:=e,bits:=b.headD 0}else{DH:=O,op:=.Dd,Ew:=O,bits:=0}
   |none=>{DH:=O,op:=(Es t a).g .Dd,Ew:=e,bits:=b.headD 0})
  |none=>{DH:=O,op:=.Dd,Ew:=O,bits:=0})::Md f c g b.tail
 |[],_=>[]
def Io.D6:Io->C Od
 | .rd _ a| .al _ a| .ef _ a=>a
 | .call b a=>b::a
 | .Dd=>[]
def Uz:C Od->C Aa
 |[]=>[]
 | .t b::a=>b::Uz a
 | .c _::a=>Uz a
def jZ:Aj (Aa×Ak)->C Aa
 |some (a,_)=>[a]
 |none=>[]
def T3(a:Aa):C Aa->Ak
 |[]=>Ac
 |b::c=>a==b||T3 a c
def Zh(a:CJ):C Aa:=jZ a.Ew++Uz a.op.D6
def Oq(d:D)(c a:CJ):Ak:=
 Nat.testBit a.bits d||
  ((match c.DH with
    |some b=> !(T3 b (Zh a))&& !(a.DH==A b)
    |none=>L)&&
   (match a.DH with
    |some b=> !(T3 b (Zh c))
    |none=>L)&&
   !(H7 c.op&&H7 a.op))
def ZH:C (D×CJ)->CJ->Ak
 |[],_=>L
 |(d,b)::c,a=>Oq d b a&&ZH c a
def Vg(b:D)(c:Oper):Ak:=c.after.l.all λa=> !Region.binds .any a||Nat.blt a.on b
def XL:C (D×CJ)->D->C (Oper×CJ)->Ak
 |_,_,[]=>L
 |c,a,b::d=>ZH c b.2&&Vg a b.1&&XL ((a,b.2)::c) (a+1) d
def Ya(b:C Oper)(a:C CJ):Ak:=XL [] 0 (b.zip a)
def Hv(a:D):Code->HK
 | .skip=>.skip
 | .region _ b Ac=>.It (Md t a b b.l (Bv b.z 0))
 | .region _ b L=>
  let f:=Md t a b b.l (Region.before b).l
  if Ya b.l f then .HZ f else .Dd
 | .seq d c=>.EB (Hv a d) (Hv a c)
 | .cond g d c=>match od g with
  |some h=>.Hd h (Hv a d) (Hv a c)
  |none=>.Dd
 | .block e c=>.A4 e (Hv a c)
 | .loop c=>.DY (Hv a c)
 | .exit e=>.Cm e
 | .ret=>.DG
 |_=>.Dd
def TH(t:Program):C ResultVar->Aj (C Gh)
 |[]=>A []
 |e::f=>match(match e with
   | .tmp a=>if Nat.blt a 1000000 then A (.t (Ar a))else O
   | .cell b a=>if Nat.blt b 1000000 then(if Ey t a then(match sz t a with
    |some d=>A (.Cy (Ar b) d)
    |none=>O)else(match t.underlying a with
    |some _=>A (.NZ (Ar b))
    |none=>O))else O:Aj Gh),TH t f with
  |some g,A c=>A (g::c)
  |_,_=>O
def I5(c:D):Aj GY:=
 match t.funcs[c]?with
 |some a=>match a.body,TH t a.results.l with
  |some b,A d=>if a.ntmps<=100000/\a.name≠ "runtime.NumGoroutine" then A {nt:=a.ntmps,Hn:=d,Mb:=Hv t a.ntmps b}else O
  |_,_=>O
 |none=>O
end
inductive LC where
 |skip
 |It (f:C CJ)
 |HZ (f:C CJ)
 |EB (b a:LC)
 |N5 (e:D) (c:C Aa) (b a:LC)
 |Hd (g:Od) (b a:LC)
 |A4 (d:D) (a:LC)
 |DY (e:D) (c:C Aa) (a:LC)
 |Cm (d:D)
 |DG
 |Dd
def LC.erase:LC->HK
 | .skip=>.skip
 | .It d=>.It d
 | .HZ d=>.HZ d
 | .EB b a=>.EB b.erase a.erase
 | .N5 _ _ b a=>.EB b.erase a.erase
 | .Hd e b a=>.Hd e b.erase a.erase
 | .A4 c a=>.A4 c a.erase
 | .DY _ _ a=>.DY a.erase
 | .Cm c=>.Cm c
 | .DG=>.DG
 | .Dd=>.Dd
inductive LI where
 |DS (a:LC) (e:Aj (D×C Aa))
 |BB (c:D)
 |DY (d:D) (b:C Aa) (a:LC)
def Sx(a:Aa):C Aa->Ak:= @List.rec Aa (λ_=>Ak) Ac (λb _ c=>An (Aa.eq a b) L c)
def XG(b:Aa)(a:C Aa):C Aa:=An (Sx b a) a (b::a)
def Re(c d:C Aa):C Aa:= @List.rec Aa (λ_=>C Aa) d (λa _ b=>XG a b) c
def Qj(d:Aa)(c:C Aa):C Aa:= @List.rec Aa (λ_=>C Aa) [] (λa _ b=>An (Aa.eq d a) b (a::b)) c
def eF(c d:C Aa):Ak:= @List.rec Aa (λ_=>Ak) L (λa _ b=>An (Sx a d) b Ac) c
def Km:C Od->C Aa
 |[]=>[]
 | .t b::a=>b::Km a
 | .c _::a=>Km a
def YT:Aj (Aa×Ak)->C Aa
 |some (a,_)=>[a]
 |none=>[]
def Io.SF:Io->C Od
 | .rd _ a| .al _ a| .ef _ a=>a
 | .call b a=>b::a
 | .Dd=>[]
def df(a:CJ)(b:C Aa):C Aa:=Re (YT a.Ew) (Re (Km a.op.SF) (match a.DH with|some c=>Qj c b|none=>b))
def Wq:C CJ->C Aa->C Aa
 |[],a=>a
 |b::c,a=>df b (Wq c a)
def D7:C Gh->C Aa
 |[]=>[]
 | .t c::a=>c::D7 a
 | .Cy b _::a=>b::D7 a
 | .NZ b::a=>b::D7 a
def lv(c:C Aa):LC->C Aa->(D->C Aa)->C Aa
 | .skip,a,_=>a
 | .It h,a,_=>Wq h a
 | .HZ h,a,_=>Wq h a
 | .EB d e,a,b=>lv c d (lv c e a b) b
 | .N5 _ f d _,_,b=>lv c d f b
 | .Hd j d e,a,b=>Re (Km [j]) (Re (lv c d a b) (lv c e a b))
 | .A4 g e,a,b=>lv c e a (λi=>An (Bb i g) a (b i))
 | .DY _ f _,_,_=>f
 | .Cm g,_,b=>b g
 | .DG,_,_=>c
 | .Dd,_,_=>[]
def Jg(c:C Aa):LC->C Aa->(D->C Aa)->Ak
 | .EB f b,d,a=>An (Jg c b d a) (Jg c f (lv c b d a) a) Ac
 | .N5 _ e f b,d,a=>An (eF (lv c b d a) e) (An (Jg c b d a) (Jg c f e a) Ac) Ac
 | .Hd _ f b,d,a=>An (Jg c f d a) (Jg c b d a) Ac
 | .A4 h b,d,a=>Jg c b d (λg=>An (Bb g h) d (a g))
 | .DY _ e b,_,a=>An (eF (lv c b e a) e) (Jg c b e a) Ac
 |_,_,_=>L
structure Pt where
 j:D
 L:C Aa
 c:LC
 S:C LI
def GV:LC->C LI->C Pt
 | .EB e b,a=>GV e (.DS b O::a)++GV b a
 | .N5 d c e b,a=>⟨d,c,b,a⟩::(GV e (.DS b (A (d,c))::a)++GV b a)
 | .Hd _ e b,a=>GV e a++GV b a
 | .A4 f b,a=>GV b (.BB f::a)
 | .DY d c b,a=>⟨d,c,.DY d c b,a⟩::GV b (.DY d c b::a)
 |_,_=>[]
def O0(b:D)(c:C Pt):Aj Pt:= @List.rec Pt (λ_=>Aj Pt) O (λa _ d=>An (Bb a.j b) (A a) d) c
def Sw(c:D)(a:C D):Ak:= @List.rec D (λ_=>Ak) Ac (λb _ d=>An (Bb c b) L d) a
def dE(a:C D):Ak:= @List.rec D (λ_=>Ak) L (λb d c=>An (Sw b d) Ac c) a
def NQ:HK->Ak
 | .skip| .It _| .HZ _| .Cm _| .DG| .Dd=>L
 | .EB a b=>NQ a&&NQ b
 |_=>Ac
def NI(c:C Aa):HK->D->C Aa->(D->C Aa)->LC×D
 | .skip,a,_,_=>(.skip,a)
 | .It k,a,_,_=>(.It k,a)
 | .HZ k,a,_,_=>(.HZ k,a)
 | .EB h f,a,e,b=>
  let(d,a):=NI c f a e b
  let g:=lv c d e b
  if NQ h then
   let(i,a):=NI c h a g b
   (.EB i d,a)
  else
   let(i,l):=NI c h (a+1) g b
   (.N5 a g i d,l)
 | .Hd n h f,a,e,b=>
  let(i,a):=NI c h a e b
  let(d,a):=NI c f a e b
  (.Hd n i d,a)
 | .A4 j f,a,e,b=>
  let(d,a):=NI c f a e (λm=>An (Bb m j) e (b m))
  (.A4 j d,a)
 | .DY f,a,_,b=>
  let g:=lv c (NI c f (a+1) [] b).1 [] b
  let(d,l):=NI c f (a+1) g b
  (.DY a g d,l)
 | .Cm j,a,_,_=>(.Cm j,a)
 | .DG,a,_,_=>(.DG,a)
 | .Dd,a,_,_=>(.Dd,a)
structure Fv where
 Hn:C Gh
 DS:LC
def Pr(a:GY):Fv:=⟨a.Hn,(NI (D7 a.Hn) a.Mb 1 (D7 a.Hn) (λ_=>[])).1⟩
def Oo(a:Fv):Ak:=An (Jg (D7 a.Hn) a.DS (D7 a.Hn) (λ_=>[])) (dE ((GV a.DS []).m (·.j))) Ac
theorem Aa.Mz:∀a:Aa,1<=a.num
 | .h=>C6 1
 | .o a=>by have:=Aa.Mz a;simp only[Aa.num];omega
 | .i a=>by simp only[Aa.num];omega
theorem Aa.WD:∀{b c:Aa},b.num=c.num->b=c
 | .h,.h,_=>rfl
 | .h,.o c,a=>by simp only[Aa.num]at a;omega
 | .h,.i c,a=>by have:=Aa.Mz c;simp only[Aa.num]at a;omega
 | .o b,.h,a=>by simp only[Aa.num]at a;omega
 | .i b,.h,a=>by have:=Aa.Mz b;simp only[Aa.num]at a;omega
 | .o b,.o c,a=>by simp only[Aa.num]at a;rw[Aa.WD (b:=b) (c:=c) (by omega)]
 | .i b,.i c,a=>by simp only[Aa.num]at a;rw[Aa.WD (b:=b) (c:=c) (by omega)]
 | .o b,.i c,a=>by simp only[Aa.num]at a;omega
 | .i b,.o c,a=>by simp only[Aa.num]at a;omega
theorem Aa.Zx:Aa.IP .h=.o .h:=rfl
theorem Aa.kQ(a:Aa):Aa.IP (.o a)=.i a:=rfl
theorem Aa.kP(a:Aa):Aa.IP (.i a)=.o a.IP:=rfl
theorem Aa.G5:∀a:Aa,a.IP.num=a.num+1
 | .h=>rfl
 | .o a=>by rw[Aa.kQ];simp only[Aa.num]
 | .i a=>by rw[Aa.kP];simp only[Aa.num];have:=Aa.G5 a;omega
theorem AbR:∀b a,1<=a->a<2^(b+1)->(UR b a).num=a:=by
 intro b
 induction b with
 |zero=>intro a e f;simp only[UR,Aa.num];omega
 |succ b g=>
  intro a e f;unfold UR;by_cases c:a<=1;.simp only[c,AiJ,Aa.num];omega
  .simp only[c,AiC];have:=g (a/2) (by omega) (by omega);by_cases d:a % 2=1;.simp only[d,AiJ,Aa.num];omega
   .simp only[d,AiC,Aa.num];omega
theorem Mz{a:D}(b:a<1000000):(Ar a).num=a+1:=AbR 64 (a+1) (by omega) (by omega)
theorem lj{a b:D}(d:a<1000000)(e:b<1000000)(c:Ar a=Ar b):a=b:=by have:=Aij Aa.num c;rw[Mz d,Mz e]at this;omega
theorem G0{a b:D}(c:a≠b):Bb a b=Ac:=by
 cases d:Bb a b with
 |false=>rfl
 |true=>exact A_ (Aii d) c
theorem RF{a b:D}(c:¬a<=b):Co a b=Ac:=by
 cases d:Co a b with
 |false=>rfl
 |true=>exact A_ (Aim d) c
theorem Aa.LH:∀{c b:Aa},Aa.eq c b=L->c=b
 | .h,.h,_=>rfl
 | .h,.o _,a=>by cases a
 | .h,.i _,a=>by cases a
 | .o _,.h,a=>by cases a
 | .i _,.h,a=>by cases a
 | .o c,.o b,a=>by rw[Aa.LH (b:=b) a]
 | .i c,.i b,a=>by rw[Aa.LH (b:=b) a]
 | .o _,.i _,a=>by cases a
 | .i _,.o _,a=>by cases a
namespace PT
variable{t:Type}
theorem VW(a c:PT t)(d:Aj t)(b:Aa):N (.nd a d c) (.o b)=N a b:=rfl
theorem VV(c b:PT t)(d:Aj t)(a:Aa):N (.nd c d b) (.i a)=N b a:=rfl
theorem lp(a:Aa)(b:Aj t):AM (.nil) (.o a) b=.nd (AM .nil a b) O .nil:=rfl
theorem lo(a c:PT t)(d e:Aj t)(b:Aa):AM (.nd a d c) (.o b) e=.nd (AM a b e) d c:=rfl
theorem ln(a:Aa)(b:Aj t):AM (.nil) (.i a) b=.nd .nil O (AM .nil a b):=rfl
theorem lm(a c:PT t)(d e:Aj t)(b:Aa):AM (.nd a d c) (.i b) e=.nd a d (AM c b e):=rfl
theorem VX(c:Aa):∀a (d:Aj t),N (AM a c d) c=d:=by
 induction c with
 |h=>intro a d;cases a<;>rfl
 |o c b=>intro a d;cases a with
  |nil=>rw[lp,VW,b]
  |nd e g f=>rw[lo,VW,b]
 |i c b=>intro a d;cases a with
  |nil=>rw[ln,VV,b]
  |nd e g f=>rw[lm,VV,b]
theorem VY(d:Aa):∀a b (e:Aj t),a≠d->N (AM b d e) a=N b a:=by
 induction d with
 |h=>intro a b e f;cases b<;>cases a<;>first|grind|rfl
 |o d c=>
  intro a b e f
  cases b with
  |nil=>
   rw[lp]
   cases a with
   |h=>rfl
   |o a=>rw[VW,c a _ _ P];rfl
   |i a=>rfl
  |nd g k j=>
   rw[lo]
   cases a with
   |h=>rfl
   |o a=>rw[VW,VW,c a _ _ P]
   |i a=>rfl
 |i d c=>
  intro a b e f
  cases b with
  |nil=>
   rw[ln]
   cases a with
   |h=>rfl
   |i a=>rw[VV,c a _ _ P];rfl
   |o a=>rfl
  |nd g k j=>
   rw[lm]
   cases a with
   |h=>rfl
   |i a=>rw[VV,VV,c a _ _ P]
   |o a=>rfl
end PT
theorem G.O9(c:G)(a:Aa)(b:Ce):(c.set a b).N a=A b:=PT.VX a _ _
theorem G.IH(c:G){b a:Aa}(e:Ce)(d:a≠b):(c.set b e).N a=c.N a:=PT.VY b a _ _ d
theorem G.YN(a:G)(b:Ce):(a.V b).N a.next=A b:=PT.VX _ _ _
theorem G.Mn(b:G){a:Aa}(d:Ce)(c:a≠b.next):(b.V d).N a=b.N a:=PT.VY _ a _ _ c
theorem G.cv(b:G)(a:Aa):(b.Hg a).N a=O:=PT.VX a _ _
theorem G.R5(c:G){b a:Aa}(d:a≠b):(c.Hg b).N a=c.N a:=PT.VY b a _ _ d
theorem G.M5(a:G)(b:Aa)(c:Ce):(a.set b c).next=a.next:=rfl
theorem G.UD(a:G)(b:Aa):(a.Hg b).next=a.next:=rfl
theorem G.HG(a:G)(b:Ce):(a.V b).next=a.next.IP:=rfl
theorem Fm.Vl(c:Fm)(a:Aa)(b:F):Fm.at (Ej c (A a) b) a=b:=by unfold Fm.at Ej;rw[PT.VX];rfl
theorem Fm.Tw(c:Fm){b a:Aa}(e:F)(d:a≠b):Fm.at (Ej c (A b) e) a=Fm.at c a:=by unfold Fm.at Ej;rw[PT.VY _ _ _ _ d]
theorem Pd(b a:IntKind):H8 b a=L↔b=a:=by cases b<;>cases a<;>simp[H8,VZ]
theorem UE(a:Ak):QO a= !a:=by cases a<;>rfl
theorem Lb(e d:K):Kf e d=(e==d):=by
 cases e with
 |ofNat c=>cases d with
  |ofNat a=>
   show Bb c a=_;by_cases b:c=a;.subst b;simp
   .rw[G0 b];grind
  |negSucc a=>show Ac=_;grind
 |negSucc c=>cases d with
  |ofNat a=>show Ac=_;grind
  |negSucc a=>
   show Bb c a=_;by_cases b:c=a;.subst b;simp
   .rw[G0 b];grind
theorem Nt(e d:K):Mq e d=Au (e<=d):=by
 cases e with
 |ofNat c=>cases d with
  |ofNat a=>
   show Co c a=_;by_cases b:c<=a;.rw[Air b];grind
   .rw[RF b];grind
  |negSucc a=>show Ac=_;grind
 |negSucc c=>cases d with
  |ofNat a=>show L=_;grind
  |negSucc a=>
   show Co a c=_;by_cases b:a<=c;.rw[Air b];grind
   .rw[RF b];grind
theorem jb(a b:K):cJ a b=a+b:=by cases a<;>cases b<;>rfl
theorem V2(c d:K):R9 c d=c-d:=by
 cases c with
 |ofNat a=>cases d with
  |ofNat b=>
   show Pa (Co b a) (.ofNat (Nat.sub a b)) (Int.sub (.ofNat a) (.ofNat b))=_;by_cases e:b<=a;.rw[Air e];show Int.ofNat (a-b)=Int.ofNat a-Int.ofNat b;grind
   .rw[RF e];rfl
  |negSucc b=>rfl
 |negSucc a=>rfl
theorem jd(a:Ak)(b c:K):Pa a b c=if a then b else c:=by cases a<;>rfl
theorem NS:∀a b,EB a b=(a==b)
 |[],[]=>rfl
 |[],_::_=>rfl
 |_::_,[]=>rfl
 |c::a,d::b=>by
  show An (Bb c d) (EB a b) Ac=_;rw[NS a b];by_cases e:c=d;.subst e;simp
  .rw[G0 e];grind
theorem HE:∀a,BK a=a.l
 |[]=>rfl
 |_::a=>Aij Nat.succ (HE a)
theorem Ra:∀b a,Xp b a=a.t b
 |0,a=>by rfl
 |b+1,[]=>by rfl
 |b+1,c::a=>by show c::Xp b a=_;rw[Ra b a];rfl
theorem Yc:∀b a,Yb b a=a.d b
 |0,a=>rfl
 |b+1,[]=>rfl
 |b+1,c::a=>by show Yb b a=_;rw[Yc b a];rfl
theorem QQ:∀a b,WC a b=b[a]?
 |0,[]=>rfl
 |0,_::_=>rfl
 |a+1,[]=>rfl
 |a+1,c::b=>by show WC a b=_;rw[QQ a b];rfl
theorem Lz:∀a b,EK a b=a++b
 |[],_=>rfl
 |c::a,b=>Aij (c:: ·) (Lz a b)
theorem EC:∀a,Ct a=a.all FX
 |[]=>rfl
 |b::a=>by show An (FX b) (Ct a) Ac=_;rw[EC a,AiK];grind
theorem jV:∀b a,(Lf b a).l=a.l
 |[],_=>rfl
 |_::_,[]=>rfl
 |c::b,d::a=>by show(c::Lf b a).l=_;simp[jV b a]
theorem Wl:∀c b a,(DJ c b a).l=a.l
 |0,b,a=>jV b a
 |_+1,_,[]=>rfl
 |c+1,b,d::a=>by show(d::DJ c b a).l=_;simp[Wl c b a]
theorem iP:∀a c b,a.l<=c.l->(Lf a c)[b]? =if b<a.l then a[b]?else c[b]?
 |[],c,b,_=>by rfl
 |d::a,[],b,f=>by grind
 |d::a,e::c,0,_=>by show(d::Lf a c)[0]? =_;simp
 |d::a,e::c,b+1,f=>by show(d::Lf a c)[b+1]? =_;simp only[Ajj,(iP a c b (by grind)),AiD];grind
theorem cw:∀d a c b,d+a.l<=c.l->(DJ d a c)[b]? =if d<=b/\b<d+a.l then a[b-d]?else c[b]?
 |0,a,c,b,f=>by show(Lf a c)[b]? =_;rw[iP a c b (by omega)];simp
 |d+1,a,[],b,f=>by grind
 |d+1,a,e::c,0,_=>by show(e::DJ d a c)[0]? =_;simp
 |d+1,a,e::c,b+1,f=>by show(e::DJ d a c)[b+1]? =_;simp only[Ajj,(cw d a c b (by grind))];grind
structure FE where
 r:D
 sh:D
 sz:D
inductive IB where
 |c (b:C F)
 |m (a d:C F)
structure A0 where
 m:Aa->Aj FE
 im:IB->D->D->Prop
instance:CoeFun A0 (λ_=>Aa->Aj FE):=⟨A0.m⟩
def A0.FH(a:A0):A0:=⟨λ_=>O,a.im⟩
mutual
inductive VR(a:A0):F->Bl->Prop where
 |b (v:Ak):VR a (.b v) (.bool v)
 |i (J:IntKind) (e:K):VR a (.i J e) (.int J e)
 |s (d:C D) (z:ByteArray) (g:z.data.l.m UInt8.toNat=d):VR a (.s d) (.string z)
 |p (k:Aa) (n:D) (c:FE) (g:a k=A c):VR a (.p k n) (.pointer (A ⟨c.r,c.sh+n,O⟩))
 |pn:VR a .pn (.pointer O)
 |Z (k:Aa) (n e h o:D) (c:FE) (w:D) (g:a k=A c) (I:e<=w) (H:h=0\/h=w+1) (Y:c.sh+n+w*o<=c.sz):VR a (.Z k n e h o) (.slice (A ⟨c.r,c.sh+n,O⟩) e w)
 |ae (k:Aa) (n h o:D) (c:FE) (y:Addr) (g:a k=A c) (H:h=0\/h=1):VR a (.Z k n 0 h o) (.slice (A y) 0 0)
 |sn:VR a .sn (.slice O 0 0)
 |m (j:Aa) (c:FE) (g:a j=A c):VR a (.m j) (.map (A c.r))
 |mn:VR a .mn (.map O)
 |f (e:D) (I:e<1000000) (E:C F) (G:Br Bl) (g:BJ a E G.l):VR a (.f (Ar e) E) (.func (.func e) #[] G)
 |fn:VR a .fn .nilFunc
 |S (d:C F) (l:Br Bl) (g:BJ a d l.l):VR a (.S d) (.agg l)
 |AC (d:C F) (l:Br Bl) (g:BJ a d l.l):VR a (.AC d) (.tuple l)
 |ic (x:D) (xa:x<1000000) (P:F) (Q:Bl) (g:VR a P Q):VR a (.ic x P) (.iface x Q)
 |fb (e:D) (I:e<1000000) (d:C F) (l:Br Bl) (g:BJ a d l.l):VR a (.ic (e+1000000) (.AC d)) (.func (.func e) l #[])
 |LL:VR a .LL .nilIface
 |pi (d t:C F) (j u q:D) (g:a.im (.c t) j u) (X:d<+:t.d q):VR a (.pi d) (.pointer (A ⟨j,u+q,O⟩))
 |CZ (r:C (C F)) (t:C F) (j u q o h:D) (g:a.im (.c t) j u) (X:r.flatten<+:t.d q) (Y:∀W∈r,W.l=o) (H:r.l<=h):VR a (.CZ r) (.slice (A ⟨j,u+q,O⟩) r.l h)
 |PM (y:Addr) (h:D):VR a (.CZ []) (.slice (A y) 0 h)
 |Xd:VR a (.CZ []) (.slice O 0 0)
 |mi (M R:C F) (j:D) (g:a.im (.m M R) j 0):VR a (.mi M R) (.map (A j))
 |Zn:VR a (.mi [] []) (.map O)
inductive BJ(a:A0):C F->C Bl->Prop where
 |nil:BJ a [] []
 |cons (v:F) (U:Bl) (T:C F) (V:C Bl) (g:VR a v U) (x:BJ a T V):BJ a (v::T) (U::V)
end
def A0.le(f g:A0):Prop:=(∀b a,f b=A a->g b=A a)/\∀e c d,f.im e c d->g.im e c d
def A0.le.refl(a:A0):a.le a:=⟨P,P⟩
def A0.le.AQ{i j k:A0}(d:i.le j)(e:j.le k):i.le k:=⟨λc b a=>e.1 c b (d.1 c b a),λh f g a=>e.2 h f g (d.2 h f g a)⟩
def A0.le.FH{a b:A0}(d:a.le b):a.FH.le b.FH:=⟨λ_ _ c=>(by cases c),d.2⟩
def A0.XW(a:A0):a.FH.le a:=⟨λ_ _ b=>(by cases b),λ_ _ _ c=>c⟩
mutual
def VR.Av{v w:A0}(c:v.le w):∀{e:F}{l:Bl},VR v e l->VR w e l
 |_,_,.b e=>.b e
 |_,_,.i U j=>.i U j
 |_,_,.s d J a=>.s d J a
 |_,_,.p n t g a=>.p n t g (c.1 _ _ a)
 |_,_,.pn=>.pn
 |_,_,.Z n t j h u g M a q o E=>.Z n t j h u g M (c.1 _ _ a) q o E
 |_,_,.ae n t h u g x a o=>.ae n t h u g x (c.1 _ _ a) o
 |_,_,.sn=>.sn
 |_,_,.m k g a=>.m k g (c.1 _ _ a)
 |_,_,.mn=>.mn
 |_,_,.f j q P Q a=>.f j q P Q (BJ.Av c a)
 |_,_,.fn=>.fn
 |_,_,.S d r a=>.S d r (BJ.Av c a)
 |_,_,.AC d r a=>.AC d r (BJ.Av c a)
 |_,_,.ic I T W X a=>.ic I T W X (VR.Av c a)
 |_,_,.fb j q d r a=>.fb j q d r (BJ.Av c a)
 |_,_,.LL=>.LL
 |_,_,.pi d G k H y a z=>.pi d G k H y (c.2 _ _ _ a) z
 |_,_,.CZ R G k H y u h a z E o=>.CZ R G k H y u h (c.2 _ _ _ a) z E o
 |_,_,.PM x h=>.PM x h
 |_,_,.Xd=>.Xd
 |_,_,.mi V Y k a=>.mi V Y k (c.2 _ _ _ a)
 |_,_,.Zn=>.Zn
def BJ.Av{v w:A0}(c:v.le w):∀{e:C F}{l:C Bl},BJ v e l->BJ w e l
 |_,_,.nil=>.nil
 |_,_,.cons e l xa xb a I=>.cons e l xa xb (VR.Av c a) (BJ.Av c I)
end
def BJ.length{d:A0}:∀{a:C F}{b:C Bl},BJ d a b->b.l=a.l
 |_,_,.nil=>rfl
 |_,_,.cons _ _ _ _ _ c=>by simp[BJ.length c]
def BJ.N{g:A0}:∀{a:C F}{b:C Bl}{d:D}{e:F},BJ g a b->a[d]? =A e->∃f,b[d]? =A f/\VR g e f
 |_,_,_,_,.nil,c=>by grind
 |_,_,0,_,.cons a b i j k _,c=>by grind
 |_,_,d+1,_,.cons a b i j _ h,c=>by obtain⟨_⟩:=BJ.N h c;grind
def BJ.UG{i:A0}:∀{c:C F}{d:C Bl},d.l=c.l->(∀(a:D) b,c[a]? =A b->∃e,d[a]? =A e/\VR i b e)->BJ i c d
 |[],[],_,_=>.nil
 |[],_::_,g,_=>by grind
 |_::_,[],g,_=>by grind
 |j::c,l::d,g,h=>by obtain⟨e,f,k⟩:=h 0 j (by simp);simp at f;subst f;refine .cons _ _ _ _ k (BJ.UG (by grind) λa b m=> ?_);obtain⟨_⟩:=h (a+1) b (by grind);grind
def BJ.K1{d:A0}:∀{a e:C F}{b f:C Bl},BJ d a b->BJ d e f->BJ d (a++e) (b++f)
 |_,_,_,_,.nil,c=>c
 |_,_,_,_,.cons a b i j c h,g=>.cons a b _ _ c (BJ.K1 h g)
def BJ.eK{d:A0}:∀a {b:C F}{c:C Bl},BJ d b c->BJ d (b.t a) (c.t a)
 |0,_,_,_=>.nil
 |a+1,_,_,.nil=>.nil
 |a+1,_,_,.cons b c g h e f=>.cons b c _ _ e (BJ.eK a f)
def BJ.bn{e:A0}:∀a {b:C F}{c:C Bl},BJ e b c->BJ e (b.d a) (c.d a)
 |0,_,_,d=>d
 |a+1,_,_,.nil=>.nil
 |a+1,_,_,.cons b c g h d f=>BJ.bn a f
inductive Gf(a:A0):C BL->C MapEntry->Prop where
 |nil:Gf a [] []
 |cons (b:BL) (c:MapEntry) (d:C BL) (e:C MapEntry) (g:VR a b.HS c.key) (h:VR a b.Dv c.val) (f:b.Nm=c.born) (i:Gf a d e):Gf a (b::d) (c::e)
def Gf.Av{d e:A0}(c:d.le e):∀{a:C BL}{b:C MapEntry},Gf d a b->Gf e a b
 |_,_,.nil=>.nil
 |_,_,.cons a b j k g h f i=>.cons a b j k (VR.Av c g) (VR.Av c h) f (Gf.Av c i)
def Gf.length{d:A0}:∀{a:C BL}{b:C MapEntry},Gf d a b->b.l=a.l
 |_,_,.nil=>rfl
 |_,_,.cons _ _ _ _ _ _ _ c=>by simp[Gf.length c]
def CR(m:A0)(h:D)(f:C F)(a:FE)(l:BH):Prop:=
 f.l=h/\a.sh+h<=a.sz/\∃(b:Br Bl)(k:B9)(g d:D),l.heap[a.r]? =A (.cells b k (g,d))/\b.z=a.sz/\(∀c,c<a.sz->¬(g<=c/\c<d))/\
  ∀e i,f[e]? =A i->∃j,b[a.sh+e]? =A j/\VR m i j
def MR(f:A0)(d:C BL)(c:D)(b:FE)(e:BH):Prop:=∃a:Br MapEntry,e.heap[b.r]? =A (.map a c)/\Gf f d a.l
def BR(c:A0)(h:Ce)(a:FE)(b:BH):Prop:=
 match h with
 | .I g f=>CR c g f a b
 | .Bu e d=>MR c e d a b
 | .rc g f=>CR c g f a b
 | .rm e d=>MR c e d a b
variable{a:FE}{e:BH}{f g:A0}
def CR.Av(t:f.le g){c:D}{b:C F}{d:BH}(v:e.heap[a.r]? =d.heap[a.r]?)(l:CR f c b a d):CR g c b a e:=by obtain⟨m,n,h,i,x,s,o,p,q,r⟩:=l;exact⟨m,n,h,i,x,s,by rw[v];exact o,p,q,λw y u=>let⟨z,j,k⟩:=r w y u;⟨z,j,k.Av t⟩⟩
def MR.Av(k:f.le g){c:C BL}{b:D}{d:BH}(m:e.heap[a.r]? =d.heap[a.r]?)(i:MR f c b a d):MR g c b a e:=by obtain⟨h,l,j⟩:=i;exact⟨h,by grind,j.Av k⟩
def BR.Av{h i:A0}(c:h.le i){e:Ce}{f g:BH}(d:g.heap[a.r]? =f.heap[a.r]?)(b:BR h e a f):BR i e a g:=by
 cases e with
 |I m l=>exact CR.Av c d b
 |Bu k j=>exact MR.Av c d b
 |rc m l=>exact CR.Av c d b
 |rm k j=>exact MR.Av c d b
def Ce.Wn:Ce->Ak
 | .I _ _| .Bu _ _=>L
 |_=>Ac
def BI(c:A0)(p:IB)(f g:D)(j:BH):Prop:=
 match p with
 | .c e=>∃(a:Br Bl)(l:B9)(m:D×D),j.heap[f]? =A (.cells a l m)/\g+e.l<=a.z/\∀d h,e[d]? =A h->∃i,a[g+d]? =A i/\VR c h i
 | .m n o=>∃(b:Br MapEntry)(k:D),j.heap[f]? =A (.map b k)/\BJ c n (b.l.m (·.key))/\BJ c o (b.l.m (·.val))
def BI.Av{k l:A0}(e:k.le l){f:IB}{a h:D}{i j:BH}(w:j.heap[a]? =i.heap[a]?)(g:BI k f a h i):BI l f a h j:=by
 cases f with
 |c G=>obtain⟨b,n,r,d,t,u⟩:=g;exact⟨b,n,r,by rw[w];exact d,t,λx y v=>let⟨z,o,p⟩:=u x y v;⟨z,o,p.Av e⟩⟩
 |m F H=>obtain⟨q,b,E,s,d⟩:=g;exact⟨q,b,by grind,s.Av e,d.Av e⟩
def BI.lt{e:IB}{b f:D}{d:BH}(a:BI g e b f d):b<d.heap.z:=by
 cases e with
 |c i=>obtain⟨_⟩:=a;grind
 |m h j=>obtain⟨_⟩:=a;grind
structure HR(b:A0)(e:G)(j:BH):Prop where
 E4:∀d f g,b.im d f g->BI b.FH d f g j
 Fw:∀a d c m f g,e.N a=A d->d.Wn=L->b a=A c->b.im m f g->f≠c.r
 BB:∀a d c,e.N a=A d->b a=A c->BR b d c j
 C3:∀h i k l,e.N h≠O->e.N i≠O->b h=A k->b i=A l->k.r=l.r->h=i
 lt:∀a c,b a=A c->c.r<j.heap.z
 Fq:∀a,e.N a≠O->a.num<e.next.num
def Kx(a b:BH):Prop:=b.tape=a.tape/\b.os=a.os/\b.output=a.output/\∀c,b.frozen? c=a.frozen? c
def Kx.refl(a:BH):Kx a a:=⟨B,B,B,P⟩
def Kx.AQ{a d:BH}(b:Kx a d)(c:Kx d e):Kx a e:=⟨c.1.t b.1,c.2.1.t b.2.1,c.2.2.1.t b.2.2.1,λa=>(c.2.2.2 a).t (b.2.2.2 a)⟩
def VP(a:BH)(c:Br Bl)(d:B9)(b:Addr):({a with heap:=a.heap.push (.cells c d)}).frozen? b=a.frozen? b:=by unfold World.frozen?;grind
def sB(a:BH)(d:Br MapEntry)(c:D)(b:Addr):({a with heap:=a.heap.push (.map d c)}).frozen? b=a.frozen? b:=by unfold World.frozen?;grind
structure Fin(d:A0)(c:G)(f:BH)(j:A0)(g:G)(k:BH):Prop where
 ext:d.le j
 Gl:∀a,d a=O->j a≠O->c.next.num<=a.num/\a.num<g.next.num
 hr:HR j g k
 up:c.next.num<=g.next.num
 EN:f.heap.z<=k.heap.z
 F8:∀b,b<f.heap.z->(∀a e,d a=A e->c.N a≠O->e.r≠b)->k.heap[b]? =f.heap[b]?
 GM:∀a e,j a=A e->g.N a≠O->e.r<f.heap.z->∃i h,d i=A h/\c.N i≠O/\h.r=e.r
 HP:∀n b l,j.im n b l->b<f.heap.z->(∃o m,d.im o b m)\/∃i h,d i=A h/\c.N i≠O/\h.r=b
 GH:∀a,a.num<c.next.num->d a=O->g.N a=c.N a
 Aw:Kx f k
def Fin.refl{a:G}(b:HR f a e):Fin f a e f a e where
 ext:=.refl _
 Gl g c d:=A_ c d
 hr:=b
 up:=C6 _
 EN:=C6 _
 F8 _ _ _:=B
 GM g h c d _:=⟨g,h,c,d,B⟩
 HP j k i b _:=.i ⟨j,i,b⟩
 GH _ _ _:=B
 Aw:=.refl _
def Fin.AQ{x y:A0}{o p q:G}{u v w:BH}(a:Fin x o u f p v)(c:Fin f p v y q w):Fin x o u y q w where
 ext:=a.ext.AQ c.ext
 Gl b I J:=by
  by_cases h:f b=O;.have:=c.Gl b h J;have:=a.up;omega
  .have:=a.Gl b I h;have:=c.up;omega
 hr:=c.hr
 up:=AiN a.up c.up
 EN:=AiN a.EN c.EN
 F8 e d s:=by rw[c.F8 e (Aik d a.EN) ?_,a.F8 e d s];intro b g k l E;subst E;obtain⟨_⟩:=a.GM b g k l d;grind
 GM b g k l d:=by obtain⟨j,i,m,n,H⟩:=c.GM b g k l (Aik d a.EN);obtain⟨_⟩:=a.GM j i m n (by omega);grind
 HP P e M z d:=by
  rcases c.HP P e M z (Aik d a.EN)with⟨Q,N,F⟩|⟨j,i,m,n,H⟩;.exact a.HP Q e N F d
  .obtain⟨_⟩:=a.GM j i m n (by omega);grind
 GH b r t:=by
  have h:f b=O:=by
   cases s:f b with
   |none=>rfl
   |some g=>have:=a.Gl b t (by grind);omega
  rw[c.GH b (Aik r a.up) h,a.GH b r t]
 Aw:=a.Aw.AQ c.Aw
def TR(c:A0)(d:Fm)(b:Act):Prop:=∀a,a<1000000->VR c (Fm.at d (Ar a)) (b.tmps.getD a undef)
def TR.Av{b c:A0}(f:b.le c){d:Fm}{a:Act}(e:TR b d a):TR c d a:=λh g=>(e h g).Av f
structure St(d:D)(b:A0)(f:Fm)(c:G)(a:Act)(e:BH):Prop where
 tr:TR b f a
 hr:HR b c e
 EN:d<=a.tmps.z
 TK:a.defers=[]
def S_(a:A0):VR a Ax undef:=.AC [] #[] .nil
def TR.AM{d:A0}{i:Fm}{b:Act}(k:TR d i b){a:D}(l:a<b.tmps.z)(m:a<1000000){g:F}{h:Bl}(n:VR d g h):TR d (Ej i (A (Ar a)) g) (b.put (A a) h):=by
 intro f e;by_cases c:f=a;.subst c;rw[Fm.Vl];simpa[Act.put,l]using n
 .rw[Fm.Tw _ _ (λj=>c (lj e m j))];simpa[Act.put,Aky (Ne.symm c)]using(k f e)
