/- ProductMakes returns true whatever its arguments are: part 1 of 14. No condition. -/
import Derived.Calls
import Derived.Below
import Derived.Laws.Cells
import Derived.Laws.StructEq
set_option linter.all false
set_option maxRecDepth 8000
set_option maxHeartbeats 9000000
set_option autoImplicit true
set_option relaxedAutoImplicit true
def Go.Fx.ahZ:=@Nat.le_refl
def Go.Fx.ah0:=@if_neg
def Go.Fx.ah1:=@if_pos
def Go.Fx.ah2:=@Bool.and_eq_true
def Go.Fx.ah3:=@List.length_map
def Go.Fx.ah4:=@List.all_eq_true
def Go.Fx.ah5:=@Bool.false_eq_true
def Go.Fx.ah6:=@List.getElem?_eq_getElem
def Go.Fx.ah7:=@Option.bind_eq_some_iff
def Go.Fx.ah8:=@List.length_set
def Go.Fx.ah9:=@Int.toNat_natCast
def Go.Fx.aia:=@Nat.zero_add
def Go.Fx.aib:=@Array.getD_eq_getD_getElem?
def Go.Fx.aic:=@List.getElem?_append_left
def Go.Fx.aid:=@List.getElem?_eq_some_iff
def Go.Fx.aie:=@eq_false
def Go.Fx.aif:=@decide_eq_false
def Go.Fx.aih:=@List.drop_eq_nil_of_le
def Go.Fx.aii:=@List.map_append
def Go.Fx.aij:=@Nat.lt_or_ge
def Go.Fx.aik:=@Int.mul_le_mul_of_nonneg_right
def Go.Fx.ail:=@List.drop_eq_getElem_cons
def Go.Fx.ain:=@List.length_append
def Go.Fx.aio:=@List.append_assoc
def Go.Fx.aip:=@Int.mul_le_mul_of_nonneg_left
def Go.Fx.aiq:=@eq_true
def Go.Fx.air:=@decide_eq_true
def Go.Fx.ais:=@List.all_cons
def Go.Fx.ait:=@Ne.symm
def Go.Fx.aiu:=@List.append_nil
def Go.Fx.aiv:=@List.take_of_length_le
def Go.Fx.aiw:=@List.mem_map
def Go.Fx.aix:=@Option.bind_some
def Go.Fx.aiy:=@List.nil_append
def Go.Fx.aiz:=@List.mem_cons
def Go.Fx.aiA:=@List.eq_nil_of_length_eq_zero
def Go.Fx.aiB:=@Nat.lt_of_lt_of_le
def Go.Fx.aiC:=@List.getElem?_append_right
def Go.Fx.aiD:=@Option.map_eq_some_iff
def Go.Fx.aiE:=@List.mem_append
def Go.Fx.aiF:=@List.length_cons
def Go.Fx.aiG:=@List.length_take
def Go.Fx.aiH:=@Array.getElem?_setIfInBounds
def Go.Fx.aiI:=@Int.mul_assoc
def Go.Fx.aiJ:=@Nat.le_trans
def Go.Fx.aiK:=@List.take_length
def Go.Fx.aiL:=@Nat.zero_le
def Go.Fx.aiM:=@Bool.and_true
def Go.Fx.aiN:=@Array.getElem?_eq_getElem
def Go.Fx.aiO:=@List.getElem?_eq_none
def Go.Fx.aiP:=@List.length_eraseIdx_of_lt
def Go.Fx.aiQ:=@Nat.min_eq_left
def Go.Fx.aiR:=@Int.mul_add
def Go.Fx.aiS:=@List.map_cons
def Go.Fx.aiT:=@List.take_succ_eq_append_getElem
def Go.Fx.aiU:=@decide_eq_true_eq
def Go.Fx.aiV:=@List.length_nil
def Go.Fx.aiW:=@Nat.add_mul
def Go.Fx.aiX:=@List.mem_of_getElem?
def Go.Fx.aiY:=@List.length_replicate
def Go.Fx.aiZ:=@List.drop_length
def Go.Fx.ai0:=@Int.sign_eq_neg_one_of_neg
def Go.Fx.ai1:=@List.eq_of_mem_replicate
def Go.Fx.ai2:=@Int.mul_comm
def Go.Fx.ai3:=@Option.map_some
def Go.Fx.ai4:=@List.mem_or_eq_of_mem_set
def Go.Fx.ai5:=@Int.sign_eq_one_of_pos
def Go.Fx.ai6:=@Int.tdiv_eq_ediv_of_nonneg
def Go.Fx.ai7:=@Nat.mul_le_mul_right
def Go.Fx.ai8:=@Int.sign_eq_zero_iff_zero
def Go.Fx.ai9:=@Option.getD_some
def Go.Fx.aja:=@Bool.not_false
def Go.Fx.ajb:=@List.mem_filter
def Go.Fx.ajc:=@List.getElem?_set_ne
def Go.Fx.ajd:=@List.all_nil
def Go.Fx.aje:=@List.cons_append
def Go.Fx.ajf:=@Nat.add_assoc
def Go.Fx.ajg:=@Bool.true_and
def Go.Fx.ajh:=@List.map_congr_left
def Go.Fx.aji:=@List.getElem?_replicate
def Go.Fx.ajj:=@List.getElem_mem
def Go.Fx.ajk:=@List.all_append
def Go.Fx.ajl:=@Bool.not_true
def Go.Fx.ajm:=@List.getD_eq_getElem?_getD
def Go.Fx.ajn:=@Int.tmod_eq_emod_of_nonneg
def Go.Fx.ajo:=@List.drop_drop
def Go.Fx.ajp:=@List.getElem?_map
def Go.Fx.ajq:=@List.all_eq_false
def Go.Fx.ajr:=@List.not_mem_nil
def Go.Fx.ajs:=@if_true
def Go.Fx.ajt:=@beq_iff_eq
def Go.Fx.aju:=@List.mem_of_mem_drop
def Go.Fx.ajv:=@List.mem_range
def Go.Fx.ajw:=@Int.mul_nonneg
def Go.Fx.ajx:=@List.drop_zero
def Go.Fx.ajy:=@List.set_append_right
def Go.Fx.ajz:=@not_false_eq_true
def Go.Fx.ajA:=@Int.emod_lt_of_pos
def Go.Fx.ajB:=@Int.add_mul
def Go.Fx.ajC:=@Rat.intCast_mul
def Go.Fx.ajD:=@List.mem_iff_getElem
def Go.Fx.ajE:=@List.map_nil
def Go.Fx.ajF:=@List.map_set
def Go.Fx.ajG:=@Int.add_zero
def Go.Fx.ajH:=@decide_true
def Go.Fx.ajI:=@decide_false
def Go.Fx.ajJ:=@Bool.not_eq_true'
def Go.Fx.ajK:=@List.range_succ
def Go.Fx.ajL:=@Int.mul_ediv_add_emod
def Go.Fx.ajM:=@Int.mul_zero
def Go.Fx.ajN:=@List.mem_replicate
def Go.Fx.ajO:=@if_false
def Go.Fx.ajP:=@List.mem_of_mem_take
def Go.Fx.ajQ:=@Int.lt_or_le
def Go.Fx.ajR:=@List.mem_cons_of_mem
def Go.Fx.ajS:=@List.getElem?_drop
def Go.Fx.ajT:=@List.map_replicate
def Go.Fx.ajU:=@List.take_append_of_le_length
def Go.Fx.ajV:=@Int.le_refl
def Go.Fx.ajW:=@List.take_append_drop
def Go.Fx.ajX:=@Int.ediv_lt_of_lt_mul
def Go.Fx.ajY:=@Int.ediv_nonneg
def Go.Fx.ajZ:=@Int.emod_nonneg
def Go.Fx.aj0:=@Nat.lt_trichotomy
def Go.Fx.aj1:=@Int.pow_succ
def Go.Fx.aj2:=@Int.one_mul
def Go.Fx.aj3:=@Nat.lt_succ_self
def Go.Fx.aj4:=@Array.getElem?_eq_some_iff
def Go.Fx.aj5:=@decide_eq_false_iff_not
def Go.Fx.aj6:=@List.all_map
def Go.Fx.aj7:=@List.getElem?_take
def Go.Fx.aj8:=@Array.all_eq_true'
def Go.Fx.aj9:=@Bool.false_and
def Go.Fx.aka:=@Int.sign_neg_iff
def Go.Fx.akb:=@List.length_pos_iff
def Go.Fx.akc:=@List.drop_set_of_lt
def Go.Fx.akd:=@Option.some.injEq
def Go.Fx.ake:=@List.flatMap_cons
def Go.Fx.akf:=@List.eraseIdx_eq_take_drop_succ
def Go.Fx.akg:=@and_self
def Go.Fx.akh:=@Bool.or_eq_true
def Go.Fx.aki:=@List.mem_cons_self
def Go.Fx.akj:=@true_and
def Go.Fx.akk:=@Classical.byContradiction
def Go.Fx.akl:=@List.take_set_of_le
def Go.Fx.akm:=@List.getElem?_set
def Go.Fx.akn:=@List.length_range
def Go.Fx.ako:=@Option.isSome_iff_exists
def Go.Fx.akp:=@Nat.mul_le_mul
def Go.Fx.akq:=@List.mem_append_right
def Go.Fx.akr:=@Int.natCast_pow
def Go.Fx.aks:=@Int.mul_sub
def Go.Fx.akt:=@List.set_cons_zero
def Go.Fx.aku:=@List.getElem?_cons_succ
def Go.Fx.akv:=@Array.getElem?_append_left
def Go.Fx.akw:=@Int.fdiv_eq_ediv_of_nonneg
def Go.Fx.akx:=@Bool.and_assoc
def Go.Fx.aky:=@Int.mul_one
def Go.Fx.akz:=@List.flatten_cons
def Go.Fx.akA:=@Int.mul_left_comm
def Go.Fx.akB:=@of_decide_eq_true
def Go.Fx.akC:=@List.replicate_zero
def Go.Fx.akD:=@or_false
def Go.Fx.akE:=@Int.mul_ne_zero
def Go.Fx.akF:=@List.mem_iff_getElem?
def Go.Fx.akG:=@List.length_drop
def Go.Fx.akH:=@List.ext_getElem
def Go.Fx.akI:=@Array.getElem?_replicate
def Go.Fx.akJ:=@Int.le_trans
def Go.Fx.akK:=@List.prefix_append_right_inj
def Go.Fx.akL:=@Int.emod_eq_of_lt
def Go.Fx.akM:=@Int.lt_trichotomy
def Go.Fx.akN:=@List.foldl_append
def Go.Fx.akO:=@Nat.sub_self
def Go.Fx.akP:=@Array.ext'
def Go.Fx.akQ:=@List.map_take
def Go.Fx.akR:=@Rat.not_lt
def Go.Fx.akS:=@congrArg
def Go.Fx.akT:=@List.mem_flatMap
def Go.Fx.akU:=@Nat.min_eq_right
def Go.Fx.akV:=@List.drop_left
def Go.Fx.akW:=@List.getElem_set_self
def Go.Fx.akX:=@List.mem_singleton
def Go.Fx.akY:=@Int.natCast_mul
def Go.Fx.akZ:=@List.ext_getElem?
def Go.Fx.ak0:=@Array.getElem?_setIfInBounds_self_of_lt
def Go.Fx.ak1:=@Prod.mk.injEq
def Go.Fx.ak2:=@Nat.add_sub_cancel_left
def Go.Fx.ak3:=@List.getElem?_cons_zero
def Go.Fx.ak4:=@List.drop_succ_cons
def Go.Fx.ak5:=@List.flatMap_append
def Go.Fx.ak6:=@List.drop_append
def Go.Fx.ak7:=@List.flatMap_nil
def Go.Fx.ak8:=@List.drop_of_length_le
def Go.Fx.ak9:=@Int.mul_neg
def Go.Fx.ala:=@Rat.le_refl
def Go.Fx.alb:=@false_and
def Go.Fx.alc:=@Nat.lt_of_le_of_lt
def Go.Fx.ald:=@Int.mul_lt_mul_of_pos_right
def Go.Fx.ale:=@Rat.num_divInt_den
def Go.Fx.alf:=@List.getElem?_toArray
def Go.Fx.alg:=@List.length_filter_le
def Go.Fx.alh:=@Nat.mod_lt
def Go.Fx.ali:=@Int.not_lt
def Go.Fx.alj:=@Nat.pow_le_pow_right
def Go.Fx.alk:=@List.length_eraseIdx
def Go.Fx.alm:=@List.mem_of_find?_eq_some
def Go.Fx.aln:=@Int.natAbs_mul
def Go.Fx.alo:=@Nat.add_zero
def Go.Fx.alp:=@Nat.le_of_lt
def Go.Fx.alq:=@List.replicate_succ
def Go.Fx.alr:=@List.flatten_append
def Go.Fx.als:=@Int.sign_trichotomy
def Go.Fx.alu:=@List.IsPrefix.trans
def Go.Fx.alv:=@List.map_drop
def Go.Fx.alw:=@Option.some.inj
def Go.Fx.alx:=@Nat.add_sub_cancel
def Go.Fx.aly:=@ne_eq
def Go.Fx.alz:=@Nat.eq_or_lt_of_le
def Go.Fx.alA:=@Nat.div_le_self
def Go.Fx.alB:=@Int.natAbs_tmod
def Go.Fx.alC:=@List.prefix_append
def Go.Fx.alD:=@List.getElem?_set_self
def Go.Fx.alE:=@List.length_pos_of_mem
def Go.Fx.alF:=@List.filter_eq_nil_iff
def Go.Fx.alG:=@Nat.pow_add
def Go.Fx.alH:=@List.drop_append_of_le_length
def Go.Fx.alI:=@Nat.lt_succ_of_lt
def Go.Fx.alJ:=@not_or
def Go.Fx.alK:=@Nat.le_of_ble_eq_true
def Go.Fx.alL:=@List.getElem?_zipWith
def Go.Fx.alM:=@Rat.mul_nonneg
def Go.Fx.alN:=@List.range'_succ
def Go.Fx.alO:=@List.mem_flatten
def Go.Fx.alP:=@List.reverse_nil
def Go.Fx.alQ:=@List.replicate_succ'
def Go.Fx.alR:=@Int.add_assoc
def Go.Fx.alS:=@Nat.pow_pos
def Go.Fx.alT:=@Rat.intCast_neg
def Go.Fx.alU:=@Array.ext_getElem?
def Go.Fx.alV:=@and_true
def Go.Fx.alW:=@BitVec.toNat_ofInt
def Go.Fx.alX:=@Nat.xor_lt_two_pow
def Go.Fx.alY:=@List.getElem_range
def Go.Fx.alZ:=@List.find?_eq_none
def Go.Fx.al0:=@List.filter_append
def Go.Fx.al1:=@Int.natAbs_neg
def Go.Fx.al2:=@Iff.rfl
def Go.Fx.al3:=@Nat.exists_eq_add_of_le
def Go.Fx.al4:=@Classical.not_not
def Go.Fx.al5:=@Int.pow_pos
def Go.Fx.al6:=@Int.mul_pos
def Go.Fx.al7:=@Array.getElem?_push_lt
def Go.Fx.al8:=@List.zipIdx_cons
def Go.Fx.al9:=@Array.toList_map
def Go.Fx.ama:=@Nat.le_of_not_lt
def Go.Fx.amb:=@List.filter_cons
def Go.Fx.amc:=@Nat.testBit_eq_decide_div_mod_eq
def Go.Fx.amd:=@List.getElem_map
def Go.Fx.ame:=@List.getElem_set
def Go.Fx.amf:=@Nat.div_lt_iff_lt_mul
def Go.Fx.amg:=@List.contains_iff_mem
def Go.Fx.amh:=@List.length_singleton
def Go.Fx.ami:=@Bool.eq_iff_iff
def Go.Fx.amj:=@Bool.or_eq_false_iff
def Go.Fx.amk:=@List.range_eq_range'
def Go.Fx.aml:=@Int.sub_zero
def Go.Fx.amm:=@Int.ediv_emod_unique
def Go.Fx.amn:=@Int.natAbs_tdiv
def Go.Fx.amo:=@Nat.gcd_comm
def Go.Fx.amp:=@List.set_append_left
def Go.Fx.amq:=@List.range_zero
def Go.Fx.amr:=@List.mem_append_left
def Go.Fx.ams:=@List.find?_some
def Go.Fx.amt:=@Nat.shiftLeft_add_eq_or_of_lt
def Go.Fx.amu:=@List.getElem?_range
def Go.Fx.amv:=@Int.gcd_eq_zero_iff
def Go.Fx.amw:=@Int.sign_nonneg_iff
def Go.Fx.amx:=@List.dropLast_concat_getLast
def Go.Fx.amy:=@List.take_take
def Go.Fx.amz:=@List.foldl_nil
def Go.Fx.amA:=@Int.pow_add
def Go.Fx.amB:=@Option.isSome_some
def Go.Fx.amC:=@Nat.and_lt_two_pow
def Go.Fx.amD:=@Int.sign_eq_neg_one_iff_neg
def Go.Fx.amE:=@Int.natAbs_natCast
def Go.Fx.amF:=@Int.lt_or_gt_of_ne
def Go.Fx.amG:=@Int.lt_of_le_of_lt
def Go.Fx.amH:=@Nat.or_lt_two_pow
def Go.Fx.amI:=@Int.gcd_dvd_right
def Go.Fx.amJ:=@Array.mapM_eq_mapM_toList
def Go.Fx.amK:=@Int.lt_of_mul_lt_mul_left
def Go.Fx.amL:=@Decidable.byContradiction
def Go.Fx.amM:=@Int.natAbs_ediv_le_natAbs
def Go.Fx.amN:=@List.isEmpty_iff
def Go.Fx.amO:=@List.map_map
def Go.Fx.amP:=@Nat.sub_zero
def Go.Fx.amQ:=@List.take_append
def Go.Fx.amR:=@Nat.add_le_add_iff_right
def Go.Fx.amS:=@Nat.pow_succ
def Go.Fx.amT:=@Int.tdiv_one
def Go.Fx.amU:=@List.map_id'
def Go.Fx.amV:=@Int.sign_pos_iff
def Go.Fx.amW:=@Int.mul_tdiv_cancel_left
def Go.Fx.amX:=@List.mem_of_mem_eraseIdx
def Go.Fx.amY:=@List.length_eq_zero_iff
def Go.Fx.amZ:=@Int.tdiv_eq_ediv_of_dvd
def Go.Fx.am0:=@Nat.le_mul_of_pos_right
def Go.Fx.am1:=@Nat.testBit_xor
def Go.Fx.am2:=@Array.getElem?_eq_none
def Go.Fx.am3:=@Int.neg_mul
def Go.Fx.am4:=@Int.ediv_eq_zero_of_lt
def Go.Fx.am5:=@List.getElem?_eraseIdx
def Go.Fx.am6:=@Rat.div_def
def Go.Fx.am7:=@Array.getElem?_toList
def Go.Fx.am8:=@List.mapM_cons
def Go.Fx.am9:=@Nat.testBit_or
def Go.Fx.ana:=@Bool.and_false
def Go.Fx.anb:=@Int.add_mul_ediv_left
def Go.Fx.anc:=@Int.le_ediv_of_mul_le
def Go.Fx.ane:=@Rat.num_divInt
def Go.Fx.anf:=@Rat.den_divInt
def Go.Fx.ang:=@Rat.divInt_mul_divInt
def Go.Fx.anh:=@Classical.choose_spec
def Go.Fx.ani:=@Int.natAbs_dvd_natAbs
def Go.Fx.anj:=@List.range_add
def Go.Fx.ank:=@List.take_zero
def Go.Fx.anl:=@Rat.mul_lt_mul_right
def Go.Fx.anm:=@List.drop_nil
def Go.Fx.ann:=@Bool.false_or
def Go.Fx.ano:=@Nat.zero_mul
def Go.Fx.anp:=@Nat.mul_comm
def Go.Fx.anq:=@Int.add_comm
def Go.Fx.anr:=@Int.pow_zero
def Go.Fx.ans:=@List.set_set
def Go.Fx.anu:=@Int.le_of_lt
def Go.Fx.anv:=@Nat.succ_mul
namespace Go.Fx
open List renaming length->ae,getD->af,replicate->aA,eraseIdx->aB,range->aC
open Inhabited renaming default->ah
open Option renaming some->ak,none->an
open Bool renaming true->aq,false->ar
open Go.IntKind renaming wrap->au
open Int renaming natAbs->ay,toNat->az
structure Blk where
 b:Nat
 off:Nat
 cap:Nat
 k:Nat
 gL:Bool
def aD {p:Prop} (h:p:=by omega):p:=h
def aO {p:Prop} (h:p:=by simp):p:=h
def aR {p:Prop} (h:p:=by decide):p:=h
def bW {p:Prop} (h:p:=by simp;omega):p:=h
def cn {p q:Prop} (h:q) (f:q->p:=by intro;omega):p:=f h
def zU {p q r:Prop} (h:q) (g:r) (f:q->r->p:=by intro _ _;omega):p:=f h g
def bu {p q:Prop} (h:q) (f:q->p:=by intro h;simpa using h):p:=f h
inductive AV where
 | c (v:Value)
 | nil
 | seq (k:Nat) (full:Bool) (xs:List (List AV))
 | fp (cs:List AV) (o:Nat)
 | ptr (id ver i o:Nat)
 | sl (k id ver i n:Nat)
 | fn (f:FuncId) (first caps:List AV)
 | agg (cs:List AV)
 | bM (vs:List AV)
 | ba
abbrev AV.q0 (n:Int):AV:=.c (.int .i64 n)
abbrev AV.v0 (b:Bool):AV:=.c (.bool b)
instance:Inhabited AV:=⟨.ba⟩
abbrev Imm:=Nat->Nat->Option Value
abbrev Bet:=Nat->Nat->Option Blk
def iO:Bet:=fun _ _=>an
structure bz where
 k:Nat
 ver:Nat
 xs:List (List AV)
abbrev aF:=List (Option bz)
def isAtom:Value->Bool
 | .bool _ | .int _ _ | .string _ | .pointer an | .nilFunc | .nilIface | .slice _ 0 _=>aq
 | .func (.yield _) a b=>a.isEmpty&&b.isEmpty
 | _=>ar
def dL (xs:List (List AV)) (i j:Nat):Option AV:=(xs[i]?).bind (·[j]?)
def bB:AV->Bool
 | .c _ | .nil | .seq _ _ _ | .fp _ _ | .ptr _ _ _ _ | .sl _ _ _ _ _ | .fn _ _ _=>aq
 | _=>ar
def Rn (ρ:Nat->Nat):AV->AV
 | .sl k id v i n => .sl k (ρ id) v i n
 | .ptr id v i o => .ptr (ρ id) v i o
 | .fn f a b => .fn f (a.map fun _ => .ba) (b.map fun _ => .ba)
 | .agg _ => .ba
 | .bM _ => .ba
 | a=>a
def bp (n:Nat):AV->Bool
 | .c _ | .nil | .seq _ _ _ | .fp _ _ | .ba=>aq
 | .ptr id _ _ _=>decide (id < n)
 | .sl _ id _ _ _=>decide (id < n)
 | .fn _ a b=>a.isEmpty&&b.isEmpty
 | _=>ar
def qF (n:Nat):AV->Bool
 | .fn _ a b=>a.all (bp n)&&b.all (bp n)
 | .agg cs=>cs.all (bp n)
 | a=>bp n a
def jO (n:Nat):AV->Bool
 | .bM vs=>vs.all (qF n)
 | .fn _ a b=>a.all (qF n)&&b.all (qF n)
 | a=>qF n a
def cg (n:Nat) (o:Option bz):Bool:=match o with | some ob=>ob.xs.all fun x=>x.all (bp n) | none=>aq
inductive Rel (I:Imm):Bet->AV->Value->Prop
 | c {β:Bet} {v:Value}:isAtom v=true->Rel I β (.c v) v
 | nil {β:Bet}:Rel I β .nil (.slice none 0 0)
 | kf {β:Bet} {k:Nat} {f:Bool} {a:Option Addr} {cap:Nat}:(f=true->cap=0)->Rel I β (.seq k f []) (.slice a 0 cap)
 | seq {β:Bet} {f:Bool} {xs:List (List AV)} {b off cap k:Nat} (vs:Nat->Nat->Value):(∀x,x∈xs->x.length=k/\x.all bB=true) ->
   (∀i j a,dL xs i j=some a->I b (off+i*k+j)=some (vs i j))->(∀i j a,dL xs i j=some a->Rel I iO a (vs i j)) ->
   xs.length<=cap->(f=true->cap=xs.length)->Rel I β (.seq k f xs) (.slice (some ⟨b,off,none⟩) xs.length cap)
 | fp {β:Bet} {cs:List AV} {o b off:Nat} (vs:Nat->Value):cs.all bB=true->(∀j a,cs[j]?=some a->I b (off+j)=some (vs j)) ->
   (∀j a,cs[j]?=some a->Rel I iO a (vs j))->Rel I β (.fp cs o) (.pointer (some ⟨b,off+o,none⟩))
 | ptr {β:Bet} {id ver i o:Nat} {B:Blk}:β id ver=some B->B.gL=false->Rel I β (.ptr id ver i o) (.pointer (some ⟨B.b,B.off+i*B.k+o,none⟩))
 | sl {β:Bet} {id ver i n:Nat} {B:Blk}:β id ver=some B->B.gL=false->i+n<=B.cap ->
   Rel I β (.sl B.k id ver i n) (.slice (some ⟨B.b,B.off+i*B.k,none⟩) n (B.cap - i))
 | Ai {β:Bet} {id ver i:Nat} {B:Blk} {a:Option Addr}:β id ver=some B->i=B.cap->Rel I β (.sl B.k id ver i 0) (.slice a 0 0)
 | fn {β:Bet} {f:FuncId} {first caps:List AV} {vf vc:List Value}:first.length=vf.length->caps.length=vc.length ->
   (∀(j:Nat) a v,first[j]?=some a->vf[j]?=some v->Rel I β a v)->(∀(j:Nat) a v,caps[j]?=some a->vc[j]?=some v->Rel I β a v) ->
   Rel I β (.fn f first caps) (.func (.func f) vf.toArray vc.toArray)
 | agg {β:Bet} {cs:List AV} {vs:List Value}:cs.length=vs.length->(∀(j:Nat) a v,cs[j]?=some a->vs[j]?=some v->Rel I β a v) ->
   Rel I β (.agg cs) (.agg vs.toArray)
 | bM {β:Bet} {cs:List AV} {vs:List Value}:cs.length=vs.length->(∀(j:Nat) a v,cs[j]?=some a->vs[j]?=some v->Rel I β a v) ->
   Rel I β (.bM cs) (.tuple vs.toArray)
 | ba {β:Bet} {v:Value}:Rel I β .ba v
def Imm.le (I I':Imm):Prop:=∀b o v,I b o=ak v->I' b o=ak v
def Bet.le (β β':Bet):Prop:=∀i v x,β i v=ak x->β' i v=ak x
def Imm.le.refl (I:Imm):I.le I:=fun _ _ _ h=>h
def Imm.le.trans {I J K:Imm} (h:I.le J) (g:J.le K):I.le K:=fun _ _ _ e=>g _ _ _ (h _ _ _ e)
def Bet.le.refl (I:Bet):I.le I:=fun _ _ _ h=>h
def Bet.le.trans {I J K:Bet} (h:I.le J) (g:J.le K):I.le K:=fun _ _ _ e=>g _ _ _ (h _ _ _ e)
def Sz (β:Bet):Bet.le iO β:=fun _ _ _ h=>by simp[iO] at h
def Rel.mono (m:I.le o) (h:Rel I β a v) (y:β.le n):Rel o n a v:=by
 induction h generalizing n with
 | c h=>exact .c h
 | nil=>exact .nil
 | kf h=>exact .kf h
 | seq g k z q l r f=>exact .seq g k (fun i j a e=>m _ _ _ (z i j a e)) (fun i j a e=>f i j a e (Bet.le.refl _)) l r
 | fp g p k z f=>exact .fp g p (fun j a e=>m _ _ _ (k j a e)) (fun j a e=>f j a e (Bet.le.refl _))
 | ptr h w=>exact .ptr (y _ _ _ h) w
 | sl h w s=>exact .sl (y _ _ _ h) w s
 | Ai h w=>exact .Ai (y _ _ _ h) w
 | fn k z q l b t=>exact .fn k z (fun j a v e x=>b j a v e x y) (fun j a v e x=>t j a v e x y)
 | agg k z b=>exact .agg k (fun j a v e x=>b j a v e x y)
 | bM k z b=>exact .bM k (fun j a v e x=>b j a v e x y)
 | ba=>exact .ba
def bT:AV->Bool
 | .c _ | .nil | .seq _ _ _ | .fp _ _ | .ba=>aq
 | .fn _ a b=>a.isEmpty&&b.isEmpty
 | _=>ar
def eO:AV->Bool
 | .fn _ a b=>a.all bT&&b.all bT
 | .agg cs=>cs.all bT
 | a=>bT a
def bJ:AV->Bool
 | .bM vs=>vs.all eO
 | .agg cs=>cs.all eO
 | .fn _ a b=>a.all eO&&b.all eO
 | a=>eO a
def Rel.bT (h:Rel I β a v) (y:bT a=aq) (i:Bet):Rel I i a v:=by
 cases h with
 | c h=>exact .c h
 | nil=>exact .nil
 | kf h=>exact .kf h
 | seq z k x w b g=>exact .seq z k x w b g
 | fp z f k x=>exact .fp z f k x
 | fn k x w b =>
  simp only[Fx.bT,ah2,amN] at y;obtain ⟨rfl,rfl⟩:=y;exact .fn k x (fun j a v e=>by simp at e) (fun j a v e=>by simp at e)
 | ba=>exact .ba
 | _=>simp[Fx.bT] at y
def fX {p:AV->Bool} {l:List AV} (h:l.all p=aq) {j:Nat} {a:AV} (e:l[j]?=ak a):p a=aq :=
 ah4.1 h a (aiX e)
def Rel.eO (h:Rel I β a v) (z:eO a=aq) (w:Bet):Rel I w a v:=by
 cases h with
 | fn k x b f =>
  simp only[Fx.eO,ah2] at z;exact .fn k x (fun j a v e y=>(b j a v e y).bT (fX z.1 e) w) (fun j a v e y=>(f j a v e y).bT (fX z.2 e) w)
 | agg k x=>exact .agg k (fun j a v e y=>(x j a v e y).bT (fX (by simpa[Fx.eO] using z) e) w)
 | c h=>exact .c h
 | nil=>exact .nil
 | kf h=>exact .kf h
 | seq g k x b f l=>exact .seq g k x b f l
 | fp g i k x=>exact .fp g i k x
 | ba=>exact .ba
 | _=>simp[Fx.eO,Fx.bT] at z
def Rel.bJ (h:Rel I β a v) (z:bJ a=aq) (w:Bet):Rel I w a v:=by
 cases h with
 | fn k x b f =>
  simp only[Fx.bJ,ah2] at z;exact .fn k x (fun j a v e y=>(b j a v e y).eO (fX z.1 e) w) (fun j a v e y=>(f j a v e y).eO (fX z.2 e) w)
 | agg k x=>exact .agg k (fun j a v e y=>(x j a v e y).eO (fX (by simpa[Fx.bJ] using z) e) w)
 | bM k x=>exact .bM k (fun j a v e y=>(x j a v e y).eO (fX (by simpa[Fx.bJ] using z) e) w)
 | c h=>exact .c h
 | nil=>exact .nil
 | kf h=>exact .kf h
 | seq g k x b f l=>exact .seq g k x b f l
 | fp g i k x=>exact .fp g i k x
 | ba=>exact .ba
 | _=>simp[Fx.bJ,Fx.eO,Fx.bT] at z
def AP (I:Imm) (w:World):Prop:=∀b o v,I b o=ak v->∃c E fz,w.heap[b]?=ak (.cells c E fz)/\c[o]?=ak v
def eL (I:Imm) (β:Bet) (w:World) (B:Blk) (ob:bz):Prop :=
 if B.gL then ob.xs=[]/\B.cap=0 else
  ∃c E,w.heap[B.b]?=ak (.cells c E (0,0))/\(∀o,I B.b o=an)/\B.off+B.cap*B.k<=c.size/\ae ob.xs<=B.cap/\(∀x,x∈ob.xs->ae x=ob.k/\x.all bB=aq) /\
   ∀i j a v,dL ob.xs i j=ak a->c[B.off+i*B.k+j]?=ak v->Rel I β a v
structure Sim (I:Imm) (β:Bet) (H:aF) (w:World):Prop where
 fP:AP I w
 obj:∀(id:Nat) ob,H[id]?=some (some ob)->∃B,β id ob.ver=some B/\B.k=ob.k/\eL I β w B ob
 inj:∀(id id':Nat) ob ob' B B',H[id]?=some (some ob)->H[id']?=some (some ob')->β id ob.ver=some B->β id' ob'.ver=some B' ->
  B.gL=false->B'.gL=false->B.b=B'.b->id=id'
 jr:∀id ver B,β id ver=some B->id < H.length
 ver:∀(id:Nat) ob n,H[id]?=some (some ob)->ob.ver < n->β id n=none
def Own (β:Bet) (H:aF) (b:Nat):Prop:=∃(id:Nat) (ob:bz) (B:Blk),H[id]?=ak (ak ob)/\β id ob.ver=ak B/\B.gL=ar/\B.b=b
structure Ext (I:Imm) (β:Bet) (H:aF) (w:World) (I':Imm) (β':Bet) (H':aF) (w':World):Prop where
 fP:I.le I'
 ue:β.le β'
 len:H.length<=H'.length
 size:w.heap.size<=w'.heap.size
 os:w'.os=w.os
 tape:w'.tape=w.tape
 output:w'.output=w.output
 frame:∀b,b < w.heap.size->¬Own β H b->w'.heap[b]?=w.heap[b]?/\∀o,I' b o=I b o
 own:∀b,Own β' H' b->Own β H b\/w.heap.size<=b
def Ext.refl (I:Imm) (β:Bet) (H:aF) (w:World):Ext I β H w I β H w :=
 ⟨.refl _,.refl _,ahZ _,ahZ _,rfl,rfl,rfl,fun _ _ _=>⟨rfl,fun _=>rfl⟩,fun _ h => .inl h⟩
def Ext.trans {I J K:Imm} {β γ δ:Bet} {H G F:aF} {w u t:World} (h:Ext I β H w J γ G u) (g:Ext J γ G u K δ F t):Ext I β H w K δ F t where
 fP:=h.fP.trans g.fP
 ue:=h.ue.trans g.ue
 len:=aiJ h.len g.len
 size:=aiJ h.size g.size
 os:=g.os.trans h.os
 tape:=g.tape.trans h.tape
 output:=g.output.trans h.output
 frame:=fun b x c=>by have k:=h.frame b x c;have a:=g.frame b (aiB x h.size) (fun z=>(h.own b z).elim c (fun y=>absurd x (Nat.not_lt.2 y)));exact ⟨a.1.trans k.1,fun o=>(a.2 o).trans (k.2 o)⟩
 own:=fun b z=>by
  rcases g.own b z with k | k
  .exact h.own b k
  .exact .inr (aiJ h.size k)
abbrev Env:=List (Nat × AV)
def lk (t:Nat):Env->AV
 | [] => .ba
 | (s,v)::r=>if s=t then v else lk t r
structure cE (dl:List Deferred) (N:Nat) (I:Imm) (β:Bet) (e:Env) (H:aF) (a:Act) (w:World):Prop where
 bG:Sim I β H w
 size:a.tmps.size=N
 env:∀t,Rel I β (lk t e) (a.tmps.getD t undef)
 sH:a.defers=dl
def AP.cell (h:AP I w) (e:I b o=ak v):w.cell? ⟨b,o,an⟩=ak v:=by have ⟨c,E,y,k,x⟩:=h b o v e;simp[World.cell?,k,x]
def Rel.cells {I:Imm} {β:Bet} {cs:List AV} {vs:List Value} (h:ae cs=ae vs) (k:∀(j:Nat) a v,cs[j]?=ak a->vs[j]?=ak v->Rel I β a v) {j:Nat} {a:AV} (e:cs[j]?=ak a) :
  ∃v,vs[j]?=ak v/\Rel I β a v:=by
 have x:=(aid.1 e).1;have hv:vs[j]?=ak vs[j]:=by simp[show j < ae vs by omega]
 exact ⟨_,hv,k j a _ e hv⟩
inductive Opd where
 | t (n:Nat)
 | k (a:AV)
def Opd.ev (e:Env):Opd->AV
 | .t n=>lk n e
 | .k a=>a
instance (n:Nat):OfNat Opd n:=⟨.t n⟩
def i64 (n:Int):Opd := .k (.c (.int .i64 n))
def u32 (n:Int):Opd := .k (.c (.int .u32 n))
def u64 (n:Int):Opd := .k (.c (.int .u64 n))
def bo (b:Bool):Opd := .k (.c (.bool b))
def YZ:Opd := .k .nil
inductive AOp where
 | mv (x:Opd)
 | pick (c a b:Opd)
 | new (k:Nat) (z:List AV)
 | box (x:Opd)
 | ug (x:Opd)
 | bd (z:List AV) (parts:List (Nat × Nat × Opd))
 | bs (k:Nat) (parts:List Opd)
 | yf (k:Nat) (parts:List Opd)
 | ld (a:Opd) (ag:Bool) (k:Nat)
 | Fz (a:Opd) (ag:Bool) (k:Nat)
 | st (a v:Opd) (k:Nat)
 | nc (x:Opd)
 | bin (op:BinOp) (x y:Opd)
 | beq (neg:Bool) (x y:Opd)
 | un (op:UnOp) (x:Opd)
 | cv (k:IntKind) (x:Opd)
 | mf (f:FuncId) (first caps:List Opd)
 | mk (k:Nat) (z:List AV) (l c:Opd)
 | Ju (k:Nat) (z:List AV) (l:Opd)
 | rX (x:Opd) (lo hi mx:Option Opd) (k:Nat)
 | fa (x:Opd) (off:Nat)
 | fd (x:Opd) (off:Nat) (ag:Bool) (k:Nat)
 | Fy (x i:Opd) (k:Nat)
 | Lk (x i:Opd) (n k:Nat)
 | ix (x i:Opd) (n k:Nat) (ag:Bool)
 | ex (x:Opd) (i:Nat)
 | call (f:FuncId) (args:List Opd)
 | mO (f:FuncId) (args:List Opd)
 | oN (x:Opd) (args:List Opd)
 | len (x:Opd)
 | app (x y:Opd) (k:Nat)
 | mx (l:List Opd)
 | mn (l:List Opd)
 | gm (neg:Bool) (x:Opd)
 | IN (neg:Bool) (ks:List Bool) (x y:Opd)
 | Jc (gS:List Nat) (x:Opd)
 | zq (x:Opd) (z:List AV)
 | s7 (x n:Opd) (k:Nat) (z:List AV)
 | AX (x y:Opd) (k:Nat)
 | bad
def AV.cells:AV->List AV
 | .agg cs=>cs
 | a=>[a]
def dA:AV->Bool
 | .ba=>ar
 | _=>aq
def dM (a:AV):Bool:=bB a&&bT a
def gD (l:List AV) (o:Nat) (cs:List AV):List AV:=l.take o++cs++l.drop (o+ae cs)
def q9 (z:List AV):List (Nat × Nat × AV)->Option (List AV)
 | []=>ak z
 | (o,k,a)::r=>if ae a.cells=k/\o+k<=ae z then q9 (gD z o a.cells) r else an
def gC (ag:Bool) (cs:List AV) (o k:Nat):Option AV :=
 if ag then (if o+k<=ae cs then ak (.agg ((cs.drop o).take k)) else an) else cs[o]?
def Ag (op:BinOp) (k:IntKind) (x y:Int):Option AV :=
 if y < 0 then an else
  match op with
  | .shl=>ak (.c (.int k (k.wrap (x*2 ^ (min y.toNat k.bits)))))
  | .shr=>ak (.c (.int k (x.fdiv (2 ^ (min y.toNat k.bits)))))
  | _=>an
def CV (op:BinOp) (k:IntKind) (x y:Int):Option AV :=
 match op with
 | .and=>ak (.c (.int k (k.wrap (BitVec.ofInt k.bits x &&& BitVec.ofInt k.bits y).toNat)))
 | .or=>ak (.c (.int k (k.wrap (BitVec.ofInt k.bits x ||| BitVec.ofInt k.bits y).toNat)))
 | .xor=>ak (.c (.int k (k.wrap (BitVec.ofInt k.bits x ^^^ BitVec.ofInt k.bits y).toNat)))
 | .andNot=>ak (.c (.int k (k.wrap (BitVec.ofInt k.bits x &&& ~~~BitVec.ofInt k.bits y).toNat)))
 | _=>an
def sj (op:BinOp) (k:IntKind) (x y:Int):Option AV :=
 match op with
 | .add=>ak (.c (.int k (k.wrap (x+y))))
 | .sub=>ak (.c (.int k (k.wrap (x - y))))
 | .mul=>ak (.c (.int k (k.wrap (x*y))))
 | .quo=>if y=0 then an else ak (.c (.int k (k.wrap (x.tdiv y))))
 | .rem=>if y=0 then an else ak (.c (.int k (x.tmod y)))
 | .eql=>ak (.c (.bool (decide (x=y))))
 | .neq=>ak (.c (.bool (!decide (x=y))))
 | .lss=>ak (.c (.bool (decide (x < y))))
 | .leq=>ak (.c (.bool (decide (x<=y))))
 | .gtr=>ak (.c (.bool (decide (y < x))))
 | .geq=>ak (.c (.bool (decide (y<=x))))
 | .shl=>an
 | .shr=>an
 | op=>CV op k x y
def lV (op:BinOp):AV->AV->Option AV
 | .c (.int k x),.c (.int k' y) =>
  match op with
  | .shl=>Ag .shl k x y
  | .shr=>Ag .shr k x y
  | op=>if k=k' then sj op k x y else an
 | _,_=>an
def ZV (op:UnOp):AV->Option AV
 | .c (.int k x) =>
  match op with
  | .neg=>ak (.c (.int k (k.wrap (0 - x))))
  | .xor=>CV .xor k (if k.signed then -1 else k.max) x
  | _=>an
 | .c (.bool b)=>match op with | .not=>ak (.c (.bool !b)) | _=>an
 | _=>an
def Kr (k:Nat):AV->AV->Option AV
 | .seq k' _ xs,.c (.int _ n)=>if k'=k/\0<=n/\n < (ae xs:Int) then ak (.fp (xs.getD n.toNat []) 0) else an
 | .sl k' id ver i m,.c (.int _ n)=>if k'=k/\0<=n/\n < (m:Int) then ak (.ptr id ver (i+n.toNat) 0) else an
 | _,_=>an
def YY (n k:Nat):AV->AV->Option AV
 | .fp cs o,.c (.int _ i)=>if 0<=i/\i < (n:Int) then ak (.fp cs (o+i.toNat*k)) else an
 | .ptr id ver e o,.c (.int _ i)=>if 0<=i/\i < (n:Int) then ak (.ptr id ver e (o+i.toNat*k)) else an
 | _,_=>an
def YX (n k:Nat) (ag:Bool):AV->AV->Option AV
 | .agg cs,.c (.int _ i)=>if 0<=i/\i < (n:Int) then gC ag cs (i.toNat*k) k else an
 | _,_=>an
def intOf?:AV->Option Int
 | .c (.int _ n)=>ak n
 | _=>an
def Kt:AV->Option Nat
 | .nil=>ak 0
 | .seq _ _ xs=>ak (ae xs)
 | .sl _ _ _ _ n=>ak n
 | .c (.slice _ 0 _)=>ak 0
 | _=>an
def bL (e:Env) (m:Nat) (d:Nat):Option Opd->Option Nat
 | none=>ak d
 | some x=>match intOf? (x.ev e) with
  | some n=>if 0<=n/\n<=(m:Int) then ak n.toNat else an
  | none=>an
def oY (e:Env) (lo hi mx:Option Opd) (k:Nat):AV->Option AV
 | .nil =>
  match mx with
  | none=>(bL e 0 0 hi).bind fun h=>(bL e h 0 lo).bind fun _=>ak .nil
  | some _=>an
 | .seq k' f xs=>if k'=k then
  match mx with
  | none=>(bL e (ae xs) (ae xs) hi).bind fun h=>(bL e h 0 lo).bind fun l=>ak (.seq k (f&&decide (h=ae xs)) ((xs.take h).drop l))
  | some m=>(bL e (ae xs) 0 (ak m)).bind fun m=>(bL e m 0 hi).bind fun h=>(bL e h 0 lo).bind fun l=>if hi.isSome then ak (.seq k (decide (h=m)) ((xs.take h).drop l)) else an
  else an
 | .sl k' id ver i n =>
  match mx with
  | none=>if k'=k then (bL e n n hi).bind fun h=>(bL e h 0 lo).bind fun l=>ak (.sl k id ver (i+l) (h - l)) else an
  | some m=>if k'=k then (bL e n 0 (ak m)).bind fun m=>(bL e m 0 hi).bind fun h=>(bL e h 0 lo).bind fun _=>if hi.isSome then ak .ba else an else an
 | _=>an
def acK:List AV->Option Int
 | []=>an
 | [a]=>intOf? a
 | a::r=>(intOf? a).bind fun x=>(acK r).bind fun y=>ak (max x y)
def HO (ks:List Bool) (cs ds:List AV):Option Bool :=
 match ks,cs,ds with
 | [],[],[]=>ak aq
 | false::ks,.c (.int k x)::r,.c (.int k' y)::s=>if k=k' then (HO ks r s).map (decide (x=y)&&·) else an
 | true::ks,.c (.bool x)::r,.c (.bool y)::s=>(HO ks r s).map ((x==y)&&·)
 | _,_,_=>an
def pv (o:AOp) (e:Env):Option AV :=
 match o with
 | .mv x=>ak (x.ev e)
 | .pick c a b=>match c.ev e with
  | .c (.bool t)=>ak (if t then a.ev e else b.ev e)
  | _=>an
 | .box x=>if (x.ev e).cells.all dM then ak (.fp (x.ev e).cells 0) else an
 | .bd z parts=>if parts.all (fun p=>dA (p.2.2.ev e)) then (q9 z (parts.map fun p=>(p.1,p.2.1,p.2.2.ev e))).map .agg else an
 | .bs k parts=>if parts.all (fun p=>(p.ev e).cells.all dM&&(p.ev e).cells.length==k) then ak (.seq k aq (parts.map fun p=>(p.ev e).cells)) else an
 | .nc x=>match x.ev e with
  | .ptr id v i o=>ak (.ptr id v i o)
  | .fp cs o=>ak (.fp cs o)
  | .fn f a b=>ak (.fn f a b)
  | _=>an
 | .bin op x y=>lV op (x.ev e) (y.ev e)
 | .beq neg x y=>match x.ev e,y.ev e with
  | .c (.bool x),.c (.bool y)=>ak (.c (.bool (neg ^^ (x==y))))
  | _,_=>an
 | .un op x=>ZV op (x.ev e)
 | .cv k x=>match x.ev e with
  | .c (.int _ n)=>ak (.c (.int k (k.wrap n)))
  | _=>an
 | .mf f a b=>ak (.fn f (a.map (·.ev e)) (b.map (·.ev e)))
 | .Ju k z l=>match l.ev e with
  | .c (.int .i64 n)=>if (0<=n/\n<=4294967296)/\z.all dM=aq/\ae z=k then ak (.seq k aq (aA n.toNat z)) else an
  | _=>an
 | .rX x lo hi mx k=>oY e lo hi mx k (x.ev e)
 | .fa x off=>match x.ev e with
  | .ptr id v i o=>ak (.ptr id v i (o+off))
  | .fp cs o=>ak (.fp cs (o+off))
  | _=>an
 | .fd x off ag k=>match x.ev e with
  | .agg cs=>gC ag cs off k
  | _=>an
 | .Fy x i k=>Kr k (x.ev e) (i.ev e)
 | .Lk x i n k=>YY n k (x.ev e) (i.ev e)
 | .ix x i n k ag=>YX n k ag (x.ev e) (i.ev e)
 | .ex x i=>match x.ev e with
  | .bM vs=>vs[i]?
  | _=>an
 | .len x=>(Kt (x.ev e)).map fun n => .c (.int .i64 (n:Int))
 | .mx l=>match (l.map (Opd.ev e):List AV) with
  | [.c (.int k x),.c (.int _ y)]=>ak (.c (.int k (if y>x then y else x)))
  | _=>an
 | .mn l=>match (l.map (Opd.ev e):List AV) with
  | [.c (.int k x),.c (.int _ y)]=>ak (.c (.int k (if y < x then y else x)))
  | _=>an
 | .gm neg x=>match x.ev e with
  | .nil=>ak (.c (.bool (neg ^^ aq)))
  | .seq _ _ (_::_)=>ak (.c (.bool neg))
  | .c (.slice a 0 _)=>ak (.c (.bool (neg ^^ a.isNone)))
  | _=>an
 | .Fz x ag k=>match x.ev e with
  | .fp cs o=>gC ag cs o k
  | _=>an
 | .Jc gS x=>match x.ev e with
  | .c (.int _ n)=>if 0<=n then (gS[n.toNat]?).map fun (b:Nat) => .c (.int .u8 (b:Int)) else an
  | _=>an
 | .IN neg ks x y=>match x.ev e,y.ev e with
  | .agg cs,.agg ds=>(HO ks cs ds).map fun b => .c (.bool (neg ^^ b))
  | _,_=>an
 | _=>an
def aI (H:aF) (id ver:Nat):Option bz :=
 match H[id]? with
 | some (ak ob)=>if ob.ver=ver then ak ob else an
 | _=>an
def dW (k:Nat) (H:aF):AV->Option (List (List AV))
 | .nil=>ak []
 | .seq k' _ xs=>if k'=k then ak xs else an
 | .sl k' id ver i n=>(aI H id ver).bind fun ob=>if k'=k/\ob.k=k/\i+n<=ae ob.xs then ak ((ob.xs.drop i).take n) else an
 | .c (.slice _ 0 _)=>ak []
 | _=>an
def il (k:Nat) (H:aF) (x:AV) (ys:List (List AV)):Option (AV × aF) :=
 if ys.isEmpty then (match x with
  | .nil=>ak (x,H)
  | .seq _ _ _=>ak (x,H)
  | .sl _ _ _ _ _=>ak (x,H)
  | _=>an) else
 match x with
 | .nil=>if ae ys<=4294967296 then ak (.sl k (ae H) 0 0 (ae ys),H++[ak ⟨k,0,ys⟩]) else an
 | .seq k' aq xs=>if k'=k/\ae xs+ae ys<=4294967296 then ak (.sl k (ae H) 0 0 (ae xs+ae ys),H++[ak ⟨k,0,xs++ys⟩]) else an
 | .sl k' id ver i n=>(aI H id ver).bind fun ob =>
  if k'=k/\i+n=ae ob.xs then
   if n+ae ys<=4294967296/\ob.k=k then ak (.sl k id (ver+1) 0 (n+ae ys),H.set id (ak ⟨k,ver+1,ob.xs.drop i++ys⟩)) else an
  else if k'=k/\i+n+ae ys<=ae ob.xs/\ob.k=k then
   ak (.sl k id ver i (n+ae ys),H.set id (ak ⟨k,ver,ob.xs.take (i+n)++ys++ob.xs.drop (i+n+ae ys)⟩))
  else an
 | _=>an
def hv (o:AOp) (e:Env) (H:aF):Option (AV × aF) :=
 match o with
 | .new k z=>if ae z=k/\z.all bB=aq then ak (.ptr (ae H) 0 0 0,H++[ak ⟨k,0,[z]⟩]) else an
 | .ug x=>if (x.ev e).cells.all bB then ak (.ptr (ae H) 0 0 0,H++[ak ⟨(x.ev e).cells.length,0,[(x.ev e).cells]⟩]) else an
 | .yf k parts=>if parts.all (fun p=>(p.ev e).cells.all bB&&(p.ev e).cells.length==k) then
   ak (.sl k (ae H) 0 0 (ae parts),H++[ak ⟨k,0,parts.map fun p=>(p.ev e).cells⟩]) else an
 | .ld a ag k=>match a.ev e with
  | .fp cs o=>(gC ag cs o k).map (·,H)
  | .ptr id ver i o=>(aI H id ver).bind fun ob=>(ob.xs[i]?).bind fun x=>(gC ag x o k).map (·,H)
  | _=>an
 | .st a v k=>match a.ev e with
  | .ptr id ver i o=>(aI H id ver).bind fun ob=>(ob.xs[i]?).bind fun x =>
   if (v.ev e).cells.length=k/\o+k<=ae x/\(v.ev e).cells.all bB=aq then ak (.ba,H.set id (ak ⟨ob.k,ver,ob.xs.set i (gD x o (v.ev e).cells)⟩)) else an
  | _=>an
 | .mk k z l c=>match l.ev e,c.ev e with
  | .c (.int .i64 n),.c (.int .i64 m)=>if 0<=n/\n<=m/\m<=4294967296/\ae z=k/\z.all bB=aq then ak (.sl k (ae H) 0 0 n.toNat,H++[ak ⟨k,0,aA n.toNat z⟩]) else an
  | _,_=>an
 | .rX x lo hi an k=>match x.ev e with
  | .sl k' id ver i n=>(aI H id ver).bind fun ob=>if k'=k then (bL e (ae ob.xs - i) n hi).bind fun h=>(bL e h 0 lo).bind fun l=>ak (.sl k id ver (i+l) (h - l),H) else an
  | _=>an
 | .app x y k=>(dW k H (y.ev e)).bind fun ys=>il k H (x.ev e) ys
 | .s7 x n k z=>match n.ev e with
  | .c (.int .i64 m)=>if 0<=m/\m<=4294967296/\ae z=k/\z.all bB=aq then il k H (x.ev e) (aA m.toNat z) else an
  | _=>an
 | .AX x y k=>match x.ev e,y.ev e with
  | .sl k' id ver i n,.seq k2 _ ys=>(aI H id ver).bind fun ob=>if k'=k/\k2=k/\ob.k=k/\i+n<=ae ob.xs/\ae ys<=n then
    ak (.ba,H.set id (ak ⟨ob.k,ver,ob.xs.take i++ys++ob.xs.drop (i+ae ys)⟩)) else an
  | _,_=>an
 | .zq x z=>match x.ev e with
  | .nil=>ak (.ba,H)
  | .sl _ id ver i n=>(aI H id ver).bind fun ob=>if i+n<=ae ob.xs/\ae z=ob.k/\z.all bB=aq then
    ak (.ba,H.set id (ak ⟨ob.k,ver,ob.xs.take i++aA n z++ob.xs.drop (i+n)⟩)) else an
  | _=>an
 | _=>an
def gE (o:AOp) (e:Env) (H:aF):Option (AV × aF) :=
 match pv o e with
 | some v=>ak (v,H)
 | none=>hv o e H
def pg (I:Imm) (b0:Nat) (c:Array Value):Imm:=fun b o=>if b=b0 then c[o]? else I b o
def fV (β:Bet) (id ver:Nat) (B:Blk):Bet:=fun i v=>if i=id/\v=ver then ak B else β i v
def World.mi (w:World) (c:Array Value) (E:TypeId):World:={w with heap:=w.heap.push (.cells c E)}
def AP.FE (h:AP I w) (x:w.heap.size<=b) (o:Nat):I b o=an:=by
 cases e:I b o with
 | none=>rfl
 | some v =>
  have ⟨c,E,y,k,_⟩:=h b o v e;simp[am2 x] at k
def KT (h:AP I w) (c:Array Value):I.le (pg I w.heap.size c):=by
 intro b o v e;unfold pg;split
 .rename_i k;subst k;rw[h.FE (ahZ _)] at e;simp at e
 .exact e
def qE (w:World) (o:Obj) (h:b < w.heap.size):(w.heap.push o)[b]?=w.heap[b]?:=by rw[Array.getElem?_push,ah0 aD]
def km {w:World} {b:Nat} {o:Obj} (h:w.heap[b]?=ak o):b < w.heap.size:=by
 rcases aij b w.heap.size with k | k
 .exact k
 .simp[am2 k] at h
def eL.aY (h:eL I β w B ob) (q:I.le y) (t:β.le H)
  (s:B.gL=ar->w'.heap[B.b]?=w.heap[B.b]?) (r:B.gL=ar->∀o,y B.b o=I B.b o):eL y H w' B ob:=by
 unfold eL at *;split
 .rename_i x;simpa[x] using h
 .rename_i x;have k:B.gL=ar:=bu x;rw[ah0 x] at h;have ⟨c,E,f,g,l,m,n,p⟩:=h;exact ⟨c,E,by rw[s k,f],fun o=>by rw[r k,g],l,m,n,fun i j a v e z=>(p i j a v e z).mono q t⟩
def eL.lt (h:eL I β w B ob) (x:B.gL=ar):B.b < w.heap.size:=by unfold eL at h;rw[ah0 (by simp[x])] at h;have ⟨c,E,k,_⟩:=h;exact km k
def Own.lt (s:Sim I β H w) (h:Own β H b):b < w.heap.size:=by obtain ⟨c,e,B,x,y,z,rfl⟩:=h;have ⟨f,k,g,a⟩:=s.obj c e x;rw[y] at k;cases k;exact a.lt z
def Own.Q6 (s:Sim I β H w) (h:Own β H b) (o:Nat):I b o=an:=by obtain ⟨f,g,B,y,z,a,rfl⟩:=h;have ⟨i,x,j,k⟩:=s.obj f g y;rw[z] at x;cases x;unfold eL at k;rw[ah0 (by simp[a])] at k;have ⟨c,E,_,e,_⟩:=k;exact e o
def Sim.frozen (s:Sim I β H w) (c:Array Value) (E:TypeId) :
  Sim (pg I w.heap.size c) β H (World.mi w c E)/\Ext I β H w (pg I w.heap.size c) β H (World.mi w c E):=by
 have k:=KT s.fP c;refine ⟨⟨?_,?_,s.inj,s.jr,s.ver⟩,⟨k,.refl _,ahZ _,by simp[World.mi],rfl,rfl,rfl,?_,fun b h => .inl h⟩⟩
 .intro b o v e;unfold pg at e;split at e
  .rename_i a;subst a;exact ⟨c,E,(0,0),by show (w.heap.push (Obj.cells c E))[w.heap.size]?=_;simp,e⟩
  .have ⟨i,g,j,x,y⟩:=s.fP b o v e;exact ⟨i,g,j,by simp only[World.mi];rw[qE _ _ (km x),x],y⟩
 .intro l m h;have ⟨B,x,y,z⟩:=s.obj l m h;refine ⟨B,x,y,z.aY k (.refl _) (fun f=>?_) (fun f o=>?_)⟩
  .exact qE _ _ (z.lt f)
  .have:=z.lt f;simp[pg,show B.b≠w.heap.size by omega]
 .intro b a _;exact ⟨qE _ _ a,fun o=>by simp[pg,show b≠w.heap.size by omega]⟩
def xJ {β:Bet} {id ver:Nat} (h:β id ver=an) (B:Blk):β.le (fV β id ver B):=by
 intro i v x e;unfold fV;split
 .rename_i k;obtain ⟨rfl,rfl⟩:=k;rw[h] at e;simp at e
 .exact e
def Sim.wY {I:Imm} {β:Bet} {H:aF} {w:World} (s:Sim I β H w) {id ver:Nat} (h:ae H<=id):β id ver=an:=by
 cases e:β id ver with
 | none=>rfl
 | some B=>exact absurd (s.jr id ver B e) aD
def Sim.live (s:Sim I β H w) (ob:bz) (B:Blk) (V:B.k=ob.k) (hv:ob.ver=0)
  (hs:w.heap.size<=w'.heap.size) (A:∀b,b < w.heap.size->w'.heap[b]?=w.heap[b]?) (ho:w'.os=w.os) (ht:w'.tape=w.tape) (hp:w'.output=w.output)
  (D:B.gL=ar->w.heap.size<=B.b) (J:eL I (fV β (ae H) 0 B) w' B ob) :
  Sim I (fV β (ae H) 0 B) (H++[ak ob]) w'/\Ext I β H w I (fV β (ae H) 0 B) (H++[ak ob]) w':=by
 have W:=xJ (s.wY (ver:=0) (ahZ (ae H))) B;have y:∀(id:Nat) x,(H++[ak ob])[id]?=ak (ak x)->(id < ae H/\H[id]?=ak (ak x))\/(id=ae H/\x=ob):=by
  intro id x h;rcases aij id (ae H) with z | z
  .rw[aic z] at h;exact .inl ⟨z,h⟩
  .rw[aiC z] at h;have f:id - ae H=0:=by
    rcases Nat.eq_zero_or_pos (id - ae H) with j | j
    .exact j
    .have:([ak ob]:aF)[id - ae H]?=an:=bW;rw[this] at h;simp at h
   rw[f] at h;simp at h;exact .inr ⟨aD,h.symm⟩
 have a:∀id ver,id < ae H->fV β (ae H) 0 B id ver=β id ver:=by intro id ver h;unfold fV;rw[ah0];omega
 have g:fV β (ae H) 0 B (ae H) 0=ak B:=by simp[fV]
 have l:∀(id:Nat) x i,H[id]?=ak (ak x)->β id x.ver=ak i->i.gL=ar->i.b < w.heap.size:=by intro id x i h z f;have ⟨T,j,_,C⟩:=s.obj id x h;rw[z] at j;cases j;exact C.lt f
 refine ⟨⟨?_,?_,?_,?_,?_⟩,⟨.refl _,W,aO,hs,ho,ht,hp,fun b F _=>⟨A b F,fun _=>rfl⟩,?_⟩⟩
 .intro b o v e;have ⟨c,E,U,z,f⟩:=s.fP b o v e;exact ⟨c,E,U,by rw[A b (km z),z],f⟩
 .intro id x h;rcases y id x h with ⟨z,f⟩ | ⟨rfl,rfl⟩
  .have ⟨i,j,C,S⟩:=s.obj id x f;exact ⟨i,by rw[a _ _ z,j],C,S.aY (.refl _) W (fun hn=>A _ (S.lt hn)) (fun _ _=>rfl)⟩
  .exact ⟨B,hv ▸ g,V,J⟩
 .intro id m p q N O z f K X L M F;rcases y id p z with ⟨r,t⟩ | ⟨rfl,rfl⟩<;>rcases y m q f with ⟨P,R⟩ | ⟨rfl,rfl⟩
  .rw[a _ _ r] at K;rw[a _ _ P] at X;exact s.inj id m p q N O t R K X L M F
  .rw[a _ _ r] at K;rw[hv,g] at X;cases X;have:=l id p N t K L;have:=D M;omega
  .rw[a _ _ P] at X;rw[hv,g] at K;cases K;have:=l m q O R X M;have:=D L;omega
  .rfl
 .intro id ver i h;unfold fV at h;split at h
  .rename_i A;simp;omega
  .have:=s.jr id ver i h;simp;omega
 .intro id x n h G;rcases y id x h with ⟨r,t⟩ | ⟨rfl,rfl⟩
  .rw[a _ _ r];exact s.ver id x n t G
  .unfold fV;rw[ah0 aD];exact s.wY (ahZ _)
 .intro b h;obtain ⟨id,x,i,z,f,j,rfl⟩:=h;rcases y id x z with ⟨r,t⟩ | ⟨rfl,rfl⟩
  .rw[a _ _ r] at f;exact .inl ⟨id,x,i,t,f,j,rfl⟩
  .rw[hv,g] at f;cases f;exact .inr (D j)
def Gt (H:aF) (id j:Nat) (x:Option bz):(H.set id x)[j]?=if id=j then (if j < ae H then ak x else an) else H[j]?:=by
 rw[akm];split
 .rename_i h;subst h;split<;>simp_all
 .rfl
def Sim.An {I:Imm} {β:Bet} {H:aF} {w w':World} (s:Sim I β H w) {id:Nat} {ob:bz} {B:Blk} (z:H[id]?=ak (ak ob)) (G:β id ob.ver=ak B)
  (a:bz) (K:Blk) (W:Bet) (T:W=β/\a.ver=ob.ver/\K=B\/W=fV β id (ob.ver+1) K/\a.ver=ob.ver+1)
  (hk:K.k=a.k)
  (hs:w.heap.size<=w'.heap.size) (hh:∀b,b < w.heap.size->(B.gL=aq\/b≠B.b)->w'.heap[b]?=w.heap[b]?) (ho:w'.os=w.os) (ht:w'.tape=w.tape) (hp:w'.output=w.output)
  (hB:K.gL=ar->(B.gL=ar/\K.b=B.b)\/w.heap.size<=K.b) (a5:eL I W w' K a) :
  Sim I W (H.set id (ak a)) w'/\Ext I β H w I W (H.set id (ak a)) w':=by
 have a3:=(aid.1 z).1;have X:β id (ob.ver+1)=an:=s.ver id ob _ z aD;have P:β.le W:=by
  rcases T with ⟨rfl,_,_⟩ | ⟨rfl,_⟩
  .exact .refl _
  .exact xJ X _
 have x:∀i v,i≠id->W i v=β i v:=by
  intro i v hi;rcases T with ⟨rfl,_,_⟩ | ⟨rfl,_⟩
  .rfl
  .unfold fV;rw[ah0];simp[hi]
 have q:W id a.ver=ak K:=by
  rcases T with ⟨rfl,y,rfl⟩ | ⟨rfl,y⟩
  .rw[y];exact G
  .rw[y];simp[fV]
 have l:∀(i:Nat) o,(H.set id (ak a))[i]?=ak (ak o)->(i≠id/\H[i]?=ak (ak o))\/(i=id/\o=a):=by
  intro i o h;rw[Gt] at h;split at h
  .rename_i e;subst e;rw[ah1 a3] at h;simp at h;exact .inr ⟨rfl,h.symm⟩
  .rename_i e;exact .inl ⟨fun e'=>e e'.symm,h⟩
 have p:∀(i:Nat) o m,i≠id->H[i]?=ak (ak o)->β i o.ver=ak m->m.gL=ar->m.b < w.heap.size/\(B.gL=aq\/m.b≠B.b):=by
  intro i o m hi h y f;have ⟨U,r,_,N⟩:=s.obj i o h;rw[y] at r;cases r;refine ⟨N.lt f,?_⟩;cases t:B.gL with
  | true=>exact .inl rfl
  | false=>exact .inr (fun e=>hi (s.inj i id o ob m B h z y G f t e))
 have a6:B.gL=ar->B.b < w.heap.size:=by intro h;have ⟨U,r,_,N⟩:=s.obj id ob z;rw[G] at r;cases r;exact N.lt h
 have O:B.gL=ar->∀o,I B.b o=an:=by intro h o;exact Own.Q6 s ⟨id,ob,B,z,G,h,rfl⟩ o
 refine ⟨⟨?_,?_,?_,?_,?_⟩,⟨.refl _,P,aO,hs,ho,ht,hp,?_,?_⟩⟩
 .intro b o v e;have ⟨c,E,fz,y,f⟩:=s.fP b o v e;refine ⟨c,E,fz,?_,f⟩;rw[hh b (km y) ?_,y];cases t:B.gL with
  | true=>exact .inl rfl
  | false=>exact .inr (fun e'=>by rw[e',O t] at e;simp at e)
 .intro i o h;rcases l i o h with ⟨y,f⟩ | ⟨rfl,rfl⟩
  .have ⟨m,r,N,h5⟩:=s.obj i o f;exact ⟨m,by rw[x _ _ y,r],N,h5.aY (.refl _) P (fun S=>hh _ (p i o m y f r S).1 (p i o m y f r S).2) (fun _ _=>rfl)⟩
  .exact ⟨K,q,hk,a5⟩
 .intro i j o1 o2 B1 B2 y f D F n1 n2 C;rcases l i o1 y with ⟨J,R⟩ | ⟨rfl,rfl⟩<;>rcases l j o2 f with ⟨V,c2⟩ | ⟨rfl,rfl⟩
  .rw[x _ _ J] at D;rw[x _ _ V] at F;exact s.inj i j o1 o2 B1 B2 R c2 D F n1 n2 C
  .rw[x _ _ J] at D;rw[q] at F;cases F;have:=p i o1 B1 J R D n1;rcases hB n2 with ⟨L,M⟩ | g
   .rcases this.2 with A | A
    .simp[L] at A
    .exact absurd (C.trans M) A
   .omega
  .rw[x _ _ V] at F;rw[q] at D;cases D;have:=p j o2 B2 V c2 F n2;rcases hB n1 with ⟨L,M⟩ | g
   .rcases this.2 with A | A
    .simp[L] at A
    .exact absurd (C.symm.trans M) A
   .omega
  .rfl
 .intro i v m h;rw[ah8];rcases aij i (ae H) with y | y
  .exact y
  .rw[x _ _ aD] at h;exact s.jr i v m h
 .intro i o n h S;rcases l i o h with ⟨y,f⟩ | ⟨rfl,rfl⟩
  .rw[x _ _ y];exact s.ver i o n f S
  .rcases T with ⟨rfl,y,_⟩ | ⟨rfl,y⟩
   .exact s.ver i ob n z aD
   .unfold fV;rw[ah0 aD];exact s.ver i ob n z aD
 .intro b a0 a4;refine ⟨hh b a0 ?_,fun _=>rfl⟩;cases t:B.gL with
  | true=>exact .inl rfl
  | false=>exact .inr (fun e=>a4 ⟨id,ob,B,z,G,t,e.symm⟩)
 .intro b h;obtain ⟨i,o,m,y,f,r,rfl⟩:=h;rcases l i o y with ⟨J,R⟩ | ⟨rfl,rfl⟩
  .rw[x _ _ J] at f;exact .inl ⟨i,o,m,R,f,r,rfl⟩
  .rw[q] at f;cases f;rcases hB r with ⟨L,M⟩ | g
   .exact .inl ⟨i,ob,B,z,G,L,M.symm⟩
   .exact .inr g
def MI:Value->Value->Bool
 | .bool a,.bool b=>a==b
 | .int k n,.int k' n'=>decide (k=k')&&decide (n=n')
 | .string a,.string b=>decide (a=b)
 | .pointer an,.pointer an=>aq
 | .nilFunc,.nilFunc=>aq
 | .nilIface,.nilIface=>aq
 | _,_=>ar
def CZ:Value->AV->Bool
 | .slice an 0 0,.nil=>aq
 | v,.c u=>isAtom u&&MI v u
 | _,_=>ar
def s8:List Value->List AV->Bool
 | [],[]=>aq
 | v::r,a::s=>CZ v a&&s8 r s
 | _,_=>ar
def Kj:Value->AV->Bool
 | .agg vs,.agg cs=>s8 vs.toList cs
 | v,a=>CZ v a
def ea:Operand->Opd->Bool
 | .tmp t,.t n=>t==n
 | .const v,.k a=>Kj v a
 | .func f,.k (.fn g [] [])=>f==g
 | _,_=>ar
def mm:List Operand->List Opd->Bool
 | [],[]=>aq
 | x::r,y::s=>ea x y&&mm r s
 | _,_=>ar
def pV:Option Operand->Option Opd->Bool
 | none,an=>aq
 | some x,ak y=>ea x y
 | _,_=>ar
section
variable (P:Program)
def eX (t:TypeId):Option Nat:=(P.info? t).map (·.size)
def Tm (t:TypeId):Option Nat:=(P.info? t).map (·.bytes)
def jF (t:TypeId):Option Bool :=
 match P.underlying t with
 | some (.struct _) | some (.array _ _)=>ak aq
 | some _=>ak ar
 | none=>an
def sQ (t:TypeId) (z:List AV):Bool :=
 match (P.info? t).bind (·.zero) with
 | some v=>s8 v.cells.toList z
 | none=>ar
def isSlice (t e:TypeId):Bool:=match P.underlying t with | some (.slice e')=>e'==e | _=>ar
def gP (t:TypeId):Option TypeId:=match P.underlying t with | some (.slice e)=>ak e | _=>an
def isBool (t:TypeId):Bool:=match P.underlying t with | some .bool=>aq | _=>ar
def Fw (t:TypeId) (k:IntKind):Bool:=match P.underlying t with | some (.int k')=>decide (k'=k) | _=>ar
def Gp (t:TypeId) (f:Nat):Option Field:=match P.underlying t with | some (.struct fs)=>fs[f]? | _=>an
def Mt (t:TypeId):Option (Nat × TypeId):=match P.underlying t with | some (.array n e)=>ak (n,e) | _=>an
def vL (fields:Array Field):List (Nat × Operand)->List (Nat × Nat × Opd)->Bool
 | [],[]=>aq
 | (i,x)::r,(o,k,y)::s=>(match fields[i]? with | some f=>f.offset==o&&eX P f.type==ak k | none=>ar)&&ea x y&&vL fields r s
 | _,_=>ar
def tE (size:Nat):List (Nat × Operand)->List (Nat × Nat × Opd)->Bool
 | [],[]=>aq
 | (i,x)::r,(o,k,y)::s=>i*size==o&&size==k&&ea x y&&tE size r s
 | _,_=>ar
def XJ (fields:Array Field):Bool:=fields.all fun f=>(eX P f.type).isSome
def qu:Nat->List (Nat × Operand)->List Opd->Bool
 | _,[],[]=>aq
 | n,(i,x)::r,y::s=>i==n&&ea x y&&qu (n+1) r s
 | _,_,_=>ar
def mg {α:Type} (o:Option α) (f:α->Bool):Bool:=match o with | some a=>f a | none=>ar
def mQ (e:TypeId) (k m:Nat):Bool :=
 eX P e==ak k&&decide (0 < k)&&mg (Tm P e) (fun n=>decide (0 < n/\n<=m))&&mg ((P.info? e).bind (·.zero)) (fun v=>v.cells.size==k)
def Gy:BinOp->Bool->Bool
 | .eql,ar=>aq
 | .neq,aq=>aq
 | _,_=>ar
def Sj:Operand->Bool
 | .const (.slice an 0 0)=>aq
 | _=>ar
def Gj (c:Call) (f:FuncId):Bool:=match c.callee with | .value (.func g)=>g==f | _=>ar
def Kh (c:Call) (x:Opd):Bool:=match c.callee with | .value y=>ea y x | _=>ar
def kI (c:Call) (b:Builtin):Bool:=match c.callee,b with
 | .builtin .len,.len=>aq
 | .builtin .append,.append=>aq
 | .builtin .max,.max=>aq
 | .builtin .min,.min=>aq
 | .builtin .clear,.clear=>aq
 | .builtin .copy,.copy=>aq
 | _,_=>ar
def nJ (c:Call) (i:Nat):Option TypeId:=(c.argTypes[i]?).bind (gP P)
end
def I6 (P:Program) (g:TypeId->Option (List Bool)):List Field->Nat->Option (List Bool)
 | [],_=>ak []
 | f::r,off=>if f.name≠ "_"/\f.offset=off then (g f.type).bind fun ks=>if eX P f.type=ak (ae ks)/\ks≠[] then (I6 P g r (off+ae ks)).map (ks++·) else an else an
def re (P:Program):Nat->TypeId->Option (List Bool)
 | 0,_=>an
 | d+1,t=>match P.underlying t with
  | some (.int _)=>ak [ar]
  | some .bool=>ak [aq]
  | some (.struct fs)=>if P.stoodInHeld t then an else I6 P (re P d) fs.toList 0
  | some (.array n e)=>(re P d e).bind fun ks=>if eX P e=ak (ae ks)/\ks≠[] then ak (aA n ks).flatten else an
  | _=>an
section
variable (P:Program)
def isStr (t:TypeId):Bool:=match P.underlying t with | some .string=>aq | _=>ar
def Tg:Operand->List Nat->Bool
 | .const (.string s),gS=>s.data.toList.map (·.toNat)==gS
 | _,_=>ar
def bV (o:Op) (ao:AOp):Bool :=
 match o,ao with
 | .move x,.mv y=>ea x y
 | .assign x,.mv y=>ea x y
 | .pick c a b,.pick c' a' b'=>ea c c'&&ea a a'&&ea b b'
 | .alloc e,.new k z=>sQ P e z&&eX P e==ak k
 | .box _ x,.box y=>ea x y
 | .box _ x,.ug y=>ea x y
 | .build t parts,.bd z ps=>sQ P t z&&match P.underlying t with
  | some (.struct fs)=>XJ P fs&&vL P fs parts.toList ps
  | some (.array _ e)=>match eX P e with
   | some k=>tE k parts.toList ps
   | none=>ar
  | _=>ar
 | .buildSlice t len parts,.bs k ps=>mg (gP P t) (fun e=>mQ P e k 65536)&&len==ae ps&&decide (len*k<=2 ^ 24)&&qu 0 parts.toList ps
 | .buildSlice t len parts,.yf k ps=>mg (gP P t) (fun e=>mQ P e k 65536)&&len==ae ps&&decide (len*k<=2 ^ 24)&&qu 0 parts.toList ps
 | .load t a,.ld x ag k=>jF P t==ak ag&&eX P t==ak k&&ea a x
 | .load t a,.Fz x ag k=>jF P t==ak ag&&eX P t==ak k&&ea a x
 | .store t a v,.st x y k=>eX P t==ak k&&ea a x&&ea v y
 | .nilCheck x,.nc y=>ea x y
 | .binOp op _ x y _,.bin op' x' y'=>op==op'&&ea x x'&&ea y y'
 | .binOp op t x y _,.beq neg x' y'=>isBool P t&&Gy op neg&&ea x x'&&ea y y'
 | .binOp op t x y _,.IN neg ks x' y'=>jF P t==ak aq&&re P 8 t==ak ks&&P.eqGuardType P.depth t==ar&&Gy op neg&&ea x x'&&ea y y'
 | .binOp op t x y _,.gm neg x'=>(gP P t).isSome&&Gy op neg&&ea x x'&&Sj y
 | .unOp op _ x,.un op' x'=>op==op'&&ea x x'
 | .convert s d x,.cv k x'=>(P.underlying s).isSome&&Fw P d k&&ea x x'
 | .makeFunc (.func f) a b,.mf f' a' b'=>f==f'&&mm a.toList a'&&mm b.toList b'
 | .makeSlice t l c,.mk k z l' c'=>mg (gP P t) (fun e=>mQ P e k 65536&&sQ P e z)&&ea l l'&&ea c c'
 | .makeSlice t l c,.Ju k z l'=>mg (gP P t) (fun e=>mQ P e k 65536&&sQ P e z)&&ea l l'&&ea c l'
 | .slice t x lo hi mx,.rX x' lo' hi' mx' k=>mg (gP P t) (fun e=>eX P e==ak k)&&ea x x'&&pV lo lo'&&pV hi hi'&&pV mx mx'
 | .fieldAddr s x f,.fa x' off=>mg (Gp P s f) (fun fl=>fl.offset==off&&mg (eX P fl.type) (· != 0))&&ea x x'
 | .field t x f,.fd x' off ag k=>mg (Gp P t f) (fun fl=>fl.offset==off&&jF P fl.type==ak ag&&eX P fl.type==ak k)&&ea x x'
 | .indexAddr t x i,.Fy x' i' k=>mg (gP P t) (fun e=>eX P e==ak k)&&ea x x'&&ea i i'
 | .indexAddr t x i,.Lk x' i' n k=>mg (Mt P t) (fun me=>me.1==n&&eX P me.2==ak k)&&ea x x'&&ea i i'
 | .index t x i,.ix x' i' n k ag=>mg (Mt P t) (fun me=>me.1==n&&eX P me.2==ak k&&jF P me.2==ak ag)&&ea x x'&&ea i i'
 | .index t x i,.Jc gS i'=>isStr P t&&Tg x gS&&ea i i'
 | .extract x i,.ex x' i'=>i==i'&&ea x x'
 | .call c,.call f args=>Gj c f&&mm c.args.toList args
 | .call c,.mO f args=>Gj c f&&mm c.args.toList args
 | .call c,.oN x args=>Kh c x&&mm c.args.toList args
 | .call c,.len x=>kI c .len&&(nJ P c 0).isSome&&mm c.args.toList [x]
 | .call c,.app x y k=>kI c .append&&mg (nJ P c 0) (fun e=>mQ P e k 4096)&&(nJ P c 1).isSome&&mm c.args.toList [x,y]
 | .call c,.mx l=>kI c .max&&mm c.args.toList l
 | .call c,.mn l=>kI c .min&&mm c.args.toList l
 | .call c,.zq x z=>kI c .clear&&mg (nJ P c 0) (fun e=>sQ P e z)&&mm c.args.toList [x]
 | .call c,.AX x y k=>kI c .copy&&mg (nJ P c 0) (fun e=>mQ P e k 4096)&&mm c.args.toList [x,y]
 | .call c,.s7 x y k z=>kI c .append&&mg (nJ P c 0) (fun e=>mQ P e k 4096&&sQ P e z)&&mg (c.argTypes[1]?) (fun t=>Fw P t .i64)&&mm c.args.toList [x,y]
 | _,.bad=>aq
 | _,_=>ar
end
def RN {v u:Value} (h:MI v u=aq):v=u:=by unfold MI at h;split at h<;>simp_all
def E7 (h:CZ v a=aq):Rel I β a v:=by
 unfold CZ at h;split at h
 .exact .nil
 .simp only[ah2] at h;rw[RN h.2];exact .c h.1
 .simp at h
def zt {I:Imm} {β:Bet}:∀{vs:List Value} {cs:List AV},s8 vs cs=aq->ae cs=ae vs/\∀(j:Nat) a v,cs[j]?=ak a->vs[j]?=ak v->Rel I β a v
 | [],[],_=>⟨rfl,fun j a v e=>by simp at e⟩
 | v::r,a::s,h=>by
  simp only[s8,ah2] at h;have ⟨y,z⟩:=zt (I:=I) (β:=β) h.2;refine ⟨by simp[y],fun j x b e k=>?_⟩;cases j with
  | zero=>simp at e k;subst e k;exact E7 h.1
  | succ j=>simp at e k;exact z j x b e k
 | [],_::_,h=>by simp[s8] at h
 | _::_,[],h=>by simp[s8] at h
def OG (h:Kj v a=aq):Rel I β a v:=by
 unfold Kj at h;split at h
 .rename_i z y;have ⟨k,x⟩:=zt (I:=I) (β:=β) h;have:=Rel.agg k x;simpa using this
 .exact E7 h
def MO {I:Imm} {β:Bet} {e:Env} {a:Act} {x:Operand} {y:Opd} (h:ea x y=aq) (k:∀t,Rel I β (lk t e) (a.tmps.getD t undef)):Rel I β (y.ev e) (a.eval x):=by
 unfold ea at h;split at h
 .simp at h;subst h;exact k _
 .exact OG h
 .simp at h;subst h;exact Rel.fn (I:=I) (β:=β) (vf:=[]) (vc:=[]) rfl rfl (fun j a v e=>by simp at e) (fun j a v e=>by simp at e)
 .simp at h
def cG (I:Imm) (β:Bet) (as:List AV) (vs:List Value):Prop:=ae as=ae vs/\∀(j:Nat) a v,as[j]?=ak a->vs[j]?=ak v->Rel I β a v
def cG.nil (I:Imm) (β:Bet):cG I β [] []:=⟨rfl,fun j a v e=>by simp at e⟩
def cG.cons (h:Rel I β a v) (t:cG I β as vs):cG I β (a::as) (v::vs):=by
 refine ⟨by simp[t.1],fun j x y e k=>?_⟩;cases j with
 | zero=>simp at e k;subst e k;exact h
 | succ j=>simp at e k;exact t.2 j x y e k
def cG.head (t:cG I β (a::as) (v::vs)):Rel I β a v:=t.2 0 a v rfl rfl
def cG.tail (t:cG I β (a::as) (v::vs)):cG I β as vs :=
 ⟨by have:=t.1;simpa using this,fun j h x e k=>t.2 (j+1) h x (bu e) (bu k)⟩
def cG.get {I:Imm} {β:Bet} {as:List AV} {vs:List Value} (t:cG I β as vs) {j:Nat} {a:AV} (e:as[j]?=ak a):∃v,vs[j]?=ak v/\Rel I β a v:=Rel.cells t.1 t.2 e
def cG.append (t:cG I β as vs) (s:cG I β x y):cG I β (as++x) (vs++y):=by
 refine ⟨by simp[t.1,s.1],fun j a v e k=>?_⟩;rcases aij j (ae as) with h | h
 .rw[aic h] at e;rw[aic (by rw[<-t.1];exact h)] at k;exact t.2 j a v e k
 .rw[aiC h] at e;rw[aiC (by rw[<-t.1];exact h),<-t.1] at k;exact s.2 _ a v e k
def cG.take (t:cG I β as vs) (n:Nat):cG I β (as.take n) (vs.take n):=by
 refine ⟨by simp[t.1],fun j a v e k=>?_⟩;rw[aj7] at e k;split at e
 .rename_i h;rw[ah1 h] at k;exact t.2 j a v e k
 .simp at e
def cG.drop (t:cG I β as vs) (n:Nat):cG I β (as.drop n) (vs.drop n):=by refine ⟨by simp[t.1],fun j a v e h=>?_⟩;rw[ajS] at e h;exact t.2 _ a v e h
def iR {I:Imm} {β:Bet} {e:Env} {a:Act} (k:∀t,Rel I β (lk t e) (a.tmps.getD t undef)):∀{xs:List Operand} {ys:List Opd},mm xs ys=aq ->
  cG I β (ys.map (·.ev e)) (xs.map a.eval)
 | [],[],_ => .nil _ _
 | x::r,y::s,h=>by simp only[mm,ah2] at h;exact .cons (MO h.1 k) (iR k h.2)
 | [],_::_,h=>by simp[mm] at h
 | _::_,[],h=>by simp[mm] at h
def Rel.cellsOf (h:Rel I β a v) (g:a ≠ .ba):cG I β a.cells v.cells.toList:=by
 cases h with
 | agg k x=>exact ⟨by simpa[AV.cells,Value.cells] using k,by simpa[AV.cells,Value.cells] using x⟩
 | ba=>exact absurd rfl g
 | c h =>
  have:v.cells=#[v]:=by cases v<;>first | rfl | simp[isAtom] at h
  rw[this];exact .cons (.c h) (.nil _ _)
 | nil=>exact .cons .nil (.nil _ _)
 | kf h=>exact .cons (.kf h) (.nil _ _)
 | seq b k x y z f=>exact .cons (.seq b k x y z f) (.nil _ _)
 | fp b e k x=>exact .cons (.fp b e k x) (.nil _ _)
 | ptr k x=>exact .cons (.ptr k x) (.nil _ _)
 | sl k x y=>exact .cons (.sl k x y) (.nil _ _)
 | Ai k x=>exact .cons (.Ai k x) (.nil _ _)
 | fn k x y z=>exact .cons (.fn k x y z) (.nil _ _)
 | bM k x=>exact .cons (.bM k x) (.nil _ _)
def Rel.Cm (h:Rel I β a v) (k:bB a=aq):v.oneCell'=aq:=by
 cases h<;>first | rfl | (simp[bB] at k;done) | skip
 rename_i h;revert h;cases v<;>simp[isAtom,Value.oneCell']
section runs
variable {P:Program} {w:World}
def run_underlying {t:TypeId} {d:TypeDesc} (h:P.underlying t=ak d):(underlying t).run P w = .ok d w:=by simp[underlying,h]
def run_typeInfo {t:TypeId} {i:TypeInfo} (h:P.info? t=ak i):(typeInfo t).run P w = .ok i w:=by simp[typeInfo,h]
def run_sizeOf {t:TypeId} (h:eX P t=ak k):(sizeOf t).run P w = .ok k w:=by unfold eX at h;have ⟨i,x,y⟩:=aiD.1 h;simp[sizeOf,run_typeInfo x,y]
def tQ {t:TypeId} (h:jF P t=ak b):(isAgg t).run P w = .ok b w:=by
 unfold jF at h;unfold isAgg;split at h
 .rename_i k;simp at h;subst h;simp[run_underlying k]
 .rename_i k;simp at h;subst h;simp[run_underlying k]
 .rename_i d k y z;simp at h;subst h;simp only[Sem.run_bind,run_underlying z,Result.andThen_ok];cases d with
  | struct x=>exact absurd rfl (k x)
  | array n e=>exact absurd rfl (y n e)
  | _=>rfl
 .simp at h
def Af {t:TypeId} (h:sQ P t z=aq):∃v,(zeroValue t).run P w = .ok v w/\(P.info? t).bind (·.zero)=ak v/\∀I β,cG I β z v.cells.toList:=by
 unfold sQ at h;split at h
 .rename_i v k;have ⟨i,x,y⟩:=ah7.1 k;exact ⟨v,by simp[zeroValue,run_typeInfo x,y],k,fun I β=>zt h⟩
 .simp at h
def Bh {t:TypeId} (h:(P.info? t).bind (·.zero)=ak v):(zeroValue t).run P w = .ok v w:=by have ⟨i,k,x⟩:=ah7.1 h;simp[zeroValue,run_typeInfo k,x]
def Ki {E:TypeId} (h:w.heap[b]?=ak (.cells c E x)) (k:c[o]?=ak v):w.cell? ⟨b,o,an⟩=ak v:=by simp[World.cell?,h,k]
def pA (b o n:Nat):Addr.add ⟨b,o,an⟩ n=⟨b,o+n,an⟩:=by unfold Addr.add;split<;>simp_all
def LP (cs:List Value) (h:∀j v,cs[j]?=ak v->w.cell? ⟨b,o+j,an⟩=ak v):(loadCells ⟨b,o,an⟩ (ae cs)).run P w = .ok cs.toArray w:=by have:=run_loadCells_list (P:=P) (w:=w) ⟨b,o,an⟩ cs (fun j v e=>by rw[pA];exact h j v e);simpa using this
def jX (w:World) (b:Nat) (c:Array Value) (E:TypeId):World:={w with heap:=w.heap.setIfInBounds b (.cells c E (0,0))}
def db (c:Array Value) (off:Nat):List Value->Array Value
 | []=>c
 | v::r=>db (c.setIfInBounds off v) (off+1) r
def SH (c:Array Value) (off:Nat) (vs:List Value):(db c off vs).size=c.size:=by
 induction vs generalizing c off with
 | nil=>rfl
 | cons v r h=>simp[db,h]
def Ik (vs:List Value):∀(c:Array Value) (off:Nat),off+ae vs<=c.size->∀j:Nat,(db c off vs)[j]?=if off<=j/\j < off+ae vs then vs[j - off]? else c[j]?:=by
 induction vs with
 | nil=>intro c off h j;simp only[db,aiV];rw[ah0 (by omega)]
 | cons v r y =>
  intro c off h j;simp only[aiF] at h;rw[db,y _ _ bW];by_cases k:off+1<=j/\j < off+1+ae r
  .rw[ah1 k,ah1 bW];obtain ⟨d,rfl⟩:∃d,j=off+1+d:=⟨j - (off+1),aD⟩;rw[show off+1+d - (off+1)=d by omega,show off+1+d - off=d+1 by omega];simp
  .rw[ah0 k];by_cases x:j=off
   .subst x;rw[ah1 aO];simp[aiH];omega
   .rw[ah0 bW,aiH,ah0 (fun e=>x e.symm)]
def DT (w:World) (b:Nat) (c:Array Value) (E:TypeId) (k:Nat):(jX w b c E).heap[k]?=if k=b/\b < w.heap.size then ak (.cells c E (0,0)) else w.heap[k]?:=by
 simp only[jX,aiH];by_cases h:b=k
 .subst h;by_cases x:b < w.heap.size
  .simp[x]
  .simp[x]
 .rw[ah0 h,ah0 aD]
def Ru {E:TypeId} (h:w.heap[b]?=ak (.cells c E (0,0))) (v:Value):w.setCell ⟨b,o,an⟩ v=jX w b (c.setIfInBounds o v) E:=by
 have k:=km h;simp only[World.setCell,jX];congr 1;apply alU;intro i;rw[Array.getElem?_modify,aiH];split
 .rename_i e;subst e;have x:w.heap[b] = .cells c E (0,0):=by rw[aiN k] at h;exact alw h
  simp[k,x]
 .rfl
def uQ {E:TypeId} (vs:List Value):∀(w:World) (c:Array Value) (off i:Nat),w.heap[b]?=ak (.cells c E (0,0))->(∀v,v∈vs->v.oneCell'=aq)->off+i+ae vs<=c.size ->
  (storeCells ⟨b,off,an⟩ vs i).run P w = .ok () (if vs.isEmpty then w else jX w b (db c (off+i) vs) E):=by
 induction vs with
 | nil=>intro w c off i _ _ _;simp[storeCells]
 | cons v r g =>
  intro w c off i h hv e;simp only[aiF] at e;have x:w.cell? ⟨b,off+i,an⟩=ak (c[off+i]'aD):=Ki h (aiN _);have z:w.frozen? ⟨b,off+i,an⟩=ar:=by simp[World.frozen?,h]
  have k:=Ru (o:=off+i) h v;have y:(w.setCell ⟨b,off+i,an⟩ v).heap[b]?=ak (.cells (c.setIfInBounds (off+i) v) E (0,0)):=by rw[k,DT,ah1 ⟨rfl,km h⟩]
  have:=g _ _ off (i+1) y (fun u f=>hv u (by simp[f])) bW;simp only[storeCells,Sem.run_bind,pA,run_store P w _ v .plain (hv v aO),x,z,ah5,ajO,Result.andThen_ok,this,List.isEmpty_cons];congr 1;split
  .rename_i a;simp at a;subst a;simp[db,k]
  .simp only[k,db,jX,ajf];congr 1;simp
end runs
section
def yo (I:Imm) (β:Bet) (v:AV):Next->Prop
 | .value rv=>Rel I β v rv
 | .skip=>Rel I β v undef
 | _=>False
def Post (I:Imm) (β:Bet) (H:aF) (w:World) (v:AV) (H':aF) (r:Result Next):Prop :=
 ∃nx w' I' β',r = .ok nx w'/\Ext I β H w I' β' H' w'/\Sim I' β' H' w'/\yo I' β' v nx/\∀id ver,H'[id]?=H[id]?->β' id ver=β id ver
def Post.same {I:Imm} {β:Bet} {H:aF} {w:World} {v:AV} {rv:Value} {r:Result Next} (s:Sim I β H w) (h:Rel I β v rv) (e:r = .ok (.value rv) w):Post I β H w v H r :=
 ⟨_,_,_,_,e,.refl _ _ _ _,s,h,fun _ _ _=>rfl⟩
variable {P:Program} {dl:List Deferred} {fo:Option Nat} {N:Nat} {I:Imm} {β:Bet} {e:Env} {H:aF} {a:Act} {w:World} {o:Oper} {v:AV}
def Rel.eG {u x:Value} (h:Rel I β (.c x) u):u=x/\isAtom x=aq:=by cases h;exact ⟨rfl,‹_›⟩
def cE.x (s:cE dl N I β e H a w) {x:Operand} {y:Opd} (h:ea x y=aq):Rel I β (y.ev e) (a.eval x):=MO h s.env
def ada (h:bV P o.op (.mv y)=aq) (s:cE dl N I β e H a w):Post I β H w (y.ev e) H ((execOp a.eval o).run P w):=by
 cases k:o.op<;>simp only[k,bV,ah5] at h
 .exact .same s.bG (s.x h) (by simp[execOp,k])
 .exact .same s.bG (s.x h) (by simp[execOp,k])
def ZI (h:bV P o.op (.pick c x y)=aq) (s:cE dl N I β e H a w) (hv:pv (.pick c x y) e=ak v):Post I β H w v H ((execOp a.eval o).run P w):=by
 cases z:o.op<;>simp only[z,bV,ah5,ah2] at h;have k:=s.x h.1.1;have b:=s.x h.1.2;have f:=s.x h.2;simp only[pv] at hv;split at hv
 .rename_i t g;rw[g] at k;have k:=k.eG.1;cases t
  .simp at hv;subst hv;exact .same s.bG f (by simp[execOp,z,k,asBool])
  .simp at hv;subst hv;exact .same s.bG b (by simp[execOp,z,k,asBool])
 .simp at hv
def CR {cs:List AV} (h:cs.all dM=aq):cs.all bB=aq:=by rw[ah4] at *;intro x k;have:=h x k;simp only[dM,ah2] at this;exact this.1
def uo {x:AV} {p:AV->Bool} (h:x.cells.all p=aq) (k:p .ba=ar):x ≠ .ba:=by rintro rfl;simp[AV.cells,k] at h
def zL (b:cs.all dM=aq) (h:cG I β cs vs) (s:AP I w) (z:∀(j:Nat) v,vs[j]?=ak v->c[off+j]?=ak v) :
  (∀(j:Nat) a,cs[j]?=ak a->pg I w.heap.size c w.heap.size (off+j)=ak (vs.getD j undef))/\(∀(j:Nat) a,cs[j]?=ak a->Rel (pg I w.heap.size c) iO a (vs.getD j undef)):=by
 have key:∀(j:Nat) a,cs[j]?=ak a->∃v,vs[j]?=ak v/\Rel I β a v/\vs.getD j undef=v:=by intro j a e;have ⟨v,k,x⟩:=h.get e;exact ⟨v,k,x,by simp[k]⟩
 refine ⟨fun j a e=>?_,fun j a e=>?_⟩
 .have ⟨v,k,x,y⟩:=key j a e;rw[y];simp only[pg,ajs];exact z j v k
 .have ⟨v,k,x,y⟩:=key j a e;rw[y];have:=fX b e;simp only[dM,ah2] at this;exact (x.bT this.2 iO).mono (KT s c) (.refl _)
def aaZ {x:Opd} (h:bV P o.op (.box x)=aq) (s:cE dl N I β e H a w) (hv:pv (.box x) e=ak v):Post I β H w v H ((execOp a.eval o).run P w):=by
 cases z:o.op<;>simp only[z,bV,ah5] at h;rename_i E y;simp only[pv] at hv;split at hv<;>simp at hv;rename_i k;subst hv;have f:=(s.x h).cellsOf (uo k rfl);have ⟨g,i⟩:=s.bG.frozen (a.eval y).cells E;have b:=zL (c:=(a.eval y).cells) (off:=0) k f s.bG.fP (fun j v e=>bu e);refine ⟨.value (.pointer (ak ⟨w.heap.size,0,an⟩)),_,_,_,?_,i,g,?_,fun _ _ _=>rfl⟩
 .simp[execOp,z,Instr.box,newVar,newRow,World.mi]
 .exact Rel.fp (o:=0) (off:=0) (fun j=>(a.eval y).cells.toList.getD j undef) (CR k) b.1 b.2
def ade (h:bV P o.op (.nc x)=aq) (s:cE dl N I β e H a w) (hv:pv (.nc x) e=ak v):Post I β H w v H ((execOp a.eval o).run P w):=by
 cases z:o.op<;>simp only[z,bV,ah5] at h;have k:=s.x h;simp only[pv] at hv;split at hv<;>simp at hv<;>subst hv
 all_goals (rename_i c;rw[c] at k;generalize b:a.eval _=y at k)
 .cases k;exact .same s.bG (.ptr ‹_› ‹_›) (by simp[execOp,z,b])
 .cases k;exact .same s.bG (.fp _ ‹_› ‹_› ‹_›) (by simp[execOp,z,b])
 .cases k;exact .same s.bG (.fn ‹_› ‹_› ‹_› ‹_›) (by simp[execOp,z,b])
def JQ {t:TypeId}:(eqGuard h t x y (.int k m) (.int z n)).run P w = .ok () w:=by unfold eqGuard;cases h<;>rfl
def Ae {t:TypeId}:(eqGuard h t x y (.bool m) (.bool n)).run P w = .ok () w:=by unfold eqGuard;cases h<;>rfl
def Uq {t:TypeId} (h:lV x (.c (.int k m)) (.c (.int y n))=ak v) :
  ∃rv,(binOp x t (.int k m) (.int y n)).run P w = .ok rv w/\v = .c rv/\isAtom rv=aq:=by
 unfold lV at h;cases x<;>simp only[Ag,sj,CV] at h<;>(repeat' split at h)<;>simp at h<;>subst h
 all_goals (subst_vars;refine ⟨_,?_,rfl,rfl⟩)
 all_goals simp[binOp,Op.intArith,Op.intDiv,Op.intBits,Op.intCmp,Op.shift, *]
 all_goals (rw[ami];simp)
def aaY (h:bV P o.op (.bin op x y)=aq) (s:cE dl N I β e H a w) (hv:pv (.bin op x y) e=ak v):Post I β H w v H ((execOp a.eval o).run P w):=by
 cases b:o.op<;>simp only[b,bV,ah5,ah2,ajt] at h;rename_i l t n p m;obtain ⟨⟨rfl,f⟩,g⟩:=h;have r1:=s.x f;have z:=s.x g;simp only[pv] at hv;generalize x.ev e=A at *;generalize y.ev e=B at *;have k:=hv;unfold lV at k;split at k
 .have r1:=r1.eG.1;have z:=z.eG.1;obtain ⟨rv,i,rfl,j⟩:=Uq (P:=P) (w:=w) (t:=t) hv;exact .same s.bG (.c j) (by simp[execOp,b,r1,z,JQ,i])
 .simp at k
def Rel.vC {cs:List AV} {u:Value} (h:Rel I β (.agg cs) u):∃vs:List Value,u = .agg vs.toArray/\cG I β cs vs:=by cases h;exact ⟨_,rfl,‹_›,‹_›⟩
def Rel.CC {cs:List AV} {u:Value} (h:Rel I β (.bM cs) u):∃vs:List Value,u = .tuple vs.toArray/\cG I β cs vs:=by cases h;exact ⟨_,rfl,‹_›,‹_›⟩
def Rel.nZ {u:Value} (h:Rel I β .nil u):u = .slice an 0 0:=by cases h;rfl
def Rel.Cl (h:cG I β cs vs):Rel I β (.agg cs) (.agg vs.toArray) := .agg h.1 h.2
def Rel.pG {k:Nat} {f:Bool} {xs:List (List AV)} {u:Value} (h:Rel I β (.seq k f xs) u):∃p cap,u = .slice p (ae xs) cap/\(f=aq->cap=ae xs)/\ae xs<=cap /\
  (xs≠[]->∃(b off:Nat) (vs:Nat->Nat->Value),p=ak ⟨b,off,an⟩/\(∀x,x∈xs->ae x=k/\x.all bB=aq)/\(∀i j a,dL xs i j=ak a->I b (off+i*k+j)=ak (vs i j))/\(∀i j a,dL xs i j=ak a->Rel I iO a (vs i j))):=by
 cases h
 .exact ⟨_,_,rfl,bu (‹_›),aO,fun h=>absurd rfl h⟩
 .rename_i b off cap vs z l g y c;exact ⟨_,_,rfl,c,l,fun _=>⟨b,off,vs,rfl,g,y,z⟩⟩
def Rel.pz {k id ver i n:Nat} {u:Value} (h:Rel I β (.sl k id ver i n) u):∃B p,β id ver=ak B/\B.k=k/\u = .slice p n (B.cap - i)/\i+n<=B.cap /\
  ((B.gL=ar/\p=ak ⟨B.b,B.off+i*B.k,an⟩)\/(n=0/\i=B.cap)):=by
 cases h
 .exact ⟨_,_,‹_›,rfl,rfl,‹_›,.inl ⟨‹_›,rfl⟩⟩
 .rename_i B a y x;exact ⟨B,a,y,rfl,by simp[x],aD,.inr ⟨rfl,x⟩⟩
def Rel.I8 {cs:List AV} {o:Nat} {u:Value} (h:Rel I β (.fp cs o) u):∃(b off:Nat) (vs:Nat->Value),u = .pointer (ak ⟨b,off+o,an⟩)/\cs.all bB=aq/\(∀j a,cs[j]?=ak a->I b (off+j)=ak (vs j))/\(∀j a,cs[j]?=ak a->Rel I iO a (vs j)):=by cases h;exact ⟨_,_,_,rfl,‹_›,‹_›,‹_›⟩
def Rel.yO {id ver i o:Nat} {u:Value} (h:Rel I β (.ptr id ver i o) u):∃B,β id ver=ak B/\B.gL=ar/\u = .pointer (ak ⟨B.b,B.off+i*B.k+o,an⟩):=by cases h;exact ⟨_,‹_›,‹_›,rfl⟩
def run_equal_bool {t:TypeId} (h:P.underlying t=ak .bool) (p q:Bool):(Op.equal t (.bool p) (.bool q)).run P w = .ok (p==q) w:=by unfold Op.equal;rw[show Op.maxDepth=9999+1 from rfl];unfold Op.equalIn;simp only[Sem.run_bind,run_underlying h,Result.andThen_ok,Sem.run_pure]
def aaX (h:bV P o.op (.beq neg x y)=aq) (s:cE dl N I β e H a w) (hv:pv (.beq neg x y) e=ak v):Post I β H w v H ((execOp a.eval o).run P w):=by
 cases b:o.op<;>simp only[b,bV,ah5,ah2] at h;rename_i op t X W K;have ⟨⟨⟨i,z⟩,l⟩,m⟩:=h;have r1:=s.x l;have j:=s.x m;simp only[pv] at hv;split at hv
 .rename_i p q n r;rw[n] at r1;rw[r] at j;have f:=r1.eG.1;have g:=j.eG.1;have k:∃d,P.underlying t=ak d/\d = .bool:=by unfold isBool at i;split at i<;>simp_all
  obtain ⟨_,k,rfl⟩:=k;unfold Gy at z;split at z<;>simp at z hv<;>subst hv
  .exact .same s.bG (v := .v0 (p==q)) (.c rfl) (by simp[execOp,b,f,g,Ae,binOp,run_equal_bool k])
  .exact .same s.bG (v := .v0 (!(p==q))) (.c rfl) (by simp[execOp,b,f,g,Ae,binOp,run_equal_bool k])
 .simp at hv
def adf (h:bV P o.op (.un op x)=aq) (s:cE dl N I β e H a w) (hv:pv (.un op x) e=ak v):Post I β H w v H ((execOp a.eval o).run P w):=by
 cases y:o.op<;>simp only[y,bV,ah5,ah2,ajt] at h;rename_i b t f;obtain ⟨rfl,z⟩:=h;have r1:=s.x z;simp only[pv] at hv;generalize x.ev e=A at *;unfold ZV at hv;split at hv
 .have k:=r1.eG.1;split at hv<;>simp[CV] at hv<;>subst hv
  .exact .same s.bG (.c rfl) (by simp[execOp,y,k,Op.unary,Op.intArith])
  .exact .same s.bG (.c rfl) (by simp[execOp,y,k,Op.unary,Op.intBits])
 .have k:=r1.eG.1;split at hv<;>simp at hv;subst hv;exact .same s.bG (.c rfl) (by simp[execOp,y,k,Op.unary])
 .simp at hv
def ac3 (h:bV P o.op (.cv k x)=aq) (s:cE dl N I β e H a w) (hv:pv (.cv k x) e=ak v):Post I β H w v H ((execOp a.eval o).run P w):=by
 cases z:o.op<;>simp only[z,bV,ah5,ah2] at h;rename_i t d n;have ⟨⟨f,y⟩,g⟩:=h;have r1:=s.x g;simp only[pv] at hv;split at hv<;>simp at hv;rename_i l;subst hv;rw[l] at r1;have b:=r1.eG.1;have ⟨m,j⟩:=ako.1 f;have i:P.underlying d=ak (.int k):=by unfold Fw at y;split at y<;>simp_all
 refine .same s.bG (.c rfl) ?_;simp only[execOp,z,b,convert,Sem.run_bind,run_underlying j,run_underlying i,Result.andThen_ok];simp[Conv.intToInt]
def ac8 (h:bV P o.op (.mf f x y)=aq) (s:cE dl N I β e H a w):Post I β H w (.fn f (x.map (·.ev e)) (y.map (·.ev e))) H ((execOp a.eval o).run P w):=by
 cases b:o.op<;>simp only[b,bV,ah5] at h;rename_i fn g i;cases fn<;>simp only[ah5,ah2,ajt] at h;obtain ⟨⟨rfl,k⟩,z⟩:=h;have r1:=iR s.env k;have c:=iR s.env z;exact .same s.bG (.fn r1.1 c.1 r1.2 c.2) (by
  have k:Array.map a.eval g=(List.map a.eval g.toList).toArray:=by apply akP;simp
  have z:Array.map a.eval i=(List.map a.eval i.toList).toArray:=by apply akP;simp
  simp[execOp,b,Instr.makeFunc,k,z])
def ac4 (h:bV P o.op (.ex x i)=aq) (s:cE dl N I β e H a w) (hv:pv (.ex x i) e=ak v):Post I β H w v H ((execOp a.eval o).run P w):=by
 cases k:o.op<;>simp only[k,bV,ah5,ah2,ajt] at h;obtain ⟨rfl,b⟩:=h;have r1:=s.x b;simp only[pv] at hv;split at hv
 .rename_i c;rw[c] at r1;have ⟨j,y,g⟩:=r1.CC;have ⟨rv,z,f⟩:=g.get hv;exact .same s.bG f (by simp[execOp,k,y,Instr.extract,z])
 .simp at hv
def ac5 (h:bV P o.op (.fa x off)=aq) (s:cE dl N I β e H a w) (hv:pv (.fa x off) e=ak v):Post I β H w v H ((execOp a.eval o).run P w):=by
 cases X:o.op<;>simp only[X,bV,ah5,ah2] at h;rename_i t D f;have ⟨i,W⟩:=h;have r1:=s.x W;unfold mg at i;split at i<;>simp at i;rename_i fl K;have ⟨c,z⟩:=i;split at z<;>simp at z;rename_i k A;have y:∃m,P.underlying t=ak (.struct m)/\m[f]?=ak fl:=by unfold Gp at K;split at K<;>simp_all
 have ⟨m,y,r⟩:=y;have key:∀b j,a.eval D = .pointer (ak ⟨b,j,an⟩)->(execOp a.eval o).run P w = .ok (.value (.pointer (ak ⟨b,j+off,an⟩))) w:=by intro b j g;simp[execOp,X,g,Instr.fieldAt,run_underlying y,r,Instr.sureAddr,fieldPlace,run_sizeOf A,z,c,pA]
 simp only[pv] at hv;split at hv<;>simp at hv<;>subst hv
 .rename_i g;rw[g] at r1;have ⟨B,p,q,l⟩:=r1.yO;exact .same s.bG (.ptr p q) (by rw[key _ _ l];simp[ajf])
 .rename_i g;rw[g] at r1;have ⟨b,j,C,l,n,p,q⟩:=r1.I8;exact .same s.bG (Rel.fp C n p q) (by rw[key _ _ l,ajf])
def aa6 (h:bV P o.op (.len x)=aq) (s:cE dl N I β e H a w) (hv:pv (.len x) e=ak v):Post I β H w v H ((execOp a.eval o).run P w):=by
 cases r:o.op<;>simp only[r,bV,ah5,ah2] at h;rename_i c;have ⟨⟨m,l⟩,W⟩:=h;have y:c.callee = .builtin .len:=by unfold kI at m;split at m<;>simp_all
 have ⟨E,K⟩:=ako.1 l;have ⟨t,l,z⟩:=ah7.1 K;have X:P.underlying t=ak (.slice E):=by unfold gP at z;split at z<;>simp_all
 have i:=iR s.env W;simp only[aiS,ajE] at i;have k:∃rv,c.args.map a.eval=#[rv]/\Rel I β (x.ev e) rv:=by
  have q:=i.1
  match f:c.args.toList.map a.eval with
  | [rv]=>exact ⟨rv,by apply akP;simp[f],by rw[f] at i;exact i.head⟩
  | []=>simp[f] at q
  | _::_::_=>simp[f] at q
 have ⟨rv,k,g⟩:=k;have key:∀p n cap,rv = .slice p n cap->(execOp a.eval o).run P w = .ok (.value (.int .i64 (n:Int))) w:=by intro p n cap j;simp[execOp,r,resolve,y,k,j,invoke,builtin,Builtin.len_,l,run_underlying X,goInt]
 simp only[pv] at hv;obtain ⟨n,b,rfl⟩:=aiD.1 hv;generalize x.ev e=A at *;unfold Kt at b;split at b<;>simp at b<;>subst b
 .exact .same s.bG (.c rfl) (key _ _ _ g.nZ)
 .cases g
  .exact .same s.bG (.c rfl) (key _ 0 _ rfl)
  .exact .same s.bG (.c rfl) (key _ _ _ rfl)
 .cases g
  .exact .same s.bG (.c rfl) (key _ _ _ rfl)
  .exact .same s.bG (.c rfl) (key _ 0 _ rfl)
 .exact .same s.bG (.c rfl) (key _ 0 _ g.eG.1)
def SN (y:cG I β cs vs) (h:gC ag cs off k=ak v) :
  (ag=aq->Rel I β v (.agg (vs.toArray.extract off (off+k))))/\(ag=ar->∃rv,vs[off]?=ak rv/\Rel I β v rv):=by
 unfold gC at h;split at h
 .rename_i x;split at h<;>simp at h;subst h;refine ⟨fun _=>?_,fun h=>by simp[x] at h⟩;have:=Rel.Cl ((y.drop off).take k);rw[show vs.toArray.extract off (off+k)=((vs.drop off).take k).toArray by simp];exact this
 .rename_i x;exact ⟨fun h=>absurd h x,fun _=>y.get h⟩
def NQ {t:TypeId} (x:jF P t=ak ag) (f:eX P t=ak k) (g:cG I β cs vs) (h:gC ag cs off k=ak v) :
  ∃rv,(part t vs.toArray off).run P w = .ok rv w/\Rel I β v rv:=by
 have ⟨y,z⟩:=SN g h;cases ag with
 | true=>exact ⟨_,by simp[part,tQ x,run_sizeOf f];rfl,bu (y rfl)⟩
 | false =>
  have ⟨rv,b,c⟩:=z rfl;exact ⟨rv,by simp[part,tQ x,b],c⟩
def ac6 (h:bV P o.op (.fd x off ag k)=aq) (s:cE dl N I β e H a w) (hv:pv (.fd x off ag k) e=ak v):Post I β H w v H ((execOp a.eval o).run P w):=by
 cases l:o.op<;>simp only[l,bV,ah5,ah2] at h;rename_i t B f;have ⟨b,n⟩:=h;have r1:=s.x n;unfold mg at b;split at b<;>simp at b;rename_i fl j;have ⟨⟨z,g⟩,r⟩:=b;have y:∃c,P.underlying t=ak (.struct c)/\c[f]?=ak fl:=by unfold Gp at j;split at j<;>simp_all
 have ⟨c,y,i⟩:=y;simp only[pv] at hv;split at hv
 .rename_i W K;rw[K] at r1;have ⟨A,m,X⟩:=r1.vC;have ⟨rv,p,q⟩:=NQ (w:=w) g r X hv;exact .same s.bG q (by simp[execOp,l,m,Instr.field,run_underlying y,i,asAgg,z,p])
 .simp at hv
def MG {t:TypeId} {x:Nat × TypeId} (h:Mt P t=ak x):P.underlying t=ak (.array x.1 x.2):=by unfold Mt at h;split at h<;>simp_all;obtain ⟨rfl⟩:=h;exact ⟨rfl,rfl⟩
def eD {t E:TypeId} (h:gP P t=ak E):P.underlying t=ak (.slice E):=by unfold gP at h;split at h<;>simp_all
def gg {α:Type} {x:Option α} {f:α->Bool} (h:mg x f=aq):∃y,x=ak y/\f y=aq:=by unfold mg at h;split at h<;>simp_all
def ac7 (h:bV P o.op (.ix x i n k ag)=aq) (s:cE dl N I β e H a w) (hv:pv (.ix x i n k ag) e=ak v):Post I β H w v H ((execOp a.eval o).run P w):=by
 cases f:o.op<;>simp only[f,bV,ah5,ah2] at h;rename_i t G W;have ⟨⟨y,l⟩,m⟩:=h;obtain ⟨E,b,y⟩:=gg y;simp at y;obtain ⟨⟨rfl,c⟩,z⟩:=y;have hu:=MG b;have r1:=s.x l;have K:=s.x m;simp only[pv] at hv;generalize x.ev e=A at *;generalize i.ev e=B at *;unfold YX at hv;split at hv
 .split at hv
  case isFalse=>simp at hv
  rename_i D C r;have ⟨F,g,X⟩:=r1.vC;have j:=K.eG.1;have ⟨rv,p,q⟩:=NQ (w:=w) z c X hv;exact .same s.bG q (by simp[execOp,f,g,j,Instr.index,asIntOf,run_underlying hu,run_sizeOf c,r,p])
 .simp at hv
def aa3 (h:bV P o.op (.Lk x i n k)=aq) (s:cE dl N I β e H a w) (hv:pv (.Lk x i n k) e=ak v):Post I β H w v H ((execOp a.eval o).run P w):=by
 cases r:o.op<;>simp only[r,bV,ah5,ah2] at h;rename_i t G D;have ⟨⟨j,W⟩,c⟩:=h;obtain ⟨E,q,j⟩:=gg j;simp at j;obtain ⟨rfl,C⟩:=j;have hu:=MG q;have r1:=s.x W;have X:=s.x c;have key:∀b l K g,a.eval G = .pointer (ak ⟨b,l,an⟩)->a.eval D = .int K g->0<=g/\g < (E.1:Int)->(execOp a.eval o).run P w = .ok (.value (.pointer (ak ⟨b,l+g.toNat*k,an⟩))) w:=by intro b l K g y z f;simp[execOp,r,y,z,Instr.indexAt,asIntOf,run_underlying hu,Instr.sureAddr,run_sizeOf C,f,pA]
 simp only[pv] at hv;generalize x.ev e=A at *;generalize i.ev e=B at *;unfold YY at hv;split at hv
 .split at hv<;>simp at hv;rename_i f;subst hv;have z:=X.eG.1;have ⟨b,l,F,y,m,c,p⟩:=r1.I8;exact .same s.bG (Rel.fp F m c p) (by rw[key _ _ _ _ y z f,ajf])
 .split at hv<;>simp at hv;rename_i f;subst hv;have z:=X.eG.1;have ⟨B,c,p,y⟩:=r1.yO;exact .same s.bG (.ptr c p) (by rw[key _ _ _ _ y z f];simp only[ajf])
 .simp at hv
def HZ {xs:List (List AV)} {n:Nat} (h:n < ae xs):xs[n]?=ak (xs.getD n []):=by simp[af,h]
def aa2 (h:bV P o.op (.Fy x i k)=aq) (s:cE dl N I β e H a w) (hv:pv (.Fy x i k) e=ak v):Post I β H w v H ((execOp a.eval o).run P w):=by
 cases F:o.op<;>simp only[F,bV,ah5,ah2] at h;rename_i t x' V;have ⟨⟨q,C⟩,D⟩:=h;obtain ⟨E,L,q⟩:=gg q;simp at q;have hu:=eD L;have r1:=s.x C;have J:=s.x D;have key:∀b W n cap r y,a.eval x' = .slice (ak ⟨b,W,an⟩) n cap->a.eval V = .int r y->0<=y/\y < (n:Int)->(execOp a.eval o).run P w = .ok (.value (.pointer (ak ⟨b,W+y.toNat*k,an⟩))) w:=by intro b W n cap r y g l z;simp[execOp,F,g,l,Instr.indexAt,asIntOf,run_underlying hu,run_sizeOf q,z,pA]
 simp only[pv] at hv;generalize x.ev e=A at *;generalize i.ev e=B at *;unfold Kr at hv;split at hv
 .split at hv<;>simp at hv;rename_i G f xs r y z;subst hv;have l:=J.eG.1;obtain ⟨rfl,z⟩:=z;have ⟨p,cap,g,_,_,X⟩:=r1.pG;have c:y.toNat < ae xs:=aD;obtain ⟨b,off,vs,rfl,R,M,O⟩:=X (by rintro rfl;simp at c);refine .same s.bG (Rel.fp (o:=0) (b:=b) (off:=off+y.toNat*G) (fun j=>vs y.toNat j) (R _ (aiX (HZ c))).2 ?_ ?_) (key _ _ _ _ _ _ g l z)
  .intro j a K;exact M y.toNat j a (by simp only[dL];rw[HZ c];exact K)
  .intro j a K;exact O y.toNat j a (by simp only[dL];rw[HZ c];exact K)
 .split at hv<;>simp at hv;rename_i G id ver i0 m r y z;subst hv;have l:=J.eG.1;obtain ⟨rfl,z⟩:=z;obtain ⟨B,p,U,rfl,g,S,T⟩:=r1.pz;rcases T with ⟨c,rfl⟩ | ⟨C,D⟩
  .refine .same s.bG (.ptr U c) ?_;rw[key _ _ _ _ _ _ g l z];simp[aiW,ajf]
  .omega
 .simp at hv
def Rj (k:cG I β z x) (y:cG I β cs vc):cG I β (gD z h cs) (x.take h++vc++x.drop (h+ae cs)) :=
 ((k.take h).append y).append (k.drop _)
def UQ (vc:List Value):∀(c:Array Value) (k n:Nat),k+n+ae vc<=c.size->((vc.zipIdx n).foldl (fun cs (x:Value × Nat)=>cs.setIfInBounds (k+x.2) x.1) c)=db c (k+n) vc:=by
 induction vc with
 | nil=>intro c k n _;rfl
 | cons v r y =>
  intro c k n h;simp only[aiF] at h;simp only[al8,List.foldl_cons,db];rw[y _ k (n+1) (by simp;omega),show k+n+1=k+(n+1) by omega]
def OW (vc:List Value) (c:Array Value) (of:Nat) (h:of+ae vc<=c.size):(db c of vc).toList=c.toList.take of++vc++c.toList.drop (of+ae vc):=by
 apply akZ;intro j;rw[am7,Ik _ _ _ h];have k:ae (c.toList.take of)=of:=bW;by_cases x:j < of
 .grind
 .grind
def AZ (place:Nat->Option (Nat × Nat)):∀(l:List (Nat × Value)) (m:List (Nat × Nat × AV)) (c:Array Value) (z y:List AV),
  ae l=ae m->(∀(j:Nat) p q,l[j]?=ak p->m[j]?=ak q->place p.1=ak (q.1,q.2.1)/\Rel I β q.2.2 p.2/\q.2.2 ≠ .ba) ->
  cG I β z c.toList->q9 z m=ak y->∃n,Instr.fill place c l=ak n/\cG I β y n.toList
 | [],[],c,z,y,_,_,r,h=>by simp[q9] at h;subst h;exact ⟨c,rfl,r⟩
 | [],_::_,c,z,y,f,_,_,_=>by simp at f
 | _::_,[],c,z,y,f,_,_,_=>by simp at f
 | (i,v)::l,(s,k,b)::m,c,z,y,f,C,r,h=>by
  have ⟨X,W,A⟩:=C 0 _ _ rfl rfl;simp only at X W A;simp only[q9] at h;split at h
  .rename_i G;have ⟨J,L⟩:=G;have B:=W.cellsOf A;have g:=B.1;have K:=r.1;simp only[Array.length_toList] at g K;have x:=UQ v.cells.toList c s 0 bW;have t:=OW v.cells.toList c s bW;have ⟨n,E,F⟩:=AZ place l m (db c s v.cells.toList) (gD z s b.cells) y (bu f) (fun j p q e D=>C (j+1) p q (bu e) (bu D))
    (by rw[t,show ae v.cells.toList=ae b.cells by simp;omega];exact Rj r B) h;refine ⟨n,?_,F⟩;simp only[Instr.fill,X];rw[ah0 (by simp;omega),<-Array.foldl_toList,Array.toList_zipIdx];simp only[alo] at x;rw[x];exact E
  .simp at h
def OV {fs:List Field} (h:∀f,f∈fs->(eX P f.type).isSome):(fs.mapM (fun f=>do pure (f.offset,<-sizeOf f.type)):Sem (List (Nat × Nat))).run P w = .ok (fs.map fun f=>(f.offset,(eX P f.type).getD 0)) w:=by
 induction fs with
 | nil=>simp
 | cons f r z =>
  have ⟨k,x⟩:=ako.1 (h f aO);have:=z (fun f y=>h f (by simp[y]));simp only[am8,Sem.run_bind,run_sizeOf x,Result.andThen_ok,Sem.run_pure,this,aiS,x,ai9]
def E5 {fs:Array Field} (s:cE dl N I β e H a w):∀{g:List (Nat × Operand)} {l:List (Nat × Nat × Opd)},vL P fs g l=aq ->
  ae (g.map fun p=>(p.1,a.eval p.2))=ae (l.map fun p=>(p.1,p.2.1,p.2.2.ev e)) /\
  ∀(j:Nat) p q,(g.map fun p=>(p.1,a.eval p.2))[j]?=ak p->(l.map fun p=>(p.1,p.2.1,p.2.2.ev e))[j]?=ak q ->
   (fs.toList.map fun f=>(f.offset,(eX P f.type).getD 0))[p.1]?=ak (q.1,q.2.1)/\Rel I β q.2.2 p.2
 | [],[],_=>⟨rfl,fun j p q e=>by simp at e⟩
 | (i,x)::g,(X,k,y)::l,h=>by
  simp only[vL,ah2] at h;have ⟨⟨z,r⟩,t⟩:=h;have ⟨m,n⟩:=E5 s t;refine ⟨bu m,fun j p q b c=>?_⟩;cases j with
  | zero =>
   simp at b c;subst b c;split at z
   .rename_i f K;simp at z;refine ⟨?_,s.x r⟩;simp[K,z.1,z.2]
   .simp at z
  | succ j=>simp only[aiS,aku] at b c;exact n j p q b c
 | [],_::_,h=>by simp[vL] at h
 | _::_,[],h=>by simp[vL] at h
def Ej {g:Nat} (s:cE dl N I β e H a w):∀{c:List (Nat × Operand)} {f:List (Nat × Nat × Opd)},tE g c f=aq ->
  ae (c.map fun p=>(p.1,a.eval p.2))=ae (f.map fun p=>(p.1,p.2.1,p.2.2.ev e)) /\
  ∀(j:Nat) p q,(c.map fun p=>(p.1,a.eval p.2))[j]?=ak p->(f.map fun p=>(p.1,p.2.1,p.2.2.ev e))[j]?=ak q ->
   ak (p.1*g,g)=ak (q.1,q.2.1)/\Rel I β q.2.2 p.2
 | [],[],_=>⟨rfl,fun j p q e=>by simp at e⟩
 | (i,x)::c,(X,k,y)::f,h=>by
  simp only[tE,ah2,ajt] at h;have ⟨⟨⟨n,r⟩,t⟩,K⟩:=h;have ⟨l,m⟩:=Ej s K;refine ⟨bu l,fun j p q z b=>?_⟩;cases j with
  | zero=>simp at z b;subst z b;exact ⟨by rw[<-n,<-r],s.x t⟩
  | succ j=>simp only[aiS,aku] at z b;exact m j p q z b
 | [],_::_,h=>by simp[tE] at h
 | _::_,[],h=>by simp[tE] at h
def ac1 (h:bV P o.op (.bd z M)=aq) (s:cE dl N I β e H a w) (hv:pv (.bd z M) e=ak v):Post I β H w v H ((execOp a.eval o).run P w):=by
 cases D:o.op<;>simp only[D,bV,ah5,ah2] at h;rename_i t parts;have ⟨V,h⟩:=h;simp only[pv] at hv;split at hv<;>simp at hv;rename_i C;obtain ⟨O,K,rfl⟩:=hv;have ⟨zv,m,_,r⟩:=Af (w:=w) V;have b:∀(j:Nat) q,(M.map fun p=>(p.1,p.2.1,p.2.2.ev e))[j]?=ak q->q.2.2 ≠ .ba:=by intro j q L;rw[ajp] at L;obtain ⟨p,S,rfl⟩:=aiD.1 L;have:=ah4.1 C p (aiX S);intro J;simp only at J;simp[J,dA] at this
 split at h
 .rename_i fs G;simp only[ah2] at h;have ⟨F,B⟩:=h;have ⟨X,l⟩:=E5 s B;have y:=OV (P:=P) (w:=w) (fs:=fs.toList) (fun f K=>by have:=aj8.1 F f (bu K);simpa using this);have ⟨R,W,A⟩:=AZ (fun i=>(fs.toList.map fun f=>(f.offset,(eX P f.type).getD 0))[i]?) _ _ zv.cells z O X (fun j p q g c=>⟨(l j p q g c).1,(l j p q g c).2,b j q c⟩) (r I β) K;refine .same s.bG (Rel.Cl A) ?_;have U:(fs.mapM (fun f=>do pure (f.offset,<-sizeOf f.type)):Sem (Array (Nat × Nat))).run P w = .ok (fs.toList.map fun f=>(f.offset,(eX P f.type).getD 0)).toArray w:=by rw[amJ];simp only[Sem.run_map,y,Result.andThen_ok]
  simp only[execOp,D,Instr.build,Sem.run_bind,m,Result.andThen_ok,run_underlying G,U,Sem.run_pure];simp only[al9];have:(fun (x:Nat)=>(fs.toList.map fun f=>(f.offset,(eX P f.type).getD 0)).toArray[x]?)=(fun i=>(fs.toList.map fun f=>(f.offset,(eX P f.type).getD 0))[i]?):=by funext i;simp
  rw[this,W];simp
 .rename_i n E G;split at h
  .rename_i k T;have ⟨X,l⟩:=Ej s h;have ⟨R,W,A⟩:=AZ (fun i=>ak (i*k,k)) _ _ zv.cells z O X (fun j p q g c=>⟨(l j p q g c).1,(l j p q g c).2,b j q c⟩) (r I β) K;refine .same s.bG (Rel.Cl A) ?_;simp only[execOp,D,Instr.build,Sem.run_bind,m,Result.andThen_ok,run_underlying G,run_sizeOf T,Sem.run_pure,al9,W]
  .simp at h
 .simp at h
def eA {xs:List (List AV)} {k:Nat} (h:∀x,x∈xs->ae x=k):ae xs.flatten=ae xs*k:=by
 induction xs with
 | nil=>simp
 | cons x r b=>simp only[akz,ain,aiF,b (fun y z=>h y (by simp[z])),h x aO];rw[aiW];omega
def j7 {k:Nat}:∀{xs:List (List AV)} (_:∀x,x∈xs->ae x=k) {i j:Nat} {a:AV},dL xs i j=ak a->xs.flatten[i*k+j]?=ak a
 | [],_,i,j,a,e=>by simp[dL] at e
 | x::r,h,i,j,a,e=>by
  have z:=h x aO;cases i with
  | zero =>
   simp[dL] at e;have b:=(aid.1 e).1;rw[akz,ano,aia,aic b];exact e
  | succ i =>
   have:=j7 (xs:=r) (fun y c=>h y (by simp[c])) (i:=i) (j:=j) (a:=a) (by simpa[dL] using e);rw[akz,aiC (by rw[z,aiW];omega),z,show (i+1)*k+j - k=i*k+j by rw[aiW];omega];exact this
def IY:∀(xs:List AV) (m:Nat) (pre:List AV),(∀x,x∈xs->ae x.cells=k)->ae pre=m*k ->
  q9 (pre++aA (ae xs*k) .ba) (xs.zipIdx m |>.map fun p=>(p.2*k,k,p.1))=ak (pre++(xs.map AV.cells).flatten)
 | [],m,pre,_,_=>by simp[q9]
 | x::r,m,pre,h,b=>by
  have c:=h x aO;have z:ae (x::r)*k=k+ae r*k:=by simp[aiW,Nat.add_comm]
  simp only[al8,aiS,q9];rw[ah1 ⟨c,by simp only[ain,aiY,z,b];omega⟩];have:gD (pre++aA (ae (x::r)*k) AV.ba) (m*k) x.cells=(pre++x.cells)++aA (ae r*k) .ba:=by rw[gD,ajU aD,aiv aD,ak6,ak8 aD,aiy,List.drop_replicate,z,c,b];congr 2;omega
  rw[this,IY r (m+1) (pre++x.cells) (fun y f=>h y (by simp[f])) (by simp[b,c,aiW])];simp
def E4 (s:cE dl N I β e H a w) {k:Nat}:∀{c:List (Nat × Operand)} {f:List Opd} {m:Nat},qu m c f=aq ->
  ae (c.map fun p=>(p.1,a.eval p.2))=ae (((f.map (·.ev e)).zipIdx m).map fun p=>(p.2*k,k,p.1)) /\
  ∀(j:Nat) p q,(c.map fun p=>(p.1,a.eval p.2))[j]?=ak p->(((f.map (·.ev e)).zipIdx m).map fun p=>(p.2*k,k,p.1))[j]?=ak q ->
   ak (p.1*k,k)=ak (q.1,q.2.1)/\Rel I β q.2.2 p.2
 | [],[],_,_=>⟨rfl,fun j p q e=>by simp at e⟩
 | (i,x)::c,y::f,m,h=>by
  simp only[qu,ah2,ajt] at h;have ⟨⟨n,r⟩,t⟩:=h;have ⟨g,l⟩:=E4 s (k:=k) t;refine ⟨bu g,fun j p q z b=>?_⟩;cases j with
  | zero=>simp at z b;subst z b;exact ⟨by rw[n],s.x r⟩
  | succ j=>simp only[aiS,al8,aku] at z b;exact l j p q z b
 | [],_::_,_,h=>by simp[qu] at h
 | _::_,[],_,h=>by simp[qu] at h
def nT {E:TypeId} (h:mQ P E k m=aq):eX P E=ak k/\0 < k/\(∃n,Tm P E=ak n/\0 < n/\n<=m)/\∃zv,(P.info? E).bind (·.zero)=ak zv/\zv.cells.size=k:=by simp only[mQ,ah2,ajt,aiU] at h;have ⟨⟨⟨b,c⟩,f⟩,g⟩:=h;have ⟨n,i,x⟩:=gg f;have ⟨z,j,y⟩:=gg g;simp at x y;exact ⟨b,c,⟨n,i,x⟩,z,j,y⟩
def Cz {t E:TypeId} {k:Nat} {parts:Array (Nat × Operand)} {h:List Opd} (s:cE dl N I β e H a w) (L:gP P t=ak E) (D:mQ P E k 65536=aq) (O:ae h*k<=2 ^ 24)
  (n:qu 0 parts.toList h=aq) (F:∀q,q∈h->(q.ev e).cells.length=k) (J:∀q,q∈h->q.ev e ≠ .ba) :
  ∃c:Array Value,(Instr.buildSlice t (ae h) (parts.map fun (i,x)=>(i,a.eval x))).run P w = .ok (.slice (ak ⟨w.heap.size,0,an⟩) (ae h) (ae h)) (World.mi w c E) /\
   cG I β (h.map fun q=>(q.ev e).cells).flatten c.toList:=by
 have ⟨r,G,_,zv,K,M⟩:=nT D;have ⟨B,X⟩:=E4 s (k:=k) n;have f:∀(j:Nat) q,(((h.map (·.ev e)).zipIdx 0).map fun p=>(p.2*k,k,p.1))[j]?=ak q->q.2.2 ≠ .ba:=by grind
 have b:=IY (k:=k) (h.map (·.ev e)) 0 [] (bu F) aO;simp only[aiy,ah3,amO] at b;let c0:Array Value:=(Array.range (ae h*k)).map (fun x=>zv.cells[x % zv.cells.size]!);have m:cG I β (aA (ae h*k) AV.ba) c0.toList:=by refine ⟨by simp[c0],fun j a v y g=>?_⟩;rw[aji] at y;split at y<;>simp at y;subst y;exact .ba
 have ⟨A,W,C⟩:=AZ (fun i=>ak (i*k,k)) _ _ c0 _ _ B (fun j p q y g=>⟨(X j p q y g).1,(X j p q y g).2,f j q g⟩) m b;refine ⟨A,?_,by simpa[Function.comp_def] using C⟩;simp only[Instr.buildSlice,Sem.run_bind,run_underlying (eD L),Result.andThen_ok,run_sizeOf r];rw[ah0 aD];by_cases l:ae h*k=0
 .have z:(Array.range (ae h*k)).map (fun x=>(#[]:Array Value)[x % (#[]:Array Value).size]!)=c0:=by simp[c0,l]
  simp only[ah1 l,pure_bind,al9,z,W];simp[newRow,World.mi]
 .simp only[ah0 l,Sem.run_bind,Bh K,Result.andThen_ok,Sem.run_pure,al9,c0,W];simp[newRow,World.mi]
def ac2 (h:bV P o.op (.bs k g)=aq) (s:cE dl N I β e H a w) (hv:pv (.bs k g) e=ak v):Post I β H w v H ((execOp a.eval o).run P w):=by
 cases B:o.op<;>simp only[B,bV,ah5,ah2,ajt,aiU] at h;rename_i t len parts;obtain ⟨⟨⟨K,rfl⟩,J⟩,W⟩:=h;have ⟨E,G,K⟩:=gg K;simp only[pv] at hv;split at hv<;>simp at hv;rename_i l;subst hv;have y:=fun q m=>ah4.1 l q m;simp only[ah2,ajt] at y;obtain ⟨c,p,n⟩:=Cz s G K J W (fun q m=>(y q m).2) (fun q m=>uo (y q m).1 rfl);have ⟨L,M⟩:=s.bG.frozen c E;have z:∀x,x∈(g.map fun q=>(q.ev e).cells)->ae x=k:=by grind
 have A:((g.map fun q=>(q.ev e).cells).flatten).all dM=aq:=by grind
 have D:=zL (c:=c) (off:=0) A n s.bG.fP (fun j v e=>bu e);refine ⟨.value (.slice (ak ⟨w.heap.size,0,an⟩) (ae g) (ae g)),_,_,_,by simp[execOp,B,p],M,L,?_,fun _ _ _=>rfl⟩;have r:∀x,x∈(g.map fun q=>(q.ev e).cells)->ae x=k/\x.all bB=aq:=by intro x C;refine ⟨z x C,?_⟩;obtain ⟨q,F,rfl⟩:=aiw.1 C;exact CR (y q F).1
 have:=Rel.seq (I:=pg I w.heap.size c) (β:=β) (f:=aq) (b:=w.heap.size) (off:=0) (cap:=ae g) (fun i j=>c.toList.getD (i*k+j) undef) r
  (fun i j a X=>by have:=D.1 _ _ (j7 z X);simpa[ajf] using this) (fun i j a X=>D.2 _ _ (j7 z X)) aO aO;rw[ah3] at this;exact this
def jQ:List Bool->List Value->List Value->Option Bool
 | [],[],[]=>ak aq
 | false::ks,.int k x::r,.int k' y::s=>if k=k' then (jQ ks r s).map (decide (x=y)&&·) else an
 | true::ks,.bool x::r,.bool y::s=>(jQ ks r s).map ((x==y)&&·)
 | _,_,_=>an
def E6:∀{ks:List Bool} {cs j:List AV} {vs f:List Value} {b:Bool},cG I β cs vs->cG I β j f->HO ks cs j=ak b->jQ ks vs f=ak b
 | ks,cs,j,vs,f,b,z,c,h=>by
  unfold HO at h;split at h
  .have g:=aiA z.1.symm;have i:=aiA c.1.symm;subst g i;simpa[jQ] using h
  .rename_i ks k x r p y s
   match vs,f,z,c with
   | v::vs,u::f,z,c =>
    have g:=z.head.eG.1;have i:=c.head.eG.1;subst g i;split at h
    case isFalse=>simp at h
    rename_i n;obtain ⟨m,l,rfl⟩:=aiD.1 h;have:=E6 z.tail c.tail l;simp[jQ,n,this]
   | [],_,z,_=>exact absurd z.1 aO
   | _::_,[],_,c=>exact absurd c.1 aO
  .rename_i ks x r y s
   match vs,f,z,c with
   | v::vs,u::f,z,c =>
    have g:=z.head.eG.1;have i:=c.head.eG.1;subst g i;obtain ⟨m,l,rfl⟩:=aiD.1 h;have:=E6 z.tail c.tail l;simp[jQ,this]
   | [],_,z,_=>exact absurd z.1 aO
   | _::_,[],_,c=>exact absurd c.1 aO
  .simp at h
def wE:∀{ks:List Bool} {a b:List Value} {r:Bool},jQ ks a b=ak r->ae a=ae ks/\ae b=ae ks
 | ks,a,b,r,h=>by
  unfold jQ at h;split at h
  .simp
  .split at h
   case isFalse=>simp at h
   have ⟨x,k,_⟩:=aiD.1 h;have:=wE k;simp[this.1,this.2]
  .have ⟨x,k,_⟩:=aiD.1 h;have:=wE k;simp[this.1,this.2]
  .simp at h
def wV:∀{z f:List Bool} {a b:List Value} {r:Bool},jQ (z++f) a b=ak r->∃x y,jQ z (a.take (ae z)) (b.take (ae z))=ak x/\jQ f (a.drop (ae z)) (b.drop (ae z))=ak y/\r=(x&&y)
 | [],f,a,b,r,h=>⟨aq,r,by simp[jQ],bu h,aO⟩
 | k::z,f,a,b,r,h=>by
  simp only[aje] at h;unfold jQ at h;split at h
  .simp_all
  .rename_i c;simp at c;obtain ⟨rfl,rfl⟩:=c;split at h
   case isFalse=>simp at h
   rename_i m;obtain ⟨l,j,rfl⟩:=aiD.1 h;obtain ⟨x,y,g,i,rfl⟩:=wV j;exact ⟨_,y,by simp[jQ,m,g];rfl,bu i,by simp[akx]⟩
  .rename_i c;simp at c;obtain ⟨rfl,rfl⟩:=c;obtain ⟨l,j,rfl⟩:=aiD.1 h;obtain ⟨x,y,g,i,rfl⟩:=wV j;exact ⟨_,y,by simp[jQ,g];rfl,bu i,by simp[akx]⟩
  .simp at h
def qe (P:Program) (t:TypeId) (vs:List Value):Value:=if jF P t=ak aq then .agg vs.toArray else vs.headD undef
def uP {t:TypeId} {k off:Nat} {vs:List Value} (x:∃b,jF P t=ak b) (c:eX P t=ak k) (y:jF P t=ak ar->k=1) (f:off+k<=ae vs) :
  (part t vs.toArray off).run P w = .ok (qe P t ((vs.drop off).take k)) w:=by
 have ⟨b,h⟩:=x;cases b with
 | true=>simp[part,tQ h,run_sizeOf c,qe,h]
 | false =>
  have:=y h;subst this;have:vs[off]?=ak vs[off]:=ah6 aD;have z:(vs.drop off).take 1=[vs[off]]:=by
   apply akZ;intro j;cases j with
   | zero=>simp[this]
   | succ j=>simp;omega
  simp[part,tQ h,qe,h,z,this]
def flat_agg {d:Nat} {t:TypeId} {y:List Bool} (h:re P d t=ak y):(∃b,jF P t=ak b)/\(jF P t=ak ar->ae y=1):=by
 cases d with
 | zero=>simp[re] at h
 | succ d =>
  unfold re at h;split at h
  .rename_i k;simp at h;subst h;exact ⟨⟨ar,by simp[jF,k]⟩,fun _=>rfl⟩
  .rename_i k;simp at h;subst h;exact ⟨⟨ar,by simp[jF,k]⟩,fun _=>rfl⟩
  .rename_i k;exact ⟨⟨aq,by simp[jF,k]⟩,fun x=>by simp[jF,k] at x⟩
  .rename_i k;exact ⟨⟨aq,by simp[jF,k]⟩,fun x=>by simp[jF,k] at x⟩
  .simp at h
def vP (d:Nat) (e:TypeId) (n:Nat) (xs ys:Array Value):List Nat->Sem Bool
 | []=>pure aq
 | i::r=>do
  if !(<-Op.equalIn d e (<-part e xs (i*n)) (<-part e ys (i*n))) then return ar
  vP d e n xs ys r
def run_equalIn_array {t e:TypeId} (z:P.underlying t=ak (.array len e)) (y:eX P e=ak n) (xs ys:Array Value) :
  (Op.equalIn (D+1) t (.agg xs) (.agg ys)).run P w=(vP D e n xs ys (List.range' 0 len)).run P w:=by
 simp only[Op.equalIn,Sem.run_bind,run_underlying z,Result.andThen_ok,run_sizeOf y];rw[Std.Legacy.Range.forIn_eq_forIn_range'];simp only[Std.Legacy.Range.size,amP,alx,Nat.div_one];generalize List.range' 0 len=l
 induction l generalizing w with
 | nil=>simp[vP]
 | cons i l c =>
  simp only[List.forIn_cons,vP,Sem.run_bind];generalize (part e xs (i*n)).run P w=f;cases f with
  | ok a h =>
   simp only[Result.andThen_ok];generalize (part e ys (i*n)).run P h=g;cases g with
   | ok b k =>
    simp only[Result.andThen_ok];generalize (Op.equalIn D e a b).run P k=j;cases j with
    | ok r m =>
     cases r
     .simp only[Result.andThen_ok,aja,ajs,Sem.run_pure]
     .simp only[Result.andThen_ok,ajl,ah5,ajO,Sem.run_pure];exact c
    | halt x m=>simp[Result.andThen]
   | halt x k=>simp[Result.andThen]
  | halt x h=>simp[Result.andThen]
def LO {d:Nat} (q:∀(D:Nat) (t:TypeId) (c:List Bool) (xs ys:List Value) (b:Bool),d<=D->re P d t=ak c->jQ c xs ys=ak b->(Op.equalIn D t (qe P t xs) (qe P t ys)).run P w = .ok b w) (D:Nat) (n:d<=D) :
  ∀(fs:List Field) (off:Nat) (c:List Bool) (xs ys:List Value) (b:Bool),I6 P (re P d) fs off=ak c->jQ c (xs.drop off) (ys.drop off)=ak b->(Op.eqFields D xs.toArray ys.toArray fs).run P w = .ok b w
 | [],off,c,xs,ys,b,k,g=>by simp[I6] at k;subst k;have h:=wE g;simp only[aiV] at h;rw[aiA h.1,aiA h.2] at g;simp[jQ] at g;simp[Op.eqFields,g]
 | f::r,off,c,xs,ys,b,k,g=>by
  unfold I6 at k;split at k
  .rename_i j;obtain ⟨j,rfl⟩:=j;have ⟨s,h,i⟩:=ah7.1 k;split at i<;>simp at i;rename_i z;obtain ⟨W,K,rfl⟩:=i;obtain ⟨x,y,l,m,rfl⟩:=wV g;have ⟨A,B⟩:=wE l;simp only[aiG,akG] at A B;have p:=akb.2  z.2;have C:=uP (w:=w) (off:=f.offset) (vs:=xs) (flat_agg h).1 z.1 (flat_agg h).2 aD;have E:=uP (w:=w) (off:=f.offset) (vs:=ys) (flat_agg h).1 z.1 (flat_agg h).2 aD;have he:=q D f.type s _ _ x n h l;rw[ajo,ajo] at m;have X:=LO q D n r (f.offset+ae s) W xs ys y K m;simp only[Op.eqFields,ah1 j,Sem.run_bind,C,E,he,Result.andThen_ok];cases x
   .simp
   .simpa using X
  .simp at k
def LN {d:Nat} (q:∀(D:Nat) (t:TypeId) (h:List Bool) (xs ys:List Value) (b:Bool),d<=D->re P d t=ak h->jQ h xs ys=ak b->(Op.equalIn D t (qe P t xs) (qe P t ys)).run P w = .ok b w) (D:Nat) (m:d<=D)
  {e:TypeId} {h:List Bool} (c:re P d e=ak h) (z:eX P e=ak (ae h)) (f:h≠[]):∀(n i:Nat) (xs ys:List Value) (b:Bool),jQ (aA n h).flatten (xs.drop (i*ae h)) (ys.drop (i*ae h))=ak b ->
  (vP D e (ae h) xs.toArray ys.toArray (List.range' i n)).run P w = .ok b w
 | 0,i,xs,ys,b,k=>by have g:=wE k;simp only[akC,List.flatten_nil,aiV] at g;rw[aiA g.1,aiA g.2] at k;simp[jQ] at k;simp[vP,k]
 | n+1,i,xs,ys,b,k=>by
  have p:=akb.2  f;rw[alq,akz] at k;obtain ⟨x,y,j,l,rfl⟩:=wV k;have ⟨s,K⟩:=wE j;simp only[aiG,akG] at s K;have X:=uP (w:=w) (off:=i*ae h) (vs:=xs) (flat_agg c).1 z (flat_agg c).2 aD;have W:=uP (w:=w) (off:=i*ae h) (vs:=ys) (flat_agg c).1 z (flat_agg c).2 aD;have he:=q D e h _ _ x m c j;rw[ajo,ajo,show i*ae h+ae h=(i+1)*ae h by rw[aiW];omega] at l;have r:=LN q D m c z f n (i+1) xs ys y l;simp only[alN,vP,Sem.run_bind,X,W,he,Result.andThen_ok];cases x
  .simp
  .simpa using r
def Og {a b:List Value} {r:Bool} (h:jQ [] a b=ak r):a=[]/\b=[]/\r=aq:=by unfold jQ at h;split at h<;>simp_all
def VR {a b:List Value} {r:Bool} (h:jQ [ar] a b=ak r):∃k x y,a=[.int k x]/\b=[.int k y]/\r=(x==y):=by
 unfold jQ at h;split at h
 .simp_all
 .rename_i c;injection c with _ c;subst c;split at h
  case isFalse=>simp at h
  rename_i f;obtain ⟨g,z,rfl⟩:=aiD.1 h;obtain ⟨rfl,rfl,rfl⟩:=Og z;subst f;exact ⟨_,_,_,rfl,rfl,by simp[BEq.beq]⟩
 .simp_all
 .simp at h
def Tu {a b:List Value} {r:Bool} (h:jQ [aq] a b=ak r):∃x y,a=[.bool x]/\b=[.bool y]/\r=(x==y):=by
 unfold jQ at h;split at h
 .simp_all
 .simp_all
 .rename_i z;injection z with _ z;subst z;obtain ⟨c,k,rfl⟩:=aiD.1 h;obtain ⟨rfl,rfl,rfl⟩:=Og k;exact ⟨_,_,rfl,rfl,aO⟩
 .simp at h
def NP:∀(d D:Nat) (t:TypeId) (i:List Bool) (xs ys:List Value) (b:Bool),d<=D->re P d t=ak i->jQ i xs ys=ak b->(Op.equalIn D t (qe P t xs) (qe P t ys)).run P w = .ok b w
 | 0,D,t,i,xs,ys,b,_,z,_=>by simp[re] at z
 | d+1,D,t,i,xs,ys,b,K,z,j=>by
  obtain ⟨D,rfl⟩:∃m,D=m+1:=⟨D - 1,aD⟩;have q:=NP d;unfold re at z;split at z
  .rename_i s c;simp at z;subst z;have h:jF P t=ak ar:=by simp[jF,c]
   obtain ⟨k,x,y,rfl,rfl,rfl⟩:=VR j;have:=run_equalIn_int (P:=P) w D t k s x y c;simp[qe,h,this]
  .rename_i c;simp at z;subst z;have h:jF P t=ak ar:=by simp[jF,c]
   obtain ⟨x,y,rfl,rfl,rfl⟩:=Tu j;have:=run_equalIn_bool' (P:=P) w D t x y c;simp[qe,h,this]
  .rename_i fs c;split at z
   .simp at z
   .rename_i p;have h:jF P t=ak aq:=by simp[jF,c]
    have g:P.fieldsOf t=fs:=by simp[Program.fieldsOf,c]
    simp only[qe,h,ajs];rw[run_equalIn_struct (P:=P) w D t _ _ (by rw[g];exact c) (by simpa using p),g];exact LO q D aD fs.toList 0 i xs ys b z (by simpa using j)
  .rename_i n E c;obtain ⟨X,r,l⟩:=ah7.1 z;split at l<;>simp at l;rename_i f;subst l;have h:jF P t=ak aq:=by simp[jF,c]
   simp only[qe,h,ajs];rw[run_equalIn_array c f.1];exact LN q D aD r f.1 f.2 n 0 xs ys b (by simpa using j)
  .simp at z
def aa0 (h:bV P o.op (.IN neg q x y)=aq) (s:cE dl N I β e H a w) (hv:pv (.IN neg q x y) e=ak v):Post I β H w v H ((execOp a.eval o).run P w):=by
 cases g:o.op<;>simp only[g,bV,ah5,ah2,ajt] at h;rename_i op t G J O;have ⟨⟨⟨⟨⟨k,z⟩,m⟩,f⟩,r⟩,K⟩:=h;have r1:=s.x r;have l:=s.x K;simp only[pv] at hv;split at hv
 case h_2=>simp at hv
 rename_i L M A B;rw[A] at r1;rw[B] at l;obtain ⟨b,X,rfl⟩:=aiD.1 hv;generalize n:a.eval G=R at r1;generalize p:a.eval J=S at l;cases r1 with
 | agg C i =>
 cases l with
 | agg D j =>
 rename_i E F;have W:=E6 ⟨C,i⟩ ⟨D,j⟩ X;have he:=NP (P:=P) (w:=w) 8 10000 t q E F b aD z W;simp only[qe,k,ajs] at he;unfold Gy at f;split at f<;>simp at f
 .exact .same s.bG (v := .v0 (ar ^^ b)) (.c rfl) (by simp[execOp,g,n,p,run_eqGuard_agg (hm:=m),run_eql_struct,he])
 .exact .same s.bG (v := .v0 (aq ^^ b)) (.c rfl) (by simp[execOp,g,n,p,run_eqGuard_agg (hm:=m),run_neq_struct,he])
def Rx {s:ByteArray} {gS:List Nat} (h:s.data.toList.map (·.toNat)=gS) {i b:Nat} (x:gS[i]?=ak b):∃c:UInt8,s[i]?=ak c/\c.toNat=b:=by subst h;rw[ajp] at x;obtain ⟨c,y,rfl⟩:=aiD.1 x;have ⟨z,y⟩:=aid.1 y;have k:i < s.size:=bu z;refine ⟨c,?_,rfl⟩;rw[getElem?_pos s i k];congr 1
def aa4 (h:bV P o.op (.Jc gS x)=aq) (s:cE dl N I β e H a w) (hv:pv (.Jc gS x) e=ak v):Post I β H w v H ((execOp a.eval o).run P w):=by
 cases z:o.op<;>simp only[z,bV,ah5,ah2] at h;rename_i t X r;have ⟨⟨y,k⟩,i⟩:=h;have p:P.underlying t=ak .string:=by unfold isStr at y;split at y<;>simp_all
 have q:=s.x i;simp only[pv] at hv;generalize x.ev e=B at *;split at hv
 .split at hv
  case isFalse=>simp at hv
  rename_i K n m;obtain ⟨b,j,rfl⟩:=aiD.1 hv;have g:=q.eG.1;unfold Tg at k;split at k
  .rename_i str;obtain ⟨c,l,rfl⟩:=Rx (bu k) j;have f:a.eval (.const (.string str)) = .string str:=rfl;exact .same s.bG (v := .c (.int .u8 (c.toNat:Int))) (.c rfl) (by simp[execOp,z,f,g,Instr.index,asIntOf,run_underlying p,m,l])
  .simp at k
 .simp at hv
def xL (h:-9223372036854775808<=n) (k:n < 9223372036854775808):au .i64 n=n:=by unfold IntKind.wrap;simp only[IntKind.bits,IntKind.signed,ajg];split<;>simp_all<;>omega
def Ei {z:List AV} {zv:Array Value} {k n:Nat} (r:cG I β z zv.toList) (b:zv.size=k) (c:0 < k) :
  cG I β (aA n z).flatten ((Array.range (n*k)).map (fun x=>zv[x % zv.size]!)).toList:=by
 have h:ae z=k:=by rw[r.1];simpa using b
 have y:(aA n z).flatten.length=n*k:=by rw[eA (k:=k) (fun x g=>by rw[ai1 g,h])];simp
 refine ⟨by simp[h],fun j a v i l=>?_⟩;have q:=y ▸ (aid.1 i).1;have K:j / k < n:=Nat.div_lt_of_lt_mul (by rw[anp];exact q);have f:j % k < k:=alh _ c;have s:dL (aA n z) (j / k) (j % k)=ak (z[j % k]'aD):=by simp[dL,K,h,f]
 have m:=j7 (k:=k) (fun x g=>by rw[ai1 g,h]) s;rw[show j / k*k+j % k=j by rw[anp];exact Nat.div_add_mod j k,i] at m;have p:v=zv[j % zv.size]! := by simp[q] at l;rw[<-l]
 rw[b] at p;have t:zv.toList[j % k]?=ak v:=by rw[p,am7,getElem!_pos zv (j % k) aD];simp[b,f]
 refine r.2 (j % k) a v ?_ t;rw[alw m];simp[h,f]
def run_makeSlice {t E:TypeId} (F:gP P t=ak E) (A:mQ P E k 65536=aq) (G:sQ P E z=aq) (b:0<=n) (L:n<=c) (M:c<=4294967296) :
  ∃cs:Array Value,(Instr.makeSlice t (.int .i64 n) (.int .i64 c)).run P w = .ok (.slice (ak ⟨w.heap.size,0,an⟩) n.toNat c.toNat) (World.mi w cs E)/\∀I β,cG I β (aA c.toNat z).flatten cs.toList:=by
 have ⟨p,l,⟨y,m,X,W⟩,zv,K,s⟩:=nT A;have ⟨J,q,h,r⟩:=Af (w:=w) G;rw[K] at h;cases h;have ⟨i,C,j⟩:=aiD.1 m;refine ⟨(Array.range (c.toNat*k)).map (fun x=>zv.cells[x % zv.cells.size]!),?_,fun I β=>Ei (r I β) s l⟩;have O:(y:Int)*c<=281474976710656:=by have:(y:Int)*c<=65536*c:=aik aD aD;omega
 have B:(y:Int)*n<=281474976710656:=by have:(y:Int)*n<=65536*n:=aik aD aD;omega
 simp only[Instr.makeSlice,Sem.run_bind,run_underlying (eD F),Result.andThen_ok,asInt,asIntOf,Sem.run_pure,run_typeInfo C,j,xL (show -9223372036854775808<=n by omega) (by omega),xL (show -9223372036854775808<=c by omega) (by omega)];have g:((c < 0 || (y:Int)*c>2 ^ 48) || n < 0 || n>c)=ar:=by simp only[amj,aj5];exact ⟨⟨⟨aD,bW⟩,aD⟩,aD⟩
 rw[ah0 (by simpa using g)];simp only[Sem.run_bind,run_askRoom,Result.andThen_ok,run_sizeOf p];by_cases b:c.toNat*k=0
 .have D:∀f:Nat->Value,(Array.range 0).map f=#[]:=fun f=>by apply akP;simp
  simp only[pure_bind,b,D];simp[newRow,World.mi]
 .simp only[ah0 b,Sem.run_bind,q,Result.andThen_ok,Sem.run_pure];simp[newRow,World.mi]
def aa7 (h:bV P o.op (.Ju k z l)=aq) (s:cE dl N I β e H a w) (hv:pv (.Ju k z l) e=ak v):Post I β H w v H ((execOp a.eval o).run P w):=by
 cases J:o.op<;>simp only[J,bV,ah5,ah2] at h;rename_i t l' c';have ⟨⟨m,A⟩,W⟩:=h;have ⟨E,S,m⟩:=gg m;simp only[ah2] at m;have r1:=s.x A;have M:=s.x W;simp only[pv] at hv;split at hv
 .rename_i n y;rw[y] at r1 M;have O:=r1.eG.1;have R:=M.eG.1;split at hv<;>simp at hv;rename_i T;have ⟨⟨C,D⟩,p,G⟩:=T;subst hv;have ⟨X,r,q⟩:=run_makeSlice (w:=w) S m.1 m.2 C (ajV _) D;have ⟨U,V⟩:=s.bG.frozen X E;have g:∀x,x∈(aA n.toNat z)->ae x=k:=by intro x y;rw[ai1 y];exact G
  have F:((aA n.toNat z).flatten).all dM=aq:=by rw[ah4];intro x y;have ⟨l,A,W⟩:=alO.1 y;rw[ai1 A] at W;exact ah4.1 p x W
  have L:=zL (c:=X) (off:=0) F (q I β) s.bG.fP (fun j v e=>bu e);refine ⟨.value (.slice (ak ⟨w.heap.size,0,an⟩) n.toNat n.toNat),_,_,_,by simp[execOp,J,O,R,r],V,U,?_,fun _ _ _=>rfl⟩;have K:∀x,x∈(aA n.toNat z)->ae x=k/\x.all bB=aq:=by intro x y;refine ⟨g x y,?_⟩;rw[ai1 y];exact CR p
  have:=Rel.seq (I:=pg I w.heap.size X) (β:=β) (f:=aq) (b:=w.heap.size) (off:=0) (cap:=n.toNat) (fun i j=>X.toList.getD (i*k+j) undef) K
   (fun i j a B=>by have:=L.1 _ _ (j7 g B);simpa[ajf] using this) (fun i j a B=>L.2 _ _ (j7 g B)) aO aO;rw[aiY] at this;exact this
 .simp at hv
def uf {m d r:Nat} {x:Option Opd} (h:bL e m d x=ak r):(x=an/\r=d)\/∃y z n,x=ak y/\y.ev e = .c (.int z n)/\0<=n/\n<=(m:Int)/\r=n.toNat:=by
 unfold bL at h;split at h
 .simp at h;exact .inl ⟨rfl,h.symm⟩
 .rename_i y;split at h
  .rename_i n k;split at h<;>simp at h;rename_i b;unfold intOf? at k;split at k<;>simp at k;rename_i z g f;subst k;exact .inr ⟨y,z,_,rfl,f,b.1,b.2,h.symm⟩
  .simp at h
def xI (s:cE dl N I β e H a w) {m r M d:Nat} {x:Option Operand} {y:Option Opd} {code:BoundsCode} (z:pV x y=aq) (h:bL e m d y=ak r) (i:m<=M) :
  (match x.map a.eval with | some v=>Instr.sliceBound v M code | none=>pure d:Sem Nat).run P w = .ok r w:=by
 unfold pV at z;split at z
 .rcases uf h with ⟨_,rfl⟩ | ⟨_,_,_,k,_⟩
  .rfl
  .simp at k
 .rename_i l p;rcases uf h with ⟨k,_⟩ | ⟨f,j,n,k,b,c,g,rfl⟩
  .simp at k
  .simp at k;subst k;have r1:=s.x z;rw[b] at r1;simp only[ai3,r1.eG.1,Instr.sliceBound,asIntOf,Sem.run_bind,Sem.run_pure,Result.andThen_ok];rw[ah1 ⟨c,aD⟩];rfl
 .simp at z
def lr {m d r:Nat} {x:Option Opd} (h:bL e m d x=ak r) (k:d<=m):r<=m:=by rcases uf h with ⟨_,rfl⟩ | ⟨_,_,_,_,_,_,_,rfl⟩<;>omega
def QB (h:pV x y=aq):x.isSome=y.isSome:=by unfold pV at h;split at h<;>simp_all
def yG (s:cE dl N I β e H a w) {t E:TypeId} (K:gP P t=ak E) (c:eX P E=ak k)
  (j:pV lo g=aq) (n:pV i f=aq)
  (q:bL e m len f=ak h) (hm:m<=cap) (r:bL e h 0 g=ak l) :
  (Instr.sliceAt t (.slice p len cap) (lo.map a.eval) (i.map a.eval) an).run P w = .ok (.slice (if cap=l then p else p.map (·.add (l*k))) (h - l) (cap - l)) w:=by
 have z:=xI (P:=P) (code := .sliceAcap) s n q hm;have x:=xI (P:=P) (code := .sliceB) s j r (ahZ _);simp only[Instr.sliceAt,Sem.run_bind,run_underlying (eD K),Result.andThen_ok,Instr.slice,Instr.sliceBounds,ajs,Option.isSome_none,ah5,ajO];simp only[Sem.run_pure,Result.andThen_ok];cases b:i.map a.eval with
 | none =>
  rw[b] at z;simp only[Sem.run_pure,Result.ok.injEq,alV] at z;subst z;cases y:lo.map a.eval with
  | none=>rw[y] at x;simp only[Sem.run_pure,Result.ok.injEq,alV] at x;subst x;simp[run_sizeOf c]
  | some vl=>rw[y] at x;simp only at x;simp[x,run_sizeOf c]
 | some X =>
  rw[b] at z;simp only at z;cases y:lo.map a.eval with
  | none=>rw[y] at x;simp only[Sem.run_pure,Result.ok.injEq,alV] at x;subst x;simp[z,run_sizeOf c]
  | some vl=>rw[y] at x;simp only at x;simp[z,x,run_sizeOf c]
def JR (s:cE dl N I β e H a w) {t E:TypeId} (J:gP P t=ak E) (X:eX P E=ak k)
  (A:pV lo n=aq) (r:pV K b=aq) (B:ea W f=aq) (G:b.isSome=aq)
  (hm:bL e M 0 (ak f)=ak m) (C:M<=cap) (D:bL e m 0 b=ak h) (F:bL e h 0 n=ak l) :
  (Instr.sliceAt t (.slice p len cap) (lo.map a.eval) (K.map a.eval) (ak (a.eval W))).run P w = .ok (.slice (if m=l then p else p.map (·.add (l*k))) (h - l) (m - l)) w:=by
 have q:=xI (P:=P) (code := .slice3Acap) (x:=ak W) (y:=ak f) s B hm C;have g:=xI (P:=P) (code := .slice3B) s r D (ahZ _);have z:=xI (P:=P) (code := .slice3C) s A F (ahZ _);simp only[ai3] at q;have i:(K.map a.eval).isSome=aq:=by rw[Option.isSome_map,QB r,G]
 have ⟨L,j⟩:=ako.1 i;rw[j] at g ⊢;simp only at g;simp only[Instr.sliceAt,Sem.run_bind,run_underlying (eD J),Result.andThen_ok,Instr.slice,Instr.sliceBounds,ajs,amB];simp only[q,Result.andThen_ok,g];cases c:lo.map a.eval with
 | none=>rw[c] at z;simp only[Sem.run_pure,Result.ok.injEq,alV] at z;subst z;simp[run_sizeOf X]
 | some vl=>rw[c] at z;simp only at z;simp[z,run_sizeOf X]
def Rel.cut {k:Nat} {f c:Bool} {xs:List (List AV)} {p:Option Addr} {cap m h l:Nat} (C:Rel I β (.seq k f xs) (.slice p (ae xs) cap)) (_:m<=cap) (W:h<=ae xs) (G:l<=h) (A:h<=m)
  (r:c=aq->m=h):Rel I β (.seq k c ((xs.take h).drop l)) (.slice (if m=l then p else p.map (·.add (l*k))) (h - l) (m - l)):=by
 have z:ae ((xs.take h).drop l)=h - l:=bW;by_cases F:h=l
 .have:(xs.take h).drop l=[]:=by apply aiA;omega
  rw[this];have:=Rel.kf (I:=I) (β:=β) (k:=k) (f:=c) (a:=if m=l then p else p.map (·.add (l*k))) (cap:=m - l) (fun g=>cn (r g));rw[show h - l=0 by omega];exact this
 .have n:xs≠[]:=by rintro rfl;simp at W;omega
  have ⟨J,q,s,_,_,t⟩:=C.pG;cases s;obtain ⟨b,off,E,rfl,B,K,X⟩:=t n;rw[ah0 (by omega),ai3,pA,<-z];have y:∀i j a,dL ((xs.take h).drop l) i j=ak a->dL xs (l+i) j=ak a:=by
   intro i j a e;simp only[dL,ajS,aj7] at e ⊢;split at e
   .exact e
   .simp at e
  refine Rel.seq (fun i j=>E (l+i) j) (fun x D=>B x (ajP (aju D))) (fun i j a e=>?_) (fun i j a e=>X _ _ _ (y i j a e)) aD (fun g=>cn (r g));have:=K _ _ _ (y i j a e);rw[aiW] at this;rw[show off+l*k+i*k+j=off+(l*k+i*k)+j by omega];exact this
def aa8 (h:bV P o.op (.rX x lo hi mx k)=aq) (s:cE dl N I β e H a w) (hv:pv (.rX x lo hi mx k) e=ak v):Post I β H w v H ((execOp a.eval o).run P w):=by
 cases ho:o.op<;>simp only[ho,bV,ah5,ah2] at h;rename_i t x' a0 T W;have ⟨⟨⟨⟨r,h1⟩,C⟩,D⟩,M⟩:=h;have ⟨E,F,r⟩:=gg r;simp at r;have r1:=s.x h1;have X:mx=an->W=an:=by rintro rfl;unfold pV at M;split at M<;>simp_all
 have J:∀y,mx=ak y->∃z,W=ak z/\ea z y=aq:=by rintro y rfl;unfold pV at M;split at M<;>simp_all
 have fin:∀rv,(Instr.sliceAt t (a.eval x') (a0.map a.eval) (T.map a.eval) (W.map a.eval)).run P w = .ok rv w->Rel I β v rv->Post I β H w v H ((execOp a.eval o).run P w):=by intro rv hr L;exact .same s.bG L (by simp[execOp,ho,hr])
 simp only[pv] at hv;generalize x.ev e=A at *;unfold oY at hv;split at hv
 .split at hv
  .have ⟨K,c,hv⟩:=ah7.1 hv;have ⟨b,g,hv⟩:=ah7.1 hv;simp at hv;subst hv;have j:=r1.nZ;have S:K=0:=cn (lr c (ahZ _));have U:b=0:=by have:=lr g aD;omega
   subst S;subst U;have:=yG (P:=P) (w:=w) s F r C D (p:=an) (len:=0) (cap:=0) c (ahZ _) g;rw[X rfl,j] at fin;exact fin _ (bu this) .nil
  .simp at hv
 .split at hv
  .rename_i k' f xs G;subst G;have ⟨p,cap,j,hf,q,_⟩:=r1.pG;rw[j] at r1;split at hv
   .have ⟨K,c,hv⟩:=ah7.1 hv;have ⟨b,g,hv⟩:=ah7.1 hv;simp at hv;subst hv;have l:=lr c (ahZ _);have m:=lr g (aiL _);have:=yG (P:=P) (w:=w) s F r C D (p:=p) (len:=ae xs) (cap:=cap) c q g;rw[X rfl,j] at fin;exact fin _ (bu this) (r1.cut (ahZ _) l m aD (fun h=>by simp at h;rw[hf h.1,h.2]))
   .rename_i m0;have ⟨m',O,hv⟩:=ah7.1 hv;have ⟨K,c,hv⟩:=ah7.1 hv;have ⟨b,g,hv⟩:=ah7.1 hv;split at hv<;>simp at hv;rename_i V;subst hv;obtain ⟨z,rfl,hz⟩:=J _ rfl;have a1:=lr O (aiL _);have l:=lr c (aiL _);have m:=lr g (aiL _);have:=JR (P:=P) (w:=w) s F r C D hz V (p:=p) (len:=ae xs) (cap:=cap) O q c g;rw[j] at fin;exact fin _ (bu this) (r1.cut aD aD m l (fun h=>by simp at h;exact h.symm))
  .simp at hv
 .split at hv
  .split at hv
   .rename_i k' id ver i n mo G;subst G;have ⟨K,c,hv⟩:=ah7.1 hv;have ⟨b,g,hv⟩:=ah7.1 hv;simp at hv;subst hv;have l:=lr c (ahZ _);have m:=lr g (aiL _);obtain ⟨B,p,R,rfl,j,q,hp⟩:=r1.pz;have:=yG (P:=P) (w:=w) s F r C D (p:=p) (len:=n) (cap:=B.cap - i) c aD g;rw[X rfl,j] at fin;refine fin _ (bu this) ?_;by_cases hc:B.cap - i=b
    .rw[ah1 hc,show K - b=0 by omega,show B.cap - i - b=0 by omega];exact .Ai R aD
    .rw[ah0 hc];rcases hp with ⟨hn,rfl⟩ | ⟨h5,h6⟩
     .have:=Rel.sl (I:=I) (i:=i+b) (n:=K - b) R hn aD;rw[ai3,pA,show B.off+i*B.k+b*B.k=B.off+(i+b)*B.k by rw[aiW];omega,show B.cap - i - b=B.cap - (i+b) by omega];exact this
     .omega
   .simp at hv
  .split at hv
   .rename_i k' id ver i n mo m0 G;subst G;have ⟨m',O,hv⟩:=ah7.1 hv;have ⟨K,c,hv⟩:=ah7.1 hv;have ⟨b,g,hv⟩:=ah7.1 hv;split at hv<;>simp at hv;rename_i V;subst hv;obtain ⟨z,rfl,hz⟩:=J _ rfl;obtain ⟨B,p,R,rfl,j,q,hp⟩:=r1.pz;have:=JR (P:=P) (w:=w) s F r C D hz V (p:=p) (len:=n) (cap:=B.cap - i) O aD c g;rw[j] at fin;exact fin _ (bu this) .ba
   .simp at hv
 .simp at hv
def adb (h:bV P o.op (.mx l)=aq) (s:cE dl N I β e H a w) (hv:pv (.mx l) e=ak v):Post I β H w v H ((execOp a.eval o).run P w):=by
 cases g:o.op<;>simp only[g,bV,ah5,ah2] at h;rename_i c;have ⟨f,m⟩:=h;have x:c.callee = .builtin .max:=by unfold kI at f;split at f<;>simp_all
 have z:=iR s.env m;simp only[pv] at hv;generalize (l.map (Opd.ev e):List AV)=L at hv z;split at hv<;>simp at hv;subst hv;have b:=z.1
 match y:c.args.toList.map a.eval with
 | [p,q] =>
  rw[y] at z;have i:=z.head.eG.1;have j:=z.tail.head.eG.1;have k:c.args.map a.eval=#[p,q]:=by apply akP;simp[y]
  subst i j;exact .same s.bG (.c rfl) (by simp[execOp,g,resolve,x,k,invoke,builtin,Builtin.max_,Builtin.max2])
 | []=>simp[y] at b
 | [_]=>simp[y] at b
 | _::_::_::_=>simp[y] at b
def ac9 (h:bV P o.op (.mn l)=aq) (s:cE dl N I β e H a w) (hv:pv (.mn l) e=ak v):Post I β H w v H ((execOp a.eval o).run P w):=by
 cases g:o.op<;>simp only[g,bV,ah5,ah2] at h;rename_i c;have ⟨f,m⟩:=h;have x:c.callee = .builtin .min:=by unfold kI at f;split at f<;>simp_all
 have z:=iR s.env m;simp only[pv] at hv;generalize (l.map (Opd.ev e):List AV)=L at hv z;split at hv<;>simp at hv;subst hv;have b:=z.1
 match y:c.args.toList.map a.eval with
 | [p,q] =>
  rw[y] at z;have i:=z.head.eG.1;have j:=z.tail.head.eG.1;have k:c.args.map a.eval=#[p,q]:=by apply akP;simp[y]
  subst i j;exact .same s.bG (.c rfl) (by simp[execOp,g,resolve,x,k,invoke,builtin,Builtin.min_,Builtin.min2])
 | []=>simp[y] at b
 | [_]=>simp[y] at b
 | _::_::_::_=>simp[y] at b
def Ev {t E:TypeId} (h:P.underlying t=ak (.slice E)) (p:Option Addr) (n c:Nat):(Op.equal t (.slice p n c) (.slice an 0 0)).run P w = .ok p.isNone w:=by unfold Op.equal;rw[show Op.maxDepth=9999+1 from rfl];unfold Op.equalIn;simp only[Sem.run_bind,run_underlying h,Result.andThen_ok];cases p<;>rfl
def aa1 (h:bV P o.op (.gm neg x)=aq) (s:cE dl N I β e H a w) (hv:pv (.gm neg x) e=ak v):Post I β H w v H ((execOp a.eval o).run P w):=by
 cases z:o.op<;>simp only[z,bV,ah5,ah2] at h;rename_i op t l f W;have ⟨⟨⟨K,y⟩,m⟩,i⟩:=h;have ⟨E,r⟩:=ako.1 K;have hu:=eD r;have X:f = .const (.slice an 0 0):=by unfold Sj at i;split at i<;>simp_all
 have r1:=s.x m;have j:∀p n c,(eqGuard op t l f (.slice p n c) (.slice an 0 0)).run P w = .ok () w:=by intro p n c;unfold eqGuard;cases op<;>rfl
 have key:∀p n c,a.eval l = .slice p n c->(execOp a.eval o).run P w = .ok (.value (.bool (neg ^^ p.isNone))) w:=by
  intro p n c k;have g:a.eval f = .slice an 0 0:=by rw[X];rfl
  unfold Gy at y;split at y<;>simp at y
  .simp[execOp,z,k,g,j,binOp,Ev hu]
  .simp[execOp,z,k,g,j,binOp,Ev hu]
 simp only[pv] at hv;generalize x.ev e=A at *;split at hv<;>simp at hv
 .subst hv;have:=key _ _ _ r1.nZ;exact .same s.bG (v := .v0 (!neg)) (.c rfl) (by rw[this];cases neg<;>rfl)
 .subst hv;have ⟨p,cap,k,_,_,q⟩:=r1.pG;obtain ⟨b,off,B,rfl,_⟩:=q aO;have:=key _ _ _ k;exact .same s.bG (v := .v0 neg) (.c rfl) (by rw[this];cases neg<;>rfl)
 .subst hv;exact .same s.bG (.c rfl) (key _ _ _ r1.eG.1)
end
end Go.Fx
