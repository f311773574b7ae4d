/- A state of the product is allowed or initial exactly when its two parts are; ProductStates returns true whatever its arguments are: part 1 of 10. No condition. -/
import Derived.Calls
import Derived.Below
import Derived.Laws.Cells
import Derived.Laws.StructEq
set_option linter.all false
set_option maxRecDepth 8000
set_option maxHeartbeats 9000000
set_option autoImplicit true
set_option relaxedAutoImplicit true
def Go.Fx.WX:=@if_neg
def Go.Fx.WY:=@Nat.le_refl
def Go.Fx.WZ:=@Bool.and_eq_true
def Go.Fx.W0:=@if_pos
def Go.Fx.W3:=@Bool.false_eq_true
def Go.Fx.W4:=@List.length_map
def Go.Fx.W5:=@Option.bind_eq_some_iff
def Go.Fx.W6:=@List.all_eq_true
def Go.Fx.W7:=@List.getElem?_eq_getElem
def Go.Fx.W8:=@Array.getD_eq_getD_getElem?
def Go.Fx.W9:=@List.getElem?_eq_some_iff
def Go.Fx.Xa:=@List.length_set
def Go.Fx.Xb:=@Nat.zero_add
def Go.Fx.Xc:=@List.getElem?_append_left
def Go.Fx.Xd:=@Int.toNat_natCast
def Go.Fx.Xe:=@Nat.lt_or_ge
def Go.Fx.Xf:=@List.mem_map
def Go.Fx.Xg:=@Ne.symm
def Go.Fx.Xh:=@eq_false
def Go.Fx.Xi:=@Option.map_eq_some_iff
def Go.Fx.Xj:=@Int.mul_le_mul_of_nonneg_right
def Go.Fx.Xk:=@List.getElem?_append_right
def Go.Fx.Xl:=@Array.getElem?_setIfInBounds
def Go.Fx.Xm:=@decide_eq_true_eq
def Go.Fx.Xn:=@List.length_append
def Go.Fx.Xo:=@List.drop_eq_nil_of_le
def Go.Fx.Xp:=@Array.getElem?_eq_getElem
def Go.Fx.Xq:=@List.take_of_length_le
def Go.Fx.Xr:=@Option.bind_some
def Go.Fx.Xs:=@Int.mul_le_mul_of_nonneg_left
def Go.Fx.Xt:=@List.length_eraseIdx_of_lt
def Go.Fx.Xu:=@List.map_append
def Go.Fx.Xv:=@List.getElem?_eq_none
def Go.Fx.Xw:=@Int.mul_assoc
def Go.Fx.Xx:=@decide_eq_false
def Go.Fx.Xy:=@List.eq_nil_of_length_eq_zero
def Go.Fx.Xz:=@List.append_nil
def Go.Fx.XA:=@List.drop_eq_getElem_cons
def Go.Fx.XB:=@decide_eq_true
def Go.Fx.XC:=@List.append_assoc
def Go.Fx.XD:=@List.map_cons
def Go.Fx.XE:=@Nat.zero_le
def Go.Fx.XF:=@Nat.add_mul
def Go.Fx.XG:=@List.length_cons
def Go.Fx.XH:=@List.nil_append
def Go.Fx.XI:=@List.length_take
def Go.Fx.XJ:=@List.mem_of_getElem?
def Go.Fx.XK:=@Nat.mul_le_mul_right
def Go.Fx.XL:=@Option.map_some
def Go.Fx.XM:=@Int.sign_eq_zero_iff_zero
def Go.Fx.XN:=@Int.mul_add
def Go.Fx.XO:=@eq_true
def Go.Fx.XP:=@List.take_length
def Go.Fx.XQ:=@List.length_nil
def Go.Fx.XR:=@List.mem_filter
def Go.Fx.XS:=@List.getElem?_set_ne
def Go.Fx.XT:=@Option.getD_some
def Go.Fx.XU:=@List.cons_append
def Go.Fx.XV:=@Nat.min_eq_left
def Go.Fx.XW:=@List.take_succ_eq_append_getElem
def Go.Fx.XX:=@Nat.le_trans
def Go.Fx.XY:=@Nat.add_assoc
def Go.Fx.XZ:=@List.getD_eq_getElem?_getD
def Go.Fx.X2:=@beq_iff_eq
def Go.Fx.X3:=@List.mem_cons
def Go.Fx.X4:=@Bool.and_true
def Go.Fx.X5:=@List.mem_range
def Go.Fx.X6:=@not_false_eq_true
def Go.Fx.X7:=@List.eq_of_mem_replicate
def Go.Fx.X8:=@Rat.intCast_mul
def Go.Fx.X9:=@Bool.not_false
def Go.Fx.Ya:=@List.drop_drop
def Go.Fx.Yb:=@List.not_mem_nil
def Go.Fx.Yc:=@List.mem_append
def Go.Fx.Yd:=@Bool.not_eq_true'
def Go.Fx.Ye:=@List.all_eq_false
def Go.Fx.Yf:=@Nat.lt_of_lt_of_le
def Go.Fx.Yg:=@Int.mul_comm
def Go.Fx.Yh:=@Bool.true_and
def Go.Fx.Yi:=@List.map_nil
def Go.Fx.Yj:=@if_true
def Go.Fx.Yk:=@Int.emod_lt_of_pos
def Go.Fx.Yl:=@Array.getElem?_eq_some_iff
def Go.Fx.Ym:=@List.length_replicate
def Go.Fx.Yn:=@Int.le_refl
def Go.Fx.Yo:=@Int.add_mul
def Go.Fx.Yp:=@List.map_set
def Go.Fx.Yq:=@List.mem_or_eq_of_mem_set
def Go.Fx.Yr:=@List.range_succ
def Go.Fx.Ys:=@List.getElem?_map
def Go.Fx.Yt:=@Nat.lt_trichotomy
def Go.Fx.Yu:=@List.all_cons
def Go.Fx.Yv:=@List.mem_of_mem_drop
def Go.Fx.Yw:=@Bool.false_and
def Go.Fx.Yx:=@List.drop_zero
def Go.Fx.Yy:=@Bool.not_true
def Go.Fx.Yz:=@List.mem_iff_getElem
def Go.Fx.YA:=@Array.all_eq_true'
def Go.Fx.YB:=@Int.mul_nonneg
def Go.Fx.YC:=@if_false
def Go.Fx.YD:=@Nat.lt_succ_self
def Go.Fx.YE:=@List.map_congr_left
def Go.Fx.YF:=@Int.mul_ediv_add_emod
def Go.Fx.YG:=@List.flatMap_cons
def Go.Fx.YH:=@List.getElem?_replicate
def Go.Fx.YI:=@decide_eq_false_iff_not
def Go.Fx.YJ:=@Bool.or_eq_true
def Go.Fx.YK:=@Int.emod_nonneg
def Go.Fx.YM:=@List.mem_replicate
def Go.Fx.YN:=@List.getElem_mem
def Go.Fx.YO:=@Int.one_mul
def Go.Fx.YP:=@List.take_append_of_le_length
def Go.Fx.YQ:=@Option.isSome_iff_exists
def Go.Fx.YR:=@Int.pow_succ
def Go.Fx.YS:=@Int.ediv_lt_of_lt_mul
def Go.Fx.YT:=@Int.natCast_mul
def Go.Fx.YU:=@List.getElem?_drop
def Go.Fx.YV:=@List.getElem?_cons_succ
def Go.Fx.YW:=@List.mem_of_mem_take
def Go.Fx.YX:=@List.drop_length
def Go.Fx.YY:=@Array.getElem?_append_left
def Go.Fx.YZ:=@Int.fdiv_eq_ediv_of_nonneg
def Go.Fx.Y9:=@Int.sign_eq_neg_one_of_neg
def Go.Fx.Za:=@Int.lt_or_le
def Go.Fx.Zb:=@List.flatten_cons
def Go.Fx.Zc:=@List.length_pos_iff
def Go.Fx.Zd:=@List.take_set_of_le
def Go.Fx.Ze:=@List.all_append
def Go.Fx.Zf:=@Int.natCast_pow
def Go.Fx.Zg:=@Int.ediv_nonneg
def Go.Fx.Zh:=@Classical.byContradiction
def Go.Fx.Zi:=@List.getElem?_take
def Go.Fx.Zj:=@Array.getElem?_replicate
def Go.Fx.Zk:=@Int.mul_zero
def Go.Fx.Zl:=@List.prefix_append_right_inj
def Go.Fx.Zm:=@and_self
def Go.Fx.Zo:=@List.foldl_append
def Go.Fx.Zp:=@List.replicate_zero
def Go.Fx.Zq:=@List.drop_set_of_lt
def Go.Fx.Zr:=@decide_true
def Go.Fx.Zs:=@decide_false
def Go.Fx.Zt:=@Int.mul_sub
def Go.Fx.Zu:=@Int.sign_eq_one_of_pos
def Go.Fx.Zv:=@List.all_nil
def Go.Fx.Zw:=@List.all_map
def Go.Fx.Zx:=@Array.ext'
def Go.Fx.Zy:=@List.length_drop
def Go.Fx.Zz:=@List.mem_flatMap
def Go.Fx.ZA:=@Nat.min_eq_right
def Go.Fx.ZB:=@or_false
def Go.Fx.ZC:=@List.mem_iff_getElem?
def Go.Fx.ZD:=@Nat.mul_le_mul
def Go.Fx.ZE:=@List.set_append_right
def Go.Fx.ZF:=@List.ext_getElem?
def Go.Fx.ZG:=@Int.emod_eq_of_lt
def Go.Fx.ZH:=@Int.mul_left_comm
def Go.Fx.ZI:=@of_decide_eq_true
def Go.Fx.ZJ:=@Array.getElem?_setIfInBounds_self_of_lt
def Go.Fx.ZK:=@List.getElem?_cons_zero
def Go.Fx.ZL:=@List.ext_getElem
def Go.Fx.ZM:=@List.flatMap_nil
def Go.Fx.ZN:=@List.drop_of_length_le
def Go.Fx.ZO:=@Int.mul_one
def Go.Fx.ZP:=@List.set_cons_zero
def Go.Fx.ZQ:=@false_and
def Go.Fx.ZR:=@List.mem_singleton
def Go.Fx.ZS:=@List.map_replicate
def Go.Fx.ZT:=@Bool.eq_iff_iff
def Go.Fx.ZU:=@List.getElem?_toArray
def Go.Fx.ZV:=@List.length_filter_le
def Go.Fx.ZW:=@congrArg
def Go.Fx.ZX:=@Int.tmod_eq_emod_of_nonneg
def Go.Fx.ZY:=@Nat.pow_le_pow_right
def Go.Fx.ZZ:=@Int.mul_neg
def Go.Fx.Z9:=@true_and
def Go.Fx.aaa:=@Int.sign_neg_iff
def Go.Fx.aab:=@List.flatten_append
def Go.Fx.aac:=@Int.sign_trichotomy
def Go.Fx.aad:=@List.IsPrefix.trans
def Go.Fx.aae:=@Nat.add_sub_cancel_left
def Go.Fx.aaf:=@ne_eq
def Go.Fx.aag:=@Nat.eq_or_lt_of_le
def Go.Fx.aah:=@Int.mul_ne_zero
def Go.Fx.aai:=@Rat.not_lt
def Go.Fx.aaj:=@List.prefix_append
def Go.Fx.aak:=@List.getElem?_set_self
def Go.Fx.aal:=@List.length_pos_of_mem
def Go.Fx.aam:=@List.filter_eq_nil_iff
def Go.Fx.aan:=@Nat.pow_add
def Go.Fx.aao:=@Rat.le_refl
def Go.Fx.aap:=@Option.some.injEq
def Go.Fx.aaq:=@Nat.lt_succ_of_lt
def Go.Fx.aar:=@List.drop_left
def Go.Fx.aas:=@List.take_append_drop
def Go.Fx.aat:=@Nat.le_of_ble_eq_true
def Go.Fx.aau:=@List.getElem_set_self
def Go.Fx.aav:=@Int.add_zero
def Go.Fx.aaw:=@Rat.mul_nonneg
def Go.Fx.aax:=@List.drop_append
def Go.Fx.aay:=@List.range'_succ
def Go.Fx.aaz:=@Nat.mod_lt
def Go.Fx.aaA:=@List.mem_flatten
def Go.Fx.aaB:=@List.reverse_nil
def Go.Fx.aaC:=@Int.not_lt
def Go.Fx.aaD:=@Int.tdiv_eq_ediv_of_nonneg
def Go.Fx.aaE:=@List.flatMap_append
def Go.Fx.aaF:=@List.mem_of_find?_eq_some
def Go.Fx.aaG:=@Rat.intCast_neg
def Go.Fx.aaH:=@Array.ext_getElem?
def Go.Fx.aaI:=@Nat.add_zero
def Go.Fx.aaJ:=@List.map_map
def Go.Fx.aaK:=@Nat.add_sub_cancel
def Go.Fx.aaL:=@BitVec.toNat_ofInt
def Go.Fx.aaM:=@Nat.xor_lt_two_pow
def Go.Fx.aaN:=@List.getElem_range
def Go.Fx.aaO:=@List.filter_append
def Go.Fx.aaP:=@Int.natAbs_mul
def Go.Fx.aaQ:=@Nat.exists_eq_add_of_le
def Go.Fx.aaR:=@Classical.not_not
def Go.Fx.aaS:=@Array.getElem?_push_lt
def Go.Fx.aaT:=@List.zipIdx_cons
def Go.Fx.aaU:=@Array.toList_map
def Go.Fx.aaV:=@and_true
def Go.Fx.aaW:=@Nat.le_of_not_lt
def Go.Fx.aaX:=@List.filter_cons
def Go.Fx.aaY:=@Nat.testBit_eq_decide_div_mod_eq
def Go.Fx.aaZ:=@List.getElem_map
def Go.Fx.aa0:=@List.getElem_set
def Go.Fx.aa1:=@List.any_eq_true
def Go.Fx.aa2:=@List.length_singleton
def Go.Fx.aa3:=@List.eraseIdx_eq_take_drop_succ
def Go.Fx.aa4:=@List.range_eq_range'
def Go.Fx.aa5:=@Nat.le_of_lt
def Go.Fx.aa6:=@List.range_zero
def Go.Fx.aa7:=@Nat.succ_mul
def Go.Fx.aa8:=@Nat.shiftLeft_add_eq_or_of_lt
def Go.Fx.aa9:=@List.drop_append_of_le_length
def Go.Fx.aba:=@List.replicate_succ
def Go.Fx.abb:=@List.dropLast_concat_getLast
def Go.Fx.abc:=@List.take_take
def Go.Fx.abd:=@List.foldl_nil
def Go.Fx.abe:=@Iff.rfl
def Go.Fx.abf:=@Nat.pow_pos
def Go.Fx.abg:=@Int.pow_pos
def Go.Fx.abh:=@Option.isSome_some
def Go.Fx.abi:=@Nat.and_lt_two_pow
def Go.Fx.abj:=@Int.sign_eq_neg_one_iff_neg
def Go.Fx.abk:=@Nat.lt_of_le_of_lt
def Go.Fx.abl:=@Int.mul_lt_mul_of_pos_right
def Go.Fx.abm:=@Prod.mk.injEq
def Go.Fx.abn:=@Int.lt_of_mul_lt_mul_right
def Go.Fx.abo:=@List.getElem?_set
def Go.Fx.abp:=@Nat.or_lt_two_pow
def Go.Fx.abq:=@Array.mapM_eq_mapM_toList
def Go.Fx.abr:=@List.isEmpty_iff
def Go.Fx.abt:=@Nat.sub_zero
def Go.Fx.abu:=@Int.le_trans
def Go.Fx.abv:=@Int.mul_tdiv_cancel_left
def Go.Fx.abw:=@List.mem_of_mem_eraseIdx
def Go.Fx.abx:=@Nat.le_mul_of_pos_right
def Go.Fx.aby:=@Option.some.inj
def Go.Fx.abz:=@Nat.testBit_xor
def Go.Fx.abA:=@List.find?_some
def Go.Fx.abB:=@Array.getElem?_eq_none
def Go.Fx.abC:=@Int.mul_pos
def Go.Fx.abD:=@List.getElem?_eraseIdx
def Go.Fx.abE:=@Array.getElem?_toList
def Go.Fx.abF:=@List.mapM_cons
def Go.Fx.abG:=@Nat.testBit_or
def Go.Fx.abH:=@Nat.div_lt_iff_lt_mul
def Go.Fx.abI:=@Int.add_mul_ediv_left
def Go.Fx.abJ:=@Classical.choose_spec
def Go.Fx.abK:=@Int.natAbs_dvd_natAbs
def Go.Fx.abL:=@List.range_add
def Go.Fx.abM:=@Bool.or_eq_false_iff
def Go.Fx.abN:=@Int.ediv_emod_unique
def Go.Fx.abO:=@Rat.mul_lt_mul_right
def Go.Fx.abP:=@Int.add_assoc
def Go.Fx.abQ:=@Nat.zero_mul
def Go.Fx.abR:=@Nat.mul_comm
def Go.Fx.abS:=@Nat.pow_succ
def Go.Fx.abT:=@Int.pow_zero
def Go.Fx.abU:=@Nat.gcd_comm
def Go.Fx.abV:=@List.set_set
def Go.Fx.abW:=@Nat.sub_self
namespace Go.Fx
open List renaming length->ae,getD->af,replicate->aA,eraseIdx->aB,range->aC
open Inhabited renaming default->ah
open Option renaming some->ak,none->an
open Bool renaming true->aq,false->ar
open Go.IntKind renaming wrap->au
open Int renaming natAbs->ay,toNat->az
structure Blk where
 b:Nat
 off:Nat
 cap:Nat
 k:Nat
 eS:Bool
def aD {p:Prop} (h:p:=by omega):p:=h
def aK {p:Prop} (h:p:=by simp):p:=h
def aS {p:Prop} (h:p:=by decide):p:=h
def cE {p:Prop} (h:p:=by simp;omega):p:=h
def dp {p q:Prop} (h:q) (f:q->p:=by intro;omega):p:=f h
def UQ {p q r:Prop} (h:q) (g:r) (f:q->r->p:=by intro _ _;omega):p:=f h g
def bk {p q:Prop} (h:q) (f:q->p:=by intro h;simpa using h):p:=f h
inductive AV where
 | c (v:Value)
 | nil
 | seq (k:Nat) (full:Bool) (xs:List (List AV))
 | fp (cs:List AV) (o:Nat)
 | ptr (id ver i o:Nat)
 | sl (k id ver i n:Nat)
 | fn (f:FuncId) (first caps:List AV)
 | agg (cs:List AV)
 | bI (vs:List AV)
 | aY
abbrev AV.q0 (n:Int):AV:=.c (.int .i64 n)
abbrev AV.v0 (b:Bool):AV:=.c (.bool b)
instance:Inhabited AV:=⟨.aY⟩
abbrev Imm:=Nat->Nat->Option Value
abbrev Bet:=Nat->Nat->Option Blk
def eW:Bet:=fun _ _=>an
structure bC where
 k:Nat
 ver:Nat
 xs:List (List AV)
abbrev aE:=List (Option bC)
def isAtom:Value->Bool
 | .bool _ | .int _ _ | .string _ | .pointer an | .nilFunc | .nilIface | .slice _ 0 _=>aq
 | .func (.yield _) a b=>a.isEmpty&&b.isEmpty
 | _=>ar
def cJ (xs:List (List AV)) (i j:Nat):Option AV:=(xs[i]?).bind (·[j]?)
def bh:AV->Bool
 | .c _ | .nil | .seq _ _ _ | .fp _ _ | .ptr _ _ _ _ | .sl _ _ _ _ _ | .fn _ _ _=>aq
 | _=>ar
def Ih (ρ:Nat->Nat):AV->AV
 | .sl k id v i n => .sl k (ρ id) v i n
 | .ptr id v i o => .ptr (ρ id) v i o
 | .fn f a b => .fn f (a.map fun _ => .aY) (b.map fun _ => .aY)
 | .agg _ => .aY
 | .bI _ => .aY
 | a=>a
def ck (n:Nat):AV->Bool
 | .c _ | .nil | .seq _ _ _ | .fp _ _ | .aY=>aq
 | .ptr id _ _ _=>decide (id < n)
 | .sl _ id _ _ _=>decide (id < n)
 | .fn _ a b=>a.isEmpty&&b.isEmpty
 | _=>ar
def rr (n:Nat):AV->Bool
 | .fn _ a b=>a.all (ck n)&&b.all (ck n)
 | .agg cs=>cs.all (ck n)
 | a=>ck n a
def jR (n:Nat):AV->Bool
 | .bI vs=>vs.all (rr n)
 | .fn _ a b=>a.all (rr n)&&b.all (rr n)
 | a=>rr n a
def eI (n:Nat) (o:Option bC):Bool:=match o with | some ob=>ob.xs.all fun x=>x.all (ck n) | none=>aq
inductive Rel (I:Imm):Bet->AV->Value->Prop
 | c {β:Bet} {v:Value}:isAtom v=true->Rel I β (.c v) v
 | nil {β:Bet}:Rel I β .nil (.slice none 0 0)
 | gF {β:Bet} {k:Nat} {f:Bool} {a:Option Addr} {cap:Nat}:(f=true->cap=0)->Rel I β (.seq k f []) (.slice a 0 cap)
 | seq {β:Bet} {f:Bool} {xs:List (List AV)} {b off cap k:Nat} (vs:Nat->Nat->Value):(∀x,x∈xs->x.length=k/\x.all bh=true) ->
   (∀i j a,cJ xs i j=some a->I b (off+i*k+j)=some (vs i j))->(∀i j a,cJ xs i j=some a->Rel I eW a (vs i j)) ->
   xs.length<=cap->(f=true->cap=xs.length)->Rel I β (.seq k f xs) (.slice (some ⟨b,off,none⟩) xs.length cap)
 | fp {β:Bet} {cs:List AV} {o b off:Nat} (vs:Nat->Value):cs.all bh=true->(∀j a,cs[j]?=some a->I b (off+j)=some (vs j)) ->
   (∀j a,cs[j]?=some a->Rel I eW a (vs j))->Rel I β (.fp cs o) (.pointer (some ⟨b,off+o,none⟩))
 | ptr {β:Bet} {id ver i o:Nat} {B:Blk}:β id ver=some B->B.eS=false->Rel I β (.ptr id ver i o) (.pointer (some ⟨B.b,B.off+i*B.k+o,none⟩))
 | sl {β:Bet} {id ver i n:Nat} {B:Blk}:β id ver=some B->B.eS=false->i+n<=B.cap ->
   Rel I β (.sl B.k id ver i n) (.slice (some ⟨B.b,B.off+i*B.k,none⟩) n (B.cap - i))
 | rP {β:Bet} {id ver i:Nat} {B:Blk} {a:Option Addr}:β id ver=some B->i=B.cap->Rel I β (.sl B.k id ver i 0) (.slice a 0 0)
 | fn {β:Bet} {f:FuncId} {first caps:List AV} {vf vc:List Value}:first.length=vf.length->caps.length=vc.length ->
   (∀(j:Nat) a v,first[j]?=some a->vf[j]?=some v->Rel I β a v)->(∀(j:Nat) a v,caps[j]?=some a->vc[j]?=some v->Rel I β a v) ->
   Rel I β (.fn f first caps) (.func (.func f) vf.toArray vc.toArray)
 | agg {β:Bet} {cs:List AV} {vs:List Value}:cs.length=vs.length->(∀(j:Nat) a v,cs[j]?=some a->vs[j]?=some v->Rel I β a v) ->
   Rel I β (.agg cs) (.agg vs.toArray)
 | bI {β:Bet} {cs:List AV} {vs:List Value}:cs.length=vs.length->(∀(j:Nat) a v,cs[j]?=some a->vs[j]?=some v->Rel I β a v) ->
   Rel I β (.bI cs) (.tuple vs.toArray)
 | aY {β:Bet} {v:Value}:Rel I β .aY v
def Imm.le (I I':Imm):Prop:=∀b o v,I b o=ak v->I' b o=ak v
def Bet.le (β β':Bet):Prop:=∀i v x,β i v=ak x->β' i v=ak x
def Imm.le.refl (I:Imm):I.le I:=fun _ _ _ h=>h
def Imm.le.trans {I J K:Imm} (h:I.le J) (g:J.le K):I.le K:=fun _ _ _ e=>g _ _ _ (h _ _ _ e)
def Bet.le.refl (I:Bet):I.le I:=fun _ _ _ h=>h
def Bet.le.trans {I J K:Bet} (h:I.le J) (g:J.le K):I.le K:=fun _ _ _ e=>g _ _ _ (h _ _ _ e)
def Jl (β:Bet):Bet.le eW β:=fun _ _ _ h=>by simp[eW] at h
def Rel.mono (m:I.le o) (h:Rel I β a v) (y:β.le n):Rel o n a v:=by
 induction h generalizing n with
 | c h=>exact .c h
 | nil=>exact .nil
 | gF h=>exact .gF h
 | seq g k z q l r f=>exact .seq g k (fun i j a e=>m _ _ _ (z i j a e)) (fun i j a e=>f i j a e (Bet.le.refl _)) l r
 | fp g p k z f=>exact .fp g p (fun j a e=>m _ _ _ (k j a e)) (fun j a e=>f j a e (Bet.le.refl _))
 | ptr h w=>exact .ptr (y _ _ _ h) w
 | sl h w s=>exact .sl (y _ _ _ h) w s
 | rP h w=>exact .rP (y _ _ _ h) w
 | fn k z q l b t=>exact .fn k z (fun j a v e x=>b j a v e x y) (fun j a v e x=>t j a v e x y)
 | agg k z b=>exact .agg k (fun j a v e x=>b j a v e x y)
 | bI k z b=>exact .bI k (fun j a v e x=>b j a v e x y)
 | aY=>exact .aY
def b8:AV->Bool
 | .c _ | .nil | .seq _ _ _ | .fp _ _ | .aY=>aq
 | .fn _ a b=>a.isEmpty&&b.isEmpty
 | _=>ar
def fP:AV->Bool
 | .fn _ a b=>a.all b8&&b.all b8
 | .agg cs=>cs.all b8
 | a=>b8 a
def bP:AV->Bool
 | .bI vs=>vs.all fP
 | .agg cs=>cs.all fP
 | .fn _ a b=>a.all fP&&b.all fP
 | a=>fP a
def Rel.b8 (h:Rel I β a v) (y:b8 a=aq) (i:Bet):Rel I i a v:=by
 cases h with
 | c h=>exact .c h
 | nil=>exact .nil
 | gF h=>exact .gF h
 | seq z k x w b g=>exact .seq z k x w b g
 | fp z f k x=>exact .fp z f k x
 | fn k x w b =>
  simp only[Fx.b8,WZ,abr] at y;obtain ⟨rfl,rfl⟩:=y;exact .fn k x (fun j a v e=>by simp at e) (fun j a v e=>by simp at e)
 | aY=>exact .aY
 | _=>simp[Fx.b8] at y
def dY {p:AV->Bool} {l:List AV} (h:l.all p=aq) {j:Nat} {a:AV} (e:l[j]?=ak a):p a=aq :=
 W6.1 h a (XJ e)
def Rel.fP (h:Rel I β a v) (z:fP a=aq) (w:Bet):Rel I w a v:=by
 cases h with
 | fn k x b f =>
  simp only[Fx.fP,WZ] at z;exact .fn k x (fun j a v e y=>(b j a v e y).b8 (dY z.1 e) w) (fun j a v e y=>(f j a v e y).b8 (dY z.2 e) w)
 | agg k x=>exact .agg k (fun j a v e y=>(x j a v e y).b8 (dY (by simpa[Fx.fP] using z) e) w)
 | c h=>exact .c h
 | nil=>exact .nil
 | gF h=>exact .gF h
 | seq g k x b f l=>exact .seq g k x b f l
 | fp g i k x=>exact .fp g i k x
 | aY=>exact .aY
 | _=>simp[Fx.fP,Fx.b8] at z
def Rel.bP (h:Rel I β a v) (z:bP a=aq) (w:Bet):Rel I w a v:=by
 cases h with
 | fn k x b f =>
  simp only[Fx.bP,WZ] at z;exact .fn k x (fun j a v e y=>(b j a v e y).fP (dY z.1 e) w) (fun j a v e y=>(f j a v e y).fP (dY z.2 e) w)
 | agg k x=>exact .agg k (fun j a v e y=>(x j a v e y).fP (dY (by simpa[Fx.bP] using z) e) w)
 | bI k x=>exact .bI k (fun j a v e y=>(x j a v e y).fP (dY (by simpa[Fx.bP] using z) e) w)
 | c h=>exact .c h
 | nil=>exact .nil
 | gF h=>exact .gF h
 | seq g k x b f l=>exact .seq g k x b f l
 | fp g i k x=>exact .fp g i k x
 | aY=>exact .aY
 | _=>simp[Fx.bP,Fx.fP,Fx.b8] at z
def sf (I:Imm) (w:World):Prop:=∀b o v,I b o=ak v->∃c E fz,w.heap[b]?=ak (.cells c E fz)/\c[o]?=ak v
def dG (I:Imm) (β:Bet) (w:World) (B:Blk) (ob:bC):Prop :=
 if B.eS then ob.xs=[]/\B.cap=0 else
  ∃c E,w.heap[B.b]?=ak (.cells c E (0,0))/\(∀o,I B.b o=an)/\B.off+B.cap*B.k<=c.size/\ae ob.xs<=B.cap/\(∀x,x∈ob.xs->ae x=ob.k/\x.all bh=aq) /\
   ∀i j a v,cJ ob.xs i j=ak a->c[B.off+i*B.k+j]?=ak v->Rel I β a v
structure Sim (I:Imm) (β:Bet) (H:aE) (w:World):Prop where
 ef:sf I w
 obj:∀(id:Nat) ob,H[id]?=some (some ob)->∃B,β id ob.ver=some B/\B.k=ob.k/\dG I β w B ob
 inj:∀(id id':Nat) ob ob' B B',H[id]?=some (some ob)->H[id']?=some (some ob')->β id ob.ver=some B->β id' ob'.ver=some B' ->
  B.eS=false->B'.eS=false->B.b=B'.b->id=id'
 gw:∀id ver B,β id ver=some B->id < H.length
 ver:∀(id:Nat) ob n,H[id]?=some (some ob)->ob.ver < n->β id n=none
def Own (β:Bet) (H:aE) (b:Nat):Prop:=∃(id:Nat) (ob:bC) (B:Blk),H[id]?=ak (ak ob)/\β id ob.ver=ak B/\B.eS=ar/\B.b=b
structure Ext (I:Imm) (β:Bet) (H:aE) (w:World) (I':Imm) (β':Bet) (H':aE) (w':World):Prop where
 ef:I.le I'
 n6:β.le β'
 len:H.length<=H'.length
 size:w.heap.size<=w'.heap.size
 os:w'.os=w.os
 tape:w'.tape=w.tape
 output:w'.output=w.output
 frame:∀b,b < w.heap.size->¬Own β H b->w'.heap[b]?=w.heap[b]?/\∀o,I' b o=I b o
 own:∀b,Own β' H' b->Own β H b\/w.heap.size<=b
def Ext.refl (I:Imm) (β:Bet) (H:aE) (w:World):Ext I β H w I β H w :=
 ⟨.refl _,.refl _,WY _,WY _,rfl,rfl,rfl,fun _ _ _=>⟨rfl,fun _=>rfl⟩,fun _ h => .inl h⟩
def Ext.trans {I J K:Imm} {β γ δ:Bet} {H G F:aE} {w u t:World} (h:Ext I β H w J γ G u) (g:Ext J γ G u K δ F t):Ext I β H w K δ F t where
 ef:=h.ef.trans g.ef
 n6:=h.n6.trans g.n6
 len:=XX h.len g.len
 size:=XX h.size g.size
 os:=g.os.trans h.os
 tape:=g.tape.trans h.tape
 output:=g.output.trans h.output
 frame:=fun b x c=>by have k:=h.frame b x c;have a:=g.frame b (Yf x h.size) (fun z=>(h.own b z).elim c (fun y=>absurd x (Nat.not_lt.2 y)));exact ⟨a.1.trans k.1,fun o=>(a.2 o).trans (k.2 o)⟩
 own:=fun b z=>by
  rcases g.own b z with k | k
  .exact h.own b k
  .exact .inr (XX h.size k)
abbrev Env:=List (Nat × AV)
def lk (t:Nat):Env->AV
 | [] => .aY
 | (s,v)::r=>if s=t then v else lk t r
structure bH (dl:List Deferred) (N:Nat) (I:Imm) (β:Bet) (e:Env) (H:aE) (a:Act) (w:World):Prop where
 bm:Sim I β H w
 size:a.tmps.size=N
 env:∀t,Rel I β (lk t e) (a.tmps.getD t undef)
 mu:a.defers=dl
def sf.cell (h:sf I w) (e:I b o=ak v):w.cell? ⟨b,o,an⟩=ak v:=by have ⟨c,E,y,k,x⟩:=h b o v e;simp[World.cell?,k,x]
def Rel.cells {I:Imm} {β:Bet} {cs:List AV} {vs:List Value} (h:ae cs=ae vs) (k:∀(j:Nat) a v,cs[j]?=ak a->vs[j]?=ak v->Rel I β a v) {j:Nat} {a:AV} (e:cs[j]?=ak a) :
  ∃v,vs[j]?=ak v/\Rel I β a v:=by
 have x:=(W9.1 e).1;have hv:vs[j]?=ak vs[j]:=by simp[show j < ae vs by omega]
 exact ⟨_,hv,k j a _ e hv⟩
inductive Opd where
 | t (n:Nat)
 | k (a:AV)
def Opd.ev (e:Env):Opd->AV
 | .t n=>lk n e
 | .k a=>a
instance (n:Nat):OfNat Opd n:=⟨.t n⟩
def i64 (n:Int):Opd := .k (.c (.int .i64 n))
def u32 (n:Int):Opd := .k (.c (.int .u32 n))
def u64 (n:Int):Opd := .k (.c (.int .u64 n))
def bo (b:Bool):Opd := .k (.c (.bool b))
def OD:Opd := .k .nil
inductive AOp where
 | mv (x:Opd)
 | pick (c a b:Opd)
 | new (k:Nat) (z:List AV)
 | box (x:Opd)
 | nz (x:Opd)
 | bd (z:List AV) (parts:List (Nat × Nat × Opd))
 | bs (k:Nat) (parts:List Opd)
 | qe (k:Nat) (parts:List Opd)
 | ld (a:Opd) (ag:Bool) (k:Nat)
 | xB (a:Opd) (ag:Bool) (k:Nat)
 | st (a v:Opd) (k:Nat)
 | nc (x:Opd)
 | bin (op:BinOp) (x y:Opd)
 | beq (neg:Bool) (x y:Opd)
 | un (op:UnOp) (x:Opd)
 | cv (k:IntKind) (x:Opd)
 | mf (f:FuncId) (first caps:List Opd)
 | mk (k:Nat) (z:List AV) (l c:Opd)
 | A9 (k:Nat) (z:List AV) (l:Opd)
 | nj (x:Opd) (lo hi mx:Option Opd) (k:Nat)
 | fa (x:Opd) (off:Nat)
 | fd (x:Opd) (off:Nat) (ag:Bool) (k:Nat)
 | vX (x i:Opd) (k:Nat)
 | CF (x i:Opd) (n k:Nat)
 | ix (x i:Opd) (n k:Nat) (ag:Bool)
 | ex (x:Opd) (i:Nat)
 | call (f:FuncId) (args:List Opd)
 | iW (f:FuncId) (args:List Opd)
 | jz (x:Opd) (args:List Opd)
 | len (x:Opd)
 | app (x y:Opd) (k:Nat)
 | mx (l:List Opd)
 | mn (l:List Opd)
 | fj (neg:Bool) (x:Opd)
 | Cr (neg:Bool) (ks:List Bool) (x y:Opd)
 | AN (eX:List Nat) (x:Opd)
 | q9 (x:Opd) (z:List AV)
 | mM (x n:Opd) (k:Nat) (z:List AV)
 | tJ (x y:Opd) (k:Nat)
 | bad
def AV.cells:AV->List AV
 | .agg cs=>cs
 | a=>[a]
def eC:AV->Bool
 | .aY=>ar
 | _=>aq
def cN (a:AV):Bool:=bh a&&b8 a
def eN (l:List AV) (o:Nat) (cs:List AV):List AV:=l.take o++cs++l.drop (o+ae cs)
def lJ (z:List AV):List (Nat × Nat × AV)->Option (List AV)
 | []=>ak z
 | (o,k,a)::r=>if ae a.cells=k/\o+k<=ae z then lJ (eN z o a.cells) r else an
def fm (ag:Bool) (cs:List AV) (o k:Nat):Option AV :=
 if ag then (if o+k<=ae cs then ak (.agg ((cs.drop o).take k)) else an) else cs[o]?
def rO (op:BinOp) (k:IntKind) (x y:Int):Option AV :=
 if y < 0 then an else
  match op with
  | .shl=>ak (.c (.int k (k.wrap (x*2 ^ (min y.toNat k.bits)))))
  | .shr=>ak (.c (.int k (x.fdiv (2 ^ (min y.toNat k.bits)))))
  | _=>an
def uG (op:BinOp) (k:IntKind) (x y:Int):Option AV :=
 match op with
 | .and=>ak (.c (.int k (k.wrap (BitVec.ofInt k.bits x &&& BitVec.ofInt k.bits y).toNat)))
 | .or=>ak (.c (.int k (k.wrap (BitVec.ofInt k.bits x ||| BitVec.ofInt k.bits y).toNat)))
 | .xor=>ak (.c (.int k (k.wrap (BitVec.ofInt k.bits x ^^^ BitVec.ofInt k.bits y).toNat)))
 | .andNot=>ak (.c (.int k (k.wrap (BitVec.ofInt k.bits x &&& ~~~BitVec.ofInt k.bits y).toNat)))
 | _=>an
def mi (op:BinOp) (k:IntKind) (x y:Int):Option AV :=
 match op with
 | .add=>ak (.c (.int k (k.wrap (x+y))))
 | .sub=>ak (.c (.int k (k.wrap (x - y))))
 | .mul=>ak (.c (.int k (k.wrap (x*y))))
 | .quo=>if y=0 then an else ak (.c (.int k (k.wrap (x.tdiv y))))
 | .rem=>if y=0 then an else ak (.c (.int k (x.tmod y)))
 | .eql=>ak (.c (.bool (decide (x=y))))
 | .neq=>ak (.c (.bool (!decide (x=y))))
 | .lss=>ak (.c (.bool (decide (x < y))))
 | .leq=>ak (.c (.bool (decide (x<=y))))
 | .gtr=>ak (.c (.bool (decide (y < x))))
 | .geq=>ak (.c (.bool (decide (y<=x))))
 | .shl=>an
 | .shr=>an
 | op=>uG op k x y
def iG (op:BinOp):AV->AV->Option AV
 | .c (.int k x),.c (.int k' y) =>
  match op with
  | .shl=>rO .shl k x y
  | .shr=>rO .shr k x y
  | op=>if k=k' then mi op k x y else an
 | _,_=>an
def Pe (op:UnOp):AV->Option AV
 | .c (.int k x) =>
  match op with
  | .neg=>ak (.c (.int k (k.wrap (0 - x))))
  | .xor=>uG .xor k (if k.signed then -1 else k.max) x
  | _=>an
 | .c (.bool b)=>match op with | .not=>ak (.c (.bool !b)) | _=>an
 | _=>an
def BW (k:Nat):AV->AV->Option AV
 | .seq k' _ xs,.c (.int _ n)=>if k'=k/\0<=n/\n < (ae xs:Int) then ak (.fp (xs.getD n.toNat []) 0) else an
 | .sl k' id ver i m,.c (.int _ n)=>if k'=k/\0<=n/\n < (m:Int) then ak (.ptr id ver (i+n.toNat) 0) else an
 | _,_=>an
def OC (n k:Nat):AV->AV->Option AV
 | .fp cs o,.c (.int _ i)=>if 0<=i/\i < (n:Int) then ak (.fp cs (o+i.toNat*k)) else an
 | .ptr id ver e o,.c (.int _ i)=>if 0<=i/\i < (n:Int) then ak (.ptr id ver e (o+i.toNat*k)) else an
 | _,_=>an
def OB (n k:Nat) (ag:Bool):AV->AV->Option AV
 | .agg cs,.c (.int _ i)=>if 0<=i/\i < (n:Int) then fm ag cs (i.toNat*k) k else an
 | _,_=>an
def intOf?:AV->Option Int
 | .c (.int _ n)=>ak n
 | _=>an
def BX:AV->Option Nat
 | .nil=>ak 0
 | .seq _ _ xs=>ak (ae xs)
 | .sl _ _ _ _ n=>ak n
 | .c (.slice _ 0 _)=>ak 0
 | _=>an
def bM (e:Env) (m:Nat) (d:Nat):Option Opd->Option Nat
 | none=>ak d
 | some x=>match intOf? (x.ev e) with
  | some n=>if 0<=n/\n<=(m:Int) then ak n.toNat else an
  | none=>an
def lq (e:Env) (lo hi mx:Option Opd) (k:Nat):AV->Option AV
 | .nil =>
  match mx with
  | none=>(bM e 0 0 hi).bind fun h=>(bM e h 0 lo).bind fun _=>ak .nil
  | some _=>an
 | .seq k' f xs=>if k'=k then
  match mx with
  | none=>(bM e (ae xs) (ae xs) hi).bind fun h=>(bM e h 0 lo).bind fun l=>ak (.seq k (f&&decide (h=ae xs)) ((xs.take h).drop l))
  | some m=>(bM e (ae xs) 0 (ak m)).bind fun m=>(bM e m 0 hi).bind fun h=>(bM e h 0 lo).bind fun l=>if hi.isSome then ak (.seq k (decide (h=m)) ((xs.take h).drop l)) else an
  else an
 | .sl k' id ver i n =>
  match mx with
  | none=>if k'=k then (bM e n n hi).bind fun h=>(bM e h 0 lo).bind fun l=>ak (.sl k id ver (i+l) (h - l)) else an
  | some m=>if k'=k then (bM e n 0 (ak m)).bind fun m=>(bM e m 0 hi).bind fun h=>(bM e h 0 lo).bind fun _=>if hi.isSome then ak .aY else an else an
 | _=>an
def RT:List AV->Option Int
 | []=>an
 | [a]=>intOf? a
 | a::r=>(intOf? a).bind fun x=>(RT r).bind fun y=>ak (max x y)
def D9 (ks:List Bool) (cs ds:List AV):Option Bool :=
 match ks,cs,ds with
 | [],[],[]=>ak aq
 | false::ks,.c (.int k x)::r,.c (.int k' y)::s=>if k=k' then (D9 ks r s).map (decide (x=y)&&·) else an
 | true::ks,.c (.bool x)::r,.c (.bool y)::s=>(D9 ks r s).map ((x==y)&&·)
 | _,_,_=>an
def pv (o:AOp) (e:Env):Option AV :=
 match o with
 | .mv x=>ak (x.ev e)
 | .pick c a b=>match c.ev e with
  | .c (.bool t)=>ak (if t then a.ev e else b.ev e)
  | _=>an
 | .box x=>if (x.ev e).cells.all cN then ak (.fp (x.ev e).cells 0) else an
 | .bd z parts=>if parts.all (fun p=>eC (p.2.2.ev e)) then (lJ z (parts.map fun p=>(p.1,p.2.1,p.2.2.ev e))).map .agg else an
 | .bs k parts=>if parts.all (fun p=>(p.ev e).cells.all cN&&(p.ev e).cells.length==k) then ak (.seq k aq (parts.map fun p=>(p.ev e).cells)) else an
 | .nc x=>match x.ev e with
  | .ptr id v i o=>ak (.ptr id v i o)
  | .fp cs o=>ak (.fp cs o)
  | .fn f a b=>ak (.fn f a b)
  | _=>an
 | .bin op x y=>iG op (x.ev e) (y.ev e)
 | .beq neg x y=>match x.ev e,y.ev e with
  | .c (.bool x),.c (.bool y)=>ak (.c (.bool (neg ^^ (x==y))))
  | _,_=>an
 | .un op x=>Pe op (x.ev e)
 | .cv k x=>match x.ev e with
  | .c (.int _ n)=>ak (.c (.int k (k.wrap n)))
  | _=>an
 | .mf f a b=>ak (.fn f (a.map (·.ev e)) (b.map (·.ev e)))
 | .A9 k z l=>match l.ev e with
  | .c (.int .i64 n)=>if (0<=n/\n<=4294967296)/\z.all cN=aq/\ae z=k then ak (.seq k aq (aA n.toNat z)) else an
  | _=>an
 | .nj x lo hi mx k=>lq e lo hi mx k (x.ev e)
 | .fa x off=>match x.ev e with
  | .ptr id v i o=>ak (.ptr id v i (o+off))
  | .fp cs o=>ak (.fp cs (o+off))
  | _=>an
 | .fd x off ag k=>match x.ev e with
  | .agg cs=>fm ag cs off k
  | _=>an
 | .vX x i k=>BW k (x.ev e) (i.ev e)
 | .CF x i n k=>OC n k (x.ev e) (i.ev e)
 | .ix x i n k ag=>OB n k ag (x.ev e) (i.ev e)
 | .ex x i=>match x.ev e with
  | .bI vs=>vs[i]?
  | _=>an
 | .len x=>(BX (x.ev e)).map fun n => .c (.int .i64 (n:Int))
 | .mx l=>match (l.map (Opd.ev e):List AV) with
  | [.c (.int k x),.c (.int _ y)]=>ak (.c (.int k (if y>x then y else x)))
  | _=>an
 | .mn l=>match (l.map (Opd.ev e):List AV) with
  | [.c (.int k x),.c (.int _ y)]=>ak (.c (.int k (if y < x then y else x)))
  | _=>an
 | .fj neg x=>match x.ev e with
  | .nil=>ak (.c (.bool (neg ^^ aq)))
  | .seq _ _ (_::_)=>ak (.c (.bool neg))
  | .c (.slice a 0 _)=>ak (.c (.bool (neg ^^ a.isNone)))
  | _=>an
 | .xB x ag k=>match x.ev e with
  | .fp cs o=>fm ag cs o k
  | _=>an
 | .AN eX x=>match x.ev e with
  | .c (.int _ n)=>if 0<=n then (eX[n.toNat]?).map fun (b:Nat) => .c (.int .u8 (b:Int)) else an
  | _=>an
 | .Cr neg ks x y=>match x.ev e,y.ev e with
  | .agg cs,.agg ds=>(D9 ks cs ds).map fun b => .c (.bool (neg ^^ b))
  | _,_=>an
 | _=>an
def aH (H:aE) (id ver:Nat):Option bC :=
 match H[id]? with
 | some (ak ob)=>if ob.ver=ver then ak ob else an
 | _=>an
def ik (k:Nat) (H:aE):AV->Option (List (List AV))
 | .nil=>ak []
 | .seq k' _ xs=>if k'=k then ak xs else an
 | .sl k' id ver i n=>(aH H id ver).bind fun ob=>if k'=k/\ob.k=k/\i+n<=ae ob.xs then ak ((ob.xs.drop i).take n) else an
 | .c (.slice _ 0 _)=>ak []
 | _=>an
def hU (k:Nat) (H:aE) (x:AV) (ys:List (List AV)):Option (AV × aE) :=
 if ys.isEmpty then (match x with
  | .nil=>ak (x,H)
  | .seq _ _ _=>ak (x,H)
  | .sl _ _ _ _ _=>ak (x,H)
  | _=>an) else
 match x with
 | .nil=>if ae ys<=4294967296 then ak (.sl k (ae H) 0 0 (ae ys),H++[ak ⟨k,0,ys⟩]) else an
 | .seq k' aq xs=>if k'=k/\ae xs+ae ys<=4294967296 then ak (.sl k (ae H) 0 0 (ae xs+ae ys),H++[ak ⟨k,0,xs++ys⟩]) else an
 | .sl k' id ver i n=>(aH H id ver).bind fun ob =>
  if k'=k/\i+n=ae ob.xs then
   if n+ae ys<=4294967296/\ob.k=k then ak (.sl k id (ver+1) 0 (n+ae ys),H.set id (ak ⟨k,ver+1,ob.xs.drop i++ys⟩)) else an
  else if k'=k/\i+n+ae ys<=ae ob.xs/\ob.k=k then
   ak (.sl k id ver i (n+ae ys),H.set id (ak ⟨k,ver,ob.xs.take (i+n)++ys++ob.xs.drop (i+n+ae ys)⟩))
  else an
 | _=>an
def hv (o:AOp) (e:Env) (H:aE):Option (AV × aE) :=
 match o with
 | .new k z=>if ae z=k/\z.all bh=aq then ak (.ptr (ae H) 0 0 0,H++[ak ⟨k,0,[z]⟩]) else an
 | .nz x=>if (x.ev e).cells.all bh then ak (.ptr (ae H) 0 0 0,H++[ak ⟨(x.ev e).cells.length,0,[(x.ev e).cells]⟩]) else an
 | .qe k parts=>if parts.all (fun p=>(p.ev e).cells.all bh&&(p.ev e).cells.length==k) then
   ak (.sl k (ae H) 0 0 (ae parts),H++[ak ⟨k,0,parts.map fun p=>(p.ev e).cells⟩]) else an
 | .ld a ag k=>match a.ev e with
  | .fp cs o=>(fm ag cs o k).map (·,H)
  | .ptr id ver i o=>(aH H id ver).bind fun ob=>(ob.xs[i]?).bind fun x=>(fm ag x o k).map (·,H)
  | _=>an
 | .st a v k=>match a.ev e with
  | .ptr id ver i o=>(aH H id ver).bind fun ob=>(ob.xs[i]?).bind fun x =>
   if (v.ev e).cells.length=k/\o+k<=ae x/\(v.ev e).cells.all bh=aq then ak (.aY,H.set id (ak ⟨ob.k,ver,ob.xs.set i (eN x o (v.ev e).cells)⟩)) else an
  | _=>an
 | .mk k z l c=>match l.ev e,c.ev e with
  | .c (.int .i64 n),.c (.int .i64 m)=>if 0<=n/\n<=m/\m<=4294967296/\ae z=k/\z.all bh=aq then ak (.sl k (ae H) 0 0 n.toNat,H++[ak ⟨k,0,aA n.toNat z⟩]) else an
  | _,_=>an
 | .nj x lo hi an k=>match x.ev e with
  | .sl k' id ver i n=>(aH H id ver).bind fun ob=>if k'=k then (bM e (ae ob.xs - i) n hi).bind fun h=>(bM e h 0 lo).bind fun l=>ak (.sl k id ver (i+l) (h - l),H) else an
  | _=>an
 | .app x y k=>(ik k H (y.ev e)).bind fun ys=>hU k H (x.ev e) ys
 | .mM x n k z=>match n.ev e with
  | .c (.int .i64 m)=>if 0<=m/\m<=4294967296/\ae z=k/\z.all bh=aq then hU k H (x.ev e) (aA m.toNat z) else an
  | _=>an
 | .tJ x y k=>match x.ev e,y.ev e with
  | .sl k' id ver i n,.seq k2 _ ys=>(aH H id ver).bind fun ob=>if k'=k/\k2=k/\ob.k=k/\i+n<=ae ob.xs/\ae ys<=n then
    ak (.aY,H.set id (ak ⟨ob.k,ver,ob.xs.take i++ys++ob.xs.drop (i+ae ys)⟩)) else an
  | _,_=>an
 | .q9 x z=>match x.ev e with
  | .nil=>ak (.aY,H)
  | .sl _ id ver i n=>(aH H id ver).bind fun ob=>if i+n<=ae ob.xs/\ae z=ob.k/\z.all bh=aq then
    ak (.aY,H.set id (ak ⟨ob.k,ver,ob.xs.take i++aA n z++ob.xs.drop (i+n)⟩)) else an
  | _=>an
 | _=>an
def eO (o:AOp) (e:Env) (H:aE):Option (AV × aE) :=
 match pv o e with
 | some v=>ak (v,H)
 | none=>hv o e H
def j7 (I:Imm) (b0:Nat) (c:Array Value):Imm:=fun b o=>if b=b0 then c[o]? else I b o
def ey (β:Bet) (id ver:Nat) (B:Blk):Bet:=fun i v=>if i=id/\v=ver then ak B else β i v
def World.iL (w:World) (c:Array Value) (E:TypeId):World:={w with heap:=w.heap.push (.cells c E)}
def sf.xF (h:sf I w) (x:w.heap.size<=b) (o:Nat):I b o=an:=by
 cases e:I b o with
 | none=>rfl
 | some v =>
  have ⟨c,E,y,k,_⟩:=h b o v e;simp[abB x] at k
def Ci (h:sf I w) (c:Array Value):I.le (j7 I w.heap.size c):=by
 intro b o v e;unfold j7;split
 .rename_i k;subst k;rw[h.xF (WY _)] at e;simp at e
 .exact e
def k9 (w:World) (o:Obj) (h:b < w.heap.size):(w.heap.push o)[b]?=w.heap[b]?:=by rw[Array.getElem?_push,WX aD]
def gJ {w:World} {b:Nat} {o:Obj} (h:w.heap[b]?=ak o):b < w.heap.size:=by
 rcases Xe b w.heap.size with k | k
 .exact k
 .simp[abB k] at h
def dG.aR (h:dG I β w B ob) (q:I.le y) (t:β.le H)
  (s:B.eS=ar->w'.heap[B.b]?=w.heap[B.b]?) (r:B.eS=ar->∀o,y B.b o=I B.b o):dG y H w' B ob:=by
 unfold dG at *;split
 .rename_i x;simpa[x] using h
 .rename_i x;have k:B.eS=ar:=bk x;rw[WX x] at h;have ⟨c,E,f,g,l,m,n,p⟩:=h;exact ⟨c,E,by rw[s k,f],fun o=>by rw[r k,g],l,m,n,fun i j a v e z=>(p i j a v e z).mono q t⟩
def dG.lt (h:dG I β w B ob) (x:B.eS=ar):B.b < w.heap.size:=by unfold dG at h;rw[WX (by simp[x])] at h;have ⟨c,E,k,_⟩:=h;exact gJ k
def Own.lt (s:Sim I β H w) (h:Own β H b):b < w.heap.size:=by obtain ⟨c,e,B,x,y,z,rfl⟩:=h;have ⟨f,k,g,a⟩:=s.obj c e x;rw[y] at k;cases k;exact a.lt z
def Own.HM (s:Sim I β H w) (h:Own β H b) (o:Nat):I b o=an:=by obtain ⟨f,g,B,y,z,a,rfl⟩:=h;have ⟨i,x,j,k⟩:=s.obj f g y;rw[z] at x;cases x;unfold dG at k;rw[WX (by simp[a])] at k;have ⟨c,E,_,e,_⟩:=k;exact e o
def Sim.frozen (s:Sim I β H w) (c:Array Value) (E:TypeId) :
  Sim (j7 I w.heap.size c) β H (World.iL w c E)/\Ext I β H w (j7 I w.heap.size c) β H (World.iL w c E):=by
 have k:=Ci s.ef c;refine ⟨⟨?_,?_,s.inj,s.gw,s.ver⟩,⟨k,.refl _,WY _,by simp[World.iL],rfl,rfl,rfl,?_,fun b h => .inl h⟩⟩
 .intro b o v e;unfold j7 at e;split at e
  .rename_i a;subst a;exact ⟨c,E,(0,0),by show (w.heap.push (Obj.cells c E))[w.heap.size]?=_;simp,e⟩
  .have ⟨i,g,j,x,y⟩:=s.ef b o v e;exact ⟨i,g,j,by simp only[World.iL];rw[k9 _ _ (gJ x),x],y⟩
 .intro l m h;have ⟨B,x,y,z⟩:=s.obj l m h;refine ⟨B,x,y,z.aR k (.refl _) (fun f=>?_) (fun f o=>?_)⟩
  .exact k9 _ _ (z.lt f)
  .have:=z.lt f;simp[j7,show B.b≠w.heap.size by omega]
 .intro b a _;exact ⟨k9 _ _ a,fun o=>by simp[j7,show b≠w.heap.size by omega]⟩
def pM {β:Bet} {id ver:Nat} (h:β id ver=an) (B:Blk):β.le (ey β id ver B):=by
 intro i v x e;unfold ey;split
 .rename_i k;obtain ⟨rfl,rfl⟩:=k;rw[h] at e;simp at e
 .exact e
def Sim.px {I:Imm} {β:Bet} {H:aE} {w:World} (s:Sim I β H w) {id ver:Nat} (h:ae H<=id):β id ver=an:=by
 cases e:β id ver with
 | none=>rfl
 | some B=>exact absurd (s.gw id ver B e) aD
def Sim.live (s:Sim I β H w) (ob:bC) (B:Blk) (V:B.k=ob.k) (hv:ob.ver=0)
  (hs:w.heap.size<=w'.heap.size) (A:∀b,b < w.heap.size->w'.heap[b]?=w.heap[b]?) (ho:w'.os=w.os) (ht:w'.tape=w.tape) (hp:w'.output=w.output)
  (D:B.eS=ar->w.heap.size<=B.b) (J:dG I (ey β (ae H) 0 B) w' B ob) :
  Sim I (ey β (ae H) 0 B) (H++[ak ob]) w'/\Ext I β H w I (ey β (ae H) 0 B) (H++[ak ob]) w':=by
 have W:=pM (s.px (ver:=0) (WY (ae H))) B;have y:∀(id:Nat) x,(H++[ak ob])[id]?=ak (ak x)->(id < ae H/\H[id]?=ak (ak x))\/(id=ae H/\x=ob):=by
  intro id x h;rcases Xe id (ae H) with z | z
  .rw[Xc z] at h;exact .inl ⟨z,h⟩
  .rw[Xk z] at h;have f:id - ae H=0:=by
    rcases Nat.eq_zero_or_pos (id - ae H) with j | j
    .exact j
    .have:([ak ob]:aE)[id - ae H]?=an:=cE;rw[this] at h;simp at h
   rw[f] at h;simp at h;exact .inr ⟨aD,h.symm⟩
 have a:∀id ver,id < ae H->ey β (ae H) 0 B id ver=β id ver:=by intro id ver h;unfold ey;rw[WX];omega
 have g:ey β (ae H) 0 B (ae H) 0=ak B:=by simp[ey]
 have l:∀(id:Nat) x i,H[id]?=ak (ak x)->β id x.ver=ak i->i.eS=ar->i.b < w.heap.size:=by intro id x i h z f;have ⟨T,j,_,C⟩:=s.obj id x h;rw[z] at j;cases j;exact C.lt f
 refine ⟨⟨?_,?_,?_,?_,?_⟩,⟨.refl _,W,aK,hs,ho,ht,hp,fun b F _=>⟨A b F,fun _=>rfl⟩,?_⟩⟩
 .intro b o v e;have ⟨c,E,U,z,f⟩:=s.ef b o v e;exact ⟨c,E,U,by rw[A b (gJ z),z],f⟩
 .intro id x h;rcases y id x h with ⟨z,f⟩ | ⟨rfl,rfl⟩
  .have ⟨i,j,C,S⟩:=s.obj id x f;exact ⟨i,by rw[a _ _ z,j],C,S.aR (.refl _) W (fun hn=>A _ (S.lt hn)) (fun _ _=>rfl)⟩
  .exact ⟨B,hv ▸ g,V,J⟩
 .intro id m p q N O z f K X L M F;rcases y id p z with ⟨r,t⟩ | ⟨rfl,rfl⟩<;>rcases y m q f with ⟨P,R⟩ | ⟨rfl,rfl⟩
  .rw[a _ _ r] at K;rw[a _ _ P] at X;exact s.inj id m p q N O t R K X L M F
  .rw[a _ _ r] at K;rw[hv,g] at X;cases X;have:=l id p N t K L;have:=D M;omega
  .rw[a _ _ P] at X;rw[hv,g] at K;cases K;have:=l m q O R X M;have:=D L;omega
  .rfl
 .intro id ver i h;unfold ey at h;split at h
  .rename_i A;simp;omega
  .have:=s.gw id ver i h;simp;omega
 .intro id x n h G;rcases y id x h with ⟨r,t⟩ | ⟨rfl,rfl⟩
  .rw[a _ _ r];exact s.ver id x n t G
  .unfold ey;rw[WX aD];exact s.px (WY _)
 .intro b h;obtain ⟨id,x,i,z,f,j,rfl⟩:=h;rcases y id x z with ⟨r,t⟩ | ⟨rfl,rfl⟩
  .rw[a _ _ r] at f;exact .inl ⟨id,x,i,t,f,j,rfl⟩
  .rw[hv,g] at f;cases f;exact .inr (D j)
def yu (H:aE) (id j:Nat) (x:Option bC):(H.set id x)[j]?=if id=j then (if j < ae H then ak x else an) else H[j]?:=by
 rw[abo];split
 .rename_i h;subst h;split<;>simp_all
 .rfl
def Sim.rU {I:Imm} {β:Bet} {H:aE} {w w':World} (s:Sim I β H w) {id:Nat} {ob:bC} {B:Blk} (z:H[id]?=ak (ak ob)) (G:β id ob.ver=ak B)
  (a:bC) (K:Blk) (W:Bet) (T:W=β/\a.ver=ob.ver/\K=B\/W=ey β id (ob.ver+1) K/\a.ver=ob.ver+1)
  (hk:K.k=a.k)
  (hs:w.heap.size<=w'.heap.size) (hh:∀b,b < w.heap.size->(B.eS=aq\/b≠B.b)->w'.heap[b]?=w.heap[b]?) (ho:w'.os=w.os) (ht:w'.tape=w.tape) (hp:w'.output=w.output)
  (hB:K.eS=ar->(B.eS=ar/\K.b=B.b)\/w.heap.size<=K.b) (a5:dG I W w' K a) :
  Sim I W (H.set id (ak a)) w'/\Ext I β H w I W (H.set id (ak a)) w':=by
 have a3:=(W9.1 z).1;have X:β id (ob.ver+1)=an:=s.ver id ob _ z aD;have P:β.le W:=by
  rcases T with ⟨rfl,_,_⟩ | ⟨rfl,_⟩
  .exact .refl _
  .exact pM X _
 have x:∀i v,i≠id->W i v=β i v:=by
  intro i v hi;rcases T with ⟨rfl,_,_⟩ | ⟨rfl,_⟩
  .rfl
  .unfold ey;rw[WX];simp[hi]
 have q:W id a.ver=ak K:=by
  rcases T with ⟨rfl,y,rfl⟩ | ⟨rfl,y⟩
  .rw[y];exact G
  .rw[y];simp[ey]
 have l:∀(i:Nat) o,(H.set id (ak a))[i]?=ak (ak o)->(i≠id/\H[i]?=ak (ak o))\/(i=id/\o=a):=by
  intro i o h;rw[yu] at h;split at h
  .rename_i e;subst e;rw[W0 a3] at h;simp at h;exact .inr ⟨rfl,h.symm⟩
  .rename_i e;exact .inl ⟨fun e'=>e e'.symm,h⟩
 have p:∀(i:Nat) o m,i≠id->H[i]?=ak (ak o)->β i o.ver=ak m->m.eS=ar->m.b < w.heap.size/\(B.eS=aq\/m.b≠B.b):=by
  intro i o m hi h y f;have ⟨U,r,_,N⟩:=s.obj i o h;rw[y] at r;cases r;refine ⟨N.lt f,?_⟩;cases t:B.eS with
  | true=>exact .inl rfl
  | false=>exact .inr (fun e=>hi (s.inj i id o ob m B h z y G f t e))
 have a6:B.eS=ar->B.b < w.heap.size:=by intro h;have ⟨U,r,_,N⟩:=s.obj id ob z;rw[G] at r;cases r;exact N.lt h
 have O:B.eS=ar->∀o,I B.b o=an:=by intro h o;exact Own.HM s ⟨id,ob,B,z,G,h,rfl⟩ o
 refine ⟨⟨?_,?_,?_,?_,?_⟩,⟨.refl _,P,aK,hs,ho,ht,hp,?_,?_⟩⟩
 .intro b o v e;have ⟨c,E,fz,y,f⟩:=s.ef b o v e;refine ⟨c,E,fz,?_,f⟩;rw[hh b (gJ y) ?_,y];cases t:B.eS with
  | true=>exact .inl rfl
  | false=>exact .inr (fun e'=>by rw[e',O t] at e;simp at e)
 .intro i o h;rcases l i o h with ⟨y,f⟩ | ⟨rfl,rfl⟩
  .have ⟨m,r,N,h5⟩:=s.obj i o f;exact ⟨m,by rw[x _ _ y,r],N,h5.aR (.refl _) P (fun S=>hh _ (p i o m y f r S).1 (p i o m y f r S).2) (fun _ _=>rfl)⟩
  .exact ⟨K,q,hk,a5⟩
 .intro i j o1 o2 B1 B2 y f D F n1 n2 C;rcases l i o1 y with ⟨J,R⟩ | ⟨rfl,rfl⟩<;>rcases l j o2 f with ⟨V,c2⟩ | ⟨rfl,rfl⟩
  .rw[x _ _ J] at D;rw[x _ _ V] at F;exact s.inj i j o1 o2 B1 B2 R c2 D F n1 n2 C
  .rw[x _ _ J] at D;rw[q] at F;cases F;have:=p i o1 B1 J R D n1;rcases hB n2 with ⟨L,M⟩ | g
   .rcases this.2 with A | A
    .simp[L] at A
    .exact absurd (C.trans M) A
   .omega
  .rw[x _ _ V] at F;rw[q] at D;cases D;have:=p j o2 B2 V c2 F n2;rcases hB n1 with ⟨L,M⟩ | g
   .rcases this.2 with A | A
    .simp[L] at A
    .exact absurd (C.symm.trans M) A
   .omega
  .rfl
 .intro i v m h;rw[Xa];rcases Xe i (ae H) with y | y
  .exact y
  .rw[x _ _ aD] at h;exact s.gw i v m h
 .intro i o n h S;rcases l i o h with ⟨y,f⟩ | ⟨rfl,rfl⟩
  .rw[x _ _ y];exact s.ver i o n f S
  .rcases T with ⟨rfl,y,_⟩ | ⟨rfl,y⟩
   .exact s.ver i ob n z aD
   .unfold ey;rw[WX aD];exact s.ver i ob n z aD
 .intro b a0 a4;refine ⟨hh b a0 ?_,fun _=>rfl⟩;cases t:B.eS with
  | true=>exact .inl rfl
  | false=>exact .inr (fun e=>a4 ⟨id,ob,B,z,G,t,e.symm⟩)
 .intro b h;obtain ⟨i,o,m,y,f,r,rfl⟩:=h;rcases l i o y with ⟨J,R⟩ | ⟨rfl,rfl⟩
  .rw[x _ _ J] at f;exact .inl ⟨i,o,m,R,f,r,rfl⟩
  .rw[q] at f;cases f;rcases hB r with ⟨L,M⟩ | g
   .exact .inl ⟨i,ob,B,z,G,L,M.symm⟩
   .exact .inr g
def DT:Value->Value->Bool
 | .bool a,.bool b=>a==b
 | .int k n,.int k' n'=>decide (k=k')&&decide (n=n')
 | .string a,.string b=>decide (a=b)
 | .pointer an,.pointer an=>aq
 | .nilFunc,.nilFunc=>aq
 | .nilIface,.nilIface=>aq
 | _,_=>ar
def uJ:Value->AV->Bool
 | .slice an 0 0,.nil=>aq
 | v,.c u=>isAtom u&&DT v u
 | _,_=>ar
def mN:List Value->List AV->Bool
 | [],[]=>aq
 | v::r,a::s=>uJ v a&&mN r s
 | _,_=>ar
def BP:Value->AV->Bool
 | .agg vs,.agg cs=>mN vs.toList cs
 | v,a=>uJ v a
def cT:Operand->Opd->Bool
 | .tmp t,.t n=>t==n
 | .const v,.k a=>BP v a
 | .func f,.k (.fn g [] [])=>f==g
 | _,_=>ar
def iN:List Operand->List Opd->Bool
 | [],[]=>aq
 | x::r,y::s=>cT x y&&iN r s
 | _,_=>ar
def kN:Option Operand->Option Opd->Bool
 | none,an=>aq
 | some x,ak y=>cT x y
 | _,_=>ar
section
variable (P:Program)
def du (t:TypeId):Option Nat:=(P.info? t).map (·.size)
def JZ (t:TypeId):Option Nat:=(P.info? t).map (·.bytes)
def gi (t:TypeId):Option Bool :=
 match P.underlying t with
 | some (.struct _) | some (.array _ _)=>ak aq
 | some _=>ak ar
 | none=>an
def mH (t:TypeId) (z:List AV):Bool :=
 match (P.info? t).bind (·.zero) with
 | some v=>mN v.cells.toList z
 | none=>ar
def isSlice (t e:TypeId):Bool:=match P.underlying t with | some (.slice e')=>e'==e | _=>ar
def eV (t:TypeId):Option TypeId:=match P.underlying t with | some (.slice e)=>ak e | _=>an
def isBool (t:TypeId):Bool:=match P.underlying t with | some .bool=>aq | _=>ar
def xA (t:TypeId) (k:IntKind):Bool:=match P.underlying t with | some (.int k')=>decide (k'=k) | _=>ar
def yq (t:TypeId) (f:Nat):Option Field:=match P.underlying t with | some (.struct fs)=>fs[f]? | _=>an
def DB (t:TypeId):Option (Nat × TypeId):=match P.underlying t with | some (.array n e)=>ak (n,e) | _=>an
def oy (fields:Array Field):List (Nat × Operand)->List (Nat × Nat × Opd)->Bool
 | [],[]=>aq
 | (i,x)::r,(o,k,y)::s=>(match fields[i]? with | some f=>f.offset==o&&du P f.type==ak k | none=>ar)&&cT x y&&oy fields r s
 | _,_=>ar
def mY (size:Nat):List (Nat × Operand)->List (Nat × Nat × Opd)->Bool
 | [],[]=>aq
 | (i,x)::r,(o,k,y)::s=>i*size==o&&size==k&&cT x y&&mY size r s
 | _,_=>ar
def NI (fields:Array Field):Bool:=fields.all fun f=>(du P f.type).isSome
def kY:Nat->List (Nat × Operand)->List Opd->Bool
 | _,[],[]=>aq
 | n,(i,x)::r,y::s=>i==n&&cT x y&&kY (n+1) r s
 | _,_,_=>ar
def iJ {α:Type} (o:Option α) (f:α->Bool):Bool:=match o with | some a=>f a | none=>ar
def iY (e:TypeId) (k m:Nat):Bool :=
 du P e==ak k&&decide (0 < k)&&iJ (JZ P e) (fun n=>decide (0 < n/\n<=m))&&iJ ((P.info? e).bind (·.zero)) (fun v=>v.cells.size==k)
def yC:BinOp->Bool->Bool
 | .eql,ar=>aq
 | .neq,aq=>aq
 | _,_=>ar
def Jb:Operand->Bool
 | .const (.slice an 0 0)=>aq
 | _=>ar
def ym (c:Call) (f:FuncId):Bool:=match c.callee with | .value (.func g)=>g==f | _=>ar
def BM (c:Call) (x:Opd):Bool:=match c.callee with | .value y=>cT y x | _=>ar
def gR (c:Call) (b:Builtin):Bool:=match c.callee,b with
 | .builtin .len,.len=>aq
 | .builtin .append,.append=>aq
 | .builtin .max,.max=>aq
 | .builtin .min,.min=>aq
 | .builtin .clear,.clear=>aq
 | .builtin .copy,.copy=>aq
 | _,_=>ar
def jA (c:Call) (i:Nat):Option TypeId:=(c.argTypes[i]?).bind (eV P)
end
def AI (P:Program) (g:TypeId->Option (List Bool)):List Field->Nat->Option (List Bool)
 | [],_=>ak []
 | f::r,off=>if f.name≠ "_"/\f.offset=off then (g f.type).bind fun ks=>if du P f.type=ak (ae ks)/\ks≠[] then (AI P g r (off+ae ks)).map (ks++·) else an else an
def lK (P:Program):Nat->TypeId->Option (List Bool)
 | 0,_=>an
 | d+1,t=>match P.underlying t with
  | some (.int _)=>ak [ar]
  | some .bool=>ak [aq]
  | some (.struct fs)=>if P.stoodInHeld t then an else AI P (lK P d) fs.toList 0
  | some (.array n e)=>(lK P d e).bind fun ks=>if du P e=ak (ae ks)/\ks≠[] then ak (aA n ks).flatten else an
  | _=>an
section
variable (P:Program)
def isStr (t:TypeId):Bool:=match P.underlying t with | some .string=>aq | _=>ar
def JT:Operand->List Nat->Bool
 | .const (.string s),eX=>s.data.toList.map (·.toNat)==eX
 | _,_=>ar
def bB (o:Op) (ao:AOp):Bool :=
 match o,ao with
 | .move x,.mv y=>cT x y
 | .assign x,.mv y=>cT x y
 | .pick c a b,.pick c' a' b'=>cT c c'&&cT a a'&&cT b b'
 | .alloc e,.new k z=>mH P e z&&du P e==ak k
 | .box _ x,.box y=>cT x y
 | .box _ x,.nz y=>cT x y
 | .build t parts,.bd z ps=>mH P t z&&match P.underlying t with
  | some (.struct fs)=>NI P fs&&oy P fs parts.toList ps
  | some (.array _ e)=>match du P e with
   | some k=>mY k parts.toList ps
   | none=>ar
  | _=>ar
 | .buildSlice t len parts,.bs k ps=>iJ (eV P t) (fun e=>iY P e k 65536)&&len==ae ps&&decide (len*k<=2 ^ 24)&&kY 0 parts.toList ps
 | .buildSlice t len parts,.qe k ps=>iJ (eV P t) (fun e=>iY P e k 65536)&&len==ae ps&&decide (len*k<=2 ^ 24)&&kY 0 parts.toList ps
 | .load t a,.ld x ag k=>gi P t==ak ag&&du P t==ak k&&cT a x
 | .load t a,.xB x ag k=>gi P t==ak ag&&du P t==ak k&&cT a x
 | .store t a v,.st x y k=>du P t==ak k&&cT a x&&cT v y
 | .nilCheck x,.nc y=>cT x y
 | .binOp op _ x y _,.bin op' x' y'=>op==op'&&cT x x'&&cT y y'
 | .binOp op t x y _,.beq neg x' y'=>isBool P t&&yC op neg&&cT x x'&&cT y y'
 | .binOp op t x y _,.Cr neg ks x' y'=>gi P t==ak aq&&lK P 8 t==ak ks&&P.eqGuardType P.depth t==ar&&yC op neg&&cT x x'&&cT y y'
 | .binOp op t x y _,.fj neg x'=>(eV P t).isSome&&yC op neg&&cT x x'&&Jb y
 | .unOp op _ x,.un op' x'=>op==op'&&cT x x'
 | .convert s d x,.cv k x'=>(P.underlying s).isSome&&xA P d k&&cT x x'
 | .makeFunc (.func f) a b,.mf f' a' b'=>f==f'&&iN a.toList a'&&iN b.toList b'
 | .makeSlice t l c,.mk k z l' c'=>iJ (eV P t) (fun e=>iY P e k 65536&&mH P e z)&&cT l l'&&cT c c'
 | .makeSlice t l c,.A9 k z l'=>iJ (eV P t) (fun e=>iY P e k 65536&&mH P e z)&&cT l l'&&cT c l'
 | .slice t x lo hi mx,.nj x' lo' hi' mx' k=>iJ (eV P t) (fun e=>du P e==ak k)&&cT x x'&&kN lo lo'&&kN hi hi'&&kN mx mx'
 | .fieldAddr s x f,.fa x' off=>iJ (yq P s f) (fun fl=>fl.offset==off&&iJ (du P fl.type) (· != 0))&&cT x x'
 | .field t x f,.fd x' off ag k=>iJ (yq P t f) (fun fl=>fl.offset==off&&gi P fl.type==ak ag&&du P fl.type==ak k)&&cT x x'
 | .indexAddr t x i,.vX x' i' k=>iJ (eV P t) (fun e=>du P e==ak k)&&cT x x'&&cT i i'
 | .indexAddr t x i,.CF x' i' n k=>iJ (DB P t) (fun me=>me.1==n&&du P me.2==ak k)&&cT x x'&&cT i i'
 | .index t x i,.ix x' i' n k ag=>iJ (DB P t) (fun me=>me.1==n&&du P me.2==ak k&&gi P me.2==ak ag)&&cT x x'&&cT i i'
 | .index t x i,.AN eX i'=>isStr P t&&JT x eX&&cT i i'
 | .extract x i,.ex x' i'=>i==i'&&cT x x'
 | .call c,.call f args=>ym c f&&iN c.args.toList args
 | .call c,.iW f args=>ym c f&&iN c.args.toList args
 | .call c,.jz x args=>BM c x&&iN c.args.toList args
 | .call c,.len x=>gR c .len&&(jA P c 0).isSome&&iN c.args.toList [x]
 | .call c,.app x y k=>gR c .append&&iJ (jA P c 0) (fun e=>iY P e k 4096)&&(jA P c 1).isSome&&iN c.args.toList [x,y]
 | .call c,.mx l=>gR c .max&&iN c.args.toList l
 | .call c,.mn l=>gR c .min&&iN c.args.toList l
 | .call c,.q9 x z=>gR c .clear&&iJ (jA P c 0) (fun e=>mH P e z)&&iN c.args.toList [x]
 | .call c,.tJ x y k=>gR c .copy&&iJ (jA P c 0) (fun e=>iY P e k 4096)&&iN c.args.toList [x,y]
 | .call c,.mM x y k z=>gR c .append&&iJ (jA P c 0) (fun e=>iY P e k 4096&&mH P e z)&&iJ (c.argTypes[1]?) (fun t=>xA P t .i64)&&iN c.args.toList [x,y]
 | _,.bad=>aq
 | _,_=>ar
end
def IH {v u:Value} (h:DT v u=aq):v=u:=by unfold DT at h;split at h<;>simp_all
def wU (h:uJ v a=aq):Rel I β a v:=by
 unfold uJ at h;split at h
 .exact .nil
 .simp only[WZ] at h;rw[IH h.2];exact .c h.1
 .simp at h
def re {I:Imm} {β:Bet}:∀{vs:List Value} {cs:List AV},mN vs cs=aq->ae cs=ae vs/\∀(j:Nat) a v,cs[j]?=ak a->vs[j]?=ak v->Rel I β a v
 | [],[],_=>⟨rfl,fun j a v e=>by simp at e⟩
 | v::r,a::s,h=>by
  simp only[mN,WZ] at h;have ⟨y,z⟩:=re (I:=I) (β:=β) h.2;refine ⟨by simp[y],fun j x b e k=>?_⟩;cases j with
  | zero=>simp at e k;subst e k;exact wU h.1
  | succ j=>simp at e k;exact z j x b e k
 | [],_::_,h=>by simp[mN] at h
 | _::_,[],h=>by simp[mN] at h
def FP (h:BP v a=aq):Rel I β a v:=by
 unfold BP at h;split at h
 .rename_i z y;have ⟨k,x⟩:=re (I:=I) (β:=β) h;have:=Rel.agg k x;simpa using this
 .exact wU h
def D6 {I:Imm} {β:Bet} {e:Env} {a:Act} {x:Operand} {y:Opd} (h:cT x y=aq) (k:∀t,Rel I β (lk t e) (a.tmps.getD t undef)):Rel I β (y.ev e) (a.eval x):=by
 unfold cT at h;split at h
 .simp at h;subst h;exact k _
 .exact FP h
 .simp at h;subst h;exact Rel.fn (I:=I) (β:=β) (vf:=[]) (vc:=[]) rfl rfl (fun j a v e=>by simp at e) (fun j a v e=>by simp at e)
 .simp at h
def bJ (I:Imm) (β:Bet) (as:List AV) (vs:List Value):Prop:=ae as=ae vs/\∀(j:Nat) a v,as[j]?=ak a->vs[j]?=ak v->Rel I β a v
def bJ.nil (I:Imm) (β:Bet):bJ I β [] []:=⟨rfl,fun j a v e=>by simp at e⟩
def bJ.cons (h:Rel I β a v) (t:bJ I β as vs):bJ I β (a::as) (v::vs):=by
 refine ⟨by simp[t.1],fun j x y e k=>?_⟩;cases j with
 | zero=>simp at e k;subst e k;exact h
 | succ j=>simp at e k;exact t.2 j x y e k
def bJ.head (t:bJ I β (a::as) (v::vs)):Rel I β a v:=t.2 0 a v rfl rfl
def bJ.tail (t:bJ I β (a::as) (v::vs)):bJ I β as vs :=
 ⟨by have:=t.1;simpa using this,fun j h x e k=>t.2 (j+1) h x (bk e) (bk k)⟩
def bJ.get {I:Imm} {β:Bet} {as:List AV} {vs:List Value} (t:bJ I β as vs) {j:Nat} {a:AV} (e:as[j]?=ak a):∃v,vs[j]?=ak v/\Rel I β a v:=Rel.cells t.1 t.2 e
def bJ.append (t:bJ I β as vs) (s:bJ I β x y):bJ I β (as++x) (vs++y):=by
 refine ⟨by simp[t.1,s.1],fun j a v e k=>?_⟩;rcases Xe j (ae as) with h | h
 .rw[Xc h] at e;rw[Xc (by rw[<-t.1];exact h)] at k;exact t.2 j a v e k
 .rw[Xk h] at e;rw[Xk (by rw[<-t.1];exact h),<-t.1] at k;exact s.2 _ a v e k
def bJ.take (t:bJ I β as vs) (n:Nat):bJ I β (as.take n) (vs.take n):=by
 refine ⟨by simp[t.1],fun j a v e k=>?_⟩;rw[Zi] at e k;split at e
 .rename_i h;rw[W0 h] at k;exact t.2 j a v e k
 .simp at e
def bJ.drop (t:bJ I β as vs) (n:Nat):bJ I β (as.drop n) (vs.drop n):=by refine ⟨by simp[t.1],fun j a v e h=>?_⟩;rw[YU] at e h;exact t.2 _ a v e h
def fF {I:Imm} {β:Bet} {e:Env} {a:Act} (k:∀t,Rel I β (lk t e) (a.tmps.getD t undef)):∀{xs:List Operand} {ys:List Opd},iN xs ys=aq ->
  bJ I β (ys.map (·.ev e)) (xs.map a.eval)
 | [],[],_ => .nil _ _
 | x::r,y::s,h=>by simp only[iN,WZ] at h;exact .cons (D6 h.1 k) (fF k h.2)
 | [],_::_,h=>by simp[iN] at h
 | _::_,[],h=>by simp[iN] at h
def Rel.cellsOf (h:Rel I β a v) (g:a ≠ .aY):bJ I β a.cells v.cells.toList:=by
 cases h with
 | agg k x=>exact ⟨by simpa[AV.cells,Value.cells] using k,by simpa[AV.cells,Value.cells] using x⟩
 | aY=>exact absurd rfl g
 | c h =>
  have:v.cells=#[v]:=by cases v<;>first | rfl | simp[isAtom] at h
  rw[this];exact .cons (.c h) (.nil _ _)
 | nil=>exact .cons .nil (.nil _ _)
 | gF h=>exact .cons (.gF h) (.nil _ _)
 | seq b k x y z f=>exact .cons (.seq b k x y z f) (.nil _ _)
 | fp b e k x=>exact .cons (.fp b e k x) (.nil _ _)
 | ptr k x=>exact .cons (.ptr k x) (.nil _ _)
 | sl k x y=>exact .cons (.sl k x y) (.nil _ _)
 | rP k x=>exact .cons (.rP k x) (.nil _ _)
 | fn k x y z=>exact .cons (.fn k x y z) (.nil _ _)
 | bI k x=>exact .cons (.bI k x) (.nil _ _)
def Rel.tR (h:Rel I β a v) (k:bh a=aq):v.oneCell'=aq:=by
 cases h<;>first | rfl | (simp[bh] at k;done) | skip
 rename_i h;revert h;cases v<;>simp[isAtom,Value.oneCell']
section runs
variable {P:Program} {w:World}
def run_underlying {t:TypeId} {d:TypeDesc} (h:P.underlying t=ak d):(underlying t).run P w = .ok d w:=by simp[underlying,h]
def run_typeInfo {t:TypeId} {i:TypeInfo} (h:P.info? t=ak i):(typeInfo t).run P w = .ok i w:=by simp[typeInfo,h]
def run_sizeOf {t:TypeId} (h:du P t=ak k):(sizeOf t).run P w = .ok k w:=by unfold du at h;have ⟨i,x,y⟩:=Xi.1 h;simp[sizeOf,run_typeInfo x,y]
def ni {t:TypeId} (h:gi P t=ak b):(isAgg t).run P w = .ok b w:=by
 unfold gi at h;unfold isAgg;split at h
 .rename_i k;simp at h;subst h;simp[run_underlying k]
 .rename_i k;simp at h;subst h;simp[run_underlying k]
 .rename_i d k y z;simp at h;subst h;simp only[Sem.run_bind,run_underlying z,Result.andThen_ok];cases d with
  | struct x=>exact absurd rfl (k x)
  | array n e=>exact absurd rfl (y n e)
  | _=>rfl
 .simp at h
def rN {t:TypeId} (h:mH P t z=aq):∃v,(zeroValue t).run P w = .ok v w/\(P.info? t).bind (·.zero)=ak v/\∀I β,bJ I β z v.cells.toList:=by
 unfold mH at h;split at h
 .rename_i v k;have ⟨i,x,y⟩:=W5.1 k;exact ⟨v,by simp[zeroValue,run_typeInfo x,y],k,fun I β=>re h⟩
 .simp at h
def sQ {t:TypeId} (h:(P.info? t).bind (·.zero)=ak v):(zeroValue t).run P w = .ok v w:=by have ⟨i,k,x⟩:=W5.1 h;simp[zeroValue,run_typeInfo k,x]
def BN {E:TypeId} (h:w.heap[b]?=ak (.cells c E x)) (k:c[o]?=ak v):w.cell? ⟨b,o,an⟩=ak v:=by simp[World.cell?,h,k]
def kp (b o n:Nat):Addr.add ⟨b,o,an⟩ n=⟨b,o+n,an⟩:=by unfold Addr.add;split<;>simp_all
def CV (cs:List Value) (h:∀j v,cs[j]?=ak v->w.cell? ⟨b,o+j,an⟩=ak v):(loadCells ⟨b,o,an⟩ (ae cs)).run P w = .ok cs.toArray w:=by have:=run_loadCells_list (P:=P) (w:=w) ⟨b,o,an⟩ cs (fun j v e=>by rw[kp];exact h j v e);simpa using this
def gA (w:World) (b:Nat) (c:Array Value) (E:TypeId):World:={w with heap:=w.heap.setIfInBounds b (.cells c E (0,0))}
def cn (c:Array Value) (off:Nat):List Value->Array Value
 | []=>c
 | v::r=>cn (c.setIfInBounds off v) (off+1) r
def Ju (c:Array Value) (off:Nat) (vs:List Value):(cn c off vs).size=c.size:=by
 induction vs generalizing c off with
 | nil=>rfl
 | cons v r h=>simp[cn,h]
def z7 (vs:List Value):∀(c:Array Value) (off:Nat),off+ae vs<=c.size->∀j:Nat,(cn c off vs)[j]?=if off<=j/\j < off+ae vs then vs[j - off]? else c[j]?:=by
 induction vs with
 | nil=>intro c off h j;simp only[cn,XQ];rw[WX (by omega)]
 | cons v r y =>
  intro c off h j;simp only[XG] at h;rw[cn,y _ _ cE];by_cases k:off+1<=j/\j < off+1+ae r
  .rw[W0 k,W0 cE];obtain ⟨d,rfl⟩:∃d,j=off+1+d:=⟨j - (off+1),aD⟩;rw[show off+1+d - (off+1)=d by omega,show off+1+d - off=d+1 by omega];simp
  .rw[WX k];by_cases x:j=off
   .subst x;rw[W0 aK];simp[Xl];omega
   .rw[WX cE,Xl,WX (fun e=>x e.symm)]
def vA (w:World) (b:Nat) (c:Array Value) (E:TypeId) (k:Nat):(gA w b c E).heap[k]?=if k=b/\b < w.heap.size then ak (.cells c E (0,0)) else w.heap[k]?:=by
 simp only[gA,Xl];by_cases h:b=k
 .subst h;by_cases x:b < w.heap.size
  .simp[x]
  .simp[x]
 .rw[WX h,WX aD]
def Io {E:TypeId} (h:w.heap[b]?=ak (.cells c E (0,0))) (v:Value):w.setCell ⟨b,o,an⟩ v=gA w b (c.setIfInBounds o v) E:=by
 have k:=gJ h;simp only[World.setCell,gA];congr 1;apply aaH;intro i;rw[Array.getElem?_modify,Xl];split
 .rename_i e;subst e;have x:w.heap[b] = .cells c E (0,0):=by rw[Xp k] at h;exact aby h
  simp[k,x]
 .rfl
def nV {E:TypeId} (vs:List Value):∀(w:World) (c:Array Value) (off i:Nat),w.heap[b]?=ak (.cells c E (0,0))->(∀v,v∈vs->v.oneCell'=aq)->off+i+ae vs<=c.size ->
  (storeCells ⟨b,off,an⟩ vs i).run P w = .ok () (if vs.isEmpty then w else gA w b (cn c (off+i) vs) E):=by
 induction vs with
 | nil=>intro w c off i _ _ _;simp[storeCells]
 | cons v r g =>
  intro w c off i h hv e;simp only[XG] at e;have x:w.cell? ⟨b,off+i,an⟩=ak (c[off+i]'aD):=BN h (Xp _);have z:w.frozen? ⟨b,off+i,an⟩=ar:=by simp[World.frozen?,h]
  have k:=Io (o:=off+i) h v;have y:(w.setCell ⟨b,off+i,an⟩ v).heap[b]?=ak (.cells (c.setIfInBounds (off+i) v) E (0,0)):=by rw[k,vA,W0 ⟨rfl,gJ h⟩]
  have:=g _ _ off (i+1) y (fun u f=>hv u (by simp[f])) cE;simp only[storeCells,Sem.run_bind,kp,run_store P w _ v .plain (hv v aK),x,z,W3,YC,Result.andThen_ok,this,List.isEmpty_cons];congr 1;split
  .rename_i a;simp at a;subst a;simp[cn,k]
  .simp only[k,cn,gA,XY];congr 1;simp
end runs
section
def qj (I:Imm) (β:Bet) (v:AV):Next->Prop
 | .value rv=>Rel I β v rv
 | .skip=>Rel I β v undef
 | _=>False
def Post (I:Imm) (β:Bet) (H:aE) (w:World) (v:AV) (H':aE) (r:Result Next):Prop :=
 ∃nx w' I' β',r = .ok nx w'/\Ext I β H w I' β' H' w'/\Sim I' β' H' w'/\qj I' β' v nx/\∀id ver,H'[id]?=H[id]?->β' id ver=β id ver
def Post.same {I:Imm} {β:Bet} {H:aE} {w:World} {v:AV} {rv:Value} {r:Result Next} (s:Sim I β H w) (h:Rel I β v rv) (e:r = .ok (.value rv) w):Post I β H w v H r :=
 ⟨_,_,_,_,e,.refl _ _ _ _,s,h,fun _ _ _=>rfl⟩
variable {P:Program} {dl:List Deferred} {fo:Option Nat} {N:Nat} {I:Imm} {β:Bet} {e:Env} {H:aE} {a:Act} {w:World} {o:Oper} {v:AV}
def Rel.c7 {u x:Value} (h:Rel I β (.c x) u):u=x/\isAtom x=aq:=by cases h;exact ⟨rfl,‹_›⟩
def bH.x (s:bH dl N I β e H a w) {x:Operand} {y:Opd} (h:cT x y=aq):Rel I β (y.ev e) (a.eval x):=D6 h s.env
def Sj (h:bB P o.op (.mv y)=aq) (s:bH dl N I β e H a w):Post I β H w (y.ev e) H ((execOp a.eval o).run P w):=by
 cases k:o.op<;>simp only[k,bB,W3] at h
 .exact .same s.bm (s.x h) (by simp[execOp,k])
 .exact .same s.bm (s.x h) (by simp[execOp,k])
def O2 (h:bB P o.op (.pick c x y)=aq) (s:bH dl N I β e H a w) (hv:pv (.pick c x y) e=ak v):Post I β H w v H ((execOp a.eval o).run P w):=by
 cases z:o.op<;>simp only[z,bB,W3,WZ] at h;have k:=s.x h.1.1;have b:=s.x h.1.2;have f:=s.x h.2;simp only[pv] at hv;split at hv
 .rename_i t g;rw[g] at k;have k:=k.c7.1;cases t
  .simp at hv;subst hv;exact .same s.bm f (by simp[execOp,z,k,asBool])
  .simp at hv;subst hv;exact .same s.bm b (by simp[execOp,z,k,asBool])
 .simp at hv
def uD {cs:List AV} (h:cs.all cN=aq):cs.all bh=aq:=by rw[W6] at *;intro x k;have:=h x k;simp only[cN,WZ] at this;exact this.1
def nG {x:AV} {p:AV->Bool} (h:x.cells.all p=aq) (k:p .aY=ar):x ≠ .aY:=by rintro rfl;simp[AV.cells,k] at h
def rm (b:cs.all cN=aq) (h:bJ I β cs vs) (s:sf I w) (z:∀(j:Nat) v,vs[j]?=ak v->c[off+j]?=ak v) :
  (∀(j:Nat) a,cs[j]?=ak a->j7 I w.heap.size c w.heap.size (off+j)=ak (vs.getD j undef))/\(∀(j:Nat) a,cs[j]?=ak a->Rel (j7 I w.heap.size c) eW a (vs.getD j undef)):=by
 have key:∀(j:Nat) a,cs[j]?=ak a->∃v,vs[j]?=ak v/\Rel I β a v/\vs.getD j undef=v:=by intro j a e;have ⟨v,k,x⟩:=h.get e;exact ⟨v,k,x,by simp[k]⟩
 refine ⟨fun j a e=>?_,fun j a e=>?_⟩
 .have ⟨v,k,x,y⟩:=key j a e;rw[y];simp only[j7,Yj];exact z j v k
 .have ⟨v,k,x,y⟩:=key j a e;rw[y];have:=dY b e;simp only[cN,WZ] at this;exact (x.b8 this.2 eW).mono (Ci s c) (.refl _)
def PX {x:Opd} (h:bB P o.op (.box x)=aq) (s:bH dl N I β e H a w) (hv:pv (.box x) e=ak v):Post I β H w v H ((execOp a.eval o).run P w):=by
 cases z:o.op<;>simp only[z,bB,W3] at h;rename_i E y;simp only[pv] at hv;split at hv<;>simp at hv;rename_i k;subst hv;have f:=(s.x h).cellsOf (nG k rfl);have ⟨g,i⟩:=s.bm.frozen (a.eval y).cells E;have b:=rm (c:=(a.eval y).cells) (off:=0) k f s.bm.ef (fun j v e=>bk e);refine ⟨.value (.pointer (ak ⟨w.heap.size,0,an⟩)),_,_,_,?_,i,g,?_,fun _ _ _=>rfl⟩
 .simp[execOp,z,Instr.box,newVar,newRow,World.iL]
 .exact Rel.fp (o:=0) (off:=0) (fun j=>(a.eval y).cells.toList.getD j undef) (uD k) b.1 b.2
def Sl (h:bB P o.op (.nc x)=aq) (s:bH dl N I β e H a w) (hv:pv (.nc x) e=ak v):Post I β H w v H ((execOp a.eval o).run P w):=by
 cases z:o.op<;>simp only[z,bB,W3] at h;have k:=s.x h;simp only[pv] at hv;split at hv<;>simp at hv<;>subst hv
 all_goals (rename_i c;rw[c] at k;generalize b:a.eval _=y at k)
 .cases k;exact .same s.bm (.ptr ‹_› ‹_›) (by simp[execOp,z,b])
 .cases k;exact .same s.bm (.fp _ ‹_› ‹_› ‹_›) (by simp[execOp,z,b])
 .cases k;exact .same s.bm (.fn ‹_› ‹_› ‹_› ‹_›) (by simp[execOp,z,b])
def Bs {t:TypeId}:(eqGuard h t x y (.int k m) (.int z n)).run P w = .ok () w:=by unfold eqGuard;cases h<;>rfl
def rM {t:TypeId}:(eqGuard h t x y (.bool m) (.bool n)).run P w = .ok () w:=by unfold eqGuard;cases h<;>rfl
def KF {t:TypeId} (h:iG x (.c (.int k m)) (.c (.int y n))=ak v) :
  ∃rv,(binOp x t (.int k m) (.int y n)).run P w = .ok rv w/\v = .c rv/\isAtom rv=aq:=by
 unfold iG at h;cases x<;>simp only[rO,mi,uG] at h<;>(repeat' split at h)<;>simp at h<;>subst h
 all_goals (subst_vars;refine ⟨_,?_,rfl,rfl⟩)
 all_goals simp[binOp,Op.intArith,Op.intDiv,Op.intBits,Op.intCmp,Op.shift, *]
 all_goals (rw[ZT];simp)
def PW (h:bB P o.op (.bin op x y)=aq) (s:bH dl N I β e H a w) (hv:pv (.bin op x y) e=ak v):Post I β H w v H ((execOp a.eval o).run P w):=by
 cases b:o.op<;>simp only[b,bB,W3,WZ,X2] at h;rename_i l t n p m;obtain ⟨⟨rfl,f⟩,g⟩:=h;have r1:=s.x f;have z:=s.x g;simp only[pv] at hv;generalize x.ev e=A at *;generalize y.ev e=B at *;have k:=hv;unfold iG at k;split at k
 .have r1:=r1.c7.1;have z:=z.c7.1;obtain ⟨rv,i,rfl,j⟩:=KF (P:=P) (w:=w) (t:=t) hv;exact .same s.bm (.c j) (by simp[execOp,b,r1,z,Bs,i])
 .simp at k
def Rel.ot {cs:List AV} {u:Value} (h:Rel I β (.agg cs) u):∃vs:List Value,u = .agg vs.toArray/\bJ I β cs vs:=by cases h;exact ⟨_,rfl,‹_›,‹_›⟩
def Rel.uf {cs:List AV} {u:Value} (h:Rel I β (.bI cs) u):∃vs:List Value,u = .tuple vs.toArray/\bJ I β cs vs:=by cases h;exact ⟨_,rfl,‹_›,‹_›⟩
def Rel.jH {u:Value} (h:Rel I β .nil u):u = .slice an 0 0:=by cases h;rfl
def Rel.tP (h:bJ I β cs vs):Rel I β (.agg cs) (.agg vs.toArray) := .agg h.1 h.2
def Rel.ku {k:Nat} {f:Bool} {xs:List (List AV)} {u:Value} (h:Rel I β (.seq k f xs) u):∃p cap,u = .slice p (ae xs) cap/\(f=aq->cap=ae xs)/\ae xs<=cap /\
  (xs≠[]->∃(b off:Nat) (vs:Nat->Nat->Value),p=ak ⟨b,off,an⟩/\(∀x,x∈xs->ae x=k/\x.all bh=aq)/\(∀i j a,cJ xs i j=ak a->I b (off+i*k+j)=ak (vs i j))/\(∀i j a,cJ xs i j=ak a->Rel I eW a (vs i j))):=by
 cases h
 .exact ⟨_,_,rfl,bk (‹_›),aK,fun h=>absurd rfl h⟩
 .rename_i b off cap vs hR g c y z;exact ⟨_,_,rfl,z,g,fun _=>⟨b,off,vs,rfl,c,y,hR⟩⟩
def Rel.kj {k id ver i n:Nat} {u:Value} (h:Rel I β (.sl k id ver i n) u):∃B p,β id ver=ak B/\B.k=k/\u = .slice p n (B.cap - i)/\i+n<=B.cap /\
  ((B.eS=ar/\p=ak ⟨B.b,B.off+i*B.k,an⟩)\/(n=0/\i=B.cap)):=by
 cases h
 .exact ⟨_,_,‹_›,rfl,rfl,‹_›,.inl ⟨‹_›,rfl⟩⟩
 .rename_i B a y x;exact ⟨B,a,y,rfl,by simp[x],aD,.inr ⟨rfl,x⟩⟩
def Rel.AL {cs:List AV} {o:Nat} {u:Value} (h:Rel I β (.fp cs o) u):∃(b off:Nat) (vs:Nat->Value),u = .pointer (ak ⟨b,off+o,an⟩)/\cs.all bh=aq/\(∀j a,cs[j]?=ak a->I b (off+j)=ak (vs j))/\(∀j a,cs[j]?=ak a->Rel I eW a (vs j)):=by cases h;exact ⟨_,_,_,rfl,‹_›,‹_›,‹_›⟩
def Rel.qN {id ver i o:Nat} {u:Value} (h:Rel I β (.ptr id ver i o) u):∃B,β id ver=ak B/\B.eS=ar/\u = .pointer (ak ⟨B.b,B.off+i*B.k+o,an⟩):=by cases h;exact ⟨_,‹_›,‹_›,rfl⟩
def run_equal_bool {t:TypeId} (h:P.underlying t=ak .bool) (p q:Bool):(Op.equal t (.bool p) (.bool q)).run P w = .ok (p==q) w:=by unfold Op.equal;rw[show Op.maxDepth=9999+1 from rfl];unfold Op.equalIn;simp only[Sem.run_bind,run_underlying h,Result.andThen_ok,Sem.run_pure]
def PV (h:bB P o.op (.beq neg x y)=aq) (s:bH dl N I β e H a w) (hv:pv (.beq neg x y) e=ak v):Post I β H w v H ((execOp a.eval o).run P w):=by
 cases b:o.op<;>simp only[b,bB,W3,WZ] at h;rename_i op t X W K;have ⟨⟨⟨i,z⟩,l⟩,m⟩:=h;have r1:=s.x l;have j:=s.x m;simp only[pv] at hv;split at hv
 .rename_i p q n r;rw[n] at r1;rw[r] at j;have f:=r1.c7.1;have g:=j.c7.1;have k:∃d,P.underlying t=ak d/\d = .bool:=by unfold isBool at i;split at i<;>simp_all
  obtain ⟨_,k,rfl⟩:=k;unfold yC at z;split at z<;>simp at z hv<;>subst hv
  .exact .same s.bm (v := .v0 (p==q)) (.c rfl) (by simp[execOp,b,f,g,rM,binOp,run_equal_bool k])
  .exact .same s.bm (v := .v0 (!(p==q))) (.c rfl) (by simp[execOp,b,f,g,rM,binOp,run_equal_bool k])
 .simp at hv
def Sn (h:bB P o.op (.un op x)=aq) (s:bH dl N I β e H a w) (hv:pv (.un op x) e=ak v):Post I β H w v H ((execOp a.eval o).run P w):=by
 cases y:o.op<;>simp only[y,bB,W3,WZ,X2] at h;rename_i b t f;obtain ⟨rfl,z⟩:=h;have r1:=s.x z;simp only[pv] at hv;generalize x.ev e=A at *;unfold Pe at hv;split at hv
 .have k:=r1.c7.1;split at hv<;>simp[uG] at hv<;>subst hv
  .exact .same s.bm (.c rfl) (by simp[execOp,y,k,Op.unary,Op.intArith])
  .exact .same s.bm (.c rfl) (by simp[execOp,y,k,Op.unary,Op.intBits])
 .have k:=r1.c7.1;split at hv<;>simp at hv;subst hv;exact .same s.bm (.c rfl) (by simp[execOp,y,k,Op.unary])
 .simp at hv
def Sc (h:bB P o.op (.cv k x)=aq) (s:bH dl N I β e H a w) (hv:pv (.cv k x) e=ak v):Post I β H w v H ((execOp a.eval o).run P w):=by
 cases z:o.op<;>simp only[z,bB,W3,WZ] at h;rename_i t d n;have ⟨⟨f,y⟩,g⟩:=h;have r1:=s.x g;simp only[pv] at hv;split at hv<;>simp at hv;rename_i l;subst hv;rw[l] at r1;have b:=r1.c7.1;have ⟨m,j⟩:=YQ.1 f;have i:P.underlying d=ak (.int k):=by unfold xA at y;split at y<;>simp_all
 refine .same s.bm (.c rfl) ?_;simp only[execOp,z,b,convert,Sem.run_bind,run_underlying j,run_underlying i,Result.andThen_ok];simp[Conv.intToInt]
def Sh (h:bB P o.op (.mf f x y)=aq) (s:bH dl N I β e H a w):Post I β H w (.fn f (x.map (·.ev e)) (y.map (·.ev e))) H ((execOp a.eval o).run P w):=by
 cases b:o.op<;>simp only[b,bB,W3] at h;rename_i fn g i;cases fn<;>simp only[W3,WZ,X2] at h;obtain ⟨⟨rfl,k⟩,z⟩:=h;have r1:=fF s.env k;have c:=fF s.env z;exact .same s.bm (.fn r1.1 c.1 r1.2 c.2) (by
  have k:Array.map a.eval g=(List.map a.eval g.toList).toArray:=by apply Zx;simp
  have z:Array.map a.eval i=(List.map a.eval i.toList).toArray:=by apply Zx;simp
  simp[execOp,b,Instr.makeFunc,k,z])
def Sd (h:bB P o.op (.ex x i)=aq) (s:bH dl N I β e H a w) (hv:pv (.ex x i) e=ak v):Post I β H w v H ((execOp a.eval o).run P w):=by
 cases k:o.op<;>simp only[k,bB,W3,WZ,X2] at h;obtain ⟨rfl,b⟩:=h;have r1:=s.x b;simp only[pv] at hv;split at hv
 .rename_i c;rw[c] at r1;have ⟨j,y,g⟩:=r1.uf;have ⟨rv,z,f⟩:=g.get hv;exact .same s.bm f (by simp[execOp,k,y,Instr.extract,z])
 .simp at hv
def Se (h:bB P o.op (.fa x off)=aq) (s:bH dl N I β e H a w) (hv:pv (.fa x off) e=ak v):Post I β H w v H ((execOp a.eval o).run P w):=by
 cases X:o.op<;>simp only[X,bB,W3,WZ] at h;rename_i t D f;have ⟨i,W⟩:=h;have r1:=s.x W;unfold iJ at i;split at i<;>simp at i;rename_i fl K;have ⟨c,z⟩:=i;split at z<;>simp at z;rename_i k A;have y:∃m,P.underlying t=ak (.struct m)/\m[f]?=ak fl:=by unfold yq at K;split at K<;>simp_all
 have ⟨m,y,r⟩:=y;have key:∀b j,a.eval D = .pointer (ak ⟨b,j,an⟩)->(execOp a.eval o).run P w = .ok (.value (.pointer (ak ⟨b,j+off,an⟩))) w:=by intro b j g;simp[execOp,X,g,Instr.fieldAt,run_underlying y,r,Instr.sureAddr,fieldPlace,run_sizeOf A,z,c,kp]
 simp only[pv] at hv;split at hv<;>simp at hv<;>subst hv
 .rename_i g;rw[g] at r1;have ⟨B,p,q,l⟩:=r1.qN;exact .same s.bm (.ptr p q) (by rw[key _ _ l];simp[XY])
 .rename_i g;rw[g] at r1;have ⟨b,j,C,l,n,p,q⟩:=r1.AL;exact .same s.bm (Rel.fp C n p q) (by rw[key _ _ l,XY])
def P5 (h:bB P o.op (.len x)=aq) (s:bH dl N I β e H a w) (hv:pv (.len x) e=ak v):Post I β H w v H ((execOp a.eval o).run P w):=by
 cases r:o.op<;>simp only[r,bB,W3,WZ] at h;rename_i c;have ⟨⟨m,l⟩,W⟩:=h;have y:c.callee = .builtin .len:=by unfold gR at m;split at m<;>simp_all
 have ⟨E,K⟩:=YQ.1 l;have ⟨t,l,z⟩:=W5.1 K;have X:P.underlying t=ak (.slice E):=by unfold eV at z;split at z<;>simp_all
 have i:=fF s.env W;simp only[XD,Yi] at i;have k:∃rv,c.args.map a.eval=#[rv]/\Rel I β (x.ev e) rv:=by
  have q:=i.1
  match f:c.args.toList.map a.eval with
  | [rv]=>exact ⟨rv,by apply Zx;simp[f],by rw[f] at i;exact i.head⟩
  | []=>simp[f] at q
  | _::_::_=>simp[f] at q
 have ⟨rv,k,g⟩:=k;have key:∀p n cap,rv = .slice p n cap->(execOp a.eval o).run P w = .ok (.value (.int .i64 (n:Int))) w:=by intro p n cap j;simp[execOp,r,resolve,y,k,j,invoke,builtin,Builtin.len_,l,run_underlying X,goInt]
 simp only[pv] at hv;obtain ⟨n,b,rfl⟩:=Xi.1 hv;generalize x.ev e=A at *;unfold BX at b;split at b<;>simp at b<;>subst b
 .exact .same s.bm (.c rfl) (key _ _ _ g.jH)
 .cases g
  .exact .same s.bm (.c rfl) (key _ 0 _ rfl)
  .exact .same s.bm (.c rfl) (key _ _ _ rfl)
 .cases g
  .exact .same s.bm (.c rfl) (key _ _ _ rfl)
  .exact .same s.bm (.c rfl) (key _ 0 _ rfl)
 .exact .same s.bm (.c rfl) (key _ 0 _ g.c7.1)
def Jx (y:bJ I β cs vs) (h:fm ag cs off k=ak v) :
  (ag=aq->Rel I β v (.agg (vs.toArray.extract off (off+k))))/\(ag=ar->∃rv,vs[off]?=ak rv/\Rel I β v rv):=by
 unfold fm at h;split at h
 .rename_i x;split at h<;>simp at h;subst h;refine ⟨fun _=>?_,fun h=>by simp[x] at h⟩;have:=Rel.tP ((y.drop off).take k);rw[show vs.toArray.extract off (off+k)=((vs.drop off).take k).toArray by simp];exact this
 .rename_i x;exact ⟨fun h=>absurd h x,fun _=>y.get h⟩
def E5 {t:TypeId} (x:gi P t=ak ag) (f:du P t=ak k) (g:bJ I β cs vs) (h:fm ag cs off k=ak v) :
  ∃rv,(part t vs.toArray off).run P w = .ok rv w/\Rel I β v rv:=by
 have ⟨y,z⟩:=Jx g h;cases ag with
 | true=>exact ⟨_,by simp[part,ni x,run_sizeOf f];rfl,bk (y rfl)⟩
 | false =>
  have ⟨rv,b,c⟩:=z rfl;exact ⟨rv,by simp[part,ni x,b],c⟩
def Sf (h:bB P o.op (.fd x off ag k)=aq) (s:bH dl N I β e H a w) (hv:pv (.fd x off ag k) e=ak v):Post I β H w v H ((execOp a.eval o).run P w):=by
 cases l:o.op<;>simp only[l,bB,W3,WZ] at h;rename_i t B f;have ⟨b,n⟩:=h;have r1:=s.x n;unfold iJ at b;split at b<;>simp at b;rename_i fl j;have ⟨⟨z,g⟩,r⟩:=b;have y:∃c,P.underlying t=ak (.struct c)/\c[f]?=ak fl:=by unfold yq at j;split at j<;>simp_all
 have ⟨c,y,i⟩:=y;simp only[pv] at hv;split at hv
 .rename_i W K;rw[K] at r1;have ⟨A,m,X⟩:=r1.ot;have ⟨rv,p,q⟩:=E5 (w:=w) g r X hv;exact .same s.bm q (by simp[execOp,l,m,Instr.field,run_underlying y,i,asAgg,z,p])
 .simp at hv
def DS {t:TypeId} {x:Nat × TypeId} (h:DB P t=ak x):P.underlying t=ak (.array x.1 x.2):=by unfold DB at h;split at h<;>simp_all;obtain ⟨rfl⟩:=h;exact ⟨rfl,rfl⟩
def db {t E:TypeId} (h:eV P t=ak E):P.underlying t=ak (.slice E):=by unfold eV at h;split at h<;>simp_all
def eD {α:Type} {x:Option α} {f:α->Bool} (h:iJ x f=aq):∃y,x=ak y/\f y=aq:=by unfold iJ at h;split at h<;>simp_all
def Sg (h:bB P o.op (.ix x i n k ag)=aq) (s:bH dl N I β e H a w) (hv:pv (.ix x i n k ag) e=ak v):Post I β H w v H ((execOp a.eval o).run P w):=by
 cases f:o.op<;>simp only[f,bB,W3,WZ] at h;rename_i t G W;have ⟨⟨y,l⟩,m⟩:=h;obtain ⟨E,b,y⟩:=eD y;simp at y;obtain ⟨⟨rfl,c⟩,z⟩:=y;have hu:=DS b;have r1:=s.x l;have K:=s.x m;simp only[pv] at hv;generalize x.ev e=A at *;generalize i.ev e=B at *;unfold OB at hv;split at hv
 .split at hv
  case isFalse=>simp at hv
  rename_i D C r;have ⟨F,g,X⟩:=r1.ot;have j:=K.c7.1;have ⟨rv,p,q⟩:=E5 (w:=w) z c X hv;exact .same s.bm q (by simp[execOp,f,g,j,Instr.index,asIntOf,run_underlying hu,run_sizeOf c,r,p])
 .simp at hv
def P1 (h:bB P o.op (.CF x i n k)=aq) (s:bH dl N I β e H a w) (hv:pv (.CF x i n k) e=ak v):Post I β H w v H ((execOp a.eval o).run P w):=by
 cases r:o.op<;>simp only[r,bB,W3,WZ] at h;rename_i t G D;have ⟨⟨j,W⟩,c⟩:=h;obtain ⟨E,q,j⟩:=eD j;simp at j;obtain ⟨rfl,C⟩:=j;have hu:=DS q;have r1:=s.x W;have X:=s.x c;have key:∀b l K g,a.eval G = .pointer (ak ⟨b,l,an⟩)->a.eval D = .int K g->0<=g/\g < (E.1:Int)->(execOp a.eval o).run P w = .ok (.value (.pointer (ak ⟨b,l+g.toNat*k,an⟩))) w:=by intro b l K g y z f;simp[execOp,r,y,z,Instr.indexAt,asIntOf,run_underlying hu,Instr.sureAddr,run_sizeOf C,f,kp]
 simp only[pv] at hv;generalize x.ev e=A at *;generalize i.ev e=B at *;unfold OC at hv;split at hv
 .split at hv<;>simp at hv;rename_i f;subst hv;have z:=X.c7.1;have ⟨b,l,F,y,m,c,p⟩:=r1.AL;exact .same s.bm (Rel.fp F m c p) (by rw[key _ _ _ _ y z f,XY])
 .split at hv<;>simp at hv;rename_i f;subst hv;have z:=X.c7.1;have ⟨B,c,p,y⟩:=r1.qN;exact .same s.bm (.ptr c p) (by rw[key _ _ _ _ y z f];simp only[XY])
 .simp at hv
def zS {xs:List (List AV)} {n:Nat} (h:n < ae xs):xs[n]?=ak (xs.getD n []):=by simp[af,h]
def P0 (h:bB P o.op (.vX x i k)=aq) (s:bH dl N I β e H a w) (hv:pv (.vX x i k) e=ak v):Post I β H w v H ((execOp a.eval o).run P w):=by
 cases F:o.op<;>simp only[F,bB,W3,WZ] at h;rename_i t x' U;have ⟨⟨q,C⟩,D⟩:=h;obtain ⟨E,L,q⟩:=eD q;simp at q;have hu:=db L;have r1:=s.x C;have J:=s.x D;have key:∀b W n cap r y,a.eval x' = .slice (ak ⟨b,W,an⟩) n cap->a.eval U = .int r y->0<=y/\y < (n:Int)->(execOp a.eval o).run P w = .ok (.value (.pointer (ak ⟨b,W+y.toNat*k,an⟩))) w:=by intro b W n cap r y g l z;simp[execOp,F,g,l,Instr.indexAt,asIntOf,run_underlying hu,run_sizeOf q,z,kp]
 simp only[pv] at hv;generalize x.ev e=A at *;generalize i.ev e=B at *;unfold BW at hv;split at hv
 .split at hv<;>simp at hv;rename_i G f xs r y z;subst hv;have l:=J.c7.1;obtain ⟨rfl,z⟩:=z;have ⟨p,cap,g,_,_,X⟩:=r1.ku;have c:y.toNat < ae xs:=aD;obtain ⟨b,off,V,rfl,O,M,hR⟩:=X (by rintro rfl;simp at c);refine .same s.bm (Rel.fp (o:=0) (b:=b) (off:=off+y.toNat*G) (fun j=>V y.toNat j) (O _ (XJ (zS c))).2 ?_ ?_) (key _ _ _ _ _ _ g l z)
  .intro j a K;exact M y.toNat j a (by simp only[cJ];rw[zS c];exact K)
  .intro j a K;exact hR y.toNat j a (by simp only[cJ];rw[zS c];exact K)
 .split at hv<;>simp at hv;rename_i G id ver i0 m r y z;subst hv;have l:=J.c7.1;obtain ⟨rfl,z⟩:=z;obtain ⟨B,p,T,rfl,g,R,S⟩:=r1.kj;rcases S with ⟨c,rfl⟩ | ⟨C,D⟩
  .refine .same s.bm (.ptr T c) ?_;rw[key _ _ _ _ _ _ g l z];simp[XF,XY]
  .omega
 .simp at hv
def Ib (k:bJ I β z x) (y:bJ I β cs vc):bJ I β (eN z h cs) (x.take h++vc++x.drop (h+ae cs)) :=
 ((k.take h).append y).append (k.drop _)
def K3 (vc:List Value):∀(c:Array Value) (k n:Nat),k+n+ae vc<=c.size->((vc.zipIdx n).foldl (fun cs (x:Value × Nat)=>cs.setIfInBounds (k+x.2) x.1) c)=cn c (k+n) vc:=by
 induction vc with
 | nil=>intro c k n _;rfl
 | cons v r y =>
  intro c k n h;simp only[XG] at h;simp only[aaT,List.foldl_cons,cn];rw[y _ k (n+1) (by simp;omega),show k+n+1=k+(n+1) by omega]
def F3 (vc:List Value) (c:Array Value) (of:Nat) (h:of+ae vc<=c.size):(cn c of vc).toList=c.toList.take of++vc++c.toList.drop (of+ae vc):=by
 apply ZF;intro j;rw[abE,z7 _ _ _ h];have k:ae (c.toList.take of)=of:=cE;by_cases x:j < of
 .grind
 .grind
def sy (place:Nat->Option (Nat × Nat)):∀(l:List (Nat × Value)) (m:List (Nat × Nat × AV)) (c:Array Value) (z y:List AV),
  ae l=ae m->(∀(j:Nat) p q,l[j]?=ak p->m[j]?=ak q->place p.1=ak (q.1,q.2.1)/\Rel I β q.2.2 p.2/\q.2.2 ≠ .aY) ->
  bJ I β z c.toList->lJ z m=ak y->∃n,Instr.fill place c l=ak n/\bJ I β y n.toList
 | [],[],c,z,y,_,_,r,h=>by simp[lJ] at h;subst h;exact ⟨c,rfl,r⟩
 | [],_::_,c,z,y,f,_,_,_=>by simp at f
 | _::_,[],c,z,y,f,_,_,_=>by simp at f
 | (i,v)::l,(s,k,b)::m,c,z,y,f,C,r,h=>by
  have ⟨X,W,A⟩:=C 0 _ _ rfl rfl;simp only at X W A;simp only[lJ] at h;split at h
  .rename_i G;have ⟨J,L⟩:=G;have B:=W.cellsOf A;have g:=B.1;have K:=r.1;simp only[Array.length_toList] at g K;have x:=K3 v.cells.toList c s 0 cE;have t:=F3 v.cells.toList c s cE;have ⟨n,E,F⟩:=sy place l m (cn c s v.cells.toList) (eN z s b.cells) y (bk f) (fun j p q e D=>C (j+1) p q (bk e) (bk D))
    (by rw[t,show ae v.cells.toList=ae b.cells by simp;omega];exact Ib r B) h;refine ⟨n,?_,F⟩;simp only[Instr.fill,X];rw[WX (by simp;omega),<-Array.foldl_toList,Array.toList_zipIdx];simp only[aaI] at x;rw[x];exact E
  .simp at h
def F2 {fs:List Field} (h:∀f,f∈fs->(du P f.type).isSome):(fs.mapM (fun f=>do pure (f.offset,<-sizeOf f.type)):Sem (List (Nat × Nat))).run P w = .ok (fs.map fun f=>(f.offset,(du P f.type).getD 0)) w:=by
 induction fs with
 | nil=>simp
 | cons f r z =>
  have ⟨k,x⟩:=YQ.1 (h f aK);have:=z (fun f y=>h f (by simp[y]));simp only[abF,Sem.run_bind,run_sizeOf x,Result.andThen_ok,Sem.run_pure,this,XD,x,XT]
def wS {fs:Array Field} (s:bH dl N I β e H a w):∀{g:List (Nat × Operand)} {l:List (Nat × Nat × Opd)},oy P fs g l=aq ->
  ae (g.map fun p=>(p.1,a.eval p.2))=ae (l.map fun p=>(p.1,p.2.1,p.2.2.ev e)) /\
  ∀(j:Nat) p q,(g.map fun p=>(p.1,a.eval p.2))[j]?=ak p->(l.map fun p=>(p.1,p.2.1,p.2.2.ev e))[j]?=ak q ->
   (fs.toList.map fun f=>(f.offset,(du P f.type).getD 0))[p.1]?=ak (q.1,q.2.1)/\Rel I β q.2.2 p.2
 | [],[],_=>⟨rfl,fun j p q e=>by simp at e⟩
 | (i,x)::g,(X,k,y)::l,h=>by
  simp only[oy,WZ] at h;have ⟨⟨z,r⟩,t⟩:=h;have ⟨m,n⟩:=wS s t;refine ⟨bk m,fun j p q b c=>?_⟩;cases j with
  | zero =>
   simp at b c;subst b c;split at z
   .rename_i f K;simp at z;refine ⟨?_,s.x r⟩;simp[K,z.1,z.2]
   .simp at z
  | succ j=>simp only[XD,YV] at b c;exact n j p q b c
 | [],_::_,h=>by simp[oy] at h
 | _::_,[],h=>by simp[oy] at h
def vO {g:Nat} (s:bH dl N I β e H a w):∀{c:List (Nat × Operand)} {f:List (Nat × Nat × Opd)},mY g c f=aq ->
  ae (c.map fun p=>(p.1,a.eval p.2))=ae (f.map fun p=>(p.1,p.2.1,p.2.2.ev e)) /\
  ∀(j:Nat) p q,(c.map fun p=>(p.1,a.eval p.2))[j]?=ak p->(f.map fun p=>(p.1,p.2.1,p.2.2.ev e))[j]?=ak q ->
   ak (p.1*g,g)=ak (q.1,q.2.1)/\Rel I β q.2.2 p.2
 | [],[],_=>⟨rfl,fun j p q e=>by simp at e⟩
 | (i,x)::c,(X,k,y)::f,h=>by
  simp only[mY,WZ,X2] at h;have ⟨⟨⟨n,r⟩,t⟩,K⟩:=h;have ⟨l,m⟩:=vO s K;refine ⟨bk l,fun j p q z b=>?_⟩;cases j with
  | zero=>simp at z b;subst z b;exact ⟨by rw[<-n,<-r],s.x t⟩
  | succ j=>simp only[XD,YV] at z b;exact m j p q z b
 | [],_::_,h=>by simp[mY] at h
 | _::_,[],h=>by simp[mY] at h
def Sa (h:bB P o.op (.bd z M)=aq) (s:bH dl N I β e H a w) (hv:pv (.bd z M) e=ak v):Post I β H w v H ((execOp a.eval o).run P w):=by
 cases D:o.op<;>simp only[D,bB,W3,WZ] at h;rename_i t parts;have ⟨V,h⟩:=h;simp only[pv] at hv;split at hv<;>simp at hv;rename_i C;obtain ⟨O,K,rfl⟩:=hv;have ⟨zv,m,_,r⟩:=rN (w:=w) V;have b:∀(j:Nat) q,(M.map fun p=>(p.1,p.2.1,p.2.2.ev e))[j]?=ak q->q.2.2 ≠ .aY:=by intro j q L;rw[Ys] at L;obtain ⟨p,S,rfl⟩:=Xi.1 L;have:=W6.1 C p (XJ S);intro J;simp only at J;simp[J,eC] at this
 split at h
 .rename_i fs G;simp only[WZ] at h;have ⟨F,B⟩:=h;have ⟨X,l⟩:=wS s B;have y:=F2 (P:=P) (w:=w) (fs:=fs.toList) (fun f K=>by have:=YA.1 F f (bk K);simpa using this);have ⟨R,W,A⟩:=sy (fun i=>(fs.toList.map fun f=>(f.offset,(du P f.type).getD 0))[i]?) _ _ zv.cells z O X (fun j p q g c=>⟨(l j p q g c).1,(l j p q g c).2,b j q c⟩) (r I β) K;refine .same s.bm (Rel.tP A) ?_;have U:(fs.mapM (fun f=>do pure (f.offset,<-sizeOf f.type)):Sem (Array (Nat × Nat))).run P w = .ok (fs.toList.map fun f=>(f.offset,(du P f.type).getD 0)).toArray w:=by rw[abq];simp only[Sem.run_map,y,Result.andThen_ok]
  simp only[execOp,D,Instr.build,Sem.run_bind,m,Result.andThen_ok,run_underlying G,U,Sem.run_pure];simp only[aaU];have:(fun (x:Nat)=>(fs.toList.map fun f=>(f.offset,(du P f.type).getD 0)).toArray[x]?)=(fun i=>(fs.toList.map fun f=>(f.offset,(du P f.type).getD 0))[i]?):=by funext i;simp
  rw[this,W];simp
 .rename_i n E G;split at h
  .rename_i k T;have ⟨X,l⟩:=vO s h;have ⟨R,W,A⟩:=sy (fun i=>ak (i*k,k)) _ _ zv.cells z O X (fun j p q g c=>⟨(l j p q g c).1,(l j p q g c).2,b j q c⟩) (r I β) K;refine .same s.bm (Rel.tP A) ?_;simp only[execOp,D,Instr.build,Sem.run_bind,m,Result.andThen_ok,run_underlying G,run_sizeOf T,Sem.run_pure,aaU,W]
  .simp at h
 .simp at h
def c9 {xs:List (List AV)} {k:Nat} (h:∀x,x∈xs->ae x=k):ae xs.flatten=ae xs*k:=by
 induction xs with
 | nil=>simp
 | cons x r b=>simp only[Zb,Xn,XG,b (fun y z=>h y (by simp[z])),h x aK];rw[XF];omega
def gE {k:Nat}:∀{xs:List (List AV)} (_:∀x,x∈xs->ae x=k) {i j:Nat} {a:AV},cJ xs i j=ak a->xs.flatten[i*k+j]?=ak a
 | [],_,i,j,a,e=>by simp[cJ] at e
 | x::r,h,i,j,a,e=>by
  have z:=h x aK;cases i with
  | zero =>
   simp[cJ] at e;have b:=(W9.1 e).1;rw[Zb,abQ,Xb,Xc b];exact e
  | succ i =>
   have:=gE (xs:=r) (fun y c=>h y (by simp[c])) (i:=i) (j:=j) (a:=a) (by simpa[cJ] using e);rw[Zb,Xk (by rw[z,XF];omega),z,show (i+1)*k+j - k=i*k+j by rw[XF];omega];exact this
def AG:∀(xs:List AV) (m:Nat) (pre:List AV),(∀x,x∈xs->ae x.cells=k)->ae pre=m*k ->
  lJ (pre++aA (ae xs*k) .aY) (xs.zipIdx m |>.map fun p=>(p.2*k,k,p.1))=ak (pre++(xs.map AV.cells).flatten)
 | [],m,pre,_,_=>by simp[lJ]
 | x::r,m,pre,h,b=>by
  have c:=h x aK;have z:ae (x::r)*k=k+ae r*k:=by simp[XF,Nat.add_comm]
  simp only[aaT,XD,lJ];rw[W0 ⟨c,by simp only[Xn,Ym,z,b];omega⟩];have:eN (pre++aA (ae (x::r)*k) AV.aY) (m*k) x.cells=(pre++x.cells)++aA (ae r*k) .aY:=by rw[eN,YP aD,Xq aD,aax,ZN aD,XH,List.drop_replicate,z,c,b];congr 2;omega
  rw[this,AG r (m+1) (pre++x.cells) (fun y f=>h y (by simp[f])) (by simp[b,c,XF])];simp
def wR (s:bH dl N I β e H a w) {k:Nat}:∀{c:List (Nat × Operand)} {f:List Opd} {m:Nat},kY m c f=aq ->
  ae (c.map fun p=>(p.1,a.eval p.2))=ae (((f.map (·.ev e)).zipIdx m).map fun p=>(p.2*k,k,p.1)) /\
  ∀(j:Nat) p q,(c.map fun p=>(p.1,a.eval p.2))[j]?=ak p->(((f.map (·.ev e)).zipIdx m).map fun p=>(p.2*k,k,p.1))[j]?=ak q ->
   ak (p.1*k,k)=ak (q.1,q.2.1)/\Rel I β q.2.2 p.2
 | [],[],_,_=>⟨rfl,fun j p q e=>by simp at e⟩
 | (i,x)::c,y::f,m,h=>by
  simp only[kY,WZ,X2] at h;have ⟨⟨n,r⟩,t⟩:=h;have ⟨g,l⟩:=wR s (k:=k) t;refine ⟨bk g,fun j p q z b=>?_⟩;cases j with
  | zero=>simp at z b;subst z b;exact ⟨by rw[n],s.x r⟩
  | succ j=>simp only[XD,aaT,YV] at z b;exact l j p q z b
 | [],_::_,_,h=>by simp[kY] at h
 | _::_,[],_,h=>by simp[kY] at h
def jB {E:TypeId} (h:iY P E k m=aq):du P E=ak k/\0 < k/\(∃n,JZ P E=ak n/\0 < n/\n<=m)/\∃zv,(P.info? E).bind (·.zero)=ak zv/\zv.cells.size=k:=by simp only[iY,WZ,X2,Xm] at h;have ⟨⟨⟨b,c⟩,f⟩,g⟩:=h;have ⟨n,i,x⟩:=eD f;have ⟨z,j,y⟩:=eD g;simp at x y;exact ⟨b,c,⟨n,i,x⟩,z,j,y⟩
def ud {t E:TypeId} {k:Nat} {parts:Array (Nat × Operand)} {h:List Opd} (s:bH dl N I β e H a w) (L:eV P t=ak E) (D:iY P E k 65536=aq) (O:ae h*k<=2 ^ 24)
  (n:kY 0 parts.toList h=aq) (F:∀q,q∈h->(q.ev e).cells.length=k) (J:∀q,q∈h->q.ev e ≠ .aY) :
  ∃c:Array Value,(Instr.buildSlice t (ae h) (parts.map fun (i,x)=>(i,a.eval x))).run P w = .ok (.slice (ak ⟨w.heap.size,0,an⟩) (ae h) (ae h)) (World.iL w c E) /\
   bJ I β (h.map fun q=>(q.ev e).cells).flatten c.toList:=by
 have ⟨r,G,_,zv,K,M⟩:=jB D;have ⟨B,X⟩:=wR s (k:=k) n;have f:∀(j:Nat) q,(((h.map (·.ev e)).zipIdx 0).map fun p=>(p.2*k,k,p.1))[j]?=ak q->q.2.2 ≠ .aY:=by grind
 have b:=AG (k:=k) (h.map (·.ev e)) 0 [] (bk F) aK;simp only[XH,W4,aaJ] at b;let c0:Array Value:=(Array.range (ae h*k)).map (fun x=>zv.cells[x % zv.cells.size]!);have m:bJ I β (aA (ae h*k) AV.aY) c0.toList:=by refine ⟨by simp[c0],fun j a v y g=>?_⟩;rw[YH] at y;split at y<;>simp at y;subst y;exact .aY
 have ⟨A,W,C⟩:=sy (fun i=>ak (i*k,k)) _ _ c0 _ _ B (fun j p q y g=>⟨(X j p q y g).1,(X j p q y g).2,f j q g⟩) m b;refine ⟨A,?_,by simpa[Function.comp_def] using C⟩;simp only[Instr.buildSlice,Sem.run_bind,run_underlying (db L),Result.andThen_ok,run_sizeOf r];rw[WX aD];by_cases l:ae h*k=0
 .have z:(Array.range (ae h*k)).map (fun x=>(#[]:Array Value)[x % (#[]:Array Value).size]!)=c0:=by simp[c0,l]
  simp only[W0 l,pure_bind,aaU,z,W];simp[newRow,World.iL]
 .simp only[WX l,Sem.run_bind,sQ K,Result.andThen_ok,Sem.run_pure,aaU,c0,W];simp[newRow,World.iL]
def Sb (h:bB P o.op (.bs k g)=aq) (s:bH dl N I β e H a w) (hv:pv (.bs k g) e=ak v):Post I β H w v H ((execOp a.eval o).run P w):=by
 cases B:o.op<;>simp only[B,bB,W3,WZ,X2,Xm] at h;rename_i t len parts;obtain ⟨⟨⟨K,rfl⟩,J⟩,W⟩:=h;have ⟨E,G,K⟩:=eD K;simp only[pv] at hv;split at hv<;>simp at hv;rename_i l;subst hv;have y:=fun q m=>W6.1 l q m;simp only[WZ,X2] at y;obtain ⟨c,p,n⟩:=ud s G K J W (fun q m=>(y q m).2) (fun q m=>nG (y q m).1 rfl);have ⟨L,M⟩:=s.bm.frozen c E;have z:∀x,x∈(g.map fun q=>(q.ev e).cells)->ae x=k:=by grind
 have A:((g.map fun q=>(q.ev e).cells).flatten).all cN=aq:=by grind
 have D:=rm (c:=c) (off:=0) A n s.bm.ef (fun j v e=>bk e);refine ⟨.value (.slice (ak ⟨w.heap.size,0,an⟩) (ae g) (ae g)),_,_,_,by simp[execOp,B,p],M,L,?_,fun _ _ _=>rfl⟩;have r:∀x,x∈(g.map fun q=>(q.ev e).cells)->ae x=k/\x.all bh=aq:=by intro x C;refine ⟨z x C,?_⟩;obtain ⟨q,F,rfl⟩:=Xf.1 C;exact uD (y q F).1
 have:=Rel.seq (I:=j7 I w.heap.size c) (β:=β) (f:=aq) (b:=w.heap.size) (off:=0) (cap:=ae g) (fun i j=>c.toList.getD (i*k+j) undef) r
  (fun i j a X=>by have:=D.1 _ _ (gE z X);simpa[XY] using this) (fun i j a X=>D.2 _ _ (gE z X)) aK aK;rw[W4] at this;exact this
def gm:List Bool->List Value->List Value->Option Bool
 | [],[],[]=>ak aq
 | false::ks,.int k x::r,.int k' y::s=>if k=k' then (gm ks r s).map (decide (x=y)&&·) else an
 | true::ks,.bool x::r,.bool y::s=>(gm ks r s).map ((x==y)&&·)
 | _,_,_=>an
def wT:∀{ks:List Bool} {cs j:List AV} {vs f:List Value} {b:Bool},bJ I β cs vs->bJ I β j f->D9 ks cs j=ak b->gm ks vs f=ak b
 | ks,cs,j,vs,f,b,z,c,h=>by
  unfold D9 at h;split at h
  .have g:=Xy z.1.symm;have i:=Xy c.1.symm;subst g i;simpa[gm] using h
  .rename_i ks k x r p y s
   match vs,f,z,c with
   | v::vs,u::f,z,c =>
    have g:=z.head.c7.1;have i:=c.head.c7.1;subst g i;split at h
    case isFalse=>simp at h
    rename_i n;obtain ⟨m,l,rfl⟩:=Xi.1 h;have:=wT z.tail c.tail l;simp[gm,n,this]
   | [],_,z,_=>exact absurd z.1 aK
   | _::_,[],_,c=>exact absurd c.1 aK
  .rename_i ks x r y s
   match vs,f,z,c with
   | v::vs,u::f,z,c =>
    have g:=z.head.c7.1;have i:=c.head.c7.1;subst g i;obtain ⟨m,l,rfl⟩:=Xi.1 h;have:=wT z.tail c.tail l;simp[gm,this]
   | [],_,z,_=>exact absurd z.1 aK
   | _::_,[],_,c=>exact absurd c.1 aK
  .simp at h
def oS:∀{ks:List Bool} {a b:List Value} {r:Bool},gm ks a b=ak r->ae a=ae ks/\ae b=ae ks
 | ks,a,b,r,h=>by
  unfold gm at h;split at h
  .simp
  .split at h
   case isFalse=>simp at h
   have ⟨x,k,_⟩:=Xi.1 h;have:=oS k;simp[this.1,this.2]
  .have ⟨x,k,_⟩:=Xi.1 h;have:=oS k;simp[this.1,this.2]
  .simp at h
def pn:∀{z f:List Bool} {a b:List Value} {r:Bool},gm (z++f) a b=ak r->∃x y,gm z (a.take (ae z)) (b.take (ae z))=ak x/\gm f (a.drop (ae z)) (b.drop (ae z))=ak y/\r=(x&&y)
 | [],f,a,b,r,h=>⟨aq,r,by simp[gm],bk h,aK⟩
 | k::z,f,a,b,r,h=>by
  simp only[XU] at h;unfold gm at h;split at h
  .simp_all
  .rename_i c;simp at c;obtain ⟨rfl,rfl⟩:=c;split at h
   case isFalse=>simp at h
   rename_i m;obtain ⟨l,j,rfl⟩:=Xi.1 h;obtain ⟨x,y,g,i,rfl⟩:=pn j;exact ⟨_,y,by simp[gm,m,g];rfl,bk i,by simp[Bool.and_assoc]⟩
  .rename_i c;simp at c;obtain ⟨rfl,rfl⟩:=c;obtain ⟨l,j,rfl⟩:=Xi.1 h;obtain ⟨x,y,g,i,rfl⟩:=pn j;exact ⟨_,y,by simp[gm,g];rfl,bk i,by simp[Bool.and_assoc]⟩
  .simp at h
def kR (P:Program) (t:TypeId) (vs:List Value):Value:=if gi P t=ak aq then .agg vs.toArray else vs.headD undef
def nU {t:TypeId} {k off:Nat} {vs:List Value} (x:∃b,gi P t=ak b) (c:du P t=ak k) (y:gi P t=ak ar->k=1) (f:off+k<=ae vs) :
  (part t vs.toArray off).run P w = .ok (kR P t ((vs.drop off).take k)) w:=by
 have ⟨b,h⟩:=x;cases b with
 | true=>simp[part,ni h,run_sizeOf c,kR,h]
 | false =>
  have:=y h;subst this;have:vs[off]?=ak vs[off]:=W7 aD;have z:(vs.drop off).take 1=[vs[off]]:=by
   apply ZF;intro j;cases j with
   | zero=>simp[this]
   | succ j=>simp;omega
  simp[part,ni h,kR,h,z,this]
def flat_agg {d:Nat} {t:TypeId} {y:List Bool} (h:lK P d t=ak y):(∃b,gi P t=ak b)/\(gi P t=ak ar->ae y=1):=by
 cases d with
 | zero=>simp[lK] at h
 | succ d =>
  unfold lK at h;split at h
  .rename_i k;simp at h;subst h;exact ⟨⟨ar,by simp[gi,k]⟩,fun _=>rfl⟩
  .rename_i k;simp at h;subst h;exact ⟨⟨ar,by simp[gi,k]⟩,fun _=>rfl⟩
  .rename_i k;exact ⟨⟨aq,by simp[gi,k]⟩,fun x=>by simp[gi,k] at x⟩
  .rename_i k;exact ⟨⟨aq,by simp[gi,k]⟩,fun x=>by simp[gi,k] at x⟩
  .simp at h
def oA (d:Nat) (e:TypeId) (n:Nat) (xs ys:Array Value):List Nat->Sem Bool
 | []=>pure aq
 | i::r=>do
  if !(<-Op.equalIn d e (<-part e xs (i*n)) (<-part e ys (i*n))) then return ar
  oA d e n xs ys r
def run_equalIn_array {t e:TypeId} (z:P.underlying t=ak (.array len e)) (y:du P e=ak n) (xs ys:Array Value) :
  (Op.equalIn (D+1) t (.agg xs) (.agg ys)).run P w=(oA D e n xs ys (List.range' 0 len)).run P w:=by
 simp only[Op.equalIn,Sem.run_bind,run_underlying z,Result.andThen_ok,run_sizeOf y];rw[Std.Legacy.Range.forIn_eq_forIn_range'];simp only[Std.Legacy.Range.size,abt,aaK,Nat.div_one];generalize List.range' 0 len=l
 induction l generalizing w with
 | nil=>simp[oA]
 | cons i l c =>
  simp only[List.forIn_cons,oA,Sem.run_bind];generalize (part e xs (i*n)).run P w=f;cases f with
  | ok a h =>
   simp only[Result.andThen_ok];generalize (part e ys (i*n)).run P h=g;cases g with
   | ok b k =>
    simp only[Result.andThen_ok];generalize (Op.equalIn D e a b).run P k=j;cases j with
    | ok r m =>
     cases r
     .simp only[Result.andThen_ok,X9,Yj,Sem.run_pure]
     .simp only[Result.andThen_ok,Yy,W3,YC,Sem.run_pure];exact c
    | halt x m=>simp[Result.andThen]
   | halt x k=>simp[Result.andThen]
  | halt x h=>simp[Result.andThen]
def CU {d:Nat} (q:∀(D:Nat) (t:TypeId) (c:List Bool) (xs ys:List Value) (b:Bool),d<=D->lK P d t=ak c->gm c xs ys=ak b->(Op.equalIn D t (kR P t xs) (kR P t ys)).run P w = .ok b w) (D:Nat) (n:d<=D) :
  ∀(fs:List Field) (off:Nat) (c:List Bool) (xs ys:List Value) (b:Bool),AI P (lK P d) fs off=ak c->gm c (xs.drop off) (ys.drop off)=ak b->(Op.eqFields D xs.toArray ys.toArray fs).run P w = .ok b w
 | [],off,c,xs,ys,b,k,g=>by simp[AI] at k;subst k;have h:=oS g;simp only[XQ] at h;rw[Xy h.1,Xy h.2] at g;simp[gm] at g;simp[Op.eqFields,g]
 | f::r,off,c,xs,ys,b,k,g=>by
  unfold AI at k;split at k
  .rename_i j;obtain ⟨j,rfl⟩:=j;have ⟨s,h,i⟩:=W5.1 k;split at i<;>simp at i;rename_i z;obtain ⟨W,K,rfl⟩:=i;obtain ⟨x,y,l,m,rfl⟩:=pn g;have ⟨A,B⟩:=oS l;simp only[XI,Zy] at A B;have p:=Zc.2  z.2;have C:=nU (w:=w) (off:=f.offset) (vs:=xs) (flat_agg h).1 z.1 (flat_agg h).2 aD;have E:=nU (w:=w) (off:=f.offset) (vs:=ys) (flat_agg h).1 z.1 (flat_agg h).2 aD;have he:=q D f.type s _ _ x n h l;rw[Ya,Ya] at m;have X:=CU q D n r (f.offset+ae s) W xs ys y K m;simp only[Op.eqFields,W0 j,Sem.run_bind,C,E,he,Result.andThen_ok];cases x
   .simp
   .simpa using X
  .simp at k
def CT {d:Nat} (q:∀(D:Nat) (t:TypeId) (h:List Bool) (xs ys:List Value) (b:Bool),d<=D->lK P d t=ak h->gm h xs ys=ak b->(Op.equalIn D t (kR P t xs) (kR P t ys)).run P w = .ok b w) (D:Nat) (m:d<=D)
  {e:TypeId} {h:List Bool} (c:lK P d e=ak h) (z:du P e=ak (ae h)) (f:h≠[]):∀(n i:Nat) (xs ys:List Value) (b:Bool),gm (aA n h).flatten (xs.drop (i*ae h)) (ys.drop (i*ae h))=ak b ->
  (oA D e (ae h) xs.toArray ys.toArray (List.range' i n)).run P w = .ok b w
 | 0,i,xs,ys,b,k=>by have g:=oS k;simp only[Zp,List.flatten_nil,XQ] at g;rw[Xy g.1,Xy g.2] at k;simp[gm] at k;simp[oA,k]
 | n+1,i,xs,ys,b,k=>by
  have p:=Zc.2  f;rw[aba,Zb] at k;obtain ⟨x,y,j,l,rfl⟩:=pn k;have ⟨s,K⟩:=oS j;simp only[XI,Zy] at s K;have X:=nU (w:=w) (off:=i*ae h) (vs:=xs) (flat_agg c).1 z (flat_agg c).2 aD;have W:=nU (w:=w) (off:=i*ae h) (vs:=ys) (flat_agg c).1 z (flat_agg c).2 aD;have he:=q D e h _ _ x m c j;rw[Ya,Ya,show i*ae h+ae h=(i+1)*ae h by rw[XF];omega] at l;have r:=CT q D m c z f n (i+1) xs ys y l;simp only[aay,oA,Sem.run_bind,X,W,he,Result.andThen_ok];cases x
  .simp
  .simpa using r
def Fs {a b:List Value} {r:Bool} (h:gm [] a b=ak r):a=[]/\b=[]/\r=aq:=by unfold gm at h;split at h<;>simp_all
def LU {a b:List Value} {r:Bool} (h:gm [ar] a b=ak r):∃k x y,a=[.int k x]/\b=[.int k y]/\r=(x==y):=by
 unfold gm at h;split at h
 .simp_all
 .rename_i c;injection c with _ c;subst c;split at h
  case isFalse=>simp at h
  rename_i f;obtain ⟨g,z,rfl⟩:=Xi.1 h;obtain ⟨rfl,rfl,rfl⟩:=Fs z;subst f;exact ⟨_,_,_,rfl,rfl,by simp[BEq.beq]⟩
 .simp_all
 .simp at h
def J7 {a b:List Value} {r:Bool} (h:gm [aq] a b=ak r):∃x y,a=[.bool x]/\b=[.bool y]/\r=(x==y):=by
 unfold gm at h;split at h
 .simp_all
 .simp_all
 .rename_i z;injection z with _ z;subst z;obtain ⟨c,k,rfl⟩:=Xi.1 h;obtain ⟨rfl,rfl,rfl⟩:=Fs k;exact ⟨_,_,rfl,rfl,aK⟩
 .simp at h
def E4:∀(d D:Nat) (t:TypeId) (i:List Bool) (xs ys:List Value) (b:Bool),d<=D->lK P d t=ak i->gm i xs ys=ak b->(Op.equalIn D t (kR P t xs) (kR P t ys)).run P w = .ok b w
 | 0,D,t,i,xs,ys,b,_,z,_=>by simp[lK] at z
 | d+1,D,t,i,xs,ys,b,K,z,j=>by
  obtain ⟨D,rfl⟩:∃m,D=m+1:=⟨D - 1,aD⟩;have q:=E4 d;unfold lK at z;split at z
  .rename_i s c;simp at z;subst z;have h:gi P t=ak ar:=by simp[gi,c]
   obtain ⟨k,x,y,rfl,rfl,rfl⟩:=LU j;have:=run_equalIn_int (P:=P) w D t k s x y c;simp[kR,h,this]
  .rename_i c;simp at z;subst z;have h:gi P t=ak ar:=by simp[gi,c]
   obtain ⟨x,y,rfl,rfl,rfl⟩:=J7 j;have:=run_equalIn_bool' (P:=P) w D t x y c;simp[kR,h,this]
  .rename_i fs c;split at z
   .simp at z
   .rename_i p;have h:gi P t=ak aq:=by simp[gi,c]
    have g:P.fieldsOf t=fs:=by simp[Program.fieldsOf,c]
    simp only[kR,h,Yj];rw[run_equalIn_struct (P:=P) w D t _ _ (by rw[g];exact c) (by simpa using p),g];exact CU q D aD fs.toList 0 i xs ys b z (by simpa using j)
  .rename_i n E c;obtain ⟨X,r,l⟩:=W5.1 z;split at l<;>simp at l;rename_i f;subst l;have h:gi P t=ak aq:=by simp[gi,c]
   simp only[kR,h,Yj];rw[run_equalIn_array c f.1];exact CT q D aD r f.1 f.2 n 0 xs ys b (by simpa using j)
  .simp at z
def PY (h:bB P o.op (.Cr neg q x y)=aq) (s:bH dl N I β e H a w) (hv:pv (.Cr neg q x y) e=ak v):Post I β H w v H ((execOp a.eval o).run P w):=by
 cases g:o.op<;>simp only[g,bB,W3,WZ,X2] at h;rename_i op t G J O;have ⟨⟨⟨⟨⟨k,z⟩,m⟩,f⟩,r⟩,K⟩:=h;have r1:=s.x r;have l:=s.x K;simp only[pv] at hv;split at hv
 case h_2=>simp at hv
 rename_i L M A B;rw[A] at r1;rw[B] at l;obtain ⟨b,X,rfl⟩:=Xi.1 hv;generalize n:a.eval G=R at r1;generalize p:a.eval J=S at l;cases r1 with
 | agg C i =>
 cases l with
 | agg D j =>
 rename_i E F;have W:=wT ⟨C,i⟩ ⟨D,j⟩ X;have he:=E4 (P:=P) (w:=w) 8 10000 t q E F b aD z W;simp only[kR,k,Yj] at he;unfold yC at f;split at f<;>simp at f
 .exact .same s.bm (v := .v0 (ar ^^ b)) (.c rfl) (by simp[execOp,g,n,p,run_eqGuard_agg (hm:=m),run_eql_struct,he])
 .exact .same s.bm (v := .v0 (aq ^^ b)) (.c rfl) (by simp[execOp,g,n,p,run_eqGuard_agg (hm:=m),run_neq_struct,he])
def Is {s:ByteArray} {eX:List Nat} (h:s.data.toList.map (·.toNat)=eX) {i b:Nat} (x:eX[i]?=ak b):∃c:UInt8,s[i]?=ak c/\c.toNat=b:=by subst h;rw[Ys] at x;obtain ⟨c,y,rfl⟩:=Xi.1 x;have ⟨z,y⟩:=W9.1 y;have k:i < s.size:=bk z;refine ⟨c,?_,rfl⟩;rw[getElem?_pos s i k];congr 1
def P3 (h:bB P o.op (.AN eX x)=aq) (s:bH dl N I β e H a w) (hv:pv (.AN eX x) e=ak v):Post I β H w v H ((execOp a.eval o).run P w):=by
 cases z:o.op<;>simp only[z,bB,W3,WZ] at h;rename_i t X r;have ⟨⟨y,k⟩,i⟩:=h;have p:P.underlying t=ak .string:=by unfold isStr at y;split at y<;>simp_all
 have q:=s.x i;simp only[pv] at hv;generalize x.ev e=B at *;split at hv
 .split at hv
  case isFalse=>simp at hv
  rename_i K n m;obtain ⟨b,j,rfl⟩:=Xi.1 hv;have g:=q.c7.1;unfold JT at k;split at k
  .rename_i str;obtain ⟨c,l,rfl⟩:=Is (bk k) j;have f:a.eval (.const (.string str)) = .string str:=rfl;exact .same s.bm (v := .c (.int .u8 (c.toNat:Int))) (.c rfl) (by simp[execOp,z,f,g,Instr.index,asIntOf,run_underlying p,m,l])
  .simp at k
 .simp at hv
def pP (h:-9223372036854775808<=n) (k:n < 9223372036854775808):au .i64 n=n:=by unfold IntKind.wrap;simp only[IntKind.bits,IntKind.signed,Yh];split<;>simp_all<;>omega
def vN {z:List AV} {zv:Array Value} {k n:Nat} (r:bJ I β z zv.toList) (b:zv.size=k) (c:0 < k) :
  bJ I β (aA n z).flatten ((Array.range (n*k)).map (fun x=>zv[x % zv.size]!)).toList:=by
 have h:ae z=k:=by rw[r.1];simpa using b
 have y:(aA n z).flatten.length=n*k:=by rw[c9 (k:=k) (fun x g=>by rw[X7 g,h])];simp
 refine ⟨by simp[h],fun j a v i l=>?_⟩;have q:=y ▸ (W9.1 i).1;have K:j / k < n:=Nat.div_lt_of_lt_mul (by rw[abR];exact q);have f:j % k < k:=aaz _ c;have s:cJ (aA n z) (j / k) (j % k)=ak (z[j % k]'aD):=by simp[cJ,K,h,f]
 have m:=gE (k:=k) (fun x g=>by rw[X7 g,h]) s;rw[show j / k*k+j % k=j by rw[abR];exact Nat.div_add_mod j k,i] at m;have p:v=zv[j % zv.size]! := by simp[q] at l;rw[<-l]
 rw[b] at p;have t:zv.toList[j % k]?=ak v:=by rw[p,abE,getElem!_pos zv (j % k) aD];simp[b,f]
 refine r.2 (j % k) a v ?_ t;rw[aby m];simp[h,f]
def run_makeSlice {t E:TypeId} (F:eV P t=ak E) (A:iY P E k 65536=aq) (G:mH P E z=aq) (b:0<=n) (L:n<=c) (M:c<=4294967296) :
  ∃cs:Array Value,(Instr.makeSlice t (.int .i64 n) (.int .i64 c)).run P w = .ok (.slice (ak ⟨w.heap.size,0,an⟩) n.toNat c.toNat) (World.iL w cs E)/\∀I β,bJ I β (aA c.toNat z).flatten cs.toList:=by
 have ⟨p,l,⟨y,m,X,W⟩,zv,K,s⟩:=jB A;have ⟨J,q,h,r⟩:=rN (w:=w) G;rw[K] at h;cases h;have ⟨i,C,j⟩:=Xi.1 m;refine ⟨(Array.range (c.toNat*k)).map (fun x=>zv.cells[x % zv.cells.size]!),?_,fun I β=>vN (r I β) s l⟩;have O:(y:Int)*c<=281474976710656:=by have:(y:Int)*c<=65536*c:=Xj aD aD;omega
 have B:(y:Int)*n<=281474976710656:=by have:(y:Int)*n<=65536*n:=Xj aD aD;omega
 simp only[Instr.makeSlice,Sem.run_bind,run_underlying (db F),Result.andThen_ok,asInt,asIntOf,Sem.run_pure,run_typeInfo C,j,pP (show -9223372036854775808<=n by omega) (by omega),pP (show -9223372036854775808<=c by omega) (by omega)];have g:((c < 0 || (y:Int)*c>2 ^ 48) || n < 0 || n>c)=ar:=by simp only[abM,YI];exact ⟨⟨⟨aD,cE⟩,aD⟩,aD⟩
 rw[WX (by simpa using g)];simp only[Sem.run_bind,run_askRoom,Result.andThen_ok,run_sizeOf p];by_cases b:c.toNat*k=0
 .have D:∀f:Nat->Value,(Array.range 0).map f=#[]:=fun f=>by apply Zx;simp
  simp only[pure_bind,b,D];simp[newRow,World.iL]
 .simp only[WX b,Sem.run_bind,q,Result.andThen_ok,Sem.run_pure];simp[newRow,World.iL]
def P6 (h:bB P o.op (.A9 k z l)=aq) (s:bH dl N I β e H a w) (hv:pv (.A9 k z l) e=ak v):Post I β H w v H ((execOp a.eval o).run P w):=by
 cases J:o.op<;>simp only[J,bB,W3,WZ] at h;rename_i t l' c';have ⟨⟨m,A⟩,W⟩:=h;have ⟨E,S,m⟩:=eD m;simp only[WZ] at m;have r1:=s.x A;have M:=s.x W;simp only[pv] at hv;split at hv
 .rename_i n y;rw[y] at r1 M;have O:=r1.c7.1;have R:=M.c7.1;split at hv<;>simp at hv;rename_i T;have ⟨⟨C,D⟩,p,G⟩:=T;subst hv;have ⟨X,r,q⟩:=run_makeSlice (w:=w) S m.1 m.2 C (Yn _) D;have ⟨U,V⟩:=s.bm.frozen X E;have g:∀x,x∈(aA n.toNat z)->ae x=k:=by intro x y;rw[X7 y];exact G
  have F:((aA n.toNat z).flatten).all cN=aq:=by rw[W6];intro x y;have ⟨l,A,W⟩:=aaA.1 y;rw[X7 A] at W;exact W6.1 p x W
  have L:=rm (c:=X) (off:=0) F (q I β) s.bm.ef (fun j v e=>bk e);refine ⟨.value (.slice (ak ⟨w.heap.size,0,an⟩) n.toNat n.toNat),_,_,_,by simp[execOp,J,O,R,r],V,U,?_,fun _ _ _=>rfl⟩;have K:∀x,x∈(aA n.toNat z)->ae x=k/\x.all bh=aq:=by intro x y;refine ⟨g x y,?_⟩;rw[X7 y];exact uD p
  have:=Rel.seq (I:=j7 I w.heap.size X) (β:=β) (f:=aq) (b:=w.heap.size) (off:=0) (cap:=n.toNat) (fun i j=>X.toList.getD (i*k+j) undef) K
   (fun i j a B=>by have:=L.1 _ _ (gE g B);simpa[XY] using this) (fun i j a B=>L.2 _ _ (gE g B)) aK aK;rw[Ym] at this;exact this
 .simp at hv
def ny {m d r:Nat} {x:Option Opd} (h:bM e m d x=ak r):(x=an/\r=d)\/∃y z n,x=ak y/\y.ev e = .c (.int z n)/\0<=n/\n<=(m:Int)/\r=n.toNat:=by
 unfold bM at h;split at h
 .simp at h;exact .inl ⟨rfl,h.symm⟩
 .rename_i y;split at h
  .rename_i n k;split at h<;>simp at h;rename_i b;unfold intOf? at k;split at k<;>simp at k;rename_i z g f;subst k;exact .inr ⟨y,z,_,rfl,f,b.1,b.2,h.symm⟩
  .simp at h
def pL (s:bH dl N I β e H a w) {m r M d:Nat} {x:Option Operand} {y:Option Opd} {code:BoundsCode} (z:kN x y=aq) (h:bM e m d y=ak r) (i:m<=M) :
  (match x.map a.eval with | some v=>Instr.sliceBound v M code | none=>pure d:Sem Nat).run P w = .ok r w:=by
 unfold kN at z;split at z
 .rcases ny h with ⟨_,rfl⟩ | ⟨_,_,_,k,_⟩
  .rfl
  .simp at k
 .rename_i l p;rcases ny h with ⟨k,_⟩ | ⟨f,j,n,k,b,c,g,rfl⟩
  .simp at k
  .simp at k;subst k;have r1:=s.x z;rw[b] at r1;simp only[XL,r1.c7.1,Instr.sliceBound,asIntOf,Sem.run_bind,Sem.run_pure,Result.andThen_ok];rw[W0 ⟨c,aD⟩];rfl
 .simp at z
def il {m d r:Nat} {x:Option Opd} (h:bM e m d x=ak r) (k:d<=m):r<=m:=by rcases ny h with ⟨_,rfl⟩ | ⟨_,_,_,_,_,_,_,rfl⟩<;>omega
def Hp (h:kN x y=aq):x.isSome=y.isSome:=by unfold kN at h;split at h<;>simp_all
def qE (s:bH dl N I β e H a w) {t E:TypeId} (K:eV P t=ak E) (c:du P E=ak k)
  (j:kN lo g=aq) (n:kN i f=aq)
  (q:bM e m len f=ak h) (hm:m<=cap) (r:bM e h 0 g=ak l) :
  (Instr.sliceAt t (.slice p len cap) (lo.map a.eval) (i.map a.eval) an).run P w = .ok (.slice (if cap=l then p else p.map (·.add (l*k))) (h - l) (cap - l)) w:=by
 have z:=pL (P:=P) (code := .sliceAcap) s n q hm;have x:=pL (P:=P) (code := .sliceB) s j r (WY _);simp only[Instr.sliceAt,Sem.run_bind,run_underlying (db K),Result.andThen_ok,Instr.slice,Instr.sliceBounds,Yj,Option.isSome_none,W3,YC];simp only[Sem.run_pure,Result.andThen_ok];cases b:i.map a.eval with
 | none =>
  rw[b] at z;simp only[Sem.run_pure,Result.ok.injEq,aaV] at z;subst z;cases y:lo.map a.eval with
  | none=>rw[y] at x;simp only[Sem.run_pure,Result.ok.injEq,aaV] at x;subst x;simp[run_sizeOf c]
  | some vl=>rw[y] at x;simp only at x;simp[x,run_sizeOf c]
 | some X =>
  rw[b] at z;simp only at z;cases y:lo.map a.eval with
  | none=>rw[y] at x;simp only[Sem.run_pure,Result.ok.injEq,aaV] at x;subst x;simp[z,run_sizeOf c]
  | some vl=>rw[y] at x;simp only at x;simp[z,x,run_sizeOf c]
def Bt (s:bH dl N I β e H a w) {t E:TypeId} (J:eV P t=ak E) (X:du P E=ak k)
  (A:kN lo n=aq) (r:kN K b=aq) (B:cT W f=aq) (G:b.isSome=aq)
  (hm:bM e M 0 (ak f)=ak m) (C:M<=cap) (D:bM e m 0 b=ak h) (F:bM e h 0 n=ak l) :
  (Instr.sliceAt t (.slice p len cap) (lo.map a.eval) (K.map a.eval) (ak (a.eval W))).run P w = .ok (.slice (if m=l then p else p.map (·.add (l*k))) (h - l) (m - l)) w:=by
 have q:=pL (P:=P) (code := .slice3Acap) (x:=ak W) (y:=ak f) s B hm C;have g:=pL (P:=P) (code := .slice3B) s r D (WY _);have z:=pL (P:=P) (code := .slice3C) s A F (WY _);simp only[XL] at q;have i:(K.map a.eval).isSome=aq:=by rw[Option.isSome_map,Hp r,G]
 have ⟨L,j⟩:=YQ.1 i;rw[j] at g ⊢;simp only at g;simp only[Instr.sliceAt,Sem.run_bind,run_underlying (db J),Result.andThen_ok,Instr.slice,Instr.sliceBounds,Yj,abh];simp only[q,Result.andThen_ok,g];cases c:lo.map a.eval with
 | none=>rw[c] at z;simp only[Sem.run_pure,Result.ok.injEq,aaV] at z;subst z;simp[run_sizeOf X]
 | some vl=>rw[c] at z;simp only at z;simp[z,run_sizeOf X]
def Rel.cut {k:Nat} {f c:Bool} {xs:List (List AV)} {p:Option Addr} {cap m h l:Nat} (B:Rel I β (.seq k f xs) (.slice p (ae xs) cap)) (_:m<=cap) (X:h<=ae xs) (F:l<=h) (W:h<=m)
  (r:c=aq->m=h):Rel I β (.seq k c ((xs.take h).drop l)) (.slice (if m=l then p else p.map (·.add (l*k))) (h - l) (m - l)):=by
 have z:ae ((xs.take h).drop l)=h - l:=cE;by_cases E:h=l
 .have:(xs.take h).drop l=[]:=by apply Xy;omega
  rw[this];have:=Rel.gF (I:=I) (β:=β) (k:=k) (f:=c) (a:=if m=l then p else p.map (·.add (l*k))) (cap:=m - l) (fun g=>dp (r g));rw[show h - l=0 by omega];exact this
 .have n:xs≠[]:=by rintro rfl;simp at X;omega
  have ⟨G,q,s,_,_,t⟩:=B.ku;cases s;obtain ⟨b,off,D,rfl,A,K,hR⟩:=t n;rw[WX (by omega),XL,kp,<-z];have y:∀i j a,cJ ((xs.take h).drop l) i j=ak a->cJ xs (l+i) j=ak a:=by
   intro i j a e;simp only[cJ,YU,Zi] at e ⊢;split at e
   .exact e
   .simp at e
  refine Rel.seq (fun i j=>D (l+i) j) (fun x C=>A x (YW (Yv C))) (fun i j a e=>?_) (fun i j a e=>hR _ _ _ (y i j a e)) aD (fun g=>dp (r g));have:=K _ _ _ (y i j a e);rw[XF] at this;rw[show off+l*k+i*k+j=off+(l*k+i*k)+j by omega];exact this
def P7 (h:bB P o.op (.nj x lo hi mx k)=aq) (s:bH dl N I β e H a w) (hv:pv (.nj x lo hi mx k) e=ak v):Post I β H w v H ((execOp a.eval o).run P w):=by
 cases ho:o.op<;>simp only[ho,bB,W3,WZ] at h;rename_i t x' a0 T W;have ⟨⟨⟨⟨r,h1⟩,C⟩,D⟩,M⟩:=h;have ⟨E,F,r⟩:=eD r;simp at r;have r1:=s.x h1;have X:mx=an->W=an:=by rintro rfl;unfold kN at M;split at M<;>simp_all
 have J:∀y,mx=ak y->∃z,W=ak z/\cT z y=aq:=by rintro y rfl;unfold kN at M;split at M<;>simp_all
 have fin:∀rv,(Instr.sliceAt t (a.eval x') (a0.map a.eval) (T.map a.eval) (W.map a.eval)).run P w = .ok rv w->Rel I β v rv->Post I β H w v H ((execOp a.eval o).run P w):=by intro rv hr L;exact .same s.bm L (by simp[execOp,ho,hr])
 simp only[pv] at hv;generalize x.ev e=A at *;unfold lq at hv;split at hv
 .split at hv
  .have ⟨K,c,hv⟩:=W5.1 hv;have ⟨b,g,hv⟩:=W5.1 hv;simp at hv;subst hv;have j:=r1.jH;have S:K=0:=dp (il c (WY _));have U:b=0:=by have:=il g aD;omega
   subst S;subst U;have:=qE (P:=P) (w:=w) s F r C D (p:=an) (len:=0) (cap:=0) c (WY _) g;rw[X rfl,j] at fin;exact fin _ (bk this) .nil
  .simp at hv
 .split at hv
  .rename_i k' f xs G;subst G;have ⟨p,cap,j,hf,q,_⟩:=r1.ku;rw[j] at r1;split at hv
   .have ⟨K,c,hv⟩:=W5.1 hv;have ⟨b,g,hv⟩:=W5.1 hv;simp at hv;subst hv;have l:=il c (WY _);have m:=il g (XE _);have:=qE (P:=P) (w:=w) s F r C D (p:=p) (len:=ae xs) (cap:=cap) c q g;rw[X rfl,j] at fin;exact fin _ (bk this) (r1.cut (WY _) l m aD (fun h=>by simp at h;rw[hf h.1,h.2]))
   .rename_i m0;have ⟨m',O,hv⟩:=W5.1 hv;have ⟨K,c,hv⟩:=W5.1 hv;have ⟨b,g,hv⟩:=W5.1 hv;split at hv<;>simp at hv;rename_i V;subst hv;obtain ⟨z,rfl,hz⟩:=J _ rfl;have a1:=il O (XE _);have l:=il c (XE _);have m:=il g (XE _);have:=Bt (P:=P) (w:=w) s F r C D hz V (p:=p) (len:=ae xs) (cap:=cap) O q c g;rw[j] at fin;exact fin _ (bk this) (r1.cut aD aD m l (fun h=>by simp at h;exact h.symm))
  .simp at hv
 .split at hv
  .split at hv
   .rename_i k' id ver i n mo G;subst G;have ⟨K,c,hv⟩:=W5.1 hv;have ⟨b,g,hv⟩:=W5.1 hv;simp at hv;subst hv;have l:=il c (WY _);have m:=il g (XE _);obtain ⟨B,p,R,rfl,j,q,hp⟩:=r1.kj;have:=qE (P:=P) (w:=w) s F r C D (p:=p) (len:=n) (cap:=B.cap - i) c aD g;rw[X rfl,j] at fin;refine fin _ (bk this) ?_;by_cases hc:B.cap - i=b
    .rw[W0 hc,show K - b=0 by omega,show B.cap - i - b=0 by omega];exact .rP R aD
    .rw[WX hc];rcases hp with ⟨hn,rfl⟩ | ⟨h5,h6⟩
     .have:=Rel.sl (I:=I) (i:=i+b) (n:=K - b) R hn aD;rw[XL,kp,show B.off+i*B.k+b*B.k=B.off+(i+b)*B.k by rw[XF];omega,show B.cap - i - b=B.cap - (i+b) by omega];exact this
     .omega
   .simp at hv
  .split at hv
   .rename_i k' id ver i n mo m0 G;subst G;have ⟨m',O,hv⟩:=W5.1 hv;have ⟨K,c,hv⟩:=W5.1 hv;have ⟨b,g,hv⟩:=W5.1 hv;split at hv<;>simp at hv;rename_i V;subst hv;obtain ⟨z,rfl,hz⟩:=J _ rfl;obtain ⟨B,p,R,rfl,j,q,hp⟩:=r1.kj;have:=Bt (P:=P) (w:=w) s F r C D hz V (p:=p) (len:=n) (cap:=B.cap - i) O aD c g;rw[j] at fin;exact fin _ (bk this) .aY
   .simp at hv
 .simp at hv
def Sk (h:bB P o.op (.mx l)=aq) (s:bH dl N I β e H a w) (hv:pv (.mx l) e=ak v):Post I β H w v H ((execOp a.eval o).run P w):=by
 cases g:o.op<;>simp only[g,bB,W3,WZ] at h;rename_i c;have ⟨f,m⟩:=h;have x:c.callee = .builtin .max:=by unfold gR at f;split at f<;>simp_all
 have z:=fF s.env m;simp only[pv] at hv;generalize (l.map (Opd.ev e):List AV)=L at hv z;split at hv<;>simp at hv;subst hv;have b:=z.1
 match y:c.args.toList.map a.eval with
 | [p,q] =>
  rw[y] at z;have i:=z.head.c7.1;have j:=z.tail.head.c7.1;have k:c.args.map a.eval=#[p,q]:=by apply Zx;simp[y]
  subst i j;exact .same s.bm (.c rfl) (by simp[execOp,g,resolve,x,k,invoke,builtin,Builtin.max_,Builtin.max2])
 | []=>simp[y] at b
 | [_]=>simp[y] at b
 | _::_::_::_=>simp[y] at b
def Si (h:bB P o.op (.mn l)=aq) (s:bH dl N I β e H a w) (hv:pv (.mn l) e=ak v):Post I β H w v H ((execOp a.eval o).run P w):=by
 cases g:o.op<;>simp only[g,bB,W3,WZ] at h;rename_i c;have ⟨f,m⟩:=h;have x:c.callee = .builtin .min:=by unfold gR at f;split at f<;>simp_all
 have z:=fF s.env m;simp only[pv] at hv;generalize (l.map (Opd.ev e):List AV)=L at hv z;split at hv<;>simp at hv;subst hv;have b:=z.1
 match y:c.args.toList.map a.eval with
 | [p,q] =>
  rw[y] at z;have i:=z.head.c7.1;have j:=z.tail.head.c7.1;have k:c.args.map a.eval=#[p,q]:=by apply Zx;simp[y]
  subst i j;exact .same s.bm (.c rfl) (by simp[execOp,g,resolve,x,k,invoke,builtin,Builtin.min_,Builtin.min2])
 | []=>simp[y] at b
 | [_]=>simp[y] at b
 | _::_::_::_=>simp[y] at b
def v8 {t E:TypeId} (h:P.underlying t=ak (.slice E)) (p:Option Addr) (n c:Nat):(Op.equal t (.slice p n c) (.slice an 0 0)).run P w = .ok p.isNone w:=by unfold Op.equal;rw[show Op.maxDepth=9999+1 from rfl];unfold Op.equalIn;simp only[Sem.run_bind,run_underlying h,Result.andThen_ok];cases p<;>rfl
def PZ (h:bB P o.op (.fj neg x)=aq) (s:bH dl N I β e H a w) (hv:pv (.fj neg x) e=ak v):Post I β H w v H ((execOp a.eval o).run P w):=by
 cases z:o.op<;>simp only[z,bB,W3,WZ] at h;rename_i op t l f W;have ⟨⟨⟨K,y⟩,m⟩,i⟩:=h;have ⟨E,r⟩:=YQ.1 K;have hu:=db r;have X:f = .const (.slice an 0 0):=by unfold Jb at i;split at i<;>simp_all
 have r1:=s.x m;have j:∀p n c,(eqGuard op t l f (.slice p n c) (.slice an 0 0)).run P w = .ok () w:=by intro p n c;unfold eqGuard;cases op<;>rfl
 have key:∀p n c,a.eval l = .slice p n c->(execOp a.eval o).run P w = .ok (.value (.bool (neg ^^ p.isNone))) w:=by
  intro p n c k;have g:a.eval f = .slice an 0 0:=by rw[X];rfl
  unfold yC at y;split at y<;>simp at y
  .simp[execOp,z,k,g,j,binOp,v8 hu]
  .simp[execOp,z,k,g,j,binOp,v8 hu]
 simp only[pv] at hv;generalize x.ev e=A at *;split at hv<;>simp at hv
 .subst hv;have:=key _ _ _ r1.jH;exact .same s.bm (v := .v0 (!neg)) (.c rfl) (by rw[this];cases neg<;>rfl)
 .subst hv;have ⟨p,cap,k,_,_,q⟩:=r1.ku;obtain ⟨b,off,B,rfl,_⟩:=q aK;have:=key _ _ _ k;exact .same s.bm (v := .v0 neg) (.c rfl) (by rw[this];cases neg<;>rfl)
 .subst hv;exact .same s.bm (.c rfl) (key _ _ _ r1.c7.1)
end
section
variable {P:Program} {dl:List Deferred} {fo:Option Nat} {N:Nat} {I:Imm} {β:Bet} {e:Env} {H H':aE} {a:Act} {w:World} {o:Oper} {v:AV}
def mI (I:Imm) (β:Bet) (w:World) (b off:Nat) (cs:List AV):Prop:=∀(j:Nat) a,cs[j]?=ak a->∃v,w.cell? ⟨b,off+j,an⟩=ak v/\Rel I β a v
def pg {t:TypeId} (m:gi P t=ak ag) (K:du P t=ak k) (r:mI I β w b off cs) (h:fm ag cs z k=ak v) :
  ∃rv,(loadVar t ⟨b,off+z,an⟩).run P w = .ok rv w/\Rel I β v rv:=by
 unfold fm at h;split at h
 .rename_i x;subst x;split at h<;>simp at h;rename_i X;subst h;let f:=(aC k).map fun j=>(w.cell? ⟨b,off+z+j,an⟩).getD undef;have p:∀j,j < k->∃v,w.cell? ⟨b,off+z+j,an⟩=ak v/\Rel I β (cs.getD (z+j) .aY) v/\f[j]?=ak v:=by
   intro j n;have s:cs[z+j]?=ak (cs.getD (z+j) .aY):=by simp[af,show z+j < ae cs by omega]
   have ⟨v,x,i⟩:=r (z+j) _ s;rw[<-XY] at x;exact ⟨v,x,i,by simp[f,n,x]⟩
  have c:ae f=k:=by simp[f]
  have y:=CV (P:=P) (w:=w) (b:=b) (o:=off+z) f (fun j v e=>by have n:j < k:=c ▸ (W9.1 e).1;have ⟨W,x,_,l⟩:=p j n;rw[l] at e;cases e;exact x);rw[c] at y;refine ⟨.agg f.toArray,by simp[loadVar,ni m,run_sizeOf K,y],.agg cE (fun j a v g q=>?_)⟩;rw[Zi] at g;split at g
  .rename_i n;have ⟨W,x,i,l⟩:=p j n;rw[l] at q;cases q;rw[YU] at g;have:cs.getD (z+j) .aY=a:=by simp[af,g]
   rw[<-this];exact i
  .simp at g
 .rename_i x;simp at x;subst x;have ⟨rv,i,l⟩:=r z v h;exact ⟨rv,by simp[loadVar,ni m,i],l⟩
def ct {id ver:Nat} {ob:bC} (h:aH H id ver=ak ob):H[id]?=ak (ak ob)/\ob.ver=ver:=by
 unfold aH at h;split at h
 .rename_i x k;split at h<;>simp at h;subst h;exact ⟨k,‹_›⟩
 .simp at h
def Sim.row (s:Sim I β H w) {id ver:Nat} {ob:bC} (h:aH H id ver=ak ob) {B:Blk} (t:β id ver=ak B) (K:B.eS=ar) {i:Nat} {x:List AV} (f:ob.xs[i]?=ak x) :
  mI I β w B.b (B.off+i*B.k) x:=by
 obtain ⟨r,rfl⟩:=ct h;obtain ⟨W,g,F,y⟩:=s.obj id ob r;rw[t] at g;cases g;unfold dG at y;rw[WX (by simp[K])] at y;have ⟨c,E,n,A,C,D,p,q⟩:=y;intro j a l;have hi:=(W9.1 f).1;have X:=p x (XJ f);have G:=(W9.1 l).1;have z:B.off+i*B.k+j < c.size:=by have:(i+1)*B.k<=B.cap*B.k:=XK _ aD;rw[XF] at this;omega
 have m:=Xp z;exact ⟨_,BN n m,q i j a _ (by simp[cJ,f,l]) m⟩
def IY (s:Sim I β H w) {cs:List AV} {b off:Nat} {vs:Nat->Value} (h:∀j a,cs[j]?=ak a->I b (off+j)=ak (vs j)) (k:∀j a,cs[j]?=ak a->Rel I eW a (vs j)) :
  mI I β w b off cs:=fun j a e=>⟨_,s.ef.cell (h j a e),(k j a e).mono (.refl _) (Jl _)⟩
def Oz (h:bB P o.op (.ld x ag k)=aq) (s:bH dl N I β e H a w) (hv:hv (.ld x ag k) e H=ak (v,H')):Post I β H w v H' ((execOp a.eval o).run P w):=by
 cases i:o.op<;>simp only[i,bB,W3,WZ,X2] at h;rename_i t D;have ⟨⟨y,m⟩,n⟩:=h;have r1:=s.x n;simp only[Fx.hv] at hv;generalize x.ev e=A at *;split at hv
 .have ⟨u,l,z⟩:=Xi.1 hv;simp at z;obtain ⟨rfl,rfl⟩:=z;have ⟨b,off,C,c,_,p,q⟩:=r1.AL;have ⟨rv,f,g⟩:=pg y m (IY s.bm p q) l;exact .same s.bm g (by simp[execOp,i,c,Instr.loadAt,Instr.sureAddr,f])
 .have ⟨W,j,hv⟩:=W5.1 hv;have ⟨E,X,hv⟩:=W5.1 hv;have ⟨u,l,z⟩:=Xi.1 hv;simp at z;obtain ⟨rfl,rfl⟩:=z;have ⟨B,r,K,c⟩:=r1.qN;have ⟨rv,f,g⟩:=pg y m (s.bm.row j r K X) l;exact .same s.bm g (by simp[execOp,i,c,Instr.loadAt,Instr.sureAddr,f])
 .simp at hv
def P4 (h:bB P o.op (.xB x ag k)=aq) (s:bH dl N I β e H a w) (hv:pv (.xB x ag k) e=ak v):Post I β H w v H ((execOp a.eval o).run P w):=by
 refine Oz (x:=x) (ag:=ag) (k:=k) ?_ s ?_
 .cases y:o.op<;>simp only[y,bB,W3] at h ⊢;exact h
 .simp only[pv] at hv;simp only[Fx.hv];split at hv
  .rename_i b c z;simp only[z,hv];rfl
  .simp at hv
def Ly (h:bB P o.op g=aq) (s:bH dl N I β e H a w) (hv:pv g e=ak v):Post I β H w v H ((execOp a.eval o).run P w):=by
 cases g with
 | mv x=>simp[pv] at hv;subst hv;exact Sj h s
 | pick c x y=>exact O2 h s hv
 | box x=>exact PX h s hv
 | bd z m=>exact Sa h s hv
 | bs k m=>exact Sb h s hv
 | nc x=>exact Sl h s hv
 | bin op x y=>exact PW h s hv
 | beq n x y=>exact PV h s hv
 | un op x=>exact Sn h s hv
 | cv k x=>exact Sc h s hv
 | mf f x y=>simp[pv] at hv;subst hv;exact Sh h s
 | A9 k z l=>exact P6 h s hv
 | nj x r p mx k=>exact P7 h s hv
 | fa x j=>exact Se h s hv
 | fd x j b k=>exact Sf h s hv
 | vX x i k=>exact P0 h s hv
 | CF x i n k=>exact P1 h s hv
 | ix x i n k b=>exact Sg h s hv
 | ex x i=>exact Sd h s hv
 | len x=>exact P5 h s hv
 | mx l=>exact Sk h s hv
 | mn l=>exact Si h s hv
 | fj n x=>exact PZ h s hv
 | Cr n q x y=>exact PY h s hv
 | AN t x=>exact P3 h s hv
 | xB x b k=>exact P4 h s hv
 | _=>simp[pv] at hv
def qK {x:Bet} {o:Option bC} (h:∀id ver,id≠ae H->x id ver=β id ver):∀(id ver:Nat),(H++[o])[id]?=H[id]?->x id ver=β id ver:=by intro id ver y;refine h id ver fun k=>?_;subst k;simp at y
def xE (s:Sim I β H w) (l:w'.heap=w.heap.push (.cells c E)) (W:w'.os=w.os) (C:w'.tape=w.tape) (A:w'.output=w.output)
  (B:bJ I β xs.flatten vs) (X:∀(j:Nat) v,vs[j]?=ak v->c[j]?=ak v)
  (z:∀x,x∈xs->ae x=k/\x.all bh=aq) (y:ae xs<=cap) (n:cap*k<=c.size) :
  ∃f,Sim I f (H++[ak ⟨k,0,xs⟩]) w'/\Ext I β H w I f (H++[ak ⟨k,0,xs⟩]) w'/\f (ae H) 0=ak ⟨w.heap.size,0,cap,k,ar⟩/\∀id ver,id≠ae H->f id ver=β id ver:=by have m:=pM (s.px (ver:=0) (WY (ae H))) ⟨w.heap.size,0,cap,k,ar⟩;have:=s.live (w':=w') ⟨k,0,xs⟩ ⟨w.heap.size,0,cap,k,ar⟩ rfl rfl (by simp[l]) (fun b K=>l ▸ k9 _ _ K) W C A (fun _=>WY _) (by unfold dG;simp only[W3,YC];refine ⟨c,E,by rw[l];simp,fun o=>s.ef.xF (WY _) o,bk n,y,z,?_⟩;intro i j a v p g;have q:=gE (fun x D=>(z x D).1) p;have ⟨F,r,t⟩:=B.get q;have:=X _ _ r;simp only[Xb] at g;rw[this] at g;cases g;exact t.mono (.refl _) m);exact ⟨_,this.1,this.2,by simp[ey],fun id ver h=>by simp[ey,h]⟩
def uW (s:Sim I β H w) (g:bJ I β xs.flatten vs) (f:∀(j:Nat) v,vs[j]?=ak v->c[j]?=ak v)
  (b:∀x,x∈xs->ae x=k/\x.all bh=aq) (h:ae xs<=cap) (z:cap*k<=c.size) :
  ∃y,Sim I y (H++[ak ⟨k,0,xs⟩]) (World.iL w c E)/\Ext I β H w I y (H++[ak ⟨k,0,xs⟩]) (World.iL w c E)/\y (ae H) 0=ak ⟨w.heap.size,0,cap,k,ar⟩/\∀id ver,id≠ae H->y id ver=β id ver :=
 xE s rfl rfl rfl rfl g f b h z
def PI (h:bB P o.op (.new k z)=aq) (s:bH dl N I β e H a w) (hv:hv (.new k z) e H=ak (v,H')):Post I β H w v H' ((execOp a.eval o).run P w):=by
 cases f:o.op<;>simp only[f,bB,W3,WZ,X2] at h;rename_i t;have ⟨l,r⟩:=h;simp only[Fx.hv] at hv;split at hv<;>simp at hv;rename_i g;obtain ⟨rfl,rfl⟩:=hv;have ⟨zv,y,_,x⟩:=rN (w:=w) l;have m:zv.cells.size=k:=by have:=(x I β).1;simp at this;omega
 have ⟨K,p,q,n,b⟩:=uW (E:=t) (c:=zv.cells) (xs:=[z]) (vs:=zv.cells.toList) (k:=k) (cap:=1) s.bm (bk (x I β)) (fun j v e=>bk e) (bk g) aK aD;refine ⟨.value (.pointer (ak ⟨w.heap.size,0,an⟩)),_,_,_,?_,q,p,?_,qK b⟩
 .simp[execOp,f,Instr.alloc,y,newVar,newRow,World.iL]
 .have:=Rel.ptr (I:=I) (i:=0) (o:=0) n rfl;simpa[qj] using this
def Oy (h:bB P o.op (.nz x)=aq) (s:bH dl N I β e H a w) (hv:hv (.nz x) e H=ak (v,H')):Post I β H w v H' ((execOp a.eval o).run P w):=by
 cases f:o.op<;>simp only[f,bB,W3] at h;rename_i E y;simp only[Fx.hv] at hv;split at hv<;>simp at hv;rename_i b;obtain ⟨rfl,rfl⟩:=hv;have g:=(s.x h).cellsOf (nG b rfl);have ⟨p,m,n,l,z⟩:=uW (E:=E) (c:=(a.eval y).cells) (xs:=[(x.ev e).cells]) (vs:=(a.eval y).cells.toList) (k:=(x.ev e).cells.length) (cap:=1) s.bm (bk g) (fun j v e=>bk e)
  (bk b) aK (by have:=g.1;simp at this;omega);refine ⟨.value (.pointer (ak ⟨w.heap.size,0,an⟩)),_,_,_,?_,n,m,?_,qK z⟩
 .simp[execOp,f,Instr.box,newVar,newRow,World.iL]
 .have:=Rel.ptr (I:=I) (i:=0) (o:=0) l rfl;simpa[qj] using this
def PF (h:bB P o.op (.qe k b)=aq) (s:bH dl N I β e H a w) (hv:hv (.qe k b) e H=ak (v,H')):Post I β H w v H' ((execOp a.eval o).run P w):=by
 cases B:o.op<;>simp only[B,bB,W3,WZ,X2,Xm] at h;rename_i t len parts;obtain ⟨⟨⟨p,rfl⟩,D⟩,r⟩:=h;have ⟨E,C,p⟩:=eD p;simp only[Fx.hv] at hv;split at hv<;>simp at hv;rename_i f;obtain ⟨rfl,rfl⟩:=hv;have y:=fun q g=>W6.1 f q g;simp only[WZ,X2] at y;have ⟨c,l,z⟩:=ud s C p D r (fun q g=>(y q g).2) (fun q g=>nG (y q g).1 rfl);have m:∀x,x∈(b.map fun q=>(q.ev e).cells)->ae x=k/\x.all bh=aq:=by intro x X;obtain ⟨q,A,rfl⟩:=Xf.1 X;exact ⟨(y q A).2,(y q A).1⟩
 have K:=c9 (fun x X=>(m x X).1);have ⟨L,G,J,F,W⟩:=uW (E:=E) (c:=c) (xs:=b.map fun q=>(q.ev e).cells) (vs:=c.toList) (k:=k) (cap:=ae b) s.bm z (fun j v e=>bk e) m aK
  (by have:=z.1;rw[K] at this;simp at this;omega);refine ⟨.value (.slice (ak ⟨w.heap.size,0,an⟩) (ae b) (ae b)),_,_,_,by simp[execOp,B,l],J,G,?_,qK W⟩;have:=Rel.sl (I:=I) (i:=0) (n:=ae b) F rfl aK;simpa[qj] using this
def RF (h:bB P o.op (.mk k z l c)=aq) (s:bH dl N I β e H a w) (hv:hv (.mk k z l c) e H=ak (v,H')):Post I β H w v H' ((execOp a.eval o).run P w):=by
 cases L:o.op<;>simp only[L,bB,W3,WZ] at h;rename_i t l' c';have ⟨⟨g,R⟩,S⟩:=h;have ⟨E,T,g⟩:=eD g;simp only[WZ] at g;have r1:=s.x R;have r2:=s.x S;simp only[Fx.hv] at hv;generalize l.ev e=A at *;generalize c.ev e=B at *;split at hv
 .split at hv<;>simp at hv;rename_i n m U;have ⟨C,D,F,X,f⟩:=U;obtain ⟨rfl,rfl⟩:=hv;have M:=r1.c7.1;have O:=r2.c7.1;have ⟨W,q,b⟩:=run_makeSlice (w:=w) T g.1 g.2 C D F;have K:∀x,x∈(aA n.toNat z)->ae x=k/\x.all bh=aq:=by intro x r;rw[X7 r];exact ⟨X,f⟩
  have V:W.size=m.toNat*k:=by have:=(b I β).1;rw[c9 (k:=k) (fun x r=>by rw[X7 r];exact X)] at this;simp at this;omega
  have y:(aA m.toNat z).flatten=(aA n.toNat z).flatten++(aA (m.toNat - n.toNat) z).flatten:=by rw[<-aab,List.replicate_append_replicate];congr 2;omega
  have p:=c9 (fun x r=>(K x r).1);have G:bJ I β (aA n.toNat z).flatten (W.toList.take (n.toNat*k)):=by have:=(b I β).take (n.toNat*k);rw[y,YP (by rw[p];simp),Xq (by rw[p];simp)] at this;exact this
  have ⟨a1,s',x',a0,J⟩:=uW (E:=E) (c:=W) (xs:=aA n.toNat z) (vs:=W.toList.take (n.toNat*k)) (k:=k) (cap:=m.toNat) s.bm G (fun j v e=>by rw[Zi] at e;split at e<;>simp at e;simpa using e) K cE aD;refine ⟨.value (.slice (ak ⟨w.heap.size,0,an⟩) n.toNat m.toNat),_,_,_,by simp[execOp,L,M,O,q],x',s',?_,qK J⟩;have:=Rel.sl (I:=I) (i:=0) (n:=n.toNat) a0 rfl cE;simpa[qj] using this
 .simp at hv
end
end Go.Fx
