/- Contracts of functions of the loaded program, and the lemmas that they need (part 1). It proves no statement by itself; it has no conditions. -/
import Derived.WalkKit
import Derived.Orders
import Derived.Deep.LoopGhost
import Derived.IntWalk
import Derived.Laws.StructEq
import Derived.ArgAppend
import Derived.Deep.AppendSrc
import Derived.Lib.Bytealg
import Derived.Lib.BytesEntry
import Derived.Laws.IdiomStrings
import Derived.WideKeyArr2
import Derived.ProofKit
import Derived.OpenShut
import Derived.Deep.Slices
import Derived.Laws.Pointers
import Derived.Laws.Cover3
import Derived.LaidEqlPtr
import Derived.LoopN
import Derived.RangeFuncLeaves
import Derived.RangeFuncSeq
import Derived.OrdersIn
import Derived.Maps.Keyed
import Derived.Maps.RangeRun
import Derived.DeepKeys4
import Derived.Below
import Derived.Test.YtbdfihcjddbhaaaGreatRows
import Derived.KernelRfl
import Derived.Laws.Externs
import Derived.Defers
import Derived.Laws.MathBits
import Derived.Shelf.SlSortCmp.WholeK
import Derived.Shelf.SlGeneric
import Derived.Test.YtbdfihcjddbhaaaGreatProg
import Derived.Shelf.SlSortCmp.NoneTotal
import Derived.Deep.QuietTactic
import Derived.BigQuiet
import Derived.ScopeJumps
import Derived.DeepKeys3
import Derived.ChangeOld
import Derived.JoinedOf
set_option maxRecDepth 100000
set_option maxHeartbeats 8000000
set_option linter.unusedVariables false
set_option linter.unusedSimpArgs false
set_option linter.unusedSectionVars false
set_option linter.unnecessarySimpa false
namespace Hw
abbrev La0:= @List.length_map
abbrev La1:= @List.mem_singleton
abbrev La2:= @List.getD_eq_getElem?_getD
abbrev La3:= @Option.some.injEq
abbrev La4:= @List.getElem?_eq_getElem
abbrev La5:= @List.length_append
abbrev La6:= @List.mem_map
abbrev La7:= @List.take_of_length_le
abbrev La8:= @List.append_assoc
abbrev La9:= @List.mem_cons_self
abbrev Laa:= @List.mem_cons_of_mem
abbrev Lab:= @List.getElem?_eq_some_iff
abbrev Lac:= @List.mem_append
abbrev Lad:= @Nat.mod_eq_of_lt
abbrev Lae:= @List.map_append
abbrev Laf:= @Nat.le_refl
abbrev Lag:= @List.mem_cons
abbrev Lah:= @List.drop_of_length_le
abbrev Lai:= @List.getElem?_map
abbrev Laj:= @Nat.zero_le
abbrev Lak:= @List.append_nil
abbrev Lal:= @List.nil_append
abbrev Lam:= @List.getElem?_eq_none
abbrev Lan:= @Bool.and_eq_true
abbrev Lao:= @List.map_cons
abbrev Lap:= @List.cons_append
abbrev Laq:= @Nat.div_div_eq_div_mul
abbrev Lar:= @List.length_take
abbrev Las:= @List.eq_nil_of_length_eq_zero
abbrev Lat:= @Nat.lt_or_ge
abbrev Lau:= @List.getElem?_append_right
abbrev Lav:= @List.nodup_append
abbrev Law:= @UInt8.toNat_ofNat'
abbrev Lax:= @List.mem_append_left
abbrev Lay:= @List.getElem?_append_left
abbrev Laz:= @List.take_succ_eq_append_getElem
abbrev Lb0:= @List.nodup_cons
abbrev Lb1:= @Array.getElem?_setIfInBounds_self_of_lt
abbrev Lb2:= @Nat.zero_add
abbrev Lb3:= @Nat.mul_one
abbrev Lb4:= @Nat.pow_succ
abbrev Lb5:= @Nat.mul_comm
abbrev Lb6:= @List.mem_append_right
abbrev Lb7:= @Nat.div_eq_of_lt
abbrev Lb8:= @Nat.lt_of_lt_of_le
abbrev Lb9:= @List.getElem?_drop
abbrev Lba:= @Nat.pow_add
abbrev Lbb:= @Nat.le_trans
abbrev Lbc:= @UInt64.toNat_add
abbrev Lbd:= @List.take_append
abbrev Lbe:= @List.drop_append
abbrev Lbf:= @Nat.add_mul_mod_self_left
abbrev Lbg:= @UInt64.toNat_inj
abbrev Lbh:= @List.length_cons
abbrev Lbi:= @Nat.add_mul_div_left
abbrev Lbj:= @Option.map_some
abbrev Lbk:= @Nat.mul_assoc
abbrev Lbl:= @List.drop_eq_getElem_cons
abbrev Lbm:= @Nat.pow_pos
abbrev Lbn:= @List.getElem?_take
abbrev Lbo:= @Nat.mod_lt
abbrev Lbp:= @Option.getD_some
abbrev Lbq:= @List.length_singleton
abbrev Lbr:= @Option.bind_some
abbrev Lbs:= @List.mem_of_getElem?
abbrev Lbt:= @List.length_set
abbrev Lbu:= @List.findIdx?_eq_some_iff_getElem
abbrev Lbv:= @List.nodup_nil
abbrev Lbw:= @UInt64.toNat_ofNat'
abbrev Lbx:= @Array.getElem?_push
abbrev Lby:= @Nat.add_zero
abbrev Lbz:= @Nat.testBit_eq_decide_div_mod_eq
abbrev Lc0:= @List.length_drop
abbrev Lc1:= @Nat.mul_le_mul_left
abbrev Lc2:= @Nat.mul_add
abbrev Lc3:= @Nat.add_mul
abbrev Lc4:= @Array.getElem?_eq_none
abbrev Lc5:= @Nat.pow_le_pow_right
abbrev Lc6:= @List.not_mem_nil
abbrev Lc7:= @Nat.add_assoc
abbrev Lc8:= @List.pairwise_iff_getElem
abbrev Lc9:= @List.getElem_mem
abbrev Lca:= @Nat.mul_le_mul
abbrev Lcb:= @List.Perm.refl
abbrev Lcc:= @Nat.and_two_pow_sub_one_eq_mod
abbrev Lcd:= @List.singleton_append
abbrev Lce:= @List.map_take
abbrev Lcf:= @List.flatten_append
abbrev Lcg:= @List.all_eq_true
abbrev Lch:= @List.flatten_cons
abbrev Lci:= @List.ext_getElem?
abbrev Lcj:= @Nat.min_eq_left
abbrev Lck:= @Nat.eq_of_beq_eq_true
abbrev Lcl:= @List.Perm.append_left
abbrev Lcm:= @Bool.or_eq_true
abbrev Lcn:= @List.getElem?_set
abbrev Lco:= @Array.getElem?_setIfInBounds_ne
abbrev Lcp:= @Array.getElem?_eq_some_iff
abbrev Lcq:= @Array.getElem?_append_left
abbrev Lcr:= @List.pairwise_cons
abbrev Lcs:= @UInt8.toNat_inj
abbrev Lct:= @Array.getElem?_eq_getElem
abbrev Lcu:= @List.mem_flatten
abbrev Lcv:= @List.getD_cons_succ
abbrev Lcw:= @Array.length_toList
abbrev Lcx:= @List.take_append_drop
abbrev Lcy:= @List.length_replicate
abbrev Lcz:= @Array.getElem?_modify
abbrev Ld0:= @Nat.two_pow_add_eq_or_of_lt
abbrev Ld1:= @Nat.div_le_self
abbrev Ld2:= @List.mem_filter
abbrev Ld3:= @Int.natCast_add
abbrev Ld4:= @Nat.lt_trans
abbrev Ld5:= @List.Perm.append_right
abbrev Ld6:= @List.getD_cons_zero
abbrev Ld7:= @List.take_zero
abbrev Ld8:= @Nat.pow_zero
abbrev Ld9:= @Nat.le_of_ble_eq_true
abbrev Lda:= @Nat.div_lt_iff_lt_mul
abbrev Ldb:= @List.set_append_right
abbrev Ldc:= @List.find?_eq_some_iff_getElem
abbrev Ldd:= @List.eraseIdx_sublist
abbrev Lde:= @Array.getElem?_toList
abbrev Ldf:= @UInt64.toNat_mul
abbrev Ldg:= @Nat.one_mul
abbrev Ldh:= @List.take_length
abbrev Ldi:= @List.take_append_of_le_length
abbrev Ldj:= @List.drop_append_of_le_length
abbrev Ldk:= @Nat.mul_le_mul_right
abbrev Ldl:= @List.length_eraseIdx
abbrev Ldm:= @List.getElem?_append
abbrev Ldn:= @List.getElem?_cons_succ
abbrev Ldo:= @Array.getElem?_setIfInBounds
abbrev Ldp:= @Nat.add_comm
abbrev Ldq:= @List.map_set
abbrev Ldr:= @Bool.not_eq_true'
abbrev Lds:= @Array.toList_modify
abbrev Ldt:= @Array.getD_eq_getD_getElem?
abbrev Ldu:= @List.ext_getElem
abbrev Ldv:= @List.set_cons_zero
abbrev Ldw:= @List.map_drop
abbrev Ldx:= @Int.natCast_nonneg
abbrev Ldy:= @Array.ext_getElem?
abbrev Ldz:= @List.mem_range
abbrev Le0:= @List.findIdx?_eq_none_iff
abbrev Le1:= @UInt8.toNat_toUInt64
abbrev Le2:= @Nat.div_lt_of_lt_mul
abbrev Le3:= @List.mem_of_mem_take
abbrev Le4:= @List.getElem?_set_ne
abbrev Le5:= @List.pairwise_map
abbrev Le6:= @List.eraseIdx_eq_take_drop_succ
abbrev Le7:= @Int.toNat_natCast
abbrev Le8:= @Array.getElem?_replicate
abbrev Le9:= @Nat.zero_mul
abbrev Lea:= @List.getElem!_eq_getElem?_getD
abbrev Leb:= @Array.eq_empty_of_size_eq_zero
abbrev Lec:= @Nat.mul_mod
abbrev Led:= @Nat.div_one
abbrev Lee:= @Nat.add_mod
abbrev Lef:= @List.getElem?_replicate
abbrev Leg:= @List.getElem?_cons_zero
abbrev Leh:= @List.perm_middle
abbrev Lei:= @List.getElem?_replicate_of_lt
abbrev Lej:= @List.drop_zero
abbrev Lek:= @List.getElem?_set_self
abbrev Lel:= @Nat.mod_mod_of_dvd
abbrev Lem:= @UInt8.lt_iff_toNat_lt
abbrev Len:= @UInt64.toNat_or
abbrev Leo:= @UInt64.toNat_lt
abbrev Lep:= @Option.some.inj
abbrev Leq:= @Nat.sub_self
abbrev Ler:= @Nat.mod_add_div
abbrev Les:= @List.perm_append_comm
abbrev Let:= @List.map_nil
abbrev Leu:= @List.length_nil
abbrev Lev:= @List.cons.injEq
abbrev Lew:= @Bool.eq_iff_iff
abbrev Lex:= @List.size_toArray
abbrev Ley:= @List.foldl_append
abbrev Lez:= @Nat.mod_mul_right_div_self
abbrev Lf0:= @Int.fdiv_eq_ediv_of_nonneg
abbrev Lf1:= @List.replicate_succ'
abbrev Lf2:= @List.mem_or_eq_of_mem_set
abbrev Lf3:= @List.mem_of_find?_eq_some
abbrev Lf4:= @Nat.le_add_right
abbrev Lf5:= @Nat.mod_one
abbrev Lf6:= @List.replicate_succ
abbrev Lf7:= @List.filter_eq_self
abbrev Lf8:= @Fin.ext
abbrev Lf9:= @Array.toList_filter
abbrev Lfa:= @Nat.sub_zero
abbrev Lfb:= @Nat.mul_zero
abbrev Lfc:= @Nat.lt_succ_iff_lt_or_eq
abbrev Lfd:= @Array.size_setIfInBounds
abbrev Lfe:= @Nat.lt_of_le_of_lt
abbrev Lff:= @Nat.div_add_mod
abbrev Lfg:= @Nat.add_sub_cancel_left
abbrev Lfh:= @List.set_cons_succ
abbrev Lfi:= @List.Nodup.sublist
abbrev Lfj:= @Array.all_eq_true_iff_forall_mem
abbrev Lfk:= @Nat.mod_eq_zero_of_dvd
abbrev Lfl:= @Nat.dvd_of_mod_eq_zero
abbrev Lfm:= @UInt8.ofNat_toNat
abbrev Lfn:= @Option.isSome_map
abbrev Lfo:= @Array.toList_push
abbrev Lfp:= @UInt64.or_comm
abbrev Lfq:= @Nat.le_of_lt
abbrev Lfr:= @Array.getElem?_mapIdx
abbrev Lfs:= @UInt64.toNat_and
abbrev Lft:= @List.filter_cons
abbrev Lfu:= @List.getElem?_of_mem
abbrev Lfv:= @List.contains_eq_mem
abbrev Lfw:= @Nat.pow_mul
abbrev Lfx:= @List.getElem_of_mem
abbrev Lfy:= @List.foldl_cons
abbrev Lfz:= @Int.natCast_mul
abbrev Lg0:= @Fin.val_mul
abbrev Lg1:= @Nat.lt_or_eq_of_le
abbrev Lg2:= @Nat.add_sub_cancel
abbrev Lg3:= @List.findIdx?_cons
abbrev Lg4:= @List.find?_eq_none
abbrev Lg5:= @List.filter_append
abbrev Lg6:= @Nat.blt_eq
abbrev Lg7:= @List.mem_range'_1
abbrev Lg8:= @Prod.mk.injEq
abbrev Lg9:= @Nat.two_mul
abbrev Lga:= @Nat.pow_mod
abbrev Lgb:= @Nat.mod_mul
abbrev Lgc:= @Nat.le_of_dvd
abbrev Lgd:= @List.sum_cons
abbrev Lge:= @UInt64.toNat_sub
abbrev Lgf:= @Option.getD_none
abbrev Lgg:= @List.flatten_nil
abbrev Lgh:= @Nat.le_of_eq
abbrev Lgi:= @List.map_map
abbrev oPq(l:List Nat):List (Nat×Nat):=l.map fun n=>(n/100,n%100)
theorem wN{p:Prop}(h:p:=by repeat(first|exact wk0|refine wk1 rfl ?_)):p:=h
theorem wM{p:Prop}(h:p:=by repeat(first|exact wh0|refine wh1 mM ?_)):p:=h
theorem pN{p:Prop}(h:p:=by repeat(first|exact Ak|refine Ab rM ?_|refine Ad sG ?_)):p:=h
end Hw
namespace Hw
variable{p:Prop}
theorem J{α:Sort _}{a:α}:a=a:=rfl
theorem mM(h:p:=by first|exact B0|exact mem1|exact mem2|exact mem3|exact mem4|exact mem5|exact mem6|exact mem7|(repeat(first|exact La9|refine Laa _ ?_|refine mem_seg ?_))):p:=h
theorem uU(h:p:=by first|exact upd0|exact upd1|exact upd2|exact upd3|exact upd4|exact upd5|exact upd6|exact upd7|(repeat(first|exact upd0|apply Upd.tail|apply Upd.seg))):p:=h
theorem sG(h:p:=by repeat(first|exact sg_here|exact sg_end|apply sg_there|apply sg_seg)):p:=h
theorem rM(h:p:=by repeat(first|exact A7|apply rem_there|apply Cs)):p:=h
theorem iN(h:p:=by repeat(first|exact Bu|exact in_all|refine Cc ?_|refine in_seg ?_)):p:=h
theorem nD(h:p:=by repeat(first|exact ns_nil|refine ns_keep rfl ?_|refine ns_skip ?_)):p:=h
theorem mR(h:p:=by repeat(first|exact La9|refine Laa _ ?_|refine mem_seg ?_)):p:=h
theorem vL(h:p:=by first|rfl|exact Ch (by first|omega|(simp;done)|(simp;omega))|exact Br (by first|omega|(simp;done)|(simp;omega))|exact get_ints (by first|omega|(simp;done)|(simp;omega))):p:=h
theorem sT(h:p:=by first|exact A8 _ _ _|exact Bd _ _ _|exact set_ints _ _ _|rfl):p:=h
theorem lN(h:p:=by first|(simp;done)|assumption|(rw[Aa,La0];assumption)):p:=h
theorem cB(h:p:=by first|exact Av _|simp[isCell]):p:=h
theorem sO(h:p:=by first|(simp;done)|(simp;omega)):p:=h
theorem lO(h:p:=by intro m hm;exact⟨_,La1.2 rfl,(La1.1 hm).symm⟩):p:=h
theorem oM(h:p:=by omega):p:=h
theorem dE(h:p:=by decide):p:=h
theorem sP(h:p:=by simp):p:=h
theorem Z0(h:p:=by exact B0):p:=h
theorem Z1(h:p:=by exact mem1):p:=h
theorem Z2(h:p:=by exact mem2):p:=h
theorem Z3(h:p:=by exact mem3):p:=h
theorem Z4(h:p:=by exact mem4):p:=h
theorem zU(h:p:=by exact upd0):p:=h
theorem zV(h:p:=by exact upd1):p:=h
theorem zK(h:p:=by kernel_rfl):p:=h
theorem zE(h:p:=by exact Av _):p:=h
theorem zA(h:p:=by assumption):p:=h
theorem zF(h:p:=by(simp[Am];done)):p:=h
theorem zB(h:p:=by simp[isCell]):p:=h
theorem zW(h:p:=by(simp[W5.l_length];done)):p:=h
theorem zP(h:p:=by exact ptc_ok _):p:=h
theorem zZ(h:p:=by exact Point.zero_ok):p:=h
theorem zT(h:p:=by exact Vote.zero_ok):p:=h
theorem zG(h:p:=by exact Br (by omega)):p:=h
theorem oK(h:p:=by first|assumption|(simp;done)|exact Block.zero_ok|exact Vote.zero_ok|exact Reader.zero_ok|exact Cut.zero_ok|exact Cert.zero_ok|exact Msg.zero_ok|exact Inbox.zero_ok|exact Record.zero_ok|exact Kept.zero_ok|exact Point.zero_ok|exact wide.zero_ok|exact DEnt.zero_ok|exact DPl.zero_ok):p:=h
class UT(P:Go.Program)(T:Go.TypeId)(d:outParam (Option Go.TypeDesc)):Prop where h:P.underlying T=d
theorem uY{P:Go.Program}{T:Go.TypeId}{d:Option Go.TypeDesc}[i:UT P T d]:P.underlying T=d:=i.h
abbrev UTo {P : Go.Program} {T : Go.TypeId} {d : Option Go.TypeDesc} (_ : P.underlying T = d) : Prop := UT P T d
end Hw
namespace Go.Proofs.YtbdfihcjddbhaaaGreat
open Go Hw _root_.Go.Proofs.Tryz
theorem Y2:prog.underlying 2=some (TypeDesc.int IntKind.i64):=underlying2
instance Y3:UT prog 3 (some (TypeDesc.int IntKind.i64)):=⟨underlying3⟩
instance Y5:UT prog 5 (some (TypeDesc.int IntKind.u8)):=⟨underlying5⟩
instance Y22:UT prog 22 (some (TypeDesc.slice 37)):=⟨underlying22⟩
instance Y25:UT prog 25 (some (TypeDesc.pointer 86)):=⟨underlying25⟩
instance Y28:UT prog 28 (some (TypeDesc.array 32 5)):=⟨underlying28⟩
instance Y29:UT prog 29 (some (TypeDesc.array 32 5)):=⟨underlying29⟩
instance Y30:UT prog 30 (some (TypeDesc.int IntKind.u64)):=⟨underlying30⟩
instance Y31:UT prog 31 (some (TypeDesc.array 32 5)):=⟨underlying31⟩
instance Y32:UT prog 32 (some (TypeDesc.slice 31)):=⟨underlying32⟩
instance Y33:UT prog 33 (some (TypeDesc.slice 5)):=⟨underlying33⟩
instance Y34:UT prog 34 (some (TypeDesc.array 64 5)):=⟨underlying34⟩
instance Y35:UT prog 35 (some (TypeDesc.array 64 5)):=⟨underlying35⟩
instance Y37:UT prog 37 (some (TypeDesc.struct #[{ name:= "Writer",type:=29,offset:=0,embedded:=false,tag:= "",pkgPath:= "",byteOffset:=0 },{ name:= "Seq",type:=30,offset:=32,embedded:=false,tag:= "",pkgPath:= "",byteOffset:=32 },{ name:= "Prev",type:=31,offset:=33,embedded:=false,tag:= "",pkgPath:= "",byteOffset:=40 },{ name:= "Links",type:=32,offset:=65,embedded:=false,tag:= "",pkgPath:= "",byteOffset:=72 },{ name:= "Data",type:=33,offset:=66,embedded:=false,tag:= "",pkgPath:= "",byteOffset:=96 },{ name:= "Sig",type:=35,offset:=67,embedded:=false,tag:= "",pkgPath:= "",byteOffset:=120 }])):=⟨underlying37⟩
instance Y43:UT prog 43 (some (TypeDesc.slice 46)):=⟨underlying43⟩
instance Y51:UT prog 51 (some (TypeDesc.slice 3)):=⟨underlying51⟩
instance Y55:UT prog 55 (some (TypeDesc.slice 32)):=⟨underlying55⟩
theorem Y74:prog.underlying 74=some (TypeDesc.array 3 37):=underlying74
instance Y80:UT prog 80 (some (TypeDesc.map 31 91)):=⟨underlying80⟩
instance Y81:UT prog 81 (some (TypeDesc.map 31 105)):=⟨underlying81⟩
instance Y82:UT prog 82 (some (TypeDesc.map 31 37)):=⟨underlying82⟩
instance Y86:UTo underlying86:=⟨underlying86⟩
instance Y91:UTo underlying91:=⟨underlying91⟩
instance Y109:UT prog 109 (some (TypeDesc.slice 113)):=⟨underlying109⟩
instance Y111:UT prog 111 (some (TypeDesc.struct #[{ name:= "L",type:=109,offset:=0,embedded:=false,tag:= "",pkgPath:= "",byteOffset:=0 },{ name:= "O",type:=109,offset:=1,embedded:=false,tag:= "",pkgPath:= "",byteOffset:=24 }])):=⟨underlying111⟩
instance Y113:UTo underlying113:=⟨underlying113⟩
instance Y115:UT prog 115 (some (TypeDesc.func #[31] #[3] false)):=⟨underlying115⟩
instance Y119:UT prog 119 (some (TypeDesc.map 31 105)):=⟨underlying119⟩
instance Y139:UT prog 139 (some (TypeDesc.int IntKind.u64)):=⟨underlying139⟩
instance Y158:UT prog 158 (some (TypeDesc.slice 33)):=⟨underlying158⟩
instance Y160:UT prog 160 (some (TypeDesc.array 8 30)):=⟨underlying160⟩
instance Y184:UT prog 184 (some (TypeDesc.array 32 5)):=⟨underlying184⟩
instance Y187:UT prog 187 (some (TypeDesc.struct #[{ name:= "X",type:=184,offset:=0,embedded:=false,tag:= "",pkgPath:= "",byteOffset:=0 },{ name:= "Y",type:=184,offset:=32,embedded:=false,tag:= "",pkgPath:= "",byteOffset:=32 }])):=⟨underlying187⟩
theorem Y216:prog.underlying 216=some (TypeDesc.array 4 30):=underlying216
instance Y217:UT prog 217 (some (TypeDesc.array 4 30)):=⟨underlying217⟩
instance Y229:UTo underlying229:=⟨underlying229⟩
theorem Y241:prog.underlying 241=some (TypeDesc.array 80 30):=underlying241
theorem Ca:prog.underlying 250=some (TypeDesc.array 10 2):=underlying250
instance Y253:UTo underlying253:=⟨underlying253⟩
instance Y259:UT prog 259 (some (TypeDesc.slice 30)):=⟨underlying259⟩
instance Y261:UT prog 261 (some (TypeDesc.array 5 30)):=⟨underlying261⟩
instance Y282:UTo underlying282:=⟨underlying282⟩
end Go.Proofs.YtbdfihcjddbhaaaGreat
section
namespace Hw
open Go Go.RowKit
inductive Tg where
  |ty (t:TypeId)
  |ob (R:Obj→Prop)
instance{n:Nat}:OfNat Tg n:=⟨.ty n⟩
instance:Coe TypeId Tg:=⟨.ty⟩
structure Blk where
  n:Nat
  cs:List Value
  T:Tg
  m:Nat
abbrev blk(n:Nat)(cs:List Value)(T:TypeId):Blk:=⟨n,cs,T,cs.length⟩
structure St where
  sl:List (Nat×Value)
  hp:List Blk
structure Cx where
  P:Program
  W0:World
  N:Nat
  lent:List Nat
  /-- blocks that nothing writes while a region runs -/
  kb:List Blk:=[]
  /-- calls that are deferred -/
  ds:List Deferred:=[]
def look:List (Nat×Value)→Nat→Option Value
  | [],_=>none
  |(u,v)::l,t=>bif Nat.beq u t then some v else look l t
variable{C:Cx}{N t:Nat}{d:Option Tmp}{ds:List Deferred}{ex:List Nat}{hp hp' out:List Blk}{ops:Array Oper}{sl sl':List (Nat×Value)}{w w':World}
theorem look_cons_eq(d:Nat)(v:Value)(l:List (Nat×Value)):look ((d,v)::l) d=some v:=by
  simp[look]
theorem look_cons_ne{d t:Nat}(v:Value)(l:List (Nat×Value))(h:d≠t):look ((d,v)::l) t=look l t:=by
  have:Nat.beq d t=false:=by
    cases hb:Nat.beq d t
    ·rfl
    ·exact absurd (Lck hb) h
  simp[look,this]
theorem look_mem{l:List (Nat×Value)}{v:Value}(h:look l t=some v):(t,v)∈l:=by
  induction l with
  |nil=>simp[look]at h
  | cons p l ih=>
    obtain⟨u,x⟩:=p;by_cases hu:u=t
    · subst hu
      rw[look_cons_eq]at h;cases h;exact La9
    · rw[look_cons_ne _ _ hu]at h
      exact Laa _ (ih h)
def Ag(sl:List (Nat×Value)):Operand→Option Value
  | .tmp t=>look sl t
  | .const v=>some v
  | .global g=>some (.pointer (some ⟨g,0,none⟩))
  | .func f=>some (.func (.func f) #[] #[])
abbrev St.ev(s:St)(x:Operand):Option Value:=Ag s.sl x
def Bz(sl:List (Nat×Value)):Option Tmp→Value→List (Nat×Value)
  |some d,v=>(d,v)::sl
  |none,_=>sl
abbrev St.put(s:St)(d:Option Tmp)(v:Value):St:=⟨Bz s.sl d v,s.hp⟩
def St.add(s:St)(b:Blk):St:=⟨s.sl,b::s.hp⟩
structure Keeps(ex:List Nat)(w w':World):Prop where
  os:w'.os=w.os
  tape:w'.tape=w.tape
  output:w'.output=w.output
  size:w.heap.size≤w'.heap.size
  drawn:w.drawn≤w'.drawn
  block:∀k,k<w.heap.size→k∉ex→w'.heap[k]? =w.heap[k]?
theorem Keeps.refl(ex:List Nat)(w:World):Keeps ex w w:=⟨rfl,rfl,rfl,Laf _,Laf _,fun _ _ _=>rfl⟩
theorem Keeps.trans{a b c:World}(h:Keeps ex a b)(k:Keeps ex b c):Keeps ex a c:=
  ⟨k.os.trans h.os,k.tape.trans h.tape,k.output.trans h.output,Lbb h.size k.size,Lbb h.drawn k.drawn,
    fun i hi hn=>(k.block i (Lb8 hi h.size) hn).trans (h.block i hi hn)⟩
theorem Keeps.mono{ex ex':List Nat}{a b:World}(h:Keeps ex a b)(hs:∀x∈ex,x∈ex'):Keeps ex' a b:=
  ⟨h.os,h.tape,h.output,h.size,h.drawn,fun i hi hn=>h.block i hi fun hx=>hn (hs _ hx)⟩
theorem Keeps.below(h:Keeps [] w w'):Below w.heap.size w w':=
  ⟨h.os,h.tape,h.output,h.size,fun k hk=>h.block k hk sP⟩
theorem Keeps.drew{a w:World}(h:Keeps ex a w)(n:Nat)(hn:w.drawn≤n:=by first|exact Nat.le_succ _|assumption|omega):Keeps ex a { w with drawn:=n }:=
  ⟨h.os,h.tape,h.output,h.size,Lbb h.drawn hn,h.block⟩
structure Free(fr:Nat×Nat)(n:Nat):Prop where
  le:fr.1≤fr.2
  at':∀i,i<n→(decide (fr.1≤i)&&decide (i<fr.2))=false
theorem free0{n:Nat}:Free (0,0) n:=⟨Laf _,fun i _=>by simp⟩
def Tg.id:Tg→TypeId
  | .ty t=>t
  | .ob _=>0
@[simp] theorem Tg.id_ty(t:TypeId):(Tg.ty t).id=t:=rfl
structure BlkAt(w:World)(b:Blk)(full:Array Value)(fr:Nat×Nat):Prop where
  heap:w.heap[b.n]? =some (.cells full b.T.id fr)
  size:full.size=b.m
  pre:b.cs<+:full.toList
  free:Free fr b.m
def BlkOk(w:World)(b:Blk):Prop:=match b.T with
  | .ty _=>∃full fr,BlkAt w b full fr
  | .ob R=>b.cs=[]∧b.m=0∧∃o,w.heap[b.n]? =some o∧R o∧∀x,o≠ .deferred x
theorem BlkOk.of_heap{b:Blk}(h:BlkOk w b)(e:w'.heap[b.n]? =w.heap[b.n]?):BlkOk w' b:=by
  obtain⟨n,cs,T,m⟩:=b;cases T with
  | ty t=>
    obtain⟨full,fr,h⟩:=h;exact⟨full,fr,e.trans h.heap,h.size,h.pre,h.free⟩
  | ob R=>
    obtain⟨h1,h2,o,ho,hr,hd⟩:=h;exact⟨h1,h2,o,e.trans ho,hr,hd⟩
theorem BlkOk.noDef{b:Blk}(h:BlkOk w b)(x:_):w.heap[b.n]? ≠some (.deferred x):=fun e=>by
  obtain⟨n,cs,T,m⟩:=b;cases T with
  | ty t=>
    obtain⟨full,fr,h⟩:=h;have:=h.heap;simp only at this e;rw[e]at this;cases this
  | ob R=>
    obtain⟨_,_,o,ho,_,hd⟩:=h;simp only at ho e;rw[e]at ho;exact hd x (Lep ho).symm
theorem BlkOk.lt{b:Blk}(h:BlkOk w b):b.n<w.heap.size:=by
  have hn:∃o,w.heap[b.n]? =some o:=by
    obtain⟨n,cs,T,m⟩:=b;cases T with
    | ty t=>
      obtain⟨full,fr,h⟩:=h;exact⟨_,h.heap⟩
    | ob R=>
      obtain⟨_,_,o,ho,_,_⟩:=h;exact⟨o,ho⟩
  obtain⟨o,ho⟩:=hn;rcases Lat b.n w.heap.size with h1|h1
  ·exact h1
  ·rw[Lc4 h1]at ho;cases ho
structure Ret(lent:List Nat)(out:List Blk)(W W':World):Prop where
  keeps:Keeps lent W W'
  cells:∀b∈out,BlkOk W' b
  nodup:(out.map (·.n)).Nodup
  own:∀b∈out,W.heap.size≤b.n∨b.n∈lent
structure HRep(C:Cx)(hp:List Blk)(w:World):Prop where
  cells:∀b∈hp,BlkOk w b
  nodup:(hp.map (·.n)).Nodup
  own:∀b∈hp,C.W0.heap.size≤b.n∨b.n∈C.lent
  keeps:Keeps C.lent C.W0 w
  kok:∀b∈C.kb,BlkOk w b
  kd:∀b∈hp,∀k∈C.kb,b.n≠k.n
structure SRep(ds:List Deferred)(N:Nat)(sl:List (Nat×Value))(a:Act):Prop where
  size:a.tmps.size=N
  defers:a.defers=ds
  slots:∀t v,look sl t=some v→a.tmps[t]? =some v
structure Rep(C:Cx)(s:St)(a:Act)(w:World):Prop where
  rs:SRep C.ds C.N s.sl a
  rh:HRep C s.hp w
theorem HRep.perm(h:HRep C hp w)(p:hp.Perm hp'):HRep C hp' w:=
  ⟨fun b hb=>h.cells b (p.mem_iff.2 hb),(p.map _).nodup_iff.1 h.nodup,fun b hb=>h.own b (p.mem_iff.2 hb),h.keeps,h.kok,fun b hb=>h.kd b (p.mem_iff.2 hb)⟩
theorem HRep.drew(h:HRep C hp w)(n:Nat)(hn:w.drawn≤n:=by first|exact Nat.le_succ _|assumption|omega):HRep C hp { w with drawn:=n }:=
  ⟨fun b hb=>(h.cells b hb).of_heap rfl,h.nodup,h.own,h.keeps.drew n hn,fun b hb=>(h.kok b hb).of_heap rfl,h.kd⟩
theorem HRep.sub(h:HRep C hp w)(hs:∀b∈hp',b∈hp)(hn:(hp'.map (·.n)).Nodup):HRep C hp' w:=
  ⟨fun b hb=>h.cells b (hs b hb),hn,fun b hb=>h.own b (hs b hb),h.keeps,h.kok,fun b hb=>h.kd b (hs b hb)⟩
theorem SRep.eval{a:Act}(h:SRep ds N sl a){x:Operand}{v:Value}(hx:Ag sl x=some v):a.eval x=v:=by
  cases x with
  | tmp t=>
    have:=h.slots t v hx;simp[Act.eval,this]
  |const c=>simpa[Ag,Act.eval]using hx
  |global g=>simpa[Ag,Act.eval]using hx
  |func f=>simpa[Ag,Act.eval]using hx
theorem SRep.put{a:Act}(h:SRep ds N sl a)(d:Option Tmp)(v:Value)(hd:∀t,d=some t→t<N):SRep ds N (Bz sl d v) (a.put d v):=by
  cases d with
  |none=>exact h
  | some d=>
    have hd:=hd d rfl;refine⟨by simp[Act.put,h.size],h.defers,fun t u ht=>?_⟩;simp only[Act.put];by_cases hdt:d=t
    · subst hdt
      rw[Bz,look_cons_eq]at ht;cases ht;rw[Array.getElem?_setIfInBounds_self,if_pos (by rw[h.size];exact hd)]
    · rw[Bz,look_cons_ne _ _ hdt]at ht
      rw[Lco hdt];exact h.slots t u ht
theorem HRep.grown(hh:HRep C hp w)(hret:Ret [] out w w'):HRep C (out++hp) w':=by
  have hkeep:Keeps C.lent C.W0 w':=hh.keeps.trans (hret.keeps.mono sP);refine⟨fun x hx=>?_,?_,fun x hx=>?_,hkeep,fun k hk=>(hh.kok k hk).of_heap (hret.keeps.block k.n (hh.kok k hk).lt sP),fun x hx k hk=>?_⟩
  · rcases Lac.1 hx with hx|hx
    ·exact hret.cells x hx
    ·exact(hh.cells x hx).of_heap (hret.keeps.block x.n (hh.cells x hx).lt sP)
  · rw[Lae,Lav]
    refine⟨hret.nodup,hh.nodup,fun i hi j hj=>?_⟩;obtain⟨x,hx,rfl⟩:=La6.1 hi;obtain⟨y,hy,rfl⟩:=La6.1 hj;have h1:=hret.own x hx;have h2:=(hh.cells y hy).lt;simp at h1;omega
  · rcases Lac.1 hx with hx|hx
    · have h1:=hret.own x hx
      have h2:=hh.keeps.size;simp at h1;exact .inl oM
    ·exact hh.own x hx
  · rcases Lac.1 hx with hx|hx
    · have h1:=hret.own x hx
      have h2:=(hh.kok k hk).lt;simp at h1;omega
    ·exact hh.kd x hx k hk
def wantS(ops:Array Oper)(sl:List (Nat×Value))(o:Oper):Option Bool:=
  match o.guard with
  |none=>some true
  | some (j,want)=>
    match(ops[j]?).bind (·.dst)with
    | some d=>
      match look sl d with
      |some (.bool b)=>some (b==want)
      |some (.tuple _)=>some false
      |_=>none
    |none=>none
theorem wantS_ok{a:Act}{o:Oper}{b:Bool}(h:SRep ds N sl a)(hw:wantS ops sl o=some b):
    Region.wanted o (yielded ops a.tmps)=b:=by
  unfold wantS at hw;unfold Region.wanted;cases hg:o.guard with
  |none=>simp only[hg]at hw;simpa using hw
  | some g=>
    obtain⟨j,want⟩:=g;simp only[hg]at hw ⊢;unfold yielded;cases hd:(ops[j]?).bind (·.dst)with
    |none=>simp[hd]at hw
    | some d=>
      simp only[hd]at hw;cases hl:look sl d with
      |none=>simp[hl]at hw
      | some v=>
        simp only[hl]at hw;cases v<;>simp at hw
        · rename_i c
          have:=h.slots d _ hl;simp only[Lbr,this];subst hw;cases c<;>cases want<;>rfl
        · have:=h.slots d _ hl
          simp only[Lbr,this];subst hw;cases want<;>rfl
def Known(sl:List (Nat×Value))(o:Oper):Prop:=∀x∈o.op.operands,(Ag sl x).isSome
def Fits(sl:List (Nat×Value))(o:Oper)(ρ:Operand→Value):Prop:=∀x∈o.op.operands,Ag sl x=some (ρ x)
theorem SRep.fits{a:Act}{o:Oper}(h:SRep ds N sl a)(hk:Known sl o):Fits sl o a.eval:=by
  intro x hx;have:=hk x hx;cases hv:Ag sl x with
  |none=>simp[hv]at this
  |some v=>rw[h.eval hv]
structure PureV(P:Program)(sl:List (Nat×Value))(o:Oper)(v:Value):Prop where
  known:Known sl o
  run:∀ρ,Fits sl o ρ→∀w,(execOp ρ o).run P w= .ok (.value v) w
structure LoadV(C:Cx)(s:St)(o:Oper)(v:Value):Prop where
  known:Known s.sl o
  run:∀ρ,Fits s.sl o ρ→∀w,HRep C s.hp w→(execOp ρ o).run C.P w= .ok (.value v) w
structure KLoadV(C:Cx)(sl:List (Nat×Value))(o:Oper)(v:Value):Prop where
  known:Known sl o
  run:∀ρ,Fits sl o ρ→∀w,(∀b∈C.kb,BlkOk w b)→Keeps C.lent C.W0 w→(execOp ρ o).run C.P w= .ok (.value v) w
structure NewV(C:Cx)(s:St)(o:Oper)(mk:Nat→Value)(cs:List Value)(T:TypeId):Prop where
  known:Known s.sl o
  run:∀ρ,Fits s.sl o ρ→∀w,(execOp ρ o).run C.P w= .ok (.value (mk w.heap.size)) { w with heap:=w.heap.push (.cells cs.toArray T) }
structure ActV{ρ:Type}(C:Cx)(s:St)(o:Oper)(R:ρ→Prop)(val:ρ→Value)(hp:ρ→List Blk):Prop where
  known:Known s.sl o
  run:∀a w,Fits s.sl o a.eval→HRep C s.hp w→Oper.wp C.P o a w (fun a' w'=>∃r,R r∧a'=a.put o.dst (val r)∧HRep C (hp r) w') (fun _ _ _=>False)
structure GrowV{ρ:Type}(C:Cx)(s:St)(o:Oper)(R:ρ→Prop)(val:ρ→Value)(nw:ρ→List Blk):Prop where
  known:Known s.sl o
  some:∀l:List Blk,(l.map (·.n)).Nodup→∃r,R r∧((nw r++l).map (·.n)).Nodup
  run:∀a w,Fits s.sl o a.eval→HRep C s.hp w→Oper.wp C.P o a w (fun a' w'=>∃r,R r∧a'=a.put o.dst (val r)∧Ret [] (nw r) w w') (fun _ _ _=>False)
structure LendV{ρ:Type}(C:Cx)(s:St)(o:Oper)(R:ρ→Prop)(val:ρ→Value)(lent:List Nat)(nw:ρ→List Blk):Prop where
  known:Known s.sl o
  some:∀l:List Blk,(l.map (·.n)).Nodup→(∀b∈l,b.n∉lent)→∃r,R r∧((nw r++l).map (·.n)).Nodup
  run:∀a w,Fits s.sl o a.eval→HRep C s.hp w→Oper.wp C.P o a w (fun a' w'=>∃r,R r∧a'=a.put o.dst (val r)∧Ret lent (nw r) w w') (fun _ _ _=>False)
def dstOk(N:Nat)(o:Oper):Prop:=∀t,o.dst=some t→t<N
inductive Tr(C:Cx)(ops:Array Oper):List (Nat×Oper)→St→(St→Prop)→Prop
  |nil {s Q} (h:Q s):Tr C ops [] s Q
  |dup {l s Q} (h:¬(s.hp.map (·.n)).Nodup):Tr C ops l s Q
  |skip {c o rest s Q} (hc:c≠2) (hw:wantS ops s.sl o=some false) (hd:dstOk C.N o) (k:Tr C ops rest (s.put o.dst undef) Q):Tr C ops ((c,o)::rest) s Q
  |pure {c o rest s Q} (v:Value) (hc:c≠2) (hw:wantS ops s.sl o=some true) (hd:dstOk C.N o) (hv:PureV C.P s.sl o v) (k:Tr C ops rest (s.put o.dst v) Q):Tr C ops ((c,o)::rest) s Q
  |kload {c o rest s Q} (v:Value) (hc:c≠2) (hw:wantS ops s.sl o=some true) (hd:dstOk C.N o) (hv:KLoadV C s.sl o v) (k:Tr C ops rest (s.put o.dst v) Q):Tr C ops ((c,o)::rest) s Q
  |load {c o rest s Q} (v:Value) (hc:c≠2) (hc0:c≠0) (hw:wantS ops s.sl o=some true) (hd:dstOk C.N o) (hv:LoadV C s o v) (k:Tr C ops rest (s.put o.dst v) Q):Tr C ops ((c,o)::rest) s Q
  |new {c o rest s Q} (mk:Nat→Value) (cs:List Value) (T:TypeId) (hc:c=2∨c=4) (hw:wantS ops s.sl o=some true) (hd:dstOk C.N o) (hv:NewV C s o mk cs T)
      (k:∀n,C.W0.heap.size≤n→(∀b∈s.hp,b.n≠n)→Tr C ops rest ((s.put o.dst (mk n)).add (blk n cs T)) Q):Tr C ops ((c,o)::rest) s Q
  |grow {ρ:Type} {c o rest s Q} (R:ρ→Prop) (val:ρ→Value) (nw:ρ→List Blk) (hc:c=3∨c=4) (hw:wantS ops s.sl o=some true) (hd:dstOk C.N o) (hv:GrowV C s o R val nw)
      (k:∀r,R r→Tr C ops rest ⟨Bz s.sl o.dst (val r),nw r++s.hp⟩ Q):Tr C ops ((c,o)::rest) s Q
  |lend {ρ:Type} {c o rest s Q} (R:ρ→Prop) (val:ρ→Value) (nw:ρ→List Blk) (lent:List Nat) (L keep:List Blk) (hc:c=5∨c=4) (hw:wantS ops s.sl o=some true) (hd:dstOk C.N o) (hsp:s.hp.Perm (L++keep)) (hl:∀n∈lent,∃b∈L,b.n=n) (hv:LendV C s o R val lent nw)
      (k:∀r,R r→Tr C ops rest ⟨Bz s.sl o.dst (val r),nw r++keep⟩ Q):Tr C ops ((c,o)::rest) s Q
  |act {ρ:Type} {c o rest s Q} (R:ρ→Prop) (val:ρ→Value) (hp:ρ→List Blk) (hc:c=4) (hw:wantS ops s.sl o=some true) (hd:dstOk C.N o) (hv:ActV C s o R val hp)
      (k:∀r,R r→Tr C ops rest ⟨Bz s.sl o.dst (val r),hp r⟩ Q):Tr C ops ((c,o)::rest) s Q
theorem HRep.push(h:HRep C hp w)(cs:List Value)(T:TypeId):
    HRep C (blk w.heap.size cs T::hp) { w with heap:=w.heap.push (.cells cs.toArray T) }:=by
  have hlt:∀b∈hp,b.n<w.heap.size:=fun b hb=>(h.cells b hb).lt;refine⟨fun b hb=>?_,?_,fun b hb=>?_,?_,fun k hk=>?_,fun b hb k hk=>?_⟩
  · rcases Lag.1 hb with rfl|hb
    ·exact⟨cs.toArray,(0,0),by simp,by simp,by simp,free0⟩
    · have:=hlt b hb
      refine(h.cells b hb).of_heap ?_;simp only[Lbx];rw[if_neg oM]
  · simp only[Lao,Lb0]
    refine⟨fun hm=>?_,h.nodup⟩;obtain⟨b,hb,he⟩:=La6.1 hm;have:=hlt b hb;omega
  · rcases Lag.1 hb with rfl|hb
    ·exact .inl h.keeps.size
    ·exact h.own b hb
  · refine⟨h.keeps.os,h.keeps.tape,h.keeps.output,by simp;exact Nat.le_succ_of_le h.keeps.size,h.keeps.drawn,fun k hk hn=>?_⟩
    have:=h.keeps.size;simp only[Lbx];rw[if_neg oM];exact h.keeps.block k hk hn
  · have:=(h.kok k hk).lt
    refine(h.kok k hk).of_heap ?_;simp only[Lbx];rw[if_neg oM]
  · rcases Lag.1 hb with rfl|hb
    · have:=(h.kok k hk).lt
      simp only[blk];omega
    ·exact h.kd b hb k hk
theorem HRep.lentRet{hp L rest out:List Blk}{lent:List Nat}(hh:HRep C hp w)(hsp:hp.Perm (L++rest))(hl:∀n∈lent,∃b∈L,b.n=n)(hret:Ret lent out w w'):HRep C (out++rest) w':=by
  have h1:=hh.perm hsp;have hnd:=h1.nodup;rw[Lae,Lav]at hnd;have inL:∀n∈lent,C.W0.heap.size≤n∨n∈C.lent:=fun n hn=>by
    obtain⟨b,hb,rfl⟩:=hl n hn;exact h1.own b (Lac.2 (.inl hb))
  have notR:∀b∈rest,b.n∉lent:=fun b hb hn=>by
    obtain⟨x,hx,e⟩:=hl _ hn;exact hnd.2.2 x.n (La6.2 ⟨x,hx,rfl⟩) b.n (La6.2 ⟨b,hb,rfl⟩) e
  have notK:∀k∈C.kb,k.n∉lent:=fun k hk hn=>by
    obtain⟨x,hx,e⟩:=hl _ hn;exact h1.kd x (Lac.2 (.inl hx)) k hk e
  have hsz:=hh.keeps.size;refine⟨fun b hb=>?_,?_,fun b hb=>?_,?_,fun k hk=>?_,fun b hb k hk=>?_⟩
  · rcases Lac.1 hb with hb|hb
    ·exact hret.cells b hb
    · have:=h1.cells b (Lac.2 (.inr hb))
      exact this.of_heap (hret.keeps.block b.n this.lt (notR b hb))
  · rw[Lae,Lav]
    refine⟨hret.nodup,hnd.2.1,fun i hi j hj=>?_⟩;obtain⟨x,hx,rfl⟩:=La6.1 hi;obtain⟨y,hy,rfl⟩:=La6.1 hj;rcases hret.own x hx with h|h
    · have:=(h1.cells y (Lac.2 (.inr hy))).lt
      omega
    ·exact fun e=>notR y hy (e▸h)
  · rcases Lac.1 hb with hb|hb
    · rcases hret.own b hb with h|h
      ·exact .inl oM
      ·exact inL _ h
    ·exact h1.own b (Lac.2 (.inr hb))
  · refine⟨hret.keeps.os.trans hh.keeps.os,hret.keeps.tape.trans hh.keeps.tape,hret.keeps.output.trans hh.keeps.output,Lbb hsz hret.keeps.size,Lbb hh.keeps.drawn hret.keeps.drawn,fun i hi hn=>?_⟩
    refine(hret.keeps.block i oM fun h=>?_).trans (hh.keeps.block i hi hn);rcases inL i h with h|h
    ·omega
    ·exact hn h
  · have:=hh.kok k hk
    exact this.of_heap (hret.keeps.block k.n this.lt (notK k hk))
  · rcases Lac.1 hb with hb|hb
    · rcases hret.own b hb with h|h
      · have:=(hh.kok k hk).lt
        omega
      ·exact fun e=>notK k hk (e▸h)
    ·exact h1.kd b (Lac.2 (.inr hb)) k hk
theorem Tr.step{c:Nat}{o:Oper}{rest:List (Nat×Oper)}{s:St}{Q:St→Prop}{i:Nat}(hi:ops[i]? =some o)
    (h:Tr C ops ((c,o)::rest) s Q) (a:Act) (w:World) (r:Rep C s a w) (K:Act→World→Prop) (hK:∀s' a' w',Rep C s' a' w'→Tr C ops rest s' Q→K a' w')
    (X:Exit→Act→World→Prop):wpOp C.P ops X i K a w:=by
  have act:∀ {ρ:Type} (R:ρ→Prop) (val:ρ→Value) (hp:ρ→List Blk),wantS ops s.sl o=some true→dstOk C.N o→ActV C s o R val hp→
      (∀r,R r→Tr C ops rest ⟨Bz s.sl o.dst (val r),hp r⟩ Q)→wpOp C.P ops X i K a w:=by
    intro ρ R val hp hw hd hv k;unfold wpOp;simp only[hi,wantS_ok r.rs hw,if_true];refine .inl ?_;have:=hv.run a w (r.rs.fits hv.known) r.rh;unfold Oper.wp at this ⊢;generalize(execOp a.eval o).run C.P w=res at this ⊢;have fin:∀a' w',(∃r,R r∧a'=a.put o.dst (val r)∧HRep C (hp r) w')→K a' w':=by
      rintro a' w' ⟨q,hq,rfl,hh⟩;exact hK _ _ _ ⟨r.rs.put _ _ hd,hh⟩ (k q hq)
    cases res with
    | ok n w1=>
      cases n<;>simp only[Oper.upon]at this ⊢
      case value v=>exact fin _ _ this
      case skip=>exact fin _ _ this
      case defer d=>exact fin _ _ this
      case enter f args=>
        refine this.mono fun e w2 he=>?_;cases e with
        |returned v=>exact fin _ _ he
        |panicked ch=>exact he.elim
        |outgrown=>exact he.elim (fun _ hx=>hx.elim (fun _ hy=>hy.elim))
      case row row args=>exact this.mono fun v w2 he=>fin _ _ he
    |halt x w1=>cases x<;>simp only[Oper.upon]at this
  cases h with
  | skip hc hw hd k=>
    unfold wpOp;simp only[hi,wantS_ok r.rs hw,Bool.false_eq_true,if_false];exact hK (s.put o.dst _) _ _ ⟨r.rs.put _ _ hd,r.rh⟩ k
  | pure v hc hw hd hv k=>
    unfold wpOp;simp only[hi,wantS_ok r.rs hw,if_true];refine .inl ?_;unfold Oper.wp;rw[hv.run a.eval (r.rs.fits hv.known) w];exact hK (s.put o.dst _) _ _ ⟨r.rs.put _ _ hd,r.rh⟩ k
  | kload v hc hw hd hv k=>
    unfold wpOp;simp only[hi,wantS_ok r.rs hw,if_true];refine .inl ?_;unfold Oper.wp;rw[hv.run a.eval (r.rs.fits hv.known) w r.rh.kok r.rh.keeps];exact hK (s.put o.dst _) _ _ ⟨r.rs.put _ _ hd,r.rh⟩ k
  | load v hc hc0 hw hd hv k=>
    unfold wpOp;simp only[hi,wantS_ok r.rs hw,if_true];refine .inl ?_;unfold Oper.wp;rw[hv.run a.eval (r.rs.fits hv.known) w r.rh];exact hK (s.put o.dst _) _ _ ⟨r.rs.put _ _ hd,r.rh⟩ k
  | new mk cs T hc hw hd hv k=>
    unfold wpOp;simp only[hi,wantS_ok r.rs hw,if_true];refine .inl ?_;unfold Oper.wp;rw[hv.run a.eval (r.rs.fits hv.known) w];refine hK ((s.put o.dst (mk w.heap.size)).add (blk w.heap.size cs T)) _ _ ⟨r.rs.put _ _ hd,r.rh.push cs T⟩ (k _ r.rh.keeps.size fun b hb he=>?_);have:=(r.rh.cells b hb).lt;omega
  |dup h=>exact absurd r.rh.nodup h
  | grow R val nw hc hw hd hv k=>
    exact act R val (fun r=>nw r++s.hp) hw hd ⟨hv.known,fun a w hf hh=>Oper.wp_mono (fun _ _ ⟨r,h1,h2,h3⟩=>⟨r,h1,h2,hh.grown h3⟩) (hv.run a w hf hh)⟩ k
  |lend R val nw lent L keep hc hw hd hsp hl hv k=>exact act R val (fun r=>nw r++keep) hw hd ⟨hv.known,fun a w hf hh=>Oper.wp_mono (fun _ _ ⟨r,h1,h2,h3⟩=>⟨r,h1,h2,hh.lentRet hsp hl h3⟩) (hv.run a w hf hh)⟩ k
  |act R val hp hc hw hd hv k=>exact act R val hp hw hd hv k
structure St.Eqv(s s':St):Prop where
  sl:∀t,look s.sl t=look s'.sl t
  hp:s.hp.Perm s'.hp
theorem St.Eqv.refl(s:St):s.Eqv s:=⟨fun _=>rfl, .refl _⟩
theorem St.Eqv.symm{s s':St}(h:s.Eqv s'):s'.Eqv s:=⟨fun t=>(h.sl t).symm,h.hp.symm⟩
theorem St.Eqv.trans{s s' s'':St}(h:s.Eqv s')(k:s'.Eqv s''):s.Eqv s'':=⟨fun t=>(h.sl t).trans (k.sl t),h.hp.trans k.hp⟩
theorem evIn_eqv(h:∀t,look sl t=look sl' t)(x:Operand):Ag sl x=Ag sl' x:=by
  cases x<;>simp[Ag,h]
theorem look_put(h:∀t,look sl t=look sl' t)(d:Option Tmp)(v:Value)(t:Nat):look (Bz sl d v) t=look (Bz sl' d v) t:=by
  cases d with
  |none=>exact h t
  | some d=>
    by_cases hd:d=t
    ·subst hd;simp[Bz,look_cons_eq]
    ·simp[Bz,look_cons_ne _ _ hd,h]
theorem Rep.eqv{s s':St}{a:Act}(r:Rep C s a w)(h:s.Eqv s'):Rep C s' a w:=
  ⟨⟨r.rs.size,r.rs.defers,fun t v ht=>r.rs.slots t v (by rw[h.sl];exact ht)⟩,r.rh.perm h.hp⟩
theorem wantS_eqv(h:∀t,look sl t=look sl' t)(o:Oper):wantS ops sl o=wantS ops sl' o:=by
  unfold wantS;cases o.guard with
  |none=>rfl
  |some g=>obtain⟨j,want⟩:=g;simp only[h]
theorem Known.eqv{o:Oper}(hk:Known sl o)(h:∀t,look sl t=look sl' t):Known sl' o:=fun x hx=>by rw[←evIn_eqv h];exact hk x hx
theorem Fits.eqv{o:Oper}{ρ:Operand→Value}(hk:Fits sl o ρ)(h:∀t,look sl t=look sl' t):Fits sl' o ρ:=fun x hx=>by rw[←evIn_eqv h];exact hk x hx
def clQ(Q:St→Prop)(s:St):Prop:=∃s0,St.Eqv s0 s∧Q s0
theorem clQ_cl{Q:St→Prop}{s:St}(h:clQ (clQ Q) s):clQ Q s:=by
  obtain⟨s0,h0,s1,h1,q⟩:=h;exact⟨s1,h1.trans h0,q⟩
theorem Tr.eqv{l:List (Nat×Oper)}{s:St}{Q:St→Prop}(h:Tr C ops l s Q):∀s',s.Eqv s'→Tr C ops l s' (clQ Q):=by
  induction h with
  |nil h=>exact fun s' e=> .nil ⟨_,e,h⟩
  |dup h=>exact fun s' e=> .dup fun hn=>h ((e.hp.map _).nodup_iff.2 hn)
  |skip hc hw hd k ih=>exact fun s' e=> .skip hc (by rw[←wantS_eqv e.sl];exact hw) hd (ih _ ⟨look_put e.sl _ _,e.hp⟩)
  | pure v hc hw hd hv k ih=>
    exact fun s' e=> .pure v hc (by rw[←wantS_eqv e.sl];exact hw) hd ⟨hv.known.eqv e.sl,fun ρ hf=>hv.run ρ (hf.eqv e.symm.sl)⟩ (ih _ ⟨look_put e.sl _ _,e.hp⟩)
  | kload v hc hw hd hv k ih=>
    exact fun s' e=> .kload v hc (by rw[←wantS_eqv e.sl];exact hw) hd ⟨hv.known.eqv e.sl,fun ρ hf=>hv.run ρ (hf.eqv e.symm.sl)⟩ (ih _ ⟨look_put e.sl _ _,e.hp⟩)
  | load v hc hc0 hw hd hv k ih=>
    exact fun s' e=> .load v hc hc0 (by rw[←wantS_eqv e.sl];exact hw) hd ⟨hv.known.eqv e.sl,fun ρ hf w hh=>hv.run ρ (hf.eqv e.symm.sl) w (hh.perm e.hp.symm)⟩ (ih _ ⟨look_put e.sl _ _,e.hp⟩)
  | new mk cs T hc hw hd hv k ih=>
    exact fun s' e=> .new mk cs T hc (by rw[←wantS_eqv e.sl];exact hw) hd ⟨hv.known.eqv e.sl,fun ρ hf=>hv.run ρ (hf.eqv e.symm.sl)⟩ fun n hn hf=>
      ih n hn (fun b hb=>hf b (e.hp.mem_iff.1 hb)) _ ⟨look_put e.sl _ _,e.hp.cons _⟩
  | grow R val nw hc hw hd hv k ih=>
    exact fun s' e=> .grow R val nw hc (by rw[←wantS_eqv e.sl];exact hw) hd
      ⟨hv.known.eqv e.sl,hv.some,fun a w hf hh=>hv.run a w (hf.eqv e.symm.sl) (hh.perm e.hp.symm)⟩
      fun r hr=>ih r hr _ ⟨look_put e.sl _ _,e.hp.append_left _⟩
  | lend R val nw lent L keep hc hw hd hsp hl hv k ih=>
    exact fun s' e=> .lend R val nw lent L keep hc (by rw[←wantS_eqv e.sl];exact hw) hd (e.hp.symm.trans hsp) hl
      ⟨hv.known.eqv e.sl,hv.some,fun a w hf hh=>hv.run a w (hf.eqv e.symm.sl) (hh.perm e.hp.symm)⟩
      fun r hr=>ih r hr _ ⟨look_put e.sl _ _, .refl _⟩
  | act R val hp hc hw hd hv k ih=>
    exact fun s' e=> .act R val hp hc (by rw[←wantS_eqv e.sl];exact hw) hd ⟨hv.known.eqv e.sl,fun a w hf hh=>hv.run a w (hf.eqv e.symm.sl) (hh.perm e.hp.symm)⟩
      fun r hr=>ih r hr _ ⟨look_put e.sl _ _, .refl _⟩
theorem look_comm{d e:Option Tmp}(h:∀t,d=some t→e≠some t)(v u:Value)(t:Nat):
    look (Bz (Bz sl d v) e u) t=look (Bz (Bz sl e u) d v) t:=by
  cases d with
  |none=>rfl
  | some d=>
    cases e with
    |none=>rfl
    | some e=>
      have hne:d≠e:=fun he=>h d rfl (by rw[he]);by_cases h1:e=t
      · subst h1
        simp[Bz,look_cons_eq,look_cons_ne _ _ hne]
      · by_cases h2:d=t
        · subst h2
          simp[Bz,look_cons_eq,look_cons_ne _ _ h1]
        ·simp[Bz,look_cons_ne _ _ h1,look_cons_ne _ _ h2]
theorem evIn_put{v:Value}{x:Operand}(h:∀t,d=some t→x≠ .tmp t):Ag (Bz sl d v) x=Ag sl x:=by
  cases d with
  |none=>rfl
  | some d=>
    cases x with
    |tmp t=>exact look_cons_ne _ _ fun e=>h d rfl (by rw[e])
    |_=>rfl
theorem look_put_ne{v:Value}(h:d≠some t):look (Bz sl d v) t=look sl t:=by
  cases d with
  |none=>rfl
  |some d=>exact look_cons_ne _ _ fun e=>h (by rw[e])
section
variable{ops:Array Oper}{x y:Oper}{d:Option Tmp}{v:Value}{sl:List (Nat×Value)}
theorem not_look{o:Oper}(h:∀t,d=some t→t∉o.looksAt ops):(∀z∈o.op.operands,∀t,d=some t→z≠ .tmp t)∧
    (∀j want,o.guard=some (j,want)→∀t,(ops[j]?).bind (·.dst)=some t→d≠some t):=by
  refine⟨fun z hz t ht he=>h t ht ?_,fun j want hg t hb hd=>h t hd ?_⟩
  · subst he
    exact Lac.2 (.inl (List.mem_filterMap.2 ⟨.tmp t,by simpa using hz,rfl⟩))
  · refine Lac.2 (.inr ?_)
    simp[hg,hb]
theorem Cd{o:Oper}(h:∀t,d=some t→t∉o.looksAt ops):wantS ops (Bz sl d v) o=wantS ops sl o:=by
  have hh:=(not_look h).2;unfold wantS;cases hg:o.guard with
  |none=>rfl
  | some g=>
    obtain⟨j,want⟩:=g;simp only[];cases hb:(ops[j]?).bind (·.dst)with
    |none=>rfl
    |some t=>simp only[];rw[look_put_ne (hh j want hg t hb)]
theorem known_put{o:Oper}(h:∀t,d=some t→t∉o.looksAt ops):Known (Bz sl d v) o↔Known sl o:=by
  have hh:=(not_look h).1;exact⟨fun k z hz=>by rw[←evIn_put (v:=v) (hh z hz)];exact k z hz,fun k z hz=>by rw[evIn_put (hh z hz)];exact k z hz⟩
theorem fits_put{o:Oper}{ρ:Operand→Value}(h:∀t,d=some t→t∉o.looksAt ops):Fits (Bz sl d v) o ρ↔Fits sl o ρ:=by
  have hh:=(not_look h).1;exact⟨fun k z hz=>by rw[←evIn_put (v:=v) (hh z hz)];exact k z hz,fun k z hz=>by rw[evIn_put (hh z hz)];exact k z hz⟩
end
def comm(c e:Nat):Bool:=c==0||(c==1&&Nat.ble e 3)||((c==2||c==3||c==5)&&e==2)
variable{A K hp:List Blk}{C:Cx}{N:St→Prop}{R:Value→List Blk→Prop}{code:Code}{e i:Nat}{fn:Func}{listed:Array Bool}{ops:Array Oper}{p:Prop}{sl:List (Nat×Value)}{ι:Type}
theorem Tr.inv_new{y:Oper}{rest:List (Nat×Oper)}{s:St}{Q:St→Prop}(h:Tr C ops ((2,y)::rest) s Q)(hn:(s.hp.map (·.n)).Nodup):
    ∃mk cs T,wantS ops s.sl y=some true∧dstOk C.N y∧NewV C s y mk cs T∧∀n,C.W0.heap.size≤n→(∀b∈s.hp,b.n≠n)→Tr C ops rest ((s.put y.dst (mk n)).add (blk n cs T)) Q:=by
  cases h with
  |dup h=>exact absurd hn h
  |skip hc hw hd k=>exact absurd rfl hc
  |pure v hc hw hd hv k=>exact absurd rfl hc
  |kload v hc hw hd hv k=>exact absurd rfl hc
  |load v hc hc0 hw hd hv k=>exact absurd rfl hc
  |new mk cs T hc hw hd hv k=>exact⟨mk,cs,T,hw,hd,hv,k⟩
  |grow R val nw hc hw hd hv k=>rcases hc with hc|hc<;>simp at hc
  |lend R val nw lent L keep hc hw hd hsp hl hv k=>rcases hc with hc|hc<;>simp at hc
  |act R val hp hc hw hd hv k=>simp at hc
theorem NewV.same{s s':St}{o:Oper}{mk mk':Nat→Value}{cs cs':List Value}{T T':TypeId}(h:NewV C s o mk cs T)(h':NewV C s' o mk' cs' T')(e:∀z∈o.op.operands,Ag s.sl z=Ag s'.sl z):mk=mk'∧cs=cs'∧T=T':=by
  let ρ:Operand→Value:=fun z=>(Ag s.sl z).getD undef
  have f:Fits s.sl o ρ:=fun z hz=>by
    have:=h.known z hz;cases hv:Ag s.sl z with
    |none=>simp[hv]at this
    |some v=>simp[ρ,hv]
  have f':Fits s'.sl o ρ:=fun z hz=>by rw[←e z hz];exact f z hz
  have hmk:mk=mk':=funext fun n=>by
    have r:=h.run ρ f { C.W0 with heap:=Array.replicate n (.cells #[] T) };rw[h'.run ρ f' { C.W0 with heap:=Array.replicate n (.cells #[] T) }]at r;simp only[Array.size_replicate]at r;injection r with r1 _;injection r1 with r2;exact r2.symm
  refine⟨hmk,?_⟩;have r:=h.run ρ f C.W0;have r':=h'.run ρ f' C.W0;rw[r]at r';injection r' with _ hw;have hh:C.W0.heap.push (.cells cs.toArray T)=C.W0.heap.push (.cells cs'.toArray T'):=congrArg World.heap hw;have hb:=congrArg (fun a=>a.back?) hh;simp at hb;exact⟨hb.1,hb.2⟩
theorem fresh_is(B:Nat)(hp:List Blk):∃n,B≤n∧∀b∈hp,b.n≠n:=by
  have:∃N,∀b∈hp,b.n<N:=by
    induction hp with
    |nil=>exact⟨0,by simp⟩
    | cons x l ih=>
      obtain⟨N,hN⟩:=ih;refine⟨N+x.n+1,fun b hb=>?_⟩;rcases Lag.1 hb with rfl|hb
      ·omega
      ·have:=hN b hb;omega
  obtain⟨N,hN⟩:=this;exact⟨B+N,by omega,fun b hb=>by have:=hN b hb;omega⟩
theorem nodup_new{n:Nat}{cs:List Value}{T:TypeId}(h:(hp.map (·.n)).Nodup)(hf:∀b∈hp,b.n≠n):((blk n cs T::hp).map (·.n)).Nodup:=by
  rw[Lao,Lb0];refine⟨fun hm=>?_,h⟩;obtain⟨b,hb,he⟩:=La6.1 hm;exact hf b hb he
theorem Tr.swap2{x y:Oper}{rest:List (Nat×Oper)}{s:St}{Q:St→Prop}(hap:x.apart ops y=true)(hnd:(s.hp.map (·.n)).Nodup)
    (h:Tr C ops ((2,x)::(2,y)::rest) s Q):Tr C ops ((2,y)::(2,x)::rest) s (clQ Q):=by
  obtain⟨h1,h2,h3⟩:=Oper.apart_spec hap;obtain⟨mx,cx,Tx,gx,dx,vx,k⟩:=h.inv_new hnd;obtain⟨n0,hn0,hf0⟩:=fresh_is C.W0.heap.size s.hp;obtain⟨my,cy,Ty,gy,dy,vy,_⟩:=(k n0 hn0 hf0).inv_new (nodup_new hnd hf0);have ey:∀(u:Value),∀z∈y.op.operands,Ag (Bz s.sl x.dst u) z=Ag s.sl z:=fun u z hz=>evIn_put ((not_look (ops:=ops) h1).1 z hz);have ex:∀(u:Value),∀z∈x.op.operands,Ag (Bz s.sl y.dst u) z=Ag s.sl z:=fun u z hz=>evIn_put ((not_look (ops:=ops) h3).1 z hz);refine .new my cy Ty (.inl rfl) (by rw[←Cd (d:=x.dst) (v:=mx n0) h1];exact gy) dy ⟨fun z hz=>by rw[←ey _ z hz];exact vy.known z hz,fun ρ hf=>vy.run ρ fun z hz=>by
    show Ag (Bz s.sl x.dst _) z=_;rw[ey _ z hz];exact hf z hz⟩ fun m hm hfm=>?_
  refine .new mx cx Tx (.inl rfl) (by show wantS ops (Bz s.sl y.dst _) x=_;rw[Cd h3];exact gx) dx ⟨fun z hz=>by show(Ag (Bz s.sl y.dst _) z).isSome;rw[ex _ z hz];exact vx.known z hz,fun ρ hf=>vx.run ρ fun z hz=>by
    have:=hf z hz;rw[←ex (my m) z hz];exact this⟩ fun n hn hfn=>?_
  have hfn':∀b∈s.hp,b.n≠n:=fun b hb=>hfn b (Laa _ hb);have hmn:m≠n:=hfn (blk m cy Ty) La9;obtain⟨my',cy',Ty',_,_,vy',k'⟩:=(k n hn hfn').inv_new (nodup_new hnd hfn');obtain⟨rfl,rfl,rfl⟩:=vy.same vy' fun z hz=>by
    show Ag (Bz s.sl x.dst _) z=Ag (Bz s.sl x.dst _) z;rw[ey _ z hz,ey _ z hz]
  refine(k' m hm fun b hb=>?_).eqv _ ⟨fun t=>look_comm h2 _ _ t, .swap _ _ _⟩;rcases Lag.1 hb with rfl|hb
  ·exact Ne.symm hmn
  ·exact hfm b hb
theorem Tr.swap3{x y:Oper}{rest:List (Nat×Oper)}{s:St}{Q:St→Prop}(hap:x.apart ops y=true)(hnd:(s.hp.map (·.n)).Nodup)
    (soft:∀v,dstOk C.N x→Tr C ops ((2,y)::rest) (s.put x.dst v) Q→(∀(s':St),(∀z∈x.op.operands,Ag s'.sl z=Ag s.sl z)→wantS ops s'.sl x=wantS ops s.sl x→(∀w,HRep C s'.hp w→HRep C s.hp w)→
        Tr C ops rest (s'.put x.dst v) (clQ Q)→Tr C ops ((3,x)::rest) s' (clQ Q))→Tr C ops ((2,y)::(3,x)::rest) s (clQ Q))
    (h:Tr C ops ((3,x)::(2,y)::rest) s Q):Tr C ops ((2,y)::(3,x)::rest) s (clQ Q):=by
  obtain⟨h1,h2,h3⟩:=Oper.apart_spec hap;cases h with
  |dup h=>exact absurd hnd h
  |skip hc2 hw hd k=>exact soft _ hd k fun s' he hww _ kk=> .skip hc2 (by rw[hww];exact hw) hd kk
  | pure v hc2 hw hd hv k=>
    exact soft v hd k fun s' he hww _ kk=> .pure v hc2 (by rw[hww];exact hw) hd
      ⟨fun z hz=>by rw[he z hz];exact hv.known z hz,fun ρ hf=>hv.run ρ fun z hz=>by rw[←he z hz];exact hf z hz⟩ kk
  | kload v hc2 hw hd hv k=>
    exact soft v hd k fun s' he hww _ kk=> .kload v hc2 (by rw[hww];exact hw) hd
      ⟨fun z hz=>by rw[he z hz];exact hv.known z hz,fun ρ hf=>hv.run ρ fun z hz=>by rw[←he z hz];exact hf z hz⟩ kk
  | load v hc2 hc0 hw hd hv k=>
    exact soft v hd k fun s' he hww hh kk=> .load v hc2 hc0 (by rw[hww];exact hw) hd
      ⟨fun z hz=>by rw[he z hz];exact hv.known z hz,fun ρ hf w hr=>hv.run ρ (fun z hz=>by rw[←he z hz];exact hf z hz) w (hh w hr)⟩ kk
  |new mk cs T hc2 hw hd hv k=>rcases hc2 with hc2|hc2<;>simp at hc2
  |lend R val nw lent L keep hc2 hw hd hsp hl hv k=>rcases hc2 with hc2|hc2<;>simp at hc2
  |act R val hp hc2 hw hd hv k=>simp at hc2
  | grow R val nw hc2 hw hd hv k=>
    obtain⟨r0,hr0,hn0⟩:=hv.some s.hp hnd;have ey:∀(u:Value),∀z∈y.op.operands,Ag (Bz s.sl x.dst u) z=Ag s.sl z:=fun u z hz=>evIn_put ((not_look (ops:=ops) h1).1 z hz);have ex:∀(u:Value),∀z∈x.op.operands,Ag (Bz s.sl y.dst u) z=Ag s.sl z:=fun u z hz=>evIn_put ((not_look (ops:=ops) h3).1 z hz);obtain⟨my,cy,Ty,gy,dy,vy,_⟩:=(k r0 hr0).inv_new hn0;refine .new my cy Ty (.inl rfl) (by rw[←Cd (d:=x.dst) (v:=val r0) h1];exact gy) dy ⟨fun z hz=>by rw[←ey _ z hz];exact vy.known z hz,fun ρ hf=>vy.run ρ fun z hz=>by
      show Ag (Bz s.sl x.dst _) z=_;rw[ey _ z hz];exact hf z hz⟩ fun m hm hfm=>?_
    refine .grow R val nw hc2 (by show wantS ops (Bz s.sl y.dst _) x=_;rw[Cd h3];exact hw) hd ⟨fun z hz=>by show(Ag (Bz s.sl y.dst _) z).isSome;rw[ex _ z hz];exact hv.known z hz,hv.some,fun a w hf hh=>?_⟩ fun r hr=>?_
    · refine hv.run a w (fun z hz=>?_) (hh.sub (fun b hb=>Laa _ hb) hnd)
      have:=hf z hz;rw[←ex (my m) z hz];exact this
    · by_cases hdup:((nw r++(blk m cy Ty::s.hp)).map (·.n)).Nodup
      · have hdup':((nw r++s.hp).map (·.n)).Nodup∧∀b∈nw r++s.hp,b.n≠m:=by
          rw[Lae,Lav]at hdup;obtain⟨d1,d2,d3⟩:=hdup;rw[Lao,Lb0]at d2;refine⟨?_,fun b hb=>?_⟩
          · rw[Lae,Lav]
            exact⟨d1,d2.2,fun i hi j hj=>d3 i hi j (by rw[Lao];exact Laa _ hj)⟩
          · rcases Lac.1 hb with hb|hb
            ·exact d3 b.n (La6.2 ⟨b,hb,rfl⟩) m (by rw[Lao];exact La9)
            ·exact hfm b hb
        obtain⟨my',cy',Ty',_,_,vy',k'⟩:=(k r hr).inv_new hdup'.1;obtain⟨rfl,rfl,rfl⟩:=vy.same vy' fun z hz=>by
          show Ag (Bz s.sl x.dst _) z=Ag (Bz s.sl x.dst _) z;rw[ey _ z hz,ey _ z hz]
        exact(k' m hm hdup'.2).eqv _ ⟨fun t=>look_comm h2 _ _ t,(Leh (a:=blk m cy Ty) (l₁:=nw r) (l₂:=s.hp)).symm⟩
      ·exact .dup hdup
theorem Tr.swap5{x y:Oper}{rest:List (Nat×Oper)}{s:St}{Q:St→Prop}(hap:x.apart ops y=true)(hnd:(s.hp.map (·.n)).Nodup)
    (soft:∀v,dstOk C.N x→Tr C ops ((2,y)::rest) (s.put x.dst v) Q→(∀(s':St),(∀z∈x.op.operands,Ag s'.sl z=Ag s.sl z)→wantS ops s'.sl x=wantS ops s.sl x→(∀w,HRep C s'.hp w→HRep C s.hp w)→
        Tr C ops rest (s'.put x.dst v) (clQ Q)→Tr C ops ((5,x)::rest) s' (clQ Q))→Tr C ops ((2,y)::(5,x)::rest) s (clQ Q))
    (h:Tr C ops ((5,x)::(2,y)::rest) s Q):Tr C ops ((2,y)::(5,x)::rest) s (clQ Q):=by
  obtain⟨h1,h2,h3⟩:=Oper.apart_spec hap;cases h with
  |dup h=>exact absurd hnd h
  |skip hc2 hw hd k=>exact soft _ hd k fun s' he hww _ kk=> .skip hc2 (by rw[hww];exact hw) hd kk
  | pure v hc2 hw hd hv k=>
    exact soft v hd k fun s' he hww _ kk=> .pure v hc2 (by rw[hww];exact hw) hd
      ⟨fun z hz=>by rw[he z hz];exact hv.known z hz,fun ρ hf=>hv.run ρ fun z hz=>by rw[←he z hz];exact hf z hz⟩ kk
  | kload v hc2 hw hd hv k=>
    exact soft v hd k fun s' he hww _ kk=> .kload v hc2 (by rw[hww];exact hw) hd
      ⟨fun z hz=>by rw[he z hz];exact hv.known z hz,fun ρ hf=>hv.run ρ fun z hz=>by rw[←he z hz];exact hf z hz⟩ kk
  | load v hc2 hc0 hw hd hv k=>
    exact soft v hd k fun s' he hww hh kk=> .load v hc2 hc0 (by rw[hww];exact hw) hd
      ⟨fun z hz=>by rw[he z hz];exact hv.known z hz,fun ρ hf w hr=>hv.run ρ (fun z hz=>by rw[←he z hz];exact hf z hz) w (hh w hr)⟩ kk
  |new mk cs T hc2 hw hd hv k=>rcases hc2 with hc2|hc2<;>simp at hc2
  |grow R val nw hc2 hw hd hv k=>rcases hc2 with hc2|hc2<;>simp at hc2
  |act R val hp hc2 hw hd hv k=>simp at hc2
  | lend R val nw lent L keep hc2 hw hd hsp hl hv k=>
    have hnk:(keep.map (·.n)).Nodup∧∀b∈keep,b.n∉lent:=by
      have h4:=(hsp.map (·.n)).nodup_iff.1 hnd;rw[Lae,Lav]at h4;refine⟨h4.2.1,fun b hb hn=>?_⟩;obtain⟨z,hz,e⟩:=hl _ hn;exact h4.2.2 z.n (La6.2 ⟨z,hz,rfl⟩) b.n (La6.2 ⟨b,hb,rfl⟩) e
    obtain⟨r0,hr0,hn0⟩:=hv.some keep hnk.1 hnk.2;have ey:∀(u:Value),∀z∈y.op.operands,Ag (Bz s.sl x.dst u) z=Ag s.sl z:=fun u z hz=>evIn_put ((not_look (ops:=ops) h1).1 z hz);have ex:∀(u:Value),∀z∈x.op.operands,Ag (Bz s.sl y.dst u) z=Ag s.sl z:=fun u z hz=>evIn_put ((not_look (ops:=ops) h3).1 z hz);obtain⟨my,cy,Ty,gy,dy,vy,_⟩:=(k r0 hr0).inv_new hn0;refine .new my cy Ty (.inl rfl) (by rw[←Cd (d:=x.dst) (v:=val r0) h1];exact gy) dy ⟨fun z hz=>by rw[←ey _ z hz];exact vy.known z hz,fun ρ hf=>vy.run ρ fun z hz=>by
      show Ag (Bz s.sl x.dst _) z=_;rw[ey _ z hz];exact hf z hz⟩ fun m hm hfm=>?_
    refine .lend R val nw lent L (blk m cy Ty::keep) hc2 (by show wantS ops (Bz s.sl y.dst _) x=_;rw[Cd h3];exact hw) hd ((List.Perm.cons _ hsp).trans Leh.symm) hl ⟨fun z hz=>by show(Ag (Bz s.sl y.dst _) z).isSome;rw[ex _ z hz];exact hv.known z hz,hv.some,fun a w hf hh=>?_⟩ fun r hr=>?_
    · refine hv.run a w (fun z hz=>?_) (hh.sub (fun b hb=>Laa _ hb) hnd)
      have:=hf z hz;rw[←ex (my m) z hz];exact this
    · have hfk:∀b∈keep,b.n≠m:=fun b hb=>hfm b (hsp.symm.subset (Lac.2 (.inr hb)))
      by_cases hdup:((nw r++(blk m cy Ty::keep)).map (·.n)).Nodup
      · have hdup':((nw r++keep).map (·.n)).Nodup∧∀b∈nw r++keep,b.n≠m:=by
          rw[Lae,Lav]at hdup;obtain⟨d1,d2,d3⟩:=hdup;rw[Lao,Lb0]at d2;refine⟨?_,fun b hb=>?_⟩
          · rw[Lae,Lav]
            exact⟨d1,d2.2,fun i hi j hj=>d3 i hi j (by rw[Lao];exact Laa _ hj)⟩
          · rcases Lac.1 hb with hb|hb
            ·exact d3 b.n (La6.2 ⟨b,hb,rfl⟩) m (by rw[Lao];exact La9)
            ·exact hfk b hb
        obtain⟨my',cy',Ty',_,_,vy',k'⟩:=(k r hr).inv_new hdup'.1;obtain⟨rfl,rfl,rfl⟩:=vy.same vy' fun z hz=>by
          show Ag (Bz s.sl x.dst _) z=Ag (Bz s.sl x.dst _) z;rw[ey _ z hz,ey _ z hz]
        exact(k' m hm hdup'.2).eqv _ ⟨fun t=>look_comm h2 _ _ t,(Leh (a:=blk m cy Ty) (l₁:=nw r) (l₂:=keep)).symm⟩
      ·exact .dup hdup
theorem Tr.swap{c e:Nat}{x y:Oper}{rest:List (Nat×Oper)}{s:St}{Q:St→Prop}(hc:comm c e=true)(hap:x.apart ops y=true)
    (h:Tr C ops ((c,x)::(e,y)::rest) s Q):Tr C ops ((e,y)::(c,x)::rest) s (clQ Q):=by
  by_cases hnd:(s.hp.map (·.n)).Nodup
  case neg=>exact .dup hnd
  by_cases hne:c=2
  · subst hne
    have he:e=2:=by simpa[comm]using hc
    subst he;exact Tr.swap2 hap hnd h
  by_cases hne3:c=3
  · subst hne3
    have he:e=2:=by simpa[comm]using hc
    subst he;refine Tr.swap3 hap hnd (fun v hdx k fin=>?_) h;obtain⟨h1,h2,h3⟩:=Oper.apart_spec hap;obtain⟨mk,cs,T,hw,hd,hv,k⟩:=k.inv_new hnd;exact .new mk cs T (.inl rfl) (by rw[←Cd (v:=v) h1];exact hw) hd ⟨(known_put h1).1 hv.known,fun ρ hf=>hv.run ρ ((fits_put h1).2 hf)⟩ fun n hn hf=>
      fin _ (fun z hz=>evIn_put ((not_look (ops:=ops) h3).1 z hz)) (Cd h3) (fun w hr=>hr.sub (fun b hb=>Laa _ hb) (by have:=hr.nodup;simp only[St.add,Lao,Lb0]at this;exact this.2))
        ((k n hn hf).eqv _ ⟨fun t=>look_comm h2 _ _ t, .refl _⟩)
  by_cases hne5:c=5
  · subst hne5
    have he:e=2:=by simpa[comm]using hc
    subst he;refine Tr.swap5 hap hnd (fun v hdx k fin=>?_) h;obtain⟨h1,h2,h3⟩:=Oper.apart_spec hap;obtain⟨mk,cs,T,hw,hd,hv,k⟩:=k.inv_new hnd;exact .new mk cs T (.inl rfl) (by rw[←Cd (v:=v) h1];exact hw) hd ⟨(known_put h1).1 hv.known,fun ρ hf=>hv.run ρ ((fits_put h1).2 hf)⟩ fun n hn hf=>
      fin _ (fun z hz=>evIn_put ((not_look (ops:=ops) h3).1 z hz)) (Cd h3) (fun w hr=>hr.sub (fun b hb=>Laa _ hb) (by have:=hr.nodup;simp only[St.add,Lao,Lb0]at this;exact this.2))
        ((k n hn hf).eqv _ ⟨fun t=>look_comm h2 _ _ t, .refl _⟩)
  obtain⟨h1,h2,h3⟩:=Oper.apart_spec hap
  -- the first one is soft: its value, and that it stays so
  have soft:∃v,dstOk C.N x∧Tr C ops ((e,y)::rest) (s.put x.dst v) Q∧c≠2∧
      ∀ (s':St),(∀z∈x.op.operands,Ag s'.sl z=Ag s.sl z)→wantS ops s'.sl x=wantS ops s.sl x→((c≠0)→∀w,HRep C s'.hp w→HRep C s.hp w)→
        Tr C ops rest (s'.put x.dst v) (clQ Q)→Tr C ops ((c,x)::rest) s' (clQ Q):=by
    cases h with
    |dup h=>exact absurd hnd h
    |skip hc2 hw hd k=>exact⟨_,hd,k,hc2,fun s' _ hww _ kk=> .skip hc2 (by rw[hww];exact hw) hd kk⟩
    | pure v hc2 hw hd hv k=>
      exact⟨v,hd,k,hc2,fun s' he hww _ kk=> .pure v hc2 (by rw[hww];exact hw) hd
        ⟨fun z hz=>by rw[he z hz];exact hv.known z hz,fun ρ hf=>hv.run ρ fun z hz=>by rw[←he z hz];exact hf z hz⟩ kk⟩
    | kload v hc2 hw hd hv k=>
      exact⟨v,hd,k,hc2,fun s' he hww _ kk=> .kload v hc2 (by rw[hww];exact hw) hd
        ⟨fun z hz=>by rw[he z hz];exact hv.known z hz,fun ρ hf=>hv.run ρ fun z hz=>by rw[←he z hz];exact hf z hz⟩ kk⟩
    | load v hc2 hc0 hw hd hv k=>
      exact⟨v,hd,k,hc2,fun s' he hww hh kk=> .load v hc2 hc0 (by rw[hww];exact hw) hd
        ⟨fun z hz=>by rw[he z hz];exact hv.known z hz,fun ρ hf w hr=>hv.run ρ (fun z hz=>by rw[←he z hz];exact hf z hz) w (hh hc0 w hr)⟩ kk⟩
    |new mk cs T hc2 hw hd hv k=>rcases hc2 with rfl|rfl<;>first|exact absurd rfl hne|(simp[comm]at hc;done)
    |grow R val nw hc2 hw hd hv k=>rcases hc2 with rfl|rfl<;>first|exact absurd rfl hne3|(simp[comm]at hc;done)
    |lend R val nw lent L keep hc2 hw hd hsp hl hv k=>rcases hc2 with rfl|rfl<;>first|exact absurd rfl hne5|(simp[comm]at hc;done)
    |act R val hp hc2 hw hd hv k=>subst hc2;simp[comm]at hc
  obtain⟨v,hdx,k,hc2,fin⟩:=soft;have opx:∀(u:Value),∀z∈x.op.operands,Ag (Bz s.sl y.dst u) z=Ag s.sl z:=fun u z hz=>evIn_put ((not_look (ops:=ops) h3).1 z hz);have wx:∀(u:Value),wantS ops (Bz s.sl y.dst u) x=wantS ops s.sl x:=fun u=>Cd h3;have cm:∀u t,look (Bz (Bz s.sl x.dst v) y.dst u) t=look (Bz (Bz s.sl y.dst u) x.dst v) t:=fun u t=>look_comm h2 v u t;cases k with
  |dup h=>exact absurd hnd h
  |skip hc' hw hd k=>exact .skip hc' (by rw[←Cd (v:=v) h1];exact hw) hd (fin _ (opx _) (wx _) (fun _ _ h=>h) (k.eqv _ ⟨cm _, .refl _⟩))
  | pure u hc' hw hd hv k=>
    exact .pure u hc' (by rw[←Cd (v:=v) h1];exact hw) hd ⟨(known_put h1).1 hv.known,fun ρ hf=>hv.run ρ ((fits_put h1).2 hf)⟩
      (fin _ (opx _) (wx _) (fun _ _ h=>h) (k.eqv _ ⟨cm _, .refl _⟩))
  | kload u hc' hw hd hv k=>
    exact .kload u hc' (by rw[←Cd (v:=v) h1];exact hw) hd ⟨(known_put h1).1 hv.known,fun ρ hf=>hv.run ρ ((fits_put h1).2 hf)⟩
      (fin _ (opx _) (wx _) (fun _ _ h=>h) (k.eqv _ ⟨cm _, .refl _⟩))
  | load u hc' hc0 hw hd hv k=>
    exact .load u hc' hc0 (by rw[←Cd (v:=v) h1];exact hw) hd ⟨(known_put h1).1 hv.known,fun ρ hf w hr=>hv.run ρ ((fits_put h1).2 hf) w hr⟩
      (fin _ (opx _) (wx _) (fun _ _ h=>h) (k.eqv _ ⟨cm _, .refl _⟩))
  | new mk cs T hc' hw hd hv k=>
    exact .new mk cs T hc' (by rw[←Cd (v:=v) h1];exact hw) hd ⟨(known_put h1).1 hv.known,fun ρ hf=>hv.run ρ ((fits_put h1).2 hf)⟩ fun n hn hf=>
      fin _ (opx _) (wx _) (fun _ w hr=>hr.sub (fun b hb=>Laa _ hb) (by have:=hr.nodup;simp only[St.add,Lao,Lb0]at this;exact this.2))
        ((k n hn hf).eqv _ ⟨cm _, .refl _⟩)
  | grow R val nw hc' hw hd hv k=>
    exact .grow R val nw hc' (by rw[←Cd (v:=v) h1];exact hw) hd ⟨(known_put h1).1 hv.known,hv.some,fun a w hf hr=>hv.run a w ((fits_put h1).2 hf) hr⟩ fun r hr=>
      fin ⟨Bz s.sl y.dst (val r),nw r++s.hp⟩ (opx _) (wx _) (fun _ w hh=>hh.sub (fun b hb=>Lac.2 (.inr hb)) hnd)
        ((k r hr).eqv _ ⟨cm _, .refl _⟩)
  | lend R val nw lent L keep hc' hw hd hsp hl hv k=>
    refine .lend R val nw lent L keep hc' (by rw[←Cd (v:=v) h1];exact hw) hd hsp hl ⟨(known_put h1).1 hv.known,hv.some,fun a w hf hr=>hv.run a w ((fits_put h1).2 hf) hr⟩ fun r hr=>
      fin ⟨Bz s.sl y.dst (val r),nw r++keep⟩ (opx _) (wx _) (fun hc0=>?_) ((k r hr).eqv _ ⟨cm _, .refl _⟩)
    rcases hc' with rfl|rfl<;>(simp[comm]at hc;exact absurd hc hc0)
  | act R val hp hc' hw hd hv k=>
    subst hc';refine .act R val hp rfl (by rw[←Cd (v:=v) h1];exact hw) hd ⟨(known_put h1).1 hv.known,fun a w hf hr=>hv.run a w ((fits_put h1).2 hf) hr⟩ fun r hr=>
      fin ⟨Bz s.sl y.dst (val r),hp r⟩ (opx _) (wx _) (fun hc0=>?_) ((k r hr).eqv _ ⟨cm _, .refl _⟩)
    simp[comm]at hc;exact absurd hc hc0
theorem Tr.tail{p:Nat×Oper}{l l':List (Nat×Oper)}{s:St}{Q Q':St→Prop}(h:Tr C ops (p::l) s Q)(f:∀s,Tr C ops l s Q→Tr C ops l' s Q'):Tr C ops (p::l') s Q':=by
  cases h with
  |dup h=>exact .dup h
  |skip hc hw hd k=>exact .skip hc hw hd (f _ k)
  |pure v hc hw hd hv k=>exact .pure v hc hw hd hv (f _ k)
  |kload v hc hw hd hv k=>exact .kload v hc hw hd hv (f _ k)
  |load v hc hc0 hw hd hv k=>exact .load v hc hc0 hw hd hv (f _ k)
  |new mk cs T hc hw hd hv k=>exact .new mk cs T hc hw hd hv fun n h1 h2=>f _ (k n h1 h2)
  |grow R val nw hc hw hd hv k=>exact .grow R val nw hc hw hd hv fun r hr=>f _ (k r hr)
  |lend R val nw lent L keep hc hw hd hsp hl hv k=>exact .lend R val nw lent L keep hc hw hd hsp hl hv fun r hr=>f _ (k r hr)
  |act R val hp hc hw hd hv k=>exact .act R val hp hc hw hd hv fun r hr=>f _ (k r hr)
theorem Tr.mono{l:List (Nat×Oper)}{s:St}{Q Q':St→Prop}(h:Tr C ops l s Q)(f:∀s,Q s→Q' s):Tr C ops l s Q':=by
  induction l generalizing s with
  |nil=>cases h with|nil h=>exact .nil (f _ h)|dup h=>exact .dup h
  |cons p l ih=>exact h.tail fun s k=>ih k
theorem Tr.front{y:Oper}{l1 l2:List (Nat×Oper)}{s:St}{Q:St→Prop}(hc:∀p∈l1,comm p.1 e=true∧p.2.apart ops y=true)
    (h:Tr C ops (l1++(e,y)::l2) s Q):Tr C ops ((e,y)::(l1++l2)) s (clQ Q):=by
  induction l1 generalizing s with
  |nil=>exact h.mono fun s q=>⟨s, .refl _,q⟩
  | cons p l1 ih=>
    obtain⟨c,x⟩:=p;have h1:Tr C ops ((c,x)::(e,y)::(l1++l2)) s (clQ Q):=h.tail fun s k=>ih (fun p hp=>hc p (Laa _ hp)) k;have:=hc (c,x) La9;exact(h1.swap this.1 this.2).mono fun s q=>clQ_cl q
def bindsIn(ops:Array Oper)(j:Nat):List Nat:=
  match ops[j]? with
  |some o=>(o.after.toList.filter fun e=>Region.binds .any e).map (·.on)
  |none=>[]
def reach(ops:Array Oper):Nat→Nat→Nat→Bool
  |0,_,_=>false
  |n+1,j,i=>(bindsIn ops j).contains i||(bindsIn ops j).any fun k=>reach ops n k i
def pairOk(ops:Array Oper)(p q:Nat×Nat):Bool:=
  (comm p.1 q.1&&(match ops[p.2]?,ops[q.2]? with|some x,some y=>x.apart ops y|_,_=>false))||reach ops ops.size q.2 p.2
def pairsOk(ops:Array Oper):List (Nat×Nat)→Bool
  | []=>true
  |p::l=>l.all (pairOk ops p)&&pairsOk ops l
def topoOk(ops:Array Oper)(seen:List Nat):List (Nat×Nat)→Bool
  | []=>true
  |p::l=>decide (p.2<ops.size)&& !seen.contains p.2&&(bindsIn ops p.2).all (fun k=>seen.contains k)&&topoOk ops (p.2::seen) l
def orderOk(ops:Array Oper)(perm:List (Nat×Nat)):Bool:=
  topoOk ops [] perm&&(List.range ops.size).all (fun i=>(perm.map (·.2)).contains i)&&pairsOk ops perm
def items(ops:Array Oper)(l:List (Nat×Nat)):List (Nat×Oper):=l.filterMap fun p=>(ops[p.2]?).map fun o=>(p.1,o)
def Shut(ops:Array Oper)(listed:Array Bool):Prop:=∀j,listed.getD j false=true→∀k∈bindsIn ops j,listed.getD k false=true
theorem reach_listed{ops:Array Oper}{listed:Array Bool}(hs:Shut ops listed):∀n j i,(∀k∈bindsIn ops j,listed.getD k false=true)→reach ops n j i=true→listed.getD i false=true
  |0,_,_,_,h=>by simp[reach]at h
  | n +1,j,i,hj,h=>by
    simp only[reach,Lcm]at h;rcases h with h|h
    ·exact hj i (by simpa using h)
    · obtain⟨k,hk,hr⟩:=List.any_eq_true.1 h
      exact reach_listed hs n k i (hs k (hj k hk)) hr
theorem mem_ready'(hsz:listed.size=ops.size):
    i∈Region.ready .any ops listed↔i<ops.size∧listed.getD i false=false∧∀k∈bindsIn ops i,listed.getD k false=true:=by
  unfold Region.ready;simp only[Ld2,Ldz];constructor
  · rintro⟨hi,h⟩
    have ho:ops[i]? =some ops[i]:=Lct hi;have hl:i<listed.size:=by omega
    simp only[ho,Lbj,Lbp,Lan,Ldr,Lfj]at h;refine⟨hi,by simpa[hl]using h.1,fun k hk=>?_⟩;unfold bindsIn at hk;rw[ho]at hk;obtain⟨e,he,rfl⟩:=La6.1 hk;rw[Ld2]at he;have:=h.2 e (by simpa using he.1);simpa[he.2]using this
  · rintro⟨hi,h0,h1⟩
    have ho:ops[i]? =some ops[i]:=Lct hi;have hl:i<listed.size:=by omega
    refine⟨hi,?_⟩;simp only[ho,Lbj,Lbp,Lan,Ldr,Lfj];refine⟨by simpa[hl]using h0,fun e he=>?_⟩;by_cases hb:Region.binds .any e=true
    · have:=h1 e.on (by
        unfold bindsIn;rw[ho];exact La6.2 ⟨e,Ld2.2 ⟨by simpa using he,hb⟩,rfl⟩)
      simp[this]
    ·simp[hb]
theorem topo_mem{ops:Array Oper}:∀(l:List (Nat×Nat)) (seen:List Nat),topoOk ops seen l=true→∀p∈l,p.2<ops.size∧p.2∉seen
  | [],_,_,p,hp=>by cases hp
  | q ::l,seen,h,p,hp=>by
    simp only[topoOk,Lan,decide_eq_true_eq,Ldr,Lfv,decide_eq_false_iff_not]at h;rcases Lag.1 hp with rfl|hp
    ·exact⟨h.1.1.1,h.1.1.2⟩
    · have:=topo_mem l _ h.2 p hp
      exact⟨this.1,fun hm=>this.2 (Laa _ hm)⟩
theorem topo_nodup{ops:Array Oper}:∀(l:List (Nat×Nat)) (seen:List Nat),topoOk ops seen l=true→(l.map (·.2)).Nodup
  | [],_,_=>Lbv
  | q::l,seen,h=>by
    simp only[topoOk,Lan,decide_eq_true_eq]at h;refine Lb0.2 ⟨fun hm=>?_,topo_nodup l _ h.2⟩;obtain⟨p,hp,he⟩:=La6.1 hm;exact(topo_mem l _ h.2 p hp).2 (by rw[he];exact La9)
theorem topo_first{ops:Array Oper}{listed:Array Bool}(hsz:listed.size=ops.size):∀(l:List (Nat×Nat)) (seen:List Nat),topoOk ops seen l=true→(∀k∈seen,listed.getD k false=true)→
    ∀p l',l.filter (fun p=> !listed.getD p.2 false)=p::l'→p.2∈Region.ready .any ops listed
  | [],_,_,_,p,l',h=>by simp at h
  | q ::l,seen,h,hs,p,l',hf=>by
    simp only[topoOk,Lan,decide_eq_true_eq,Lcg,Lfv]at h;cases hq:listed.getD q.2 false with
    | true=>
      rw[Lft,hq]at hf;refine topo_first hsz l (q.2::seen) h.2 (fun k hk=>?_) p l' (by simpa using hf);rcases Lag.1 hk with rfl|hk
      ·exact hq
      ·exact hs k hk
    | false=>
      rw[Lft,hq]at hf;simp only[Bool.not_false,if_true,Lev]at hf;rw[←hf.1];exact(mem_ready' hsz).2 ⟨h.1.1.1,hq,fun k hk=>hs k (h.1.2 k hk)⟩
theorem pairs_split{ops:Array Oper}:∀(l1:List (Nat×Nat)) (q:Nat×Nat) (l2:List (Nat×Nat)),pairsOk ops (l1++q::l2)=true→∀p∈l1,pairOk ops p q=true
  | [],_,_,_,p,hp=>by cases hp
  | r::l1,q,l2,h,p,hp=>by
    simp only[Lap,pairsOk,Lan,Lcg]at h;rcases Lag.1 hp with rfl|hp
    ·exact h.1 q sP
    ·exact pairs_split l1 q l2 h.2 p hp
theorem pairs_filter{ops:Array Oper}(f:Nat×Nat→Bool):∀(l:List (Nat×Nat)),pairsOk ops l=true→pairsOk ops (l.filter f)=true
  | [],_=>rfl
  | p ::l,h=>by
    simp only[pairsOk,Lan,Lcg]at h;rw[Lft];split
    · simp only[pairsOk,Lan,Lcg]
      exact⟨fun q hq=>h.1 q (Ld2.1 hq).1,pairs_filter f l h.2⟩
    ·exact pairs_filter f l h.2
theorem items_append(ops:Array Oper)(l1 l2:List (Nat×Nat)):items ops (l1++l2)=items ops l1++items ops l2:=by simp[items,List.filterMap_append]
theorem getD_set(listed:Array Bool)(i j:Nat)(hi:i<listed.size):(listed.setIfInBounds i true).getD j false=(decide (i=j)||listed.getD j false):=by
  by_cases h:i=j
  ·subst h;simp[hi]
  ·simp[h,Lco h]
theorem filter_set{j:Nat}(hj:j<listed.size)(perm l1 l2:List (Nat×Nat))(q:Nat×Nat)(hq:q.2=j)(hn:(perm.map (·.2)).Nodup)
    (hf:perm.filter (fun p=> !listed.getD p.2 false)=l1++q::l2):perm.filter (fun p=> !(listed.setIfInBounds j true).getD p.2 false)=l1++l2:=by
  have e:perm.filter (fun p=> !(listed.setIfInBounds j true).getD p.2 false)=(perm.filter (fun p=> !listed.getD p.2 false)).filter fun p=> !decide (j=p.2):=by
    rw[List.filter_filter];congr 1;funext p;rw[getD_set _ _ _ hj];cases decide (j=p.2)<;>simp
  have hnf:((l1++q::l2).map (·.2)).Nodup:=by
    rw[←hf];exact List.Sublist.nodup (List.Sublist.map _ List.filter_sublist) hn
  rw[Lae,Lao,Lav]at hnf;rw[e,hf,Lg5,Lft];have h1:l1.filter (fun p=> !decide (j=p.2))=l1:=Lf7.2 fun p hp=>by
    have:=hnf.2.2 p.2 (La6.2 ⟨p,hp,rfl⟩) q.2 La9;simp;omega
  have h2:l2.filter (fun p=> !decide (j=p.2))=l2:=Lf7.2 fun p hp=>by
    have:=(Lb0.1 hnf.2.1).1;simp only[decide_not,Ldr,decide_eq_false_iff_not,Bool.not_eq_eq_eq_not,Bool.not_true];exact fun he=>this (by rw[hq,he];exact La6.2 ⟨p,hp,rfl⟩)
  rw[h1,h2];simp[hq]
def Fin(C:Cx)(Q:St→Prop)(e:Exit)(a:Act)(w:World):Prop:=e= .normal∧∃s',Rep C s' a w∧Q s'
theorem Fin_cl(C:Cx)(Q:St→Prop):Fin C (clQ Q)=Fin C Q:=by
  funext e a w;refine propext ⟨fun h=>?_,fun h=>?_⟩
  · obtain⟨h1,s0,h2,s1,h3,h4⟩:=h
    exact⟨h1,s1,h2.eqv h3.symm,h4⟩
  · obtain⟨h1,s0,h2,h3⟩:=h
    exact⟨h1,s0,h2,s0, .refl _,h3⟩
theorem wpAny_of_tr{perm:List (Nat×Nat)}(hok:orderOk ops perm=true):
    ∀ (fuel:Nat) (listed:Array Bool) (s:St) (a:Act) (w:World) (Q:St→Prop),listed.size=ops.size→Shut ops listed→
      (perm.filter (fun p=> !listed.getD p.2 false)).length≤fuel→
      Rep C s a w→Tr C ops (items ops (perm.filter (fun p=> !listed.getD p.2 false))) s Q→
      wpAny C.P .any ops (Fin C Q) fuel listed a w:=by
  simp only[orderOk,Lan,Lcg]at hok;obtain⟨⟨htopo,hall⟩,hpairs⟩:=hok;have hnd:=topo_nodup perm [] htopo;have isnil:∀(listed:Array Bool),listed.size=ops.size→Region.ready .any ops listed=[]→perm.filter (fun p=> !listed.getD p.2 false)=[]:=by
    intro listed hsz hr;cases hf:perm.filter (fun p=> !listed.getD p.2 false)with
    |nil=>rfl
    | cons p l'=>
      have:=topo_first hsz perm [] htopo sP p l' hf;rw[hr]at this;cases this
  have fin:∀(listed:Array Bool) (s:St) (a:Act) (w:World) (Q:St→Prop),perm.filter (fun p=> !listed.getD p.2 false)=[]→Rep C s a w→
      Tr C ops (items ops (perm.filter (fun p=> !listed.getD p.2 false))) s Q→∃s',Rep C s' a w∧Q s':=by
    intro listed s a w Q hf r h;rw[hf]at h;cases h with|nil h=>exact⟨s,r,h⟩|dup h=>exact absurd r.rh.nodup h
  have mem_of:∀(listed:Array Bool),listed.size=ops.size→∀j∈Region.ready .any ops listed,∃p∈perm.filter (fun p=> !listed.getD p.2 false),p.2=j:=by
    intro listed hsz j hj;obtain⟨h1,h2,_⟩:=(mem_ready' hsz).1 hj;have:=hall j (Ldz.2 h1);simp only[Lfv,decide_eq_true_eq]at this;obtain⟨p,hp,he⟩:=La6.1 this;exact⟨p,Ld2.2 ⟨hp,by rw[he,h2];rfl⟩,he⟩
  intro fuel
  induction fuel with
  | zero=>
    intro listed s a w Q hsz hs hlen r h;have h0:perm.filter (fun p=> !listed.getD p.2 false)=[]:=Las oM;refine⟨?_,rfl,fin listed s a w Q h0 r h⟩;cases hr:Region.ready .any ops listed with
    |nil=>rfl
    | cons j l=>
      obtain⟨p,hp,_⟩:=mem_of listed hsz j (by rw[hr];exact La9);rw[h0]at hp;cases hp
  | succ fuel ih=>
    intro listed s a w Q hsz hs hlen r h;refine⟨fun hr=>⟨rfl,fin listed s a w Q (isnil listed hsz hr) r h⟩,fun j hj=>?_⟩;obtain⟨q,hq,hqj⟩:=mem_of listed hsz j hj;obtain⟨hjlt,hjun,hjb⟩:=(mem_ready' hsz).1 hj;obtain⟨l1,l2,hf⟩:=List.append_of_mem hq;have hoj:ops[j]? =some ops[j]:=Lct hjlt;rw[hf,items_append]at h;have hit:items ops (q::l2)=(q.1,ops[j])::items ops l2:=by
      simp[items,hqj,hjlt]
    rw [hit]at h;have hpf:=pairs_filter (fun p=> !listed.getD p.2 false) perm hpairs;rw[hf]at hpf;have h':=Tr.front (l1:=items ops l1) (l2:=items ops l2) (fun p hp=>by
      obtain⟨p0,hp0,he⟩:=List.mem_filterMap.1 hp;have hp1:=pairs_split l1 q l2 hpf p0 hp0;have hun:listed.getD p0.2 false=false:=by
        have:p0∈perm.filter (fun p=> !listed.getD p.2 false):=by rw[hf];exact Lac.2 (.inl hp0)
        simpa using(Ld2.1 this).2
      cases hop:ops[p0.2]? with
      |none=>rw[hop]at he;cases he
      | some o=>
        rw[hop]at he;simp only[Lbj,La3]at he;subst he;simp only[pairOk,Lcm,Lan]at hp1;rcases hp1 with hp1|hp1
        · rw[hop,hqj,hoj]at hp1
          exact hp1
        · have:=reach_listed hs ops.size q.2 p0.2 (by rw[hqj];exact hjb) hp1
          rw[hun]at this;cases this) h
    have hjl:j<listed.size:=by omega
    refine wpOp_mono (K:=fun a' w'=>∃s',Rep C s' a' w'∧Tr C ops (items ops l1++items ops l2) s' (clQ Q)) ?_ (Tr.step (i:=j) hoj h' a w r _ (fun s' a' w' r' k=>⟨s',r',k⟩) _);rintro a' w' ⟨s',r',k⟩;have hfs:=filter_set hjl perm l1 l2 q hqj hnd hf;have hlen2:=congrArg List.length hf;rw[La5,Lbh]at hlen2;have:=ih (listed.setIfInBounds j true) s' a' w' (clQ Q) (by simp[hsz]) (fun i hi k hk=>by
        rw[getD_set _ _ _ hjl]at hi ⊢;by_cases hij:j=i
        ·subst hij;rw[hjb k hk];simp
        · simp only[hij,decide_false,Bool.false_or]at hi
          rw[hs i hi k hk];simp)
      (by rw[hfs,La5];omega) r' (by rw[hfs,items_append];exact k)
    rw[Fin_cl]at this;exact this
def Sat(C:Cx)(code:Code)(s:St)(Q:Exit→St→Prop):Prop:=
  ∀a w,Rep C s a w→code.wp C.P (fun e a' w'=>∃s',Rep C s' a' w'∧Q e s') a w
theorem Sat.mono{s:St}{Q Q':Exit→St→Prop}(h:Sat C code s Q)(hq:∀e s,Q e s→Q' e s):Sat C code s Q':=
  fun a w r=>wp_mono (h a w r) fun _ _ _ ⟨s',r',q⟩=>⟨s',r',hq _ _ q⟩
theorem wpOps_of_tr{C:Cx}{ops:Array Oper}{X:Exit→Act→World→Prop}:∀(l:List (Nat×Oper)) (is:List Nat) (s:St) (a:Act) (w:World) (Q:St→Prop),
    is.length=l.length→(∀k:Nat,(is[k]?).bind (fun i=>ops[i]?)=(l[k]?).map Prod.snd)→Rep C s a w→Tr C ops l s Q→(∀s' a' w',Rep C s' a' w'→Q s'→X .normal a' w')→wpOps C.P ops X is a w
  | [],is,s,a,w,Q,hl,_,r,h,hX=>by
    have:is=[]:=Las hl;subst this;cases h with|nil h=>exact hX s a w r h|dup h=>exact absurd r.rh.nodup h
  |(c,o)::l,[],s,a,w,Q,hl,_,r,h,hX=>by cases hl
  | (c,o)::l,i::is,s,a,w,Q,hl,he,r,h,hX=>by
    rw[wpOps_cons];have h0:ops[i]? =some o:=by simpa using he 0
    refine Tr.step h0 h a w r _ (fun s' a' w' r' k=>?_) _;exact wpOps_of_tr l is s' a' w' Q (by simpa using hl) (fun k=>by simpa using he (k+1)) r' k hX
theorem Sat.region{id:Nat}{ops:List Oper}{s:St}{Q:Exit→St→Prop}(h:Tr C ops.toArray (ops.map fun o=>(4,o)) s (Q .normal)):
    Sat C (.region id ops.toArray false) s Q:=by
  intro a w r;refine wp_region (wpOps_of_tr _ _ s a w _ sP (fun k=>?_) r h fun s' a' w' r' q=>⟨s',r',q⟩);by_cases hk:k<ops.length
  ·simp[hk]
  ·simp[hk]
theorem Sat.draw{id:Nat}{ops:List Oper}{s:St}{Q:Exit→St→Prop}(perm:List (Nat×Nat))(hm:C.P.follows .mixedOrders=true)(hok:orderOk ops.toArray perm=true)
    (h:Tr C ops.toArray (items ops.toArray perm) s (Q .normal)):Sat C (.region id ops.toArray true) s Q:=by
  intro a w r;have hlen:perm.length≤ops.length:=by
    simp only[orderOk,Lan]at hok;have hnd:=topo_nodup perm [] hok.1.1;have hlt:∀x∈perm.map (·.2),x∈List.range ops.length:=fun x hx=>by
      obtain⟨p,hp,rfl⟩:=La6.1 hx;have:=(topo_mem perm [] hok.1.1 p hp).1;simpa using this
    have:=hnd.length_le_of_subset hlt;simpa using this
  have h0:perm.filter (fun p=> !(Array.replicate ops.toArray.size false).getD p.2 false)=perm:=Lf7.2 fun p _=>by
    rw[Ldt,Le8];split<;>rfl
  have:=wpAny_of_tr (C:=C) hok ops.toArray.size (Array.replicate ops.toArray.size false) s a { w with drawn:=w.drawn+1 } (Q .normal) sP
    (fun j hj=>by
      rw[Ldt,Le8]at hj;split at hj<;>simp at hj) (by rw[h0];simpa using hlen) ⟨r.rs,r.rh.drew _⟩ (by rw[h0];exact h)
  refine wp_mono (wp_region_any hm this) fun e a' w' ⟨he,s',r',q⟩=>?_;subst he;exact⟨s',r',q⟩
def thenQ(N:St→Prop)(Q:Exit→St→Prop):Exit→St→Prop
  | .normal,s=>N s
  |e,s=>Q e s
theorem Sat.seq{x y:Code}{s:St}{Q:Exit→St→Prop}(h:Sat C x s (thenQ (fun s'=>Sat C y s' Q) Q)):Sat C (.seq x y) s Q:=by
  intro a w r;refine wp_seq (wp_mono (h a w r) fun e a' w' ⟨s',r',q⟩=>?_);cases e with
  |normal=>exact q a' w' r'
  |_=>exact⟨s',r',q⟩
theorem Sat.skip{s:St}{Q:Exit→St→Prop}(h:Q .normal s):Sat C .skip s Q:=fun _ _ r=>wp_skip ⟨s,r,h⟩
theorem Sat.ret{s:St}{Q:Exit→St→Prop}(h:Q .ret s):Sat C .ret s Q:=fun _ _ r=>wp_ret ⟨s,r,h⟩
theorem Sat.exit{id:Nat}{s:St}{Q:Exit→St→Prop}(h:Q (.exit id) s):Sat C (.exit id) s Q:=fun _ _ r=>wp_exit ⟨s,r,h⟩
theorem Sat.label{l:Nat}{s:St}{Q:Exit→St→Prop}(h:Q .normal s):Sat C (.label l) s Q:=fun _ _ r=>wp_label ⟨s,r,h⟩
theorem Sat.goto{l:Nat}{s:St}{Q:Exit→St→Prop}(h:Q (.goto l) s):Sat C (.goto l) s Q:=fun _ _ r=>wp_goto ⟨s,r,h⟩
theorem Sat.cond{c:Operand}{x y:Code}{b:Bool}{s:St}{Q:Exit→St→Prop}(hc:s.ev c=some (.bool b))(ht:b=true→Sat C x s Q)(hf:b=false→Sat C y s Q):Sat C (.cond c x y) s Q:=by
  intro a w r;exact wp_cond_split (r.rs.eval hc) (fun h=>ht h a w r) (fun h=>hf h a w r)
theorem Sat.cond_t{c:Operand}{x y:Code}{b:Bool}{s:St}{Q:Exit→St→Prop}(hc:s.ev c=some (.bool b))(hb:b=true)(ht:Sat C x s Q):Sat C (.cond c x y) s Q:=
  Sat.cond hc (fun _=>ht) fun h=>by rw[hb]at h;cases h
theorem Sat.cond_f{c:Operand}{x y:Code}{b:Bool}{s:St}{Q:Exit→St→Prop}(hc:s.ev c=some (.bool b))(hb:b=false)(hf:Sat C y s Q):Sat C (.cond c x y) s Q:=
  Sat.cond hc (fun h=>by rw[hb]at h;cases h) fun _=>hf
def atBlock(id:Nat)(Q:Exit→St→Prop):Exit→St→Prop
  | .exit i,s=>bif Nat.beq i id then Q .normal s else Q (.exit i) s
  |e,s=>Q e s
theorem Sat.block{id:Nat}{x:Code}{s:St}{Q:Exit→St→Prop}(h:Sat C x s (atBlock id Q)):Sat C (.block id x) s Q:=by
  intro a w r;refine wp_block (wp_mono (h a w r) fun e a' w' ⟨s',r',q⟩=>?_);cases e with
  | exit i=>
    simp only[atBlock]at q;simp only[Exit.inBlock];by_cases hi:i=id
    · subst hi
      simp only[if_true];exact⟨s',r',by simpa using q⟩
    · rw[if_neg hi]
      have:Nat.beq i id=false:=by
        cases hb:Nat.beq i id
        ·rfl
        ·exact absurd (Lck hb) hi
      rw[this]at q;exact⟨s',r',q⟩
  |_=>exact⟨s',r',q⟩
structure Weak(s s':St):Prop where
  sl:∀p∈s'.sl,look s.sl p.1=some p.2
  hp:∀b∈s'.hp,b∈s.hp
  nodup:(s.hp.map (·.n)).Nodup→(s'.hp.map (·.n)).Nodup
theorem Rep.weak{s s':St}{a:Act}{w:World}(r:Rep C s a w)(h:Weak s s'):Rep C s' a w:=
  ⟨⟨r.rs.size,r.rs.defers,fun t v ht=>r.rs.slots t v (h.sl _ (look_mem ht))⟩,r.rh.sub h.hp (h.nodup r.rh.nodup)⟩
theorem Sat.weak{s s':St}{Q:Exit→St→Prop}(hw:Weak s s')(h:Sat C code s' Q):Sat C code s Q:=fun a w r=>h a w (r.weak hw)
def wkl(sl:List (Nat×Value)):List (Nat×Value)→Prop
  | []=>True
  |(t,v)::l=>look sl t=some v∧wkl sl l
def whl(hp:List Blk):List Blk→Prop
  | []=>True
  |b::l=>b∈hp∧whl hp l
theorem wk0:wkl sl []:=trivial
theorem wk1{sl l:List (Nat×Value)}{t:Nat}{v:Value}(h:look sl t=some v)(k:wkl sl l):wkl sl ((t,v)::l):=⟨h,k⟩
theorem wh0:whl hp []:=trivial
theorem wh1{hp l:List Blk}{b:Blk}(h:b∈hp)(k:whl hp l):whl hp (b::l):=⟨h,k⟩
theorem wkl_mem{sl:List (Nat×Value)}:∀ {l:List (Nat×Value)},wkl sl l→∀p∈l,look sl p.1=some p.2
  | [],_,p,hp=>by cases hp
  | (t,v)::l,h,p,hp=>by
    rcases Lag.1 hp with rfl|hp
    ·exact h.1
    ·exact wkl_mem h.2 p hp
theorem whl_mem{hp:List Blk}:∀ {l:List Blk},whl hp l→∀b∈l,b∈hp
  | [],_,b,hb=>by cases hb
  | x::l,h,b,hb=>by
    rcases Lag.1 hb with rfl|hb
    ·exact h.1
    ·exact whl_mem h.2 b hb
def NSub(hp' hp:List Blk):Prop:=(hp'.map (·.n)).Sublist (hp.map (·.n))
theorem ns_nil:NSub [] hp:=List.nil_sublist _
theorem ns_keep{b' b:Blk}{l' l:List Blk}(h:b'.n=b.n)(k:NSub l' l):NSub (b'::l') (b::l):=by
  unfold NSub at*;rw[Lao,Lao,h];exact List.Sublist.cons_cons _ k
theorem ns_skip{b:Blk}{l' l:List Blk}(k:NSub l' l):NSub l' (b::l):=by
  unfold NSub at*;rw[Lao];exact List.Sublist.cons _ k
theorem Ae{sl sl':List (Nat×Value)}{hp hp':List Blk}(h1:wkl sl sl')(h2:whl hp hp')(h3:NSub hp' hp):Weak ⟨sl,hp⟩ ⟨sl',hp'⟩:=
  ⟨wkl_mem h1,whl_mem h2,fun h=>Lfi h3 h⟩
theorem Sat.join{x y:Code}{s:St}{Q:Exit→St→Prop}(S:ι→St)(I:ι→Prop)(h1:Sat C x s (thenQ (fun s'=>∃i,I i∧Weak s' (S i)) Q))(h2:∀i,I i→Sat C y (S i) Q):Sat C (.seq x y) s Q:=by
  refine Sat.seq fun a w r=>wp_mono (h1 a w r) fun e a' w' ⟨s',r',q⟩=>?_;cases e with
  | normal=>
    obtain⟨i,hi,hw⟩:=q;exact⟨S i,r'.weak hw,h2 i hi⟩
  |_=>exact⟨s',r',q⟩
theorem Sat.condP{c:Operand}{x y:Code}[Decidable p]{s:St}{Q:Exit→St→Prop}(hc:s.ev c=some (.bool (decide p)))(ht:p→Sat C x s Q)(hf:¬p→Sat C y s Q):Sat C (.cond c x y) s Q:=
  .cond hc (fun h=>ht (of_decide_eq_true h)) fun h=>hf (of_decide_eq_false h)
theorem Sat.condNP{c:Operand}{x y:Code}[Decidable p]{s:St}{Q:Exit→St→Prop}(hc:s.ev c=some (.bool (!decide p)))(ht:¬p→Sat C x s Q)(hf:p→Sat C y s Q):Sat C (.cond c x y) s Q:=
  .cond hc (fun h=>ht (of_decide_eq_false (by simpa using h))) fun h=>hf (of_decide_eq_true (by simpa using h))
theorem Sat.loop{body:Code}{Q:Exit→St→Prop}(S:ι→St)(I:ι→Prop)(μ:ι→Nat){s:St}(i0:ι)(h0:I i0)(hs:Weak s (S i0))
    (round:∀i,I i→Sat C body (S i) (thenQ (fun s'=>∃j,I j∧μ j<μ i∧Weak s' (S j)) Q)):Sat C (.loop body) s Q:=by
  intro a w r;refine wp_loop_ghost (fun n a w=>∃i,I i∧μ i=n∧Rep C (S i) a w) (μ i0) ⟨i0,h0,rfl,r.weak hs⟩ fun n a w ⟨i,hi,hn,r⟩=>?_;refine wp_mono (round i hi a w r) fun e a' w' ⟨s',r',q⟩=>?_;cases e with
  | normal=>
    obtain⟨j,hj,hlt,hw⟩:=q;exact⟨μ j,by omega,j,hj,rfl,r'.weak hw⟩
  |_=>exact⟨s',r',q⟩
theorem Bv{Q:Exit→St→Prop}{s:St}(h:N s):thenQ N Q .normal s:=h
theorem at_x{Q:Exit→St→Prop}{s:St}(h:Q (.exit i) s):thenQ N Q (.exit i) s:=h
theorem at_r{Q:Exit→St→Prop}{s:St}(h:Q .ret s):thenQ N Q .ret s:=h
theorem at_g{Q:Exit→St→Prop}{l:Nat}{s:St}(h:Q (.goto l) s):thenQ N Q (.goto l) s:=h
theorem bl_n{id:Nat}{Q:Exit→St→Prop}{s:St}(h:Q .normal s):atBlock id Q .normal s:=h
theorem bl_r{id:Nat}{Q:Exit→St→Prop}{s:St}(h:Q .ret s):atBlock id Q .ret s:=h
theorem bl_g{id l:Nat}{Q:Exit→St→Prop}{s:St}(h:Q (.goto l) s):atBlock id Q (.goto l) s:=h
theorem bl_h{id:Nat}{Q:Exit→St→Prop}{s:St}(h:Q .normal s):atBlock id Q (.exit id) s:=by
  have:Nat.beq id id=true:=by simp
  simp only[atBlock,this];exact h
theorem sp_n:([]:List Blk).Perm ([]++[]):= .refl _
theorem sp_v{x:Blk}{l A K:List Blk}(h:l.Perm (A++K)):(x::l).Perm ((x::A)++K):= .cons x h
theorem sp_k{x:Blk}{l A K:List Blk}(h:l.Perm (A++K)):(x::l).Perm (A++(x::K)):=(List.Perm.cons x h).trans Leh.symm
abbrev Cx.with(C:Cx)(K:List Blk):Cx:=⟨C.P,C.W0,C.N,C.lent,K,C.ds⟩
theorem Sat.withK{Q:Exit→St→Prop}(hsp:hp.Perm (A++K))(hC:C.kb=[])(h:Sat (C.with K) code ⟨sl,A⟩ (fun e s'=>Q e ⟨s'.sl,s'.hp++K⟩)):Sat C code ⟨sl,hp⟩ Q:=by
  intro a w r;have hh:=r.rh.perm hsp;have hnd:=hh.nodup;rw[Lae,Lav]at hnd;refine wp_mono (h a w ⟨⟨r.rs.size,r.rs.defers,r.rs.slots⟩,⟨fun b hb=>hh.cells b (Lac.2 (.inl hb)),hnd.1,fun b hb=>hh.own b (Lac.2 (.inl hb)),hh.keeps,fun b hb=>hh.cells b (Lac.2 (.inr hb)),
    fun b hb k hk=>hnd.2.2 b.n (La6.2 ⟨b,hb,rfl⟩) k.n (La6.2 ⟨k,hk,rfl⟩)⟩⟩) fun e a' w' ⟨s',r',q⟩=>?_
  refine⟨⟨s'.sl,s'.hp++K⟩,⟨⟨r'.rs.size,r'.rs.defers,r'.rs.slots⟩,⟨fun b hb=>?_,?_,fun b hb=>?_,r'.rh.keeps,(by rw[hC];intro _ h;cases h),(by rw[hC];intro _ _ _ h;cases h)⟩⟩,q⟩
  · rcases Lac.1 hb with hb|hb
    ·exact r'.rh.cells b hb
    ·exact r'.rh.kok b hb
  · rw[Lae,Lav]
    refine⟨r'.rh.nodup,hnd.2.1,fun i hi j hj=>?_⟩;obtain⟨x,hx,rfl⟩:=La6.1 hi;obtain⟨y,hy,rfl⟩:=La6.1 hj;exact r'.rh.kd x hx y hy
  · rcases Lac.1 hb with hb|hb
    ·exact r'.rh.own b hb
    ·exact hh.own b (Lac.2 (.inr hb))
def argSlots:Nat→List Value→List (Nat×Value)
  |_,[]=>[]
  |k,v::l=>(k,v)::argSlots (k+1) l
theorem argSlots_look:∀(l:List Value) (k t:Nat) (v:Value),look (argSlots k l) t=some v→k≤t∧l[t-k]? =some v
  | [],k,t,v,h=>by simp[argSlots,look]at h
  | x ::l,k,t,v,h=>by
    by_cases hk:k=t
    · subst hk
      rw[argSlots,look_cons_eq]at h;simp at h;simp[h]
    · rw[argSlots,look_cons_ne _ _ hk]at h
      have:=argSlots_look l (k+1) t v h;refine⟨by omega,?_⟩;have e:t-k=(t-(k+1))+1:=by omega
      rw[e,Ldn];exact this.2
def Res(C:Cx)(fn:Func)(s:St)(v:Value):Prop:=∀a w,Rep C s a w→(results fn a.tmps).run C.P w= .ok v w
def endAt(C:Cx)(fn:Func)(R:Value→List Blk→Prop)(s:St):Prop:=
  ∃v out,Res C fn s v∧(∀b∈out,b∈s.hp)∧((s.hp.map (·.n)).Nodup→(out.map (·.n)).Nodup)∧R v out
def endQ(C:Cx)(fn:Func)(R:Value→List Blk→Prop):Exit→St→Prop
  | .normal,s| .ret,s=>endAt C fn R s
  |_,_=>False
theorem en_n{s:St}(h:endAt C fn R s):endQ C fn R .normal s:=h
theorem en_r{s:St}(h:endAt C fn R s):endQ C fn R .ret s:=h
theorem HRep.nil(C:Cx)(hk:C.kb=[]:=by rfl):HRep C [] C.W0:=⟨fun _ h=>(by cases h),Lbv,fun _ h=>(by cases h),Keeps.refl _ _,(by rw[hk];intro _ h;cases h),fun _ h=>(by cases h)⟩
theorem calls_of{P:Program}{f:FuncId}{args:List Value}{W:World}{lent:List Nat}{hp0:List Blk}
    (hf:P.funcs[f]? =some fn) (hb:fn.body=some code) (N:Nat) (hN:fn.ntmps=N) (hlen:Nat.ble args.length N=true)
    (hh:HRep ⟨P,W,N,lent,[],[]⟩ hp0 W)
    (h:Sat ⟨P,W,N,lent,[],[]⟩ code ⟨argSlots 0 args,hp0⟩ (endQ ⟨P,W,N,lent,[],[]⟩ fn R)):
    Calls P f args.toArray W fun e W'=>∃v out,e= .returned v∧R v out∧Ret lent out W W':=by
  have hlen:=Ld9 hlen;subst hN;refine calls_of_wp hf hb (wp_mono (h _ _ ⟨⟨?_,rfl,fun t v ht=>?_⟩,hh⟩) fun e a' w' ⟨s',r',q⟩=>?_)
  ·simp;omega
  · have:=argSlots_look args 0 t v ht
    rw[Array.getElem?_append];have hlt:t<args.length:=by
      rcases Lat t args.length with h1|h1
      ·exact h1
      ·rw[Lam oM]at this;cases this.2
    simp only[Lex];rw[if_pos hlt];simpa using this.2
  · have fin:(∃v out,Res ⟨P,W,fn.ntmps,lent,[],[]⟩ fn s' v∧(∀b∈out,b∈s'.hp)∧((s'.hp.map (·.n)).Nodup→(out.map (·.n)).Nodup)∧R v out)→
        a'.defers=[]∧∃v,(results fn a'.tmps).run P w'= .ok v w'∧∃v' out,Ending.returned v= .returned v'∧R v' out∧Ret lent out W w':=by
      rintro⟨v,out,hr,hsub,hnd,hR⟩;exact⟨r'.rs.defers,v,hr a' w' r',v,out,rfl,hR,r'.rh.keeps,fun b hb=>r'.rh.cells b (hsub b hb),hnd r'.rh.nodup,fun b hb=>r'.rh.own b (hsub b hb)⟩
    cases e with
    |normal=>exact fin q
    |ret=>exact fin q
    |_=>exact q.elim
end Hw
namespace Hw
open Go Go.RowKit
variable{C:Cx}{ops:List Oper}{y:Code}
theorem Sat.sr{id:Nat}{s:St}{Q:Exit→St→Prop}(h:Tr C ops.toArray (ops.map fun o=>(4,o)) s (thenQ (fun s'=>Sat C y s' Q) Q .normal)):Sat C (.seq (.region id ops.toArray false) y) s Q:=Sat.seq (Sat.region h)
theorem Tr.na{ops:Array Oper}{N:St→Prop}{Q:Exit→St→Prop}{s:St}(h:N s):Tr C ops [] s (thenQ N Q .normal):=Tr.nil (Bv h)
theorem Tr.nsr{o2:Array Oper}{id:Nat}{s:St}{Q R:Exit→St→Prop}(h:Tr C ops.toArray (ops.map fun o=>(4,o)) s (thenQ (fun s'=>Sat C y s' Q) Q .normal)):Tr C o2 [] s (thenQ (fun s'=>Sat C (.seq (.region id ops.toArray false) y) s' Q) R .normal):=Tr.nil (Bv (Sat.seq (Sat.region h)))
theorem tV{α:Type}{p:α→Prop}:∀w,p w→True:=fun _ _=>trivial
theorem Ac{P:Program}{f:FuncId}{fn:Func}{code:Code}{args:List Value}{W:World}{R:Value→List Blk→Prop}(hf:P.funcs[f]? =some fn)(hb:fn.body=some code)(N:Nat)(hN:fn.ntmps=N)(hlen:Nat.ble args.length N=true)(h:Sat ⟨P,W,N,[],[],[]⟩ code ⟨argSlots 0 args,[]⟩ (endQ ⟨P,W,N,[],[],[]⟩ fn R)):Calls P f args.toArray W fun e W'=>∃v out,e= .returned v∧R v out∧Ret [] out W W':=calls_of (hp0:=[]) hf hb N hN hlen (HRep.nil _) h
abbrev u8(x:UInt8):Value:= .int .u8 (x.toNat:Int)
abbrev u64(x:UInt64):Value:= .int .u64 (x.toNat:Int)
abbrev i64(n:Int):Value:= .int .i64 n
abbrev ptr(b o:Nat):Value:= .pointer (some ⟨b,o,none⟩)
abbrev agg(l:List Value):Value:= .agg l.toArray
abbrev Aa(l:List UInt8):List Value:=l.map u8
abbrev Af(l:List UInt64):List Value:=l.map u64
abbrev Bx(l:List Int):List Value:=l.map i64
theorem Br{l:List UInt8}{o:Nat}(h:o<l.length):(Aa l)[o]? =some (u8 (l.getD o 0)):=by
  simp[Aa,Lai,List.getD,h]
theorem Ch{l:List UInt64}{o:Nat}(h:o<l.length):(Af l)[o]? =some (u64 (l.getD o 0)):=by
  simp[Af,Lai,List.getD,h]
theorem get_ints{l:List Int}{o:Nat}(h:o<l.length):(Bx l)[o]? =some (i64 (l.getD o 0)):=by
  simp[Bx,Lai,List.getD,h]
theorem Bd(l:List UInt8)(o:Nat)(v:UInt8):(Aa l).set o (u8 v)=Aa (l.set o v):=by simp[Aa,Ldq]
theorem A8(l:List UInt64)(o:Nat)(v:UInt64):(Af l).set o (u64 v)=Af (l.set o v):=by simp[Af,Ldq]
theorem set_ints(l:List Int)(o:Nat)(v:Int):(Bx l).set o (i64 v)=Bx (l.set o v):=by simp[Bx,Ldq]
section
variable{α:Type}{a b c d e f g h x:α}{l:List α}
theorem B0:a∈a::l:= .head _
theorem mem1:a∈b::a::l:= .tail _ B0
theorem mem2:a∈b::c::a::l:= .tail _ mem1
theorem mem3:a∈b::c::d::a::l:= .tail _ mem2
theorem mem4:a∈b::c::d::e::a::l:= .tail _ mem3
theorem mem5:a∈b::c::d::e::f::a::l:= .tail _ mem4
theorem mem6:a∈b::c::d::e::f::g::a::l:= .tail _ mem5
theorem mem7:a∈b::c::d::e::f::g::h::a::l:= .tail _ mem6
end
def okD(c d N:Nat):Bool:= !Nat.beq c 2&&Nat.blt d N
def okL(c d N:Nat):Bool:= !Nat.beq c 2&& !Nat.beq c 0&&Nat.blt d N
def okN(c d N:Nat):Bool:=(Nat.beq c 2||Nat.beq c 4)&&Nat.blt d N
def okG(c d N:Nat):Bool:=(Nat.beq c 3||Nat.beq c 4)&&Nat.blt d N
theorem nbeq{a b:Nat}(h:(!Nat.beq a b)=true):a≠b:=fun e=>by subst e;simp at h
theorem nbeq'{a b:Nat}(h:Nat.beq a b=true):a=b:=Lck h
theorem nblt{a b:Nat}(h:Nat.blt a b=true):a<b:=by simpa[Lg6]using h
section
variable{C:Cx}{ops:Array Oper}{c:Nat}{d:Nat}{ty:TypeId}{pos:String}{af:Array Edge}{rest:List (Nat×Oper)}{sl:List (Nat×Value)}{hp:List Blk}{Q:St→Prop}
variable{N:Nat}{g:Option (Nat×Bool)}{op:Op}
theorem B6(h:d<N):dstOk N ⟨some d,op,ty,pos,af,g⟩:=fun t ht=>by cases ht;exact h
theorem dst_none:dstOk N ⟨none,op,ty,pos,af,g⟩:=fun t ht=>by cases ht
theorem known1{x:Operand}{v:Value}(h:Ag sl x=some v):∀y∈ #[x],(Ag sl y).isSome:=fun y hy=>by
  simp at hy;subst hy;simp[h]
def Ah(ops:Array Oper)(sl:List (Nat×Value)):Option (Nat×Bool)→Bool
  |none=>true
  | some (j,want)=>
    match(ops[j]?).bind (·.dst)with
    |some d=>match look sl d with|some (.bool b)=>b==want|_=>false
    |none=>false
theorem Ax{o:Oper}(h:Ah ops sl o.guard=true):wantS ops sl o=some true:=by
  unfold Ah at h;unfold wantS;cases hg:o.guard with
  |none=>rfl
  | some g=>
    obtain⟨j,want⟩:=g;simp only[hg]at h ⊢;cases hb:(ops[j]?).bind (·.dst)with
    |none=>simp[hb]at h
    | some t=>
      simp only[hb]at h ⊢;cases hl:look sl t with
      |none=>simp[hl]at h
      | some v=>
        simp only[hl]at h ⊢;cases v<;>simp at h ⊢;exact h
variable{g:Option (Nat×Bool)}
variable{op:Op}
theorem Tr.skp(hk:okD c d C.N=true)(hw:wantS ops sl ⟨some d,op,ty,pos,af,g⟩=some false)(k:Tr C ops rest ⟨(d,undef)::sl,hp⟩ Q):Tr C ops ((c,⟨some d,op,ty,pos,af,g⟩)::rest) ⟨sl,hp⟩ Q:=by
  simp only[okD,Lan]at hk;exact .skip (nbeq hk.1) hw (B6 (nblt hk.2)) k
theorem Tr.pv{v:Value}(hg:Ah ops sl g=true)(hk:okD c d C.N=true)(hv:PureV C.P sl ⟨some d,op,ty,pos,af,g⟩ v)(k:Tr C ops rest ⟨(d,v)::sl,hp⟩ Q):
    Tr C ops ((c,⟨some d,op,ty,pos,af,g⟩)::rest) ⟨sl,hp⟩ Q:=by
  simp only[okD,Lan]at hk;exact .pure v (nbeq hk.1) (Ax hg) (B6 (nblt hk.2)) hv k
theorem Tr.m{x:Operand}{v:Value}(hg:Ah ops sl g=true)(hk:okD c d C.N=true)(hx:Ag sl x=some v)(k:Tr C ops rest ⟨(d,v)::sl,hp⟩ Q):
    Tr C ops ((c,⟨some d, .move x,ty,pos,af,g⟩)::rest) ⟨sl,hp⟩ Q:=
  .pv hg hk ⟨known1 hx,fun ρ hf w=>by
    have:=hf x (by simp[Op.operands]);rw[hx]at this;cases this;rfl⟩ k
theorem Tr.a{x:Operand}{v:Value}(hg:Ah ops sl g=true)(hk:okD c d C.N=true)(hx:Ag sl x=some v)(k:Tr C ops rest ⟨(d,v)::sl,hp⟩ Q):
    Tr C ops ((c,⟨some d, .assign x,ty,pos,af,g⟩)::rest) ⟨sl,hp⟩ Q:=
  .pv hg hk ⟨known1 hx,fun ρ hf w=>by
    have:=hf x (by simp[Op.operands]);rw[hx]at this;cases this;rfl⟩ k
theorem known2{x y:Operand}{v u:Value}(h:Ag sl x=some v)(h2:Ag sl y=some u):∀z∈ #[x,y],(Ag sl z).isSome:=fun z hz=>by
  simp at hz;rcases hz with rfl|rfl<;>simp[h,h2]
theorem Tr.bin{op:BinOp}{xT yT:TypeId}{x y:Operand}{v:Value}{kx ky:IntKind}{a b:Int}(hg:Ah ops sl g=true)(hk:okD c d C.N=true)(hx:Ag sl x=some (.int kx a))(hy:Ag sl y=some (.int ky b))
    (hr:∀w,(binOp op xT (.int kx a) (.int ky b)).run C.P w= .ok v w) (k:Tr C ops rest ⟨(d,v)::sl,hp⟩ Q):
    Tr C ops ((c,⟨some d, .binOp op xT x y yT,ty,pos,af,g⟩)::rest) ⟨sl,hp⟩ Q:=
  .pv hg hk ⟨known2 hx hy,fun ρ hf w=>by
    have h1:=hf x (by simp[Op.operands]);rw[hx]at h1;have h2:=hf y (by simp[Op.operands]);rw[hy]at h2;simp only[La3]at h1 h2;have hr:=hr w;cases op<;>simp[execOp,eqGuard,←h1,←h2,hr]⟩ k
def isCell:Value→Bool
  | .agg _| .tuple _=>false
  |_=>true
theorem i64_wrap{n:Int}(h: -9223372036854775808≤n∧n≤9223372036854775807):IntKind.i64.wrap n=n:=IntWalk.i64_in n h
def byteOf(n:Int):UInt8:=UInt8.ofNat (n%256).toNat
def wordOf(n:Int):UInt64:=UInt64.ofNat (n%18446744073709551616).toNat
def A0(x:UInt64)(n:Nat):UInt64:=UInt64.ofNat (x.toNat*2^n)
def As(x:UInt64)(n:Nat):UInt64:=UInt64.ofNat (x.toNat/2^n)
theorem wrap_u8(n:Int):IntKind.u8.wrap n=((byteOf n).toNat:Int):=by
  rw[IntKind.wrap_u8];simp only[byteOf,Law];omega
theorem wrap_u64'(n:Int):IntKind.u64.wrap n=n%18446744073709551616:=by
  simp[IntKind.wrap,IntKind.bits,IntKind.signed]
theorem wrap_u64(n:Int):IntKind.u64.wrap n=((wordOf n).toNat:Int):=by
  rw[wrap_u64'];simp only[wordOf,Lbw];omega
theorem add64(x y:UInt64):IntKind.u64.wrap ((x.toNat:Int)+y.toNat)=((x+y).toNat:Int):=by
  rw[wrap_u64',Lbc];omega
theorem sub64(x y:UInt64):IntKind.u64.wrap ((x.toNat:Int)-y.toNat)=((x-y).toNat:Int):=by
  have:=x.toNat_lt;have:=y.toNat_lt;rw[wrap_u64',Lge];omega
theorem mul64(x y:UInt64):IntKind.u64.wrap ((x.toNat:Int)*y.toNat)=((x*y).toNat:Int):=by
  rw[wrap_u64',Ldf];have:((x.toNat:Int)*y.toNat)=((x.toNat*y.toNat:Nat):Int):=by simp
  rw[this];omega
theorem shl64_eq(x:UInt64)(n:Nat):IntKind.u64.wrap ((x.toNat:Int)*2^n)=((A0 x n).toNat:Int):=by
  rw[wrap_u64',A0,Lbw];have:((x.toNat:Int)*2^n)=((x.toNat*2^n:Nat):Int):=by simp
  rw[this];omega
theorem shr64_eq(x:UInt64)(n:Nat):((x.toNat:Int).fdiv (2^n))=((As x n).toNat:Int):=by
  have h:x.toNat/2^n≤x.toNat:=Ld1 _ _;have:=x.toNat_lt;rw[As,Lbw,Lad oM];have e:((2:Int)^n)=((2^n:Nat):Int):=by simp
  rw[e,Lf0 _ (Ldx _)];simp
theorem ofInt64(x:UInt64):BitVec.ofInt 64 (x.toNat:Int)=x.toBitVec:=by
  apply BitVec.eq_of_toNat_eq;simp
theorem bits64(f:BitVec 64→BitVec 64→BitVec 64)(g:UInt64→UInt64→UInt64)(h:∀x y,(g x y).toBitVec=f x.toBitVec y.toBitVec)(x y:UInt64):
    IntKind.u64.wrap ((f (BitVec.ofInt 64 (x.toNat:Int)) (BitVec.ofInt 64 (y.toNat:Int))).toNat:Int)=((g x y).toNat:Int):=by
  rw[ofInt64,ofInt64,←h,wrap_u64'];have:=(g x y).toNat_lt;simp only[UInt64.toNat_toBitVec];omega
theorem ofInt8(x:UInt8):BitVec.ofInt 8 (x.toNat:Int)=x.toBitVec:=by
  apply BitVec.eq_of_toNat_eq;simp
theorem bits8(f:BitVec 8→BitVec 8→BitVec 8)(g:UInt8→UInt8→UInt8)(h:∀x y,(g x y).toBitVec=f x.toBitVec y.toBitVec)(x y:UInt8):
    IntKind.u8.wrap ((f (BitVec.ofInt 8 (x.toNat:Int)) (BitVec.ofInt 8 (y.toNat:Int))).toNat:Int)=((g x y).toNat:Int):=by
  rw[ofInt8,ofInt8,←h,IntKind.wrap_u8];have:=(g x y).toNat_lt;simp only[UInt8.toNat_toBitVec];omega
section
variable{xT yT:TypeId}{x y:Operand}{a b:Int}
variable{kx:IntKind}{r:Bool}
theorem Tr.aI(hg:Ah ops sl g=true)(hk:okD c d C.N=true)(hx:Ag sl x=some (i64 a))(hy:Ag sl y=some (i64 b))(hr: -9223372036854775808≤a+b∧a+b≤9223372036854775807)
    (k:Tr C ops rest ⟨(d,i64 (a+b))::sl,hp⟩ Q):Tr C ops ((c,⟨some d, .binOp .add xT x y yT,ty,pos,af,g⟩)::rest) ⟨sl,hp⟩ Q:=
  .bin hg hk hx hy (fun w=>by simp[binOp,Op.intArith,i64_wrap hr]) k
theorem Tr.sub_i64(hg:Ah ops sl g=true)(hk:okD c d C.N=true)(hx:Ag sl x=some (i64 a))(hy:Ag sl y=some (i64 b))(hr: -9223372036854775808≤a-b∧a-b≤9223372036854775807)
    (k:Tr C ops rest ⟨(d,i64 (a-b))::sl,hp⟩ Q):Tr C ops ((c,⟨some d, .binOp .sub xT x y yT,ty,pos,af,g⟩)::rest) ⟨sl,hp⟩ Q:=
  .bin hg hk hx hy (fun w=>by simp[binOp,Op.intArith,i64_wrap hr]) k
theorem Tr.mul_i64(hg:Ah ops sl g=true)(hk:okD c d C.N=true)(hx:Ag sl x=some (i64 a))(hy:Ag sl y=some (i64 b))(hr: -9223372036854775808≤a*b∧a*b≤9223372036854775807)
    (k:Tr C ops rest ⟨(d,i64 (a*b))::sl,hp⟩ Q):Tr C ops ((c,⟨some d, .binOp .mul xT x y yT,ty,pos,af,g⟩)::rest) ⟨sl,hp⟩ Q:=
  .bin hg hk hx hy (fun w=>by simp[binOp,Op.intArith,i64_wrap hr]) k
theorem Tr.quo_i64(hg:Ah ops sl g=true)(hk:okD c d C.N=true)(hx:Ag sl x=some (i64 a))(hy:Ag sl y=some (i64 b))(hr:0≤a∧a≤9223372036854775807∧1≤b)
    (k:Tr C ops rest ⟨(d,i64 (a/b))::sl,hp⟩ Q):Tr C ops ((c,⟨some d, .binOp .quo xT x y yT,ty,pos,af,g⟩)::rest) ⟨sl,hp⟩ Q:=
  .bin hg hk hx hy (fun w=>by simp[binOp,Op.intDiv,show b≠0 by omega,IntWalk.i64_quo _ _ hr]) k
theorem Tr.rem_i64(hg:Ah ops sl g=true)(hk:okD c d C.N=true)(hx:Ag sl x=some (i64 a))(hy:Ag sl y=some (i64 b))(hr:0≤a∧1≤b)
    (k:Tr C ops rest ⟨(d,i64 (a%b))::sl,hp⟩ Q):Tr C ops ((c,⟨some d, .binOp .rem xT x y yT,ty,pos,af,g⟩)::rest) ⟨sl,hp⟩ Q:=
  .bin hg hk hx hy (fun w=>by simp[binOp,Op.intDiv,show b≠0 by omega,Int.tmod_eq_emod_of_nonneg hr.1]) k
theorem Tr.lss(hg:Ah ops sl g=true)(hk:okD c d C.N=true)(hx:Ag sl x=some (.int kx a))(hy:Ag sl y=some (.int kx b))(hr:(decide (a<b))=r)
    (k:Tr C ops rest ⟨(d, .bool r)::sl,hp⟩ Q):Tr C ops ((c,⟨some d, .binOp .lss xT x y yT,ty,pos,af,g⟩)::rest) ⟨sl,hp⟩ Q:=
  .bin hg hk hx hy (fun w=>by subst hr;simp[binOp,Op.intCmp]) k
theorem Tr.gtr(hg:Ah ops sl g=true)(hk:okD c d C.N=true)(hx:Ag sl x=some (.int kx a))(hy:Ag sl y=some (.int kx b))(hr:(decide (b<a))=r)
    (k:Tr C ops rest ⟨(d, .bool r)::sl,hp⟩ Q):Tr C ops ((c,⟨some d, .binOp .gtr xT x y yT,ty,pos,af,g⟩)::rest) ⟨sl,hp⟩ Q:=
  .bin hg hk hx hy (fun w=>by subst hr;simp[binOp,Op.intCmp]) k
theorem Tr.geq(hg:Ah ops sl g=true)(hk:okD c d C.N=true)(hx:Ag sl x=some (.int kx a))(hy:Ag sl y=some (.int kx b))(hr:(decide (b≤a))=r)
    (k:Tr C ops rest ⟨(d, .bool r)::sl,hp⟩ Q):Tr C ops ((c,⟨some d, .binOp .geq xT x y yT,ty,pos,af,g⟩)::rest) ⟨sl,hp⟩ Q:=
  .bin hg hk hx hy (fun w=>by subst hr;simp[binOp,Op.intCmp]) k
theorem Tr.eqi(hg:Ah ops sl g=true)(hk:okD c d C.N=true)(hx:Ag sl x=some (.int kx a))(hy:Ag sl y=some (.int kx b))(hr:(decide (a=b))=r)
    (k:Tr C ops rest ⟨(d, .bool r)::sl,hp⟩ Q):Tr C ops ((c,⟨some d, .binOp .eql xT x y yT,ty,pos,af,g⟩)::rest) ⟨sl,hp⟩ Q:=
  .bin hg hk hx hy (fun w=>by subst hr;simp[binOp,Op.intCmp];rfl) k
theorem Tr.nei(hg:Ah ops sl g=true)(hk:okD c d C.N=true)(hx:Ag sl x=some (.int kx a))(hy:Ag sl y=some (.int kx b))(hr:(!decide (a=b))=r)
    (k:Tr C ops rest ⟨(d, .bool r)::sl,hp⟩ Q):Tr C ops ((c,⟨some d, .binOp .neq xT x y yT,ty,pos,af,g⟩)::rest) ⟨sl,hp⟩ Q:=
  .bin hg hk hx hy (fun w=>by subst hr;simp[binOp,Op.intCmp];rfl) k
variable{p q:UInt64}
variable{ky:IntKind}{z:Operand}
theorem Tr.add_u64(hg:Ah ops sl g=true)(hk:okD c d C.N=true)(hx:Ag sl x=some (u64 p))(hy:Ag sl y=some (u64 q))
    (k:Tr C ops rest ⟨(d,u64 (p+q))::sl,hp⟩ Q):Tr C ops ((c,⟨some d, .binOp .add xT x y yT,ty,pos,af,g⟩)::rest) ⟨sl,hp⟩ Q:=
  .bin hg hk hx hy (fun w=>by simp only[binOp,Op.intArith,add64];rfl) k
theorem Tr.sub_u64(hg:Ah ops sl g=true)(hk:okD c d C.N=true)(hx:Ag sl x=some (u64 p))(hy:Ag sl y=some (u64 q))
    (k:Tr C ops rest ⟨(d,u64 (p-q))::sl,hp⟩ Q):Tr C ops ((c,⟨some d, .binOp .sub xT x y yT,ty,pos,af,g⟩)::rest) ⟨sl,hp⟩ Q:=
  .bin hg hk hx hy (fun w=>by simp only[binOp,Op.intArith,sub64];rfl) k
theorem Tr.mul_u64(hg:Ah ops sl g=true)(hk:okD c d C.N=true)(hx:Ag sl x=some (u64 p))(hy:Ag sl y=some (u64 q))
    (k:Tr C ops rest ⟨(d,u64 (p*q))::sl,hp⟩ Q):Tr C ops ((c,⟨some d, .binOp .mul xT x y yT,ty,pos,af,g⟩)::rest) ⟨sl,hp⟩ Q:=
  .bin hg hk hx hy (fun w=>by simp only[binOp,Op.intArith,mul64];rfl) k
theorem Tr.and_u64(hg:Ah ops sl g=true)(hk:okD c d C.N=true)(hx:Ag sl x=some (u64 p))(hy:Ag sl y=some (u64 q))
    (k:Tr C ops rest ⟨(d,u64 (p&&&q))::sl,hp⟩ Q):Tr C ops ((c,⟨some d, .binOp .and xT x y yT,ty,pos,af,g⟩)::rest) ⟨sl,hp⟩ Q:=
  .bin hg hk hx hy (fun w=>congrArg (fun n=>Result.ok (Value.int .u64 n) w) (bits64 (· &&& ·) (· &&& ·) (fun _ _=>rfl) p q)) k
theorem Tr.or_u64(hg:Ah ops sl g=true)(hk:okD c d C.N=true)(hx:Ag sl x=some (u64 p))(hy:Ag sl y=some (u64 q))
    (k:Tr C ops rest ⟨(d,u64 (p|||q))::sl,hp⟩ Q):Tr C ops ((c,⟨some d, .binOp .or xT x y yT,ty,pos,af,g⟩)::rest) ⟨sl,hp⟩ Q:=
  .bin hg hk hx hy (fun w=>congrArg (fun n=>Result.ok (Value.int .u64 n) w) (bits64 (· ||| ·) (· ||| ·) (fun _ _=>rfl) p q)) k
theorem Tr.xor_u64(hg:Ah ops sl g=true)(hk:okD c d C.N=true)(hx:Ag sl x=some (u64 p))(hy:Ag sl y=some (u64 q))
    (k:Tr C ops rest ⟨(d,u64 (p^^^q))::sl,hp⟩ Q):Tr C ops ((c,⟨some d, .binOp .xor xT x y yT,ty,pos,af,g⟩)::rest) ⟨sl,hp⟩ Q:=
  .bin hg hk hx hy (fun w=>congrArg (fun n=>Result.ok (Value.int .u64 n) w) (bits64 (· ^^^ ·) (· ^^^ ·) (fun _ _=>rfl) p q)) k
theorem Tr.shl_u64(hg:Ah ops sl g=true)(hk:okD c d C.N=true)(hx:Ag sl x=some (u64 p))(hy:Ag sl y=some (.int ky b))(n:Nat)(hn:b=n)(hr:n≤64)
    (k:Tr C ops rest ⟨(d,u64 (A0 p n))::sl,hp⟩ Q):Tr C ops ((c,⟨some d, .binOp .shl xT x y yT,ty,pos,af,g⟩)::rest) ⟨sl,hp⟩ Q:=
  .bin hg hk hx hy (fun w=>by
    subst hn;simp only[binOp,Op.shift,IntKind.bits];rw[if_neg oM,Le7,Lcj hr,shl64_eq];rfl) k
theorem Tr.shr_u64(hg:Ah ops sl g=true)(hk:okD c d C.N=true)(hx:Ag sl x=some (u64 p))(hy:Ag sl y=some (.int ky b))(n:Nat)(hn:b=n)(hr:n≤64)
    (k:Tr C ops rest ⟨(d,u64 (As p n))::sl,hp⟩ Q):Tr C ops ((c,⟨some d, .binOp .shr xT x y yT,ty,pos,af,g⟩)::rest) ⟨sl,hp⟩ Q:=
  .bin hg hk hx hy (fun w=>by
    subst hn;simp only[binOp,Op.shift,IntKind.bits];rw[if_neg oM,Le7,Lcj hr,shr64_eq];rfl) k
theorem Tr.conv{src dst:TypeId}{kx kd:IntKind}{v:Value}{td:TypeDesc}(hg:Ah ops sl g=true)(hk:okD c d C.N=true)(hx:Ag sl x=some (.int kx a))(hs:C.P.underlying src=some td)(hu:C.P.underlying dst=some (.int kd))(hr:Value.int kd (kd.wrap a)=v)
    (k:Tr C ops rest ⟨(d,v)::sl,hp⟩ Q):Tr C ops ((c,⟨some d, .convert src dst x,ty,pos,af,g⟩)::rest) ⟨sl,hp⟩ Q:=
  .pv hg hk ⟨known1 hx,fun ρ hf w=>by
    have h1:=hf x (by simp[Op.operands]);rw[hx]at h1;simp only[La3]at h1;subst hr;simp[execOp,convert,run_underlying hs,run_underlying hu,←h1,Conv.intToInt]⟩ k
theorem cv_u8_u64(x:UInt8):Value.int .u64 (IntKind.u64.wrap (x.toNat:Int))=u64 x.toUInt64:=by
  rw[wrap_u64'];have:=x.toNat_lt;simp[u64];omega
theorem cv_u8_i64(x:UInt8):Value.int .i64 (IntKind.i64.wrap (x.toNat:Int))=i64 (x.toNat:Int):=by
  rw[i64_wrap];have:=x.toNat_lt;omega
theorem cv_u64_u8(x:UInt64):Value.int .u8 (IntKind.u8.wrap (x.toNat:Int))=u8 x.toUInt8:=by
  rw[IntKind.wrap_u8];simp[u8]
theorem cv_i64_u8(n:Int):Value.int .u8 (IntKind.u8.wrap n)=u8 (byteOf n):=by rw[wrap_u8]
theorem cv_i64_u64(n:Int):Value.int .u64 (IntKind.u64.wrap n)=u64 (wordOf n):=by rw[wrap_u64]
theorem cv_u64_i64{x:UInt64}(h:x.toNat≤9223372036854775807):Value.int .i64 (IntKind.i64.wrap (x.toNat:Int))=i64 (x.toNat:Int):=by
  rw[i64_wrap];omega
theorem Tr.not{v:Bool}(hg:Ah ops sl g=true)(hk:okD c d C.N=true)(hx:Ag sl x=some (.bool v))
    (k:Tr C ops rest ⟨(d, .bool (!v))::sl,hp⟩ Q):Tr C ops ((c,⟨some d, .unOp .not xT x,ty,pos,af,g⟩)::rest) ⟨sl,hp⟩ Q:=
  .pv hg hk ⟨known1 hx,fun ρ hf w=>by
    have h1:=hf x (by simp[Op.operands]);rw[hx]at h1;simp only[La3]at h1;simp[execOp,Op.unary,←h1]⟩ k
theorem known3{v u t:Value}(h:Ag sl x=some v)(h2:Ag sl y=some u)(h3:Ag sl z=some t):∀r∈ #[x,y,z],(Ag sl r).isSome:=fun r hr=>by
  simp at hr;rcases hr with rfl|rfl|rfl<;>simp[h,h2,h3]
theorem Tr.pick{b:Bool}{v u r:Value}(hg:Ah ops sl g=true)(hk:okD c d C.N=true)(hx:Ag sl x=some (.bool b))(hy:Ag sl y=some v)(hz:Ag sl z=some u)(hr:(bif b then v else u)=r)
    (k:Tr C ops rest ⟨(d,r)::sl,hp⟩ Q):Tr C ops ((c,⟨some d, .pick x y z,ty,pos,af,g⟩)::rest) ⟨sl,hp⟩ Q:=
  .pv hg hk ⟨known3 hx hy hz,fun ρ hf w=>by
    have h1:=hf x (by simp[Op.operands]);rw[hx]at h1;have h2:=hf y (by simp[Op.operands]);rw[hy]at h2;have h3:=hf z (by simp[Op.operands]);rw[hz]at h3;simp only[La3]at h1 h2 h3;subst hr;cases b<;>simp[execOp,←h1,asBool,←h2,←h3]⟩ k
theorem Tr.eX{vs:Array Value}{i:Nat}{v:Value}(hg:Ah ops sl g=true)(hk:okD c d C.N=true)(hx:Ag sl x=some (.tuple vs))(hv:vs[i]? =some v)
    (k:Tr C ops rest ⟨(d,v)::sl,hp⟩ Q):Tr C ops ((c,⟨some d, .extract x i,ty,pos,af,g⟩)::rest) ⟨sl,hp⟩ Q:=
  .pv hg hk ⟨known1 hx,fun ρ hf w=>by
    have h1:=hf x (by simp[Op.operands]);rw[hx]at h1;simp only[La3]at h1;simp[execOp,Instr.extract,←h1,hv]⟩ k
end
def Sz(P:Program)(T:TypeId)(n:Nat):Prop:=(P.info? T).map (·.size)=some n
def Zr(P:Program)(T:TypeId)(v:Value):Prop:=(P.info? T).bind (·.zero)=some v
variable{P:Program}
theorem Cf{T:TypeId}{n:Nat}(h:Sz P T n)(w:World):(Go.sizeOf T).run P w= .ok n w:=by
  unfold Sz at h;cases h1:P.info? T with
  |none=>simp[h1]at h
  |some i=>simp[h1]at h;simp[Go.sizeOf,typeInfo,h1,h]
theorem run_zr{T:TypeId}{v:Value}(h:Zr P T v)(w:World):(zeroValue T).run P w= .ok v w:=by
  unfold Zr at h;cases h1:P.info? T with
  |none=>simp[h1]at h
  |some i=>simp[h1]at h;simp[zeroValue,typeInfo,h1,h]
theorem Bo(b o k:Nat):(⟨b,o,none⟩:Addr).add k=⟨b,o+k,none⟩:=by
  unfold Addr.add;split
  ·rename_i h;subst h;rfl
  ·rfl
section
variable{xT:TypeId}{x y:Operand}{b o:Nat}{len:Nat}{E:TypeId}{ki:IntKind}{i:Int}
theorem Tr.idxArr(sz:Nat)(hg:Ah ops sl g=true)(hk:okD c d C.N=true)(hx:Ag sl x=some (ptr b o))(hy:Ag sl y=some (.int ki i))(hu:C.P.underlying xT=some (.array len E))(hs:Sz C.P E sz)(j:Nat)(hj:i=j)(hlt:j<len)
    (k:Tr C ops rest ⟨(d,ptr b (o+j*sz))::sl,hp⟩ Q):Tr C ops ((c,⟨some d, .indexAddr xT x y,ty,pos,af,g⟩)::rest) ⟨sl,hp⟩ Q:=
  .pv hg hk ⟨known2 hx hy,fun ρ hf w=>by
    have h1:=hf x (by simp[Op.operands]);rw[hx]at h1;have h2:=hf y (by simp[Op.operands]);rw[hy]at h2;simp only[La3]at h1 h2;subst hj;simp[execOp,Instr.indexAt,←h1,←h2,asIntOf,run_underlying hu,Instr.sureAddr,hlt,Cf hs,Bo]⟩ k
theorem Tr.i1(hg:Ah ops sl g=true)(hk:okD c d C.N=true)(hx:Ag sl x=some (ptr b 0))(hy:Ag sl y=some (.int ki i))(hu:C.P.underlying xT=some (.array len E))(hs:Sz C.P E 1)(j:Nat)(hj:i=j)(hlt:j<len)
    (k:Tr C ops rest ⟨(d,ptr b j)::sl,hp⟩ Q):Tr C ops ((c,⟨some d, .indexAddr xT x y,ty,pos,af,g⟩)::rest) ⟨sl,hp⟩ Q:=
  .idxArr 1 hg hk hx hy hu hs j hj hlt (by simpa using k)
theorem Tr.idxArrO(hg:Ah ops sl g=true)(hk:okD c d C.N=true)(hx:Ag sl x=some (ptr b o))(hy:Ag sl y=some (.int ki i))(hu:C.P.underlying xT=some (.array len E))(hs:Sz C.P E 1)(j:Nat)(hj:i=j)(hlt:j<len)
    (k:Tr C ops rest ⟨(d,ptr b (o+j))::sl,hp⟩ Q):Tr C ops ((c,⟨some d, .indexAddr xT x y,ty,pos,af,g⟩)::rest) ⟨sl,hp⟩ Q:=
  .idxArr 1 hg hk hx hy hu hs j hj hlt (by simpa using k)
variable{n cap:Nat}
variable{sz:Nat}
theorem Tr.idxSl(sz:Nat)(hg:Ah ops sl g=true)(hk:okD c d C.N=true)(hx:Ag sl x=some (.slice (some ⟨b,o,none⟩) n cap))(hy:Ag sl y=some (.int ki i))(hu:C.P.underlying xT=some (.slice E))(hs:Sz C.P E sz)(j:Nat)(hj:i=j)(hlt:j<n)
    (k:Tr C ops rest ⟨(d,ptr b (o+j*sz))::sl,hp⟩ Q):Tr C ops ((c,⟨some d, .indexAddr xT x y,ty,pos,af,g⟩)::rest) ⟨sl,hp⟩ Q:=
  .pv hg hk ⟨known2 hx hy,fun ρ hf w=>by
    have h1:=hf x (by simp[Op.operands]);rw[hx]at h1;have h2:=hf y (by simp[Op.operands]);rw[hy]at h2;simp only[La3]at h1 h2;subst hj;simp[execOp,Instr.indexAt,←h1,←h2,asIntOf,run_underlying hu,hlt,Cf hs,Bo]⟩ k
theorem Tr.idxSl1(hg:Ah ops sl g=true)(hk:okD c d C.N=true)(hx:Ag sl x=some (.slice (some ⟨b,0,none⟩) n cap))(hy:Ag sl y=some (.int ki i))(hu:C.P.underlying xT=some (.slice E))(hs:Sz C.P E 1)(j:Nat)(hj:i=j)(hlt:j<n)
    (k:Tr C ops rest ⟨(d,ptr b j)::sl,hp⟩ Q):Tr C ops ((c,⟨some d, .indexAddr xT x y,ty,pos,af,g⟩)::rest) ⟨sl,hp⟩ Q:=
  .idxSl 1 hg hk hx hy hu hs j hj hlt (by simpa using k)
theorem Tr.idxSlO(hg:Ah ops sl g=true)(hk:okD c d C.N=true)(hx:Ag sl x=some (.slice (some ⟨b,o,none⟩) n cap))(hy:Ag sl y=some (.int ki i))(hu:C.P.underlying xT=some (.slice E))(hs:Sz C.P E 1)(j:Nat)(hj:i=j)(hlt:j<n)
    (k:Tr C ops rest ⟨(d,ptr b (o+j))::sl,hp⟩ Q):Tr C ops ((c,⟨some d, .indexAddr xT x y,ty,pos,af,g⟩)::rest) ⟨sl,hp⟩ Q:=
  .idxSl 1 hg hk hx hy hu hs j hj hlt (by simpa using k)
theorem Tr.fld{fs:Array Field}{f:Nat}{fd:Field}(hg:Ah ops sl g=true)(hk:okD c d C.N=true)(hx:Ag sl x=some (ptr b o))(hu:C.P.underlying xT=some (.struct fs))(hf:fs[f]? =some fd)(hs:Sz C.P fd.type sz)(hz:sz≠0)(o':Nat)(ho:o+fd.offset=o')
    (k:Tr C ops rest ⟨(d,ptr b o')::sl,hp⟩ Q):Tr C ops ((c,⟨some d, .fieldAddr xT x f,ty,pos,af,g⟩)::rest) ⟨sl,hp⟩ Q:=
  .pv hg hk ⟨known1 hx,fun ρ hfi w=>by
    have h1:=hfi x (by simp[Op.operands]);rw[hx]at h1;simp only[La3]at h1;subst ho;simp[execOp,Instr.fieldAt,←h1,run_underlying hu,hf,Instr.sureAddr,fieldPlace,Cf hs,hz,Bo]⟩ k
theorem Tr.sliceArr(hg:Ah ops sl g=true)(hk:okD c d C.N=true)(hx:Ag sl x=some (ptr b o))(hu:C.P.underlying xT=some (.array len E))(hs:Sz C.P E sz)
    (k:Tr C ops rest ⟨(d, .slice (some ⟨b,o,none⟩) len len)::sl,hp⟩ Q):Tr C ops ((c,⟨some d, .slice xT x none none none,ty,pos,af,g⟩)::rest) ⟨sl,hp⟩ Q:=
  .pv hg hk ⟨known1 hx,fun ρ hfi w=>by
    have h1:=hfi x (by simp[Op.operands]);rw[hx]at h1;simp only[La3]at h1;simp[execOp,Instr.sliceAt,←h1,run_underlying hu,Instr.sureAddr,Instr.sliceBounds,Cf hs,Bo]⟩ k
theorem Tr.sliceArrLo{lo:Operand}{kl:IntKind}{l:Int}(j:Nat)(hg:Ah ops sl g=true)(hk:okD c d C.N=true)(hx:Ag sl x=some (ptr b o))(hlo:Ag sl lo=some (.int kl l))(hj:l=j)(hlt:j<len)(hu:C.P.underlying xT=some (.array len E))(hs:Sz C.P E sz)
    (k:Tr C ops rest ⟨(d, .slice (some ⟨b,o+j*sz,none⟩) (len-j) (len-j))::sl,hp⟩ Q):Tr C ops ((c,⟨some d, .slice xT x (some lo) none none,ty,pos,af,g⟩)::rest) ⟨sl,hp⟩ Q:=
  .pv hg hk ⟨by simpa[Known,Op.operands]using known2 hx hlo,fun ρ hfi w=>by
    have h1:=hfi x (by simp[Op.operands]);rw[hx]at h1;have h2:=hfi lo (by simp[Op.operands]);rw[hlo]at h2;simp only[La3]at h1 h2;subst hj;have e:¬(len=j):=by omega
    have e1:j≤len:=by omega
    simp[execOp,Instr.sliceAt,←h1,←h2,run_underlying hu,Instr.sureAddr,Instr.sliceBounds,Instr.sliceBound,asIntOf,Cf hs,Bo,e,e1]⟩ k
theorem Tr.lenSl{ad:Option Addr}{T:TypeId}(hg:Ah ops sl g=true)(hk:okD c d C.N=true)(hx:Ag sl x=some (.slice ad n cap))(hu:C.P.underlying T=some (.slice E))
    (k:Tr C ops rest ⟨(d,i64 (n:Int))::sl,hp⟩ Q):Tr C ops ((c,⟨some d, .call { callee:= .builtin .len,args:= #[x],argTypes:= #[T] },ty,pos,af,g⟩)::rest) ⟨sl,hp⟩ Q:=
  .pv hg hk ⟨by simpa[Known,Op.operands,Call.operands]using known1 hx,fun ρ hfi w=>by
    have h1:=hfi x (by simp[Op.operands,Call.operands]);rw[hx]at h1;simp only[La3]at h1;simp[execOp,resolve,invoke,builtin,Builtin.len_,←h1,run_underlying hu,goInt]⟩ k
end
variable{P:Program}{fr:Nat×Nat}{full:Array Value}{td:TypeDesc}{w:World}
theorem BlkAt.cell{b:Blk}(h:BlkAt w b full fr){o:Nat}{v:Value}(hv:b.cs[o]? =some v):w.cell? ⟨b.n,o,none⟩=some v:=by
  have h2:full.toList[o]? =some v:=by
    obtain⟨t,ht⟩:=h.pre;rw[←ht,Lay (by
      rcases Lat o b.cs.length with h1|h1
      ·exact h1
      ·rw[Lam h1]at hv;cases hv)]
    exact hv
  simp only[World.cell?,h.heap];simpa using h2
theorem BlkOk.cell{b:Blk}(h:BlkOk w b){o:Nat}{v:Value}(hv:b.cs[o]? =some v):w.cell? ⟨b.n,o,none⟩=some v:=by
  obtain⟨n,cs,T,m⟩:=b;cases T with
  | ty t=>
    obtain⟨full,fr,h⟩:=h;exact h.cell hv
  | ob R=>
    obtain⟨h1,_⟩:=h;simp only at h1 hv;rw[h1]at hv;simp at hv
theorem BlkAt.unfrozen{b:Blk}(h:BlkAt w b full fr){o:Nat}(ho:o<b.m):w.frozen? ⟨b.n,o,none⟩=false:=by
  simp only[World.frozen?,h.heap];exact h.free.at' o ho
def B3:TypeDesc→Bool
  | .struct _| .array _ _=>false
  |_=>true
theorem run_isAgg_plain{T:TypeId}(hu:P.underlying T=some td)(hp:B3 td=true)(w:World):(isAgg T).run P w= .ok false w:=by
  cases td<;>simp[B3]at hp<;>simp[isAgg,run_underlying hu]
theorem run_isAgg_arr{T:TypeId}(hu:P.underlying T=some td)(hp:B3 td=false)(w:World):(isAgg T).run P w= .ok true w:=by
  cases td<;>simp[B3]at hp<;>simp[isAgg,run_underlying hu]
theorem run_row{b o n:Nat}{cs:List Value}(hn:cs.length=n)(h:∀j v,cs[j]? =some v→w.cell? ⟨b,o+j,none⟩=some v):(loadCells ⟨b,o,none⟩ n).run P w= .ok cs.toArray w:=by
  subst hn;exact run_loadCells_list w ⟨b,o,none⟩ cs fun j v hj=>by rw[Bo];exact h j v hj
section
variable{T:TypeId}{td:TypeDesc}{x:Operand}{b o:Nat}{v:Value}{cs:List Value}{BT:TypeId}{m:Nat}
variable{n:Nat}{op:Op}{w:World}
theorem Tr.ld(hg:Ah ops sl g=true)(hk:okL c d C.N=true)(hv:LoadV C ⟨sl,hp⟩ ⟨some d,op,ty,pos,af,g⟩ v)(k:Tr C ops rest ⟨(d,v)::sl,hp⟩ Q):
    Tr C ops ((c,⟨some d,op,ty,pos,af,g⟩)::rest) ⟨sl,hp⟩ Q:=by
  simp only[okL,Lan]at hk;exact .load v (nbeq hk.1.1) (nbeq hk.1.2) (Ax hg) (B6 (nblt hk.2)) hv k
theorem Tr.loadAny(hg:Ah ops sl g=true)(hk:okL c d C.N=true)(hx:Ag sl x=some (ptr b o))(hv:∀w,HRep C hp w→(loadVar T ⟨b,o,none⟩).run C.P w= .ok v w)
    (k:Tr C ops rest ⟨(d,v)::sl,hp⟩ Q):Tr C ops ((c,⟨some d, .load T x,ty,pos,af,g⟩)::rest) ⟨sl,hp⟩ Q:=
  .ld hg hk ⟨known1 hx,fun ρ hf w hr=>by
    have h1:=hf x (by simp[Op.operands]);rw[hx]at h1;simp only[La3]at h1;simp[execOp,Instr.loadAt,←h1,Instr.sureAddr,hv w hr]⟩ k
theorem Tr.load1(hg:Ah ops sl g=true)(hk:okL c d C.N=true)(hx:Ag sl x=some (ptr b o))(hu:C.P.underlying T=some td)(hp':B3 td=true)(hb:(⟨b,cs,BT,m⟩:Blk)∈hp)(hv:cs[o]? =some v)
    (k:Tr C ops rest ⟨(d,v)::sl,hp⟩ Q):Tr C ops ((c,⟨some d, .load T x,ty,pos,af,g⟩)::rest) ⟨sl,hp⟩ Q:=
  .loadAny hg hk hx (fun w hr=>by
    have:=(hr.cells _ hb).cell (o:=o) hv;simp[loadVar,run_isAgg_plain hu hp',load,Sem.run,this]) k
theorem Tr.lN(r:List Value)(hg:Ah ops sl g=true)(hk:okL c d C.N=true)(hx:Ag sl x=some (ptr b o))(hu:C.P.underlying T=some td)(hp':B3 td=false)(hs:Sz C.P T n)(hb:(⟨b,cs,BT,m⟩:Blk)∈hp)(hr:(cs.drop o).take n=r)(hn:r.length=n)
    (k:Tr C ops rest ⟨(d,agg r)::sl,hp⟩ Q):Tr C ops ((c,⟨some d, .load T x,ty,pos,af,g⟩)::rest) ⟨sl,hp⟩ Q:=
  .loadAny hg hk hx (fun w hh=>by
    have:=run_row (P:=C.P) (w:=w) (b:=b) (o:=o) hn fun j v hj=>by
      refine(hh.cells _ hb).cell (b:=⟨b,cs,BT,m⟩) (o:=o+j) ?_;rw[←hr,Lbn]at hj;split at hj
      ·rwa[Lb9]at hj
      ·cases hj
    simp[loadVar,run_isAgg_arr hu hp',Cf hs,this]) k
theorem Tr.lA(hg:Ah ops sl g=true)(hk:okL c d C.N=true)(hx:Ag sl x=some (ptr b 0))(hu:C.P.underlying T=some td)(hp':B3 td=false)(hs:Sz C.P T n)(hb:(⟨b,cs,BT,m⟩:Blk)∈hp)(hn:cs.length=n)
    (k:Tr C ops rest ⟨(d,agg cs)::sl,hp⟩ Q):Tr C ops ((c,⟨some d, .load T x,ty,pos,af,g⟩)::rest) ⟨sl,hp⟩ Q:=
  Tr.lN cs hg hk hx hu hp' hs hb (by simp[←hn]) hn k
theorem Keeps.cell{ex:List Nat}{w w':World}(h:Keeps ex w w'){p:Addr}(hn:p.block∉ex)(hv:w.cell? p=some v):w'.cell? p=some v:=by
  have hlt:p.block<w.heap.size:=by
    rcases Lat p.block w.heap.size with h1|h1
    ·exact h1
    ·simp[World.cell?,Lc4 h1]at hv
  have:=h.block p.block hlt hn;simp only[World.cell?,this];exact hv
theorem Tr.loadE(hg:Ah ops sl g=true)(hk:okL c d C.N=true)(hx:Ag sl x=some (ptr b o))(hu:C.P.underlying T=some td)(hp':B3 td=true)(hb:b∉C.lent)(hv:C.W0.cell? ⟨b,o,none⟩=some v)
    (k:Tr C ops rest ⟨(d,v)::sl,hp⟩ Q):Tr C ops ((c,⟨some d, .load T x,ty,pos,af,g⟩)::rest) ⟨sl,hp⟩ Q:=
  .loadAny hg hk hx (fun w hr=>by
    have:=hr.keeps.cell (p:=⟨b,o,none⟩) hb hv;simp[loadVar,run_isAgg_plain hu hp',load,Sem.run,this]) k
theorem Tr.loadEN(r:List Value)(hg:Ah ops sl g=true)(hk:okL c d C.N=true)(hx:Ag sl x=some (ptr b o))(hu:C.P.underlying T=some td)(hp':B3 td=false)(hs:Sz C.P T n)(hb:b∉C.lent)(hn:r.length=n)
    (hv:∀j v,r[j]? =some v→C.W0.cell? ⟨b,o+j,none⟩=some v)
    (k:Tr C ops rest ⟨(d,agg r)::sl,hp⟩ Q):Tr C ops ((c,⟨some d, .load T x,ty,pos,af,g⟩)::rest) ⟨sl,hp⟩ Q:=
  .loadAny hg hk hx (fun w hh=>by
    have:=run_row (P:=C.P) (w:=w) (b:=b) (o:=o) hn fun j v hj=>hh.keeps.cell (p:=⟨b,o+j,none⟩) hb (hv j v hj);simp[loadVar,run_isAgg_arr hu hp',Cf hs,this]) k
theorem BlkOk.cell0(h:BlkOk w ⟨b,cs,T,m⟩)(hv:cs[o]? =some v):w.cell? ⟨b,o,none⟩=some v:=BlkOk.cell (b:=⟨b,cs,T,m⟩) h hv
theorem Tr.kld(hg:Ah ops sl g=true)(hk:okD c d C.N=true)(hv:KLoadV C sl ⟨some d,op,ty,pos,af,g⟩ v)(k:Tr C ops rest ⟨(d,v)::sl,hp⟩ Q):
    Tr C ops ((c,⟨some d,op,ty,pos,af,g⟩)::rest) ⟨sl,hp⟩ Q:=by
  simp only[okD,Lan]at hk;exact .kload v (nbeq hk.1) (Ax hg) (B6 (nblt hk.2)) hv k
theorem Tr.kloadAny(hg:Ah ops sl g=true)(hk:okD c d C.N=true)(hx:Ag sl x=some (ptr b o))(hv:∀w,(∀b∈C.kb,BlkOk w b)→Keeps C.lent C.W0 w→(loadVar T ⟨b,o,none⟩).run C.P w= .ok v w)
    (k:Tr C ops rest ⟨(d,v)::sl,hp⟩ Q):Tr C ops ((c,⟨some d, .load T x,ty,pos,af,g⟩)::rest) ⟨sl,hp⟩ Q:=
  .kld hg hk ⟨known1 hx,fun ρ hf w hr hq=>by
    have h1:=hf x (by simp[Op.operands]);rw[hx]at h1;simp only[La3]at h1;simp[execOp,Instr.loadAt,←h1,Instr.sureAddr,hv w hr hq]⟩ k
theorem Tr.kload1(hg:Ah ops sl g=true)(hk:okD c d C.N=true)(hx:Ag sl x=some (ptr b o))(hu:C.P.underlying T=some td)(hp':B3 td=true)(hb:(⟨b,cs,BT,m⟩:Blk)∈C.kb)(hv:cs[o]? =some v)
    (k:Tr C ops rest ⟨(d,v)::sl,hp⟩ Q):Tr C ops ((c,⟨some d, .load T x,ty,pos,af,g⟩)::rest) ⟨sl,hp⟩ Q:=
  .kloadAny hg hk hx (fun w hr _=>by
    have:=(hr _ hb).cell0 (o:=o) hv;simp[loadVar,run_isAgg_plain hu hp',load,Sem.run,this]) k
theorem Tr.kloadN(r:List Value)(hg:Ah ops sl g=true)(hk:okD c d C.N=true)(hx:Ag sl x=some (ptr b o))(hu:C.P.underlying T=some td)(hp':B3 td=false)(hs:Sz C.P T n)(hb:(⟨b,cs,BT,m⟩:Blk)∈C.kb)(hr:(cs.drop o).take n=r)(hn:r.length=n)
    (k:Tr C ops rest ⟨(d,agg r)::sl,hp⟩ Q):Tr C ops ((c,⟨some d, .load T x,ty,pos,af,g⟩)::rest) ⟨sl,hp⟩ Q:=
  .kloadAny hg hk hx (fun w hh _=>by
    have:=run_row (P:=C.P) (w:=w) (b:=b) (o:=o) hn fun j v hj=>by
      refine(hh _ hb).cell0 (o:=o+j) ?_;rw[←hr,Lbn]at hj;split at hj
      ·rwa[Lb9]at hj
      ·cases hj
    simp[loadVar,run_isAgg_arr hu hp',Cf hs,this]) k
theorem Tr.kloadAll(hg:Ah ops sl g=true)(hk:okD c d C.N=true)(hx:Ag sl x=some (ptr b 0))(hu:C.P.underlying T=some td)(hp':B3 td=false)(hs:Sz C.P T n)(hb:(⟨b,cs,BT,m⟩:Blk)∈C.kb)(hn:cs.length=n)
    (k:Tr C ops rest ⟨(d,agg cs)::sl,hp⟩ Q):Tr C ops ((c,⟨some d, .load T x,ty,pos,af,g⟩)::rest) ⟨sl,hp⟩ Q:=
  .kloadN cs hg hk hx hu hp' hs hb (by simp[←hn]) hn k
theorem Tr.nw(hk:okN c d C.N=true)(hv:NewV C ⟨sl,hp⟩ ⟨some d,op,ty,pos,af,none⟩ (fun n=>ptr n 0) cs T)
    (k:∀n,C.W0.heap.size≤n→(∀b∈hp,b.n≠n)→Tr C ops rest ⟨(d,ptr n 0)::sl,blk n cs T::hp⟩ Q):Tr C ops ((c,⟨some d,op,ty,pos,af,none⟩)::rest) ⟨sl,hp⟩ Q:=by
  simp only[okN,Lan,Lcm]at hk;exact .new (fun n=>ptr n 0) cs T (hk.1.imp nbeq' nbeq') rfl (B6 (nblt hk.2)) hv k
theorem Tr.alloc{z:Value}(hk:okN c d C.N=true)(hz:Zr C.P T z)(hc:z.cells.toList=cs)
    (k:∀n,C.W0.heap.size≤n→(∀b∈hp,b.n≠n)→Tr C ops rest ⟨(d,ptr n 0)::sl,blk n cs T::hp⟩ Q):Tr C ops ((c,⟨some d, .alloc T,ty,pos,af,none⟩)::rest) ⟨sl,hp⟩ Q:=
  .nw hk ⟨fun x hx=>by simp[Op.operands]at hx,fun ρ hf w=>by
    subst hc;simp[execOp,Instr.alloc,run_zr hz,newVar,newRow,newObj,Sem.run]⟩ k
theorem Tr.boxA{l:List Value}(hk:okN c d C.N=true)(hx:Ag sl x=some (agg l))
    (k:∀n,C.W0.heap.size≤n→(∀b∈hp,b.n≠n)→Tr C ops rest ⟨(d,ptr n 0)::sl,blk n l T::hp⟩ Q):Tr C ops ((c,⟨some d, .box T x,ty,pos,af,none⟩)::rest) ⟨sl,hp⟩ Q:=
  .nw hk ⟨known1 hx,fun ρ hf w=>by
    have h1:=hf x (by simp[Op.operands]);rw[hx]at h1;simp only[La3]at h1;simp[execOp,Instr.box,newVar,newRow,newObj,Sem.run,←h1,Value.cells]⟩ k
theorem Tr.box1(hk:okN c d C.N=true)(hx:Ag sl x=some v)(hv:isCell v=true)
    (k:∀n,C.W0.heap.size≤n→(∀b∈hp,b.n≠n)→Tr C ops rest ⟨(d,ptr n 0)::sl,blk n [v] T::hp⟩ Q):Tr C ops ((c,⟨some d, .box T x,ty,pos,af,none⟩)::rest) ⟨sl,hp⟩ Q:=
  .nw hk ⟨known1 hx,fun ρ hf w=>by
    have h1:=hf x (by simp[Op.operands]);rw[hx]at h1;simp only[La3]at h1;have:v.cells= #[v]:=by cases v<;>simp[isCell]at hv<;>rfl
    simp[execOp,Instr.box,newVar,newRow,newObj,Sem.run,←h1,this]⟩ k
end
inductive Upd:List Blk→Nat→List Value→TypeId→Nat→List Value→List Blk→Prop
  |head {b:Nat} {cs:List Value} {T:TypeId} {m:Nat} {cs':List Value} {l:List Blk}:Upd (⟨b,cs,T,m⟩::l) b cs T m cs' (⟨b,cs',T,m⟩::l)
  |tail {x l b cs T m cs' l'} (h:Upd l b cs T m cs' l'):Upd (x::l) b cs T m cs' (x::l')
section
variable{l l':List Blk}{x0 x1 x2 x3 x4 x5 x6:Blk}{b:Nat}{cs cs':List Value}{T:TypeId}{m:Nat}
theorem upd0:Upd (⟨b,cs,T,m⟩::l) b cs T m cs' (⟨b,cs',T,m⟩::l):= .head
theorem upd1:Upd (x0::⟨b,cs,T,m⟩::l) b cs T m cs' (x0::⟨b,cs',T,m⟩::l):= .tail upd0
theorem upd2:Upd (x1::x0::⟨b,cs,T,m⟩::l) b cs T m cs' (x1::x0::⟨b,cs',T,m⟩::l):= .tail upd1
theorem upd3:Upd (x2::x1::x0::⟨b,cs,T,m⟩::l) b cs T m cs' (x2::x1::x0::⟨b,cs',T,m⟩::l):= .tail upd2
theorem upd4:Upd (x3::x2::x1::x0::⟨b,cs,T,m⟩::l) b cs T m cs' (x3::x2::x1::x0::⟨b,cs',T,m⟩::l):= .tail upd3
theorem upd5:Upd (x4::x3::x2::x1::x0::⟨b,cs,T,m⟩::l) b cs T m cs' (x4::x3::x2::x1::x0::⟨b,cs',T,m⟩::l):= .tail upd4
theorem upd6:Upd (x5::x4::x3::x2::x1::x0::⟨b,cs,T,m⟩::l) b cs T m cs' (x5::x4::x3::x2::x1::x0::⟨b,cs',T,m⟩::l):= .tail upd5
theorem upd7:Upd (x6::x5::x4::x3::x2::x1::x0::⟨b,cs,T,m⟩::l) b cs T m cs' (x6::x5::x4::x3::x2::x1::x0::⟨b,cs',T,m⟩::l):= .tail upd6
end
variable{fr:Nat×Nat}{full:Array Value}{w:World}
theorem Upd.mem{l l':List Blk}{b:Nat}{cs cs':List Value}{T:TypeId}{m:Nat}(h:Upd l b cs T m cs' l'):(⟨b,cs,T,m⟩:Blk)∈l:=by
  induction h with
  |head=>exact La9
  |tail h ih=>exact Laa _ ih
theorem Upd.names{l l':List Blk}{b:Nat}{cs cs':List Value}{T:TypeId}{m:Nat}(h:Upd l b cs T m cs' l'):l'.map (·.n)=l.map (·.n):=by
  induction h with
  |head=>rfl
  |tail h ih=>simp[ih]
theorem Upd.of_mem{l l':List Blk}{b:Nat}{cs cs':List Value}{T:TypeId}{m:Nat}(h:Upd l b cs T m cs' l')(hn:(l.map (·.n)).Nodup):
    ∀x∈l',x=⟨b,cs',T,m⟩∨(x∈l∧x.n≠b):=by
  induction h with
  | @head b cs T m cs' l=>
    intro x hx;rcases Lag.1 hx with rfl|hx
    ·exact .inl rfl
    · refine .inr ⟨Laa _ hx,fun e=>?_⟩
      have:=(Lb0.1 hn).1;exact this (by simpa[←e]using La6.2 ⟨x,hx,rfl⟩)
  | @tail y l b cs T m cs' l' h ih=>
    intro x hx;rcases Lag.1 hx with rfl|hx
    · refine .inr ⟨La9,fun e=>?_⟩
      have:=(Lb0.1 hn).1;exact this (by simpa[e]using La6.2 ⟨_,h.mem,rfl⟩)
    · rcases ih (Lb0.1 hn).2 x hx with h1|⟨h1,h2⟩
      ·exact .inl h1
      ·exact .inr ⟨Laa _ h1,h2⟩
def setBlk(w:World)(b:Nat)(full:Array Value)(T:TypeId)(fr:Nat×Nat):World:={ w with heap:=w.heap.setIfInBounds b (.cells full T fr) }
theorem setBlk_ne{b k:Nat}{T:TypeId}(h:k≠b):(setBlk w b full T fr).heap[k]? =w.heap[k]? :=by
  simp[setBlk,Lco (Ne.symm h)]
theorem setBlk_eq{b:Nat}{T:TypeId}(h:b<w.heap.size):(setBlk w b full T fr).heap[b]? =some (.cells full T fr):=by
  simp[setBlk,h]
theorem HRep.upd{hp hp':List Blk}{b:Nat}{cs cs':List Value}{T:TypeId}{m:Nat}{full':Array Value}(h:HRep C hp w)(hu:Upd hp b cs T m cs' hp')
    (hb:b<w.heap.size) (h1:full'.size=m) (h2:cs'<+:full'.toList) (h3:Free fr m):HRep C hp' (setBlk w b full' T fr):=by
  have hlt:b<w.heap.size:=hb;refine⟨fun x hx=>?_,by rw[hu.names];exact h.nodup,fun x hx=>?_,?_,fun k hk=>(h.kok k hk).of_heap (setBlk_ne fun e=>h.kd _ hu.mem k hk e.symm),fun x hx k hk=>?_⟩
  · rcases hu.of_mem h.nodup x hx with rfl|⟨hx,hne⟩
    ·exact⟨full',fr,setBlk_eq hlt,h1,h2,h3⟩
    ·exact(h.cells x hx).of_heap (setBlk_ne hne)
  · rcases hu.of_mem h.nodup x hx with rfl|⟨hx,hne⟩
    ·exact(h.own _ hu.mem:C.W0.heap.size≤b∨b∈C.lent)
    ·exact h.own x hx
  · refine⟨h.keeps.os,h.keeps.tape,h.keeps.output,by simp[setBlk];exact h.keeps.size,h.keeps.drawn,fun k hk hn=>?_⟩
    have hne:k≠b:=by
      rintro rfl;rcases h.own _ hu.mem with h1|h1
      ·exact absurd hk (by simpa using h1)
      ·exact hn h1
    rw[setBlk_ne hne];exact h.keeps.block k hk hn
  · rcases hu.of_mem h.nodup x hx with rfl|⟨hx,hne⟩
    ·exact h.kd _ hu.mem k hk
    ·exact h.kd x hx k hk
def B4(full:Array Value):Nat→List Value→Array Value
  |_,[]=>full
  |k,v::vs=>B4 (full.setIfInBounds k v) (k+1) vs
theorem putAll_size:∀(vs:List Value) (full:Array Value) (k:Nat),(B4 full k vs).size=full.size
  | [],_,_=>rfl
  |v::vs,full,k=>by rw[B4,putAll_size vs];simp
def upd(cs:List Value)(o:Nat)(vs:List Value):List Value:=cs.take o++vs++cs.drop (o+vs.length)
theorem putAll_get:∀(vs:List Value) (full:Array Value) (k j:Nat),k+vs.length≤full.size→
    (B4 full k vs)[j]? =if k≤j∧j<k+vs.length then vs[j-k]? else full[j]?
  | [],full,k,j,h=>by simp[B4];omega
  | v ::vs,full,k,j,h=>by
    simp only[Lbh]at h;rw[B4,putAll_get vs _ _ _ (by simp;omega)];by_cases hj:j=k
    · subst hj
      have:j<full.size:=by omega
      rw[if_neg oM,if_pos sP];simp[this]
    · by_cases h1:k+1≤j∧j<k+1+vs.length
      · have e:j-k=(j-(k+1))+1:=by omega
        rw[if_pos h1,if_pos (by simp;omega),e,Ldn]
      ·rw[if_neg h1,if_neg (by simp;omega),Lco oM]
theorem upd_get(cs:List Value)(o:Nat)(vs:List Value)(j:Nat)(h:o+vs.length≤cs.length):
    (upd cs o vs)[j]? =if o≤j∧j<o+vs.length then vs[j-o]? else cs[j]? :=by
  unfold upd;rw[La8,Ldm];have hl:(cs.take o).length=o:=by simp;omega
  rw[hl];by_cases h1:j<o
  ·rw[if_pos h1,if_neg oM,Lbn,if_pos h1]
  · rw[if_neg h1,Ldm]
    by_cases h2:j-o<vs.length
    ·rw[if_pos h2,if_pos oM]
    · rw[if_neg h2,if_neg oM,Lb9]
      congr 1;omega
theorem prefix_iff{l1 l2:List Value}:l1<+:l2↔∀(j:Nat) (v:Value),l1[j]? =some v→l2[j]? =some v:=by
  constructor
  · rintro⟨t,rfl⟩ j v h
    rw[Lay (by
      rcases Lat j l1.length with h1|h1
      ·exact h1
      ·rw[Lam h1]at h;cases h)]
    exact h
  · intro h
    induction l1 generalizing l2 with
    |nil=>exact List.nil_prefix
    | cons x l1 ih=>
      cases l2 with
      |nil=>have:=h 0 x sP;simp at this
      | cons y l2=>
        have h0:=h 0 x sP;simp at h0;subst h0;exact List.cons_prefix_cons.2 ⟨rfl,ih fun j v hj=>by simpa using h (j+1) v (by simpa using hj)⟩
theorem upd_pre{cs:List Value}{o:Nat}{vs:List Value}(hp:cs<+:full.toList)(h:o+vs.length≤cs.length):upd cs o vs<+:(B4 full o vs).toList:=by
  have hl:=hp.length_le;simp only[Lcw]at hl;refine prefix_iff.2 fun j v hj=>?_;rw[upd_get _ _ _ _ h]at hj;rw[Lde,putAll_get _ _ _ _ oM];split
  ·rename_i h1;rwa[if_pos h1]at hj
  · rename_i h1
    rw[if_neg h1]at hj;simpa using prefix_iff.1 hp j v hj
theorem upd_one(cs:List Value)(o:Nat)(v:Value)(h:o<cs.length):upd cs o [v]=cs.set o v:=by
  apply Lci;intro j;rw[upd_get _ _ _ _ (by simp;omega),Lcn];by_cases hj:o=j
  ·subst hj;simp[h]
  ·rw[if_neg hj,if_neg (by simp;omega)]
theorem upd_all(cs vs:List Value)(h:vs.length=cs.length):upd cs 0 vs=vs:=by
  simp[upd,h]
theorem run_store{P:Program}{a:Addr}{v:Value}(hc:(w.cell? a).isSome)(hf:w.frozen? a=false)(hv:isCell v=true):(store a v).run P w= .ok () (w.setCell a v):=by
  cases hw:w.cell? a with
  |none=>simp[hw]at hc
  | some u=>
    unfold store;cases v<;>simp[isCell]at hv<;>simp[Sem.run,hw,hf]
theorem setCell_setBlk{b o:Nat}{v:Value}{T:TypeId}(h:w.heap[b]? =some (.cells full T fr)):
    w.setCell ⟨b,o,none⟩ v=setBlk w b (full.setIfInBounds o v) T fr:=by
  have hlt:b<w.heap.size:=by
    rcases Lat b w.heap.size with h1|h1
    ·exact h1
    ·rw[Lc4 h1]at h;cases h
  unfold World.setCell setBlk;congr 1;apply Ldy;intro k;rw[Lcz,Ldo];by_cases hk:b=k
  · subst hk
    rw[if_pos rfl,h];simp[hlt]
  ·rw[if_neg hk,if_neg hk]
theorem setBlk_setBlk{b:Nat}{f1 f2:Array Value}{T:TypeId}:setBlk (setBlk w b f1 T fr) b f2 T fr=setBlk w b f2 T fr:=by
  unfold setBlk;congr 1;apply Ldy;intro k;simp only[Ldo];split
  ·simp
  ·rfl
theorem run_storeCells{P:Program}{b o:Nat}{T:TypeId}{fr:Nat×Nat}:∀(vs:List Value) (i:Nat) (w:World) (full:Array Value),w.heap[b]? =some (.cells full T fr)→o+i+vs.length≤full.size→
    Free fr full.size→(∀v∈vs,isCell v=true)→(storeCells ⟨b,o,none⟩ vs i).run P w= .ok () (setBlk w b (B4 full (o+i) vs) T fr)
  | [], i,w,full,h,hl,hf,hv=>by
    have:setBlk w b full T fr=w:=by
      unfold setBlk;have hlt:b<w.heap.size:=by
        rcases Lat b w.heap.size with h1|h1
        ·exact h1
        ·rw[Lc4 h1]at h;cases h
      have:w.heap.setIfInBounds b (.cells full T fr)=w.heap:=by
        apply Ldy;intro k;rw[Ldo];by_cases hk:b=k
        ·subst hk;simp[hlt,←h]
        ·rw[if_neg hk]
      rw[this]
    simp[storeCells,B4,this]
  | v ::vs,i,w,full,h,hl,hf,hv=>by
    simp only[Lbh]at hl;have hlt:b<w.heap.size:=by
      rcases Lat b w.heap.size with h1|h1
      ·exact h1
      ·rw[Lc4 h1]at h;cases h
    have hc:(w.cell? ⟨b,o+i,none⟩).isSome:=by simp[World.cell?,h];omega
    have hfr:w.frozen? ⟨b,o+i,none⟩=false:=by simp only[World.frozen?,h];exact hf.at' _ oM
    have hs:=run_store (P:=P) hc hfr (hv v La9);rw[setCell_setBlk h]at hs;have ih:=run_storeCells (P:=P) (b:=b) (o:=o) vs (i+1) (setBlk w b (full.setIfInBounds (o+i) v) T fr) (full.setIfInBounds (o+i) v) (setBlk_eq hlt) (by simp;omega) (by simpa using hf) (fun u hu=>hv u (Laa _ hu));rw[setBlk_setBlk]at ih;simp only[storeCells,Bo,Sem.run_bind,hs,Result.andThen];rw[ih];rfl
section
variable{T:TypeId}{x y:Operand}{b o:Nat}{v:Value}{cs:List Value}{BT:TypeId}{m n:Nat}{hp':List Blk}
theorem Tr.storeN(vs:List Value){cs':List Value}(hg:Ah ops sl g=true)(hc:Nat.beq c 4=true)(hx:Ag sl x=some (ptr b o))(hy:Ag sl y=some v)(hvs:v.cells.toList=vs)(hcell:∀u∈vs,isCell u=true)(hs:Sz C.P T n)(hn:vs.length=n)
    (_hb:(⟨b,cs,BT,m⟩:Blk)∈hp) (hl:o+vs.length≤cs.length) (hcs:upd cs o vs=cs') (hu:Upd hp b cs BT m cs' hp')
    (k:Tr C ops rest ⟨sl,hp'⟩ Q):Tr C ops ((c,⟨none, .store T x y,ty,pos,af,g⟩)::rest) ⟨sl,hp⟩ Q:=by
  refine Tr.act (ρ:=Unit) (fun _=>True) (fun _=>undef) (fun _=>hp') (nbeq' hc) (Ax hg) dst_none ⟨known2 hx hy,fun a w hf hh=>?_⟩ (fun _ _=>k);have h1:=hf x (by simp[Op.operands]);rw[hx]at h1;have h2:=hf y (by simp[Op.operands]);rw[hy]at h2;simp only[La3]at h1 h2;obtain⟨full,fr,hb⟩:=hh.cells _ hu.mem;have hpl:=hb.pre.length_le;simp only[Lcw]at hpl;have hlt:=(hh.cells _ hu.mem).lt;have hst:=run_storeCells (P:=C.P) (b:=b) (o:=o) vs 0 w full hb.heap oM (by rw[hb.size];exact hb.free) hcell;have hsz:v.cells.size=n:=by rw[←hn,←hvs];simp
  have hrun:(execOp a.eval ⟨none, .store T x y,ty,pos,af,g⟩).run C.P w= .ok .skip (setBlk w b (B4 full o vs) BT fr):=by
    simp[execOp,Instr.storeAt,←h1,←h2,Instr.sureAddr,storeVar,Cf hs,hsz,hvs,hst]
  unfold Oper.wp;rw[hrun];refine⟨(),trivial,rfl,hh.upd hu hlt (by rw[putAll_size];exact hb.size) ?_ hb.free⟩;rw[←hcs];exact upd_pre hb.pre hl
theorem Tr.s1{cs':List Value}(hg:Ah ops sl g=true)(hc:Nat.beq c 4=true)(hx:Ag sl x=some (ptr b o))(hy:Ag sl y=some v)(hcell:isCell v=true)(hs:Sz C.P T 1)
    (_hb:(⟨b,cs,BT,m⟩:Blk)∈hp) (hl:o<cs.length) (hcs:cs.set o v=cs') (hu:Upd hp b cs BT m cs' hp')
    (k:Tr C ops rest ⟨sl,hp'⟩ Q):Tr C ops ((c,⟨none, .store T x y,ty,pos,af,g⟩)::rest) ⟨sl,hp⟩ Q:=
  .storeN [v] hg hc hx hy (by cases v<;>simp[isCell]at hcell<;>rfl) (by simpa using hcell) hs rfl _hb (by simp;omega) ((upd_one cs o v hl).trans hcs) hu k
theorem Tr.sA{vs:List Value}(hg:Ah ops sl g=true)(hc:Nat.beq c 4=true)(hx:Ag sl x=some (ptr b 0))(hy:Ag sl y=some (agg vs))(hcell:∀u∈vs,isCell u=true)(hs:Sz C.P T n)(hn:vs.length=n)
    (_hb:(⟨b,cs,BT,m⟩:Blk)∈hp) (hl:cs.length=n) (hu:Upd hp b cs BT m vs hp')
    (k:Tr C ops rest ⟨sl,hp'⟩ Q):Tr C ops ((c,⟨none, .store T x y,ty,pos,af,g⟩)::rest) ⟨sl,hp⟩ Q:=
  .storeN vs hg hc hx hy rfl hcell hs hn _hb oM (upd_all _ _ oM) hu k
end
def Meets(P:Program)(f:FuncId)(args:List Value)(lent:List Nat)(Pre:World→Prop)(R:Value→List Blk→Prop):Prop:=
  ∀W,Pre W→Calls P f args.toArray W fun e W'=>∃v out,e= .returned v∧R v out∧Ret lent out W W'
def Aw(P:Program)(f:FuncId):Prop:=∀args w,(callFunc f args).run P w= .ok (.enter f args) w
def evs(sl:List (Nat×Value)):List Operand→Option (List Value)
  | []=>some []
  | x::l=>match Ag sl x,evs sl l with
    |some v,some vs=>some (v::vs)
    |_,_=>none
theorem evs_known{sl:List (Nat×Value)}:∀ {l:List Operand} {vs:List Value},evs sl l=some vs→∀x∈l,(Ag sl x).isSome
  | [],_,_,x,hx=>by cases hx
  | y ::l,vs,h,x,hx=>by
    simp only[evs]at h;split at h
    · rename_i v vs' hv hvs
      rcases Lag.1 hx with rfl|hx
      ·simp[hv]
      ·exact evs_known hvs x hx
    ·cases h
theorem evs_map{sl:List (Nat×Value)}{ρ:Operand→Value}:∀ {l:List Operand} {vs:List Value},evs sl l=some vs→(∀x∈l,Ag sl x=some (ρ x))→l.map ρ=vs
  | [],vs,h,_=>by simp[evs]at h;simp[←h]
  | y ::l,vs,h,hf=>by
    simp only[evs]at h;split at h
    · rename_i v vs' hv hvs
      cases h;have h0:=hf y La9;rw[hv]at h0;cases h0;rw[Lao,evs_map hvs fun x hx=>hf x (Laa _ hx)]
    ·cases h
section
variable{f:Operand}{fid:FuncId}{ars:List Operand}{ats:Array TypeId}{vs:List Value}
variable{Pre:World→Prop}{r:Value}
theorem known_call(hfn:Ag sl f=some (.func (.func fid) #[] #[]))(hargs:evs sl ars=some vs):Known sl ⟨some d, .call ⟨.value f,ars.toArray,ats⟩,ty,pos,af,g⟩:=by
  intro x hx;simp[Op.operands,Call.operands]at hx;rcases hx with rfl|hx
  ·simp[hfn]
  ·exact evs_known hargs x hx
theorem run_call{ρ:Operand→Value}{w:World}(hfn:Ag sl f=some (.func (.func fid) #[] #[]))(hargs:evs sl ars=some vs)
    (hf:Fits sl ⟨some d, .call ⟨.value f,ars.toArray,ats⟩,ty,pos,af,g⟩ ρ):
    (execOp ρ ⟨some d, .call ⟨.value f,ars.toArray,ats⟩,ty,pos,af,g⟩).run C.P w=(callFunc fid vs.toArray).run C.P w:=by
  have h1:=hf f (by simp[Op.operands,Call.operands]);rw[hfn]at h1;simp only[La3]at h1;have h2:=evs_map hargs fun x hx=>hf x (by simp[Op.operands,Call.operands,hx]);simp[execOp,resolve,Deferred.ofValue,←h1,h2,invoke]
def Loose(R:Value→List Blk→Prop):Prop:=∀l:List Blk,(l.map (·.n)).Nodup→∃v out,R v out∧((out++l).map (·.n)).Nodup
theorem Tr.call{R:Value→List Blk→Prop}(hg:Ah ops sl g=true)(hk:okG c d C.N=true)(hfn:Ag sl f=some (.func (.func fid) #[] #[]))(hargs:evs sl ars=some vs)(hb:Aw C.P fid)
    (hc:Meets C.P fid vs [] Pre R) (hl:Loose R) (hpre:∀w,HRep C hp w→Pre w)
    (k:∀v out,R v out→Tr C ops rest ⟨(d,v)::sl,out++hp⟩ Q):Tr C ops ((c,⟨some d, .call ⟨.value f,ars.toArray,ats⟩,ty,pos,af,g⟩)::rest) ⟨sl,hp⟩ Q:=by
  simp only[okG,Lan,Lcm]at hk;refine Tr.grow (ρ:=Value×List Blk) (fun r=>R r.1 r.2) (·.1) (·.2) (hk.1.imp nbeq' nbeq') (Ax hg) (B6 (nblt hk.2)) ⟨known_call hfn hargs,fun l hn=>?_,fun a w hf hh=>?_⟩ (fun r hr=>k r.1 r.2 hr)
  · obtain⟨v,out,h1,h2⟩:=hl l hn
    exact⟨(v,out),h1,h2⟩
  unfold Oper.wp;rw[run_call hfn hargs hf,hb];refine(hc w (hpre w hh)).mono fun e w' ⟨v,out,he,hR,hret⟩=>?_;subst he;exact⟨(v,out),hR,rfl,hret⟩
theorem Tr.cV(hg:Ah ops sl g=true)(hk:okG c d C.N=true)(hfn:Ag sl f=some (.func (.func fid) #[] #[]))(hargs:evs sl ars=some vs)(hb:Aw C.P fid)
    (hc:Meets C.P fid vs [] Pre fun v out=>v=r∧out=[]) (hpre:∀w,HRep C hp w→Pre w)
    (k:Tr C ops rest ⟨(d,r)::sl,hp⟩ Q):Tr C ops ((c,⟨some d, .call ⟨.value f,ars.toArray,ats⟩,ty,pos,af,g⟩)::rest) ⟨sl,hp⟩ Q:=
  .call hg hk hfn hargs hb hc (fun l hn=>⟨r,[],⟨rfl,rfl⟩,hn⟩) hpre fun v out h=>by obtain⟨rfl,rfl⟩:=h;exact k
theorem Tr.ext(hg:Ah ops sl g=true)(hk:okD c d C.N=true)(hfn:Ag sl f=some (.func (.func fid) #[] #[]))(hargs:evs sl ars=some vs)(hr:∀w,(callFunc fid vs.toArray).run C.P w= .ok (.value r) w)
    (k:Tr C ops rest ⟨(d,r)::sl,hp⟩ Q):Tr C ops ((c,⟨some d, .call ⟨.value f,ars.toArray,ats⟩,ty,pos,af,g⟩)::rest) ⟨sl,hp⟩ Q:=
  .pv hg hk ⟨known_call hfn hargs,fun ρ hf w=>by rw[run_call (C:=C) hfn hargs hf,hr]⟩ k
theorem Tr.extL(hg:Ah ops sl g=true)(hk:okL c d C.N=true)(hfn:Ag sl f=some (.func (.func fid) #[] #[]))(hargs:evs sl ars=some vs)(hr:∀w,HRep C hp w→(callFunc fid vs.toArray).run C.P w= .ok (.value r) w)
    (k:Tr C ops rest ⟨(d,r)::sl,hp⟩ Q):Tr C ops ((c,⟨some d, .call ⟨.value f,ars.toArray,ats⟩,ty,pos,af,g⟩)::rest) ⟨sl,hp⟩ Q:=
  .ld hg hk ⟨known_call hfn hargs,fun ρ hf w hh=>by rw[run_call (C:=C) hfn hargs hf,hr w hh]⟩ k
end
def Sees(w:World)(b o:Nat)(cs:List Value):Prop:=∀(j:Nat) (v:Value),cs[j]? =some v→w.cell? ⟨b,o+j,none⟩=some v
variable{BT:TypeId}{fn:Func}{n:Nat}{t t2:Tmp}{td:TypeDesc}{v2:Value}{w:World}
theorem Aq{b:Nat}{cs:List Value}{T:TypeId}{m:Nat}(h:HRep C hp w)(hb:(⟨b,cs,T,m⟩:Blk)∈hp):Sees w b 0 cs:=fun j v hv=>by
  rw[Lb2];exact(h.cells _ hb).cell (b:=⟨b,cs,T,m⟩) hv
theorem sees_part{b o:Nat}{cs cs':List Value}{T:TypeId}{m:Nat}(h:HRep C hp w)(hb:(⟨b,cs,T,m⟩:Blk)∈hp)(hs:∀(j:Nat) (v:Value),cs'[j]? =some v→cs[o+j]? =some v):Sees w b o cs':=fun j v hv=>
  (h.cells _ hb).cell (b:=⟨b,cs,T,m⟩) (hs j v hv)
theorem sees_ext{b o:Nat}{cs:List Value}(h:HRep C hp w)(hb:b∉C.lent)(hs:Sees C.W0 b o cs):Sees w b o cs:=fun j v hv=>h.keeps.cell hb (hs j v hv)
theorem Al{s:St}{v:Value}(hr:fn.results= #[.tmp t])(hv:look s.sl t=some v):Res C fn s v:=by
  intro a w r;have:=r.rs.slots t v hv;simp[results,hr,this]
theorem res_tmp2{s:St}{v v2:Value}(hr:fn.results= #[.tmp t, .tmp t2])(hv:look s.sl t=some v)(hv2:look s.sl t2=some v2):Res C fn s (.tuple #[v,v2]):=by
  intro a w r;have h1:=r.rs.slots t v hv;have h2:=r.rs.slots t2 v2 hv2;simp[results,hr,h1,h2]
theorem run_cellAll{T:TypeId}{n b:Nat}{cs:List Value}{m:Nat}(hh:HRep C hp w)(hu:C.P.underlying T=some td)(hp':B3 td=false)(hs:Sz C.P T n)(hb:(⟨b,cs,BT,m⟩:Blk)∈hp)(hn:cs.length=n):
    (loadVar T ⟨b,0,none⟩).run C.P w= .ok (agg cs) w:=by
  have:=run_row (P:=C.P) (w:=w) (b:=b) (o:=0) hn fun j v hj=>by
    rw[Lb2];exact(hh.cells _ hb).cell (b:=⟨b,cs,BT,m⟩) (o:=j) hj
  simp[loadVar,run_isAgg_arr hu hp',Cf hs,this]
theorem Ao{T:TypeId}{n b:Nat}{cs:List Value}{m:Nat}{s:St}(hr:fn.results= #[.cell t T])(hv:look s.sl t=some (ptr b 0))(hu:C.P.underlying T=some td)(hp':B3 td=false)(hs:Sz C.P T n)(hb:(⟨b,cs,BT,m⟩:Blk)∈s.hp)(hn:cs.length=n):
    Res C fn s (agg cs):=by
  intro a w r;have h1:=r.rs.slots t _ hv;simp[results,hr,h1,asAddr,run_cellAll r.rh hu hp' hs hb hn]
theorem Bi{T:TypeId}{n b:Nat}{cs:List Value}{m:Nat}{s:St}(hr:fn.results= #[.cell t T, .tmp t2])(hv:look s.sl t=some (ptr b 0))(hv2:look s.sl t2=some v2)(hu:C.P.underlying T=some td)(hp':B3 td=false)(hs:Sz C.P T n)(hb:(⟨b,cs,BT,m⟩:Blk)∈s.hp)(hn:cs.length=n):
    Res C fn s (.tuple #[agg cs,v2]):=by
  intro a w r;have h1:=r.rs.slots t _ hv;have h2:=r.rs.slots t2 _ hv2;simp[results,hr,h1,h2,asAddr,run_cellAll r.rh hu hp' hs hb hn]
theorem run_equalIn_ints{P:Program}(w:World)(d:Nat){t e:TypeId}{kk k:IntKind}(ht:P.underlying t=some (.array n e))(he:P.underlying e=some (.int kk))(hs:Sz P e 1)(xs ys:List Int)(hx:xs.length=n)(hy:ys.length=n):
    (Op.equalIn (d+2) t (agg (xs.map (Value.int k))) (agg (ys.map (Value.int k)))).run P w= .ok (decide (xs=ys)) w:=by
  have key:∀(l:List Nat),(∀i∈l,i<n)→(decide (∀i∈l,xs.getD i 0=ys.getD i 0))=l.all fun i=>xs.getD i 0==ys.getD i 0:=by
    intro l _;rw[Lew];simp
  have hall:decide (xs=ys)=(List.range' 0 n 1).all fun i=>xs.getD i 0==ys.getD i 0:=by
    rw[←key _ (fun i hi=>by simpa using(Lg7.1 hi).2)];rw[Lew,decide_eq_true_eq,decide_eq_true_eq];constructor
    ·rintro rfl i _;rfl
    · intro h
      apply Ldu (hx.trans hy.symm);intro i h1 h2;have:=h i (by rw[Lg7];omega);simpa[List.getD,h1,h2]using this
  rw[hall,Op.equalIn];simp only[Sem.run_bind,run_underlying ht,Result.andThen_ok,Cf hs,Std.Legacy.Range.forIn_eq_forIn_range',Std.Legacy.Range.size,Lfa,Lg2,Led];have hl:∀i∈List.range' 0 n 1,i<n:=fun i hi=>by simpa using(Lg7.1 hi).2
  generalize List.range' 0 n 1=l at hl ⊢
  induction l with
  |nil=>simp
  | cons i l ih=>
    have hi:i<n:=hl i sP;have pt:∀(zs:List Int),zs.length=n→(part e (zs.map (Value.int k)).toArray (i*1)).run P w= .ok (.int k (zs.getD i 0)) w:=fun zs hz=>by
      simp[part,isAgg,run_underlying he,List.getD,La4 (show i<zs.length by omega)]
    have pe:(Op.equalIn (d+1) e (.int k (xs.getD i 0)) (.int k (ys.getD i 0))).run P w= .ok (xs.getD i 0==ys.getD i 0) w:=run_equalIn_int w d e k kk _ _ he;simp only[List.forIn_cons,Sem.run_bind,pt xs hx,pt ys hy,pe,Result.andThen_ok,List.all_cons];cases hb:(xs.getD i 0==ys.getD i 0)
    ·simp
    · simp only[Bool.not_true,Bool.false_eq_true,if_false,Sem.run_pure,Result.andThen_ok,Bool.true_and]
      exact ih fun j hj=>hl j (by simp[hj])
section
variable{xT yT:TypeId}{x y:Operand}{n:Nat}{E:TypeId}{k:IntKind}{kk:IntKind}
variable{P:Program}{r:Bool}{xs ys:List UInt8}
theorem Tr.binAny{op:BinOp}{v a b:Value}(hg:Ah ops sl g=true)(hk:okD c d C.N=true)(hx:Ag sl x=some a)(hy:Ag sl y=some b)
    (he:∀w,(eqGuard op xT x y a b).run C.P w= .ok () w) (hr:∀w,(binOp op xT a b).run C.P w= .ok v w) (k:Tr C ops rest ⟨(d,v)::sl,hp⟩ Q):
    Tr C ops ((c,⟨some d, .binOp op xT x y yT,ty,pos,af,g⟩)::rest) ⟨sl,hp⟩ Q:=
  .pv hg hk ⟨known2 hx hy,fun ρ hf w=>by
    have h1:=hf x (by simp[Op.operands]);rw[hx]at h1;have h2:=hf y (by simp[Op.operands]);rw[hy]at h2;simp only[La3]at h1 h2;simp[execOp,←h1,←h2,he w,hr w]⟩ k
theorem eqb_ints{w:World}{xs ys:List Int}(ht:P.underlying xT=some (.array n E))(he:P.underlying E=some (.int kk))(hs:Sz P E 1)(hx:xs.length=n)(hy:ys.length=n):
    (binOp .eql xT (agg (xs.map (Value.int k))) (agg (ys.map (Value.int k)))).run P w= .ok (.bool (decide (xs=ys))) w∧
    (binOp .neq xT (agg (xs.map (Value.int k))) (agg (ys.map (Value.int k)))).run P w= .ok (.bool (!decide (xs=ys))) w:=by
  rw[run_eql_struct,run_neq_struct,run_equalIn_ints w 9998 ht he hs xs ys hx hy];exact⟨rfl,rfl⟩
theorem bytes_ints(l:List UInt8):Aa l=(l.map fun b=>(b.toNat:Int)).map (Value.int .u8):=by simp[Aa]
theorem bytes_inj{a b:List UInt8}:(a.map fun b=>(b.toNat:Int))=b.map (fun b=>(b.toNat:Int))↔a=b:=by
  refine⟨fun h=>?_,fun h=>by rw[h]⟩;exact List.map_inj_right (fun x y h=>Lcs.1 (by exact_mod_cast h))|>.1 h
theorem Tr.eql_bytes(hg:Ah ops sl g=true)(hk:okD c d C.N=true)(hx:Ag sl x=some (agg (Aa xs)))(hy:Ag sl y=some (agg (Aa ys)))(hm:C.P.eqGuardType C.P.depth xT=false)
    (ht:C.P.underlying xT=some (.array n E)) (he:C.P.underlying E=some (.int kk)) (hs:Sz C.P E 1) (hlx:xs.length=n) (hly:ys.length=n) {r:Bool} (hr:(decide (xs=ys))=r)
    (k:Tr C ops rest ⟨(d, .bool r)::sl,hp⟩ Q):Tr C ops ((c,⟨some d, .binOp .eql xT x y yT,ty,pos,af,g⟩)::rest) ⟨sl,hp⟩ Q:=
  .binAny hg hk hx hy (fun w=>run_eqGuard_agg w .eql xT x y _ _ hm) (fun w=>by
    subst hr;have:=(eqb_ints (w:=w) (k:= .u8) ht he hs (xs:=xs.map fun b=>(b.toNat:Int)) (ys:=ys.map fun b=>(b.toNat:Int)) (by simp[hlx]) (by simp[hly])).1;rw[←bytes_ints,←bytes_ints]at this;rw[this];simp only[bytes_inj]) k
theorem Tr.neq_bytes(hg:Ah ops sl g=true)(hk:okD c d C.N=true)(hx:Ag sl x=some (agg (Aa xs)))(hy:Ag sl y=some (agg (Aa ys)))(hm:C.P.eqGuardType C.P.depth xT=false)
    (ht:C.P.underlying xT=some (.array n E)) (he:C.P.underlying E=some (.int kk)) (hs:Sz C.P E 1) (hlx:xs.length=n) (hly:ys.length=n) {r:Bool} (hr:(!decide (xs=ys))=r)
    (k:Tr C ops rest ⟨(d, .bool r)::sl,hp⟩ Q):Tr C ops ((c,⟨some d, .binOp .neq xT x y yT,ty,pos,af,g⟩)::rest) ⟨sl,hp⟩ Q:=
  .binAny hg hk hx hy (fun w=>run_eqGuard_agg w .neq xT x y _ _ hm) (fun w=>by
    subst hr;have:=(eqb_ints (w:=w) (k:= .u8) ht he hs (xs:=xs.map fun b=>(b.toNat:Int)) (ys:=ys.map fun b=>(b.toNat:Int)) (by simp[hlx]) (by simp[hly])).2;rw[←bytes_ints,←bytes_ints]at this;rw[this];simp only[bytes_inj]) k
theorem run_eq_bool{T:TypeId}{a b:Bool}(ht:P.underlying T=some .bool)(w:World):
    (binOp .eql T (.bool a) (.bool b)).run P w= .ok (.bool (a==b)) w∧(binOp .neq T (.bool a) (.bool b)).run P w= .ok (.bool (!(a==b))) w:=by
  have h:(Op.equal T (.bool a) (.bool b)).run P w= .ok (a==b) w:=run_equalIn_bool' w 9999 T a b ht;simp only[binOp,Sem.run_bind,h,Result.andThen_ok];exact⟨rfl,rfl⟩
theorem Tr.neb{a b:Bool}(hg:Ah ops sl g=true)(hk:okD c d C.N=true)(hx:Ag sl x=some (.bool a))(hy:Ag sl y=some (.bool b))(ht:C.P.underlying xT=some .bool)(hr:(!(a==b))=r)
    (k:Tr C ops rest ⟨(d, .bool r)::sl,hp⟩ Q):Tr C ops ((c,⟨some d, .binOp .neq xT x y yT,ty,pos,af,g⟩)::rest) ⟨sl,hp⟩ Q:=
  .binAny hg hk hx hy (fun w=>by simp[eqGuard]) (fun w=>hr▸(run_eq_bool ht w).2) k
def evp(sl:List (Nat×Value)):List (Nat×Operand)→Option (List (Nat×Value))
  | []=>some []
  | (i,x)::l=>match Ag sl x,evp sl l with
    |some v,some vs=>some ((i,v)::vs)
    |_,_=>none
theorem evp_known{sl:List (Nat×Value)}:∀ {l:List (Nat×Operand)} {vs:List (Nat×Value)},evp sl l=some vs→∀p∈l,(Ag sl p.2).isSome
  | [],_,_,x,hx=>by cases hx
  | (i,y)::l,vs,h,x,hx=>by
    simp only[evp]at h;split at h
    · rename_i v vs' hv hvs
      rcases Lag.1 hx with rfl|hx
      ·simp[hv]
      ·exact evp_known hvs x hx
    ·cases h
theorem evp_map{sl:List (Nat×Value)}{ρ:Operand→Value}:∀ {l:List (Nat×Operand)} {vs:List (Nat×Value)},evp sl l=some vs→(∀p∈l,Ag sl p.2=some (ρ p.2))→l.map (fun p=>(p.1,ρ p.2))=vs
  | [],vs,h,_=>by simp[evp]at h;simp[←h]
  | (i,y)::l,vs,h,hf=>by
    simp only[evp]at h;split at h
    · rename_i v vs' hv hvs
      cases h;have h0:=hf (i,y) La9;rw[hv]at h0;cases h0;rw[Lao,evp_map hvs fun x hx=>hf x (Laa _ hx)]
    ·cases h
theorem Tr.build{T:TypeId}{ps:List (Nat×Operand)}{vs:List (Nat×Value)}{cs:List Value}(hg:Ah ops sl g=true)(hk:okD c d C.N=true)(hv:evp sl ps=some vs)(hr:∀w,(Instr.build T vs.toArray).run C.P w= .ok (agg cs) w)
    (k:Tr C ops rest ⟨(d,agg cs)::sl,hp⟩ Q):Tr C ops ((c,⟨some d, .build T ps.toArray,ty,pos,af,g⟩)::rest) ⟨sl,hp⟩ Q:=
  .pv hg hk ⟨fun x hx=>by
    simp[Op.operands]at hx;obtain⟨i,hm⟩:=hx;exact evp_known hv _ hm,fun ρ hf w=>by
    have h2:=evp_map hv fun p hp=>hf p.2 (by simp[Op.operands];exact⟨p.1,hp⟩);have e:(ps.toArray.map fun(i,x)=>(i,ρ x))=vs.toArray:=by
      rw[←h2];simp
    have hw:=hr w;simp only[execOp,e];simp[hw]⟩ k
end
end
def shr8(x:UInt8)(n:Nat):UInt8:=UInt8.ofNat (x.toNat/2^n)
theorem shr8_toNat(x:UInt8)(n:Nat):(shr8 x n).toNat=x.toNat/2^n:=by
  have h:x.toNat/2^n≤x.toNat:=Ld1 _ _;have:=x.toNat_lt;rw[shr8,Law,Lad oM]
theorem shr8_eq(x:UInt8)(n:Nat):((x.toNat:Int).fdiv (2^n))=((shr8 x n).toNat:Int):=by
  rw[shr8_toNat];have e:((2:Int)^n)=((2^n:Nat):Int):=by simp
  rw[e,Lf0 _ (Ldx _)];simp
theorem rem8_eq(x:UInt8)(n:Nat)(h:0<n):((x.toNat:Int).tmod (n:Int))=((UInt8.ofNat (x.toNat%n)).toNat:Int):=by
  have:=x.toNat_lt;have h2:x.toNat%n≤x.toNat:=Nat.mod_le _ _;rw[Int.tmod_eq_emod_of_nonneg (Ldx _),Law,Lad oM];simp
theorem sub8_eq(x y:UInt8):IntKind.u8.wrap ((x.toNat:Int)-y.toNat)=((x-y).toNat:Int):=by
  have:=x.toNat_lt;have:=y.toNat_lt;rw[IntKind.wrap_u8,UInt8.toNat_sub];omega
section
variable{C:Cx}{ops:Array Oper}{rest:List (Nat×Oper)}{sl:List (Nat×Value)}{hp:List Blk}{Q:St→Prop}{c d:Nat}{ty:TypeId}{pos:String}{af:Array Edge}{g:Option (Nat×Bool)}
variable{xT yT:TypeId}{x y:Operand}{a b:Int}{p q:UInt8}
theorem Tr.shr_u8{ky:IntKind}(hg:Ah ops sl g=true)(hk:okD c d C.N=true)(hx:Ag sl x=some (u8 p))(hy:Ag sl y=some (.int ky b))(n:Nat)(hn:b=n)(hr:n≤8)
    (k:Tr C ops rest ⟨(d,u8 (shr8 p n))::sl,hp⟩ Q):Tr C ops ((c,⟨some d, .binOp .shr xT x y yT,ty,pos,af,g⟩)::rest) ⟨sl,hp⟩ Q:=
  .bin hg hk hx hy (fun w=>by
    subst hn;simp only[binOp,Op.shift,IntKind.bits];rw[if_neg oM,Le7,Lcj hr,shr8_eq];rfl) k
theorem Tr.and_u8(hg:Ah ops sl g=true)(hk:okD c d C.N=true)(hx:Ag sl x=some (u8 p))(hy:Ag sl y=some (u8 q))
    (k:Tr C ops rest ⟨(d,u8 (p&&&q))::sl,hp⟩ Q):Tr C ops ((c,⟨some d, .binOp .and xT x y yT,ty,pos,af,g⟩)::rest) ⟨sl,hp⟩ Q:=
  .bin hg hk hx hy (fun w=>congrArg (fun n=>Result.ok (Value.int .u8 n) w) (bits8 (· &&& ·) (· &&& ·) (fun _ _=>rfl) p q)) k
theorem Tr.rem_u8(hg:Ah ops sl g=true)(hk:okD c d C.N=true)(hx:Ag sl x=some (u8 p))(hy:Ag sl y=some (.int .u8 b))(n:Nat)(hn:b=n)(h0:0<n)
    (k:Tr C ops rest ⟨(d,u8 (UInt8.ofNat (p.toNat%n)))::sl,hp⟩ Q):Tr C ops ((c,⟨some d, .binOp .rem xT x y yT,ty,pos,af,g⟩)::rest) ⟨sl,hp⟩ Q:=
  .bin hg hk hx hy (fun w=>by
    subst hn;simp[binOp,Op.intDiv,show ¬n=0 by omega];exact rem8_eq p n h0) k
theorem Tr.sub_u8(hg:Ah ops sl g=true)(hk:okD c d C.N=true)(hx:Ag sl x=some (u8 p))(hy:Ag sl y=some (u8 q))
    (k:Tr C ops rest ⟨(d,u8 (p-q))::sl,hp⟩ Q):Tr C ops ((c,⟨some d, .binOp .sub xT x y yT,ty,pos,af,g⟩)::rest) ⟨sl,hp⟩ Q:=
  .bin hg hk hx hy (fun w=>by simp only[binOp,Op.intArith,sub8_eq];rfl) k
end
def By(P:Program)(T:TypeId)(n:Nat):Prop:=(P.info? T).map (·.bytes)=some n
theorem Ret.push{w:World}(cs:List Value)(T:TypeId):Ret [] [blk w.heap.size cs T] w { w with heap:=w.heap.push (.cells cs.toArray T) }:=by
  refine⟨⟨rfl,rfl,rfl,by simp,Laf _,fun k hk _=>?_⟩,fun b hb=>?_,by simp,fun b hb=>?_⟩
  · simp only[Lbx]
    rw[if_neg oM]
  · obtain rfl:=La1.1 hb
    exact⟨cs.toArray,(0,0),by simp,by simp,by simp,free0⟩
  · obtain rfl:=La1.1 hb
    exact .inl (Laf _)
section
variable{C:Cx}{ops:Array Oper}{rest:List (Nat×Oper)}{sl:List (Nat×Value)}{hp:List Blk}{Q:St→Prop}{c d:Nat}{ty:TypeId}{pos:String}{af:Array Edge}{g:Option (Nat×Bool)}{op:Op}
theorem Tr.newBg{cs:List Value}{T:TypeId}(val:Nat→Value)(hg:Ah ops sl g=true)(hk:okN c d C.N=true)(hn:Known sl ⟨some d,op,ty,pos,af,g⟩)
    (hr:∀ρ,Fits sl ⟨some d,op,ty,pos,af,g⟩ ρ→∀w,(execOp ρ ⟨some d,op,ty,pos,af,g⟩).run C.P w= .ok (.value (val w.heap.size)) { w with heap:=w.heap.push (.cells cs.toArray T) })
    (k:∀n,Tr C ops rest ⟨(d,val n)::sl,blk n cs T::hp⟩ Q):Tr C ops ((c,⟨some d,op,ty,pos,af,g⟩)::rest) ⟨sl,hp⟩ Q:=by
  simp only[okN,Lan,Lcm]at hk;exact .new val cs T (hk.1.imp nbeq' nbeq') (Ax hg) (B6 (nblt hk.2)) ⟨hn,hr⟩ fun n _ _=>k n
theorem Tr.growB{cs:List Value}{T:TypeId}(val:Nat→Value)(hg:Ah ops sl g=true)(hk:okG c d C.N=true)(hn:Known sl ⟨some d,op,ty,pos,af,g⟩)
    (hr:∀ρ,Fits sl ⟨some d,op,ty,pos,af,g⟩ ρ→∀w,(execOp ρ ⟨some d,op,ty,pos,af,g⟩).run C.P w= .ok (.value (val w.heap.size)) { w with heap:=w.heap.push (.cells cs.toArray T) })
    (k:∀n,Tr C ops rest ⟨(d,val n)::sl,blk n cs T::hp⟩ Q):Tr C ops ((c,⟨some d,op,ty,pos,af,g⟩)::rest) ⟨sl,hp⟩ Q:=by
  simp only[okG,Lan,Lcm]at hk;refine Tr.grow (ρ:=Nat) (fun _=>True) val (fun n=>[blk n cs T]) (hk.1.imp nbeq' nbeq') (Ax hg) (B6 (nblt hk.2)) ⟨hn,fun l hl=>?_,fun a w hf hh=>?_⟩ (fun n _=>k n)
  · obtain⟨n,_,hf⟩:=fresh_is 0 l
    refine⟨n,trivial,?_⟩;simp only[Lcd,Lao,Lb0];exact⟨fun h=>by obtain⟨b,hb,e⟩:=La6.1 h;exact hf b hb e,hl⟩
  · unfold Oper.wp
    rw[hr a.eval hf w];exact⟨w.heap.size,trivial,rfl,Ret.push cs T⟩
theorem row_eq(n:Nat)(z:Value)(hz:z.cells= #[z]):(Array.range n).map (fun j=>z.cells[j%z.cells.size]!)=Array.replicate n z:=by
  apply Array.ext
  ·simp
  · intro i h1 h2
    simp[hz,Lf5]
theorem Tr.mkSlice{T E:TypeId}{x y:Operand}{kx ky:IntKind}{z:Value}{by':Nat}(n:Nat)(hg:Ah ops sl g=true)(hk:okG c d C.N=true)(hx:Ag sl x=some (.int kx (n:Int)))(hy:Ag sl y=some (.int ky (n:Int)))
    (hu:C.P.underlying T=some (.slice E)) (hs:Sz C.P E 1) (hz:Zr C.P E z) (hb:By C.P E by') (hc:z.cells= #[z]) (h0:0<n) (hn:n≤1000000) (hby:by'≤64)
    (k:∀m,Tr C ops rest ⟨(d, .slice (some ⟨m,0,none⟩) n n)::sl,blk m (List.replicate n z) E::hp⟩ Q):Tr C ops ((c,⟨some d, .makeSlice T x y,ty,pos,af,g⟩)::rest) ⟨sl,hp⟩ Q:=by
  refine Tr.growB (fun m=> .slice (some ⟨m,0,none⟩) n n) hg hk (known2 hx hy) (fun ρ hf w=>?_) k;have h1:=hf x (by simp[Op.operands]);rw[hx]at h1;have h2:=hf y (by simp[Op.operands]);rw[hy]at h2;simp only[La3]at h1 h2;have rs:=Cf hs;unfold Sz at hs;unfold Zr at hz;unfold By at hb;cases hi:C.P.info? E with
  |none=>rw[hi]at hs;simp at hs
  | some i=>
    rw[hi]at hs hz hb;simp only[Lbj,La3,Lbr]at hs hz hb;have wn:IntKind.i64.wrap (n:Int)=n:=i64_wrap oM;have hm:by'*n≤64*1000000:=Lca hby hn;have hm2:((by':Int)*n)=((by'*n:Nat):Int):=by simp
    have n1:¬((n:Int)<0):=by omega
    have n2:¬(281474976710656<(i.bytes:Int)*n):=by rw[hb,hm2];omega
    have n5:¬(140737488355328<n*i.bytes):=by rw[hb,Lb5];omega
    have n6:¬(n=0):=by omega
    simp[execOp,Instr.makeSlice,run_underlying hu,asInt,asIntOf,typeInfo,hi,rs,zeroValue,hz,←h1,←h2,wn,n1,n2,n5,n6,newRow,newObj,askRoom,roomBytes,row_eq n z hc];simp[Sem.run]
variable{x lo hi:Operand}{b o n cap j:Nat}{T E:TypeId}{kl:IntKind}{l:Int}
end
variable{B:Blk}
theorem A7{l:List Blk}:(B::l).Perm (B::l):=Lcb _
theorem rem_there{B x:Blk}{l l':List Blk}(h:l.Perm (B::l')):(x::l).Perm (B::x::l'):=(List.Perm.cons x h).trans (List.Perm.swap B x l')
theorem Ret.pushD{w:World}(cs:List Value)(full:Array Value)(T:TypeId)(m:Nat)(hm:full.size=m)(hp:cs<+:full.toList):Ret [] [⟨w.heap.size,cs,T,m⟩] w (w.drew.alloc (.cells full T)):=by
  refine⟨⟨rfl,rfl,rfl,by show w.heap.size≤(w.heap.push _).size;simp,Nat.le_succ _,fun k hk _=>?_⟩,fun b hb=>?_,by simp,fun b hb=>?_⟩
  · show(w.heap.push _)[k]? =w.heap[k]?
    rw[Lbx,if_neg oM]
  · obtain rfl:=La1.1 hb
    exact⟨full,(0,0),by show(w.heap.push _)[w.heap.size]? =_;simp,hm,hp,free0⟩
  · obtain rfl:=La1.1 hb
    exact .inl (Laf _)
theorem zeroCells_one(z:Value)(hz:z.cells= #[z])(n:Nat):Builtin.zeroCells z.cells n=(List.replicate n z).toArray:=by
  unfold Builtin.zeroCells;apply Array.ext
  ·simp[hz]
  · intro i h1 h2
    simp[hz,Lf5]
section
variable{C:Cx}{ops:Array Oper}{rest:List (Nat×Oper)}{sl:List (Nat×Value)}{hp hp':List Blk}{Q:St→Prop}{c d:Nat}{ty:TypeId}{pos:String}{af:Array Edge}{g:Option (Nat×Bool)}
variable{news olds:List Value}{z:Value}
theorem Tr.appendCore{x y:Operand}{b n cap m size cm:Nat}{T tx E:TypeId}{v:Value}{zs:Nat→Array Value}(hg:Ah ops sl g=true)(hc:Nat.beq c 4=true)(hd:Nat.blt d C.N=true)
    (hx:Ag sl x=some (.slice (some ⟨b,0,none⟩) n cap)) (hy:Ag sl y=some v) (hzs:∀k,(zs k).size=k*size)
    (hp1:hp.Perm (⟨b,olds,E,cm⟩::hp')) (hcm:cm=cap*size) (hol:olds.length=n*size) (hnl:news.length=m*size) (hnc:n≤cap)
    (hroom:∀w full fr,HRep C hp w→w.heap[b]? =some (.cells full E fr)→full.size=cap*size→Free fr (cap*size)→n+m≤cap→(Builtin.append_ #[T,tx] ty #[.slice (some ⟨b,0,none⟩) n cap,v]).run C.P w= .ok (.slice (some ⟨b,0,none⟩) (n+m) cap) (setBlk w b (B4 full (n*size) news) E fr))
    (hgrow:∀w,HRep C hp w→cap<n+m→(Builtin.append_ #[T,tx] ty #[.slice (some ⟨b,0,none⟩) n cap,v]).run C.P w= .ok (.slice (some ⟨w.heap.size,0,none⟩) (n+m) (grownCap w (n+m) cap E)) (w.drew.alloc (.cells ((olds++news).toArray++zs (grownCap w (n+m) cap E-(n+m))) E)))
    (k:∀q cap',n+m≤cap'→Tr C ops rest ⟨(d, .slice (some ⟨q,0,none⟩) (n+m) cap')::sl,⟨q,olds++news,E,cap'*size⟩::hp'⟩ Q):
    Tr C ops ((c,⟨some d, .call { callee:= .builtin .append,args:= #[x,y],argTypes:= #[T,tx] },ty,pos,af,g⟩)::rest) ⟨sl,hp⟩ Q:=by
  subst hcm;refine Tr.act (ρ:=Nat×Nat) (fun r=>n+m≤r.2) (fun r=> .slice (some ⟨r.1,0,none⟩) (n+m) r.2) (fun r=>⟨r.1,olds++news,E,r.2*size⟩::hp') (nbeq' hc) (Ax hg) (B6 (nblt hd))
    ⟨by simpa[Known,Op.operands,Call.operands]using known2 hx hy,fun a w hf hh=>?_⟩ (fun r hr=>k r.1 r.2 hr)
  have h1:=hf x (by simp[Op.operands,Call.operands]);rw[hx]at h1;have h2:=hf y (by simp[Op.operands,Call.operands]);rw[hy]at h2;simp only[La3]at h1 h2;have hh':=hh.perm hp1;obtain⟨full,fr,hbk⟩:=hh'.cells _ La9;have hlt:=(hh'.cells _ La9).lt;have hnm:(n+m)*size=n*size+m*size:=Lc3 _ _ _;unfold Oper.wp;rcases Lat cap (n+m)with hr|hr
  · have hex:(execOp a.eval ⟨some d, .call { callee:= .builtin .append,args:= #[x,y],argTypes:= #[T,tx] },ty,pos,af,g⟩).run C.P w= .ok (.value (.slice (some ⟨w.heap.size,0,none⟩) (n+m) (grownCap w (n+m) cap E))) (w.drew.alloc (.cells ((olds++news).toArray++zs (grownCap w (n+m) cap E-(n+m))) E)):=by
      simp[execOp,resolve,invoke,builtin,←h1,←h2,hgrow w hh hr]
    rw[hex];have hge:=grownCap_ge w (n+m) cap E;refine⟨(w.heap.size,grownCap w (n+m) cap E),hge,rfl,?_⟩;have hnd:(hp'.map (·.n)).Nodup:=by
      have:=hh'.nodup;simp only[Lao,Lb0]at this;exact this.2
    refine HRep.grown (out:=[_]) (hh'.sub (fun x hx=>Laa _ hx) hnd) (Ret.pushD _ _ _ _ ?_ ?_)
    · have e:grownCap w (n+m) cap E*size=(n+m)*size+(grownCap w (n+m) cap E-(n+m))*size:=by rw[←Lc3];congr 1;omega
      simp only[Array.size_append,Lex,La5,hzs,hol,hnl,e,hnm]
    ·simp
  · have hex:(execOp a.eval ⟨some d, .call { callee:= .builtin .append,args:= #[x,y],argTypes:= #[T,tx] },ty,pos,af,g⟩).run C.P w= .ok (.value (.slice (some ⟨b,0,none⟩) (n+m) cap)) (setBlk w b (B4 full (n*size) news) E fr):=by
      simp[execOp,resolve,invoke,builtin,←h1,←h2,hroom w full fr hh hbk.heap hbk.size hbk.free hr]
    rw[hex];have hms:(n+m)*size≤cap*size:=Ldk _ hr;have hsz:=hbk.size;simp only at hsz;refine⟨(b,cap),hr,rfl,hh'.upd (.head (cs:=olds)) hlt (by rw[putAll_size];exact hsz) ?_ hbk.free⟩;refine prefix_iff.2 fun j u hj=>?_;rw[Lde,putAll_get _ _ _ _ oM];rcases Lat j (n*size)with hjn|hjn
    · rw[if_neg oM]
      rw[Lay oM]at hj;simpa using prefix_iff.1 hbk.pre j u hj
    · rw[Lau oM,hol]at hj
      have:j-n*size<news.length:=by
        rcases Lat (j-n*size) news.length with h|h
        ·exact h
        ·rw[Lam h]at hj;cases hj
      rw[if_pos oM];exact hj
theorem Tr.appendOwn{x y:Operand}{b n cap m size cm by':Nat}{T tx E:TypeId}{v z:Value}(hg:Ah ops sl g=true)(hc:Nat.beq c 4=true)(hd:Nat.blt d C.N=true)
    (hx:Ag sl x=some (.slice (some ⟨b,0,none⟩) n cap)) (hy:Ag sl y=some v) (hu:C.P.underlying T=some (.slice E)) (hs:Sz C.P E size) (hz:Zr C.P E z) (hb:By C.P E by') (hzc:z.cells.size=size)
    (hsrc:∀w,HRep C hp w→Src C.P size tx v m news w) (hcell:∀u∈news,isCell u=true)
    (hp1:hp.Perm (⟨b,olds,E,cm⟩::hp')) (hcm:cm=cap*size) (hol:olds.length=n*size) (hnc:n≤cap) (hbig:n+m≤1000000) (hfit:(n+m)*by'≤140737488355328)
    (hnl:news.length=m*size)
    (k:∀q cap',n+m≤cap'→Tr C ops rest ⟨(d, .slice (some ⟨q,0,none⟩) (n+m) cap')::sl,⟨q,olds++news,E,cap'*size⟩::hp'⟩ Q):
    Tr C ops ((c,⟨some d, .call { callee:= .builtin .append,args:= #[x,y],argTypes:= #[T,tx] },ty,pos,af,g⟩)::rest) ⟨sl,hp⟩ Q:=by
  unfold Sz at hs;unfold Zr at hz;unfold By at hb;cases hi:C.P.info? E with
  |none=>rw[hi]at hs;simp at hs
  | some i=>
    rw[hi]at hs hz hb;simp only[Lbj,La3,Lbr]at hs hz hb;subst hs;refine Tr.appendCore (zs:=fun k=>Builtin.zeroCells z.cells k) hg hc hd hx hy (fun k=>by simp[Builtin.zeroCells,hzc]) hp1 hcm hol hnl hnc (fun w full fr hh hbk hsz hfr hr=>?_) (fun w hh hr=>?_) k
    · have hS:=hsrc w hh
      have hms:(n+m)*i.size≤cap*i.size:=Ldk _ hr;have hnm:(n+m)*i.size=n*i.size+m*i.size:=Lc3 _ _ _;have hst:=run_storeCells (P:=C.P) (b:=b) (o:=n*i.size) news 0 w full hbk oM (by rw[hsz];exact hfr) hcell;simp only[Lby]at hst;rcases hS.kind with ⟨e',hk⟩|hk<;>simp[Builtin.append_,run_underlying hu,run_underlying hk,Go.sizeOf,typeInfo,hi,hS.len,hr,hS.cells,Bo,hst]
    · have hS:=hsrc w hh
      have hold:(Builtin.firstCells i.size n (.slice (some ⟨b,0,none⟩) n cap)).run C.P w.drew= .ok olds.toArray w.drew:=by
        refine run_firstCells_some w.drew i.size n ⟨b,0,none⟩ n cap olds hol (fun j u hj=>?_);rw[Bo];have:=((hh.perm hp1).cells _ La9).cell (o:=0+j) (v:=u) (by simpa using hj);simpa using this
      exact run_append_grow_src (P:=C.P) w T tx ty E i z hu hi hz (some ⟨b,0,none⟩) n cap olds hold v m news hS hr oM (growslice_fits hr (by rw[hb];exact hfit))
theorem one_of_cell{u:Value}(h:isCell u=true):u.oneCell'=true:=by cases u<;>simp[isCell]at h<;>rfl
theorem Tr.appendMade{x y:Operand}{b n cap m cm by':Nat}{T tx E:TypeId}{kt kv:IntKind}{mi:Int}(hg:Ah ops sl g=true)(hc:Nat.beq c 4=true)(hd:Nat.blt d C.N=true)
    (hx:Ag sl x=some (.slice (some ⟨b,0,none⟩) n cap)) (hy:Ag sl y=some (.int kv mi)) (hmi:mi=m) (hu:C.P.underlying T=some (.slice E)) (hut:C.P.underlying tx=some (.int kt)) (hs:Sz C.P E 1) (hz:Zr C.P E z) (hb:By C.P E by') (hzc:z.cells= #[z]) (hcell:isCell z=true)
    (hp1:hp.Perm (⟨b,olds,E,cm⟩::hp')) (hcm:cm=cap) (hol:olds.length=n) (hnc:n≤cap) (hbig:n+m≤1000000) (hby:by'≤64)
    (k:∀q cap',n+m≤cap'→Tr C ops rest ⟨(d, .slice (some ⟨q,0,none⟩) (n+m) cap')::sl,⟨q,olds++List.replicate m z,E,cap'⟩::hp'⟩ Q):
    Tr C ops ((c,⟨some d, .call { callee:= .builtin .append,args:= #[x,y],argTypes:= #[T,tx] },ty,pos,af,g⟩)::rest) ⟨sl,hp⟩ Q:=by
  subst hmi;unfold Sz at hs;unfold Zr at hz;unfold By at hb;cases hi:C.P.info? E with
  |none=>rw[hi]at hs;simp at hs
  | some i=>
    rw[hi]at hs hz hb;simp only[Lbj,La3,Lbr]at hs hz hb;have wm:IntKind.i64.wrap (m:Int)=m:=i64_wrap oM;have hm:by'*m≤64*1000000:=Lca hby oM;have hm2:(m:Int)*by'=((by'*m:Nat):Int):=by rw[Int.mul_comm];simp
    have n1:¬((m:Int)<0):=by omega
    have n2:¬(281474976710656<(m:Int)*i.bytes):=by rw[hb,hm2];omega
    have rz:=zeroCells_one z hzc;refine Tr.appendCore (size:=1) (news:=List.replicate m z) (m:=m) (zs:=fun k=>Builtin.zeroCells z.cells k) hg hc hd hx hy (fun k=>by simp[Builtin.zeroCells,hzc]) hp1 oM oM sP hnc (fun w full fr hh hbk hsz hfr hr=>?_) (fun w hh hr=>?_) (fun q cap' h=>by simpa using k q cap' h)
    · have hst:=run_storeCells (P:=C.P) (b:=b) (o:=n) (List.replicate m z) 0 w full hbk (by simp;omega) (by rw[hsz];exact hfr) (fun u hu=>by rw[List.eq_of_mem_replicate hu];exact hcell)
      simp only[Lby]at hst;by_cases h0:m=0
      · subst h0
        simp[storeCells]at hst;have w0:IntKind.i64.wrap 0=0:=by decide
        simp[Builtin.append_,run_underlying hu,run_underlying hut,Go.sizeOf,typeInfo,hi,hs,asInt,asIntOf,w0,n1,n2,hnc,Bo,storeCells,B4];exact hst
      ·simp[Builtin.append_,run_underlying hu,run_underlying hut,Go.sizeOf,typeInfo,hi,hs,asInt,asIntOf,wm,n1,n2,hr,Bo,zeroValue,hz,h0,rz,hst]
    · have hold:(Builtin.firstCells 1 n (.slice (some ⟨b,0,none⟩) n cap)).run C.P w.drew= .ok olds.toArray w.drew:=by
        refine run_firstCells_some w.drew 1 n ⟨b,0,none⟩ n cap olds oM (fun j u hj=>?_);rw[Bo];have:=((hh.perm hp1).cells _ La9).cell (o:=0+j) (v:=u) (by simpa using hj);simpa using this
      have h0:¬m=0:=by omega
      have hn:¬(n+m≤cap):=by omega
      have hfit:=growslice_fits (bytes:=i.bytes) hr (by
        have:(n+m)*i.bytes≤1000000*64:=Lca hbig oM;omega)
      have h63':¬(9223372036854775807<((n:Int)+(m:Int))):=by omega
      have h48':¬(281474976710656<Builtin.nextslicecap (n+m) cap*i.bytes):=by omega
      simp[Builtin.append_,run_underlying hu,run_underlying hut,Go.sizeOf,typeInfo,hi,hs,asInt,asIntOf,wm,n1,n2,hn,Bo,zeroValue,hz,h0,rz,h63',h48',Question.forced,hold,newRow,grownCap];congr 2;apply Array.ext';simp[La8]
end
variable{p:Option Addr}{w:World}
theorem two{c:Bool}{K:Bool→Prop}{G:Prop}(rule:∀r,c=r→K r→G)(t:c=true→K true)(f:c=false→K false):G:=by
  cases h:c
  ·exact rule false h (f h)
  ·exact rule true h (t h)
theorem nd_t{p:Prop}[Decidable p](h:(!decide p)=true):¬p:=by simpa using h
theorem nd_f{p:Prop}[Decidable p](h:(!decide p)=false):p:=by simpa using h
structure Sl where
  p:Option Addr
  n:Nat
  c:Nat
def Sl.v(s:Sl):Value:= .slice s.p s.n s.c
def Sl.nil:Sl:=⟨none,0,0⟩
def SeesP(w:World)(p:Option Addr)(cs:List Value):Prop:=∀(j:Nat) (v:Value),cs[j]? =some v→∃b o,p=some ⟨b,o,none⟩∧w.cell? ⟨b,o+j,none⟩=some v
theorem SeesP.of{b o:Nat}{cs:List Value}(h:Sees w b o cs):SeesP w (some ⟨b,o,none⟩) cs:=fun j v hj=>⟨b,o,rfl,h j v hj⟩
theorem SeesP.nil:SeesP w p []:=fun j v hj=>by simp at hj
theorem SeesP.at{w:World}{p:Option Addr}{cs:List Value}(h:SeesP w p cs)(hl:0<cs.length):∃b o,p=some ⟨b,o,none⟩∧Sees w b o cs:=by
  obtain⟨b,o,rfl,_⟩:=h 0 _ (La4 hl);refine⟨b,o,rfl,fun j v hj=>?_⟩;obtain⟨b',o',e,hc⟩:=h j v hj;simp only[La3,Addr.mk.injEq]at e;obtain⟨rfl,rfl,_⟩:=e;exact hc
theorem A6{C:Cx}{hp:List Blk}{cs:List Value}(h:HRep C hp w)(hl:C.lent=[])(hs:SeesP C.W0 p cs):SeesP w p cs:=fun j v hj=>by
  obtain⟨b,o,rfl,hc⟩:=hs j v hj;exact⟨b,o,rfl,h.keeps.cell (by rw[hl];simp) hc⟩
section
variable{C:Cx}{ops:Array Oper}{rest:List (Nat×Oper)}{sl:List (Nat×Value)}{hp:List Blk}{Q:St→Prop}{c d:Nat}{ty:TypeId}{pos:String}{af:Array Edge}{g:Option (Nat×Bool)}
theorem Tr.callB{f:Operand}{fid:FuncId}{ars:List Operand}{ats:Array TypeId}{vs:List Value}{Pre:World→Prop}{b:Bool}(hg:Ah ops sl g=true)(hk:okG c d C.N=true)(hfn:Ag sl f=some (.func (.func fid) #[] #[]))(hargs:evs sl ars=some vs)(hb:Aw C.P fid)
    (hc:Meets C.P fid vs [] Pre fun v out=>v= .bool b∧out=[]) (hpre:∀w,HRep C hp w→Pre w)
    (kt:b=true→Tr C ops rest ⟨(d, .bool true)::sl,hp⟩ Q) (kf:b=false→Tr C ops rest ⟨(d, .bool false)::sl,hp⟩ Q):Tr C ops ((c,⟨some d, .call ⟨.value f,ars.toArray,ats⟩,ty,pos,af,g⟩)::rest) ⟨sl,hp⟩ Q:=by
  cases b
  ·exact Tr.cV hg hk hfn hargs hb hc hpre (kf rfl)
  ·exact Tr.cV hg hk hfn hargs hb hc hpre (kt rfl)
theorem Tr.idxSlP{xT E:TypeId}{x y:Operand}{ki:IntKind}{i:Int}{p:Option Addr}{b o n cap:Nat}(sz:Nat)(hg:Ah ops sl g=true)(hk:okD c d C.N=true)(hx:Ag sl x=some (.slice p n cap))(hp':p=some ⟨b,o,none⟩)(hy:Ag sl y=some (.int ki i))(hu:C.P.underlying xT=some (.slice E))(hs:Sz C.P E sz)(j:Nat)(hj:i=j)(hlt:j<n)
    (k:Tr C ops rest ⟨(d,ptr b (o+j*sz))::sl,hp⟩ Q):Tr C ops ((c,⟨some d, .indexAddr xT x y,ty,pos,af,g⟩)::rest) ⟨sl,hp⟩ Q:=by
  subst hp';exact .idxSl sz hg hk hx hy hu hs j hj hlt k
end
abbrev B1:=Go.Lib.compareBytes
variable{P:Program}{d n:Nat}{p:Option Addr}{td:TypeDesc}{w:World}{xs ys:Array Value}
theorem cmpB_self:∀a,B1 a a=0
  | []=>rfl
  |x::a=>by simp[B1,Go.Lib.compareBytes];exact cmpB_self a
theorem cmpB_neg:∀a b,B1 b a= -B1 a b
  | [],[]=>by simp[B1,Go.Lib.compareBytes]
  | [],_::_=>by simp[B1,Go.Lib.compareBytes]
  |_::_,[]=>by simp[B1,Go.Lib.compareBytes]
  | x ::a,y::b=>by
    have:=cmpB_neg a b;simp only[B1,Go.Lib.compareBytes,Lem]at this ⊢;by_cases h1:x.toNat<y.toNat
    ·rw[if_pos h1,if_neg oM,if_pos h1];rfl
    · by_cases h2:y.toNat<x.toNat
      ·rw[if_pos h2,if_neg h1,if_pos h2]
      ·rw[if_neg h2,if_neg h1,if_neg h1,if_neg h2];exact this
theorem cmpB_zero:∀a b,B1 a b=0↔a=b
  | [],[]=>by simp[B1,Go.Lib.compareBytes]
  | [],_::_=>by simp[B1,Go.Lib.compareBytes]
  |_::_,[]=>by simp[B1,Go.Lib.compareBytes]
  | x ::a,y::b=>by
    have:=cmpB_zero a b;simp only[B1,Go.Lib.compareBytes,Lem,Lev]at this ⊢;by_cases h1:x.toNat<y.toNat
    · rw[if_pos h1]
      refine⟨fun h=>by simp at h,fun h=>?_⟩;rw[h.1]at h1;omega
    · by_cases h2:y.toNat<x.toNat
      · rw[if_neg h1,if_pos h2]
        refine⟨fun h=>by simp at h,fun h=>?_⟩;rw[h.1]at h2;omega
      · rw[if_neg h1,if_neg h2,this]
        exact⟨fun h=>⟨Lcs.1 oM,h⟩,fun h=>h.2⟩
theorem cmpB_trans:∀a b c,B1 a b≤0→B1 b c≤0→B1 a c≤0∧(B1 a b<0∨B1 b c<0→B1 a c<0)
  | [],[],[],_,_=>by simp[B1,Go.Lib.compareBytes]
  | [],[],_::_,_,_=>by simp[B1,Go.Lib.compareBytes]
  | [],_::_,[],_,h=>by simp[B1,Go.Lib.compareBytes]at h
  | [],_::_,_::_,_,_=>by simp[B1,Go.Lib.compareBytes]
  |_::_,[],_,h,_=>by simp[B1,Go.Lib.compareBytes]at h
  |_::_,_::_,[],_,h=>by simp[B1,Go.Lib.compareBytes]at h
  | x :: a, y::b,z::c,h1,h2=>by
    have ih:=cmpB_trans a b c;simp only[B1,Go.Lib.compareBytes,Lem]at ih h1 h2 ⊢;by_cases a1:x.toNat<y.toNat
    · by_cases b1:y.toNat<z.toNat
      ·rw[if_pos (show x.toNat<z.toNat by omega)];simp
      · by_cases b2:z.toNat<y.toNat
        ·rw[if_neg b1,if_pos b2]at h2;omega
        ·rw[if_pos (show x.toNat<z.toNat by omega)];simp
    · by_cases a2:y.toNat<x.toNat
      ·rw[if_neg a1,if_pos a2]at h1;omega
      · rw [if_neg a1,if_neg a2]at h1 ⊢
        by_cases b1:y.toNat<z.toNat
        ·rw[if_pos (show x.toNat<z.toNat by omega)];simp
        · by_cases b2:z.toNat<y.toNat
          ·rw[if_neg b1,if_pos b2]at h2;omega
          · rw[if_neg b1,if_neg b2]at h2 ⊢
            rw[if_neg (show ¬x.toNat<z.toNat by omega),if_neg (show ¬z.toNat<x.toNat by omega)];exact ih h1 h2
theorem run_bytesOf{n cap:Nat}{l:List UInt8}(hl:l.length=n)(hs:SeesP w p (Aa l)):(Extern.Bytes.bytesOf (.slice p n cap)).run P w= .ok ⟨l.toArray⟩ w:=by
  subst hl;cases p with
  | none=>
    have:l=[]:=by
      cases l with
      |nil=>rfl
      |cons a l=>obtain⟨b,o,e,_⟩:=hs 0 (u8 a) (by simp[Aa]);cases e
    subst this;rfl
  | some a=>
    have:=Go.Lib.run_loadBytesX (P:=P) w (l.map fun b=>(b.toNat:Int)) a .empty (fun j x hj=>by
      obtain⟨b,o,e,hc⟩:=hs j (.int .u8 x) (by
        simp only[Aa,Lai]at hj ⊢;cases h:l[j]? with
        |none=>rw[h]at hj;simp at hj
        |some y=>rw[h]at hj;simp at hj;simp[u8,hj])
      simp only[La3]at e;subst e;rw[Bo];exact hc)
    simp only[La0]at this;simp only[Extern.Bytes.bytesOf,this];congr 1;apply ByteArray.ext;simp[Go.Lib.bytesOf];apply Ldu<;>simp
theorem run_compareB{p q:Option Addr}{n m c1 c2:Nat}{a b:List UInt8}(ha:a.length=n)(hb:b.length=m)(h1:SeesP w p (Aa a))(h2:SeesP w q (Aa b)):
    (Extern.BytealgCompare.compare #[.slice p n c1, .slice q m c2]).run P w= .ok (i64 (B1 a b)) w:=by
  change Sem.run P (do pure (goInt (Extern.BytealgCompare.cmp (←Extern.Bytes.bytesOf (.slice p n c1)) (←Extern.Bytes.bytesOf (.slice q m c2))))) w=_;simp only[Sem.run_bind,run_bytesOf (P:=P) (cap:=c1) ha h1,run_bytesOf (P:=P) (cap:=c2) hb h2,Result.andThen,Sem.run_pure,Go.Lib.cmp_eq];rfl
theorem run_part1{T:TypeId}{xs:List Value}{o:Nat}{v:Value}(hu:P.underlying T=some td)(hp:B3 td=true)(hx:xs[o]? =some v):(part T xs.toArray o).run P w= .ok v w:=by
  simp[part,run_isAgg_plain hu hp,hx]
theorem run_partN{T:TypeId}{xs row:List Value}{o n:Nat}(hu:P.underlying T=some td)(hp:B3 td=false)(hs:Sz P T n)(hr:(xs.drop o).take n=row):(part T xs.toArray o).run P w= .ok (agg row) w:=by
  subst hr;simp[part,run_isAgg_arr hu hp,Cf hs]
theorem eqFields_step{f:Field}{fs:List Field}{u v:Value}{r s:Bool}(hn:f.name≠ "_")(hu:(part f.type xs f.offset).run P w= .ok u w)(hv:(part f.type ys f.offset).run P w= .ok v w)
    (he:(Op.equalIn d f.type u v).run P w= .ok r w) (hs:(Op.eqFields d xs ys fs).run P w= .ok s w):(Op.eqFields d xs ys (f::fs)).run P w= .ok (r&&s) w:=by
  unfold Op.eqFields;rw[if_pos hn];simp only[Sem.run_bind,hu,hv,he,Result.andThen_ok];cases r
  ·simp
  ·simpa using hs
theorem eqFields_nil:(Op.eqFields d xs ys []).run P w= .ok true w:=by simp[Op.eqFields]
theorem eq_bytesA{T E:TypeId}{a b:List UInt8}(ht:P.underlying T=some (.array n E))(he:P.underlying E=some (.int .u8))(hs:Sz P E 1)(ha:a.length=n)(hb:b.length=n):(Op.equalIn (d+2) T (agg (Aa a)) (agg (Aa b))).run P w= .ok (decide (a=b)) w:=by
  have:=run_equalIn_ints (P:=P) (k:= .u8) w d ht he hs (a.map fun b=>(b.toNat:Int)) (b.map fun b=>(b.toNat:Int)) (by simp[ha]) (by simp[hb]);rw[←bytes_ints,←bytes_ints]at this;rw[this];simp only[bytes_inj]
section
variable{C:Cx}{ops:Array Oper}{rest:List (Nat×Oper)}{sl:List (Nat×Value)}{hp:List Blk}{Q:St→Prop}{c d:Nat}{ty:TypeId}{pos:String}{af:Array Edge}{g:Option (Nat×Bool)}{xT yT:TypeId}{x y:Operand}{xs ys:List Value}{q:Bool}
theorem Tr.eql_rec(hg:Ah ops sl g=true)(hk:okD c d C.N=true)(hx:Ag sl x=some (agg xs))(hy:Ag sl y=some (agg ys))(hm:C.P.eqGuardType C.P.depth xT=false)
    (he:∀w,(Op.equalIn 10000 xT (agg xs) (agg ys)).run C.P w= .ok q w) {r:Bool} (hr:q=r)
    (k:Tr C ops rest ⟨(d, .bool r)::sl,hp⟩ Q):Tr C ops ((c,⟨some d, .binOp .eql xT x y yT,ty,pos,af,g⟩)::rest) ⟨sl,hp⟩ Q:=
  .binAny hg hk hx hy (fun w=>run_eqGuard_agg w .eql xT x y _ _ hm) (fun w=>by subst hr;rw[run_eql_struct,he];rfl) k
end
end Hw
namespace Hw
open Go Go.RowKit Go.ChangeShapes Go.WideShapes
section
variable{H:Type}{enc:TypeId×Value→H}{P:Program}{k e:TypeId}{n:Nat}{W:World}{base:Nat}{sp:Nat→Bool}{held:Bool}
variable{fuel:Nat}{t:TypeId}{y:DataW H×List MemPlace}
theorem mapM_all{α β:Type}{f:α→Option β}:∀(L:List α) (ys:List β),L.mapM f=some ys→∀x∈L,∃y,f x=some y
  | [],_,_,x,hx=>by simp at hx
  | a::L,ys,h,x,hx=>by
    rw[List.mapM_cons]at h;simp only[bind,Option.bind_eq_some_iff,pure,La3]at h;obtain⟨y,hy,ys',hys,_⟩:=h;rcases Lag.1 hx with rfl|hx
    ·exact⟨y,hy⟩
    ·exact mapM_all L ys' hys x hx
theorem bytes_of:∀(cs:List Value),(∀v∈cs,∃a,v= .int .u8 a∧(Lit.int .u8 a).wf=true)→∃l:List UInt8,cs=Aa l
  | [],_=>⟨[],rfl⟩
  | v ::cs,h=>by
    obtain⟨a,rfl,wa⟩:=h v sP;obtain⟨l,rfl⟩:=bytes_of cs fun v hv=>h v (by simp[hv]);refine⟨byteOf a::l,?_⟩;have e:IntKind.u8.wrap a=a:=by
      have:=wa;simp[Lit.wf]at this;have m0:IntKind.u8.min=0:=by decide
      have m1:IntKind.u8.max=255:=by decide
      rw[IntKind.wrap_u8];omega
    rw[wrap_u8]at e;simp[Aa,u8,e]
theorem list_of_cells(w:World)(b o:Nat):∀n:Nat,(∀i,i<n→∃a,w.cell? ⟨b,o+i,none⟩=some (.int .u8 a)∧(Lit.int .u8 a).wf=true)→∃l:List UInt8,l.length=n∧Sees w b o (Aa l)
  |0,_=>⟨[],rfl,fun j v hj=>by simp[Aa]at hj⟩
  | n + 1,h=>by
    obtain⟨l,hl,hs⟩:=list_of_cells w b o n fun i hi=>h i oM;obtain⟨a,ha,wa⟩:=h n oM;refine⟨l++[byteOf a],by simp[hl],fun j v hj=>?_⟩;have e:IntKind.u8.wrap a=a:=by
      simp[Lit.wf]at wa;have m0:IntKind.u8.min=0:=by decide
      have m1:IntKind.u8.max=255:=by decide
      rw[IntKind.wrap_u8];omega
    rw[wrap_u8]at e;simp only[Aa,Lae,Lao,Let]at hj;rcases Lat j n with h1|h1
    · rw[Lay (by simp[hl];exact h1)]at hj
      exact hs j v hj
    · rw[Lau (by simp[hl];exact h1)]at hj
      simp only[La0,hl]at hj;by_cases hjn:j=n
      · subst hjn
        rw[Leq]at hj;simp only[Leg,La3]at hj;rw[ha,←hj];simp[u8,e]
      ·rw[Lam (by simp;omega)]at hj;cases hj
theorem u64_back{a:Int}(h:(Lit.int .u64 a).wf=true):∃x:UInt64,a=(x.toNat:Int):=by
  simp[Lit.wf]at h;have m0:IntKind.u64.min=0:=by decide
  have m1:IntKind.u64.max=18446744073709551615:=by decide
  rw[m0,m1]at h;refine⟨UInt64.ofNat a.toNat,?_⟩;rw[Lbw];omega
theorem cat{cs seg rest:List Value}{o n:Nat}(o':Nat)(h:(cs.drop o).take n=seg)(ho:o+n=o')(hr:cs.drop o'=rest):cs.drop o=seg++rest:=by
  subst ho;rw[←h,←hr,←List.drop_drop,Lcx]
theorem cat_last{cs seg:List Value}{o n:Nat}(h:(cs.drop o).take n=seg)(hl:cs.length=o+n):cs.drop o=seg:=by
  rw[←h,La7 (by rw[Lc0];omega)]
theorem open_bytesT(hu:P.underlying k=some (.array n e))(he:P.underlying e=some (.int .u8))(hc:P.cellsOf e=1)(hk:P.cellsOf k=n){cs:List Value}
    (h:DataW.trod enc P W base sp held fuel k cs=some y):∃l:List UInt8,cs=Aa l∧l.length=n:=by
  cases fuel with
  |zero=>simp[DataW.trod]at h
  | succ m=>
    rw[DataW.trod_step]at h;unfold DataW.trodStep at h;simp only[hu]at h;by_cases hl:cs.length=P.cellsOf k
    · rw[if_pos hl]at h
      simp only[Option.map_eq_some_iff]at h;obtain⟨ys,hy,e1⟩:=h;have hall:=mapM_all _ _ hy;obtain⟨l,rfl⟩:=bytes_of cs fun v hv=>by
        obtain⟨i,hi,rfl⟩:=List.mem_iff_getElem.1 hv;obtain⟨y,hy⟩:=hall i (by rw[hk]at hl;simp;omega);rw[hc]at hy;obtain⟨a,ea,_,wa⟩:=DataW.trod_int he hy;refine⟨a,?_,wa⟩;rw[Lb3,Lbl hi]at ea;simp only[List.take_succ_cons,Ld7,Lev,and_true]at ea;exact ea
      exact⟨l,rfl,by rw[hk]at hl;simpa[Aa]using hl⟩
    ·rw[if_neg hl]at h;cases h
structure BytesAt(W:World)(s:Sl)(l:List UInt8):Prop where
  len:l.length=s.n
  cap:s.n≤s.c
  see:SeesP W s.p (Aa l)
  max:s.n≤maxLen
  nil:s.p=none→s.c=0
structure RowsAt(W:World)(s:Sl)(m:Nat)(ls:List (List UInt8)):Prop where
  len:ls.length=s.n
  row:∀l∈ls,l.length=m
  cap:s.n≤s.c
  see:SeesP W s.p (ls.map Aa).flatten
  max:s.n≤maxLen
  nil:s.p=none→s.c=0
theorem open_sliceT(hu:P.underlying t=some (.slice e)){cs:List Value}(h:DataW.trod enc P W base sp held fuel t cs=some y):∃s:Sl,cs=[s.v]∧s.n≤s.c∧s.c≤maxLen∧(s.p=none→s.c=0)∧
    ∀i,i<s.n→∃a,s.p=some a∧∃cs' n y',W.cells? base (a.add (i*P.cellsOf e)) (P.cellsOf e)=some cs'∧DataW.trod enc P W base sp held n e cs'=some y':=by
  rcases Go.Deep.open_slice hu h with ⟨rfl,_⟩|⟨a,len,cap,m,n,D,Pl,rfl,_,hl,hm,hmm,_,hx⟩
  ·exact⟨⟨none,0,0⟩,rfl,Laf _,by simp[maxLen],fun _=>rfl,fun i hi=>by simp at hi⟩
  · refine⟨⟨some a,len,cap⟩,rfl,hl,hm,(fun e=>by cases e),fun i hi=>?_⟩
    obtain⟨cs',h1,h2⟩:=hx i (by subst hmm;simp only at hi;split<;>omega);exact⟨a,rfl,cs',n,_,h1,h2⟩
theorem cells_at{a:Addr}{cs:List Value}(h:W.cells? base a n=some cs):cs.length=n∧∀(j:Nat) (v:Value),cs[j]? =some v→W.cell? (a.add j)=some v:=by
  obtain⟨h1,h2,h3⟩:=World.cells?_some h;refine⟨h2,fun j v hj=>?_⟩;have hjn:j<n:=by rw[←h2];exact(Lab.1 hj).1
  have:=h3 j hjn;rw[this];exact hj
theorem open_bytesS(hu:P.underlying t=some (.slice e))(he:P.underlying e=some (.int .u8))(hc:P.cellsOf e=1){cs:List Value}(h:DataW.trod enc P W base sp held fuel t cs=some y):
    ∃s l,cs=[s.v]∧BytesAt W s l:=by
  obtain⟨s,rfl,h1,h2,h3,hx⟩:=open_sliceT hu h;by_cases h0:s.n=0
  ·exact⟨s,[],rfl,by simp[h0],h1,SeesP.nil,Lbb h1 h2,h3⟩
  · obtain⟨⟨b,o,sp'⟩,hp,_⟩:=hx 0 oM
    have hx':∀i,i<s.n→∃v,W.cell? ((⟨b,o,sp'⟩:Addr).add i)=some v∧∃a,v= .int .u8 a∧(Lit.int .u8 a).wf=true:=fun i hi=>by
      obtain⟨a',hp',cs',n,y',hcs,ht⟩:=hx i hi;rw[hp]at hp';obtain rfl:a'=⟨b,o,sp'⟩:=by injection hp'.symm
      rw[hc,Lb3]at hcs;obtain⟨a,ea,_,wa⟩:=DataW.trod_int he ht;subst ea;have h9:=(cells_at hcs).2 0 _ rfl;have e0:∀x:Addr,x.add 0=x:=fun x=>by simp[Addr.add]
      rw[e0]at h9;exact⟨_,h9,a,rfl,wa⟩
    obtain rfl:sp'=none:=by
      obtain⟨v,hv,_⟩:=hx' 0 oM;simpa[Addr.add]using World.cell?_spot hv
    obtain⟨l,hl,hs⟩:=list_of_cells W b o s.n fun i hi=>by
      obtain⟨v,hv,a,rfl,wa⟩:=hx' i hi;rw[Bo]at hv;exact⟨a,hv,wa⟩
    exact⟨s,l,rfl,hl,h1,by rw[hp];exact SeesP.of hs,Lbb h1 h2,h3⟩
theorem rows_of_cells(W:World)(b o m:Nat):∀n:Nat,(∀i,i<n→∃l:List UInt8,l.length=m∧Sees W b (o+i*m) (Aa l))→∃ls:List (List UInt8),ls.length=n∧(∀l∈ls,l.length=m)∧Sees W b o (ls.map Aa).flatten
  |0,_=>⟨[],rfl,by simp,fun j v hj=>by simp at hj⟩
  | n + 1,h=>by
    obtain⟨ls,h1,h2,h3⟩:=rows_of_cells W b o m n fun i hi=>h i oM;obtain⟨l,hl,hs⟩:=h n oM;have hfl:(ls.map Aa).flatten.length=n*m:=by
      rw[←h1];clear h3 h1 h
      induction ls with
      |nil=>simp
      |cons x xs ih=>rw[Lao,Lch,La5,ih (fun y hy=>h2 y (by simp[hy])),Lbh,Lc3];simp[Aa,h2 x sP];omega
    refine⟨ls++[l],by simp[h1],fun x hx=>?_,fun j v hj=>?_⟩
    · rcases Lac.1 hx with hx|hx
      ·exact h2 x hx
      ·obtain rfl:=La1.1 hx;exact hl
    · rw[Lae,Lcf]at hj
      rcases Lat j (n*m)with h4|h4
      · rw[Lay oM]at hj
        exact h3 j v hj
      · rw[Lau oM,hfl]at hj
        have:=hs (j-n*m) v (by simpa using hj);rw[show o+n*m+(j-n*m)=o+j by omega]at this;exact this
theorem open_rowsS{e8:TypeId}{m:Nat}(hu:P.underlying t=some (.slice e))(he:P.underlying e=some (.array m e8))(he8:P.underlying e8=some (.int .u8))(hc8:P.cellsOf e8=1)(hc:P.cellsOf e=m)(hm:0<m){cs:List Value}
    (h:DataW.trod enc P W base sp held fuel t cs=some y):∃s ls,cs=[s.v]∧RowsAt W s m ls:=by
  obtain⟨s,rfl,h1,h2,h3,hx⟩:=open_sliceT hu h;by_cases h0:s.n=0
  ·exact⟨s,[],rfl,by simp[h0],by simp,h1,SeesP.nil,Lbb h1 h2,h3⟩
  · obtain⟨⟨b,o,sp'⟩,hp,_⟩:=hx 0 oM
    have hx':∀i,i<s.n→∃l:List UInt8,l.length=m∧∀(j:Nat) (v:Value),(Aa l)[j]? =some v→W.cell? (((⟨b,o,sp'⟩:Addr).add (i*m)).add j)=some v:=fun i hi=>by
      obtain⟨a',hp',cs',n,y',hcs,ht⟩:=hx i hi;rw[hp]at hp';obtain rfl:a'=⟨b,o,sp'⟩:=by injection hp'.symm
      rw[hc]at hcs;obtain⟨l,rfl,hl⟩:=open_bytesT he he8 hc8 hc ht;exact⟨l,hl,(cells_at hcs).2⟩
    obtain rfl:sp'=none:=by
      obtain⟨l,hl,hv⟩:=hx' 0 oM;have:=hv 0 (u8 (l.getD 0 0)) (Br oM);simpa[Addr.add]using World.cell?_spot this
    obtain⟨ls,e1,e2,e3⟩:=rows_of_cells W b o m s.n fun i hi=>by
      obtain⟨l,hl,hv⟩:=hx' i hi;refine⟨l,hl,fun j v hj=>?_⟩;have:=hv j v hj;rwa[Bo,Bo]at this
    exact⟨s,ls,rfl,e1,e2,h1,by rw[hp];exact SeesP.of e3,Lbb h1 h2,h3⟩
end
end Hw
namespace Hw
open Go Go.RowKit
theorem fold_put(off:Nat):∀(l:List Value) (s:Nat) (cells:Array Value),(l.zipIdx s).foldl (fun cs (p:Value×Nat)=>cs.setIfInBounds (off+p.2) p.1) cells=B4 cells (off+s) l
  | [],_,_=>rfl
  | v::l,s,cells=>by
    rw[List.zipIdx_cons,Lfy,B4,fold_put off l (s+1)];rfl
theorem fill_seq(size:Nat):∀(vals:List Value) (i:Nat) (cells:Array Value),(∀v∈vals,v.cells.size=size)→(i+vals.length)*size≤cells.size→
    Instr.fill (fun i=>some (i*size,size)) cells ((vals.zipIdx i).map fun p=>(p.2,p.1))=some (B4 cells (i*size) (vals.map fun v=>v.cells.toList).flatten)
  | [],i,cells,_,_=>by simp[Instr.fill,B4]
  | v ::vals,i,cells,hv,hl=>by
    have h0:=hv v sP;have h1:(i+1+vals.length)*size≤cells.size:=by
      rw[Lbh,show i+(vals.length+1)=i+1+vals.length by omega]at hl;exact hl
    have h2:(i+1)*size≤cells.size:=Lbb (Ldk _ oM) h1;rw[Lc3,Ldg]at h2;have hf:(v.cells.zipIdx.foldl (fun cs (p:Value×Nat)=>cs.setIfInBounds (i*size+p.2) p.1) cells)=B4 cells (i*size) v.cells.toList:=by
      rw[←Array.foldl_toList,Array.toList_zipIdx];exact fold_put (i*size) v.cells.toList 0 cells
    rw[List.zipIdx_cons,Lao,Instr.fill];simp only[h0];rw[if_neg (by simp;omega)];rw[show(v.cells.zipIdx.foldl (fun cs (x:Value×Nat)=>match x with|(c,j)=>cs.setIfInBounds (i*size+j) c) cells)=B4 cells (i*size) v.cells.toList from hf];rw[fill_seq size vals (i+1) _ (fun x hx=>hv x (by simp[hx])) (by rw[putAll_size];exact h1),Lao,Lch];congr 1;have app:∀(a b:List Value) (c:Array Value) (k:Nat),B4 c k (a++b)=B4 (B4 c k a) (k+a.length) b:=by
      intro a
      induction a with
      |nil=>intro b c k;rfl
      |cons x a ih=>intro b c k;rw[Lap,B4,B4,ih,Lbh];congr 1;omega
    rw[app,Lcw,h0,Lc3,Ldg]
theorem putAll_all(cells:Array Value)(vs:List Value)(h:vs.length=cells.size):B4 cells 0 vs=vs.toArray:=by
  apply Ldy;intro j;rw[putAll_get _ _ _ _ oM];by_cases hj:j<vs.length
  ·rw[if_pos oM];simp
  ·rw[if_neg oM,Lc4 oM];simp;omega
theorem flat_length{size:Nat}:∀(vals:List Value),(∀v∈vals,v.cells.size=size)→(vals.map fun v=>v.cells.toList).flatten.length=vals.length*size
  | [],_=>by simp
  | v::vals,h=>by
    rw[Lao,Lch,La5,flat_length vals fun x hx=>h x (by simp[hx]),Lcw,h v sP,Lbh,Lc3];omega
section
variable{C:Cx}{ops:Array Oper}{rest:List (Nat×Oper)}{sl:List (Nat×Value)}{hp hp':List Blk}{Q:St→Prop}{c d:Nat}{ty:TypeId}{pos:String}{af:Array Edge}{g:Option (Nat×Bool)}
variable{c2 len n size:Nat}{p:Option Addr}{ps:List (Nat×Operand)}{vs:List (Nat×Value)}{z:Value}
theorem Tr.mkRow{T E:TypeId}(vals:List Value)(cs:List Value)(hg:Ah ops sl g=true)(hk:okG c d C.N=true)(hv:evp sl ps=some vs)
    (hu:C.P.underlying T=some (.slice E)) (hs:Sz C.P E size) (hz:Zr C.P E z) (hvs:vs=(vals.zipIdx 0).map fun p=>(p.2,p.1)) (hlen:vals.length=len) (hsz:∀v∈vals,v.cells.size=size) (hbig:len*size≤16777216) (hcs:(vals.map fun v=>v.cells.toList).flatten=cs)
    (k:∀q,Tr C ops rest ⟨(d, .slice (some ⟨q,0,none⟩) len len)::sl,blk q cs E::hp⟩ Q):Tr C ops ((c,⟨some d, .buildSlice T len ps.toArray,ty,pos,af,g⟩)::rest) ⟨sl,hp⟩ Q:=
  Tr.growB (fun m=> .slice (some ⟨m,0,none⟩) len len) hg hk (fun x hx=>by
    simp[Op.operands]at hx;obtain⟨i,hm⟩:=hx;exact evp_known hv _ hm) (fun ρ hf w=>by
    have h2:=evp_map hv fun p hp=>hf p.2 (by simp[Op.operands];exact⟨p.1,hp⟩);have e:(ps.toArray.map fun(i,x)=>(i,ρ x))=vs.toArray:=by
      rw[←h2];simp
    have rs:=Cf hs;unfold Zr at hz;unfold Sz at hs;cases hi:C.P.info? E with
    |none=>rw[hi]at hs;simp at hs
    | some i=>
      rw[hi]at hz;simp only[Lbr]at hz;have hfl:=flat_length vals hsz;have hnb:¬(16777216<len*size):=by omega
      have hrun:(Instr.buildSlice T len vs.toArray).run C.P w= .ok (.slice (some ⟨w.heap.size,0,none⟩) len len) { w with heap:=w.heap.push (.cells cs.toArray E) }:=by
        subst hcs;subst hlen;by_cases h0:vals.length*size=0
        · simp only[Instr.buildSlice,Sem.run_bind,run_underlying hu,Result.andThen_ok,rs]
          rw[hvs];have:=fill_seq size vals 0 #[] hsz (by simp[h0]);have hnil:(vals.map fun v=>v.cells.toList).flatten=[]:=Las (by rw[hfl];exact h0);rw[hnil]at this ⊢;have e0:Array.map (fun _=>(default:Value)) (Array.range 0)= #[]:=Leb sP;simp[h0,newRow,newObj,e0,this,B4];simp[Sem.run]
        · simp only[Instr.buildSlice,Sem.run_bind,run_underlying hu,Result.andThen_ok,rs]
          rw[hvs];have:=fill_seq size vals 0 ((Array.range (vals.length*size)).map (z.cells[· %z.cells.size]!)) hsz sP;rw[Le9,putAll_all _ _ (by simp[hfl])]at this;simp[h0,hnb,typeInfo,zeroValue,hi,hz,this,newRow,newObj];simp[Sem.run]
      simp only[execOp,Sem.run_bind,e,hrun,Result.andThen];rfl) k
theorem Tr.mkRow2g{T E:TypeId}(vals:List Value)(cs:List Value)(hg:Ah ops sl g=true)(hk:okN c d C.N=true)(hv:evp sl ps=some vs)
    (hu:C.P.underlying T=some (.slice E)) (hs:Sz C.P E size) (hz:Zr C.P E z) (hvs:vs=(vals.zipIdx 0).map fun p=>(p.2,p.1)) (hlen:vals.length=len) (hsz:∀v∈vals,v.cells.size=size) (hbig:len*size≤16777216) (hcs:(vals.map fun v=>v.cells.toList).flatten=cs)
    (k:∀q,Tr C ops rest ⟨(d, .slice (some ⟨q,0,none⟩) len len)::sl,blk q cs E::hp⟩ Q):Tr C ops ((c,⟨some d, .buildSlice T len ps.toArray,ty,pos,af,g⟩)::rest) ⟨sl,hp⟩ Q:=
  Tr.newBg (fun m=> .slice (some ⟨m,0,none⟩) len len) hg hk (fun x hx=>by
    simp[Op.operands]at hx;obtain⟨i,hm⟩:=hx;exact evp_known hv _ hm) (fun ρ hf w=>by
    have h2:=evp_map hv fun p hp=>hf p.2 (by simp[Op.operands];exact⟨p.1,hp⟩);have e:(ps.toArray.map fun(i,x)=>(i,ρ x))=vs.toArray:=by
      rw[←h2];simp
    have rs:=Cf hs;unfold Zr at hz;unfold Sz at hs;cases hi:C.P.info? E with
    |none=>rw[hi]at hs;simp at hs
    | some i=>
      rw[hi]at hz;simp only[Lbr]at hz;have hfl:=flat_length vals hsz;have hnb:¬(16777216<len*size):=by omega
      have hrun:(Instr.buildSlice T len vs.toArray).run C.P w= .ok (.slice (some ⟨w.heap.size,0,none⟩) len len) { w with heap:=w.heap.push (.cells cs.toArray E) }:=by
        subst hcs;subst hlen;by_cases h0:vals.length*size=0
        · simp only[Instr.buildSlice,Sem.run_bind,run_underlying hu,Result.andThen_ok,rs]
          rw[hvs];have:=fill_seq size vals 0 #[] hsz (by simp[h0]);have hnil:(vals.map fun v=>v.cells.toList).flatten=[]:=Las (by rw[hfl];exact h0);rw[hnil]at this ⊢;have e0:Array.map (fun _=>(default:Value)) (Array.range 0)= #[]:=Leb sP;simp[h0,newRow,newObj,e0,this,B4];simp[Sem.run]
        · simp only[Instr.buildSlice,Sem.run_bind,run_underlying hu,Result.andThen_ok,rs]
          rw[hvs];have:=fill_seq size vals 0 ((Array.range (vals.length*size)).map (z.cells[· %z.cells.size]!)) hsz sP;rw[Le9,putAll_all _ _ (by simp[hfl])]at this;simp[h0,hnb,typeInfo,zeroValue,hi,hz,this,newRow,newObj];simp[Sem.run]
      simp only[execOp,Sem.run_bind,e,hrun,Result.andThen];rfl) k
theorem Tr.mkRow2{T E:TypeId}(vals:List Value)(cs:List Value)(hk:okN c d C.N=true)(hv:evp sl ps=some vs)
    (hu:C.P.underlying T=some (.slice E)) (hs:Sz C.P E size) (hz:Zr C.P E z) (hvs:vs=(vals.zipIdx 0).map fun p=>(p.2,p.1)) (hlen:vals.length=len) (hsz:∀v∈vals,v.cells.size=size) (hbig:len*size≤16777216) (hcs:(vals.map fun v=>v.cells.toList).flatten=cs)
    (k:∀q,Tr C ops rest ⟨(d, .slice (some ⟨q,0,none⟩) len len)::sl,blk q cs E::hp⟩ Q):Tr C ops ((c,⟨some d, .buildSlice T len ps.toArray,ty,pos,af,none⟩)::rest) ⟨sl,hp⟩ Q:=
  .mkRow2g (g:=none) vals cs rfl hk hv hu hs hz hvs hlen hsz hbig hcs k
theorem Src.ofP{w:World}{tx e':TypeId}{n cp:Nat}{news:List Value}(hk:C.P.underlying tx=some (.slice e'))(hs:SeesP w p news)(hn:p=none→n=0)(hl:news.length=n*size)(h1:∀u∈news,isCell u=true):Src C.P size tx (.slice p n cp) n news w:=by
  cases p with
  | none=>
    have:=hn rfl;subst this;have:news=[]:=Las (by rw[hl];simp);subst this;exact Src.ofNil w hk cp
  | some a=>
    refine Src.ofSlice w hk a n cp news hl (fun j u hj=>?_) fun u hu=>one_of_cell (h1 u hu);obtain⟨b,o,e,hc⟩:=hs j u hj;simp only[La3]at e;subst e;rw[Bo];exact hc
theorem Tr.appendSl{x y:Operand}{b n cap m size cm by' c2:Nat}{T tx E E2:TypeId}{olds:List Value}(news:List Value)(hg:Ah ops sl g=true)(hc:Nat.beq c 4=true)(hd:Nat.blt d C.N=true)
    (hx:Ag sl x=some (.slice (some ⟨b,0,none⟩) n cap)) (hy:Ag sl y=some (.slice p m c2)) (hu:C.P.underlying T=some (.slice E)) (hut:C.P.underlying tx=some (.slice E2)) (hs:Sz C.P E size) (hz:Zr C.P E z) (hb:By C.P E by') (hzc:z.cells.size=size)
    (hsee:∀w,HRep C hp w→SeesP w p news) (hpn:p=none→m=0) (hcell:∀u∈news,isCell u=true)
    (hp1:hp.Perm (⟨b,olds,E,cm⟩::hp')) (hcm:cm=cap*size) (hol:olds.length=n*size) (hnc:n≤cap) (hbig:n+m≤1000000) (hfit:(n+m)*by'≤140737488355328)
    (hnl:news.length=m*size)
    (k:∀q cap',n+m≤cap'→Tr C ops rest ⟨(d, .slice (some ⟨q,0,none⟩) (n+m) cap')::sl,⟨q,olds++news,E,cap'*size⟩::hp'⟩ Q):
    Tr C ops ((c,⟨some d, .call { callee:= .builtin .append,args:= #[x,y],argTypes:= #[T,tx] },ty,pos,af,g⟩)::rest) ⟨sl,hp⟩ Q:=
  .appendOwn hg hc hd hx hy hu hs hz hb hzc (fun w hh=>Src.ofP hut (hsee w hh) hpn hnl hcell) hcell hp1 hcm hol hnc hbig hfit hnl k
theorem Tr.appendToNil{x y:Operand}{m size by' c2:Nat}{T tx E E2:TypeId}(news:List Value)(hg:Ah ops sl g=true)(hk:okG c d C.N=true)
    (hx:Ag sl x=some (.slice none 0 0)) (hy:Ag sl y=some (.slice p m c2)) (hu:C.P.underlying T=some (.slice E)) (hut:C.P.underlying tx=some (.slice E2)) (hs:Sz C.P E size) (hz:Zr C.P E z) (hb:By C.P E by') (hzc:z.cells.size=size)
    (hsee:∀w,HRep C hp w→SeesP w p news) (hm:0<m) (hpn:p=none→m=0) (hcell:∀u∈news,isCell u=true) (hbig:m≤1000000) (hfit:m*by'≤140737488355328) (hnl:news.length=m*size)
    (k:∀q cap',m≤cap'→Tr C ops rest ⟨(d, .slice (some ⟨q,0,none⟩) m cap')::sl,⟨q,news,E,cap'*size⟩::hp⟩ Q):
    Tr C ops ((c,⟨some d, .call { callee:= .builtin .append,args:= #[x,y],argTypes:= #[T,tx] },ty,pos,af,g⟩)::rest) ⟨sl,hp⟩ Q:=by
  simp only[okG,Lan,Lcm]at hk;refine Tr.grow (ρ:=Nat×Nat) (fun r=>m≤r.2) (fun r=> .slice (some ⟨r.1,0,none⟩) m r.2) (fun r=>[⟨r.1,news,E,r.2*size⟩]) (hk.1.imp nbeq' nbeq') (Ax hg) (B6 (nblt hk.2))
    ⟨by simpa[Known,Op.operands,Call.operands]using known2 hx hy,fun l hl=>?_,fun a w hf hh=>?_⟩ (fun r hr=>k r.1 r.2 hr)
  · obtain⟨q,_,hq⟩:=fresh_is 0 l
    refine⟨(q,m),Laf _,?_⟩;simp only[Lcd,Lao,Lb0];exact⟨fun h=>by obtain⟨b,hb,e⟩:=La6.1 h;exact hq b hb e,hl⟩
  · have h1:=hf x (by simp[Op.operands,Call.operands]);rw[hx]at h1
    have h2:=hf y (by simp[Op.operands,Call.operands]);rw[hy]at h2;simp only[La3]at h1 h2;unfold Sz at hs;unfold Zr at hz;unfold By at hb;cases hi:C.P.info? E with
    |none=>rw[hi]at hs;simp at hs
    | some i=>
      rw[hi]at hs hz hb;simp only[Lbj,La3,Lbr]at hs hz hb;subst hs;have hS:Src C.P i.size tx (.slice p m c2) m news w:=Src.ofP hut (hsee w hh) hpn hnl hcell;have hrun:=run_append_grow_src (P:=C.P) w T tx ty E i z hu hi hz none 0 0 [] (by simp[Builtin.firstCells]) _ m news hS oM oM (growslice_fits oM (by rw[hb];simpa using hfit));simp only[Lb2,Lal]at hrun;have hge:=grownCap_ge w m 0 E;unfold Oper.wp;have hex:(execOp a.eval ⟨some d, .call { callee:= .builtin .append,args:= #[x,y],argTypes:= #[T,tx] },ty,pos,af,g⟩).run C.P w= .ok (.value (.slice (some ⟨w.heap.size,0,none⟩) m (grownCap w m 0 E))) (w.drew.alloc (.cells (news.toArray++Builtin.zeroCells z.cells (grownCap w m 0 E-m)) E)):=by
        simp[execOp,resolve,invoke,builtin,←h1,←h2,hrun]
      rw[hex];refine⟨(w.heap.size,grownCap w m 0 E),hge,rfl,Ret.pushD _ _ _ _ ?_ sP⟩;have e:grownCap w m 0 E*i.size=m*i.size+(grownCap w m 0 E-m)*i.size:=by rw[←Lc3];congr 1;omega
      simp[Builtin.zeroCells,hnl,hzc,e]
theorem Tr.appendNilNil{x y:Operand}{T tx E E2:TypeId}(hg:Ah ops sl g=true)(hk:okD c d C.N=true)
    (hx:Ag sl x=some (.slice none 0 0)) (hy:Ag sl y=some (.slice p 0 c2)) (hu:C.P.underlying T=some (.slice E)) (hut:C.P.underlying tx=some (.slice E2)) (hs:Sz C.P E size)
    (k:Tr C ops rest ⟨(d, .slice none 0 0)::sl,hp⟩ Q):
    Tr C ops ((c,⟨some d, .call { callee:= .builtin .append,args:= #[x,y],argTypes:= #[T,tx] },ty,pos,af,g⟩)::rest) ⟨sl,hp⟩ Q:=
  .pv hg hk ⟨by simpa[Known,Op.operands,Call.operands]using known2 hx hy,fun ρ hf w=>by
    have h1:=hf x (by simp[Op.operands,Call.operands]);rw[hx]at h1;have h2:=hf y (by simp[Op.operands,Call.operands]);rw[hy]at h2;simp only[La3]at h1 h2;have rs:=Cf hs;cases p<;>simp[execOp,resolve,invoke,builtin,←h1,←h2,Builtin.append_,run_underlying hu,run_underlying hut,rs,Builtin.lenOf,Builtin.firstCells,loadCells,loadCellsFrom,storeCells]⟩ k
theorem Tr.sliceLoN{x lo:Operand}{b o n cap:Nat}{T E:TypeId}{kl:IntKind}{l:Int}{sz:Nat}(j:Nat)(hg:Ah ops sl g=true)(hk:okD c d C.N=true)(hx:Ag sl x=some (.slice (some ⟨b,o,none⟩) n cap))(hl:Ag sl lo=some (.int kl l))(hj:l=j)(hjn:j≤n)(hnc:n≤cap)
    (hu:C.P.underlying T=some (.slice E)) (hs:Sz C.P E sz)
    (k:Tr C ops rest ⟨(d, .slice (some ⟨b,if cap=j then o else o+j*sz,none⟩) (n-j) (cap-j))::sl,hp⟩ Q):Tr C ops ((c,⟨some d, .slice T x (some lo) none none,ty,pos,af,g⟩)::rest) ⟨sl,hp⟩ Q:=
  .pv hg hk ⟨by simpa[Known,Op.operands]using known2 hx hl,fun ρ hfi w=>by
    have h1:=hfi x (by simp[Op.operands]);rw[hx]at h1;have h2:=hfi lo (by simp[Op.operands]);rw[hl]at h2;simp only[La3]at h1 h2;subst hj;by_cases e:cap=j<;>simp[execOp,Instr.sliceAt,Instr.slice,←h1,←h2,run_underlying hu,Instr.sliceBounds,Instr.sliceBound,asIntOf,Cf hs,Bo,e,hjn]⟩ k
theorem Tr.loadSN{T:TypeId}{td:TypeDesc}{x:Operand}{b o:Nat}(r:List Value)(hg:Ah ops sl g=true)(hk:okL c d C.N=true)(hx:Ag sl x=some (ptr b o))(hu:C.P.underlying T=some td)(hp':B3 td=false)(hs:Sz C.P T n)(hn:r.length=n)
    (hv:∀w,HRep C hp w→Sees w b o r)
    (k:Tr C ops rest ⟨(d,agg r)::sl,hp⟩ Q):Tr C ops ((c,⟨some d, .load T x,ty,pos,af,g⟩)::rest) ⟨sl,hp⟩ Q:=
  .loadAny hg hk hx (fun w hh=>by
    have:=run_row (P:=C.P) (w:=w) (b:=b) (o:=o) hn fun j v hj=>hv w hh j v hj;simp[loadVar,run_isAgg_arr hu hp',Cf hs,this]) k
end
variable{k:Nat}{ls:List (List UInt8)}{w:World}
theorem flatten_get{α:Type}(m:Nat):∀(ls:List (List α)) (i j:Nat) (l:List α),(∀l∈ls,l.length=m)→ls[i]? =some l→j<m→ls.flatten[i*m+j]? =l[j]?
  | [],i,j,l,_,h,_=>by simp at h
  | x::ls,0,j,l,hl,h,hj=>by
    simp only[Leg,La3]at h;subst h;rw[Lch,Le9,Lb2,Lay (by rw[hl x sP];exact hj)]
  | x::ls,i+1,j,l,hl,h,hj=>by
    rw[Lch,Lau (by rw[hl x sP,Lc3];omega),hl x sP,show(i+1)*m+j-m=i*m+j by rw[Lc3];omega];exact flatten_get m ls i j l (fun y hy=>hl y (by simp[hy])) (by simpa using h) hj
theorem flatten_len{α:Type}(m:Nat):∀(ls:List (List α)),(∀l∈ls,l.length=m)→ls.flatten.length=ls.length*m
  | [],_=>by simp
  |x::ls,h=>by rw[Lch,La5,flatten_len m ls fun y hy=>h y (by simp[hy]),h x sP,Lbh,Lc3];omega
abbrev Ay(ls:List (List UInt8)):List Value:=(ls.map Aa).flatten
theorem flatB_all{m:Nat}(h:∀l∈ls,l.length=m):∀l∈ls.map Aa,l.length=m:=fun l hl=>by
  obtain⟨x,hx,rfl⟩:=La6.1 hl;simp[Aa,h x hx]
theorem A1{m:Nat}(h:∀l∈ls,l.length=m):(Ay ls).length=ls.length*m:=by
  rw[Ay,flatten_len m _ (flatB_all h),La0]
theorem flatB_cell(ls:List (List UInt8)):∀u∈Ay ls,isCell u=true:=fun u hu=>by
  simp only[Ay,Lcu,La6]at hu;obtain⟨_,⟨l,_,rfl⟩,hu⟩:=hu;simp only[Aa,La6]at hu;obtain⟨_,_,rfl⟩:=hu;rfl
theorem flatB_append(a b:List (List UInt8)):Ay (a++b)=Ay a++Ay b:=by simp[Ay]
theorem getD_len{m:Nat}(h:∀l∈ls,l.length=m)(hk:k<ls.length):(ls.getD k []).length=m:=by
  rw[La2,La4 hk,Lbp];exact h _ (Lc9 hk)
theorem sees_row{b o m:Nat}(h:∀l∈ls,l.length=m)(hs:Sees w b o (Ay ls))(hk:k<ls.length):Sees w b (o+k*m) (Aa (ls.getD k [])):=fun j v hj=>by
  have hl:=getD_len h hk;have hjm:j<m:=by
    rcases Lat j m with h1|h1
    ·exact h1
    ·rw[Lam (by simp only[Aa,La0,hl];exact h1)]at hj;cases hj
  rw[Lc7];refine hs _ v ?_;rw[Ay,flatten_get m _ k j (Aa (ls.getD k [])) (flatB_all h) (by rw[Lai,La2,La4 hk];rfl) hjm];exact hj
theorem sees_rows_drop{b o m k n c:Nat}(h:∀l∈ls,l.length=m)(hn:ls.length=n)(hnc:n≤c)(hs:Sees w b o (Ay ls)):Sees w b (if c=k then o else o+k*m) (Ay (ls.drop k)):=fun j v hj=>by
  have hlt:k<ls.length:=by
    rcases Lat k ls.length with h1|h1
    ·exact h1
    ·rw[Lah h1]at hj;simp[Ay]at hj
  rw[if_neg oM,Lc7];refine hs _ v ?_;rw[←Lcx k ls,flatB_append,Lau (by rw[A1 (m:=m) (fun l hl=>h l (Le3 hl)),Lar,Lcj oM];omega),
    A1 (m:=m) (fun l hl=>h l (Le3 hl)),Lar,Lcj oM,Lfg]
  exact hj
def FreshRow(v:Value)(out:List Blk)(cells:List Value)(T:TypeId)(n size:Nat):Prop:=∃q c,v= .slice (some ⟨q,0,none⟩) n c∧n≤c∧out=[⟨q,cells,T,c*size⟩]
theorem FreshRow.loose(cells:List Value)(T:TypeId)(n size:Nat):Loose fun v out=>FreshRow v out cells T n size:=fun l hl=>by
  obtain⟨q,_,hq⟩:=fresh_is 0 l;refine⟨_,_,⟨q,n,rfl,Laf _,rfl⟩,?_⟩;simp only[Lcd,Lao,Lb0];exact⟨fun h=>by obtain⟨b,hb,e⟩:=La6.1 h;exact hq b hb e,hl⟩
theorem nodup1{l:List Blk}{b:Blk}:(l.map (·.n)).Nodup→([b].map (·.n)).Nodup:=fun _=>by simp
section
variable{C:Cx}{ops:Array Oper}{rest:List (Nat×Oper)}{sl:List (Nat×Value)}{hp:List Blk}{Q:St→Prop}{c d:Nat}{ty:TypeId}{pos:String}{af:Array Edge}{g:Option (Nat×Bool)}
variable{f:Operand}{fid:FuncId}{ars:List Operand}{ats:Array TypeId}{vs:List Value}
theorem Tr.callL{Pre:World→Prop}{R:Value→List Blk→Prop}{lent:List Nat}{L keep:List Blk}(hg:Ah ops sl g=true)(hk:Nat.beq c 4=true)(hd:Nat.blt d C.N=true)(hfn:Ag sl f=some (.func (.func fid) #[] #[]))(hargs:evs sl ars=some vs)(hb:Aw C.P fid)
    (hc:Meets C.P fid vs lent Pre R) (hsp:hp.Perm (L++keep)) (hl:∀n∈lent,∃b∈L,b.n=n) (hpre:∀w,HRep C hp w→Pre w)
    (k:∀v out,R v out→Tr C ops rest ⟨(d,v)::sl,out++keep⟩ Q):Tr C ops ((c,⟨some d, .call ⟨.value f,ars.toArray,ats⟩,ty,pos,af,g⟩)::rest) ⟨sl,hp⟩ Q:=by
  refine Tr.act (ρ:=Value×List Blk) (fun r=>R r.1 r.2) (·.1) (fun r=>r.2++keep) (nbeq' hk) (Ax hg) (B6 (nblt hd)) ⟨known_call hfn hargs,fun a w hf hh=>?_⟩ (fun r hr=>k r.1 r.2 hr);unfold Oper.wp;rw[run_call hfn hargs hf,hb];refine(hc w (hpre w hh)).mono fun e w' ⟨v,out,he,hR,hret⟩=>?_;subst he;exact⟨(v,out),hR,rfl,hh.lentRet hsp hl hret⟩
end
def LooseL(lent:List Nat)(R:Value→List Blk→Prop):Prop:=∀l:List Blk,(l.map (·.n)).Nodup→(∀b∈l,b.n∉lent)→∃v out,R v out∧((out++l).map (·.n)).Nodup
section
variable{C:Cx}{ops:Array Oper}{rest:List (Nat×Oper)}{sl:List (Nat×Value)}{hp:List Blk}{Q:St→Prop}{c d:Nat}{ty:TypeId}{pos:String}{af:Array Edge}{g:Option (Nat×Bool)}
variable{f:Operand}{fid:FuncId}{ars:List Operand}{ats:Array TypeId}{vs:List Value}
theorem Tr.callL5{Pre:World→Prop}{R:Value→List Blk→Prop}{lent:List Nat}{L keep:List Blk}(hg:Ah ops sl g=true)(hk:Nat.beq c 5=true)(hd:Nat.blt d C.N=true)(hfn:Ag sl f=some (.func (.func fid) #[] #[]))(hargs:evs sl ars=some vs)(hb:Aw C.P fid)
    (hc:Meets C.P fid vs lent Pre R) (hlo:LooseL lent R) (hsp:hp.Perm (L++keep)) (hl:∀n∈lent,∃b∈L,b.n=n) (hpre:∀w,HRep C hp w→Pre w)
    (k:∀v out,R v out→Tr C ops rest ⟨(d,v)::sl,out++keep⟩ Q):Tr C ops ((c,⟨some d, .call ⟨.value f,ars.toArray,ats⟩,ty,pos,af,g⟩)::rest) ⟨sl,hp⟩ Q:=by
  refine Tr.lend (ρ:=Value×List Blk) (fun r=>R r.1 r.2) (·.1) (·.2) lent L keep (.inl (nbeq' hk)) (Ax hg) (B6 (nblt hd)) hsp hl ⟨known_call hfn hargs,fun l h1 h2=>?_,fun a w hf hh=>?_⟩ (fun r hr=>k r.1 r.2 hr)
  · obtain⟨v,out,h3,h4⟩:=hlo l h1 h2
    exact⟨(v,out),h3,h4⟩
  unfold Oper.wp;rw[run_call hfn hargs hf,hb];refine(hc w (hpre w hh)).mono fun e w' ⟨v,out,he,hR,hret⟩=>?_;subst he;exact⟨(v,out),hR,rfl,hret⟩
end
section
variable{C:Cx}{ops:Array Oper}{rest:List (Nat×Oper)}{sl:List (Nat×Value)}{hp:List Blk}{Q:St→Prop}{c d:Nat}{ty:TypeId}{pos:String}{af:Array Edge}{g:Option (Nat×Bool)}
variable{f:Operand}{fid:FuncId}{ars:List Operand}{ats:Array TypeId}{vs us:List Value}{fst cap:Array Value}
theorem Tr.makeFunc{fn:Fn}{ars bs:List Operand}(hg:Ah ops sl g=true)(hk:okD c d C.N=true)(ha:evs sl ars=some us)(hb:evs sl bs=some vs)
    (k:Tr C ops rest ⟨(d, .func fn us.toArray vs.toArray)::sl,hp⟩ Q):Tr C ops ((c,⟨some d, .makeFunc fn ars.toArray bs.toArray,ty,pos,af,g⟩)::rest) ⟨sl,hp⟩ Q:=
  .pv hg hk ⟨fun x hx=>by
    simp[Op.operands]at hx;rcases hx with hx|hx
    ·exact evs_known ha x hx
    ·exact evs_known hb x hx,fun ρ hf w=>by
    have h1:=evs_map ha fun x hx=>hf x (by simp[Op.operands,hx]);have h2:=evs_map hb fun x hx=>hf x (by simp[Op.operands,hx]);simp[execOp,Instr.makeFunc,h1,h2]⟩ k
end
variable{B:Blk}
theorem HRep.one{P:Program}{W:World}{N:Nat}(h:BlkOk W B):HRep ⟨P,W,N,[B.n],[],[]⟩ [B] W:=
  ⟨fun b hb=>by rw[La1.1 hb];exact h,by simp,fun b hb=>by rw[La1.1 hb];exact .inr La9,Keeps.refl _ _,fun _ h=>(by cases h),fun _ _ _ h=>(by cases h)⟩
theorem own_blk{C:Cx}{hp:List Blk}{w:World}(h:HRep C hp w)(hb:B∈hp):BlkOk w B:=h.cells B hb
section
variable{C:Cx}{ops:Array Oper}{rest:List (Nat×Oper)}{sl:List (Nat×Value)}{hp:List Blk}{Q:St→Prop}{c d:Nat}{ty:TypeId}{pos:String}{af:Array Edge}{g:Option (Nat×Bool)}
variable{xT yT:TypeId}{x y:Operand}{p q:UInt8}
variable{E:TypeId}{ats:Array TypeId}{i:Int}{k1 k2 ki ky:IntKind}{n sz:Nat}
theorem Tr.min2{a b:Int}{v:Value}(hg:Ah ops sl g=true)(hk:okD c d C.N=true)(hx:Ag sl x=some (.int k1 a))(hy:Ag sl y=some (.int k2 b))(hv:Value.int k1 (if b<a then b else a)=v)
    (k:Tr C ops rest ⟨(d,v)::sl,hp⟩ Q):Tr C ops ((c,⟨some d, .call { callee:= .builtin .min,args:= #[x,y],argTypes:=ats },ty,pos,af,g⟩)::rest) ⟨sl,hp⟩ Q:=
  .pv hg hk ⟨by simpa[Known,Op.operands,Call.operands]using known2 hx hy,fun ρ hf w=>by
    have h1:=hf x (by simp[Op.operands,Call.operands]);rw[hx]at h1;have h2:=hf y (by simp[Op.operands,Call.operands]);rw[hy]at h2;simp only[La3]at h1 h2;subst hv;simp[execOp,resolve,invoke,builtin,←h1,←h2,Builtin.min_,Builtin.min2]⟩ k
theorem Tr.max2{a b:Int}{v:Value}(hg:Ah ops sl g=true)(hk:okD c d C.N=true)(hx:Ag sl x=some (.int k1 a))(hy:Ag sl y=some (.int k2 b))(hv:Value.int k1 (if b>a then b else a)=v)
    (k:Tr C ops rest ⟨(d,v)::sl,hp⟩ Q):Tr C ops ((c,⟨some d, .call { callee:= .builtin .max,args:= #[x,y],argTypes:=ats },ty,pos,af,g⟩)::rest) ⟨sl,hp⟩ Q:=
  .pv hg hk ⟨by simpa[Known,Op.operands,Call.operands]using known2 hx hy,fun ρ hf w=>by
    have h1:=hf x (by simp[Op.operands,Call.operands]);rw[hx]at h1;have h2:=hf y (by simp[Op.operands,Call.operands]);rw[hy]at h2;simp only[La3]at h1 h2;subst hv;simp[execOp,resolve,invoke,builtin,←h1,←h2,Builtin.max_,Builtin.max2]⟩ k
theorem Tr.nC{a:Addr}(hg:Ah ops sl g=true)(hk:okD c d C.N=true)(hx:Ag sl x=some (.pointer (some a)))
    (k:Tr C ops rest ⟨(d, .pointer (some a))::sl,hp⟩ Q):Tr C ops ((c,⟨some d, .nilCheck x,ty,pos,af,g⟩)::rest) ⟨sl,hp⟩ Q:=
  .pv hg hk ⟨known1 hx,fun ρ hf w=>by
    have h1:=hf x (by simp[Op.operands]);rw[hx]at h1;simp only[La3]at h1;simp[execOp,←h1]⟩ k
theorem pointee_of{P:Program}{T E:TypeId}(hu:P.underlying T=some (.pointer E)):P.underlying T=some (.pointer (P.pointee T)):=by
  have:P.pointee T=E:=by simp[Program.pointee,hu]
  rw[this];exact hu
theorem Tr.neqNilP{a:Addr}(hg:Ah ops sl g=true)(hk:okD c d C.N=true)(hx:Ag sl x=some (.pointer (some a)))(hy:Ag sl y=some (.pointer none))(hu:C.P.underlying xT=some (.pointer E))
    (k:Tr C ops rest ⟨(d, .bool true)::sl,hp⟩ Q):Tr C ops ((c,⟨some d, .binOp .neq xT x y yT,ty,pos,af,g⟩)::rest) ⟨sl,hp⟩ Q:=
  .binAny hg hk hx hy (fun w=>by simp[eqGuard]) (fun w=>by rw[run_neq_pointer_nil w xT (some a) (pointee_of hu)];rfl) k
theorem Tr.eqNilP{a:Addr}(hg:Ah ops sl g=true)(hk:okD c d C.N=true)(hx:Ag sl x=some (.pointer (some a)))(hy:Ag sl y=some (.pointer none))(hu:C.P.underlying xT=some (.pointer E))
    (k:Tr C ops rest ⟨(d, .bool false)::sl,hp⟩ Q):Tr C ops ((c,⟨some d, .binOp .eql xT x y yT,ty,pos,af,g⟩)::rest) ⟨sl,hp⟩ Q:=
  .binAny hg hk hx hy (fun w=>by simp[eqGuard]) (fun w=>by rw[run_eql_pointer_nil w xT (some a) (pointee_of hu)];rfl) k
theorem Tr.eqSameP{a:Addr}(hg:Ah ops sl g=true)(hk:okD c d C.N=true)(hx:Ag sl x=some (.pointer (some a)))(hy:Ag sl y=some (.pointer (some a)))(hu:C.P.underlying xT=some (.pointer E))(hs:Sz C.P E sz)
    (k:Tr C ops rest ⟨(d, .bool true)::sl,hp⟩ Q):Tr C ops ((c,⟨some d, .binOp .eql xT x y yT,ty,pos,af,g⟩)::rest) ⟨sl,hp⟩ Q:=
  .binAny hg hk hx hy (fun w=>by simp[eqGuard]) (fun w=>by
    unfold Sz at hs;cases hi:C.P.info? E with
    |none=>rw[hi]at hs;simp at hs
    |some i=>exact run_eql_ptr_same w a hu hi) k
theorem Tr.eqNilS{ad:Option Addr}{n cap:Nat}(hg:Ah ops sl g=true)(hk:okD c d C.N=true)(hx:Ag sl x=some (.slice ad n cap))(hy:Ag sl y=some (.slice none 0 0))(hu:C.P.underlying xT=some (.slice E)){r:Bool}(hr:ad.isNone=r)
    (k:Tr C ops rest ⟨(d, .bool r)::sl,hp⟩ Q):Tr C ops ((c,⟨some d, .binOp .eql xT x y yT,ty,pos,af,g⟩)::rest) ⟨sl,hp⟩ Q:=
  .binAny hg hk hx hy (fun w=>by simp[eqGuard]) (fun w=>by
    subst hr;have h:=run_equal_slice_nil w xT E ad n cap hu;simp only[binOp,Sem.run_bind,h,Result.andThen_ok];rfl) k
theorem Tr.or_u8(hg:Ah ops sl g=true)(hk:okD c d C.N=true)(hx:Ag sl x=some (u8 p))(hy:Ag sl y=some (u8 q))
    (k:Tr C ops rest ⟨(d,u8 (p|||q))::sl,hp⟩ Q):Tr C ops ((c,⟨some d, .binOp .or xT x y yT,ty,pos,af,g⟩)::rest) ⟨sl,hp⟩ Q:=
  .bin hg hk hx hy (fun w=>congrArg (fun n=>Result.ok (Value.int .u8 n) w) (bits8 (· ||| ·) (· ||| ·) (fun _ _=>rfl) p q)) k
def shl8(x:UInt8)(n:Nat):UInt8:=UInt8.ofNat (x.toNat*2^n)
theorem shl8_eq(x:UInt8)(n:Nat):IntKind.u8.wrap ((x.toNat:Int)*2^n)=((shl8 x n).toNat:Int):=by
  rw[IntKind.wrap_u8,shl8,Law];have:((x.toNat:Int)*2^n)=((x.toNat*2^n:Nat):Int):=by simp
  rw[this];omega
theorem Tr.shl_u8{b:Int}(hg:Ah ops sl g=true)(hk:okD c d C.N=true)(hx:Ag sl x=some (u8 p))(hy:Ag sl y=some (.int ky b))(n:Nat)(hn:b=n)(hr:n≤8)
    (k:Tr C ops rest ⟨(d,u8 (shl8 p n))::sl,hp⟩ Q):Tr C ops ((c,⟨some d, .binOp .shl xT x y yT,ty,pos,af,g⟩)::rest) ⟨sl,hp⟩ Q:=
  .bin hg hk hx hy (fun w=>by
    subst hn;simp only[binOp,Op.shift,IntKind.bits];rw[if_neg oM,Le7,Lcj hr,shl8_eq];rfl) k
theorem Tr.not_u64{p:UInt64}(hg:Ah ops sl g=true)(hk:okD c d C.N=true)(hx:Ag sl x=some (u64 p))
    (k:Tr C ops rest ⟨(d,u64 (18446744073709551615^^^p))::sl,hp⟩ Q):Tr C ops ((c,⟨some d, .unOp .xor xT x,ty,pos,af,g⟩)::rest) ⟨sl,hp⟩ Q:=
  .pv hg hk ⟨known1 hx,fun ρ hf w=>by
    have h1:=hf x (by simp[Op.operands]);rw[hx]at h1;simp only[La3]at h1;have h2:=bits64 (· ^^^ ·) (· ^^^ ·) (fun _ _=>rfl) 18446744073709551615 p;simp only[execOp,←h1];have e:(Op.unary .xor (u64 p)).run C.P w= .ok (u64 (18446744073709551615^^^p)) w:=congrArg (fun n=>Result.ok (Value.int .u64 n) w) h2;simp[e]⟩ k
theorem Tr.idxStr{s:ByteArray}{b:UInt8}(hg:Ah ops sl g=true)(hk:okD c d C.N=true)(hx:Ag sl x=some (.string s))(hy:Ag sl y=some (.int ki i))(hu:C.P.underlying xT=some .string)(j:Nat)(hj:i=j)(hb:s[j]? =some b)
    (k:Tr C ops rest ⟨(d,u8 b)::sl,hp⟩ Q):Tr C ops ((c,⟨some d, .index xT x y,ty,pos,af,g⟩)::rest) ⟨sl,hp⟩ Q:=
  .pv hg hk ⟨known2 hx hy,fun ρ hf w=>by
    have h1:=hf x (by simp[Op.operands]);rw[hx]at h1;have h2:=hf y (by simp[Op.operands]);rw[hy]at h2;simp only[La3]at h1 h2;subst hj;simp[execOp,Instr.index,←h1,←h2,asIntOf,run_underlying hu,hb]⟩ k
theorem Tr.idxA1{cs:List Value}{v:Value}{td:TypeDesc}(hg:Ah ops sl g=true)(hk:okD c d C.N=true)(hx:Ag sl x=some (agg cs))(hy:Ag sl y=some (.int ki i))(hu:C.P.underlying xT=some (.array n E))(hs:Sz C.P E 1)(he:C.P.underlying E=some td)(hp':B3 td=true)(j:Nat)(hj:i=j)(hjn:j<n)(hv:cs[j]? =some v)
    (k:Tr C ops rest ⟨(d,v)::sl,hp⟩ Q):Tr C ops ((c,⟨some d, .index xT x y,ty,pos,af,g⟩)::rest) ⟨sl,hp⟩ Q:=
  .pv hg hk ⟨known2 hx hy,fun ρ hf w=>by
    have h1:=hf x (by simp[Op.operands]);rw[hx]at h1;have h2:=hf y (by simp[Op.operands]);rw[hy]at h2;simp only[La3]at h1 h2;subst hj;have h3:=run_part1 (w:=w) he hp' hv;simp[execOp,Instr.index,←h1,←h2,asIntOf,run_underlying hu,Cf hs,hjn,agg,h3]⟩ k
theorem Tr.s2a{arr E:TypeId}{a:Addr}{n len cap:Nat}(hg:Ah ops sl g=true)(hk:okD c d C.N=true)(hx:Ag sl x=some (.slice (some a) len cap))(hu:C.P.underlying arr=some (.array n E))(hn:n≤len)
    (k:Tr C ops rest ⟨(d, .pointer (some a))::sl,hp⟩ Q):Tr C ops ((c,⟨some d, .sliceToArrayPointer arr x,ty,pos,af,g⟩)::rest) ⟨sl,hp⟩ Q:=
  .pv hg hk ⟨known1 hx,fun ρ hf w=>by
    have h1:=hf x (by simp[Op.operands]);rw[hx]at h1;simp only[La3]at h1;simp[execOp,Instr.arrayAt,←h1,run_underlying hu,show ¬len<n by omega]⟩ k
theorem Tr.sliceLoHiN{lo hi:Operand}{b o n cap:Nat}{T E:TypeId}{kl kh:IntKind}{l h:Int}(i j:Nat)(hg:Ah ops sl g=true)(hk:okD c d C.N=true)(hx:Ag sl x=some (.slice (some ⟨b,o,none⟩) n cap))(hl:Ag sl lo=some (.int kl l))(hh:Ag sl hi=some (.int kh h))(hi':l=i)(hj:h=j)(hij:i≤j)(hjc:j≤cap)
    (hu:C.P.underlying T=some (.slice E)) (hs:Sz C.P E sz)
    (k:Tr C ops rest ⟨(d, .slice (some ⟨b,if cap=i then o else o+i*sz,none⟩) (j-i) (cap-i))::sl,hp⟩ Q):Tr C ops ((c,⟨some d, .slice T x (some lo) (some hi) none,ty,pos,af,g⟩)::rest) ⟨sl,hp⟩ Q:=
  .pv hg hk ⟨fun z hz=>by
    simp[Op.operands]at hz;rcases hz with rfl|rfl|rfl
    ·simp[hx]
    ·simp[hl]
    ·simp[hh],fun ρ hfi w=>by
    have h1:=hfi x (by simp[Op.operands]);rw[hx]at h1;have h2:=hfi lo (by simp[Op.operands]);rw[hl]at h2;have h3:=hfi hi (by simp[Op.operands]);rw[hh]at h3;simp only[La3]at h1 h2 h3;subst hi';subst hj;by_cases e:cap=i
    · subst e
      simp[execOp,Instr.sliceAt,Instr.slice,←h1,←h2,←h3,run_underlying hu,Instr.sliceBounds,Instr.sliceBound,asIntOf,Cf hs,Bo,hjc,hij]
    ·simp[execOp,Instr.sliceAt,Instr.slice,←h1,←h2,←h3,run_underlying hu,Instr.sliceBounds,Instr.sliceBound,asIntOf,Cf hs,Bo,e,hjc,hij]⟩ k
theorem Tr.mkRoom{T E:TypeId}{kx ky:IntKind}{z:Value}{by':Nat}{mi:Int}(m:Nat)(hg:Ah ops sl g=true)(hk:okG c d C.N=true)(hx:Ag sl x=some (.int kx 0))(hy:Ag sl y=some (.int ky mi))(hmi:mi=m)
    (hu:C.P.underlying T=some (.slice E)) (hs:Sz C.P E 1) (hz:Zr C.P E z) (hb:By C.P E by') (hc:z.cells= #[z]) (hn:m≤1000000) (hby:by'≤64)
    (k:∀q,Tr C ops rest ⟨(d, .slice (some ⟨q,0,none⟩) 0 m)::sl,⟨q,[],E,m⟩::hp⟩ Q):Tr C ops ((c,⟨some d, .makeSlice T x y,ty,pos,af,g⟩)::rest) ⟨sl,hp⟩ Q:=by
  subst hmi;have hk2:=hk;simp only[okG,Lan,Lcm]at hk;refine Tr.grow (ρ:=Nat) (fun _=>True) (fun q=> .slice (some ⟨q,0,none⟩) 0 m) (fun q=>[⟨q,[],E,m⟩]) (hk.1.imp nbeq' nbeq') (Ax hg) (B6 (nblt hk.2)) ⟨known2 hx hy,fun l hl=>?_,fun a w hf hh=>?_⟩ (fun q _=>k q)
  · obtain⟨q,_,hq⟩:=fresh_is 0 l
    refine⟨q,trivial,?_⟩;simp only[Lcd,Lao,Lb0];exact⟨fun h=>by obtain⟨b,hb,e⟩:=La6.1 h;exact hq b hb e,hl⟩
  · have h1:=hf x (by simp[Op.operands]);rw[hx]at h1
    have h2:=hf y (by simp[Op.operands]);rw[hy]at h2;simp only[La3]at h1 h2;have rs:=Cf hs;unfold Sz at hs;unfold Zr at hz;unfold By at hb;cases hi:C.P.info? E with
    |none=>rw[hi]at hs;simp at hs
    | some i=>
      rw[hi]at hs hz hb;simp only[Lbj,La3,Lbr]at hs hz hb;have wn:IntKind.i64.wrap (m:Int)=m:=i64_wrap oM;have w0:IntKind.i64.wrap 0=0:=by decide
      have hm:by'*m≤64*1000000:=Lca hby hn;have hm2:((by':Int)*m)=((by'*m:Nat):Int):=by simp
      have n1:¬((m:Int)<0):=by omega
      have n2:¬(281474976710656<(i.bytes:Int)*m):=by rw[hb,hm2];omega
      have n5:¬(140737488355328<m*i.bytes):=by rw[hb,Lb5];omega
      have hrun:(execOp a.eval ⟨some d, .makeSlice T x y,ty,pos,af,g⟩).run C.P w= .ok (.value (.slice (some ⟨w.heap.size,0,none⟩) 0 m)) { w with heap:=w.heap.push (.cells (Array.replicate m z) E) }:=by
        by_cases h0:m=0
        · subst h0
          simp[execOp,Instr.makeSlice,run_underlying hu,asInt,asIntOf,typeInfo,hi,rs,zeroValue,hz,←h1,←h2,w0,newRow,newObj,askRoom,roomBytes];simp[Sem.run];have e0:Array.map (fun _=>(default:Value)) (Array.range 0)= #[]:=Leb sP;rw[e0]
        · simp[execOp,Instr.makeSlice,run_underlying hu,asInt,asIntOf,typeInfo,hi,rs,zeroValue,hz,←h1,←h2,wn,w0,n1,n2,n5,h0,newRow,newObj,askRoom,roomBytes,row_eq m z hc]
          simp[Sem.run]
      unfold Oper.wp;rw[hrun];refine⟨w.heap.size,trivial,rfl,⟨⟨rfl,rfl,rfl,by simp,Laf _,fun k hk _=>?_⟩,fun b hb=>?_,by simp,fun b hb=>?_⟩⟩
      · simp only[Lbx]
        rw[if_neg oM]
      · obtain rfl:=La1.1 hb
        exact⟨Array.replicate m z,(0,0),by simp,by simp,by simp,free0⟩
      · obtain rfl:=La1.1 hb
        exact .inl (Laf _)
end
def SRounds(C:Cx)(body:Code)(Q:Exit→St→Prop):Nat→St→Prop
  |0,_=>False
  |n+1,s=>Sat C body s (thenQ (SRounds C body Q n) Q)
variable{C:Cx}{body:Code}
theorem SRounds.more{Q:Exit→St→Prop}{n:Nat}{s:St}(h:Sat C body s (thenQ (SRounds C body Q n) Q)):SRounds C body Q (n+1) s:=h
theorem Sat.rounds{Q:Exit→St→Prop}(n:Nat){s:St}(h:SRounds C body Q n s):Sat C (.loop body) s Q:=by
  intro a w r;refine wp_loop_rounds n ?_
  induction n generalizing s a w with
  |zero=>exact h.elim
  | succ n ih=>
    rw[rounds_succ];refine wp_mono (h a w r) fun e a' w' ⟨s',r',q⟩=>?_;cases e with
    |normal=>exact ih q a' w' r'
    |_=>exact⟨s',r',q⟩
theorem lent_ok{L:List Blk}{lent:List Nat}(h:L.map (·.n)=lent):∀n∈lent,∃b∈L,b.n=n:=fun n hn=>by
  subst h;obtain⟨b,hb,rfl⟩:=La6.1 hn;exact⟨b,hb,rfl⟩
section
variable{X Y l l' l'' hp hp1 R:List Blk}{x B:Blk}{n:Nat}{cs cs':List Value}{T:TypeId}{m m':Nat}
theorem Cs(h:l.Perm (B::l')):(X++l).Perm (B::(X++l')):=(Lcl X h).trans Leh
theorem sg_here:(X++l).Perm (X++l):= .refl _
theorem sg_there(h:l.Perm (X++l')):(x::l).Perm (X++(x::l')):=(List.Perm.cons x h).trans Leh.symm
theorem sg_seg(h:l.Perm (X++l')):(Y++l).Perm (X++(Y++l')):=by
  refine(Lcl Y h).trans ?_;rw[←La8,←La8];exact Ld5 l' Les
theorem sp_x{A K:List Blk}(h:l.Perm (A++K)):(X++l).Perm ((X++A)++K):=by rw[La8];exact Lcl X h
theorem sg_end:X.Perm (X++[]):=by rw[Lak]
theorem Ak:hp.Perm ([]++hp):= .refl _
theorem Ab(h:hp.Perm (x::hp1))(k:hp1.Perm (l++R)):hp.Perm ((x::l)++R):=h.trans (.cons x k)
theorem pm_consE(h:hp.Perm (⟨n,cs,T,m⟩::hp1))(e:cs=cs')(e2:m=m')(k:hp1.Perm (l++R)):hp.Perm ((⟨n,cs',T,m'⟩::l)++R):=by subst e;subst e2;exact Ab h k
theorem Ad(h:hp.Perm (X++hp1))(k:hp1.Perm (l++R)):hp.Perm ((X++l)++R):=by
  rw[La8];exact h.trans (Lcl X k)
theorem pm_two(h:hp.Perm ((X++(Y++l))++R)):hp.Perm (((X++Y)++l)++R):=by rwa[La8 X Y l]
theorem pm_none(h:hp.Perm (l++R)):hp.Perm (([]++l)++R):=h
theorem mem_seg(h:B∈l):B∈X++l:=Lb6 _ h
theorem Bu:∀b∈X,b∈X++l:=fun b hb=>Lax _ hb
theorem in_all:∀b∈X,b∈X:=fun b hb=>hb
theorem Cc(h:∀b∈X,b∈l):∀b∈X,b∈x::l:=fun b hb=>Laa _ (h b hb)
theorem in_seg(h:∀b∈X,b∈l):∀b∈X,b∈Y++l:=fun b hb=>Lb6 _ (h b hb)
theorem Upd.seg{b:Nat}(h:Upd l b cs T m cs' l'):Upd (X++l) b cs T m cs' (X++l'):=by
  induction X with
  |nil=>exact h
  |cons x X ih=>exact .tail ih
end
variable{C:Cx}{R:Value→List Blk→Prop}{bl hp:List Blk}{w:World}
theorem An{sl sl':List (Nat×Value)}{hp hp' R:List Blk}(h1:wkl sl sl')(h2:hp.Perm (hp'++R)):Weak ⟨sl,hp⟩ ⟨sl',hp'⟩:=
  ⟨wkl_mem h1,fun b hb=>h2.symm.subset (Lax _ hb),fun h=>by
    have:=(h2.map (·.n)).nodup_iff.1 h;rw[Lae,Lav]at this;exact this.1⟩
theorem A3{fn:Func}{s:St}{v:Value}{out K:List Blk}(hr:Res C fn s v)(hp:s.hp.Perm (out++K))(h:R v out):endAt C fn R s:=
  ⟨v,out,hr,fun b hb=>hp.symm.subset (Lax _ hb),fun hn=>by
    have:=(hp.map (·.n)).nodup_iff.1 hn;rw[Lae,Lav]at this;exact this.1,h⟩
theorem Meets.imp{P:Program}{f:FuncId}{args:List Value}{lent:List Nat}{Pre Pre':World→Prop}{R R':Value→List Blk→Prop}(h:Meets P f args lent Pre R)(hp:∀w,Pre' w→Pre w)(hr:∀v out,R v out→R' v out):Meets P f args lent Pre' R':=
  fun W hW=>(h W (hp W hW)).mono fun e W' ⟨v,out,h1,h2,h3⟩=>⟨v,out,h1,hr v out h2,h3⟩
structure Hid(p:Prop):Prop where
  out:p
def Lies(bl:List Blk)(w:World):Prop:=∀b∈bl,BlkOk w b
theorem Lies.of(h:HRep C hp w)(hb:∀b∈bl,b∈hp):Lies bl w:=fun b hb'=>h.cells b (hb b hb')
theorem Lies.sub{bl bl':List Blk}(h:Lies bl w)(hb:∀b∈bl',b∈bl):Lies bl' w:=fun b hb'=>h b (hb b hb')
theorem Lies.keep{ex:List Nat}{w w':World}(h:Lies bl w)(k:Keeps ex w w')(hn:∀b∈bl,b.n∉ex):Lies bl w':=fun b hb=>(h b hb).of_heap (k.block b.n (h b hb).lt (hn b hb))
def Acc(s:Sl)(bl:List Blk)(cells:List Value)(E:TypeId)(n size:Nat):Prop:=
  (s=Sl.nil∧bl=[]∧cells=[]∧n=0)∨∃q c,s=⟨some ⟨q,0,none⟩,n,c⟩∧n≤c∧cells.length=n*size∧bl=[⟨q,cells,E,c*size⟩]
section
variable{s:Sl}{bl:List Blk}{cells:List Value}{E:TypeId}{n size:Nat}
theorem Acc.none:Acc Sl.nil [] [] E 0 size:= .inl ⟨rfl,rfl,rfl,rfl⟩
theorem Acc.some{q c:Nat}(h:n≤c)(hl:cells.length=n*size):Acc ⟨.some ⟨q,0, .none⟩,n,c⟩ [⟨q,cells,E,c*size⟩] cells E n size:= .inr ⟨q,c,rfl,h,hl,rfl⟩
theorem Acc.num(h:Acc s bl cells E n size):s.n=n:=by rcases h with ⟨rfl,_,_,rfl⟩|⟨q,c,rfl,_⟩<;>rfl
theorem Acc.cap(h:Acc s bl cells E n size):s.n≤s.c:=by rcases h with ⟨rfl,_⟩|⟨q,c,rfl,h,_⟩;exact Laf _;exact h
theorem Acc.nil(h:Acc s bl cells E n size)(hp:s.p= .none):s.n=0:=by rcases h with ⟨rfl,_⟩|⟨q,c,rfl,_⟩;rfl;cases hp
theorem Acc.nilc(h:Acc s bl cells E n size)(hp:s.p= .none):s.c=0:=by rcases h with ⟨rfl,_⟩|⟨q,c,rfl,_⟩;rfl;cases hp
theorem Acc.see(h:Acc s bl cells E n size){w:World}(hw:Lies bl w):SeesP w s.p cells:=by
  rcases h with ⟨_,_,rfl,_⟩|⟨q,c,rfl,_,_,rfl⟩
  ·exact SeesP.nil
  · refine SeesP.of fun j v hj=>?_
    have:=(hw _ (La1.2 rfl)).cell (o:=0+j) (v:=v) (by simpa using hj);simpa using this
end
section
variable{C:Cx}{ops:Array Oper}{rest:List (Nat×Oper)}{sl:List (Nat×Value)}{hp hp':List Blk}{Q:St→Prop}{c d:Nat}{ty:TypeId}{pos:String}{af:Array Edge}{g:Option (Nat×Bool)}
variable{p:Option Addr}
theorem Tr.appendAcc{x y:Operand}{s:Sl}{bl:List Blk}{n m size by' c2:Nat}{T tx E E2:TypeId}{z:Value}{olds:List Value}(news:List Value)(hg:Ah ops sl g=true)(hc:Nat.beq c 4=true)(hd:Nat.blt d C.N=true)
    (hx:Ag sl x=some s.v) (hy:Ag sl y=some (.slice p m c2)) (hu:C.P.underlying T=some (.slice E)) (hut:C.P.underlying tx=some (.slice E2)) (hs:Sz C.P E size) (hz:Zr C.P E z) (hb:By C.P E by') (hzc:z.cells.size=size)
    (hacc:Acc s bl olds E n size) (hp1:hp.Perm (bl++hp')) (hsee:∀w,HRep C hp w→SeesP w p news) (hpn:p=none→m=0) (hcell:∀u∈news,isCell u=true)
    (hbig:n+m≤1000000) (hfit:(n+m)*by'≤140737488355328) (hnl:news.length=m*size)
    (k:∀s' bl',Acc s' bl' (olds++news) E (n+m) size→Tr C ops rest ⟨(d,s'.v)::sl,bl'++hp'⟩ Q):
    Tr C ops ((c,⟨some d, .call { callee:= .builtin .append,args:= #[x,y],argTypes:= #[T,tx] },ty,pos,af,g⟩)::rest) ⟨sl,hp⟩ Q:=by
  rcases hacc with ⟨rfl,rfl,rfl,rfl⟩|⟨q,cp,rfl,hnc,hol,rfl⟩
  · rw [Lal]at hp1
    simp only[Lb2,Lal]at k hbig hfit;by_cases hm:m=0
    · subst hm
      have hnil:news=[]:=by simpa using hnl
      subst hnil;refine Tr.act (ρ:=Unit) (fun _=>True) (fun _=> .slice none 0 0) (fun _=>hp') (nbeq' hc) (Ax hg) (B6 (nblt hd)) ⟨by simpa[Known,Op.operands,Call.operands]using known2 hx hy,fun a w hf hh=>?_⟩ (fun _ _=>k Sl.nil [] Acc.none);have h1:=hf x (by simp[Op.operands,Call.operands]);rw[hx]at h1;have h2:=hf y (by simp[Op.operands,Call.operands]);rw[hy]at h2;simp only[La3,Sl.v,Sl.nil]at h1 h2;have rs:=Cf hs;unfold Oper.wp;have hex:(execOp a.eval ⟨some d, .call { callee:= .builtin .append,args:= #[x,y],argTypes:= #[T,tx] },ty,pos,af,g⟩).run C.P w= .ok (.value (.slice none 0 0)) w:=by
        cases p<;>simp[execOp,resolve,invoke,builtin,←h1,←h2,Builtin.append_,run_underlying hu,run_underlying hut,rs,Builtin.lenOf,Builtin.firstCells,loadCells,loadCellsFrom,storeCells]
      rw[hex];exact⟨(),trivial,rfl,hh.perm hp1⟩
    · refine Tr.act (ρ:=Nat×Nat) (fun r=>m≤r.2) (fun r=> .slice (some ⟨r.1,0,none⟩) m r.2) (fun r=>⟨r.1,news,E,r.2*size⟩::hp') (nbeq' hc) (Ax hg) (B6 (nblt hd))
        ⟨by simpa[Known,Op.operands,Call.operands]using known2 hx hy,fun a w hf hh=>?_⟩ (fun r hr=>k ⟨some ⟨r.1,0,none⟩,m,r.2⟩ _ (Acc.some hr hnl))
      have h1:=hf x (by simp[Op.operands,Call.operands]);rw[hx]at h1;have h2:=hf y (by simp[Op.operands,Call.operands]);rw[hy]at h2;simp only[La3,Sl.v,Sl.nil]at h1 h2;have hsz:=hs;unfold Sz at hs;unfold Zr at hz;unfold By at hb;cases hi:C.P.info? E with
      |none=>rw[hi]at hs;simp at hs
      | some i=>
        rw[hi]at hs hz hb;simp only[Lbj,La3,Lbr]at hs hz hb;subst hs;have hS:Src C.P i.size tx (.slice p m c2) m news w:=Src.ofP hut (hsee w hh) hpn hnl hcell;have hrun:=run_append_grow_src (P:=C.P) w T tx ty E i z hu hi hz none 0 0 [] (by simp[Builtin.firstCells]) _ m news hS oM oM (growslice_fits oM (by rw[hb];simpa using hfit));simp only[Lb2,Lal]at hrun;have hge:=grownCap_ge w m 0 E;unfold Oper.wp;have hex:(execOp a.eval ⟨some d, .call { callee:= .builtin .append,args:= #[x,y],argTypes:= #[T,tx] },ty,pos,af,g⟩).run C.P w= .ok (.value (.slice (some ⟨w.heap.size,0,none⟩) m (grownCap w m 0 E))) (w.drew.alloc (.cells (news.toArray++Builtin.zeroCells z.cells (grownCap w m 0 E-m)) E)):=by
          simp[execOp,resolve,invoke,builtin,←h1,←h2,hrun]
        rw[hex];refine⟨(w.heap.size,grownCap w m 0 E),hge,rfl,?_⟩;have hret:Ret [] [⟨w.heap.size,news,E,grownCap w m 0 E*i.size⟩] w (w.drew.alloc (.cells (news.toArray++Builtin.zeroCells z.cells (grownCap w m 0 E-m)) E)):=Ret.pushD _ _ _ _ (by
          have e:grownCap w m 0 E*i.size=m*i.size+(grownCap w m 0 E-m)*i.size:=by rw[←Lc3];congr 1;omega
          simp[Builtin.zeroCells,hnl,hzc,e]) sP
        exact(hh.perm hp1).grown hret
  · refine Tr.appendSl (z:=z) (by':=by') news hg hc hd hx hy hu hut hs hz hb hzc hsee hpn hcell hp1 rfl hol hnc hbig hfit hnl (fun q' c' hq=>?_)
    exact k ⟨some ⟨q',0,none⟩,n+m,c'⟩ _ (Acc.some hq (by rw[La5,hol,hnl,Lc3]))
theorem Tr.copyP{x y:Operand}{b o n cap1 m2 c2:Nat}{cs vs cs':List Value}{BT T T2 E:TypeId}{m:Nat}(src:List Value)(k0:Nat)(hg:Ah ops sl g=true)(hc:Nat.beq c 4=true)(hd:Nat.blt d C.N=true)
    (hx:Ag sl x=some (.slice (some ⟨b,o,none⟩) n cap1)) (hy:Ag sl y=some (.slice p m2 c2)) (hu:C.P.underlying T=some (.slice E)) (hs:Sz C.P E 1)
    (hsee:∀w,HRep C hp w→SeesP w p src) (hpn:p=none→m2=0) (hsl:src.length=m2) (hk0:min n m2=k0) (hvs:src.take k0=vs) (hcell:∀u∈src,isCell u=true) (hb:(⟨b,cs,BT,m⟩:Blk)∈hp) (hl:o+k0≤cs.length) (hcs:upd cs o vs=cs') (hup:Upd hp b cs BT m cs' hp')
    (k:Tr C ops rest ⟨(d,i64 (k0:Int))::sl,hp'⟩ Q):Tr C ops ((c,⟨some d, .call { callee:= .builtin .copy,args:= #[x,y],argTypes:= #[T,T2] },ty,pos,af,g⟩)::rest) ⟨sl,hp⟩ Q:=by
  refine Tr.act (ρ:=Unit) (fun _=>True) (fun _=>i64 (k0:Int)) (fun _=>hp') (nbeq' hc) (Ax hg) (B6 (nblt hd)) ⟨by simpa[Known,Op.operands,Call.operands]using known2 hx hy,fun a w hf hh=>?_⟩ (fun _ _=>k);have h1:=hf x (by simp[Op.operands,Call.operands]);rw[hx]at h1;have h2:=hf y (by simp[Op.operands,Call.operands]);rw[hy]at h2;simp only[La3]at h1 h2;have hvl:vs.length=k0:=by rw[←hvs,Lar,hsl];omega
  obtain⟨full,fr,hbk⟩:=hh.cells _ hup.mem;have hpl:=hbk.pre.length_le;simp only[Lcw]at hpl;have hlt:=(hh.cells _ hup.mem).lt;have hfc:(Builtin.firstCells 1 k0 (.slice p m2 c2)).run C.P w= .ok vs.toArray w:=by
    cases p with
    | none=>
      have:=hpn rfl;subst this;have:vs=[]:=Las oM;subst this;simp[Builtin.firstCells,←hk0,loadCells,loadCellsFrom]
    | some ad=>
      refine run_firstCells_some w 1 k0 ad m2 c2 vs (by rw[hvl,Lb3]) fun j v hj=>?_;have hj':src[j]? =some v:=by
        rw[←hvs,Lbn]at hj;split at hj
        ·exact hj
        ·cases hj
      obtain⟨b2,o2,e,hcc⟩:=hsee w hh j v hj';simp only[La3]at e;subst e;rw[Bo];exact hcc
  have hk1:m2.min n=k0:=by rw[←hk0];exact Nat.min_comm m2 n
  have hst:=run_storeCells (P:=C.P) (b:=b) (o:=o) vs 0 w full hbk.heap oM (by rw[hbk.size];exact hbk.free) (fun u hu=>hcell u (by rw[←hvs]at hu;exact Le3 hu));have hrun:(execOp a.eval ⟨some d, .call { callee:= .builtin .copy,args:= #[x,y],argTypes:= #[T,T2] },ty,pos,af,g⟩).run C.P w= .ok (.value (i64 (k0:Int))) (setBlk w b (B4 full o vs) BT fr):=by
    simp[execOp,resolve,invoke,builtin,Builtin.copy_,←h1,←h2,run_underlying hu,Builtin.lenOf,Cf hs,hk1,hfc,hst,goInt]
  unfold Oper.wp;rw[hrun];refine⟨(),trivial,rfl,hh.upd hup hlt (by rw[putAll_size];exact hbk.size) ?_ hbk.free⟩;rw[←hcs];exact upd_pre hbk.pre (by rw[hvl];exact hl)
variable{f:Operand}{fid:FuncId}{ars:List Operand}{ats:Array TypeId}{vs us:List Value}{fst cap:Array Value}
theorem Tr.call4{Pre:World→Prop}{R:Value→List Blk→Prop}(hg:Ah ops sl g=true)(hk:Nat.beq c 4=true)(hd:Nat.blt d C.N=true)(hfn:Ag sl f=some (.func (.func fid) #[] #[]))(hargs:evs sl ars=some vs)(hb:Aw C.P fid)
    (hc:Meets C.P fid vs [] Pre R) (hpre:∀w,HRep C hp w→Pre w)
    (k:∀v out,R v out→Tr C ops rest ⟨(d,v)::sl,out++hp⟩ Q):Tr C ops ((c,⟨some d, .call ⟨.value f,ars.toArray,ats⟩,ty,pos,af,g⟩)::rest) ⟨sl,hp⟩ Q:=by
  refine Tr.act (ρ:=Value×List Blk) (fun r=>R r.1 r.2) (·.1) (fun r=>r.2++hp) (nbeq' hk) (Ax hg) (B6 (nblt hd)) ⟨known_call hfn hargs,fun a w hf hh=>?_⟩ (fun r hr=>k r.1 r.2 hr);unfold Oper.wp;rw[run_call hfn hargs hf,hb];refine(hc w (hpre w hh)).mono fun e w' ⟨v,out,he,hR,hret⟩=>?_;subst he;exact⟨(v,out),hR,rfl,hh.grown hret⟩
end
def FW(ro:Option Nat):Fence:={ Fence.wide with round:=ro }
def noDefer(ops:Array Oper):Bool:=ops.all fun o=>match o.op with| .defer _=>false|_=>true
theorem noDefer_at{ops:Array Oper}(h:noDefer ops=true){i:Nat}{o:Oper}(hi:ops[i]? =some o):∀c,o.op≠ .defer c:=fun c hc=>by
  obtain⟨hlt,he⟩:=Lcp.1 hi;have:=(Array.all_eq_true.1 h) i hlt;rw[he,hc]at this;cases this
section
variable{ro:Option Nat}{n:Nat}{P:Program}
variable{K:Act→World→Prop}{X:Exit→Act→World→Prop}{args:Array Value}{w:World}
theorem calls_FW{f:FuncId}{R R':Ending→World→Prop}(h:Calls P f args w R)(hr:∀e w,R e w→R' e w):CallsIn (FW ro) n P f args w R':=
  show CallsIn Fence.wide n P f args w R' from callsIn_wide.2 (h.mono hr)
theorem rows_FW{row:String}{R:Value→World→Prop}(h:Rows P row args w R):RowsIn (FW ro) n P row args w R:=
  show RowsIn Fence.wide n P row args w R from fun c cs _=>let ⟨v,w',r,s⟩:=h c cs;⟨v,w',r,stepsIn_wide.2 s⟩
theorem wp_in{o:Oper}{a:Act}(h:Oper.wp P o a w K X)(hnd:∀c,o.op≠ .defer c):Oper.wpIn (FW ro) n P o a w K X:=by
  refine⟨fun f _=>trivial,?_⟩;rw[Oper.semAt_eq _ _ _ hnd];unfold Oper.wp at h;generalize(execOp a.eval o).run P w=r at h ⊢;cases r with
  | ok x w'=>
    cases x<;>simp only[Oper.upon]at h<;>simp only[Oper.uponIn]
    case value=>exact h
    case skip=>exact h
    case defer=>exact h
    case enter f args=>exact⟨fun h0=>(by cases h0),calls_FW h fun e w h=>h⟩
    case row=>exact⟨fun h0=>(by cases h0),rows_FW h⟩
  |halt x w'=>cases x<;>simp only[Oper.upon]at h<;>simp only[Oper.uponIn]<;>exact h
theorem wpOp_in{ops:Array Oper}{i:Nat}{a:Act}(h:wpOp P ops X i K a w)(hnd:noDefer ops=true)(hX:∀a w,¬X .outgrown a w):wpOpIn (FW ro) n P ops X i K a w:=by
  unfold wpOp at h;unfold wpOpIn;cases ho:ops[i]? with
  |none=>rw[ho]at h;exact h
  | some o=>
    rw[ho]at h;simp only at h ⊢;split
    · rename_i hw
      rw[if_pos hw]at h;rcases h with h|⟨_,a0,w0,h⟩
      ·exact wp_in h (noDefer_at hnd ho)
      ·exact absurd h (hX a0 w0)
    · rename_i hw
      rw[if_neg hw]at h;exact⟨fun f _=>trivial,h⟩
theorem wpOps_in{ops:Array Oper}{X:Exit→Act→World→Prop}(hnd:noDefer ops=true)(hX:∀a w,¬X .outgrown a w):∀(l:List Nat) (a:Act) (w:World),wpOps P ops X l a w→wpOpsIn (FW ro) n P ops X l a w
  | [],a,w,h=>h
  | i::l,a,w,h=>by
    rw[wpOps_cons]at h;rw[wpOpsIn_cons];exact wpOpIn_mono (fun a w h=>wpOps_in hnd hX l a w h) (wpOp_in h hnd hX)
end
def SatI(ro:Option Nat)(C:Cx)(code:Code)(s:St)(Q:St→Prop):Prop:=
  ∀a w,Rep C s a w→code.wpIn (FW ro) 0 C.P (Fin C Q) a w
variable{C:Cx}{ops:List Oper}{ro:Option Nat}
theorem fin_out{Q:St→Prop}:∀a w,¬Fin C Q .outgrown a w:=fun a w h=>by cases h.1
theorem SatI.region{id:Nat}{s:St}{Q:St→Prop}(hnd:noDefer ops.toArray=true)(h:Tr C ops.toArray (ops.map fun o=>(4,o)) s Q):SatI ro C (.region id ops.toArray false) s Q:=by
  intro a w r;refine wpIn_region (wpOps_in hnd fin_out _ _ _ (wpOps_of_tr _ _ s a w _ sP (fun k=>?_) r h fun s' a' w' r' q=>⟨rfl,s',r',q⟩));by_cases hk:k<ops.length
  ·simp[hk]
  ·simp[hk]
theorem SatI.draw{id:Nat}{s:St}{Q:St→Prop}(perm:List (Nat×Nat))(hm:C.P.follows .mixedOrders=true)(hok:orderOk ops.toArray perm=true)(hnd:noDefer ops.toArray=true)
    (h:Tr C ops.toArray (items ops.toArray perm) s Q):SatI ro C (.region id ops.toArray true) s Q:=by
  intro a w r;have hlen:perm.length≤ops.length:=by
    simp only[orderOk,Lan]at hok;have hnd:=topo_nodup perm [] hok.1.1;have hlt:∀x∈perm.map (·.2),x∈List.range ops.length:=fun x hx=>by
      obtain⟨p,hp,rfl⟩:=La6.1 hx;have:=(topo_mem perm [] hok.1.1 p hp).1;simpa using this
    have:=hnd.length_le_of_subset hlt;simpa using this
  have h0:perm.filter (fun p=> !(Array.replicate ops.toArray.size false).getD p.2 false)=perm:=Lf7.2 fun p _=>by
    rw[Ldt,Le8];split<;>rfl
  have:=wpAny_of_tr (C:=C) hok ops.toArray.size (Array.replicate ops.toArray.size false) s a { w with drawn:=w.drawn+1 } Q sP
    (fun j hj=>by
      rw[Ldt,Le8]at hj;split at hj<;>simp at hj) (by rw[h0];simpa using hlen) ⟨r.rs,r.rh.drew _⟩ (by rw[h0];exact h)
  refine wpIn_region_draw fun t=>?_;simp only[Region.schedule,hm,Bool.true_or,if_true];exact wpOps_in hnd fin_out _ _ _ (wpAny_sound ops.toArray.size t _ a _ this)
theorem SatI.block{id:Nat}{x:Code}{s:St}{Q:St→Prop}(h:SatI ro C x s Q):SatI ro C (.block id x) s Q:=fun a w r=>
  wpIn_block (wpIn_mono (h a w r) fun e a w ⟨he,q⟩=>by subst he;exact⟨rfl,q⟩)
theorem HRep.ofRet{P:Program}{w w':World}{names:List Nat}{hp:List Blk}(h:Ret names hp w w')(hn:hp.map (·.n)=names):HRep ⟨P,w,0,names,[],[]⟩ hp w':=
  ⟨h.cells,h.nodup,fun b hb=> .inr (by show b.n∈names;rw[←hn];exact La6.2 ⟨b,hb,rfl⟩),h.keeps,fun _ h=>(by cases h),fun _ _ _ h=>(by cases h)⟩
theorem acc_pos{s:Sl}{bl:List Blk}{cells:List Value}{E:TypeId}{n size:Nat}(h:Acc s bl cells E n size)(hn:0<n):∃q c,s=⟨some ⟨q,0,none⟩,n,c⟩∧n≤c∧bl=[⟨q,cells,E,c*size⟩]:=by
  rcases h with ⟨_,_,_,rfl⟩|⟨q,c,h1,h2,_,h4⟩
  ·omega
  ·exact⟨q,c,h1,h2,h4⟩
section
variable{C:Cx}{ops:Array Oper}{rest:List (Nat×Oper)}{sl:List (Nat×Value)}{hp:List Blk}{Q:St→Prop}{c d:Nat}{ty:TypeId}{pos:String}{af:Array Edge}{g:Option (Nat×Bool)}
variable{kl:IntKind}{sz:Nat}
theorem Tr.constB{x:Operand}{b n cap:Nat}{T E:TypeId}{cs:List Value}{m:Nat}(hg:Ah ops sl g=true)(hc:Nat.beq c 4=true)(hd:Nat.blt d C.N=true)(hx:Ag sl x=some (.slice (some ⟨b,0,none⟩) n cap))(hu:C.P.underlying T=some (.slice E))(he:C.P.underlying E=some (.int .u8))(hb:(⟨b,cs,E,m⟩:Blk)∈hp)
    (k:Tr C ops rest ⟨(d, .slice (some ⟨b,0,none⟩) n cap)::sl,hp⟩ Q):Tr C ops ((c,⟨some d, .convert T T x,ty,pos,af,g⟩)::rest) ⟨sl,hp⟩ Q:=by
  refine Tr.act (ρ:=Unit) (fun _=>True) (fun _=> .slice (some ⟨b,0,none⟩) n cap) (fun _=>hp) (nbeq' hc) (Ax hg) (B6 (nblt hd)) ⟨known1 hx,fun a w hf hh=>?_⟩ (fun _ _=>k);have h1:=hf x (by simp[Op.operands]);rw[hx]at h1;simp only[La3]at h1;obtain⟨full,fr,hbk⟩:=hh.cells _ hb;have hlt:=(hh.cells _ hb).lt;have hsh:w.shape? b=some (E,full.size):=by unfold World.shape?;rw[hbk.heap];rfl
  obtain ⟨fr',hfr',hfree⟩:∃fr',w.freeze ⟨b,full.size,none⟩ 1=setBlk w b full E fr'∧Free fr' m:=by
    refine⟨if fr.1==fr.2 then(full.size,full.size+1)else(min fr.1 full.size,max fr.2 (full.size+1)),?_,?_⟩
    · unfold World.freeze setBlk
      rw[if_neg dE];congr 1;apply Ldy;intro i;rw[Ldo,Lcz];by_cases hi:b=i
      · subst hi
        rw[if_pos rfl,if_pos rfl,if_pos hlt,hbk.heap];rfl
      ·rw[if_neg hi,if_neg hi]
    · have hf:=hbk.free
      have hs:=hbk.size;simp only at hf hs;by_cases e:fr.1=fr.2
      · rw[if_pos (by simpa using e)]
        exact⟨by simp,fun i hi=>by simp;omega⟩
      · rw [if_neg (by simpa using e)]
        have hle:=hf.le;have hm:m≤fr.1:=by
          rcases Lat fr.1 m with h1|h1
          · have:=hf.at' fr.1 h1
            simp at this;omega
          ·exact h1
        exact⟨by simp;omega,fun i hi=>by simp;omega⟩
  have hrun:(execOp a.eval ⟨some d, .convert T T x,ty,pos,af,g⟩).run C.P w= .ok (.value (.slice (some ⟨b,0,none⟩) n cap)) (setBlk w b full E fr'):=by
    simp[execOp,convert,←h1,run_underlying hu,run_underlying he,markStringish,hsh,hfr']
  unfold Oper.wp;rw[hrun];have hup:Upd hp b cs E m cs hp:=by
    clear hh k hf
    induction hp with
    |nil=>cases hb
    | cons y l ih=>
      rcases Lag.1 hb with rfl|h
      ·exact .head
      ·exact .tail (ih h)
  exact⟨(),trivial,rfl,hh.upd hup hlt hbk.size hbk.pre hfree⟩
theorem Tr.sliceArrHi{x hi:Operand}{b o len:Nat}{xT E:TypeId}{l:Int}(j:Nat)(hg:Ah ops sl g=true)(hk:okD c d C.N=true)(hx:Ag sl x=some (ptr b o))(hlo:Ag sl hi=some (.int kl l))(hj:l=j)(hlt:j≤len)(hpos:0<len)(hu:C.P.underlying xT=some (.array len E))(hs:Sz C.P E sz)
    (k:Tr C ops rest ⟨(d, .slice (some ⟨b,o,none⟩) j len)::sl,hp⟩ Q):Tr C ops ((c,⟨some d, .slice xT x none (some hi) none,ty,pos,af,g⟩)::rest) ⟨sl,hp⟩ Q:=
  .pv hg hk ⟨by simpa[Known,Op.operands]using known2 hx hlo,fun ρ hfi w=>by
    have h1:=hfi x (by simp[Op.operands]);rw[hx]at h1;have h2:=hfi hi (by simp[Op.operands]);rw[hlo]at h2;simp only[La3]at h1 h2;subst hj;have e:¬(len=0):=by omega
    simp[execOp,Instr.sliceAt,←h1,←h2,run_underlying hu,Instr.sureAddr,Instr.sliceBounds,Instr.sliceBound,asIntOf,Cf hs,Bo,e,hlt]⟩ k
theorem Tr.slice3{x lo hi mx:Operand}{b o n cap:Nat}{T E:TypeId}{kl kh km:IntKind}{l h m:Int}(i j t:Nat)(hg:Ah ops sl g=true)(hk:okD c d C.N=true)(hx:Ag sl x=some (.slice (some ⟨b,o,none⟩) n cap))(hl:Ag sl lo=some (.int kl l))(hh:Ag sl hi=some (.int kh h))(hm:Ag sl mx=some (.int km m))(hi':l=i)(hj:h=j)(ht:m=t)(hij:i≤j)(hjt:j≤t)(htc:t≤cap)
    (hu:C.P.underlying T=some (.slice E)) (hs:Sz C.P E sz)
    (k:Tr C ops rest ⟨(d, .slice (some ⟨b,if t=i then o else o+i*sz,none⟩) (j-i) (t-i))::sl,hp⟩ Q):Tr C ops ((c,⟨some d, .slice T x (some lo) (some hi) (some mx),ty,pos,af,g⟩)::rest) ⟨sl,hp⟩ Q:=
  .pv hg hk ⟨fun z hz=>by
    simp[Op.operands]at hz;rcases hz with rfl|rfl|rfl|rfl
    ·simp[hx]
    ·simp[hl]
    ·simp[hh]
    ·simp[hm],fun ρ hfi w=>by
    have h1:=hfi x (by simp[Op.operands]);rw[hx]at h1;have h2:=hfi lo (by simp[Op.operands]);rw[hl]at h2;have h3:=hfi hi (by simp[Op.operands]);rw[hh]at h3;have h4:=hfi mx (by simp[Op.operands]);rw[hm]at h4;simp only[La3]at h1 h2 h3 h4;subst hi';subst hj;subst ht;by_cases e:t=i
    · subst e
      simp[execOp,Instr.sliceAt,Instr.slice,←h1,←h2,←h3,←h4,run_underlying hu,Instr.sliceBounds,Instr.sliceBound,asIntOf,Cf hs,Bo,hjt,hij,htc]
    ·simp[execOp,Instr.sliceAt,Instr.slice,←h1,←h2,←h3,←h4,run_underlying hu,Instr.sliceBounds,Instr.sliceBound,asIntOf,Cf hs,Bo,e,hjt,hij,htc]⟩ k
end
def YOp(C:Cx)(y:Oper)(s:St)(K:St→Prop):Prop:=y.guard=none∧∀a w,Rep C s a w→y.wpIn Fence.wide 0 C.P a w (fun a' w'=>∃s2,Rep C s2 a' w'∧K s2) (fun _ _ _=>False)
variable{N:Nat}{P:Program}{hp:List Blk}{w:World}
theorem Sat.regionY{C:Cx}{id:Nat}{ops:List Oper}{s:St}{Q:Exit→St→Prop}(k:Nat){y:Oper}(hy:ops[k]? =some y)(hnd:noDefer ops.toArray=true)
    (h:Tr C ops.toArray ((ops.take k).map fun o=>(4,o)) s (fun s1=>YOp C y s1 fun s2=>Tr C ops.toArray ((ops.drop (k+1)).map fun o=>(4,o)) s2 (Q .normal))):Sat C (.region id ops.toArray false) s Q:=by
  intro a w r;refine wpIn_wide (n:=0).1 ?_;refine wpIn_mono (Q:=Fin C (Q .normal)) ?_ fun e a' w' ⟨he,s',r',q⟩=>by subst he;exact⟨s',r',q⟩
  have hk:k<ops.length:=by
    rcases Lat k ops.length with h1|h1
    ·exact h1
    ·rw[Lam h1]at hy;cases hy
  refine wpIn_region ?_;have e:List.range ops.toArray.size=List.range k++k::List.range' (k+1) (ops.length-(k+1)):=by
    rw[Lex,List.range_eq_range',List.range_eq_range',show ops.length=k+(1+(ops.length-(k+1))) by omega,←List.range'_append_1,←List.range'_append_1];simp;omega
  rw [e];have hB:∀s2 a w,Rep C s2 a w→Tr C ops.toArray ((ops.drop (k+1)).map fun o=>(4,o)) s2 (Q .normal)→wpOpsIn Fence.wide 0 C.P ops.toArray (Fin C (Q .normal)) (List.range' (k+1) (ops.length-(k+1))) a w:=fun s2 a w r2 h2=>by
    refine wpOps_in (ro:=none) hnd fin_out _ _ _ (wpOps_of_tr _ _ s2 a w _ sP (fun j=>?_) r2 h2 fun s' a' w' r' q=>⟨rfl,s',r',q⟩);by_cases hj:j<ops.length-(k+1)
    · rw[List.getElem?_range' hj]
      simp only[Lbr,Lai,Lb9,List.getElem?_toArray,Ldg];cases ops[k+1+j]? <;>rfl
    · rw[Lam (by simp;omega),Lai,Lb9,Lam oM]
      rfl
  have hA : ∀(l:List (Nat×Oper)) (is:List Nat) (s:St) (a:Act) (w:World),is.length=l.length→(∀j:Nat,(is[j]?).bind (fun i=>ops.toArray[i]?)=(l[j]?).map Prod.snd)→Rep C s a w→
      Tr C ops.toArray l s (fun s1=>YOp C y s1 fun s2=>Tr C ops.toArray ((ops.drop (k+1)).map fun o=>(4,o)) s2 (Q .normal))→
      wpOpsIn Fence.wide 0 C.P ops.toArray (Fin C (Q .normal)) (is++k::List.range' (k+1) (ops.length-(k+1))) a w:=by
    intro l
    induction l with
    | nil =>
      intro is s a w hl _ r h;have:is=[]:=Las hl;subst this;cases h with
      |dup h=>exact absurd r.rh.nodup h
      | nil h=>
        rw[Lal,wpOpsIn_cons];unfold wpOpIn;have hy':ops.toArray[k]? =some y:=by simpa using hy
        rw[hy'];simp only;rw[if_pos (by unfold Region.wanted;rw[h.1])];have:=h.2 a w r;refine Oper.wpIn_mono (K:=fun a' w'=>∃s2,Rep C s2 a' w'∧Tr C ops.toArray ((ops.drop (k+1)).map fun o=>(4,o)) s2 (Q .normal)) (fun a' w' ⟨s2,r2,h2⟩=>hB s2 a' w' r2 h2) ?_;unfold Oper.wpIn at this ⊢;refine⟨this.1,?_⟩;have:=this.2;generalize(y.semAt Fence.wide.round a.eval).run C.P w=res at this ⊢;cases res with
        | ok x w'=>
          cases x<;>simp only[Oper.uponIn]at this ⊢
          case value=>exact this
          case skip=>exact this
          case defer=>exact this
          case enter f args=>
            refine⟨this.1,CallsIn.mono this.2 fun e w'' he=>?_⟩;cases e with
            |returned v=>exact he
            |panicked ch=>exact he.elim
            |outgrown=>exact he.elim (fun _ hx=>hx.elim (fun _ hy=>hy.elim))
          case row row args=>exact this
          case round l f tmps ars bd=>
            refine⟨this.1,RoundIn.mono this.2 fun e w'' he=>?_⟩;cases e with
            |returned v=>exact he
            |panicked ch=>exact he.elim
            |outgrown=>exact he.elim (fun _ hx=>hx.elim (fun _ hy=>hy.elim))
        |halt x w'=>cases x<;>simp only[Oper.uponIn]at this
    | cons p l ih=>
      intro is s a w hl he r h;obtain⟨c,o⟩:=p;cases is with
      |nil=>cases hl
      | cons i is=>
        rw[Lap,wpOpsIn_cons];have h0:ops.toArray[i]? =some o:=by simpa using he 0
        refine wpOp_in (ro:=none) (X:=Fin C (Q .normal)) (Tr.step h0 h a w r _ (fun s' a' w' r' k'=>?_) _) hnd fin_out;exact ih is s' a' w' (by simpa using hl) (fun j=>by simpa using he (j+1)) r' k'
  refine hA _ (List.range k) s a w (by simp;omega) (fun j=>?_) r h;by_cases hj:j<k
  · rw[List.getElem?_range hj]
    simp only[Lbr,Lai,List.getElem?_toArray];rw[List.getElem?_take_of_lt hj];cases ops[j]? <;>rfl
  · rw[Lam (by simp;omega),Lai,Lam (by simp;omega)]
    rfl
theorem yop{w1:World}{names:List Nat}{sl:List (Nat×Value)}{hp hp':List Blk}{d:Nat}{ty:TypeId}{pos:String}{af:Array Edge}{f x:Operand}{ats:Array TypeId}{l:Nat}{v:Value}{K:St→Prop}(hd:Nat.blt d N=true)
    (hf:Ag sl f=some (.func (.yield l) #[] #[])) (hx:Ag sl x=some v) (hY:∀w,HRep ⟨P,w1,0,names,[],[]⟩ hp w→YieldAt Fence.wide 0 P l #[v] w fun e w'=>e= .returned (.bool true)∧HRep ⟨P,w1,0,names,[],[]⟩ hp' w')
    (k:K ⟨(d, .bool true)::sl,hp'⟩):YOp ⟨P,w1,N,names,[],[]⟩ ⟨some d, .call ⟨.value f, #[x],ats⟩,ty,pos,af,none⟩ ⟨sl,hp⟩ K:=by
  refine⟨rfl,fun a w r=>?_⟩;have h1:=r.rs.eval hf;have h2:=r.rs.eval hx;obtain⟨fn,tmps,ars,bd,hrun,hR⟩:=hY w ⟨r.rh.cells,r.rh.nodup,r.rh.own,r.rh.keeps,r.rh.kok,r.rh.kd⟩;refine⟨fun _ _=>trivial,?_⟩;rw[show(Oper.semAt Fence.wide.round a.eval ⟨some d, .call ⟨.value f, #[x],ats⟩,ty,pos,af,none⟩).run P w= .ok (.round l fn tmps ars bd) w by
    rw[Oper.semAt_eq _ _ _ (by intro c hc;cases hc)];simp[execOp,resolve,Deferred.ofValue,h1,h2,invoke,hrun]]
  simp only[Oper.uponIn];refine⟨fun h0=>(by cases h0),RoundIn.mono hR fun e w' ⟨he,hh⟩=>?_⟩;subst he;exact⟨⟨(d, .bool true)::sl,hp'⟩,⟨r.rs.put (some d) (.bool true) fun t ht=>by cases ht;exact nblt hd,hh.cells,hh.nodup,hh.own,hh.keeps,hh.kok,hh.kd⟩,k⟩
theorem HRep.base{names:List Nat}(hc:∀b∈hp,BlkOk w b)(hn:hp.map (·.n)=names)(hd:names.Nodup):HRep ⟨P,w,N,names,[],[]⟩ hp w:=
  ⟨hc,by rw[hn];exact hd,fun b hb=> .inr (by rw[←hn];exact La6.2 ⟨b,hb,rfl⟩),Keeps.refl _ _,fun _ h=>(by cases h),fun _ _ _ h=>(by cases h)⟩
theorem HRep.reN{w w':World}{N N':Nat}{names:List Nat}(h:HRep ⟨P,w,N,names,[],[]⟩ hp w'):HRep ⟨P,w,N',names,[],[]⟩ hp w':=
  ⟨h.cells,h.nodup,h.own,h.keeps,h.kok,h.kd⟩
def endAtA(P:Program)(N:Nat)(ds:List Deferred)(fn:Func)(R:Value→List Blk→Prop)(s:St):Prop:=
  ∃v out,(∀W names,Res ⟨P,W,N,names,[],ds⟩ fn s v)∧(∀b∈out,b∈s.hp)∧((s.hp.map (·.n)).Nodup→(out.map (·.n)).Nodup)∧R v out
def endQA(P:Program)(N:Nat)(ds:List Deferred)(fn:Func)(R:Value→List Blk→Prop):Exit→St→Prop
  | .normal,s| .ret,s=>endAtA P N ds fn R s
  |_,_=>False
theorem enA_r{ds:List Deferred}{fn:Func}{R:Value→List Blk→Prop}{s:St}(h:endAtA P N ds fn R s):endQA P N ds fn R .ret s:=h
def RangeSt(P:Program)(W:World)(N:Nat)(fn:Func)(g:Operand)(p0:Tmp)(assign body tail:Code)(R:Value→List Blk→Prop)(s:St):Prop:=
  ∃ (gf:Nat) (lb:Array Value) (hpF:Nat→List Blk) (names:List Nat) (enc:Nat→Value) (K:Nat) (slA:List (Nat×Value)→Nat→List (Nat×Value)),s.hp=hpF 0∧Ag s.sl g=some (.func (.func gf) #[] lb)∧Aw P gf∧p0<N∧(∀i,(hpF i).map (·.n)=names)∧
    (∀(l:Nat) (w1:World),HRep ⟨P,w1,0,names,[],[]⟩ (hpF 0) w1→
      (∀i,i<K→∀W,HRep ⟨P,w1,0,names,[],[]⟩ (hpF i) W→YieldAt Fence.wide 0 P l #[enc i] W fun e W'=>e= .returned (.bool true)∧HRep ⟨P,w1,0,names,[],[]⟩ (hpF (i+1)) W')→
      CallsIn Fence.wide 0 P gf (#[.func (.yield l) #[] #[]]++lb) w1 fun e W'=>(∃v,e= .returned v)∧HRep ⟨P,w1,0,names,[],[]⟩ (hpF K) W')∧
    (∀i,i<K→∀l W,HRep ⟨P,W,N,names,[],[]⟩ (hpF i) W→SatI (some l) ⟨P,W,N,names,[],[]⟩ assign ⟨(p0,enc i)::s.sl,hpF i⟩ (fun s'=>s'.hp=hpF i∧s'.sl=slA s.sl i))∧
    (∀i,i<K→∀l W,HRep ⟨P,W,N,names,[],[]⟩ (hpF i) W→SatI (some l) ⟨P,W,N,names,[],[]⟩ body ⟨slA s.sl i,hpF i⟩ (fun s'=>s'.hp=hpF (i+1)))∧
    (∀D W2,Sat ⟨P,W2,N,names,[],[{ target:= .collected D,args:= #[] }]⟩ tail ⟨s.sl,hpF K⟩ (endQA P N [{ target:= .collected D,args:= #[] }] fn R))
end Hw
end
