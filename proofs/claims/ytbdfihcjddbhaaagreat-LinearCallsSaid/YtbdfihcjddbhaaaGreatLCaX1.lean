/- Contracts of functions of the loaded program, and the lemmas that they need (part 1). It proves no statement by itself; it has no conditions. -/
import Derived.WalkKit
import Derived.Orders
import Derived.Deep.LoopGhost
import Derived.IntWalk
import Derived.Laws.StructEq
import Derived.Test.YtbdfihcjddbhaaaGreatRows
import Derived.KernelRfl
import Derived.ArgAppend
import Derived.Deep.AppendSrc
import Derived.Lib.Bytealg
import Derived.Lib.BytesEntry
import Derived.Laws.IdiomStrings
import Derived.WideKeyArr2
import Derived.ProofKit
import Derived.OpenShut
import Derived.Deep.Slices
import Derived.Laws.Pointers
import Derived.Laws.Cover3
import Derived.LaidEqlPtr
import Derived.LoopN
import Derived.RangeFuncLeaves
import Derived.RangeFuncSeq
import Derived.OrdersIn
import Derived.Maps.Keyed
import Derived.Maps.RangeRun
import Derived.DeepKeys4
import Derived.Below
import Derived.Laws.Externs
import Derived.Defers
import Derived.Laws.MathBits
import Derived.Shelf.SlSortCmp.WholeK
import Derived.Shelf.SlGeneric
import Derived.Test.YtbdfihcjddbhaaaGreatProg
import Derived.Shelf.SlSortCmp.NoneTotal
import Derived.Deep.QuietTactic
import Derived.BigQuiet
import Derived.ScopeJumps
import Derived.DeepKeys3
import Derived.ChangeOld
import Derived.JoinedOf
set_option maxRecDepth 100000
set_option maxHeartbeats 8000000
set_option linter.unusedVariables false
set_option linter.unusedSimpArgs false
set_option linter.unusedSectionVars false
set_option linter.unnecessarySimpa false
namespace Hw
abbrev La0:= @List.length_map
abbrev La1:= @List.mem_singleton
abbrev La2:= @List.length_append
abbrev La3:= @List.getD_eq_getElem?_getD
abbrev La4:= @List.getElem?_eq_getElem
abbrev La5:= @List.take_of_length_le
abbrev La6:= @List.mem_map
abbrev La7:= @Option.some.injEq
abbrev La8:= @List.mem_append
abbrev La9:= @List.mem_cons_self
abbrev Laa:= @List.getElem?_eq_some_iff
abbrev Lab:= @List.append_assoc
abbrev Lac:= @List.length_take
abbrev Lad:= @List.getElem?_map
abbrev Lae:= @List.map_append
abbrev Laf:= @Nat.zero_le
abbrev Lag:= @Nat.le_refl
abbrev Lah:= @List.nil_append
abbrev Lai:= @List.eq_nil_of_length_eq_zero
abbrev Laj:= @List.mem_cons_of_mem
abbrev Lak:= @List.mem_append_left
abbrev Lal:= @Nat.mod_eq_of_lt
abbrev Lam:= @List.mem_cons
abbrev Lan:= @List.cons_append
abbrev Lao:= @List.drop_of_length_le
abbrev Lap:= @Bool.and_eq_true
abbrev Laq:= @List.length_singleton
abbrev Lar:= @List.map_cons
abbrev Las:= @List.take_succ_eq_append_getElem
abbrev Lat:= @List.mem_append_right
abbrev Lau:= @List.mem_of_getElem?
abbrev Lav:= @List.getElem?_eq_none
abbrev Law:= @List.append_nil
abbrev Lax:= @List.length_cons
abbrev Lay:= @List.nodup_append
abbrev Laz:= @List.length_drop
abbrev Lb0:= @Nat.zero_add
abbrev Lb1:= @List.getElem?_append_left
abbrev Lb2:= @List.getElem?_append_right
abbrev Lb3:= @Nat.div_div_eq_div_mul
abbrev Lb4:= @Nat.lt_succ_iff_lt_or_eq
abbrev Lb5:= @Nat.lt_or_ge
abbrev Lb6:= @List.nodup_cons
abbrev Lb7:= @List.mem_filter
abbrev Lb8:= @List.getElem_of_mem
abbrev Lb9:= @UInt8.toNat_ofNat'
abbrev Lba:= @List.getElem?_drop
abbrev Lbb:= @Nat.mul_one
abbrev Lbc:= @List.length_set
abbrev Lbd:= @Nat.le_trans
abbrev Lbe:= @List.take_append
abbrev Lbf:= @List.all_eq_true
abbrev Lbg:= @Nat.pow_succ
abbrev Lbh:= @List.map_take
abbrev Lbi:= @List.mem_of_mem_take
abbrev Lbj:= @Option.map_some
abbrev Lbk:= @Nat.mul_comm
abbrev Lbl:= @Array.getElem?_setIfInBounds_self_of_lt
abbrev Lbm:= @UInt64.toNat_add
abbrev Lbn:= @Nat.div_eq_of_lt
abbrev Lbo:= @List.drop_eq_getElem_cons
abbrev Lbp:= @Nat.pow_add
abbrev Lbq:= @UInt64.toNat_inj
abbrev Lbr:= @List.drop_append
abbrev Lbs:= @Nat.lt_of_lt_of_le
abbrev Lbt:= @List.take_append_drop
abbrev Lbu:= @List.findIdx?_eq_some_iff_getElem
abbrev Lbv:= @Nat.add_mul_mod_self_left
abbrev Lbw:= @Option.getD_some
abbrev Lbx:= @Option.bind_some
abbrev Lby:= @Nat.add_mul_div_left
abbrev Lbz:= @List.getElem?_take
abbrev Lc0:= @Nat.mul_assoc
abbrev Lc1:= @List.not_mem_nil
abbrev Lc2:= @List.any_eq_true
abbrev Lc3:= @Nat.mod_lt
abbrev Lc4:= @UInt64.toNat_ofNat'
abbrev Lc5:= @Nat.pow_pos
abbrev Lc6:= @Nat.min_eq_left
abbrev Lc7:= @Nat.add_zero
abbrev Lc8:= @Bool.or_eq_true
abbrev Lc9:= @Array.getElem?_push
abbrev Lca:= @Nat.eq_of_beq_eq_true
abbrev Lcb:= @List.flatten_append
abbrev Lcc:= @List.filter_eq_self
abbrev Lcd:= @Int.natCast_add
abbrev Lce:= @Nat.testBit_eq_decide_div_mod_eq
abbrev Lcf:= @Nat.add_mul
abbrev Lcg:= @List.singleton_append
abbrev Lch:= @List.nodup_nil
abbrev Lci:= @List.take_length
abbrev Lcj:= @Nat.not_lt_zero
abbrev Lck:= @Nat.mul_le_mul_left
abbrev Lcl:= @Nat.mul_add
abbrev Lcm:= @List.Perm.append_right
abbrev Lcn:= @Nat.pow_le_pow_right
abbrev Lco:= @List.Perm.refl
abbrev Lcp:= @List.take_append_of_le_length
abbrev Lcq:= @List.getElem_mem
abbrev Lcr:= @Array.getElem?_eq_none
abbrev Lcs:= @Nat.add_assoc
abbrev Lct:= @List.mem_of_mem_drop
abbrev Lcu:= @List.getElem?_set
abbrev Lcv:= @List.flatten_cons
abbrev Lcw:= @Bool.not_eq_true'
abbrev Lcx:= @Nat.and_two_pow_sub_one_eq_mod
abbrev Lcy:= @List.perm_append_comm
abbrev Lcz:= @List.length_filter_le
abbrev Ld0:= @Array.getElem?_eq_some_iff
abbrev Ld1:= @Nat.mul_le_mul
abbrev Ld2:= @List.ext_getElem?
abbrev Ld3:= @Array.getElem?_eq_getElem
abbrev Ld4:= @List.pairwise_cons
abbrev Ld5:= @Nat.le_of_eq
abbrev Ld6:= @List.Perm.append_left
abbrev Ld7:= @Array.getD_eq_getD_getElem?
abbrev Ld8:= @List.take_zero
abbrev Ld9:= @List.eraseIdx_eq_take_drop_succ
abbrev Lda:= @Array.getElem?_setIfInBounds_ne
abbrev Ldb:= @List.find?_eq_some_iff_getElem
abbrev Ldc:= @UInt8.toNat_inj
abbrev Ldd:= @Nat.div_le_self
abbrev Lde:= @List.pairwise_iff_getElem
abbrev Ldf:= @List.mem_range
abbrev Ldg:= @List.findIdx?_eq_none_iff
abbrev Ldh:= @List.filter_cons
abbrev Ldi:= @List.take_succ_cons
abbrev Ldj:= @List.getD_cons_succ
abbrev Ldk:= @Array.length_toList
abbrev Ldl:= @Option.isSome_iff_exists
abbrev Ldm:= @Nat.le_of_ble_eq_true
abbrev Ldn:= @List.length_replicate
abbrev Ldo:= @List.eraseIdx_sublist
abbrev Ldp:= @Array.getElem?_replicate
abbrev Ldq:= @Nat.two_pow_add_eq_or_of_lt
abbrev Ldr:= @List.set_eq_take_append_cons_drop
abbrev Lds:= @List.contains_eq_mem
abbrev Ldt:= @Nat.lt_trans
abbrev Ldu:= @List.perm_middle
abbrev Ldv:= @Array.getElem?_append_left
abbrev Ldw:= @List.getD_cons_zero
abbrev Ldx:= @List.foldl_append
abbrev Ldy:= @List.mem_or_eq_of_mem_set
abbrev Ldz:= @Nat.pow_zero
abbrev Le0:= @Nat.div_lt_iff_lt_mul
abbrev Le1:= @List.set_append_right
abbrev Le2:= @List.foldl_cons
abbrev Le3:= @Array.getElem?_toList
abbrev Le4:= @Array.getElem?_modify
abbrev Le5:= @UInt64.toNat_mul
abbrev Le6:= @Nat.one_mul
abbrev Le7:= @List.ext_getElem
abbrev Le8:= @List.drop_append_of_le_length
abbrev Le9:= @UInt8.toNat_toUInt64
abbrev Lea:= @List.getElem?_append
abbrev Leb:= @List.map_drop
abbrev Lec:= @List.getElem?_cons_zero
abbrev Led:= @List.getElem?_cons_succ
abbrev Lee:= @Array.getElem?_setIfInBounds
abbrev Lef:= @Nat.add_comm
abbrev Leg:= @List.map_set
abbrev Leh:= @Option.some.inj
abbrev Lei:= @Bool.eq_iff_iff
abbrev Lej:= @Array.toList_modify
abbrev Lek:= @Option.map_eq_some_iff
abbrev Lel:= @List.set_cons_zero
abbrev Lem:= @List.map_nil
abbrev Len:= @List.filter_append
abbrev Leo:= @Int.natCast_nonneg
abbrev Lep:= @Array.ext_getElem?
abbrev Leq:= @Option.isNone_iff_eq_none
abbrev Ler:= @List.drop_zero
abbrev Les:= @Nat.mul_le_mul_right
abbrev Let:= @Nat.div_lt_of_lt_mul
abbrev Leu:= @List.getElem?_set_ne
abbrev Lev:= @UInt64.toNat_or
abbrev Lew:= @List.length_nil
abbrev Lex:= @List.getElem?_take_of_lt
abbrev Ley:= @List.getElem?_inj
abbrev Lez:= @Int.toNat_natCast
abbrev Lf0:= @Nat.sub_self
abbrev Lf1:= @Array.eq_empty_of_size_eq_zero
abbrev Lf2:= @Nat.mul_mod
abbrev Lf3:= @Nat.div_one
abbrev Lf4:= @Nat.add_mod
abbrev Lf5:= @List.getElem?_replicate
abbrev Lf6:= @List.getElem?_replicate_of_lt
abbrev Lf7:= @List.drop_drop
abbrev Lf8:= @List.getElem?_set_self
abbrev Lf9:= @List.filter_eq_nil_iff
abbrev Lfa:= @Nat.mod_mod_of_dvd
abbrev Lfb:= @Nat.lt_or_eq_of_le
abbrev Lfc:= @Nat.lt_of_le_of_lt
abbrev Lfd:= @Nat.eq_zero_or_pos
abbrev Lfe:= @UInt8.lt_iff_toNat_lt
abbrev Lff:= @UInt64.toNat_lt
abbrev Lfg:= @Nat.zero_mul
abbrev Lfh:= @Nat.mod_add_div
abbrev Lfi:= @Nat.le_of_lt
abbrev Lfj:= @List.cons.injEq
abbrev Lfk:= @UInt8.ofNat_toNat
abbrev Lfl:= @Option.isSome_map
abbrev Lfm:= @List.size_toArray
abbrev Lfn:= @Nat.mod_mul_right_div_self
abbrev Lfo:= @List.perm_ext_iff_of_nodup
abbrev Lfp:= @Int.fdiv_eq_ediv_of_nonneg
abbrev Lfq:= @List.replicate_succ'
abbrev Lfr:= @List.pairwise_append
abbrev Lfs:= @List.mem_of_find?_eq_some
abbrev Lft:= @List.append_eq
abbrev Lfu:= @UInt64.toNat_and
abbrev Lfv:= @List.getElem_map
abbrev Lfw:= @Bool.not_eq_true
abbrev Lfx:= @Nat.mod_one
abbrev Lfy:= @List.replicate_succ
abbrev Lfz:= @Fin.ext
abbrev Lg0:= @Array.toList_filter
abbrev Lg1:= @Nat.mul_zero
abbrev Lg2:= @Array.size_setIfInBounds
abbrev Lg3:= @Nat.div_add_mod
abbrev Lg4:= @List.set_cons_succ
abbrev Lg5:= @List.mem_filterMap
abbrev Lg6:= @List.length_eq_zero_iff
abbrev Lg7:= @List.find?_eq_none
abbrev Lg8:= @List.append_of_mem
abbrev Lg9:= @List.Nodup.sublist
abbrev Lga:= @List.findIdx_lt_length_of_exists
abbrev Lgb:= @Array.all_eq_true_iff_forall_mem
abbrev Lgc:= @Nat.mod_eq_zero_of_dvd
abbrev Lgd:= @Nat.lt_of_succ_lt_succ
abbrev Lge:= @Nat.dvd_of_mod_eq_zero
abbrev Lgf:= @Nat.lt_trichotomy
abbrev Lgg:= @List.getElem_take
abbrev Lgh:= @Array.toList_push
abbrev Lgi:= @UInt64.or_comm
abbrev Lgj:= @List.foldl_nil
abbrev Lgk:= @Nat.sub_zero
abbrev Lgl:= @List.getElem!_eq_getElem?_getD
abbrev Lgm:= @List.length_eraseIdx
abbrev Lgn:= @List.getElem?_of_mem
abbrev Lgo:= @Nat.pow_mul
abbrev Lgp:= @List.filter_sublist
abbrev Lgq:= @Int.natCast_mul
abbrev Lgr:= @Fin.val_mul
abbrev Lgs:= @Nat.add_sub_cancel
abbrev Lgt:= @List.map_map
abbrev Lgu:= @List.filter_filter
abbrev Lgv:= @Nat.le_of_lt_succ
abbrev Lgw:= @Nat.blt_eq
abbrev Lgx:= @List.pairwise_map
abbrev Lgy:= @List.mem_range'_1
abbrev Lgz:= @List.filter_congr
abbrev Lh0:= @List.all_eq_false
abbrev Lh1:= @Prod.mk.injEq
abbrev Lh2:= @Nat.two_mul
abbrev Lh3:= @Nat.pow_mod
abbrev Lh4:= @Nat.mod_mul
abbrev Lh5:= @Nat.lt_irrefl
abbrev Lh6:= @Nat.le_of_dvd
abbrev Lh7:= @Bool.false_or
abbrev Lh8:= @UInt64.toNat_sub
abbrev Lh9:= @Option.getD_none
abbrev Lha:= @Nat.le_add_right
abbrev Lhb:= @List.mem_flatten
abbrev Lhc:= @List.flatten_nil
abbrev Lhd:= @List.Sublist.map
abbrev oPq(l:List Nat):List (Nat×Nat):=l.map λn=>(n/100,n%100)
theorem wN{p:Prop}(h:p:=by repeat(first|exact wk0|refine wk1 rfl ?_)):p:=h
theorem wM{p:Prop}(h:p:=by repeat(first|exact wh0|refine wh1 mM ?_)):p:=h
theorem pN{p:Prop}(h:p:=by repeat(first|exact Ad|refine Ab rM ?_|refine Ac sG ?_)):p:=h
end Hw
namespace Hw
variable{p:Prop}
theorem J{α:Sort _}{a:α}:a=a:=rfl
theorem mM(h:p:=by first|exact Cf|exact mem1|exact mem2|exact mem3|exact mem4|exact mem5|exact mem6|exact mem7|(repeat(first|exact La9|refine Laj _ ?_|refine mem_seg ?_))):p:=h
theorem uU(h:p:=by first|exact upd0|exact upd1|exact upd2|exact upd3|exact upd4|exact upd5|exact upd6|exact upd7|(repeat(first|exact upd0|apply Upd.tail|apply Upd.seg))):p:=h
theorem sG(h:p:=by repeat(first|exact B9|exact C8|apply sg_there|apply Cj)):p:=h
theorem rM(h:p:=by repeat(first|exact A4|apply rem_there|apply Bq)):p:=h
theorem iN(h:p:=by repeat(first|exact Ap|exact in_all|refine A1 ?_|refine A5 ?_)):p:=h
theorem nD(h:p:=by repeat(first|exact ns_nil|refine ns_keep rfl ?_|refine ns_skip ?_)):p:=h
theorem mR(h:p:=by repeat(first|exact La9|refine Laj _ ?_|refine mem_seg ?_)):p:=h
theorem vL(h:p:=by first|rfl|exact get_words (by first|omega|(simp;done)|(simp;omega))|exact get_bytes (by first|omega|(simp;done)|(simp;omega))|exact get_ints (by first|omega|(simp;done)|(simp;omega))):p:=h
theorem sT(h:p:=by first|exact Bl _ _ _|exact Bo _ _ _|exact set_ints _ _ _|rfl):p:=h
theorem lN(h:p:=by first|(simp;done)|assumption|(rw[Aa,La0];assumption)):p:=h
theorem cB(h:p:=by first|exact Ay _|simp[isCell]):p:=h
theorem sO(h:p:=by first|(simp;done)|(simp;omega)):p:=h
theorem lO(h:p:=by intro m hm;exact⟨_,La1.2 rfl,(La1.1 hm).symm⟩):p:=h
theorem oM(h:p:=by omega):p:=h
theorem dE(h:p:=by decide):p:=h
theorem sP(h:p:=by simp):p:=h
theorem Z0(h:p:=by exact Cf):p:=h
theorem Z1(h:p:=by exact mem1):p:=h
theorem Z2(h:p:=by exact mem2):p:=h
theorem Z3(h:p:=by exact mem3):p:=h
theorem Z4(h:p:=by exact mem4):p:=h
theorem zU(h:p:=by exact upd0):p:=h
theorem zV(h:p:=by exact upd1):p:=h
theorem zK(h:p:=by kernel_rfl):p:=h
theorem zE(h:p:=by exact Ay _):p:=h
theorem zA(h:p:=by assumption):p:=h
theorem zF(h:p:=by(simp[Aw];done)):p:=h
theorem zB(h:p:=by simp[isCell]):p:=h
theorem zW(h:p:=by(simp[W5.l_length];done)):p:=h
theorem zP(h:p:=by exact ptc_ok _):p:=h
theorem zZ(h:p:=by exact Point.zero_ok):p:=h
theorem zT(h:p:=by exact Vote.zero_ok):p:=h
theorem zG(h:p:=by exact get_bytes (by omega)):p:=h
theorem oK(h:p:=by first|assumption|(simp;done)|exact Block.zero_ok|exact Vote.zero_ok|exact Reader.zero_ok|exact Cut.zero_ok|exact Cert.zero_ok|exact Msg.zero_ok|exact Inbox.zero_ok|exact Record.zero_ok|exact Kept.zero_ok|exact Point.zero_ok|exact wide.zero_ok|exact DEnt.zero_ok|exact DPl.zero_ok):p:=h
class UT(P:Go.Program)(T:Go.TypeId)(d:outParam (Option Go.TypeDesc)):Prop where h:P.underlying T=d
theorem uY{P:Go.Program}{T:Go.TypeId}{d:Option Go.TypeDesc}[i:UT P T d]:P.underlying T=d:=i.h
abbrev UTo {P : Go.Program} {T : Go.TypeId} {d : Option Go.TypeDesc} (_ : P.underlying T = d) : Prop := UT P T d
end Hw
namespace Go.Proofs.YtbdfihcjddbhaaaGreat
open Go Hw _root_.Go.Proofs.Tryz
theorem Y2:prog.underlying 2=some (TypeDesc.int IntKind.i64):=underlying2
instance Y3:UT prog 3 (some (TypeDesc.int IntKind.i64)):=⟨underlying3⟩
instance Y5:UT prog 5 (some (TypeDesc.int IntKind.u8)):=⟨underlying5⟩
instance Y22:UT prog 22 (some (TypeDesc.slice 37)):=⟨underlying22⟩
instance Y25:UT prog 25 (some (TypeDesc.pointer 86)):=⟨underlying25⟩
instance Y28:UT prog 28 (some (TypeDesc.array 32 5)):=⟨underlying28⟩
instance Y29:UT prog 29 (some (TypeDesc.array 32 5)):=⟨underlying29⟩
instance Y30:UT prog 30 (some (TypeDesc.int IntKind.u64)):=⟨underlying30⟩
instance Y31:UT prog 31 (some (TypeDesc.array 32 5)):=⟨underlying31⟩
instance Y32:UT prog 32 (some (TypeDesc.slice 31)):=⟨underlying32⟩
instance Y33:UT prog 33 (some (TypeDesc.slice 5)):=⟨underlying33⟩
instance Y34:UT prog 34 (some (TypeDesc.array 64 5)):=⟨underlying34⟩
instance Y35:UT prog 35 (some (TypeDesc.array 64 5)):=⟨underlying35⟩
instance Y37:UT prog 37 (some (TypeDesc.struct #[{ name:= "Writer",type:=29,offset:=0,embedded:=false,tag:= "",pkgPath:= "",byteOffset:=0 },{ name:= "Seq",type:=30,offset:=32,embedded:=false,tag:= "",pkgPath:= "",byteOffset:=32 },{ name:= "Prev",type:=31,offset:=33,embedded:=false,tag:= "",pkgPath:= "",byteOffset:=40 },{ name:= "Links",type:=32,offset:=65,embedded:=false,tag:= "",pkgPath:= "",byteOffset:=72 },{ name:= "Data",type:=33,offset:=66,embedded:=false,tag:= "",pkgPath:= "",byteOffset:=96 },{ name:= "Sig",type:=35,offset:=67,embedded:=false,tag:= "",pkgPath:= "",byteOffset:=120 }])):=⟨underlying37⟩
instance Y50:UT prog 50 (some (TypeDesc.slice 51)):=⟨underlying50⟩
instance Y51:UT prog 51 (some (TypeDesc.slice 3)):=⟨underlying51⟩
instance Y55:UT prog 55 (some (TypeDesc.slice 32)):=⟨underlying55⟩
theorem Y74:prog.underlying 74=some (TypeDesc.array 3 37):=underlying74
instance Y80:UT prog 80 (some (TypeDesc.map 31 91)):=⟨underlying80⟩
instance Y81:UT prog 81 (some (TypeDesc.map 31 105)):=⟨underlying81⟩
instance Y82:UT prog 82 (some (TypeDesc.map 31 37)):=⟨underlying82⟩
instance Y86:UTo underlying86:=⟨underlying86⟩
instance Y91:UTo underlying91:=⟨underlying91⟩
instance Y109:UT prog 109 (some (TypeDesc.slice 113)):=⟨underlying109⟩
instance Y111:UT prog 111 (some (TypeDesc.struct #[{ name:= "L",type:=109,offset:=0,embedded:=false,tag:= "",pkgPath:= "",byteOffset:=0 },{ name:= "O",type:=109,offset:=1,embedded:=false,tag:= "",pkgPath:= "",byteOffset:=24 }])):=⟨underlying111⟩
instance Y113:UTo underlying113:=⟨underlying113⟩
instance Y115:UT prog 115 (some (TypeDesc.func #[31] #[3] false)):=⟨underlying115⟩
instance Y119:UT prog 119 (some (TypeDesc.map 31 105)):=⟨underlying119⟩
instance Y139:UT prog 139 (some (TypeDesc.int IntKind.u64)):=⟨underlying139⟩
instance Y158:UT prog 158 (some (TypeDesc.slice 33)):=⟨underlying158⟩
instance Y160:UT prog 160 (some (TypeDesc.array 8 30)):=⟨underlying160⟩
instance Y184:UT prog 184 (some (TypeDesc.array 32 5)):=⟨underlying184⟩
instance Y187:UT prog 187 (some (TypeDesc.struct #[{ name:= "X",type:=184,offset:=0,embedded:=false,tag:= "",pkgPath:= "",byteOffset:=0 },{ name:= "Y",type:=184,offset:=32,embedded:=false,tag:= "",pkgPath:= "",byteOffset:=32 }])):=⟨underlying187⟩
theorem Y216:prog.underlying 216=some (TypeDesc.array 4 30):=underlying216
instance Y217:UT prog 217 (some (TypeDesc.array 4 30)):=⟨underlying217⟩
instance Y229:UTo underlying229:=⟨underlying229⟩
theorem Y241:prog.underlying 241=some (TypeDesc.array 80 30):=underlying241
theorem Cq:prog.underlying 250=some (TypeDesc.array 10 2):=underlying250
instance Y253:UTo underlying253:=⟨underlying253⟩
instance Y259:UT prog 259 (some (TypeDesc.slice 30)):=⟨underlying259⟩
instance Y261:UT prog 261 (some (TypeDesc.array 5 30)):=⟨underlying261⟩
instance Y282:UTo underlying282:=⟨underlying282⟩
end Go.Proofs.YtbdfihcjddbhaaaGreat
section
namespace Hw
open Go Go.RowKit
inductive Tg where
  |ty (t:TypeId)
  |ob (R:Obj->Prop)
instance{n:Nat}:OfNat Tg n:=⟨.ty n⟩
instance:Coe TypeId Tg:=⟨.ty⟩
structure Blk where
  n:Nat
  cs:List Value
  T:Tg
  m:Nat
abbrev blk(n:Nat)(cs:List Value)(T:TypeId):Blk:=⟨n,cs,T,cs.length⟩
structure St where
  sl:List (Nat×Value)
  hp:List Blk
structure Cx where
  P:Program
  W0:World
  N:Nat
  lent:List Nat
  /-- blocks that nothing writes while a region runs -/
  kb:List Blk:=[]
  /-- calls that are deferred -/
  ds:List Deferred:=[]
def look:List (Nat×Value)->Nat->Option Value
  | [],_=>none
  |(u,v)::l,t=>bif Nat.beq u t then some v else look l t
variable{C:Cx}{N t:Nat}{d:Option Tmp}{ds:List Deferred}{ex:List Nat}{hp hp' out:List Blk}{ops:Array Oper}{sl sl':List (Nat×Value)}{w w':World}
theorem look_cons_eq(d:Nat)(v:Value)(l:List (Nat×Value)):look ((d,v)::l) d=some v:=by
  simp[look]
theorem look_cons_ne{d t:Nat}(v:Value)(l:List (Nat×Value))(h:d≠t):look ((d,v)::l) t=look l t:=by
  have:Nat.beq d t=false:=by
    cases hb:Nat.beq d t
    .rfl
    .exact absurd (Lca hb) h
  simp[look,this]
theorem look_mem{l:List (Nat×Value)}{v:Value}(h:look l t=some v):(t,v)∈l:=by
  induction l with
  |nil=>simp[look]at h
  | cons p l ih=>
    obtain⟨u,x⟩:=p;by_cases hu:u=t
    . subst hu
      rw[look_cons_eq]at h;cases h;exact La9
    . rw[look_cons_ne _ _ hu]at h
      exact Laj _ (ih h)
def Ai(sl:List (Nat×Value)):Operand->Option Value
  | .tmp t=>look sl t
  | .const v=>some v
  | .global g=>some (.pointer (some ⟨g,0,none⟩))
  | .func f=>some (.func (.func f) #[] #[])
abbrev St.ev(s:St)(x:Operand):Option Value:=Ai s.sl x
def B3(sl:List (Nat×Value)):Option Tmp->Value->List (Nat×Value)
  |some d,v=>(d,v)::sl
  |none,_=>sl
abbrev St.put(s:St)(d:Option Tmp)(v:Value):St:=⟨B3 s.sl d v,s.hp⟩
def St.add(s:St)(b:Blk):St:=⟨s.sl,b::s.hp⟩
structure Keeps(ex:List Nat)(w w':World):Prop where
  os:w'.os=w.os
  tape:w'.tape=w.tape
  output:w'.output=w.output
  size:w.heap.size<=w'.heap.size
  drawn:w.drawn<=w'.drawn
  block:∀k,k<w.heap.size->k∉ex->w'.heap[k]? =w.heap[k]?
theorem Keeps.refl(ex:List Nat)(w:World):Keeps ex w w:=⟨rfl,rfl,rfl,Lag _,Lag _,λ_ _ _=>rfl⟩
theorem Keeps.trans{a b c:World}(h:Keeps ex a b)(k:Keeps ex b c):Keeps ex a c:=
  ⟨k.os.trans h.os,k.tape.trans h.tape,k.output.trans h.output,Lbd h.size k.size,Lbd h.drawn k.drawn,
    λi hi hn=>(k.block i (Lbs hi h.size) hn).trans (h.block i hi hn)⟩
theorem Keeps.mono{ex aa:List Nat}{a b:World}(h:Keeps ex a b)(hs:∀x∈ex,x∈aa):Keeps aa a b:=
  ⟨h.os,h.tape,h.output,h.size,h.drawn,λi hi hn=>h.block i hi λhx=>hn (hs _ hx)⟩
theorem Keeps.below(h:Keeps [] w w'):Below w.heap.size w w':=
  ⟨h.os,h.tape,h.output,h.size,λk hk=>h.block k hk sP⟩
theorem Keeps.drew{a w:World}(h:Keeps ex a w)(n:Nat)(hn:w.drawn<=n:=by first|exact Nat.le_succ _|assumption|omega):Keeps ex a { w with drawn:=n }:=
  ⟨h.os,h.tape,h.output,h.size,Lbd h.drawn hn,h.block⟩
structure Free(fr:Nat×Nat)(n:Nat):Prop where
  le:fr.1<=fr.2
  at':∀i,i<n->(decide (fr.1<=i)&&decide (i<fr.2))=false
theorem free0{n:Nat}:Free (0,0) n:=⟨Lag _,λi _=>by simp⟩
def Tg.id:Tg->TypeId
  | .ty t=>t
  | .ob _=>0
@[simp] theorem Tg.id_ty(t:TypeId):(Tg.ty t).id=t:=rfl
structure BlkAt(w:World)(b:Blk)(full:Array Value)(fr:Nat×Nat):Prop where
  heap:w.heap[b.n]? =some (.cells full b.T.id fr)
  size:full.size=b.m
  pre:b.cs<+:full.toList
  free:Free fr b.m
def BlkOk(w:World)(b:Blk):Prop:=match b.T with
  | .ty _=>∃full fr,BlkAt w b full fr
  | .ob R=>b.cs=[]/\b.m=0/\∃o,w.heap[b.n]? =some o/\R o/\∀x,o≠ .deferred x
theorem BlkOk.of_heap{b:Blk}(h:BlkOk w b)(e:w'.heap[b.n]? =w.heap[b.n]?):BlkOk w' b:=by
  obtain⟨n,cs,T,m⟩:=b;cases T with
  | ty t=>
    obtain⟨full,fr,h⟩:=h;exact⟨full,fr,e.trans h.heap,h.size,h.pre,h.free⟩
  | ob R=>
    obtain⟨h1,h2,o,ho,hr,hd⟩:=h;exact⟨h1,h2,o,e.trans ho,hr,hd⟩
theorem BlkOk.noDef{b:Blk}(h:BlkOk w b)(x:_):w.heap[b.n]? ≠some (.deferred x):=λe=>by
  obtain⟨n,cs,T,m⟩:=b;cases T with
  | ty t=>
    obtain⟨full,fr,h⟩:=h;have:=h.heap;simp only at this e;rw[e]at this;cases this
  | ob R=>
    obtain⟨_,_,o,ho,_,hd⟩:=h;simp only at ho e;rw[e]at ho;exact hd x (Leh ho).symm
theorem BlkOk.lt{b:Blk}(h:BlkOk w b):b.n<w.heap.size:=by
  have hn:∃o,w.heap[b.n]? =some o:=by
    obtain⟨n,cs,T,m⟩:=b;cases T with
    | ty t=>
      obtain⟨full,fr,h⟩:=h;exact⟨_,h.heap⟩
    | ob R=>
      obtain⟨_,_,o,ho,_,_⟩:=h;exact⟨o,ho⟩
  obtain⟨o,ho⟩:=hn;rcases Lb5 b.n w.heap.size with h1|h1
  .exact h1
  .rw[Lcr h1]at ho;cases ho
structure Ret(lent:List Nat)(out:List Blk)(W W':World):Prop where
  keeps:Keeps lent W W'
  cells:∀b∈out,BlkOk W' b
  nodup:(out.map (·.n)).Nodup
  own:∀b∈out,W.heap.size<=b.n\/b.n∈lent
structure HRep(C:Cx)(hp:List Blk)(w:World):Prop where
  cells:∀b∈hp,BlkOk w b
  nodup:(hp.map (·.n)).Nodup
  own:∀b∈hp,C.W0.heap.size<=b.n\/b.n∈C.lent
  keeps:Keeps C.lent C.W0 w
  kok:∀b∈C.kb,BlkOk w b
  kd:∀b∈hp,∀k∈C.kb,b.n≠k.n
structure SRep(ds:List Deferred)(N:Nat)(sl:List (Nat×Value))(a:Act):Prop where
  size:a.tmps.size=N
  defers:a.defers=ds
  slots:∀t v,look sl t=some v->a.tmps[t]? =some v
structure Rep(C:Cx)(s:St)(a:Act)(w:World):Prop where
  rs:SRep C.ds C.N s.sl a
  rh:HRep C s.hp w
theorem HRep.perm(h:HRep C hp w)(p:hp.Perm hp'):HRep C hp' w:=
  ⟨λb hb=>h.cells b (p.mem_iff.2 hb),(p.map _).nodup_iff.1 h.nodup,λb hb=>h.own b (p.mem_iff.2 hb),h.keeps,h.kok,λb hb=>h.kd b (p.mem_iff.2 hb)⟩
theorem HRep.drew(h:HRep C hp w)(n:Nat)(hn:w.drawn<=n:=by first|exact Nat.le_succ _|assumption|omega):HRep C hp { w with drawn:=n }:=
  ⟨λb hb=>(h.cells b hb).of_heap rfl,h.nodup,h.own,h.keeps.drew n hn,λb hb=>(h.kok b hb).of_heap rfl,h.kd⟩
theorem HRep.sub(h:HRep C hp w)(hs:∀b∈hp',b∈hp)(hn:(hp'.map (·.n)).Nodup):HRep C hp' w:=
  ⟨λb hb=>h.cells b (hs b hb),hn,λb hb=>h.own b (hs b hb),h.keeps,h.kok,λb hb=>h.kd b (hs b hb)⟩
theorem SRep.eval{a:Act}(h:SRep ds N sl a){x:Operand}{v:Value}(hx:Ai sl x=some v):a.eval x=v:=by
  cases x with
  | tmp t=>
    have:=h.slots t v hx;simp[Act.eval,this]
  |const c=>simpa[Ai,Act.eval]using hx
  |global g=>simpa[Ai,Act.eval]using hx
  |func f=>simpa[Ai,Act.eval]using hx
theorem SRep.put{a:Act}(h:SRep ds N sl a)(d:Option Tmp)(v:Value)(hd:∀t,d=some t->t<N):SRep ds N (B3 sl d v) (a.put d v):=by
  cases d with
  |none=>exact h
  | some d=>
    have hd:=hd d rfl;refine⟨by simp[Act.put,h.size],h.defers,λt u ht=>?_⟩;simp only[Act.put];by_cases aa:d=t
    . subst aa
      rw[B3,look_cons_eq]at ht;cases ht;rw[Array.getElem?_setIfInBounds_self,if_pos (by rw[h.size];exact hd)]
    . rw[B3,look_cons_ne _ _ aa]at ht
      rw[Lda aa];exact h.slots t u ht
theorem HRep.grown(hh:HRep C hp w)(aa:Ret [] out w w'):HRep C (out++hp) w':=by
  have ab:Keeps C.lent C.W0 w':=hh.keeps.trans (aa.keeps.mono sP);refine⟨λx hx=>?_,?_,λx hx=>?_,ab,λk hk=>(hh.kok k hk).of_heap (aa.keeps.block k.n (hh.kok k hk).lt sP),λx hx k hk=>?_⟩
  . rcases La8.1 hx with hx|hx
    .exact aa.cells x hx
    .exact(hh.cells x hx).of_heap (aa.keeps.block x.n (hh.cells x hx).lt sP)
  . rw[Lae,Lay]
    refine⟨aa.nodup,hh.nodup,λi hi j hj=>?_⟩;obtain⟨x,hx,rfl⟩:=La6.1 hi;obtain⟨y,hy,rfl⟩:=La6.1 hj;have h1:=aa.own x hx;have h2:=(hh.cells y hy).lt;simp at h1;omega
  . rcases La8.1 hx with hx|hx
    . have h1:=aa.own x hx
      have h2:=hh.keeps.size;simp at h1;exact .inl oM
    .exact hh.own x hx
  . rcases La8.1 hx with hx|hx
    . have h1:=aa.own x hx
      have h2:=(hh.kok k hk).lt;simp at h1;omega
    .exact hh.kd x hx k hk
def wantS(ops:Array Oper)(sl:List (Nat×Value))(o:Oper):Option Bool:=
  match o.guard with
  |none=>some true
  | some (j,want)=>
    match(ops[j]?).bind (·.dst)with
    | some d=>
      match look sl d with
      |some (.bool b)=>some (b==want)
      |some (.tuple _)=>some false
      |_=>none
    |none=>none
theorem wantS_ok{a:Act}{o:Oper}{b:Bool}(h:SRep ds N sl a)(hw:wantS ops sl o=some b):
    Region.wanted o (yielded ops a.tmps)=b:=by
  unfold wantS at hw;unfold Region.wanted;cases hg:o.guard with
  |none=>simp only[hg]at hw;simpa using hw
  | some g=>
    obtain⟨j,aa⟩:=g;simp only[hg]at hw ⊢;unfold yielded;cases hd:(ops[j]?).bind (·.dst)with
    |none=>simp[hd]at hw
    | some d=>
      simp only[hd]at hw;cases hl:look sl d with
      |none=>simp[hl]at hw
      | some v=>
        simp only[hl]at hw;cases v<;>simp at hw
        . rename_i c
          have:=h.slots d _ hl;simp only[Lbx,this];subst hw;cases c<;>cases aa<;>rfl
        . have:=h.slots d _ hl
          simp only[Lbx,this];subst hw;cases aa<;>rfl
def Known(sl:List (Nat×Value))(o:Oper):Prop:=∀x∈o.op.operands,(Ai sl x).isSome
def Fits(sl:List (Nat×Value))(o:Oper)(ρ:Operand->Value):Prop:=∀x∈o.op.operands,Ai sl x=some (ρ x)
theorem SRep.fits{a:Act}{o:Oper}(h:SRep ds N sl a)(hk:Known sl o):Fits sl o a.eval:=by
  intro x hx;have:=hk x hx;cases hv:Ai sl x with
  |none=>simp[hv]at this
  |some v=>rw[h.eval hv]
structure PureV(P:Program)(sl:List (Nat×Value))(o:Oper)(v:Value):Prop where
  known:Known sl o
  run:∀ρ,Fits sl o ρ->∀w,(execOp ρ o).run P w= .ok (.value v) w
structure LoadV(C:Cx)(s:St)(o:Oper)(v:Value):Prop where
  known:Known s.sl o
  run:∀ρ,Fits s.sl o ρ->∀w,HRep C s.hp w->(execOp ρ o).run C.P w= .ok (.value v) w
structure KLoadV(C:Cx)(sl:List (Nat×Value))(o:Oper)(v:Value):Prop where
  known:Known sl o
  run:∀ρ,Fits sl o ρ->∀w,(∀b∈C.kb,BlkOk w b)->Keeps C.lent C.W0 w->(execOp ρ o).run C.P w= .ok (.value v) w
structure NewV(C:Cx)(s:St)(o:Oper)(mk:Nat->Value)(cs:List Value)(T:TypeId):Prop where
  known:Known s.sl o
  run:∀ρ,Fits s.sl o ρ->∀w,(execOp ρ o).run C.P w= .ok (.value (mk w.heap.size)) { w with heap:=w.heap.push (.cells cs.toArray T) }
structure ActV{ρ:Type}(C:Cx)(s:St)(o:Oper)(R:ρ->Prop)(val:ρ->Value)(hp:ρ->List Blk):Prop where
  known:Known s.sl o
  run:∀a w,Fits s.sl o a.eval->HRep C s.hp w->Oper.wp C.P o a w (λa' w'=>∃r,R r/\a'=a.put o.dst (val r)/\HRep C (hp r) w') (λ_ _ _=>False)
structure GrowV{ρ:Type}(C:Cx)(s:St)(o:Oper)(R:ρ->Prop)(val:ρ->Value)(nw:ρ->List Blk):Prop where
  known:Known s.sl o
  some:∀l:List Blk,(l.map (·.n)).Nodup->∃r,R r/\((nw r++l).map (·.n)).Nodup
  run:∀a w,Fits s.sl o a.eval->HRep C s.hp w->Oper.wp C.P o a w (λa' w'=>∃r,R r/\a'=a.put o.dst (val r)/\Ret [] (nw r) w w') (λ_ _ _=>False)
structure LendV{ρ:Type}(C:Cx)(s:St)(o:Oper)(R:ρ->Prop)(val:ρ->Value)(lent:List Nat)(nw:ρ->List Blk):Prop where
  known:Known s.sl o
  some:∀l:List Blk,(l.map (·.n)).Nodup->(∀b∈l,b.n∉lent)->∃r,R r/\((nw r++l).map (·.n)).Nodup
  run:∀a w,Fits s.sl o a.eval->HRep C s.hp w->Oper.wp C.P o a w (λa' w'=>∃r,R r/\a'=a.put o.dst (val r)/\Ret lent (nw r) w w') (λ_ _ _=>False)
def dstOk(N:Nat)(o:Oper):Prop:=∀t,o.dst=some t->t<N
inductive Tr(C:Cx)(ops:Array Oper):List (Nat×Oper)->St->(St->Prop)->Prop
  |nil {s Q} (h:Q s):Tr C ops [] s Q
  |dup {l s Q} (h:¬(s.hp.map (·.n)).Nodup):Tr C ops l s Q
  |skip {c o rest s Q} (hc:c≠2) (hw:wantS ops s.sl o=some false) (hd:dstOk C.N o) (k:Tr C ops rest (s.put o.dst undef) Q):Tr C ops ((c,o)::rest) s Q
  |pure {c o rest s Q} (v:Value) (hc:c≠2) (hw:wantS ops s.sl o=some true) (hd:dstOk C.N o) (hv:PureV C.P s.sl o v) (k:Tr C ops rest (s.put o.dst v) Q):Tr C ops ((c,o)::rest) s Q
  |kload {c o rest s Q} (v:Value) (hc:c≠2) (hw:wantS ops s.sl o=some true) (hd:dstOk C.N o) (hv:KLoadV C s.sl o v) (k:Tr C ops rest (s.put o.dst v) Q):Tr C ops ((c,o)::rest) s Q
  |load {c o rest s Q} (v:Value) (hc:c≠2) (hc0:c≠0) (hw:wantS ops s.sl o=some true) (hd:dstOk C.N o) (hv:LoadV C s o v) (k:Tr C ops rest (s.put o.dst v) Q):Tr C ops ((c,o)::rest) s Q
  |new {c o rest s Q} (mk:Nat->Value) (cs:List Value) (T:TypeId) (hc:c=2\/c=4) (hw:wantS ops s.sl o=some true) (hd:dstOk C.N o) (hv:NewV C s o mk cs T)
      (k:∀n,C.W0.heap.size<=n->(∀b∈s.hp,b.n≠n)->Tr C ops rest ((s.put o.dst (mk n)).add (blk n cs T)) Q):Tr C ops ((c,o)::rest) s Q
  |grow {ρ:Type} {c o rest s Q} (R:ρ->Prop) (val:ρ->Value) (nw:ρ->List Blk) (hc:c=3\/c=4) (hw:wantS ops s.sl o=some true) (hd:dstOk C.N o) (hv:GrowV C s o R val nw)
      (k:∀r,R r->Tr C ops rest ⟨B3 s.sl o.dst (val r),nw r++s.hp⟩ Q):Tr C ops ((c,o)::rest) s Q
  |lend {ρ:Type} {c o rest s Q} (R:ρ->Prop) (val:ρ->Value) (nw:ρ->List Blk) (lent:List Nat) (L keep:List Blk) (hc:c=5\/c=4) (hw:wantS ops s.sl o=some true) (hd:dstOk C.N o) (hsp:s.hp.Perm (L++keep)) (hl:∀n∈lent,∃b∈L,b.n=n) (hv:LendV C s o R val lent nw)
      (k:∀r,R r->Tr C ops rest ⟨B3 s.sl o.dst (val r),nw r++keep⟩ Q):Tr C ops ((c,o)::rest) s Q
  |act {ρ:Type} {c o rest s Q} (R:ρ->Prop) (val:ρ->Value) (hp:ρ->List Blk) (hc:c=4) (hw:wantS ops s.sl o=some true) (hd:dstOk C.N o) (hv:ActV C s o R val hp)
      (k:∀r,R r->Tr C ops rest ⟨B3 s.sl o.dst (val r),hp r⟩ Q):Tr C ops ((c,o)::rest) s Q
theorem HRep.push(h:HRep C hp w)(cs:List Value)(T:TypeId):
    HRep C (blk w.heap.size cs T::hp) { w with heap:=w.heap.push (.cells cs.toArray T) }:=by
  have aa:∀b∈hp,b.n<w.heap.size:=λb hb=>(h.cells b hb).lt;refine⟨λb hb=>?_,?_,λb hb=>?_,?_,λk hk=>?_,λb hb k hk=>?_⟩
  . rcases Lam.1 hb with rfl|hb
    .exact⟨cs.toArray,(0,0),by simp,by simp,by simp,free0⟩
    . have:=aa b hb
      refine(h.cells b hb).of_heap ?_;simp only[Lc9];rw[if_neg oM]
  . simp only[Lar,Lb6]
    refine⟨λhm=>?_,h.nodup⟩;obtain⟨b,hb,he⟩:=La6.1 hm;have:=aa b hb;omega
  . rcases Lam.1 hb with rfl|hb
    .exact .inl h.keeps.size
    .exact h.own b hb
  . refine⟨h.keeps.os,h.keeps.tape,h.keeps.output,by simp;exact Nat.le_succ_of_le h.keeps.size,h.keeps.drawn,λk hk hn=>?_⟩
    have:=h.keeps.size;simp only[Lc9];rw[if_neg oM];exact h.keeps.block k hk hn
  . have:=(h.kok k hk).lt
    refine(h.kok k hk).of_heap ?_;simp only[Lc9];rw[if_neg oM]
  . rcases Lam.1 hb with rfl|hb
    . have:=(h.kok k hk).lt
      simp only[blk];omega
    .exact h.kd b hb k hk
theorem HRep.lentRet{hp L rest out:List Blk}{lent:List Nat}(hh:HRep C hp w)(ad:hp.Perm (L++rest))(hl:∀n∈lent,∃b∈L,b.n=n)(aa:Ret lent out w w'):HRep C (out++rest) w':=by
  have h1:=hh.perm ad;have ac:=h1.nodup;rw[Lae,Lay]at ac;have inL:∀n∈lent,C.W0.heap.size<=n\/n∈C.lent:=λn hn=>by
    obtain⟨b,hb,rfl⟩:=hl n hn;exact h1.own b (La8.2 (.inl hb))
  have ab:∀b∈rest,b.n∉lent:=λb hb hn=>by
    obtain⟨x,hx,e⟩:=hl _ hn;exact ac.2.2 x.n (La6.2 ⟨x,hx,rfl⟩) b.n (La6.2 ⟨b,hb,rfl⟩) e
  have notK:∀k∈C.kb,k.n∉lent:=λk hk hn=>by
    obtain⟨x,hx,e⟩:=hl _ hn;exact h1.kd x (La8.2 (.inl hx)) k hk e
  have ae:=hh.keeps.size;refine⟨λb hb=>?_,?_,λb hb=>?_,?_,λk hk=>?_,λb hb k hk=>?_⟩
  . rcases La8.1 hb with hb|hb
    .exact aa.cells b hb
    . have:=h1.cells b (La8.2 (.inr hb))
      exact this.of_heap (aa.keeps.block b.n this.lt (ab b hb))
  . rw[Lae,Lay]
    refine⟨aa.nodup,ac.2.1,λi hi j hj=>?_⟩;obtain⟨x,hx,rfl⟩:=La6.1 hi;obtain⟨y,hy,rfl⟩:=La6.1 hj;rcases aa.own x hx with h|h
    . have:=(h1.cells y (La8.2 (.inr hy))).lt
      omega
    .exact λe=>ab y hy (e▸h)
  . rcases La8.1 hb with hb|hb
    . rcases aa.own b hb with h|h
      .exact .inl oM
      .exact inL _ h
    .exact h1.own b (La8.2 (.inr hb))
  . refine⟨aa.keeps.os.trans hh.keeps.os,aa.keeps.tape.trans hh.keeps.tape,aa.keeps.output.trans hh.keeps.output,Lbd ae aa.keeps.size,Lbd hh.keeps.drawn aa.keeps.drawn,λi hi hn=>?_⟩
    refine(aa.keeps.block i oM λh=>?_).trans (hh.keeps.block i hi hn);rcases inL i h with h|h
    .omega
    .exact hn h
  . have:=hh.kok k hk
    exact this.of_heap (aa.keeps.block k.n this.lt (notK k hk))
  . rcases La8.1 hb with hb|hb
    . rcases aa.own b hb with h|h
      . have:=(hh.kok k hk).lt
        omega
      .exact λe=>notK k hk (e▸h)
    .exact h1.kd b (La8.2 (.inr hb)) k hk
theorem Tr.step{c:Nat}{o:Oper}{rest:List (Nat×Oper)}{s:St}{Q:St->Prop}{i:Nat}(hi:ops[i]? =some o)
    (h:Tr C ops ((c,o)::rest) s Q) (a:Act) (w:World) (r:Rep C s a w) (K:Act->World->Prop) (hK:∀s' a' w',Rep C s' a' w'->Tr C ops rest s' Q->K a' w')
    (X:Exit->Act->World->Prop):wpOp C.P ops X i K a w:=by
  have act:∀ {ρ:Type} (R:ρ->Prop) (val:ρ->Value) (hp:ρ->List Blk),wantS ops s.sl o=some true->dstOk C.N o->ActV C s o R val hp->
      (∀r,R r->Tr C ops rest ⟨B3 s.sl o.dst (val r),hp r⟩ Q)->wpOp C.P ops X i K a w:=by
    intro ρ R val hp hw hd hv k;unfold wpOp;simp only[hi,wantS_ok r.rs hw,if_true];refine .inl ?_;have:=hv.run a w (r.rs.fits hv.known) r.rh;unfold Oper.wp at this ⊢;generalize(execOp a.eval o).run C.P w=res at this ⊢;have fin:∀a' w',(∃r,R r/\a'=a.put o.dst (val r)/\HRep C (hp r) w')->K a' w':=by
      rintro a' w' ⟨q,hq,rfl,hh⟩;exact hK _ _ _ ⟨r.rs.put _ _ hd,hh⟩ (k q hq)
    cases res with
    | ok n w1=>
      cases n<;>simp only[Oper.upon]at this ⊢
      case value v=>exact fin _ _ this
      case skip=>exact fin _ _ this
      case defer d=>exact fin _ _ this
      case enter f args=>
        refine this.mono λe w2 he=>?_;cases e with
        |returned v=>exact fin _ _ he
        |panicked ch=>exact he.elim
        |outgrown=>exact he.elim (λ_ hx=>hx.elim (λ_ hy=>hy.elim))
      case row row args=>exact this.mono λv w2 he=>fin _ _ he
    |halt x w1=>cases x<;>simp only[Oper.upon]at this
  cases h with
  | skip hc hw hd k=>
    unfold wpOp;simp only[hi,wantS_ok r.rs hw,Bool.false_eq_true,if_false];exact hK (s.put o.dst _) _ _ ⟨r.rs.put _ _ hd,r.rh⟩ k
  | pure v hc hw hd hv k=>
    unfold wpOp;simp only[hi,wantS_ok r.rs hw,if_true];refine .inl ?_;unfold Oper.wp;rw[hv.run a.eval (r.rs.fits hv.known) w];exact hK (s.put o.dst _) _ _ ⟨r.rs.put _ _ hd,r.rh⟩ k
  | kload v hc hw hd hv k=>
    unfold wpOp;simp only[hi,wantS_ok r.rs hw,if_true];refine .inl ?_;unfold Oper.wp;rw[hv.run a.eval (r.rs.fits hv.known) w r.rh.kok r.rh.keeps];exact hK (s.put o.dst _) _ _ ⟨r.rs.put _ _ hd,r.rh⟩ k
  | load v hc ac hw hd hv k=>
    unfold wpOp;simp only[hi,wantS_ok r.rs hw,if_true];refine .inl ?_;unfold Oper.wp;rw[hv.run a.eval (r.rs.fits hv.known) w r.rh];exact hK (s.put o.dst _) _ _ ⟨r.rs.put _ _ hd,r.rh⟩ k
  | new mk cs T hc hw hd hv k=>
    unfold wpOp;simp only[hi,wantS_ok r.rs hw,if_true];refine .inl ?_;unfold Oper.wp;rw[hv.run a.eval (r.rs.fits hv.known) w];refine hK ((s.put o.dst (mk w.heap.size)).add (blk w.heap.size cs T)) _ _ ⟨r.rs.put _ _ hd,r.rh.push cs T⟩ (k _ r.rh.keeps.size λb hb he=>?_);have:=(r.rh.cells b hb).lt;omega
  |dup h=>exact absurd r.rh.nodup h
  | grow R val nw hc hw hd hv k=>
    exact act R val (λr=>nw r++s.hp) hw hd ⟨hv.known,λa w hf hh=>Oper.wp_mono (λ_ _ ⟨r,h1,h2,h3⟩=>⟨r,h1,h2,hh.grown h3⟩) (hv.run a w hf hh)⟩ k
  |lend R val nw ab L keep hc hw hd aa hl hv k=>exact act R val (λr=>nw r++keep) hw hd ⟨hv.known,λa w hf hh=>Oper.wp_mono (λ_ _ ⟨r,h1,h2,h3⟩=>⟨r,h1,h2,hh.lentRet aa hl h3⟩) (hv.run a w hf hh)⟩ k
  |act R val hp hc hw hd hv k=>exact act R val hp hw hd hv k
structure St.Eqv(s s':St):Prop where
  sl:∀t,look s.sl t=look s'.sl t
  hp:s.hp.Perm s'.hp
theorem St.Eqv.refl(s:St):s.Eqv s:=⟨λ_=>rfl, .refl _⟩
theorem St.Eqv.symm{s s':St}(h:s.Eqv s'):s'.Eqv s:=⟨λt=>(h.sl t).symm,h.hp.symm⟩
theorem St.Eqv.trans{s s' s'':St}(h:s.Eqv s')(k:s'.Eqv s''):s.Eqv s'':=⟨λt=>(h.sl t).trans (k.sl t),h.hp.trans k.hp⟩
theorem evIn_eqv(h:∀t,look sl t=look sl' t)(x:Operand):Ai sl x=Ai sl' x:=by
  cases x<;>simp[Ai,h]
theorem look_put(h:∀t,look sl t=look sl' t)(d:Option Tmp)(v:Value)(t:Nat):look (B3 sl d v) t=look (B3 sl' d v) t:=by
  cases d with
  |none=>exact h t
  | some d=>
    by_cases hd:d=t
    .subst hd;simp[B3,look_cons_eq]
    .simp[B3,look_cons_ne _ _ hd,h]
theorem Rep.eqv{s s':St}{a:Act}(r:Rep C s a w)(h:s.Eqv s'):Rep C s' a w:=
  ⟨⟨r.rs.size,r.rs.defers,λt v ht=>r.rs.slots t v (by rw[h.sl];exact ht)⟩,r.rh.perm h.hp⟩
theorem wantS_eqv(h:∀t,look sl t=look sl' t)(o:Oper):wantS ops sl o=wantS ops sl' o:=by
  unfold wantS;cases o.guard with
  |none=>rfl
  |some g=>obtain⟨j,aa⟩:=g;simp only[h]
theorem Known.eqv{o:Oper}(hk:Known sl o)(h:∀t,look sl t=look sl' t):Known sl' o:=λx hx=>by rw[<-evIn_eqv h];exact hk x hx
theorem Fits.eqv{o:Oper}{ρ:Operand->Value}(hk:Fits sl o ρ)(h:∀t,look sl t=look sl' t):Fits sl' o ρ:=λx hx=>by rw[<-evIn_eqv h];exact hk x hx
def clQ(Q:St->Prop)(s:St):Prop:=∃s0,St.Eqv s0 s/\Q s0
theorem clQ_cl{Q:St->Prop}{s:St}(h:clQ (clQ Q) s):clQ Q s:=by
  obtain⟨s0,h0,s1,h1,q⟩:=h;exact⟨s1,h1.trans h0,q⟩
theorem Tr.eqv{l:List (Nat×Oper)}{s:St}{Q:St->Prop}(h:Tr C ops l s Q):∀s',s.Eqv s'->Tr C ops l s' (clQ Q):=by
  induction h with
  |nil h=>exact λs' e=> .nil ⟨_,e,h⟩
  |dup h=>exact λs' e=> .dup λhn=>h ((e.hp.map _).nodup_iff.2 hn)
  |skip hc hw hd k ih=>exact λs' e=> .skip hc (by rw[<-wantS_eqv e.sl];exact hw) hd (ih _ ⟨look_put e.sl _ _,e.hp⟩)
  | pure v hc hw hd hv k ih=>
    exact λs' e=> .pure v hc (by rw[<-wantS_eqv e.sl];exact hw) hd ⟨hv.known.eqv e.sl,λρ hf=>hv.run ρ (hf.eqv e.symm.sl)⟩ (ih _ ⟨look_put e.sl _ _,e.hp⟩)
  | kload v hc hw hd hv k ih=>
    exact λs' e=> .kload v hc (by rw[<-wantS_eqv e.sl];exact hw) hd ⟨hv.known.eqv e.sl,λρ hf=>hv.run ρ (hf.eqv e.symm.sl)⟩ (ih _ ⟨look_put e.sl _ _,e.hp⟩)
  | load v hc ac hw hd hv k ih=>
    exact λs' e=> .load v hc ac (by rw[<-wantS_eqv e.sl];exact hw) hd ⟨hv.known.eqv e.sl,λρ hf w hh=>hv.run ρ (hf.eqv e.symm.sl) w (hh.perm e.hp.symm)⟩ (ih _ ⟨look_put e.sl _ _,e.hp⟩)
  | new mk cs T hc hw hd hv k ih=>
    exact λs' e=> .new mk cs T hc (by rw[<-wantS_eqv e.sl];exact hw) hd ⟨hv.known.eqv e.sl,λρ hf=>hv.run ρ (hf.eqv e.symm.sl)⟩ λn hn hf=>
      ih n hn (λb hb=>hf b (e.hp.mem_iff.1 hb)) _ ⟨look_put e.sl _ _,e.hp.cons _⟩
  | grow R val nw hc hw hd hv k ih=>
    exact λs' e=> .grow R val nw hc (by rw[<-wantS_eqv e.sl];exact hw) hd
      ⟨hv.known.eqv e.sl,hv.some,λa w hf hh=>hv.run a w (hf.eqv e.symm.sl) (hh.perm e.hp.symm)⟩
      λr hr=>ih r hr _ ⟨look_put e.sl _ _,e.hp.append_left _⟩
  | lend R val nw aa L keep hc hw hd ab hl hv k ih=>
    exact λs' e=> .lend R val nw aa L keep hc (by rw[<-wantS_eqv e.sl];exact hw) hd (e.hp.symm.trans ab) hl
      ⟨hv.known.eqv e.sl,hv.some,λa w hf hh=>hv.run a w (hf.eqv e.symm.sl) (hh.perm e.hp.symm)⟩
      λr hr=>ih r hr _ ⟨look_put e.sl _ _, .refl _⟩
  | act R val hp hc hw hd hv k ih=>
    exact λs' e=> .act R val hp hc (by rw[<-wantS_eqv e.sl];exact hw) hd ⟨hv.known.eqv e.sl,λa w hf hh=>hv.run a w (hf.eqv e.symm.sl) (hh.perm e.hp.symm)⟩
      λr hr=>ih r hr _ ⟨look_put e.sl _ _, .refl _⟩
theorem look_comm{d e:Option Tmp}(h:∀t,d=some t->e≠some t)(v u:Value)(t:Nat):
    look (B3 (B3 sl d v) e u) t=look (B3 (B3 sl e u) d v) t:=by
  cases d with
  |none=>rfl
  | some d=>
    cases e with
    |none=>rfl
    | some e=>
      have aa:d≠e:=λhe=>h d rfl (by rw[he]);by_cases h1:e=t
      . subst h1
        simp[B3,look_cons_eq,look_cons_ne _ _ aa]
      . by_cases h2:d=t
        . subst h2
          simp[B3,look_cons_eq,look_cons_ne _ _ h1]
        .simp[B3,look_cons_ne _ _ h1,look_cons_ne _ _ h2]
theorem evIn_put{v:Value}{x:Operand}(h:∀t,d=some t->x≠ .tmp t):Ai (B3 sl d v) x=Ai sl x:=by
  cases d with
  |none=>rfl
  | some d=>
    cases x with
    |tmp t=>exact look_cons_ne _ _ λe=>h d rfl (by rw[e])
    |_=>rfl
theorem look_put_ne{v:Value}(h:d≠some t):look (B3 sl d v) t=look sl t:=by
  cases d with
  |none=>rfl
  |some d=>exact look_cons_ne _ _ λe=>h (by rw[e])
section
variable{ops:Array Oper}{x y:Oper}{d:Option Tmp}{v:Value}{sl:List (Nat×Value)}
theorem not_look{o:Oper}(h:∀t,d=some t->t∉o.looksAt ops):(∀z∈o.op.operands,∀t,d=some t->z≠ .tmp t)/\
    (∀j aa,o.guard=some (j,aa)->∀t,(ops[j]?).bind (·.dst)=some t->d≠some t):=by
  refine⟨λz hz t ht he=>h t ht ?_,λj aa hg t hb hd=>h t hd ?_⟩
  . subst he
    exact La8.2 (.inl (Lg5.2 ⟨.tmp t,by simpa using hz,rfl⟩))
  . refine La8.2 (.inr ?_)
    simp[hg,hb]
theorem B1{o:Oper}(h:∀t,d=some t->t∉o.looksAt ops):wantS ops (B3 sl d v) o=wantS ops sl o:=by
  have hh:=(not_look h).2;unfold wantS;cases hg:o.guard with
  |none=>rfl
  | some g=>
    obtain⟨j,aa⟩:=g;simp only[];cases hb:(ops[j]?).bind (·.dst)with
    |none=>rfl
    |some t=>simp only[];rw[look_put_ne (hh j aa hg t hb)]
theorem known_put{o:Oper}(h:∀t,d=some t->t∉o.looksAt ops):Known (B3 sl d v) o↔Known sl o:=by
  have hh:=(not_look h).1;exact⟨λk z hz=>by rw[<-evIn_put (v:=v) (hh z hz)];exact k z hz,λk z hz=>by rw[evIn_put (hh z hz)];exact k z hz⟩
theorem fits_put{o:Oper}{ρ:Operand->Value}(h:∀t,d=some t->t∉o.looksAt ops):Fits (B3 sl d v) o ρ↔Fits sl o ρ:=by
  have hh:=(not_look h).1;exact⟨λk z hz=>by rw[<-evIn_put (v:=v) (hh z hz)];exact k z hz,λk z hz=>by rw[evIn_put (hh z hz)];exact k z hz⟩
end
def comm(c e:Nat):Bool:=c==0||(c==1&&Nat.ble e 3)||((c==2||c==3||c==5)&&e==2)
variable{A K hp:List Blk}{C:Cx}{N:St->Prop}{R:Value->List Blk->Prop}{code:Code}{e i:Nat}{fn:Func}{listed:Array Bool}{ops:Array Oper}{p:Prop}{sl:List (Nat×Value)}{ι:Type}
theorem Tr.inv_new{y:Oper}{rest:List (Nat×Oper)}{s:St}{Q:St->Prop}(h:Tr C ops ((2,y)::rest) s Q)(hn:(s.hp.map (·.n)).Nodup):
    ∃mk cs T,wantS ops s.sl y=some true/\dstOk C.N y/\NewV C s y mk cs T/\∀n,C.W0.heap.size<=n->(∀b∈s.hp,b.n≠n)->Tr C ops rest ((s.put y.dst (mk n)).add (blk n cs T)) Q:=by
  cases h with
  |dup h=>exact absurd hn h
  |skip hc hw hd k=>exact absurd rfl hc
  |pure v hc hw hd hv k=>exact absurd rfl hc
  |kload v hc hw hd hv k=>exact absurd rfl hc
  |load v hc ac hw hd hv k=>exact absurd rfl hc
  |new mk cs T hc hw hd hv k=>exact⟨mk,cs,T,hw,hd,hv,k⟩
  |grow R val nw hc hw hd hv k=>rcases hc with hc|hc<;>simp at hc
  |lend R val nw aa L keep hc hw hd ab hl hv k=>rcases hc with hc|hc<;>simp at hc
  |act R val hp hc hw hd hv k=>simp at hc
theorem NewV.same{s s':St}{o:Oper}{mk mk':Nat->Value}{cs cs':List Value}{T T':TypeId}(h:NewV C s o mk cs T)(h':NewV C s' o mk' cs' T')(e:∀z∈o.op.operands,Ai s.sl z=Ai s'.sl z):mk=mk'/\cs=cs'/\T=T':=by
  let ρ:Operand->Value:=λz=>(Ai s.sl z).getD undef
  have f:Fits s.sl o ρ:=λz hz=>by
    have:=h.known z hz;cases hv:Ai s.sl z with
    |none=>simp[hv]at this
    |some v=>simp[ρ,hv]
  have f':Fits s'.sl o ρ:=λz hz=>by rw[<-e z hz];exact f z hz
  have aa:mk=mk':=funext λn=>by
    have r:=h.run ρ f { C.W0 with heap:=Array.replicate n (.cells #[] T) };rw[h'.run ρ f' { C.W0 with heap:=Array.replicate n (.cells #[] T) }]at r;simp only[Array.size_replicate]at r;injection r with r1 _;injection r1 with r2;exact r2.symm
  refine⟨aa,?_⟩;have r:=h.run ρ f C.W0;have r':=h'.run ρ f' C.W0;rw[r]at r';injection r' with _ hw;have hh:C.W0.heap.push (.cells cs.toArray T)=C.W0.heap.push (.cells cs'.toArray T'):=congrArg World.heap hw;have hb:=congrArg (λa=>a.back?) hh;simp at hb;exact⟨hb.1,hb.2⟩
theorem fresh_is(B:Nat)(hp:List Blk):∃n,B<=n/\∀b∈hp,b.n≠n:=by
  have:∃N,∀b∈hp,b.n<N:=by
    induction hp with
    |nil=>exact⟨0,by simp⟩
    | cons x l ih=>
      obtain⟨N,hN⟩:=ih;refine⟨N+x.n+1,λb hb=>?_⟩;rcases Lam.1 hb with rfl|hb
      .omega
      .have:=hN b hb;omega
  obtain⟨N,hN⟩:=this;exact⟨B+N,by omega,λb hb=>by have:=hN b hb;omega⟩
theorem nodup_new{n:Nat}{cs:List Value}{T:TypeId}(h:(hp.map (·.n)).Nodup)(hf:∀b∈hp,b.n≠n):((blk n cs T::hp).map (·.n)).Nodup:=by
  rw[Lar,Lb6];refine⟨λhm=>?_,h⟩;obtain⟨b,hb,he⟩:=La6.1 hm;exact hf b hb he
theorem Tr.swap2{x y:Oper}{rest:List (Nat×Oper)}{s:St}{Q:St->Prop}(ae:x.apart ops y=true)(ab:(s.hp.map (·.n)).Nodup)
    (h:Tr C ops ((2,x)::(2,y)::rest) s Q):Tr C ops ((2,y)::(2,x)::rest) s (clQ Q):=by
  obtain⟨h1,h2,h3⟩:=Oper.apart_spec ae;obtain⟨mx,cx,Tx,gx,dx,vx,k⟩:=h.inv_new ab;obtain⟨n0,aj,ad⟩:=fresh_is C.W0.heap.size s.hp;obtain⟨my,cy,Ty,gy,dy,vy,_⟩:=(k n0 aj ad).inv_new (nodup_new ab ad);have ey:∀(u:Value),∀z∈y.op.operands,Ai (B3 s.sl x.dst u) z=Ai s.sl z:=λu z hz=>evIn_put ((not_look (ops:=ops) h1).1 z hz);have ex:∀(u:Value),∀z∈x.op.operands,Ai (B3 s.sl y.dst u) z=Ai s.sl z:=λu z hz=>evIn_put ((not_look (ops:=ops) h3).1 z hz);refine .new my cy Ty (.inl rfl) (by rw[<-B1 (d:=x.dst) (v:=mx n0) h1];exact gy) dy ⟨λz hz=>by rw[<-ey _ z hz];exact vy.known z hz,λρ hf=>vy.run ρ λz hz=>by
    show Ai (B3 s.sl x.dst _) z=_;rw[ey _ z hz];exact hf z hz⟩ λm hm ah=>?_
  refine .new mx cx Tx (.inl rfl) (by show wantS ops (B3 s.sl y.dst _) x=_;rw[B1 h3];exact gx) dx ⟨λz hz=>by show(Ai (B3 s.sl y.dst _) z).isSome;rw[ex _ z hz];exact vx.known z hz,λρ hf=>vx.run ρ λz hz=>by
    have:=hf z hz;rw[<-ex (my m) z hz];exact this⟩ λn hn ac=>?_
  have aa:∀b∈s.hp,b.n≠n:=λb hb=>ac b (Laj _ hb);have ai:m≠n:=ac (blk m cy Ty) La9;obtain⟨ak,am,Ty',_,_,ag,k'⟩:=(k n hn aa).inv_new (nodup_new ab aa);obtain⟨rfl,rfl,rfl⟩:=vy.same ag λz hz=>by
    show Ai (B3 s.sl x.dst _) z=Ai (B3 s.sl x.dst _) z;rw[ey _ z hz,ey _ z hz]
  refine(k' m hm λb hb=>?_).eqv _ ⟨λt=>look_comm h2 _ _ t, .swap _ _ _⟩;rcases Lam.1 hb with rfl|hb
  .exact Ne.symm ai
  .exact ah b hb
theorem Tr.swap3{x y:Oper}{rest:List (Nat×Oper)}{s:St}{Q:St->Prop}(ai:x.apart ops y=true)(ae:(s.hp.map (·.n)).Nodup)
    (ab:∀v,dstOk C.N x->Tr C ops ((2,y)::rest) (s.put x.dst v) Q->(∀(s':St),(∀z∈x.op.operands,Ai s'.sl z=Ai s.sl z)->wantS ops s'.sl x=wantS ops s.sl x->(∀w,HRep C s'.hp w->HRep C s.hp w)->
        Tr C ops rest (s'.put x.dst v) (clQ Q)->Tr C ops ((3,x)::rest) s' (clQ Q))->Tr C ops ((2,y)::(3,x)::rest) s (clQ Q))
    (h:Tr C ops ((3,x)::(2,y)::rest) s Q):Tr C ops ((2,y)::(3,x)::rest) s (clQ Q):=by
  obtain⟨h1,h2,h3⟩:=Oper.apart_spec ai;cases h with
  |dup h=>exact absurd ae h
  |skip hc2 hw hd k=>exact ab _ hd k λs' he aa _ kk=> .skip hc2 (by rw[aa];exact hw) hd kk
  | pure v hc2 hw hd hv k=>
    exact ab v hd k λs' he aa _ kk=> .pure v hc2 (by rw[aa];exact hw) hd
      ⟨λz hz=>by rw[he z hz];exact hv.known z hz,λρ hf=>hv.run ρ λz hz=>by rw[<-he z hz];exact hf z hz⟩ kk
  | kload v hc2 hw hd hv k=>
    exact ab v hd k λs' he aa _ kk=> .kload v hc2 (by rw[aa];exact hw) hd
      ⟨λz hz=>by rw[he z hz];exact hv.known z hz,λρ hf=>hv.run ρ λz hz=>by rw[<-he z hz];exact hf z hz⟩ kk
  | load v hc2 am hw hd hv k=>
    exact ab v hd k λs' he aa hh kk=> .load v hc2 am (by rw[aa];exact hw) hd
      ⟨λz hz=>by rw[he z hz];exact hv.known z hz,λρ hf w hr=>hv.run ρ (λz hz=>by rw[<-he z hz];exact hf z hz) w (hh w hr)⟩ kk
  |new mk cs T hc2 hw hd hv k=>rcases hc2 with hc2|hc2<;>simp at hc2
  |lend R val nw an L keep hc2 hw hd ao hl hv k=>rcases hc2 with hc2|hc2<;>simp at hc2
  |act R val hp hc2 hw hd hv k=>simp at hc2
  | grow R val nw hc2 hw hd hv k=>
    obtain⟨r0,aj,ah⟩:=hv.some s.hp ae;have ey:∀(u:Value),∀z∈y.op.operands,Ai (B3 s.sl x.dst u) z=Ai s.sl z:=λu z hz=>evIn_put ((not_look (ops:=ops) h1).1 z hz);have ex:∀(u:Value),∀z∈x.op.operands,Ai (B3 s.sl y.dst u) z=Ai s.sl z:=λu z hz=>evIn_put ((not_look (ops:=ops) h3).1 z hz);obtain⟨my,cy,Ty,gy,dy,vy,_⟩:=(k r0 aj).inv_new ah;refine .new my cy Ty (.inl rfl) (by rw[<-B1 (d:=x.dst) (v:=val r0) h1];exact gy) dy ⟨λz hz=>by rw[<-ey _ z hz];exact vy.known z hz,λρ hf=>vy.run ρ λz hz=>by
      show Ai (B3 s.sl x.dst _) z=_;rw[ey _ z hz];exact hf z hz⟩ λm hm ag=>?_
    refine .grow R val nw hc2 (by show wantS ops (B3 s.sl y.dst _) x=_;rw[B1 h3];exact hw) hd ⟨λz hz=>by show(Ai (B3 s.sl y.dst _) z).isSome;rw[ex _ z hz];exact hv.known z hz,hv.some,λa w hf hh=>?_⟩ λr hr=>?_
    . refine hv.run a w (λz hz=>?_) (hh.sub (λb hb=>Laj _ hb) ae)
      have:=hf z hz;rw[<-ex (my m) z hz];exact this
    . by_cases ac:((nw r++(blk m cy Ty::s.hp)).map (·.n)).Nodup
      . have ad:((nw r++s.hp).map (·.n)).Nodup/\∀b∈nw r++s.hp,b.n≠m:=by
          rw[Lae,Lay]at ac;obtain⟨d1,d2,d3⟩:=ac;rw[Lar,Lb6]at d2;refine⟨?_,λb hb=>?_⟩
          . rw[Lae,Lay]
            exact⟨d1,d2.2,λi hi j hj=>d3 i hi j (by rw[Lar];exact Laj _ hj)⟩
          . rcases La8.1 hb with hb|hb
            .exact d3 b.n (La6.2 ⟨b,hb,rfl⟩) m (by rw[Lar];exact La9)
            .exact ag b hb
        obtain⟨ap,aq,Ty',_,_,ak,k'⟩:=(k r hr).inv_new ad.1;obtain⟨rfl,rfl,rfl⟩:=vy.same ak λz hz=>by
          show Ai (B3 s.sl x.dst _) z=Ai (B3 s.sl x.dst _) z;rw[ey _ z hz,ey _ z hz]
        exact(k' m hm ad.2).eqv _ ⟨λt=>look_comm h2 _ _ t,(Ldu (a:=blk m cy Ty) (l₁:=nw r) (l₂:=s.hp)).symm⟩
      .exact .dup ac
theorem Tr.swap5{x y:Oper}{rest:List (Nat×Oper)}{s:St}{Q:St->Prop}(am:x.apart ops y=true)(ag:(s.hp.map (·.n)).Nodup)
    (ab:∀v,dstOk C.N x->Tr C ops ((2,y)::rest) (s.put x.dst v) Q->(∀(s':St),(∀z∈x.op.operands,Ai s'.sl z=Ai s.sl z)->wantS ops s'.sl x=wantS ops s.sl x->(∀w,HRep C s'.hp w->HRep C s.hp w)->
        Tr C ops rest (s'.put x.dst v) (clQ Q)->Tr C ops ((5,x)::rest) s' (clQ Q))->Tr C ops ((2,y)::(5,x)::rest) s (clQ Q))
    (h:Tr C ops ((5,x)::(2,y)::rest) s Q):Tr C ops ((2,y)::(5,x)::rest) s (clQ Q):=by
  obtain⟨h1,h2,h3⟩:=Oper.apart_spec am;cases h with
  |dup h=>exact absurd ag h
  |skip hc2 hw hd k=>exact ab _ hd k λs' he aa _ kk=> .skip hc2 (by rw[aa];exact hw) hd kk
  | pure v hc2 hw hd hv k=>
    exact ab v hd k λs' he aa _ kk=> .pure v hc2 (by rw[aa];exact hw) hd
      ⟨λz hz=>by rw[he z hz];exact hv.known z hz,λρ hf=>hv.run ρ λz hz=>by rw[<-he z hz];exact hf z hz⟩ kk
  | kload v hc2 hw hd hv k=>
    exact ab v hd k λs' he aa _ kk=> .kload v hc2 (by rw[aa];exact hw) hd
      ⟨λz hz=>by rw[he z hz];exact hv.known z hz,λρ hf=>hv.run ρ λz hz=>by rw[<-he z hz];exact hf z hz⟩ kk
  | load v hc2 ap hw hd hv k=>
    exact ab v hd k λs' he aa hh kk=> .load v hc2 ap (by rw[aa];exact hw) hd
      ⟨λz hz=>by rw[he z hz];exact hv.known z hz,λρ hf w hr=>hv.run ρ (λz hz=>by rw[<-he z hz];exact hf z hz) w (hh w hr)⟩ kk
  |new mk cs T hc2 hw hd hv k=>rcases hc2 with hc2|hc2<;>simp at hc2
  |grow R val nw hc2 hw hd hv k=>rcases hc2 with hc2|hc2<;>simp at hc2
  |act R val hp hc2 hw hd hv k=>simp at hc2
  | lend R val nw lent L keep hc2 hw hd ae hl hv k=>
    have ah:(keep.map (·.n)).Nodup/\∀b∈keep,b.n∉lent:=by
      have h4:=(ae.map (·.n)).nodup_iff.1 ag;rw[Lae,Lay]at h4;refine⟨h4.2.1,λb hb hn=>?_⟩;obtain⟨z,hz,e⟩:=hl _ hn;exact h4.2.2 z.n (La6.2 ⟨z,hz,rfl⟩) b.n (La6.2 ⟨b,hb,rfl⟩) e
    obtain⟨r0,an,ak⟩:=hv.some keep ah.1 ah.2;have ey:∀(u:Value),∀z∈y.op.operands,Ai (B3 s.sl x.dst u) z=Ai s.sl z:=λu z hz=>evIn_put ((not_look (ops:=ops) h1).1 z hz);have ex:∀(u:Value),∀z∈x.op.operands,Ai (B3 s.sl y.dst u) z=Ai s.sl z:=λu z hz=>evIn_put ((not_look (ops:=ops) h3).1 z hz);obtain⟨my,cy,Ty,gy,dy,vy,_⟩:=(k r0 an).inv_new ak;refine .new my cy Ty (.inl rfl) (by rw[<-B1 (d:=x.dst) (v:=val r0) h1];exact gy) dy ⟨λz hz=>by rw[<-ey _ z hz];exact vy.known z hz,λρ hf=>vy.run ρ λz hz=>by
      show Ai (B3 s.sl x.dst _) z=_;rw[ey _ z hz];exact hf z hz⟩ λm hm aj=>?_
    refine .lend R val nw lent L (blk m cy Ty::keep) hc2 (by show wantS ops (B3 s.sl y.dst _) x=_;rw[B1 h3];exact hw) hd ((List.Perm.cons _ ae).trans Ldu.symm) hl ⟨λz hz=>by show(Ai (B3 s.sl y.dst _) z).isSome;rw[ex _ z hz];exact hv.known z hz,hv.some,λa w hf hh=>?_⟩ λr hr=>?_
    . refine hv.run a w (λz hz=>?_) (hh.sub (λb hb=>Laj _ hb) ag)
      have:=hf z hz;rw[<-ex (my m) z hz];exact this
    . have ai:∀b∈keep,b.n≠m:=λb hb=>aj b (ae.symm.subset (La8.2 (.inr hb)))
      by_cases ac:((nw r++(blk m cy Ty::keep)).map (·.n)).Nodup
      . have ad:((nw r++keep).map (·.n)).Nodup/\∀b∈nw r++keep,b.n≠m:=by
          rw[Lae,Lay]at ac;obtain⟨d1,d2,d3⟩:=ac;rw[Lar,Lb6]at d2;refine⟨?_,λb hb=>?_⟩
          . rw[Lae,Lay]
            exact⟨d1,d2.2,λi hi j hj=>d3 i hi j (by rw[Lar];exact Laj _ hj)⟩
          . rcases La8.1 hb with hb|hb
            .exact d3 b.n (La6.2 ⟨b,hb,rfl⟩) m (by rw[Lar];exact La9)
            .exact ai b hb
        obtain⟨aq,ar,Ty',_,_,ao,k'⟩:=(k r hr).inv_new ad.1;obtain⟨rfl,rfl,rfl⟩:=vy.same ao λz hz=>by
          show Ai (B3 s.sl x.dst _) z=Ai (B3 s.sl x.dst _) z;rw[ey _ z hz,ey _ z hz]
        exact(k' m hm ad.2).eqv _ ⟨λt=>look_comm h2 _ _ t,(Ldu (a:=blk m cy Ty) (l₁:=nw r) (l₂:=keep)).symm⟩
      .exact .dup ac
theorem Tr.swap{c e:Nat}{x y:Oper}{rest:List (Nat×Oper)}{s:St}{Q:St->Prop}(hc:comm c e=true)(ah:x.apart ops y=true)
    (h:Tr C ops ((c,x)::(e,y)::rest) s Q):Tr C ops ((e,y)::(c,x)::rest) s (clQ Q):=by
  by_cases ac:(s.hp.map (·.n)).Nodup
  case neg=>exact .dup ac
  by_cases ao:c=2
  . subst ao
    have he:e=2:=by simpa[comm]using hc
    subst he;exact Tr.swap2 ah ac h
  by_cases aj:c=3
  . subst aj
    have he:e=2:=by simpa[comm]using hc
    subst he;refine Tr.swap3 ah ac (λv ap k fin=>?_) h;obtain⟨h1,h2,h3⟩:=Oper.apart_spec ah;obtain⟨mk,cs,T,hw,hd,hv,k⟩:=k.inv_new ac;exact .new mk cs T (.inl rfl) (by rw[<-B1 (v:=v) h1];exact hw) hd ⟨(known_put h1).1 hv.known,λρ hf=>hv.run ρ ((fits_put h1).2 hf)⟩ λn hn hf=>
      fin _ (λz hz=>evIn_put ((not_look (ops:=ops) h3).1 z hz)) (B1 h3) (λw hr=>hr.sub (λb hb=>Laj _ hb) (by have:=hr.nodup;simp only[St.add,Lar,Lb6]at this;exact this.2))
        ((k n hn hf).eqv _ ⟨λt=>look_comm h2 _ _ t, .refl _⟩)
  by_cases ak:c=5
  . subst ak
    have he:e=2:=by simpa[comm]using hc
    subst he;refine Tr.swap5 ah ac (λv ap k fin=>?_) h;obtain⟨h1,h2,h3⟩:=Oper.apart_spec ah;obtain⟨mk,cs,T,hw,hd,hv,k⟩:=k.inv_new ac;exact .new mk cs T (.inl rfl) (by rw[<-B1 (v:=v) h1];exact hw) hd ⟨(known_put h1).1 hv.known,λρ hf=>hv.run ρ ((fits_put h1).2 hf)⟩ λn hn hf=>
      fin _ (λz hz=>evIn_put ((not_look (ops:=ops) h3).1 z hz)) (B1 h3) (λw hr=>hr.sub (λb hb=>Laj _ hb) (by have:=hr.nodup;simp only[St.add,Lar,Lb6]at this;exact this.2))
        ((k n hn hf).eqv _ ⟨λt=>look_comm h2 _ _ t, .refl _⟩)
  obtain⟨h1,h2,h3⟩:=Oper.apart_spec ah
  -- the first one is am: its value, and that it stays so
  have am:∃v,dstOk C.N x/\Tr C ops ((e,y)::rest) (s.put x.dst v) Q/\c≠2/\
      ∀ (s':St),(∀z∈x.op.operands,Ai s'.sl z=Ai s.sl z)->wantS ops s'.sl x=wantS ops s.sl x->((c≠0)->∀w,HRep C s'.hp w->HRep C s.hp w)->
        Tr C ops rest (s'.put x.dst v) (clQ Q)->Tr C ops ((c,x)::rest) s' (clQ Q):=by
    cases h with
    |dup h=>exact absurd ac h
    |skip aa hw hd k=>exact⟨_,hd,k,aa,λs' _ ag _ kk=> .skip aa (by rw[ag];exact hw) hd kk⟩
    | pure v aa hw hd hv k=>
      exact⟨v,hd,k,aa,λs' he ag _ kk=> .pure v aa (by rw[ag];exact hw) hd
        ⟨λz hz=>by rw[he z hz];exact hv.known z hz,λρ hf=>hv.run ρ λz hz=>by rw[<-he z hz];exact hf z hz⟩ kk⟩
    | kload v aa hw hd hv k=>
      exact⟨v,hd,k,aa,λs' he ag _ kk=> .kload v aa (by rw[ag];exact hw) hd
        ⟨λz hz=>by rw[he z hz];exact hv.known z hz,λρ hf=>hv.run ρ λz hz=>by rw[<-he z hz];exact hf z hz⟩ kk⟩
    | load v aa ae hw hd hv k=>
      exact⟨v,hd,k,aa,λs' he ag hh kk=> .load v aa ae (by rw[ag];exact hw) hd
        ⟨λz hz=>by rw[he z hz];exact hv.known z hz,λρ hf w hr=>hv.run ρ (λz hz=>by rw[<-he z hz];exact hf z hz) w (hh ae w hr)⟩ kk⟩
    |new mk cs T aa hw hd hv k=>rcases aa with rfl|rfl<;>first|exact absurd rfl ao|(simp[comm]at hc;done)
    |grow R val nw aa hw hd hv k=>rcases aa with rfl|rfl<;>first|exact absurd rfl aj|(simp[comm]at hc;done)
    |lend R val nw ai L keep aa hw hd an hl hv k=>rcases aa with rfl|rfl<;>first|exact absurd rfl ak|(simp[comm]at hc;done)
    |act R val hp aa hw hd hv k=>subst aa;simp[comm]at hc
  obtain⟨v,ap,k,aa,fin⟩:=am;have ad:∀(u:Value),∀z∈x.op.operands,Ai (B3 s.sl y.dst u) z=Ai s.sl z:=λu z hz=>evIn_put ((not_look (ops:=ops) h3).1 z hz);have wx:∀(u:Value),wantS ops (B3 s.sl y.dst u) x=wantS ops s.sl x:=λu=>B1 h3;have cm:∀u t,look (B3 (B3 s.sl x.dst v) y.dst u) t=look (B3 (B3 s.sl y.dst u) x.dst v) t:=λu t=>look_comm h2 v u t;cases k with
  |dup h=>exact absurd ac h
  |skip ab hw hd k=>exact .skip ab (by rw[<-B1 (v:=v) h1];exact hw) hd (fin _ (ad _) (wx _) (λ_ _ h=>h) (k.eqv _ ⟨cm _, .refl _⟩))
  | pure u ab hw hd hv k=>
    exact .pure u ab (by rw[<-B1 (v:=v) h1];exact hw) hd ⟨(known_put h1).1 hv.known,λρ hf=>hv.run ρ ((fits_put h1).2 hf)⟩
      (fin _ (ad _) (wx _) (λ_ _ h=>h) (k.eqv _ ⟨cm _, .refl _⟩))
  | kload u ab hw hd hv k=>
    exact .kload u ab (by rw[<-B1 (v:=v) h1];exact hw) hd ⟨(known_put h1).1 hv.known,λρ hf=>hv.run ρ ((fits_put h1).2 hf)⟩
      (fin _ (ad _) (wx _) (λ_ _ h=>h) (k.eqv _ ⟨cm _, .refl _⟩))
  | load u ab ae hw hd hv k=>
    exact .load u ab ae (by rw[<-B1 (v:=v) h1];exact hw) hd ⟨(known_put h1).1 hv.known,λρ hf w hr=>hv.run ρ ((fits_put h1).2 hf) w hr⟩
      (fin _ (ad _) (wx _) (λ_ _ h=>h) (k.eqv _ ⟨cm _, .refl _⟩))
  | new mk cs T ab hw hd hv k=>
    exact .new mk cs T ab (by rw[<-B1 (v:=v) h1];exact hw) hd ⟨(known_put h1).1 hv.known,λρ hf=>hv.run ρ ((fits_put h1).2 hf)⟩ λn hn hf=>
      fin _ (ad _) (wx _) (λ_ w hr=>hr.sub (λb hb=>Laj _ hb) (by have:=hr.nodup;simp only[St.add,Lar,Lb6]at this;exact this.2))
        ((k n hn hf).eqv _ ⟨cm _, .refl _⟩)
  | grow R val nw ab hw hd hv k=>
    exact .grow R val nw ab (by rw[<-B1 (v:=v) h1];exact hw) hd ⟨(known_put h1).1 hv.known,hv.some,λa w hf hr=>hv.run a w ((fits_put h1).2 hf) hr⟩ λr hr=>
      fin ⟨B3 s.sl y.dst (val r),nw r++s.hp⟩ (ad _) (wx _) (λ_ w hh=>hh.sub (λb hb=>La8.2 (.inr hb)) ac)
        ((k r hr).eqv _ ⟨cm _, .refl _⟩)
  | lend R val nw ai L keep ab hw hd an hl hv k=>
    refine .lend R val nw ai L keep ab (by rw[<-B1 (v:=v) h1];exact hw) hd an hl ⟨(known_put h1).1 hv.known,hv.some,λa w hf hr=>hv.run a w ((fits_put h1).2 hf) hr⟩ λr hr=>
      fin ⟨B3 s.sl y.dst (val r),nw r++keep⟩ (ad _) (wx _) (λae=>?_) ((k r hr).eqv _ ⟨cm _, .refl _⟩)
    rcases ab with rfl|rfl<;>(simp[comm]at hc;exact absurd hc ae)
  | act R val hp ab hw hd hv k=>
    subst ab;refine .act R val hp rfl (by rw[<-B1 (v:=v) h1];exact hw) hd ⟨(known_put h1).1 hv.known,λa w hf hr=>hv.run a w ((fits_put h1).2 hf) hr⟩ λr hr=>
      fin ⟨B3 s.sl y.dst (val r),hp r⟩ (ad _) (wx _) (λae=>?_) ((k r hr).eqv _ ⟨cm _, .refl _⟩)
    simp[comm]at hc;exact absurd hc ae
theorem Tr.tail{p:Nat×Oper}{l l':List (Nat×Oper)}{s:St}{Q Q':St->Prop}(h:Tr C ops (p::l) s Q)(f:∀s,Tr C ops l s Q->Tr C ops l' s Q'):Tr C ops (p::l') s Q':=by
  cases h with
  |dup h=>exact .dup h
  |skip hc hw hd k=>exact .skip hc hw hd (f _ k)
  |pure v hc hw hd hv k=>exact .pure v hc hw hd hv (f _ k)
  |kload v hc hw hd hv k=>exact .kload v hc hw hd hv (f _ k)
  |load v hc ac hw hd hv k=>exact .load v hc ac hw hd hv (f _ k)
  |new mk cs T hc hw hd hv k=>exact .new mk cs T hc hw hd hv λn h1 h2=>f _ (k n h1 h2)
  |grow R val nw hc hw hd hv k=>exact .grow R val nw hc hw hd hv λr hr=>f _ (k r hr)
  |lend R val nw aa L keep hc hw hd ab hl hv k=>exact .lend R val nw aa L keep hc hw hd ab hl hv λr hr=>f _ (k r hr)
  |act R val hp hc hw hd hv k=>exact .act R val hp hc hw hd hv λr hr=>f _ (k r hr)
theorem Tr.mono{l:List (Nat×Oper)}{s:St}{Q Q':St->Prop}(h:Tr C ops l s Q)(f:∀s,Q s->Q' s):Tr C ops l s Q':=by
  induction l generalizing s with
  |nil=>cases h with|nil h=>exact .nil (f _ h)|dup h=>exact .dup h
  |cons p l ih=>exact h.tail λs k=>ih k
theorem Tr.front{y:Oper}{l1 l2:List (Nat×Oper)}{s:St}{Q:St->Prop}(hc:∀p∈l1,comm p.1 e=true/\p.2.apart ops y=true)
    (h:Tr C ops (l1++(e,y)::l2) s Q):Tr C ops ((e,y)::(l1++l2)) s (clQ Q):=by
  induction l1 generalizing s with
  |nil=>exact h.mono λs q=>⟨s, .refl _,q⟩
  | cons p l1 ih=>
    obtain⟨c,x⟩:=p;have h1:Tr C ops ((c,x)::(e,y)::(l1++l2)) s (clQ Q):=h.tail λs k=>ih (λp hp=>hc p (Laj _ hp)) k;have:=hc (c,x) La9;exact(h1.swap this.1 this.2).mono λs q=>clQ_cl q
def bindsIn(ops:Array Oper)(j:Nat):List Nat:=
  match ops[j]? with
  |some o=>(o.after.toList.filter λe=>Region.binds .any e).map (·.on)
  |none=>[]
def reach(ops:Array Oper):Nat->Nat->Nat->Bool
  |0,_,_=>false
  |n+1,j,i=>(bindsIn ops j).contains i||(bindsIn ops j).any λk=>reach ops n k i
def pairOk(ops:Array Oper)(p q:Nat×Nat):Bool:=
  (comm p.1 q.1&&(match ops[p.2]?,ops[q.2]? with|some x,some y=>x.apart ops y|_,_=>false))||reach ops ops.size q.2 p.2
def pairsOk(ops:Array Oper):List (Nat×Nat)->Bool
  | []=>true
  |p::l=>l.all (pairOk ops p)&&pairsOk ops l
def topoOk(ops:Array Oper)(seen:List Nat):List (Nat×Nat)->Bool
  | []=>true
  |p::l=>decide (p.2<ops.size)&& !seen.contains p.2&&(bindsIn ops p.2).all (λk=>seen.contains k)&&topoOk ops (p.2::seen) l
def orderOk(ops:Array Oper)(perm:List (Nat×Nat)):Bool:=
  topoOk ops [] perm&&(List.range ops.size).all (λi=>(perm.map (·.2)).contains i)&&pairsOk ops perm
def items(ops:Array Oper)(l:List (Nat×Nat)):List (Nat×Oper):=l.filterMap λp=>(ops[p.2]?).map λo=>(p.1,o)
def Shut(ops:Array Oper)(listed:Array Bool):Prop:=∀j,listed.getD j false=true->∀k∈bindsIn ops j,listed.getD k false=true
theorem reach_listed{ops:Array Oper}{listed:Array Bool}(hs:Shut ops listed):∀n j i,(∀k∈bindsIn ops j,listed.getD k false=true)->reach ops n j i=true->listed.getD i false=true
  |0,_,_,_,h=>by simp[reach]at h
  | n +1,j,i,hj,h=>by
    simp only[reach,Lc8]at h;rcases h with h|h
    .exact hj i (by simpa using h)
    . obtain⟨k,hk,hr⟩:=Lc2.1 h
      exact reach_listed hs n k i (hs k (hj k hk)) hr
theorem mem_ready'(aa:listed.size=ops.size):
    i∈Region.ready .any ops listed↔i<ops.size/\listed.getD i false=false/\∀k∈bindsIn ops i,listed.getD k false=true:=by
  unfold Region.ready;simp only[Lb7,Ldf];constructor
  . rintro⟨hi,h⟩
    have ho:ops[i]? =some ops[i]:=Ld3 hi;have hl:i<listed.size:=by omega
    simp only[ho,Lbj,Lbw,Lap,Lcw,Lgb]at h;refine⟨hi,by simpa[hl]using h.1,λk hk=>?_⟩;unfold bindsIn at hk;rw[ho]at hk;obtain⟨e,he,rfl⟩:=La6.1 hk;rw[Lb7]at he;have:=h.2 e (by simpa using he.1);simpa[he.2]using this
  . rintro⟨hi,h0,h1⟩
    have ho:ops[i]? =some ops[i]:=Ld3 hi;have hl:i<listed.size:=by omega
    refine⟨hi,?_⟩;simp only[ho,Lbj,Lbw,Lap,Lcw,Lgb];refine⟨by simpa[hl]using h0,λe he=>?_⟩;by_cases hb:Region.binds .any e=true
    . have:=h1 e.on (by
        unfold bindsIn;rw[ho];exact La6.2 ⟨e,Lb7.2 ⟨by simpa using he,hb⟩,rfl⟩)
      simp[this]
    .simp[hb]
theorem topo_mem{ops:Array Oper}:∀(l:List (Nat×Nat)) (seen:List Nat),topoOk ops seen l=true->∀p∈l,p.2<ops.size/\p.2∉seen
  | [],_,_,p,hp=>by cases hp
  | q ::l,seen,h,p,hp=>by
    simp only[topoOk,Lap,decide_eq_true_eq,Lcw,Lds,decide_eq_false_iff_not]at h;rcases Lam.1 hp with rfl|hp
    .exact⟨h.1.1.1,h.1.1.2⟩
    . have:=topo_mem l _ h.2 p hp
      exact⟨this.1,λhm=>this.2 (Laj _ hm)⟩
theorem topo_nodup{ops:Array Oper}:∀(l:List (Nat×Nat)) (seen:List Nat),topoOk ops seen l=true->(l.map (·.2)).Nodup
  | [],_,_=>Lch
  | q::l,seen,h=>by
    simp only[topoOk,Lap,decide_eq_true_eq]at h;refine Lb6.2 ⟨λhm=>?_,topo_nodup l _ h.2⟩;obtain⟨p,hp,he⟩:=La6.1 hm;exact(topo_mem l _ h.2 p hp).2 (by rw[he];exact La9)
theorem topo_first{ops:Array Oper}{listed:Array Bool}(aa:listed.size=ops.size):∀(l:List (Nat×Nat)) (seen:List Nat),topoOk ops seen l=true->(∀k∈seen,listed.getD k false=true)->
    ∀p l',l.filter (λp=> !listed.getD p.2 false)=p::l'->p.2∈Region.ready .any ops listed
  | [],_,_,_,p,l',h=>by simp at h
  | q ::l,seen,h,hs,p,l',hf=>by
    simp only[topoOk,Lap,decide_eq_true_eq,Lbf,Lds]at h;cases hq:listed.getD q.2 false with
    | true=>
      rw[Ldh,hq]at hf;refine topo_first aa l (q.2::seen) h.2 (λk hk=>?_) p l' (by simpa using hf);rcases Lam.1 hk with rfl|hk
      .exact hq
      .exact hs k hk
    | false=>
      rw[Ldh,hq]at hf;simp only[Bool.not_false,if_true,Lfj]at hf;rw[<-hf.1];exact(mem_ready' aa).2 ⟨h.1.1.1,hq,λk hk=>hs k (h.1.2 k hk)⟩
theorem pairs_split{ops:Array Oper}:∀(l1:List (Nat×Nat)) (q:Nat×Nat) (l2:List (Nat×Nat)),pairsOk ops (l1++q::l2)=true->∀p∈l1,pairOk ops p q=true
  | [],_,_,_,p,hp=>by cases hp
  | r::l1,q,l2,h,p,hp=>by
    simp only[Lan,pairsOk,Lap,Lbf]at h;rcases Lam.1 hp with rfl|hp
    .exact h.1 q sP
    .exact pairs_split l1 q l2 h.2 p hp
theorem pairs_filter{ops:Array Oper}(f:Nat×Nat->Bool):∀(l:List (Nat×Nat)),pairsOk ops l=true->pairsOk ops (l.filter f)=true
  | [],_=>rfl
  | p ::l,h=>by
    simp only[pairsOk,Lap,Lbf]at h;rw[Ldh];split
    . simp only[pairsOk,Lap,Lbf]
      exact⟨λq hq=>h.1 q (Lb7.1 hq).1,pairs_filter f l h.2⟩
    .exact pairs_filter f l h.2
theorem items_append(ops:Array Oper)(l1 l2:List (Nat×Nat)):items ops (l1++l2)=items ops l1++items ops l2:=by simp[items,List.filterMap_append]
theorem getD_set(listed:Array Bool)(i j:Nat)(hi:i<listed.size):(listed.setIfInBounds i true).getD j false=(decide (i=j)||listed.getD j false):=by
  by_cases h:i=j
  .subst h;simp[hi]
  .simp[h,Lda h]
theorem filter_set{j:Nat}(hj:j<listed.size)(perm l1 l2:List (Nat×Nat))(q:Nat×Nat)(hq:q.2=j)(hn:(perm.map (·.2)).Nodup)
    (hf:perm.filter (λp=> !listed.getD p.2 false)=l1++q::l2):perm.filter (λp=> !(listed.setIfInBounds j true).getD p.2 false)=l1++l2:=by
  have e:perm.filter (λp=> !(listed.setIfInBounds j true).getD p.2 false)=(perm.filter (λp=> !listed.getD p.2 false)).filter λp=> !decide (j=p.2):=by
    rw[Lgu];congr 1;funext p;rw[getD_set _ _ _ hj];cases decide (j=p.2)<;>simp
  have aa:((l1++q::l2).map (·.2)).Nodup:=by
    rw[<-hf];exact List.Sublist.nodup (Lhd _ Lgp) hn
  rw[Lae,Lar,Lay]at aa;rw[e,hf,Len,Ldh];have h1:l1.filter (λp=> !decide (j=p.2))=l1:=Lcc.2 λp hp=>by
    have:=aa.2.2 p.2 (La6.2 ⟨p,hp,rfl⟩) q.2 La9;simp;omega
  have h2:l2.filter (λp=> !decide (j=p.2))=l2:=Lcc.2 λp hp=>by
    have:=(Lb6.1 aa.2.1).1;simp only[decide_not,Lcw,decide_eq_false_iff_not,Bool.not_eq_eq_eq_not,Bool.not_true];exact λhe=>this (by rw[hq,he];exact La6.2 ⟨p,hp,rfl⟩)
  rw[h1,h2];simp[hq]
def Fin(C:Cx)(Q:St->Prop)(e:Exit)(a:Act)(w:World):Prop:=e= .normal/\∃s',Rep C s' a w/\Q s'
theorem Fin_cl(C:Cx)(Q:St->Prop):Fin C (clQ Q)=Fin C Q:=by
  funext e a w;refine propext ⟨λh=>?_,λh=>?_⟩
  . obtain⟨h1,s0,h2,s1,h3,h4⟩:=h
    exact⟨h1,s1,h2.eqv h3.symm,h4⟩
  . obtain⟨h1,s0,h2,h3⟩:=h
    exact⟨h1,s0,h2,s0, .refl _,h3⟩
theorem wpAny_of_tr{perm:List (Nat×Nat)}(au:orderOk ops perm=true):
    ∀ (fuel:Nat) (listed:Array Bool) (s:St) (a:Act) (w:World) (Q:St->Prop),listed.size=ops.size->Shut ops listed->
      (perm.filter (λp=> !listed.getD p.2 false)).length<=fuel->
      Rep C s a w->Tr C ops (items ops (perm.filter (λp=> !listed.getD p.2 false))) s Q->
      wpAny C.P .any ops (Fin C Q) fuel listed a w:=by
  simp only[orderOk,Lap,Lbf]at au;obtain⟨⟨ac,ak⟩,ad⟩:=au;have ax:=topo_nodup perm [] ac;have aj:∀(listed:Array Bool),listed.size=ops.size->Region.ready .any ops listed=[]->perm.filter (λp=> !listed.getD p.2 false)=[]:=by
    intro listed aa hr;cases hf:perm.filter (λp=> !listed.getD p.2 false)with
    |nil=>rfl
    | cons p l'=>
      have:=topo_first aa perm [] ac sP p l' hf;rw[hr]at this;cases this
  have fin:∀(listed:Array Bool) (s:St) (a:Act) (w:World) (Q:St->Prop),perm.filter (λp=> !listed.getD p.2 false)=[]->Rep C s a w->
      Tr C ops (items ops (perm.filter (λp=> !listed.getD p.2 false))) s Q->∃s',Rep C s' a w/\Q s':=by
    intro listed s a w Q hf r h;rw[hf]at h;cases h with|nil h=>exact⟨s,r,h⟩|dup h=>exact absurd r.rh.nodup h
  have ab:∀(listed:Array Bool),listed.size=ops.size->∀j∈Region.ready .any ops listed,∃p∈perm.filter (λp=> !listed.getD p.2 false),p.2=j:=by
    intro listed aa j hj;obtain⟨h1,h2,_⟩:=(mem_ready' aa).1 hj;have:=ak j (Ldf.2 h1);simp only[Lds,decide_eq_true_eq]at this;obtain⟨p,hp,he⟩:=La6.1 this;exact⟨p,Lb7.2 ⟨hp,by rw[he,h2];rfl⟩,he⟩
  intro fuel
  induction fuel with
  | zero=>
    intro listed s a w Q aa hs am r h;have h0:perm.filter (λp=> !listed.getD p.2 false)=[]:=Lai oM;refine⟨?_,rfl,fin listed s a w Q h0 r h⟩;cases hr:Region.ready .any ops listed with
    |nil=>rfl
    | cons j l=>
      obtain⟨p,hp,_⟩:=ab listed aa j (by rw[hr];exact La9);rw[h0]at hp;cases hp
  | succ fuel ih=>
    intro listed s a w Q aa hs am r h;refine⟨λhr=>⟨rfl,fin listed s a w Q (aj listed aa hr) r h⟩,λj hj=>?_⟩;obtain⟨q,hq,ae⟩:=ab listed aa j hj;obtain⟨ag,az,ao⟩:=(mem_ready' aa).1 hj;obtain⟨l1,l2,hf⟩:=Lg8 hq;have ap:ops[j]? =some ops[j]:=Ld3 ag;rw[hf,items_append]at h;have ay:items ops (q::l2)=(q.1,ops[j])::items ops l2:=by
      simp[items,ae,ag]
    rw [ay]at h;have an:=pairs_filter (λp=> !listed.getD p.2 false) perm ad;rw[hf]at an;have h':=Tr.front (l1:=items ops l1) (l2:=items ops l2) (λp hp=>by
      obtain⟨p0,hp0,he⟩:=Lg5.1 hp;have hp1:=pairs_split l1 q l2 an p0 hp0;have aw:listed.getD p0.2 false=false:=by
        have:p0∈perm.filter (λp=> !listed.getD p.2 false):=by rw[hf];exact La8.2 (.inl hp0)
        simpa using(Lb7.1 this).2
      cases ah:ops[p0.2]? with
      |none=>rw[ah]at he;cases he
      | some o=>
        rw[ah]at he;simp only[Lbj,La7]at he;subst he;simp only[pairOk,Lc8,Lap]at hp1;rcases hp1 with hp1|hp1
        . rw[ah,ae,ap]at hp1
          exact hp1
        . have:=reach_listed hs ops.size q.2 p0.2 (by rw[ae];exact ao) hp1
          rw[aw]at this;cases this) h
    have aq:j<listed.size:=by omega
    refine wpOp_mono (K:=λa' w'=>∃s',Rep C s' a' w'/\Tr C ops (items ops l1++items ops l2) s' (clQ Q)) ?_ (Tr.step (i:=j) ap h' a w r _ (λs' a' w' r' k=>⟨s',r',k⟩) _);rintro a' w' ⟨s',r',k⟩;have av:=filter_set aq perm l1 l2 q ae ax hf;have ai:=congrArg List.length hf;rw[La2,Lax]at ai;have:=ih (listed.setIfInBounds j true) s' a' w' (clQ Q) (by simp[aa]) (λi hi k hk=>by
        rw[getD_set _ _ _ aq]at hi ⊢;by_cases ar:j=i
        .subst ar;rw[ao k hk];simp
        . simp only[ar,decide_false,Lh7]at hi
          rw[hs i hi k hk];simp)
      (by rw[av,La2];omega) r' (by rw[av,items_append];exact k)
    rw[Fin_cl]at this;exact this
def Sat(C:Cx)(code:Code)(s:St)(Q:Exit->St->Prop):Prop:=
  ∀a w,Rep C s a w->code.wp C.P (λe a' w'=>∃s',Rep C s' a' w'/\Q e s') a w
theorem Sat.mono{s:St}{Q Q':Exit->St->Prop}(h:Sat C code s Q)(hq:∀e s,Q e s->Q' e s):Sat C code s Q':=
  λa w r=>wp_mono (h a w r) λ_ _ _ ⟨s',r',q⟩=>⟨s',r',hq _ _ q⟩
theorem wpOps_of_tr{C:Cx}{ops:Array Oper}{X:Exit->Act->World->Prop}:∀(l:List (Nat×Oper)) (is:List Nat) (s:St) (a:Act) (w:World) (Q:St->Prop),
    is.length=l.length->(∀k:Nat,(is[k]?).bind (λi=>ops[i]?)=(l[k]?).map Prod.snd)->Rep C s a w->Tr C ops l s Q->(∀s' a' w',Rep C s' a' w'->Q s'->X .normal a' w')->wpOps C.P ops X is a w
  | [],is,s,a,w,Q,hl,_,r,h,hX=>by
    have:is=[]:=Lai hl;subst this;cases h with|nil h=>exact hX s a w r h|dup h=>exact absurd r.rh.nodup h
  |(c,o)::l,[],s,a,w,Q,hl,_,r,h,hX=>by cases hl
  | (c,o)::l,i::is,s,a,w,Q,hl,he,r,h,hX=>by
    rw[wpOps_cons];have h0:ops[i]? =some o:=by simpa using he 0
    refine Tr.step h0 h a w r _ (λs' a' w' r' k=>?_) _;exact wpOps_of_tr l is s' a' w' Q (by simpa using hl) (λk=>by simpa using he (k+1)) r' k hX
theorem Sat.region{id:Nat}{ops:List Oper}{s:St}{Q:Exit->St->Prop}(h:Tr C ops.toArray (ops.map λo=>(4,o)) s (Q .normal)):
    Sat C (.region id ops.toArray false) s Q:=by
  intro a w r;refine wp_region (wpOps_of_tr _ _ s a w _ sP (λk=>?_) r h λs' a' w' r' q=>⟨s',r',q⟩);by_cases hk:k<ops.length
  .simp[hk]
  .simp[hk]
theorem Sat.draw{id:Nat}{ops:List Oper}{s:St}{Q:Exit->St->Prop}(perm:List (Nat×Nat))(hm:C.P.follows .mixedOrders=true)(aa:orderOk ops.toArray perm=true)
    (h:Tr C ops.toArray (items ops.toArray perm) s (Q .normal)):Sat C (.region id ops.toArray true) s Q:=by
  intro a w r;have ab:perm.length<=ops.length:=by
    simp only[orderOk,Lap]at aa;have ac:=topo_nodup perm [] aa.1.1;have ad:∀x∈perm.map (·.2),x∈List.range ops.length:=λx hx=>by
      obtain⟨p,hp,rfl⟩:=La6.1 hx;have:=(topo_mem perm [] aa.1.1 p hp).1;simpa using this
    have:=ac.length_le_of_subset ad;simpa using this
  have h0:perm.filter (λp=> !(Array.replicate ops.toArray.size false).getD p.2 false)=perm:=Lcc.2 λp _=>by
    rw[Ld7,Ldp];split<;>rfl
  have:=wpAny_of_tr (C:=C) aa ops.toArray.size (Array.replicate ops.toArray.size false) s a { w with drawn:=w.drawn+1 } (Q .normal) sP
    (λj hj=>by
      rw[Ld7,Ldp]at hj;split at hj<;>simp at hj) (by rw[h0];simpa using ab) ⟨r.rs,r.rh.drew _⟩ (by rw[h0];exact h)
  refine wp_mono (wp_region_any hm this) λe a' w' ⟨he,s',r',q⟩=>?_;subst he;exact⟨s',r',q⟩
def thenQ(N:St->Prop)(Q:Exit->St->Prop):Exit->St->Prop
  | .normal,s=>N s
  |e,s=>Q e s
theorem Sat.seq{x y:Code}{s:St}{Q:Exit->St->Prop}(h:Sat C x s (thenQ (λs'=>Sat C y s' Q) Q)):Sat C (.seq x y) s Q:=by
  intro a w r;refine wp_seq (wp_mono (h a w r) λe a' w' ⟨s',r',q⟩=>?_);cases e with
  |normal=>exact q a' w' r'
  |_=>exact⟨s',r',q⟩
theorem Sat.skip{s:St}{Q:Exit->St->Prop}(h:Q .normal s):Sat C .skip s Q:=λ_ _ r=>wp_skip ⟨s,r,h⟩
theorem Sat.ret{s:St}{Q:Exit->St->Prop}(h:Q .ret s):Sat C .ret s Q:=λ_ _ r=>wp_ret ⟨s,r,h⟩
theorem Sat.exit{id:Nat}{s:St}{Q:Exit->St->Prop}(h:Q (.exit id) s):Sat C (.exit id) s Q:=λ_ _ r=>wp_exit ⟨s,r,h⟩
theorem Sat.label{l:Nat}{s:St}{Q:Exit->St->Prop}(h:Q .normal s):Sat C (.label l) s Q:=λ_ _ r=>wp_label ⟨s,r,h⟩
theorem Sat.goto{l:Nat}{s:St}{Q:Exit->St->Prop}(h:Q (.goto l) s):Sat C (.goto l) s Q:=λ_ _ r=>wp_goto ⟨s,r,h⟩
theorem Sat.cond{c:Operand}{x y:Code}{b:Bool}{s:St}{Q:Exit->St->Prop}(hc:s.ev c=some (.bool b))(ht:b=true->Sat C x s Q)(hf:b=false->Sat C y s Q):Sat C (.cond c x y) s Q:=by
  intro a w r;exact wp_cond_split (r.rs.eval hc) (λh=>ht h a w r) (λh=>hf h a w r)
theorem Sat.cond_t{c:Operand}{x y:Code}{b:Bool}{s:St}{Q:Exit->St->Prop}(hc:s.ev c=some (.bool b))(hb:b=true)(ht:Sat C x s Q):Sat C (.cond c x y) s Q:=
  Sat.cond hc (λ_=>ht) λh=>by rw[hb]at h;cases h
theorem Sat.cond_f{c:Operand}{x y:Code}{b:Bool}{s:St}{Q:Exit->St->Prop}(hc:s.ev c=some (.bool b))(hb:b=false)(hf:Sat C y s Q):Sat C (.cond c x y) s Q:=
  Sat.cond hc (λh=>by rw[hb]at h;cases h) λ_=>hf
def atBlock(id:Nat)(Q:Exit->St->Prop):Exit->St->Prop
  | .exit i,s=>bif Nat.beq i id then Q .normal s else Q (.exit i) s
  |e,s=>Q e s
theorem Sat.block{id:Nat}{x:Code}{s:St}{Q:Exit->St->Prop}(h:Sat C x s (atBlock id Q)):Sat C (.block id x) s Q:=by
  intro a w r;refine wp_block (wp_mono (h a w r) λe a' w' ⟨s',r',q⟩=>?_);cases e with
  | exit i=>
    simp only[atBlock]at q;simp only[Exit.inBlock];by_cases hi:i=id
    . subst hi
      simp only[if_true];exact⟨s',r',by simpa using q⟩
    . rw[if_neg hi]
      have:Nat.beq i id=false:=by
        cases hb:Nat.beq i id
        .rfl
        .exact absurd (Lca hb) hi
      rw[this]at q;exact⟨s',r',q⟩
  |_=>exact⟨s',r',q⟩
structure Weak(s s':St):Prop where
  sl:∀p∈s'.sl,look s.sl p.1=some p.2
  hp:∀b∈s'.hp,b∈s.hp
  nodup:(s.hp.map (·.n)).Nodup->(s'.hp.map (·.n)).Nodup
theorem Rep.weak{s s':St}{a:Act}{w:World}(r:Rep C s a w)(h:Weak s s'):Rep C s' a w:=
  ⟨⟨r.rs.size,r.rs.defers,λt v ht=>r.rs.slots t v (h.sl _ (look_mem ht))⟩,r.rh.sub h.hp (h.nodup r.rh.nodup)⟩
theorem Sat.weak{s s':St}{Q:Exit->St->Prop}(hw:Weak s s')(h:Sat C code s' Q):Sat C code s Q:=λa w r=>h a w (r.weak hw)
def wkl(sl:List (Nat×Value)):List (Nat×Value)->Prop
  | []=>True
  |(t,v)::l=>look sl t=some v/\wkl sl l
def whl(hp:List Blk):List Blk->Prop
  | []=>True
  |b::l=>b∈hp/\whl hp l
theorem wk0:wkl sl []:=trivial
theorem wk1{sl l:List (Nat×Value)}{t:Nat}{v:Value}(h:look sl t=some v)(k:wkl sl l):wkl sl ((t,v)::l):=⟨h,k⟩
theorem wh0:whl hp []:=trivial
theorem wh1{hp l:List Blk}{b:Blk}(h:b∈hp)(k:whl hp l):whl hp (b::l):=⟨h,k⟩
theorem wkl_mem{sl:List (Nat×Value)}:∀ {l:List (Nat×Value)},wkl sl l->∀p∈l,look sl p.1=some p.2
  | [],_,p,hp=>by cases hp
  | (t,v)::l,h,p,hp=>by
    rcases Lam.1 hp with rfl|hp
    .exact h.1
    .exact wkl_mem h.2 p hp
theorem whl_mem{hp:List Blk}:∀ {l:List Blk},whl hp l->∀b∈l,b∈hp
  | [],_,b,hb=>by cases hb
  | x::l,h,b,hb=>by
    rcases Lam.1 hb with rfl|hb
    .exact h.1
    .exact whl_mem h.2 b hb
def NSub(hp' hp:List Blk):Prop:=(hp'.map (·.n)).Sublist (hp.map (·.n))
theorem ns_nil:NSub [] hp:=List.nil_sublist _
theorem ns_keep{b' b:Blk}{l' l:List Blk}(h:b'.n=b.n)(k:NSub l' l):NSub (b'::l') (b::l):=by
  unfold NSub at*;rw[Lar,Lar,h];exact List.Sublist.cons_cons _ k
theorem ns_skip{b:Blk}{l' l:List Blk}(k:NSub l' l):NSub l' (b::l):=by
  unfold NSub at*;rw[Lar];exact List.Sublist.cons _ k
theorem Ah{sl sl':List (Nat×Value)}{hp hp':List Blk}(h1:wkl sl sl')(h2:whl hp hp')(h3:NSub hp' hp):Weak ⟨sl,hp⟩ ⟨sl',hp'⟩:=
  ⟨wkl_mem h1,whl_mem h2,λh=>Lg9 h3 h⟩
theorem Sat.join{x y:Code}{s:St}{Q:Exit->St->Prop}(S:ι->St)(I:ι->Prop)(h1:Sat C x s (thenQ (λs'=>∃i,I i/\Weak s' (S i)) Q))(h2:∀i,I i->Sat C y (S i) Q):Sat C (.seq x y) s Q:=by
  refine Sat.seq λa w r=>wp_mono (h1 a w r) λe a' w' ⟨s',r',q⟩=>?_;cases e with
  | normal=>
    obtain⟨i,hi,hw⟩:=q;exact⟨S i,r'.weak hw,h2 i hi⟩
  |_=>exact⟨s',r',q⟩
theorem Sat.condP{c:Operand}{x y:Code}[Decidable p]{s:St}{Q:Exit->St->Prop}(hc:s.ev c=some (.bool (decide p)))(ht:p->Sat C x s Q)(hf:¬p->Sat C y s Q):Sat C (.cond c x y) s Q:=
  .cond hc (λh=>ht (of_decide_eq_true h)) λh=>hf (of_decide_eq_false h)
theorem Sat.condNP{c:Operand}{x y:Code}[Decidable p]{s:St}{Q:Exit->St->Prop}(hc:s.ev c=some (.bool (!decide p)))(ht:¬p->Sat C x s Q)(hf:p->Sat C y s Q):Sat C (.cond c x y) s Q:=
  .cond hc (λh=>ht (of_decide_eq_false (by simpa using h))) λh=>hf (of_decide_eq_true (by simpa using h))
theorem Sat.loop{body:Code}{Q:Exit->St->Prop}(S:ι->St)(I:ι->Prop)(μ:ι->Nat){s:St}(i0:ι)(h0:I i0)(hs:Weak s (S i0))
    (round:∀i,I i->Sat C body (S i) (thenQ (λs'=>∃j,I j/\μ j<μ i/\Weak s' (S j)) Q)):Sat C (.loop body) s Q:=by
  intro a w r;refine wp_loop_ghost (λn a w=>∃i,I i/\μ i=n/\Rep C (S i) a w) (μ i0) ⟨i0,h0,rfl,r.weak hs⟩ λn a w ⟨i,hi,hn,r⟩=>?_;refine wp_mono (round i hi a w r) λe a' w' ⟨s',r',q⟩=>?_;cases e with
  | normal=>
    obtain⟨j,hj,aa,hw⟩:=q;exact⟨μ j,by omega,j,hj,rfl,r'.weak hw⟩
  |_=>exact⟨s',r',q⟩
theorem Df{Q:Exit->St->Prop}{s:St}(h:N s):thenQ N Q .normal s:=h
theorem at_x{Q:Exit->St->Prop}{s:St}(h:Q (.exit i) s):thenQ N Q (.exit i) s:=h
theorem at_r{Q:Exit->St->Prop}{s:St}(h:Q .ret s):thenQ N Q .ret s:=h
theorem at_g{Q:Exit->St->Prop}{l:Nat}{s:St}(h:Q (.goto l) s):thenQ N Q (.goto l) s:=h
theorem bl_n{id:Nat}{Q:Exit->St->Prop}{s:St}(h:Q .normal s):atBlock id Q .normal s:=h
theorem bl_r{id:Nat}{Q:Exit->St->Prop}{s:St}(h:Q .ret s):atBlock id Q .ret s:=h
theorem bl_g{id l:Nat}{Q:Exit->St->Prop}{s:St}(h:Q (.goto l) s):atBlock id Q (.goto l) s:=h
theorem bl_h{id:Nat}{Q:Exit->St->Prop}{s:St}(h:Q .normal s):atBlock id Q (.exit id) s:=by
  have:Nat.beq id id=true:=by simp
  simp only[atBlock,this];exact h
theorem bl_x{id i:Nat}{Q:Exit->St->Prop}{s:St}(hi:Nat.beq i id=false)(h:Q (.exit i) s):atBlock id Q (.exit i) s:=by
  simp only[atBlock,hi];exact h
theorem sp_n:([]:List Blk).Perm ([]++[]):= .refl _
theorem sp_v{x:Blk}{l A K:List Blk}(h:l.Perm (A++K)):(x::l).Perm ((x::A)++K):= .cons x h
theorem sp_k{x:Blk}{l A K:List Blk}(h:l.Perm (A++K)):(x::l).Perm (A++(x::K)):=(List.Perm.cons x h).trans Ldu.symm
abbrev Cx.with(C:Cx)(K:List Blk):Cx:=⟨C.P,C.W0,C.N,C.lent,K,C.ds⟩
theorem Sat.withK{Q:Exit->St->Prop}(ab:hp.Perm (A++K))(hC:C.kb=[])(h:Sat (C.with K) code ⟨sl,A⟩ (λe s'=>Q e ⟨s'.sl,s'.hp++K⟩)):Sat C code ⟨sl,hp⟩ Q:=by
  intro a w r;have hh:=r.rh.perm ab;have aa:=hh.nodup;rw[Lae,Lay]at aa;refine wp_mono (h a w ⟨⟨r.rs.size,r.rs.defers,r.rs.slots⟩,⟨λb hb=>hh.cells b (La8.2 (.inl hb)),aa.1,λb hb=>hh.own b (La8.2 (.inl hb)),hh.keeps,λb hb=>hh.cells b (La8.2 (.inr hb)),
    λb hb k hk=>aa.2.2 b.n (La6.2 ⟨b,hb,rfl⟩) k.n (La6.2 ⟨k,hk,rfl⟩)⟩⟩) λe a' w' ⟨s',r',q⟩=>?_
  refine⟨⟨s'.sl,s'.hp++K⟩,⟨⟨r'.rs.size,r'.rs.defers,r'.rs.slots⟩,⟨λb hb=>?_,?_,λb hb=>?_,r'.rh.keeps,(by rw[hC];intro _ h;cases h),(by rw[hC];intro _ _ _ h;cases h)⟩⟩,q⟩
  . rcases La8.1 hb with hb|hb
    .exact r'.rh.cells b hb
    .exact r'.rh.kok b hb
  . rw[Lae,Lay]
    refine⟨r'.rh.nodup,aa.2.1,λi hi j hj=>?_⟩;obtain⟨x,hx,rfl⟩:=La6.1 hi;obtain⟨y,hy,rfl⟩:=La6.1 hj;exact r'.rh.kd x hx y hy
  . rcases La8.1 hb with hb|hb
    .exact r'.rh.own b hb
    .exact hh.own b (La8.2 (.inr hb))
def argSlots:Nat->List Value->List (Nat×Value)
  |_,[]=>[]
  |k,v::l=>(k,v)::argSlots (k+1) l
theorem argSlots_look:∀(l:List Value) (k t:Nat) (v:Value),look (argSlots k l) t=some v->k<=t/\l[t-k]? =some v
  | [],k,t,v,h=>by simp[argSlots,look]at h
  | x ::l,k,t,v,h=>by
    by_cases hk:k=t
    . subst hk
      rw[argSlots,look_cons_eq]at h;simp at h;simp[h]
    . rw[argSlots,look_cons_ne _ _ hk]at h
      have:=argSlots_look l (k+1) t v h;refine⟨by omega,?_⟩;have e:t-k=(t-(k+1))+1:=by omega
      rw[e,Led];exact this.2
def Res(C:Cx)(fn:Func)(s:St)(v:Value):Prop:=∀a w,Rep C s a w->(results fn a.tmps).run C.P w= .ok v w
def endAt(C:Cx)(fn:Func)(R:Value->List Blk->Prop)(s:St):Prop:=
  ∃v out,Res C fn s v/\(∀b∈out,b∈s.hp)/\((s.hp.map (·.n)).Nodup->(out.map (·.n)).Nodup)/\R v out
def endQ(C:Cx)(fn:Func)(R:Value->List Blk->Prop):Exit->St->Prop
  | .normal,s| .ret,s=>endAt C fn R s
  |_,_=>False
theorem en_n{s:St}(h:endAt C fn R s):endQ C fn R .normal s:=h
theorem en_r{s:St}(h:endAt C fn R s):endQ C fn R .ret s:=h
theorem HRep.nil(C:Cx)(hk:C.kb=[]:=by rfl):HRep C [] C.W0:=⟨λ_ h=>(by cases h),Lch,λ_ h=>(by cases h),Keeps.refl _ _,(by rw[hk];intro _ h;cases h),λ_ h=>(by cases h)⟩
theorem calls_of{P:Program}{f:FuncId}{args:List Value}{W:World}{aa:List Nat}{hp0:List Blk}
    (hf:P.funcs[f]? =some fn) (hb:fn.body=some code) (N:Nat) (hN:fn.ntmps=N) (ac:Nat.ble args.length N=true)
    (hh:HRep ⟨P,W,N,aa,[],[]⟩ hp0 W)
    (h:Sat ⟨P,W,N,aa,[],[]⟩ code ⟨argSlots 0 args,hp0⟩ (endQ ⟨P,W,N,aa,[],[]⟩ fn R)):
    Calls P f args.toArray W λe W'=>∃v out,e= .returned v/\R v out/\Ret aa out W W':=by
  have ac:=Ldm ac;subst hN;refine calls_of_wp hf hb (wp_mono (h _ _ ⟨⟨?_,rfl,λt v ht=>?_⟩,hh⟩) λe a' w' ⟨s',r',q⟩=>?_)
  .simp;omega
  . have:=argSlots_look args 0 t v ht
    rw[Array.getElem?_append];have ae:t<args.length:=by
      rcases Lb5 t args.length with h1|h1
      .exact h1
      .rw[Lav oM]at this;cases this.2
    simp only[Lfm];rw[if_pos ae];simpa using this.2
  . have fin:(∃v out,Res ⟨P,W,fn.ntmps,aa,[],[]⟩ fn s' v/\(∀b∈out,b∈s'.hp)/\((s'.hp.map (·.n)).Nodup->(out.map (·.n)).Nodup)/\R v out)->
        a'.defers=[]/\∃v,(results fn a'.tmps).run P w'= .ok v w'/\∃v' out,Ending.returned v= .returned v'/\R v' out/\Ret aa out W w':=by
      rintro⟨v,out,hr,ab,ad,hR⟩;exact⟨r'.rs.defers,v,hr a' w' r',v,out,rfl,hR,r'.rh.keeps,λb hb=>r'.rh.cells b (ab b hb),ad r'.rh.nodup,λb hb=>r'.rh.own b (ab b hb)⟩
    cases e with
    |normal=>exact fin q
    |ret=>exact fin q
    |_=>exact q.elim
end Hw
namespace Hw
open Go Go.RowKit
variable{C:Cx}{ops:List Oper}{y:Code}
theorem Sat.sr{id:Nat}{s:St}{Q:Exit->St->Prop}(h:Tr C ops.toArray (ops.map λo=>(4,o)) s (thenQ (λs'=>Sat C y s' Q) Q .normal)):Sat C (.seq (.region id ops.toArray false) y) s Q:=Sat.seq (Sat.region h)
theorem Tr.na{ops:Array Oper}{N:St->Prop}{Q:Exit->St->Prop}{s:St}(h:N s):Tr C ops [] s (thenQ N Q .normal):=Tr.nil (Df h)
theorem Tr.nsr{o2:Array Oper}{id:Nat}{s:St}{Q R:Exit->St->Prop}(h:Tr C ops.toArray (ops.map λo=>(4,o)) s (thenQ (λs'=>Sat C y s' Q) Q .normal)):Tr C o2 [] s (thenQ (λs'=>Sat C (.seq (.region id ops.toArray false) y) s' Q) R .normal):=Tr.nil (Df (Sat.seq (Sat.region h)))
theorem tV{α:Type}{p:α->Prop}:∀w,p w->True:=λ_ _=>trivial
theorem Ae{P:Program}{f:FuncId}{fn:Func}{code:Code}{args:List Value}{W:World}{R:Value->List Blk->Prop}(hf:P.funcs[f]? =some fn)(hb:fn.body=some code)(N:Nat)(hN:fn.ntmps=N)(aa:Nat.ble args.length N=true)(h:Sat ⟨P,W,N,[],[],[]⟩ code ⟨argSlots 0 args,[]⟩ (endQ ⟨P,W,N,[],[],[]⟩ fn R)):Calls P f args.toArray W λe W'=>∃v out,e= .returned v/\R v out/\Ret [] out W W':=calls_of (hp0:=[]) hf hb N hN aa (HRep.nil _) h
abbrev u8(x:UInt8):Value:= .int .u8 (x.toNat:Int)
abbrev u64(x:UInt64):Value:= .int .u64 (x.toNat:Int)
abbrev i64(n:Int):Value:= .int .i64 n
abbrev ptr(b o:Nat):Value:= .pointer (some ⟨b,o,none⟩)
abbrev agg(l:List Value):Value:= .agg l.toArray
abbrev Aa(l:List UInt8):List Value:=l.map u8
abbrev Aj(l:List UInt64):List Value:=l.map u64
abbrev Cg(l:List Int):List Value:=l.map i64
theorem get_bytes{l:List UInt8}{o:Nat}(h:o<l.length):(Aa l)[o]? =some (u8 (l.getD o 0)):=by
  simp[Aa,Lad,List.getD,h]
theorem get_words{l:List UInt64}{o:Nat}(h:o<l.length):(Aj l)[o]? =some (u64 (l.getD o 0)):=by
  simp[Aj,Lad,List.getD,h]
theorem get_ints{l:List Int}{o:Nat}(h:o<l.length):(Cg l)[o]? =some (i64 (l.getD o 0)):=by
  simp[Cg,Lad,List.getD,h]
theorem Bo(l:List UInt8)(o:Nat)(v:UInt8):(Aa l).set o (u8 v)=Aa (l.set o v):=by simp[Aa,Leg]
theorem Bl(l:List UInt64)(o:Nat)(v:UInt64):(Aj l).set o (u64 v)=Aj (l.set o v):=by simp[Aj,Leg]
theorem set_ints(l:List Int)(o:Nat)(v:Int):(Cg l).set o (i64 v)=Cg (l.set o v):=by simp[Cg,Leg]
section
variable{α:Type}{a b c d e f g h x:α}{l:List α}
theorem Cf:a∈a::l:= .head _
theorem mem1:a∈b::a::l:= .tail _ Cf
theorem mem2:a∈b::c::a::l:= .tail _ mem1
theorem mem3:a∈b::c::d::a::l:= .tail _ mem2
theorem mem4:a∈b::c::d::e::a::l:= .tail _ mem3
theorem mem5:a∈b::c::d::e::f::a::l:= .tail _ mem4
theorem mem6:a∈b::c::d::e::f::g::a::l:= .tail _ mem5
theorem mem7:a∈b::c::d::e::f::g::h::a::l:= .tail _ mem6
end
def okD(c d N:Nat):Bool:= !Nat.beq c 2&&Nat.blt d N
def okL(c d N:Nat):Bool:= !Nat.beq c 2&& !Nat.beq c 0&&Nat.blt d N
def okN(c d N:Nat):Bool:=(Nat.beq c 2||Nat.beq c 4)&&Nat.blt d N
def okG(c d N:Nat):Bool:=(Nat.beq c 3||Nat.beq c 4)&&Nat.blt d N
theorem nbeq{a b:Nat}(h:(!Nat.beq a b)=true):a≠b:=λe=>by subst e;simp at h
theorem De{a b:Nat}(h:Nat.beq a b=true):a=b:=Lca h
theorem nblt{a b:Nat}(h:Nat.blt a b=true):a<b:=by simpa[Lgw]using h
section
variable{C:Cx}{ops:Array Oper}{c:Nat}{d:Nat}{ty:TypeId}{pos:String}{af:Array Edge}{rest:List (Nat×Oper)}{sl:List (Nat×Value)}{hp:List Blk}{Q:St->Prop}
variable{N:Nat}{g:Option (Nat×Bool)}{op:Op}
theorem Cb(h:d<N):dstOk N ⟨some d,op,ty,pos,af,g⟩:=λt ht=>by cases ht;exact h
theorem dst_none:dstOk N ⟨none,op,ty,pos,af,g⟩:=λt ht=>by cases ht
theorem known1{x:Operand}{v:Value}(h:Ai sl x=some v):∀y∈ #[x],(Ai sl y).isSome:=λy hy=>by
  simp at hy;subst hy;simp[h]
def Al(ops:Array Oper)(sl:List (Nat×Value)):Option (Nat×Bool)->Bool
  |none=>true
  | some (j,want)=>
    match(ops[j]?).bind (·.dst)with
    |some d=>match look sl d with|some (.bool b)=>b==want|_=>false
    |none=>false
theorem A2{o:Oper}(h:Al ops sl o.guard=true):wantS ops sl o=some true:=by
  unfold Al at h;unfold wantS;cases hg:o.guard with
  |none=>rfl
  | some g=>
    obtain⟨j,aa⟩:=g;simp only[hg]at h ⊢;cases hb:(ops[j]?).bind (·.dst)with
    |none=>simp[hb]at h
    | some t=>
      simp only[hb]at h ⊢;cases hl:look sl t with
      |none=>simp[hl]at h
      | some v=>
        simp only[hl]at h ⊢;cases v<;>simp at h ⊢;exact h
variable{g:Option (Nat×Bool)}
variable{op:Op}
theorem Tr.skp(hk:okD c d C.N=true)(hw:wantS ops sl ⟨some d,op,ty,pos,af,g⟩=some false)(k:Tr C ops rest ⟨(d,undef)::sl,hp⟩ Q):Tr C ops ((c,⟨some d,op,ty,pos,af,g⟩)::rest) ⟨sl,hp⟩ Q:=by
  simp only[okD,Lap]at hk;exact .skip (nbeq hk.1) hw (Cb (nblt hk.2)) k
theorem Tr.pv{v:Value}(hg:Al ops sl g=true)(hk:okD c d C.N=true)(hv:PureV C.P sl ⟨some d,op,ty,pos,af,g⟩ v)(k:Tr C ops rest ⟨(d,v)::sl,hp⟩ Q):
    Tr C ops ((c,⟨some d,op,ty,pos,af,g⟩)::rest) ⟨sl,hp⟩ Q:=by
  simp only[okD,Lap]at hk;exact .pure v (nbeq hk.1) (A2 hg) (Cb (nblt hk.2)) hv k
theorem Tr.m{x:Operand}{v:Value}(hg:Al ops sl g=true)(hk:okD c d C.N=true)(hx:Ai sl x=some v)(k:Tr C ops rest ⟨(d,v)::sl,hp⟩ Q):
    Tr C ops ((c,⟨some d, .move x,ty,pos,af,g⟩)::rest) ⟨sl,hp⟩ Q:=
  .pv hg hk ⟨known1 hx,λρ hf w=>by
    have:=hf x (by simp[Op.operands]);rw[hx]at this;cases this;rfl⟩ k
theorem Tr.a{x:Operand}{v:Value}(hg:Al ops sl g=true)(hk:okD c d C.N=true)(hx:Ai sl x=some v)(k:Tr C ops rest ⟨(d,v)::sl,hp⟩ Q):
    Tr C ops ((c,⟨some d, .assign x,ty,pos,af,g⟩)::rest) ⟨sl,hp⟩ Q:=
  .pv hg hk ⟨known1 hx,λρ hf w=>by
    have:=hf x (by simp[Op.operands]);rw[hx]at this;cases this;rfl⟩ k
theorem C5{x y:Operand}{v u:Value}(h:Ai sl x=some v)(h2:Ai sl y=some u):∀z∈ #[x,y],(Ai sl z).isSome:=λz hz=>by
  simp at hz;rcases hz with rfl|rfl<;>simp[h,h2]
theorem Tr.bin{op:BinOp}{xT yT:TypeId}{x y:Operand}{v:Value}{kx ky:IntKind}{a b:Int}(hg:Al ops sl g=true)(hk:okD c d C.N=true)(hx:Ai sl x=some (.int kx a))(hy:Ai sl y=some (.int ky b))
    (hr:∀w,(binOp op xT (.int kx a) (.int ky b)).run C.P w= .ok v w) (k:Tr C ops rest ⟨(d,v)::sl,hp⟩ Q):
    Tr C ops ((c,⟨some d, .binOp op xT x y yT,ty,pos,af,g⟩)::rest) ⟨sl,hp⟩ Q:=
  .pv hg hk ⟨C5 hx hy,λρ hf w=>by
    have h1:=hf x (by simp[Op.operands]);rw[hx]at h1;have h2:=hf y (by simp[Op.operands]);rw[hy]at h2;simp only[La7]at h1 h2;have hr:=hr w;cases op<;>simp[execOp,eqGuard,<-h1,<-h2,hr]⟩ k
def isCell:Value->Bool
  | .agg _| .tuple _=>false
  |_=>true
theorem i64_wrap{n:Int}(h: -9223372036854775808<=n/\n<=9223372036854775807):IntKind.i64.wrap n=n:=IntWalk.i64_in n h
def byteOf(n:Int):UInt8:=UInt8.ofNat (n%256).toNat
def wordOf(n:Int):UInt64:=UInt64.ofNat (n%18446744073709551616).toNat
def A7(x:UInt64)(n:Nat):UInt64:=UInt64.ofNat (x.toNat*2^n)
def Az(x:UInt64)(n:Nat):UInt64:=UInt64.ofNat (x.toNat/2^n)
theorem wrap_u8(n:Int):IntKind.u8.wrap n=((byteOf n).toNat:Int):=by
  rw[IntKind.wrap_u8];simp only[byteOf,Lb9];omega
theorem wrap_u64'(n:Int):IntKind.u64.wrap n=n%18446744073709551616:=by
  simp[IntKind.wrap,IntKind.bits,IntKind.signed]
theorem wrap_u64(n:Int):IntKind.u64.wrap n=((wordOf n).toNat:Int):=by
  rw[wrap_u64'];simp only[wordOf,Lc4];omega
theorem add64(x y:UInt64):IntKind.u64.wrap ((x.toNat:Int)+y.toNat)=((x+y).toNat:Int):=by
  rw[wrap_u64',Lbm];omega
theorem sub64(x y:UInt64):IntKind.u64.wrap ((x.toNat:Int)-y.toNat)=((x-y).toNat:Int):=by
  have:=x.toNat_lt;have:=y.toNat_lt;rw[wrap_u64',Lh8];omega
theorem mul64(x y:UInt64):IntKind.u64.wrap ((x.toNat:Int)*y.toNat)=((x*y).toNat:Int):=by
  rw[wrap_u64',Le5];have:((x.toNat:Int)*y.toNat)=((x.toNat*y.toNat:Nat):Int):=by simp
  rw[this];omega
theorem shl64_eq(x:UInt64)(n:Nat):IntKind.u64.wrap ((x.toNat:Int)*2^n)=((A7 x n).toNat:Int):=by
  rw[wrap_u64',A7,Lc4];have:((x.toNat:Int)*2^n)=((x.toNat*2^n:Nat):Int):=by simp
  rw[this];omega
theorem shr64_eq(x:UInt64)(n:Nat):((x.toNat:Int).fdiv (2^n))=((Az x n).toNat:Int):=by
  have h:x.toNat/2^n<=x.toNat:=Ldd _ _;have:=x.toNat_lt;rw[Az,Lc4,Lal oM];have e:((2:Int)^n)=((2^n:Nat):Int):=by simp
  rw[e,Lfp _ (Leo _)];simp
theorem ofInt64(x:UInt64):BitVec.ofInt 64 (x.toNat:Int)=x.toBitVec:=by
  apply BitVec.eq_of_toNat_eq;simp
theorem bits64(f:BitVec 64->BitVec 64->BitVec 64)(g:UInt64->UInt64->UInt64)(h:∀x y,(g x y).toBitVec=f x.toBitVec y.toBitVec)(x y:UInt64):
    IntKind.u64.wrap ((f (BitVec.ofInt 64 (x.toNat:Int)) (BitVec.ofInt 64 (y.toNat:Int))).toNat:Int)=((g x y).toNat:Int):=by
  rw[ofInt64,ofInt64,<-h,wrap_u64'];have:=(g x y).toNat_lt;simp only[UInt64.toNat_toBitVec];omega
theorem ofInt8(x:UInt8):BitVec.ofInt 8 (x.toNat:Int)=x.toBitVec:=by
  apply BitVec.eq_of_toNat_eq;simp
theorem bits8(f:BitVec 8->BitVec 8->BitVec 8)(g:UInt8->UInt8->UInt8)(h:∀x y,(g x y).toBitVec=f x.toBitVec y.toBitVec)(x y:UInt8):
    IntKind.u8.wrap ((f (BitVec.ofInt 8 (x.toNat:Int)) (BitVec.ofInt 8 (y.toNat:Int))).toNat:Int)=((g x y).toNat:Int):=by
  rw[ofInt8,ofInt8,<-h,IntKind.wrap_u8];have:=(g x y).toNat_lt;simp only[UInt8.toNat_toBitVec];omega
section
variable{xT yT:TypeId}{x y:Operand}{a b:Int}
variable{kx:IntKind}{r:Bool}
theorem Tr.aI(hg:Al ops sl g=true)(hk:okD c d C.N=true)(hx:Ai sl x=some (i64 a))(hy:Ai sl y=some (i64 b))(hr: -9223372036854775808<=a+b/\a+b<=9223372036854775807)
    (k:Tr C ops rest ⟨(d,i64 (a+b))::sl,hp⟩ Q):Tr C ops ((c,⟨some d, .binOp .add xT x y yT,ty,pos,af,g⟩)::rest) ⟨sl,hp⟩ Q:=
  .bin hg hk hx hy (λw=>by simp[binOp,Op.intArith,i64_wrap hr]) k
theorem Tr.sub_i64(hg:Al ops sl g=true)(hk:okD c d C.N=true)(hx:Ai sl x=some (i64 a))(hy:Ai sl y=some (i64 b))(hr: -9223372036854775808<=a-b/\a-b<=9223372036854775807)
    (k:Tr C ops rest ⟨(d,i64 (a-b))::sl,hp⟩ Q):Tr C ops ((c,⟨some d, .binOp .sub xT x y yT,ty,pos,af,g⟩)::rest) ⟨sl,hp⟩ Q:=
  .bin hg hk hx hy (λw=>by simp[binOp,Op.intArith,i64_wrap hr]) k
theorem Tr.mul_i64(hg:Al ops sl g=true)(hk:okD c d C.N=true)(hx:Ai sl x=some (i64 a))(hy:Ai sl y=some (i64 b))(hr: -9223372036854775808<=a*b/\a*b<=9223372036854775807)
    (k:Tr C ops rest ⟨(d,i64 (a*b))::sl,hp⟩ Q):Tr C ops ((c,⟨some d, .binOp .mul xT x y yT,ty,pos,af,g⟩)::rest) ⟨sl,hp⟩ Q:=
  .bin hg hk hx hy (λw=>by simp[binOp,Op.intArith,i64_wrap hr]) k
theorem Tr.quo_i64(hg:Al ops sl g=true)(hk:okD c d C.N=true)(hx:Ai sl x=some (i64 a))(hy:Ai sl y=some (i64 b))(hr:0<=a/\a<=9223372036854775807/\1<=b)
    (k:Tr C ops rest ⟨(d,i64 (a/b))::sl,hp⟩ Q):Tr C ops ((c,⟨some d, .binOp .quo xT x y yT,ty,pos,af,g⟩)::rest) ⟨sl,hp⟩ Q:=
  .bin hg hk hx hy (λw=>by simp[binOp,Op.intDiv,show b≠0 by omega,IntWalk.i64_quo _ _ hr]) k
theorem Tr.rem_i64(hg:Al ops sl g=true)(hk:okD c d C.N=true)(hx:Ai sl x=some (i64 a))(hy:Ai sl y=some (i64 b))(hr:0<=a/\1<=b)
    (k:Tr C ops rest ⟨(d,i64 (a%b))::sl,hp⟩ Q):Tr C ops ((c,⟨some d, .binOp .rem xT x y yT,ty,pos,af,g⟩)::rest) ⟨sl,hp⟩ Q:=
  .bin hg hk hx hy (λw=>by simp[binOp,Op.intDiv,show b≠0 by omega,Int.tmod_eq_emod_of_nonneg hr.1]) k
theorem Tr.lss(hg:Al ops sl g=true)(hk:okD c d C.N=true)(hx:Ai sl x=some (.int kx a))(hy:Ai sl y=some (.int kx b))(hr:(decide (a<b))=r)
    (k:Tr C ops rest ⟨(d, .bool r)::sl,hp⟩ Q):Tr C ops ((c,⟨some d, .binOp .lss xT x y yT,ty,pos,af,g⟩)::rest) ⟨sl,hp⟩ Q:=
  .bin hg hk hx hy (λw=>by subst hr;simp[binOp,Op.intCmp]) k
theorem Tr.leq(hg:Al ops sl g=true)(hk:okD c d C.N=true)(hx:Ai sl x=some (.int kx a))(hy:Ai sl y=some (.int kx b))(hr:(decide (a<=b))=r)
    (k:Tr C ops rest ⟨(d, .bool r)::sl,hp⟩ Q):Tr C ops ((c,⟨some d, .binOp .leq xT x y yT,ty,pos,af,g⟩)::rest) ⟨sl,hp⟩ Q:=
  .bin hg hk hx hy (λw=>by subst hr;simp[binOp,Op.intCmp]) k
theorem Tr.gtr(hg:Al ops sl g=true)(hk:okD c d C.N=true)(hx:Ai sl x=some (.int kx a))(hy:Ai sl y=some (.int kx b))(hr:(decide (b<a))=r)
    (k:Tr C ops rest ⟨(d, .bool r)::sl,hp⟩ Q):Tr C ops ((c,⟨some d, .binOp .gtr xT x y yT,ty,pos,af,g⟩)::rest) ⟨sl,hp⟩ Q:=
  .bin hg hk hx hy (λw=>by subst hr;simp[binOp,Op.intCmp]) k
theorem Tr.geq(hg:Al ops sl g=true)(hk:okD c d C.N=true)(hx:Ai sl x=some (.int kx a))(hy:Ai sl y=some (.int kx b))(hr:(decide (b<=a))=r)
    (k:Tr C ops rest ⟨(d, .bool r)::sl,hp⟩ Q):Tr C ops ((c,⟨some d, .binOp .geq xT x y yT,ty,pos,af,g⟩)::rest) ⟨sl,hp⟩ Q:=
  .bin hg hk hx hy (λw=>by subst hr;simp[binOp,Op.intCmp]) k
theorem Tr.eqi(hg:Al ops sl g=true)(hk:okD c d C.N=true)(hx:Ai sl x=some (.int kx a))(hy:Ai sl y=some (.int kx b))(hr:(decide (a=b))=r)
    (k:Tr C ops rest ⟨(d, .bool r)::sl,hp⟩ Q):Tr C ops ((c,⟨some d, .binOp .eql xT x y yT,ty,pos,af,g⟩)::rest) ⟨sl,hp⟩ Q:=
  .bin hg hk hx hy (λw=>by subst hr;simp[binOp,Op.intCmp];rfl) k
theorem Tr.nei(hg:Al ops sl g=true)(hk:okD c d C.N=true)(hx:Ai sl x=some (.int kx a))(hy:Ai sl y=some (.int kx b))(hr:(!decide (a=b))=r)
    (k:Tr C ops rest ⟨(d, .bool r)::sl,hp⟩ Q):Tr C ops ((c,⟨some d, .binOp .neq xT x y yT,ty,pos,af,g⟩)::rest) ⟨sl,hp⟩ Q:=
  .bin hg hk hx hy (λw=>by subst hr;simp[binOp,Op.intCmp];rfl) k
variable{p q:UInt64}
variable{ky:IntKind}{z:Operand}
theorem Tr.add_u64(hg:Al ops sl g=true)(hk:okD c d C.N=true)(hx:Ai sl x=some (u64 p))(hy:Ai sl y=some (u64 q))
    (k:Tr C ops rest ⟨(d,u64 (p+q))::sl,hp⟩ Q):Tr C ops ((c,⟨some d, .binOp .add xT x y yT,ty,pos,af,g⟩)::rest) ⟨sl,hp⟩ Q:=
  .bin hg hk hx hy (λw=>by simp only[binOp,Op.intArith,add64];rfl) k
theorem Tr.sub_u64(hg:Al ops sl g=true)(hk:okD c d C.N=true)(hx:Ai sl x=some (u64 p))(hy:Ai sl y=some (u64 q))
    (k:Tr C ops rest ⟨(d,u64 (p-q))::sl,hp⟩ Q):Tr C ops ((c,⟨some d, .binOp .sub xT x y yT,ty,pos,af,g⟩)::rest) ⟨sl,hp⟩ Q:=
  .bin hg hk hx hy (λw=>by simp only[binOp,Op.intArith,sub64];rfl) k
theorem Tr.mul_u64(hg:Al ops sl g=true)(hk:okD c d C.N=true)(hx:Ai sl x=some (u64 p))(hy:Ai sl y=some (u64 q))
    (k:Tr C ops rest ⟨(d,u64 (p*q))::sl,hp⟩ Q):Tr C ops ((c,⟨some d, .binOp .mul xT x y yT,ty,pos,af,g⟩)::rest) ⟨sl,hp⟩ Q:=
  .bin hg hk hx hy (λw=>by simp only[binOp,Op.intArith,mul64];rfl) k
theorem Tr.and_u64(hg:Al ops sl g=true)(hk:okD c d C.N=true)(hx:Ai sl x=some (u64 p))(hy:Ai sl y=some (u64 q))
    (k:Tr C ops rest ⟨(d,u64 (p&&&q))::sl,hp⟩ Q):Tr C ops ((c,⟨some d, .binOp .and xT x y yT,ty,pos,af,g⟩)::rest) ⟨sl,hp⟩ Q:=
  .bin hg hk hx hy (λw=>congrArg (λn=>Result.ok (Value.int .u64 n) w) (bits64 (· &&& ·) (· &&& ·) (λ_ _=>rfl) p q)) k
theorem Tr.or_u64(hg:Al ops sl g=true)(hk:okD c d C.N=true)(hx:Ai sl x=some (u64 p))(hy:Ai sl y=some (u64 q))
    (k:Tr C ops rest ⟨(d,u64 (p|||q))::sl,hp⟩ Q):Tr C ops ((c,⟨some d, .binOp .or xT x y yT,ty,pos,af,g⟩)::rest) ⟨sl,hp⟩ Q:=
  .bin hg hk hx hy (λw=>congrArg (λn=>Result.ok (Value.int .u64 n) w) (bits64 (· ||| ·) (· ||| ·) (λ_ _=>rfl) p q)) k
theorem Tr.xor_u64(hg:Al ops sl g=true)(hk:okD c d C.N=true)(hx:Ai sl x=some (u64 p))(hy:Ai sl y=some (u64 q))
    (k:Tr C ops rest ⟨(d,u64 (p^^^q))::sl,hp⟩ Q):Tr C ops ((c,⟨some d, .binOp .xor xT x y yT,ty,pos,af,g⟩)::rest) ⟨sl,hp⟩ Q:=
  .bin hg hk hx hy (λw=>congrArg (λn=>Result.ok (Value.int .u64 n) w) (bits64 (· ^^^ ·) (· ^^^ ·) (λ_ _=>rfl) p q)) k
theorem Tr.shl_u64(hg:Al ops sl g=true)(hk:okD c d C.N=true)(hx:Ai sl x=some (u64 p))(hy:Ai sl y=some (.int ky b))(n:Nat)(hn:b=n)(hr:n<=64)
    (k:Tr C ops rest ⟨(d,u64 (A7 p n))::sl,hp⟩ Q):Tr C ops ((c,⟨some d, .binOp .shl xT x y yT,ty,pos,af,g⟩)::rest) ⟨sl,hp⟩ Q:=
  .bin hg hk hx hy (λw=>by
    subst hn;simp only[binOp,Op.shift,IntKind.bits];rw[if_neg oM,Lez,Lc6 hr,shl64_eq];rfl) k
theorem Tr.shr_u64(hg:Al ops sl g=true)(hk:okD c d C.N=true)(hx:Ai sl x=some (u64 p))(hy:Ai sl y=some (.int ky b))(n:Nat)(hn:b=n)(hr:n<=64)
    (k:Tr C ops rest ⟨(d,u64 (Az p n))::sl,hp⟩ Q):Tr C ops ((c,⟨some d, .binOp .shr xT x y yT,ty,pos,af,g⟩)::rest) ⟨sl,hp⟩ Q:=
  .bin hg hk hx hy (λw=>by
    subst hn;simp only[binOp,Op.shift,IntKind.bits];rw[if_neg oM,Lez,Lc6 hr,shr64_eq];rfl) k
theorem Tr.conv{aa ab:TypeId}{kx kd:IntKind}{v:Value}{td:TypeDesc}(hg:Al ops sl g=true)(hk:okD c d C.N=true)(hx:Ai sl x=some (.int kx a))(hs:C.P.underlying aa=some td)(hu:C.P.underlying ab=some (.int kd))(hr:Value.int kd (kd.wrap a)=v)
    (k:Tr C ops rest ⟨(d,v)::sl,hp⟩ Q):Tr C ops ((c,⟨some d, .convert aa ab x,ty,pos,af,g⟩)::rest) ⟨sl,hp⟩ Q:=
  .pv hg hk ⟨known1 hx,λρ hf w=>by
    have h1:=hf x (by simp[Op.operands]);rw[hx]at h1;simp only[La7]at h1;subst hr;simp[execOp,convert,run_underlying hs,run_underlying hu,<-h1,Conv.intToInt]⟩ k
theorem cv_u8_u64(x:UInt8):Value.int .u64 (IntKind.u64.wrap (x.toNat:Int))=u64 x.toUInt64:=by
  rw[wrap_u64'];have:=x.toNat_lt;simp[u64];omega
theorem cv_u8_i64(x:UInt8):Value.int .i64 (IntKind.i64.wrap (x.toNat:Int))=i64 (x.toNat:Int):=by
  rw[i64_wrap];have:=x.toNat_lt;omega
theorem cv_u64_u8(x:UInt64):Value.int .u8 (IntKind.u8.wrap (x.toNat:Int))=u8 x.toUInt8:=by
  rw[IntKind.wrap_u8];simp[u8]
theorem cv_i64_u8(n:Int):Value.int .u8 (IntKind.u8.wrap n)=u8 (byteOf n):=by rw[wrap_u8]
theorem cv_i64_u64(n:Int):Value.int .u64 (IntKind.u64.wrap n)=u64 (wordOf n):=by rw[wrap_u64]
theorem cv_u64_i64{x:UInt64}(h:x.toNat<=9223372036854775807):Value.int .i64 (IntKind.i64.wrap (x.toNat:Int))=i64 (x.toNat:Int):=by
  rw[i64_wrap];omega
theorem Tr.not{v:Bool}(hg:Al ops sl g=true)(hk:okD c d C.N=true)(hx:Ai sl x=some (.bool v))
    (k:Tr C ops rest ⟨(d, .bool (!v))::sl,hp⟩ Q):Tr C ops ((c,⟨some d, .unOp .not xT x,ty,pos,af,g⟩)::rest) ⟨sl,hp⟩ Q:=
  .pv hg hk ⟨known1 hx,λρ hf w=>by
    have h1:=hf x (by simp[Op.operands]);rw[hx]at h1;simp only[La7]at h1;simp[execOp,Op.unary,<-h1]⟩ k
theorem known3{v u t:Value}(h:Ai sl x=some v)(h2:Ai sl y=some u)(h3:Ai sl z=some t):∀r∈ #[x,y,z],(Ai sl r).isSome:=λr hr=>by
  simp at hr;rcases hr with rfl|rfl|rfl<;>simp[h,h2,h3]
theorem Tr.pick{b:Bool}{v u r:Value}(hg:Al ops sl g=true)(hk:okD c d C.N=true)(hx:Ai sl x=some (.bool b))(hy:Ai sl y=some v)(hz:Ai sl z=some u)(hr:(bif b then v else u)=r)
    (k:Tr C ops rest ⟨(d,r)::sl,hp⟩ Q):Tr C ops ((c,⟨some d, .pick x y z,ty,pos,af,g⟩)::rest) ⟨sl,hp⟩ Q:=
  .pv hg hk ⟨known3 hx hy hz,λρ hf w=>by
    have h1:=hf x (by simp[Op.operands]);rw[hx]at h1;have h2:=hf y (by simp[Op.operands]);rw[hy]at h2;have h3:=hf z (by simp[Op.operands]);rw[hz]at h3;simp only[La7]at h1 h2 h3;subst hr;cases b<;>simp[execOp,<-h1,asBool,<-h2,<-h3]⟩ k
theorem Tr.eX{vs:Array Value}{i:Nat}{v:Value}(hg:Al ops sl g=true)(hk:okD c d C.N=true)(hx:Ai sl x=some (.tuple vs))(hv:vs[i]? =some v)
    (k:Tr C ops rest ⟨(d,v)::sl,hp⟩ Q):Tr C ops ((c,⟨some d, .extract x i,ty,pos,af,g⟩)::rest) ⟨sl,hp⟩ Q:=
  .pv hg hk ⟨known1 hx,λρ hf w=>by
    have h1:=hf x (by simp[Op.operands]);rw[hx]at h1;simp only[La7]at h1;simp[execOp,Instr.extract,<-h1,hv]⟩ k
end
def Sz(P:Program)(T:TypeId)(n:Nat):Prop:=(P.info? T).map (·.size)=some n
def Zr(P:Program)(T:TypeId)(v:Value):Prop:=(P.info? T).bind (·.zero)=some v
variable{P:Program}
theorem Ch{T:TypeId}{n:Nat}(h:Sz P T n)(w:World):(Go.sizeOf T).run P w= .ok n w:=by
  unfold Sz at h;cases h1:P.info? T with
  |none=>simp[h1]at h
  |some i=>simp[h1]at h;simp[Go.sizeOf,typeInfo,h1,h]
theorem run_zr{T:TypeId}{v:Value}(h:Zr P T v)(w:World):(zeroValue T).run P w= .ok v w:=by
  unfold Zr at h;cases h1:P.info? T with
  |none=>simp[h1]at h
  |some i=>simp[h1]at h;simp[zeroValue,typeInfo,h1,h]
theorem B5(b o k:Nat):(⟨b,o,none⟩:Addr).add k=⟨b,o+k,none⟩:=by
  unfold Addr.add;split
  .rename_i h;subst h;rfl
  .rfl
section
variable{xT:TypeId}{x y:Operand}{b o:Nat}{len:Nat}{E:TypeId}{ki:IntKind}{i:Int}
theorem Tr.idxArr(sz:Nat)(hg:Al ops sl g=true)(hk:okD c d C.N=true)(hx:Ai sl x=some (ptr b o))(hy:Ai sl y=some (.int ki i))(hu:C.P.underlying xT=some (.array len E))(hs:Sz C.P E sz)(j:Nat)(hj:i=j)(aa:j<len)
    (k:Tr C ops rest ⟨(d,ptr b (o+j*sz))::sl,hp⟩ Q):Tr C ops ((c,⟨some d, .indexAddr xT x y,ty,pos,af,g⟩)::rest) ⟨sl,hp⟩ Q:=
  .pv hg hk ⟨C5 hx hy,λρ hf w=>by
    have h1:=hf x (by simp[Op.operands]);rw[hx]at h1;have h2:=hf y (by simp[Op.operands]);rw[hy]at h2;simp only[La7]at h1 h2;subst hj;simp[execOp,Instr.indexAt,<-h1,<-h2,asIntOf,run_underlying hu,Instr.sureAddr,aa,Ch hs,B5]⟩ k
theorem Tr.i1(hg:Al ops sl g=true)(hk:okD c d C.N=true)(hx:Ai sl x=some (ptr b 0))(hy:Ai sl y=some (.int ki i))(hu:C.P.underlying xT=some (.array len E))(hs:Sz C.P E 1)(j:Nat)(hj:i=j)(aa:j<len)
    (k:Tr C ops rest ⟨(d,ptr b j)::sl,hp⟩ Q):Tr C ops ((c,⟨some d, .indexAddr xT x y,ty,pos,af,g⟩)::rest) ⟨sl,hp⟩ Q:=
  .idxArr 1 hg hk hx hy hu hs j hj aa (by simpa using k)
theorem Tr.idxArrO(hg:Al ops sl g=true)(hk:okD c d C.N=true)(hx:Ai sl x=some (ptr b o))(hy:Ai sl y=some (.int ki i))(hu:C.P.underlying xT=some (.array len E))(hs:Sz C.P E 1)(j:Nat)(hj:i=j)(aa:j<len)
    (k:Tr C ops rest ⟨(d,ptr b (o+j))::sl,hp⟩ Q):Tr C ops ((c,⟨some d, .indexAddr xT x y,ty,pos,af,g⟩)::rest) ⟨sl,hp⟩ Q:=
  .idxArr 1 hg hk hx hy hu hs j hj aa (by simpa using k)
variable{n cap:Nat}
variable{sz:Nat}
theorem Tr.idxSl(sz:Nat)(hg:Al ops sl g=true)(hk:okD c d C.N=true)(hx:Ai sl x=some (.slice (some ⟨b,o,none⟩) n cap))(hy:Ai sl y=some (.int ki i))(hu:C.P.underlying xT=some (.slice E))(hs:Sz C.P E sz)(j:Nat)(hj:i=j)(aa:j<n)
    (k:Tr C ops rest ⟨(d,ptr b (o+j*sz))::sl,hp⟩ Q):Tr C ops ((c,⟨some d, .indexAddr xT x y,ty,pos,af,g⟩)::rest) ⟨sl,hp⟩ Q:=
  .pv hg hk ⟨C5 hx hy,λρ hf w=>by
    have h1:=hf x (by simp[Op.operands]);rw[hx]at h1;have h2:=hf y (by simp[Op.operands]);rw[hy]at h2;simp only[La7]at h1 h2;subst hj;simp[execOp,Instr.indexAt,<-h1,<-h2,asIntOf,run_underlying hu,aa,Ch hs,B5]⟩ k
theorem Tr.idxSl1(hg:Al ops sl g=true)(hk:okD c d C.N=true)(hx:Ai sl x=some (.slice (some ⟨b,0,none⟩) n cap))(hy:Ai sl y=some (.int ki i))(hu:C.P.underlying xT=some (.slice E))(hs:Sz C.P E 1)(j:Nat)(hj:i=j)(aa:j<n)
    (k:Tr C ops rest ⟨(d,ptr b j)::sl,hp⟩ Q):Tr C ops ((c,⟨some d, .indexAddr xT x y,ty,pos,af,g⟩)::rest) ⟨sl,hp⟩ Q:=
  .idxSl 1 hg hk hx hy hu hs j hj aa (by simpa using k)
theorem Tr.idxSlO(hg:Al ops sl g=true)(hk:okD c d C.N=true)(hx:Ai sl x=some (.slice (some ⟨b,o,none⟩) n cap))(hy:Ai sl y=some (.int ki i))(hu:C.P.underlying xT=some (.slice E))(hs:Sz C.P E 1)(j:Nat)(hj:i=j)(aa:j<n)
    (k:Tr C ops rest ⟨(d,ptr b (o+j))::sl,hp⟩ Q):Tr C ops ((c,⟨some d, .indexAddr xT x y,ty,pos,af,g⟩)::rest) ⟨sl,hp⟩ Q:=
  .idxSl 1 hg hk hx hy hu hs j hj aa (by simpa using k)
theorem Tr.fld{fs:Array Field}{f:Nat}{fd:Field}(hg:Al ops sl g=true)(hk:okD c d C.N=true)(hx:Ai sl x=some (ptr b o))(hu:C.P.underlying xT=some (.struct fs))(hf:fs[f]? =some fd)(hs:Sz C.P fd.type sz)(hz:sz≠0)(o':Nat)(ho:o+fd.offset=o')
    (k:Tr C ops rest ⟨(d,ptr b o')::sl,hp⟩ Q):Tr C ops ((c,⟨some d, .fieldAddr xT x f,ty,pos,af,g⟩)::rest) ⟨sl,hp⟩ Q:=
  .pv hg hk ⟨known1 hx,λρ aa w=>by
    have h1:=aa x (by simp[Op.operands]);rw[hx]at h1;simp only[La7]at h1;subst ho;simp[execOp,Instr.fieldAt,<-h1,run_underlying hu,hf,Instr.sureAddr,fieldPlace,Ch hs,hz,B5]⟩ k
theorem Tr.sliceArr(hg:Al ops sl g=true)(hk:okD c d C.N=true)(hx:Ai sl x=some (ptr b o))(hu:C.P.underlying xT=some (.array len E))(hs:Sz C.P E sz)
    (k:Tr C ops rest ⟨(d, .slice (some ⟨b,o,none⟩) len len)::sl,hp⟩ Q):Tr C ops ((c,⟨some d, .slice xT x none none none,ty,pos,af,g⟩)::rest) ⟨sl,hp⟩ Q:=
  .pv hg hk ⟨known1 hx,λρ aa w=>by
    have h1:=aa x (by simp[Op.operands]);rw[hx]at h1;simp only[La7]at h1;simp[execOp,Instr.sliceAt,<-h1,run_underlying hu,Instr.sureAddr,Instr.sliceBounds,Ch hs,B5]⟩ k
theorem Tr.sliceArrLo{lo:Operand}{kl:IntKind}{l:Int}(j:Nat)(hg:Al ops sl g=true)(hk:okD c d C.N=true)(hx:Ai sl x=some (ptr b o))(ab:Ai sl lo=some (.int kl l))(hj:l=j)(ac:j<len)(hu:C.P.underlying xT=some (.array len E))(hs:Sz C.P E sz)
    (k:Tr C ops rest ⟨(d, .slice (some ⟨b,o+j*sz,none⟩) (len-j) (len-j))::sl,hp⟩ Q):Tr C ops ((c,⟨some d, .slice xT x (some lo) none none,ty,pos,af,g⟩)::rest) ⟨sl,hp⟩ Q:=
  .pv hg hk ⟨by simpa[Known,Op.operands]using C5 hx ab,λρ aa w=>by
    have h1:=aa x (by simp[Op.operands]);rw[hx]at h1;have h2:=aa lo (by simp[Op.operands]);rw[ab]at h2;simp only[La7]at h1 h2;subst hj;have e:¬(len=j):=by omega
    have e1:j<=len:=by omega
    simp[execOp,Instr.sliceAt,<-h1,<-h2,run_underlying hu,Instr.sureAddr,Instr.sliceBounds,Instr.sliceBound,asIntOf,Ch hs,B5,e,e1]⟩ k
theorem Tr.lenSl{ad:Option Addr}{T:TypeId}(hg:Al ops sl g=true)(hk:okD c d C.N=true)(hx:Ai sl x=some (.slice ad n cap))(hu:C.P.underlying T=some (.slice E))
    (k:Tr C ops rest ⟨(d,i64 (n:Int))::sl,hp⟩ Q):Tr C ops ((c,⟨some d, .call { callee:= .builtin .len,args:= #[x],argTypes:= #[T] },ty,pos,af,g⟩)::rest) ⟨sl,hp⟩ Q:=
  .pv hg hk ⟨by simpa[Known,Op.operands,Call.operands]using known1 hx,λρ aa w=>by
    have h1:=aa x (by simp[Op.operands,Call.operands]);rw[hx]at h1;simp only[La7]at h1;simp[execOp,resolve,invoke,builtin,Builtin.len_,<-h1,run_underlying hu,goInt]⟩ k
end
variable{P:Program}{fr:Nat×Nat}{full:Array Value}{td:TypeDesc}{w:World}
theorem BlkAt.cell{b:Blk}(h:BlkAt w b full fr){o:Nat}{v:Value}(hv:b.cs[o]? =some v):w.cell? ⟨b.n,o,none⟩=some v:=by
  have h2:full.toList[o]? =some v:=by
    obtain⟨t,ht⟩:=h.pre;rw[<-ht,Lb1 (by
      rcases Lb5 o b.cs.length with h1|h1
      .exact h1
      .rw[Lav h1]at hv;cases hv)]
    exact hv
  simp only[World.cell?,h.heap];simpa using h2
theorem BlkOk.cell{b:Blk}(h:BlkOk w b){o:Nat}{v:Value}(hv:b.cs[o]? =some v):w.cell? ⟨b.n,o,none⟩=some v:=by
  obtain⟨n,cs,T,m⟩:=b;cases T with
  | ty t=>
    obtain⟨full,fr,h⟩:=h;exact h.cell hv
  | ob R=>
    obtain⟨h1,_⟩:=h;simp only at h1 hv;rw[h1]at hv;simp at hv
theorem BlkAt.unfrozen{b:Blk}(h:BlkAt w b full fr){o:Nat}(ho:o<b.m):w.frozen? ⟨b.n,o,none⟩=false:=by
  simp only[World.frozen?,h.heap];exact h.free.at' o ho
def Ci:TypeDesc->Bool
  | .struct _| .array _ _=>false
  |_=>true
theorem run_isAgg_plain{T:TypeId}(hu:P.underlying T=some td)(hp:Ci td=true)(w:World):(isAgg T).run P w= .ok false w:=by
  cases td<;>simp[Ci]at hp<;>simp[isAgg,run_underlying hu]
theorem run_isAgg_arr{T:TypeId}(hu:P.underlying T=some td)(hp:Ci td=false)(w:World):(isAgg T).run P w= .ok true w:=by
  cases td<;>simp[Ci]at hp<;>simp[isAgg,run_underlying hu]
theorem run_row{b o n:Nat}{cs:List Value}(hn:cs.length=n)(h:∀j v,cs[j]? =some v->w.cell? ⟨b,o+j,none⟩=some v):(loadCells ⟨b,o,none⟩ n).run P w= .ok cs.toArray w:=by
  subst hn;exact run_loadCells_list w ⟨b,o,none⟩ cs λj v hj=>by rw[B5];exact h j v hj
section
variable{T:TypeId}{td:TypeDesc}{x:Operand}{b o:Nat}{v:Value}{cs:List Value}{BT:TypeId}{m:Nat}
variable{n:Nat}{op:Op}{w:World}
theorem Tr.ld(hg:Al ops sl g=true)(hk:okL c d C.N=true)(hv:LoadV C ⟨sl,hp⟩ ⟨some d,op,ty,pos,af,g⟩ v)(k:Tr C ops rest ⟨(d,v)::sl,hp⟩ Q):
    Tr C ops ((c,⟨some d,op,ty,pos,af,g⟩)::rest) ⟨sl,hp⟩ Q:=by
  simp only[okL,Lap]at hk;exact .load v (nbeq hk.1.1) (nbeq hk.1.2) (A2 hg) (Cb (nblt hk.2)) hv k
theorem Tr.loadAny(hg:Al ops sl g=true)(hk:okL c d C.N=true)(hx:Ai sl x=some (ptr b o))(hv:∀w,HRep C hp w->(loadVar T ⟨b,o,none⟩).run C.P w= .ok v w)
    (k:Tr C ops rest ⟨(d,v)::sl,hp⟩ Q):Tr C ops ((c,⟨some d, .load T x,ty,pos,af,g⟩)::rest) ⟨sl,hp⟩ Q:=
  .ld hg hk ⟨known1 hx,λρ hf w hr=>by
    have h1:=hf x (by simp[Op.operands]);rw[hx]at h1;simp only[La7]at h1;simp[execOp,Instr.loadAt,<-h1,Instr.sureAddr,hv w hr]⟩ k
theorem Tr.load1(hg:Al ops sl g=true)(hk:okL c d C.N=true)(hx:Ai sl x=some (ptr b o))(hu:C.P.underlying T=some td)(hp':Ci td=true)(hb:(⟨b,cs,BT,m⟩:Blk)∈hp)(hv:cs[o]? =some v)
    (k:Tr C ops rest ⟨(d,v)::sl,hp⟩ Q):Tr C ops ((c,⟨some d, .load T x,ty,pos,af,g⟩)::rest) ⟨sl,hp⟩ Q:=
  .loadAny hg hk hx (λw hr=>by
    have:=(hr.cells _ hb).cell (o:=o) hv;simp[loadVar,run_isAgg_plain hu hp',load,Sem.run,this]) k
theorem Tr.lN(r:List Value)(hg:Al ops sl g=true)(hk:okL c d C.N=true)(hx:Ai sl x=some (ptr b o))(hu:C.P.underlying T=some td)(hp':Ci td=false)(hs:Sz C.P T n)(hb:(⟨b,cs,BT,m⟩:Blk)∈hp)(hr:(cs.drop o).take n=r)(hn:r.length=n)
    (k:Tr C ops rest ⟨(d,agg r)::sl,hp⟩ Q):Tr C ops ((c,⟨some d, .load T x,ty,pos,af,g⟩)::rest) ⟨sl,hp⟩ Q:=
  .loadAny hg hk hx (λw hh=>by
    have:=run_row (P:=C.P) (w:=w) (b:=b) (o:=o) hn λj v hj=>by
      refine(hh.cells _ hb).cell (b:=⟨b,cs,BT,m⟩) (o:=o+j) ?_;rw[<-hr,Lbz]at hj;split at hj
      .rwa[Lba]at hj
      .cases hj
    simp[loadVar,run_isAgg_arr hu hp',Ch hs,this]) k
theorem Tr.lA(hg:Al ops sl g=true)(hk:okL c d C.N=true)(hx:Ai sl x=some (ptr b 0))(hu:C.P.underlying T=some td)(hp':Ci td=false)(hs:Sz C.P T n)(hb:(⟨b,cs,BT,m⟩:Blk)∈hp)(hn:cs.length=n)
    (k:Tr C ops rest ⟨(d,agg cs)::sl,hp⟩ Q):Tr C ops ((c,⟨some d, .load T x,ty,pos,af,g⟩)::rest) ⟨sl,hp⟩ Q:=
  Tr.lN cs hg hk hx hu hp' hs hb (by simp[<-hn]) hn k
theorem Keeps.cell{ex:List Nat}{w w':World}(h:Keeps ex w w'){p:Addr}(hn:p.block∉ex)(hv:w.cell? p=some v):w'.cell? p=some v:=by
  have aa:p.block<w.heap.size:=by
    rcases Lb5 p.block w.heap.size with h1|h1
    .exact h1
    .simp[World.cell?,Lcr h1]at hv
  have:=h.block p.block aa hn;simp only[World.cell?,this];exact hv
theorem Tr.loadE(hg:Al ops sl g=true)(hk:okL c d C.N=true)(hx:Ai sl x=some (ptr b o))(hu:C.P.underlying T=some td)(hp':Ci td=true)(hb:b∉C.lent)(hv:C.W0.cell? ⟨b,o,none⟩=some v)
    (k:Tr C ops rest ⟨(d,v)::sl,hp⟩ Q):Tr C ops ((c,⟨some d, .load T x,ty,pos,af,g⟩)::rest) ⟨sl,hp⟩ Q:=
  .loadAny hg hk hx (λw hr=>by
    have:=hr.keeps.cell (p:=⟨b,o,none⟩) hb hv;simp[loadVar,run_isAgg_plain hu hp',load,Sem.run,this]) k
theorem Tr.loadEN(r:List Value)(hg:Al ops sl g=true)(hk:okL c d C.N=true)(hx:Ai sl x=some (ptr b o))(hu:C.P.underlying T=some td)(hp':Ci td=false)(hs:Sz C.P T n)(hb:b∉C.lent)(hn:r.length=n)
    (hv:∀j v,r[j]? =some v->C.W0.cell? ⟨b,o+j,none⟩=some v)
    (k:Tr C ops rest ⟨(d,agg r)::sl,hp⟩ Q):Tr C ops ((c,⟨some d, .load T x,ty,pos,af,g⟩)::rest) ⟨sl,hp⟩ Q:=
  .loadAny hg hk hx (λw hh=>by
    have:=run_row (P:=C.P) (w:=w) (b:=b) (o:=o) hn λj v hj=>hh.keeps.cell (p:=⟨b,o+j,none⟩) hb (hv j v hj);simp[loadVar,run_isAgg_arr hu hp',Ch hs,this]) k
theorem BlkOk.cell0(h:BlkOk w ⟨b,cs,T,m⟩)(hv:cs[o]? =some v):w.cell? ⟨b,o,none⟩=some v:=BlkOk.cell (b:=⟨b,cs,T,m⟩) h hv
theorem Tr.kld(hg:Al ops sl g=true)(hk:okD c d C.N=true)(hv:KLoadV C sl ⟨some d,op,ty,pos,af,g⟩ v)(k:Tr C ops rest ⟨(d,v)::sl,hp⟩ Q):
    Tr C ops ((c,⟨some d,op,ty,pos,af,g⟩)::rest) ⟨sl,hp⟩ Q:=by
  simp only[okD,Lap]at hk;exact .kload v (nbeq hk.1) (A2 hg) (Cb (nblt hk.2)) hv k
theorem Tr.kloadAny(hg:Al ops sl g=true)(hk:okD c d C.N=true)(hx:Ai sl x=some (ptr b o))(hv:∀w,(∀b∈C.kb,BlkOk w b)->Keeps C.lent C.W0 w->(loadVar T ⟨b,o,none⟩).run C.P w= .ok v w)
    (k:Tr C ops rest ⟨(d,v)::sl,hp⟩ Q):Tr C ops ((c,⟨some d, .load T x,ty,pos,af,g⟩)::rest) ⟨sl,hp⟩ Q:=
  .kld hg hk ⟨known1 hx,λρ hf w hr hq=>by
    have h1:=hf x (by simp[Op.operands]);rw[hx]at h1;simp only[La7]at h1;simp[execOp,Instr.loadAt,<-h1,Instr.sureAddr,hv w hr hq]⟩ k
theorem Tr.kload1(hg:Al ops sl g=true)(hk:okD c d C.N=true)(hx:Ai sl x=some (ptr b o))(hu:C.P.underlying T=some td)(hp':Ci td=true)(hb:(⟨b,cs,BT,m⟩:Blk)∈C.kb)(hv:cs[o]? =some v)
    (k:Tr C ops rest ⟨(d,v)::sl,hp⟩ Q):Tr C ops ((c,⟨some d, .load T x,ty,pos,af,g⟩)::rest) ⟨sl,hp⟩ Q:=
  .kloadAny hg hk hx (λw hr _=>by
    have:=(hr _ hb).cell0 (o:=o) hv;simp[loadVar,run_isAgg_plain hu hp',load,Sem.run,this]) k
theorem Tr.kloadN(r:List Value)(hg:Al ops sl g=true)(hk:okD c d C.N=true)(hx:Ai sl x=some (ptr b o))(hu:C.P.underlying T=some td)(hp':Ci td=false)(hs:Sz C.P T n)(hb:(⟨b,cs,BT,m⟩:Blk)∈C.kb)(hr:(cs.drop o).take n=r)(hn:r.length=n)
    (k:Tr C ops rest ⟨(d,agg r)::sl,hp⟩ Q):Tr C ops ((c,⟨some d, .load T x,ty,pos,af,g⟩)::rest) ⟨sl,hp⟩ Q:=
  .kloadAny hg hk hx (λw hh _=>by
    have:=run_row (P:=C.P) (w:=w) (b:=b) (o:=o) hn λj v hj=>by
      refine(hh _ hb).cell0 (o:=o+j) ?_;rw[<-hr,Lbz]at hj;split at hj
      .rwa[Lba]at hj
      .cases hj
    simp[loadVar,run_isAgg_arr hu hp',Ch hs,this]) k
theorem Tr.kloadAll(hg:Al ops sl g=true)(hk:okD c d C.N=true)(hx:Ai sl x=some (ptr b 0))(hu:C.P.underlying T=some td)(hp':Ci td=false)(hs:Sz C.P T n)(hb:(⟨b,cs,BT,m⟩:Blk)∈C.kb)(hn:cs.length=n)
    (k:Tr C ops rest ⟨(d,agg cs)::sl,hp⟩ Q):Tr C ops ((c,⟨some d, .load T x,ty,pos,af,g⟩)::rest) ⟨sl,hp⟩ Q:=
  .kloadN cs hg hk hx hu hp' hs hb (by simp[<-hn]) hn k
theorem Tr.nw(hk:okN c d C.N=true)(hv:NewV C ⟨sl,hp⟩ ⟨some d,op,ty,pos,af,none⟩ (λn=>ptr n 0) cs T)
    (k:∀n,C.W0.heap.size<=n->(∀b∈hp,b.n≠n)->Tr C ops rest ⟨(d,ptr n 0)::sl,blk n cs T::hp⟩ Q):Tr C ops ((c,⟨some d,op,ty,pos,af,none⟩)::rest) ⟨sl,hp⟩ Q:=by
  simp only[okN,Lap,Lc8]at hk;exact .new (λn=>ptr n 0) cs T (hk.1.imp De De) rfl (Cb (nblt hk.2)) hv k
theorem Tr.alloc{z:Value}(hk:okN c d C.N=true)(hz:Zr C.P T z)(hc:z.cells.toList=cs)
    (k:∀n,C.W0.heap.size<=n->(∀b∈hp,b.n≠n)->Tr C ops rest ⟨(d,ptr n 0)::sl,blk n cs T::hp⟩ Q):Tr C ops ((c,⟨some d, .alloc T,ty,pos,af,none⟩)::rest) ⟨sl,hp⟩ Q:=
  .nw hk ⟨λx hx=>by simp[Op.operands]at hx,λρ hf w=>by
    subst hc;simp[execOp,Instr.alloc,run_zr hz,newVar,newRow,newObj,Sem.run]⟩ k
theorem Tr.boxA{l:List Value}(hk:okN c d C.N=true)(hx:Ai sl x=some (agg l))
    (k:∀n,C.W0.heap.size<=n->(∀b∈hp,b.n≠n)->Tr C ops rest ⟨(d,ptr n 0)::sl,blk n l T::hp⟩ Q):Tr C ops ((c,⟨some d, .box T x,ty,pos,af,none⟩)::rest) ⟨sl,hp⟩ Q:=
  .nw hk ⟨known1 hx,λρ hf w=>by
    have h1:=hf x (by simp[Op.operands]);rw[hx]at h1;simp only[La7]at h1;simp[execOp,Instr.box,newVar,newRow,newObj,Sem.run,<-h1,Value.cells]⟩ k
theorem Tr.box1(hk:okN c d C.N=true)(hx:Ai sl x=some v)(hv:isCell v=true)
    (k:∀n,C.W0.heap.size<=n->(∀b∈hp,b.n≠n)->Tr C ops rest ⟨(d,ptr n 0)::sl,blk n [v] T::hp⟩ Q):Tr C ops ((c,⟨some d, .box T x,ty,pos,af,none⟩)::rest) ⟨sl,hp⟩ Q:=
  .nw hk ⟨known1 hx,λρ hf w=>by
    have h1:=hf x (by simp[Op.operands]);rw[hx]at h1;simp only[La7]at h1;have:v.cells= #[v]:=by cases v<;>simp[isCell]at hv<;>rfl
    simp[execOp,Instr.box,newVar,newRow,newObj,Sem.run,<-h1,this]⟩ k
end
inductive Upd:List Blk->Nat->List Value->TypeId->Nat->List Value->List Blk->Prop
  |head {b:Nat} {cs:List Value} {T:TypeId} {m:Nat} {cs':List Value} {l:List Blk}:Upd (⟨b,cs,T,m⟩::l) b cs T m cs' (⟨b,cs',T,m⟩::l)
  |tail {x l b cs T m cs' l'} (h:Upd l b cs T m cs' l'):Upd (x::l) b cs T m cs' (x::l')
section
variable{l l':List Blk}{x0 x1 x2 x3 x4 x5 x6:Blk}{b:Nat}{cs cs':List Value}{T:TypeId}{m:Nat}
theorem upd0:Upd (⟨b,cs,T,m⟩::l) b cs T m cs' (⟨b,cs',T,m⟩::l):= .head
theorem upd1:Upd (x0::⟨b,cs,T,m⟩::l) b cs T m cs' (x0::⟨b,cs',T,m⟩::l):= .tail upd0
theorem upd2:Upd (x1::x0::⟨b,cs,T,m⟩::l) b cs T m cs' (x1::x0::⟨b,cs',T,m⟩::l):= .tail upd1
theorem upd3:Upd (x2::x1::x0::⟨b,cs,T,m⟩::l) b cs T m cs' (x2::x1::x0::⟨b,cs',T,m⟩::l):= .tail upd2
theorem upd4:Upd (x3::x2::x1::x0::⟨b,cs,T,m⟩::l) b cs T m cs' (x3::x2::x1::x0::⟨b,cs',T,m⟩::l):= .tail upd3
theorem upd5:Upd (x4::x3::x2::x1::x0::⟨b,cs,T,m⟩::l) b cs T m cs' (x4::x3::x2::x1::x0::⟨b,cs',T,m⟩::l):= .tail upd4
theorem upd6:Upd (x5::x4::x3::x2::x1::x0::⟨b,cs,T,m⟩::l) b cs T m cs' (x5::x4::x3::x2::x1::x0::⟨b,cs',T,m⟩::l):= .tail upd5
theorem upd7:Upd (x6::x5::x4::x3::x2::x1::x0::⟨b,cs,T,m⟩::l) b cs T m cs' (x6::x5::x4::x3::x2::x1::x0::⟨b,cs',T,m⟩::l):= .tail upd6
end
variable{fr:Nat×Nat}{full:Array Value}{w:World}
theorem Upd.mem{l l':List Blk}{b:Nat}{cs cs':List Value}{T:TypeId}{m:Nat}(h:Upd l b cs T m cs' l'):(⟨b,cs,T,m⟩:Blk)∈l:=by
  induction h with
  |head=>exact La9
  |tail h ih=>exact Laj _ ih
theorem Upd.names{l l':List Blk}{b:Nat}{cs cs':List Value}{T:TypeId}{m:Nat}(h:Upd l b cs T m cs' l'):l'.map (·.n)=l.map (·.n):=by
  induction h with
  |head=>rfl
  |tail h ih=>simp[ih]
theorem Upd.of_mem{l l':List Blk}{b:Nat}{cs cs':List Value}{T:TypeId}{m:Nat}(h:Upd l b cs T m cs' l')(hn:(l.map (·.n)).Nodup):
    ∀x∈l',x=⟨b,cs',T,m⟩\/(x∈l/\x.n≠b):=by
  induction h with
  | @head b cs T m cs' l=>
    intro x hx;rcases Lam.1 hx with rfl|hx
    .exact .inl rfl
    . refine .inr ⟨Laj _ hx,λe=>?_⟩
      have:=(Lb6.1 hn).1;exact this (by simpa[<-e]using La6.2 ⟨x,hx,rfl⟩)
  | @tail y l b cs T m cs' l' h ih=>
    intro x hx;rcases Lam.1 hx with rfl|hx
    . refine .inr ⟨La9,λe=>?_⟩
      have:=(Lb6.1 hn).1;exact this (by simpa[e]using La6.2 ⟨_,h.mem,rfl⟩)
    . rcases ih (Lb6.1 hn).2 x hx with h1|⟨h1,h2⟩
      .exact .inl h1
      .exact .inr ⟨Laj _ h1,h2⟩
def setBlk(w:World)(b:Nat)(full:Array Value)(T:TypeId)(fr:Nat×Nat):World:={ w with heap:=w.heap.setIfInBounds b (.cells full T fr) }
theorem setBlk_ne{b k:Nat}{T:TypeId}(h:k≠b):(setBlk w b full T fr).heap[k]? =w.heap[k]? :=by
  simp[setBlk,Lda (Ne.symm h)]
theorem setBlk_eq{b:Nat}{T:TypeId}(h:b<w.heap.size):(setBlk w b full T fr).heap[b]? =some (.cells full T fr):=by
  simp[setBlk,h]
theorem HRep.upd{hp hp':List Blk}{b:Nat}{cs cs':List Value}{T:TypeId}{m:Nat}{aa:Array Value}(h:HRep C hp w)(hu:Upd hp b cs T m cs' hp')
    (hb:b<w.heap.size) (h1:aa.size=m) (h2:cs'<+:aa.toList) (h3:Free fr m):HRep C hp' (setBlk w b aa T fr):=by
  have ac:b<w.heap.size:=hb;refine⟨λx hx=>?_,by rw[hu.names];exact h.nodup,λx hx=>?_,?_,λk hk=>(h.kok k hk).of_heap (setBlk_ne λe=>h.kd _ hu.mem k hk e.symm),λx hx k hk=>?_⟩
  . rcases hu.of_mem h.nodup x hx with rfl|⟨hx,ab⟩
    .exact⟨aa,fr,setBlk_eq ac,h1,h2,h3⟩
    .exact(h.cells x hx).of_heap (setBlk_ne ab)
  . rcases hu.of_mem h.nodup x hx with rfl|⟨hx,ab⟩
    .exact(h.own _ hu.mem:C.W0.heap.size<=b\/b∈C.lent)
    .exact h.own x hx
  . refine⟨h.keeps.os,h.keeps.tape,h.keeps.output,by simp[setBlk];exact h.keeps.size,h.keeps.drawn,λk hk hn=>?_⟩
    have ab:k≠b:=by
      rintro rfl;rcases h.own _ hu.mem with h1|h1
      .exact absurd hk (by simpa using h1)
      .exact hn h1
    rw[setBlk_ne ab];exact h.keeps.block k hk hn
  . rcases hu.of_mem h.nodup x hx with rfl|⟨hx,ab⟩
    .exact h.kd _ hu.mem k hk
    .exact h.kd x hx k hk
def Ck(full:Array Value):Nat->List Value->Array Value
  |_,[]=>full
  |k,v::vs=>Ck (full.setIfInBounds k v) (k+1) vs
theorem putAll_size:∀(vs:List Value) (full:Array Value) (k:Nat),(Ck full k vs).size=full.size
  | [],_,_=>rfl
  |v::vs,full,k=>by rw[Ck,putAll_size vs];simp
def upd(cs:List Value)(o:Nat)(vs:List Value):List Value:=cs.take o++vs++cs.drop (o+vs.length)
theorem putAll_get:∀(vs:List Value) (full:Array Value) (k j:Nat),k+vs.length<=full.size->
    (Ck full k vs)[j]? =if k<=j/\j<k+vs.length then vs[j-k]? else full[j]?
  | [],full,k,j,h=>by simp[Ck];omega
  | v ::vs,full,k,j,h=>by
    simp only[Lax]at h;rw[Ck,putAll_get vs _ _ _ (by simp;omega)];by_cases hj:j=k
    . subst hj
      have:j<full.size:=by omega
      rw[if_neg oM,if_pos sP];simp[this]
    . by_cases h1:k+1<=j/\j<k+1+vs.length
      . have e:j-k=(j-(k+1))+1:=by omega
        rw[if_pos h1,if_pos (by simp;omega),e,Led]
      .rw[if_neg h1,if_neg (by simp;omega),Lda oM]
theorem upd_get(cs:List Value)(o:Nat)(vs:List Value)(j:Nat)(h:o+vs.length<=cs.length):
    (upd cs o vs)[j]? =if o<=j/\j<o+vs.length then vs[j-o]? else cs[j]? :=by
  unfold upd;rw[Lab,Lea];have hl:(cs.take o).length=o:=by simp;omega
  rw[hl];by_cases h1:j<o
  .rw[if_pos h1,if_neg oM,Lbz,if_pos h1]
  . rw[if_neg h1,Lea]
    by_cases h2:j-o<vs.length
    .rw[if_pos h2,if_pos oM]
    . rw[if_neg h2,if_neg oM,Lba]
      congr 1;omega
theorem prefix_iff{l1 l2:List Value}:l1<+:l2↔∀(j:Nat) (v:Value),l1[j]? =some v->l2[j]? =some v:=by
  constructor
  . rintro⟨t,rfl⟩ j v h
    rw[Lb1 (by
      rcases Lb5 j l1.length with h1|h1
      .exact h1
      .rw[Lav h1]at h;cases h)]
    exact h
  . intro h
    induction l1 generalizing l2 with
    |nil=>exact List.nil_prefix
    | cons x l1 ih=>
      cases l2 with
      |nil=>have:=h 0 x sP;simp at this
      | cons y l2=>
        have h0:=h 0 x sP;simp at h0;subst h0;exact List.cons_prefix_cons.2 ⟨rfl,ih λj v hj=>by simpa using h (j+1) v (by simpa using hj)⟩
theorem upd_pre{cs:List Value}{o:Nat}{vs:List Value}(hp:cs<+:full.toList)(h:o+vs.length<=cs.length):upd cs o vs<+:(Ck full o vs).toList:=by
  have hl:=hp.length_le;simp only[Ldk]at hl;refine prefix_iff.2 λj v hj=>?_;rw[upd_get _ _ _ _ h]at hj;rw[Le3,putAll_get _ _ _ _ oM];split
  .rename_i h1;rwa[if_pos h1]at hj
  . rename_i h1
    rw[if_neg h1]at hj;simpa using prefix_iff.1 hp j v hj
theorem upd_one(cs:List Value)(o:Nat)(v:Value)(h:o<cs.length):upd cs o [v]=cs.set o v:=by
  apply Ld2;intro j;rw[upd_get _ _ _ _ (by simp;omega),Lcu];by_cases hj:o=j
  .subst hj;simp[h]
  .rw[if_neg hj,if_neg (by simp;omega)]
theorem upd_all(cs vs:List Value)(h:vs.length=cs.length):upd cs 0 vs=vs:=by
  simp[upd,h]
theorem run_store{P:Program}{a:Addr}{v:Value}(hc:(w.cell? a).isSome)(hf:w.frozen? a=false)(hv:isCell v=true):(store a v).run P w= .ok () (w.setCell a v):=by
  cases hw:w.cell? a with
  |none=>simp[hw]at hc
  | some u=>
    unfold store;cases v<;>simp[isCell]at hv<;>simp[Sem.run,hw,hf]
theorem setCell_setBlk{b o:Nat}{v:Value}{T:TypeId}(h:w.heap[b]? =some (.cells full T fr)):
    w.setCell ⟨b,o,none⟩ v=setBlk w b (full.setIfInBounds o v) T fr:=by
  have aa:b<w.heap.size:=by
    rcases Lb5 b w.heap.size with h1|h1
    .exact h1
    .rw[Lcr h1]at h;cases h
  unfold World.setCell setBlk;congr 1;apply Lep;intro k;rw[Le4,Lee];by_cases hk:b=k
  . subst hk
    rw[if_pos rfl,h];simp[aa]
  .rw[if_neg hk,if_neg hk]
theorem setBlk_setBlk{b:Nat}{f1 f2:Array Value}{T:TypeId}:setBlk (setBlk w b f1 T fr) b f2 T fr=setBlk w b f2 T fr:=by
  unfold setBlk;congr 1;apply Lep;intro k;simp only[Lee];split
  .simp
  .rfl
theorem run_storeCells{P:Program}{b o:Nat}{T:TypeId}{fr:Nat×Nat}:∀(vs:List Value) (i:Nat) (w:World) (full:Array Value),w.heap[b]? =some (.cells full T fr)->o+i+vs.length<=full.size->
    Free fr full.size->(∀v∈vs,isCell v=true)->(storeCells ⟨b,o,none⟩ vs i).run P w= .ok () (setBlk w b (Ck full (o+i) vs) T fr)
  | [], i,w,full,h,hl,hf,hv=>by
    have:setBlk w b full T fr=w:=by
      unfold setBlk;have aa:b<w.heap.size:=by
        rcases Lb5 b w.heap.size with h1|h1
        .exact h1
        .rw[Lcr h1]at h;cases h
      have:w.heap.setIfInBounds b (.cells full T fr)=w.heap:=by
        apply Lep;intro k;rw[Lee];by_cases hk:b=k
        .subst hk;simp[aa,<-h]
        .rw[if_neg hk]
      rw[this]
    simp[storeCells,Ck,this]
  | v ::vs,i,w,full,h,hl,hf,hv=>by
    simp only[Lax]at hl;have aa:b<w.heap.size:=by
      rcases Lb5 b w.heap.size with h1|h1
      .exact h1
      .rw[Lcr h1]at h;cases h
    have hc:(w.cell? ⟨b,o+i,none⟩).isSome:=by simp[World.cell?,h];omega
    have ab:w.frozen? ⟨b,o+i,none⟩=false:=by simp only[World.frozen?,h];exact hf.at' _ oM
    have hs:=run_store (P:=P) hc ab (hv v La9);rw[setCell_setBlk h]at hs;have ih:=run_storeCells (P:=P) (b:=b) (o:=o) vs (i+1) (setBlk w b (full.setIfInBounds (o+i) v) T fr) (full.setIfInBounds (o+i) v) (setBlk_eq aa) (by simp;omega) (by simpa using hf) (λu hu=>hv u (Laj _ hu));rw[setBlk_setBlk]at ih;simp only[storeCells,B5,Sem.run_bind,hs,Result.andThen];rw[ih];rfl
section
variable{T:TypeId}{x y:Operand}{b o:Nat}{v:Value}{cs:List Value}{BT:TypeId}{m n:Nat}{hp':List Blk}
theorem Tr.storeN(vs:List Value){cs':List Value}(hg:Al ops sl g=true)(hc:Nat.beq c 4=true)(hx:Ai sl x=some (ptr b o))(hy:Ai sl y=some v)(ac:v.cells.toList=vs)(aa:∀u∈vs,isCell u=true)(hs:Sz C.P T n)(hn:vs.length=n)
    (aj:(⟨b,cs,BT,m⟩:Blk)∈hp) (hl:o+vs.length<=cs.length) (ad:upd cs o vs=cs') (hu:Upd hp b cs BT m cs' hp')
    (k:Tr C ops rest ⟨sl,hp'⟩ Q):Tr C ops ((c,⟨none, .store T x y,ty,pos,af,g⟩)::rest) ⟨sl,hp⟩ Q:=by
  refine Tr.act (ρ:=Unit) (λ_=>True) (λ_=>undef) (λ_=>hp') (De hc) (A2 hg) dst_none ⟨C5 hx hy,λa w hf hh=>?_⟩ (λ_ _=>k);have h1:=hf x (by simp[Op.operands]);rw[hx]at h1;have h2:=hf y (by simp[Op.operands]);rw[hy]at h2;simp only[La7]at h1 h2;obtain⟨full,fr,hb⟩:=hh.cells _ hu.mem;have ai:=hb.pre.length_le;simp only[Ldk]at ai;have ah:=(hh.cells _ hu.mem).lt;have ae:=run_storeCells (P:=C.P) (b:=b) (o:=o) vs 0 w full hb.heap oM (by rw[hb.size];exact hb.free) aa;have ag:v.cells.size=n:=by rw[<-hn,<-ac];simp
  have ab:(execOp a.eval ⟨none, .store T x y,ty,pos,af,g⟩).run C.P w= .ok .skip (setBlk w b (Ck full o vs) BT fr):=by
    simp[execOp,Instr.storeAt,<-h1,<-h2,Instr.sureAddr,storeVar,Ch hs,ag,ac,ae]
  unfold Oper.wp;rw[ab];refine⟨(),trivial,rfl,hh.upd hu ah (by rw[putAll_size];exact hb.size) ?_ hb.free⟩;rw[<-ad];exact upd_pre hb.pre hl
theorem Tr.s1{cs':List Value}(hg:Al ops sl g=true)(hc:Nat.beq c 4=true)(hx:Ai sl x=some (ptr b o))(hy:Ai sl y=some v)(aa:isCell v=true)(hs:Sz C.P T 1)
    (ab:(⟨b,cs,BT,m⟩:Blk)∈hp) (hl:o<cs.length) (ac:cs.set o v=cs') (hu:Upd hp b cs BT m cs' hp')
    (k:Tr C ops rest ⟨sl,hp'⟩ Q):Tr C ops ((c,⟨none, .store T x y,ty,pos,af,g⟩)::rest) ⟨sl,hp⟩ Q:=
  .storeN [v] hg hc hx hy (by cases v<;>simp[isCell]at aa<;>rfl) (by simpa using aa) hs rfl ab (by simp;omega) ((upd_one cs o v hl).trans ac) hu k
theorem Tr.sA{vs:List Value}(hg:Al ops sl g=true)(hc:Nat.beq c 4=true)(hx:Ai sl x=some (ptr b 0))(hy:Ai sl y=some (agg vs))(aa:∀u∈vs,isCell u=true)(hs:Sz C.P T n)(hn:vs.length=n)
    (ab:(⟨b,cs,BT,m⟩:Blk)∈hp) (hl:cs.length=n) (hu:Upd hp b cs BT m vs hp')
    (k:Tr C ops rest ⟨sl,hp'⟩ Q):Tr C ops ((c,⟨none, .store T x y,ty,pos,af,g⟩)::rest) ⟨sl,hp⟩ Q:=
  .storeN vs hg hc hx hy rfl aa hs hn ab oM (upd_all _ _ oM) hu k
end
def Meets(P:Program)(f:FuncId)(args:List Value)(lent:List Nat)(Pre:World->Prop)(R:Value->List Blk->Prop):Prop:=
  ∀W,Pre W->Calls P f args.toArray W λe W'=>∃v out,e= .returned v/\R v out/\Ret lent out W W'
def A0(P:Program)(f:FuncId):Prop:=∀args w,(callFunc f args).run P w= .ok (.enter f args) w
def evs(sl:List (Nat×Value)):List Operand->Option (List Value)
  | []=>some []
  | x::l=>match Ai sl x,evs sl l with
    |some v,some vs=>some (v::vs)
    |_,_=>none
theorem evs_known{sl:List (Nat×Value)}:∀ {l:List Operand} {vs:List Value},evs sl l=some vs->∀x∈l,(Ai sl x).isSome
  | [],_,_,x,hx=>by cases hx
  | y ::l,vs,h,x,hx=>by
    simp only[evs]at h;split at h
    . rename_i v ab hv aa
      rcases Lam.1 hx with rfl|hx
      .simp[hv]
      .exact evs_known aa x hx
    .cases h
theorem evs_map{sl:List (Nat×Value)}{ρ:Operand->Value}:∀ {l:List Operand} {vs:List Value},evs sl l=some vs->(∀x∈l,Ai sl x=some (ρ x))->l.map ρ=vs
  | [],vs,h,_=>by simp[evs]at h;simp[<-h]
  | y ::l,vs,h,hf=>by
    simp only[evs]at h;split at h
    . rename_i v ab hv aa
      cases h;have h0:=hf y La9;rw[hv]at h0;cases h0;rw[Lar,evs_map aa λx hx=>hf x (Laj _ hx)]
    .cases h
section
variable{f:Operand}{fid:FuncId}{ars:List Operand}{ats:Array TypeId}{vs:List Value}
variable{Pre:World->Prop}{r:Value}
theorem known_call(ab:Ai sl f=some (.func (.func fid) #[] #[]))(aa:evs sl ars=some vs):Known sl ⟨some d, .call ⟨.value f,ars.toArray,ats⟩,ty,pos,af,g⟩:=by
  intro x hx;simp[Op.operands,Call.operands]at hx;rcases hx with rfl|hx
  .simp[ab]
  .exact evs_known aa x hx
theorem run_call{ρ:Operand->Value}{w:World}(ab:Ai sl f=some (.func (.func fid) #[] #[]))(aa:evs sl ars=some vs)
    (hf:Fits sl ⟨some d, .call ⟨.value f,ars.toArray,ats⟩,ty,pos,af,g⟩ ρ):
    (execOp ρ ⟨some d, .call ⟨.value f,ars.toArray,ats⟩,ty,pos,af,g⟩).run C.P w=(callFunc fid vs.toArray).run C.P w:=by
  have h1:=hf f (by simp[Op.operands,Call.operands]);rw[ab]at h1;simp only[La7]at h1;have h2:=evs_map aa λx hx=>hf x (by simp[Op.operands,Call.operands,hx]);simp[execOp,resolve,Deferred.ofValue,<-h1,h2,invoke]
def Loose(R:Value->List Blk->Prop):Prop:=∀l:List Blk,(l.map (·.n)).Nodup->∃v out,R v out/\((out++l).map (·.n)).Nodup
theorem Tr.call{R:Value->List Blk->Prop}(hg:Al ops sl g=true)(hk:okG c d C.N=true)(ac:Ai sl f=some (.func (.func fid) #[] #[]))(aa:evs sl ars=some vs)(hb:A0 C.P fid)
    (hc:Meets C.P fid vs [] Pre R) (hl:Loose R) (ad:∀w,HRep C hp w->Pre w)
    (k:∀v out,R v out->Tr C ops rest ⟨(d,v)::sl,out++hp⟩ Q):Tr C ops ((c,⟨some d, .call ⟨.value f,ars.toArray,ats⟩,ty,pos,af,g⟩)::rest) ⟨sl,hp⟩ Q:=by
  simp only[okG,Lap,Lc8]at hk;refine Tr.grow (ρ:=Value×List Blk) (λr=>R r.1 r.2) (·.1) (·.2) (hk.1.imp De De) (A2 hg) (Cb (nblt hk.2)) ⟨known_call ac aa,λl hn=>?_,λa w hf hh=>?_⟩ (λr hr=>k r.1 r.2 hr)
  . obtain⟨v,out,h1,h2⟩:=hl l hn
    exact⟨(v,out),h1,h2⟩
  unfold Oper.wp;rw[run_call ac aa hf,hb];refine(hc w (ad w hh)).mono λe w' ⟨v,out,he,hR,ab⟩=>?_;subst he;exact⟨(v,out),hR,rfl,ab⟩
theorem Tr.cV(hg:Al ops sl g=true)(hk:okG c d C.N=true)(ac:Ai sl f=some (.func (.func fid) #[] #[]))(aa:evs sl ars=some vs)(hb:A0 C.P fid)
    (hc:Meets C.P fid vs [] Pre λv out=>v=r/\out=[]) (ab:∀w,HRep C hp w->Pre w)
    (k:Tr C ops rest ⟨(d,r)::sl,hp⟩ Q):Tr C ops ((c,⟨some d, .call ⟨.value f,ars.toArray,ats⟩,ty,pos,af,g⟩)::rest) ⟨sl,hp⟩ Q:=
  .call hg hk ac aa hb hc (λl hn=>⟨r,[],⟨rfl,rfl⟩,hn⟩) ab λv out h=>by obtain⟨rfl,rfl⟩:=h;exact k
theorem Tr.ext(hg:Al ops sl g=true)(hk:okD c d C.N=true)(ab:Ai sl f=some (.func (.func fid) #[] #[]))(aa:evs sl ars=some vs)(hr:∀w,(callFunc fid vs.toArray).run C.P w= .ok (.value r) w)
    (k:Tr C ops rest ⟨(d,r)::sl,hp⟩ Q):Tr C ops ((c,⟨some d, .call ⟨.value f,ars.toArray,ats⟩,ty,pos,af,g⟩)::rest) ⟨sl,hp⟩ Q:=
  .pv hg hk ⟨known_call ab aa,λρ hf w=>by rw[run_call (C:=C) ab aa hf,hr]⟩ k
theorem Tr.extL(hg:Al ops sl g=true)(hk:okL c d C.N=true)(ab:Ai sl f=some (.func (.func fid) #[] #[]))(aa:evs sl ars=some vs)(hr:∀w,HRep C hp w->(callFunc fid vs.toArray).run C.P w= .ok (.value r) w)
    (k:Tr C ops rest ⟨(d,r)::sl,hp⟩ Q):Tr C ops ((c,⟨some d, .call ⟨.value f,ars.toArray,ats⟩,ty,pos,af,g⟩)::rest) ⟨sl,hp⟩ Q:=
  .ld hg hk ⟨known_call ab aa,λρ hf w hh=>by rw[run_call (C:=C) ab aa hf,hr w hh]⟩ k
end
def Dd(w:World)(b o:Nat)(cs:List Value):Prop:=∀(j:Nat) (v:Value),cs[j]? =some v->w.cell? ⟨b,o+j,none⟩=some v
variable{BT:TypeId}{fn:Func}{n:Nat}{t t2:Tmp}{td:TypeDesc}{v2:Value}{w:World}
theorem Ar{b:Nat}{cs:List Value}{T:TypeId}{m:Nat}(h:HRep C hp w)(hb:(⟨b,cs,T,m⟩:Blk)∈hp):Dd w b 0 cs:=λj v hv=>by
  rw[Lb0];exact(h.cells _ hb).cell (b:=⟨b,cs,T,m⟩) hv
theorem sees_part{b o:Nat}{cs cs':List Value}{T:TypeId}{m:Nat}(h:HRep C hp w)(hb:(⟨b,cs,T,m⟩:Blk)∈hp)(hs:∀(j:Nat) (v:Value),cs'[j]? =some v->cs[o+j]? =some v):Dd w b o cs':=λj v hv=>
  (h.cells _ hb).cell (b:=⟨b,cs,T,m⟩) (hs j v hv)
theorem sees_ext{b o:Nat}{cs:List Value}(h:HRep C hp w)(hb:b∉C.lent)(hs:Dd C.W0 b o cs):Dd w b o cs:=λj v hv=>h.keeps.cell hb (hs j v hv)
theorem Ag{s:St}{v:Value}(hr:fn.results= #[.tmp t])(hv:look s.sl t=some v):Res C fn s v:=by
  intro a w r;have:=r.rs.slots t v hv;simp[results,hr,this]
theorem Bm{s:St}{v v2:Value}(hr:fn.results= #[.tmp t, .tmp t2])(hv:look s.sl t=some v)(aa:look s.sl t2=some v2):Res C fn s (.tuple #[v,v2]):=by
  intro a w r;have h1:=r.rs.slots t v hv;have h2:=r.rs.slots t2 v2 aa;simp[results,hr,h1,h2]
theorem run_cellAll{T:TypeId}{n b:Nat}{cs:List Value}{m:Nat}(hh:HRep C hp w)(hu:C.P.underlying T=some td)(hp':Ci td=false)(hs:Sz C.P T n)(hb:(⟨b,cs,BT,m⟩:Blk)∈hp)(hn:cs.length=n):
    (loadVar T ⟨b,0,none⟩).run C.P w= .ok (agg cs) w:=by
  have:=run_row (P:=C.P) (w:=w) (b:=b) (o:=0) hn λj v hj=>by
    rw[Lb0];exact(hh.cells _ hb).cell (b:=⟨b,cs,BT,m⟩) (o:=j) hj
  simp[loadVar,run_isAgg_arr hu hp',Ch hs,this]
theorem Ax{T:TypeId}{n b:Nat}{cs:List Value}{m:Nat}{s:St}(hr:fn.results= #[.cell t T])(hv:look s.sl t=some (ptr b 0))(hu:C.P.underlying T=some td)(hp':Ci td=false)(hs:Sz C.P T n)(hb:(⟨b,cs,BT,m⟩:Blk)∈s.hp)(hn:cs.length=n):
    Res C fn s (agg cs):=by
  intro a w r;have h1:=r.rs.slots t _ hv;simp[results,hr,h1,asAddr,run_cellAll r.rh hu hp' hs hb hn]
theorem Bg{T:TypeId}{n b:Nat}{cs:List Value}{m:Nat}{s:St}(hr:fn.results= #[.cell t T, .tmp t2])(hv:look s.sl t=some (ptr b 0))(aa:look s.sl t2=some v2)(hu:C.P.underlying T=some td)(hp':Ci td=false)(hs:Sz C.P T n)(hb:(⟨b,cs,BT,m⟩:Blk)∈s.hp)(hn:cs.length=n):
    Res C fn s (.tuple #[agg cs,v2]):=by
  intro a w r;have h1:=r.rs.slots t _ hv;have h2:=r.rs.slots t2 _ aa;simp[results,hr,h1,h2,asAddr,run_cellAll r.rh hu hp' hs hb hn]
theorem run_equalIn_ints{P:Program}(w:World)(d:Nat){t e:TypeId}{kk k:IntKind}(ht:P.underlying t=some (.array n e))(he:P.underlying e=some (.int kk))(hs:Sz P e 1)(xs ys:List Int)(hx:xs.length=n)(hy:ys.length=n):
    (Op.equalIn (d+2) t (agg (xs.map (Value.int k))) (agg (ys.map (Value.int k)))).run P w= .ok (decide (xs=ys)) w:=by
  have key:∀(l:List Nat),(∀i∈l,i<n)->(decide (∀i∈l,xs.getD i 0=ys.getD i 0))=l.all λi=>xs.getD i 0==ys.getD i 0:=by
    intro l _;rw[Lei];simp
  have aa:decide (xs=ys)=(List.range' 0 n 1).all λi=>xs.getD i 0==ys.getD i 0:=by
    rw[<-key _ (λi hi=>by simpa using(Lgy.1 hi).2)];rw[Lei,decide_eq_true_eq,decide_eq_true_eq];constructor
    .rintro rfl i _;rfl
    . intro h
      apply Le7 (hx.trans hy.symm);intro i h1 h2;have:=h i (by rw[Lgy];omega);simpa[List.getD,h1,h2]using this
  rw[aa,Op.equalIn];simp only[Sem.run_bind,run_underlying ht,Result.andThen_ok,Ch hs,Std.Legacy.Range.forIn_eq_forIn_range',Std.Legacy.Range.size,Lgk,Lgs,Lf3];have hl:∀i∈List.range' 0 n 1,i<n:=λi hi=>by simpa using(Lgy.1 hi).2
  generalize List.range' 0 n 1=l at hl ⊢
  induction l with
  |nil=>simp
  | cons i l ih=>
    have hi:i<n:=hl i sP;have pt:∀(zs:List Int),zs.length=n->(part e (zs.map (Value.int k)).toArray (i*1)).run P w= .ok (.int k (zs.getD i 0)) w:=λzs hz=>by
      simp[part,isAgg,run_underlying he,List.getD,La4 (show i<zs.length by omega)]
    have pe:(Op.equalIn (d+1) e (.int k (xs.getD i 0)) (.int k (ys.getD i 0))).run P w= .ok (xs.getD i 0==ys.getD i 0) w:=run_equalIn_int w d e k kk _ _ he;simp only[List.forIn_cons,Sem.run_bind,pt xs hx,pt ys hy,pe,Result.andThen_ok,List.all_cons];cases hb:(xs.getD i 0==ys.getD i 0)
    .simp
    . simp only[Bool.not_true,Bool.false_eq_true,if_false,Sem.run_pure,Result.andThen_ok,Bool.true_and]
      exact ih λj hj=>hl j (by simp[hj])
section
variable{xT yT:TypeId}{x y:Operand}{n:Nat}{E:TypeId}{k:IntKind}{kk:IntKind}
variable{P:Program}{r:Bool}{xs ys:List UInt8}
theorem Tr.binAny{op:BinOp}{v a b:Value}(hg:Al ops sl g=true)(hk:okD c d C.N=true)(hx:Ai sl x=some a)(hy:Ai sl y=some b)
    (he:∀w,(eqGuard op xT x y a b).run C.P w= .ok () w) (hr:∀w,(binOp op xT a b).run C.P w= .ok v w) (k:Tr C ops rest ⟨(d,v)::sl,hp⟩ Q):
    Tr C ops ((c,⟨some d, .binOp op xT x y yT,ty,pos,af,g⟩)::rest) ⟨sl,hp⟩ Q:=
  .pv hg hk ⟨C5 hx hy,λρ hf w=>by
    have h1:=hf x (by simp[Op.operands]);rw[hx]at h1;have h2:=hf y (by simp[Op.operands]);rw[hy]at h2;simp only[La7]at h1 h2;simp[execOp,<-h1,<-h2,he w,hr w]⟩ k
theorem eqb_ints{w:World}{xs ys:List Int}(ht:P.underlying xT=some (.array n E))(he:P.underlying E=some (.int kk))(hs:Sz P E 1)(hx:xs.length=n)(hy:ys.length=n):
    (binOp .eql xT (agg (xs.map (Value.int k))) (agg (ys.map (Value.int k)))).run P w= .ok (.bool (decide (xs=ys))) w/\
    (binOp .neq xT (agg (xs.map (Value.int k))) (agg (ys.map (Value.int k)))).run P w= .ok (.bool (!decide (xs=ys))) w:=by
  rw[run_eql_struct,run_neq_struct,run_equalIn_ints w 9998 ht he hs xs ys hx hy];exact⟨rfl,rfl⟩
theorem bytes_ints(l:List UInt8):Aa l=(l.map λb=>(b.toNat:Int)).map (Value.int .u8):=by simp[Aa]
theorem bytes_inj{a b:List UInt8}:(a.map λb=>(b.toNat:Int))=b.map (λb=>(b.toNat:Int))↔a=b:=by
  refine⟨λh=>?_,λh=>by rw[h]⟩;exact List.map_inj_right (λx y h=>Ldc.1 (by exact_mod_cast h))|>.1 h
theorem Tr.eql_bytes(hg:Al ops sl g=true)(hk:okD c d C.N=true)(hx:Ai sl x=some (agg (Aa xs)))(hy:Ai sl y=some (agg (Aa ys)))(hm:C.P.eqGuardType C.P.depth xT=false)
    (ht:C.P.underlying xT=some (.array n E)) (he:C.P.underlying E=some (.int kk)) (hs:Sz C.P E 1) (aa:xs.length=n) (ab:ys.length=n) {r:Bool} (hr:(decide (xs=ys))=r)
    (k:Tr C ops rest ⟨(d, .bool r)::sl,hp⟩ Q):Tr C ops ((c,⟨some d, .binOp .eql xT x y yT,ty,pos,af,g⟩)::rest) ⟨sl,hp⟩ Q:=
  .binAny hg hk hx hy (λw=>run_eqGuard_agg w .eql xT x y _ _ hm) (λw=>by
    subst hr;have:=(eqb_ints (w:=w) (k:= .u8) ht he hs (xs:=xs.map λb=>(b.toNat:Int)) (ys:=ys.map λb=>(b.toNat:Int)) (by simp[aa]) (by simp[ab])).1;rw[<-bytes_ints,<-bytes_ints]at this;rw[this];simp only[bytes_inj]) k
theorem Tr.neq_bytes(hg:Al ops sl g=true)(hk:okD c d C.N=true)(hx:Ai sl x=some (agg (Aa xs)))(hy:Ai sl y=some (agg (Aa ys)))(hm:C.P.eqGuardType C.P.depth xT=false)
    (ht:C.P.underlying xT=some (.array n E)) (he:C.P.underlying E=some (.int kk)) (hs:Sz C.P E 1) (aa:xs.length=n) (ab:ys.length=n) {r:Bool} (hr:(!decide (xs=ys))=r)
    (k:Tr C ops rest ⟨(d, .bool r)::sl,hp⟩ Q):Tr C ops ((c,⟨some d, .binOp .neq xT x y yT,ty,pos,af,g⟩)::rest) ⟨sl,hp⟩ Q:=
  .binAny hg hk hx hy (λw=>run_eqGuard_agg w .neq xT x y _ _ hm) (λw=>by
    subst hr;have:=(eqb_ints (w:=w) (k:= .u8) ht he hs (xs:=xs.map λb=>(b.toNat:Int)) (ys:=ys.map λb=>(b.toNat:Int)) (by simp[aa]) (by simp[ab])).2;rw[<-bytes_ints,<-bytes_ints]at this;rw[this];simp only[bytes_inj]) k
theorem run_eq_bool{T:TypeId}{a b:Bool}(ht:P.underlying T=some .bool)(w:World):
    (binOp .eql T (.bool a) (.bool b)).run P w= .ok (.bool (a==b)) w/\(binOp .neq T (.bool a) (.bool b)).run P w= .ok (.bool (!(a==b))) w:=by
  have h:(Op.equal T (.bool a) (.bool b)).run P w= .ok (a==b) w:=run_equalIn_bool' w 9999 T a b ht;simp only[binOp,Sem.run_bind,h,Result.andThen_ok];exact⟨rfl,rfl⟩
theorem Tr.eqb{a b:Bool}(hg:Al ops sl g=true)(hk:okD c d C.N=true)(hx:Ai sl x=some (.bool a))(hy:Ai sl y=some (.bool b))(ht:C.P.underlying xT=some .bool)(hr:(a==b)=r)
    (k:Tr C ops rest ⟨(d, .bool r)::sl,hp⟩ Q):Tr C ops ((c,⟨some d, .binOp .eql xT x y yT,ty,pos,af,g⟩)::rest) ⟨sl,hp⟩ Q:=
  .binAny hg hk hx hy (λw=>by simp[eqGuard]) (λw=>hr▸(run_eq_bool ht w).1) k
theorem Tr.neb{a b:Bool}(hg:Al ops sl g=true)(hk:okD c d C.N=true)(hx:Ai sl x=some (.bool a))(hy:Ai sl y=some (.bool b))(ht:C.P.underlying xT=some .bool)(hr:(!(a==b))=r)
    (k:Tr C ops rest ⟨(d, .bool r)::sl,hp⟩ Q):Tr C ops ((c,⟨some d, .binOp .neq xT x y yT,ty,pos,af,g⟩)::rest) ⟨sl,hp⟩ Q:=
  .binAny hg hk hx hy (λw=>by simp[eqGuard]) (λw=>hr▸(run_eq_bool ht w).2) k
def evp(sl:List (Nat×Value)):List (Nat×Operand)->Option (List (Nat×Value))
  | []=>some []
  | (i,x)::l=>match Ai sl x,evp sl l with
    |some v,some vs=>some ((i,v)::vs)
    |_,_=>none
theorem evp_known{sl:List (Nat×Value)}:∀ {l:List (Nat×Operand)} {vs:List (Nat×Value)},evp sl l=some vs->∀p∈l,(Ai sl p.2).isSome
  | [],_,_,x,hx=>by cases hx
  | (i,y)::l,vs,h,x,hx=>by
    simp only[evp]at h;split at h
    . rename_i v ab hv aa
      rcases Lam.1 hx with rfl|hx
      .simp[hv]
      .exact evp_known aa x hx
    .cases h
theorem evp_map{sl:List (Nat×Value)}{ρ:Operand->Value}:∀ {l:List (Nat×Operand)} {vs:List (Nat×Value)},evp sl l=some vs->(∀p∈l,Ai sl p.2=some (ρ p.2))->l.map (λp=>(p.1,ρ p.2))=vs
  | [],vs,h,_=>by simp[evp]at h;simp[<-h]
  | (i,y)::l,vs,h,hf=>by
    simp only[evp]at h;split at h
    . rename_i v ab hv aa
      cases h;have h0:=hf (i,y) La9;rw[hv]at h0;cases h0;rw[Lar,evp_map aa λx hx=>hf x (Laj _ hx)]
    .cases h
theorem Tr.build{T:TypeId}{ps:List (Nat×Operand)}{vs:List (Nat×Value)}{cs:List Value}(hg:Al ops sl g=true)(hk:okD c d C.N=true)(hv:evp sl ps=some vs)(hr:∀w,(Instr.build T vs.toArray).run C.P w= .ok (agg cs) w)
    (k:Tr C ops rest ⟨(d,agg cs)::sl,hp⟩ Q):Tr C ops ((c,⟨some d, .build T ps.toArray,ty,pos,af,g⟩)::rest) ⟨sl,hp⟩ Q:=
  .pv hg hk ⟨λx hx=>by
    simp[Op.operands]at hx;obtain⟨i,hm⟩:=hx;exact evp_known hv _ hm,λρ hf w=>by
    have h2:=evp_map hv λp hp=>hf p.2 (by simp[Op.operands];exact⟨p.1,hp⟩);have e:(ps.toArray.map λ(i,x)=>(i,ρ x))=vs.toArray:=by
      rw[<-h2];simp
    have hw:=hr w;simp only[execOp,e];simp[hw]⟩ k
end
end
end Hw
namespace Go.Proofs.YtbdfihcjddbhaaaGreat
open Go Hw _root_.Go.Proofs.Tryz
theorem Sz2:Sz prog 2 1:=by unfold Sz;kernel_rfl
theorem Sz3:Sz prog 3 1:=by unfold Sz;kernel_rfl
theorem Zr3:Zr prog 3 (i64 0):=by unfold Zr;kernel_rfl
theorem Sz5:Sz prog 5 1:=by unfold Sz;kernel_rfl
theorem Zr5:Zr prog 5 (u8 0):=by unfold Zr;kernel_rfl
theorem Sz25:Sz prog 25 1:=by unfold Sz;kernel_rfl
theorem Sz28:Sz prog 28 32:=by unfold Sz;kernel_rfl
theorem Zr28:Zr prog 28 (agg (Aa (List.replicate 32 0))):=by unfold Zr;kernel_rfl
theorem Sz29:Sz prog 29 32:=by unfold Sz;kernel_rfl
theorem Zr29:Zr prog 29 (agg (Aa (List.replicate 32 0))):=by unfold Zr;kernel_rfl
theorem Sz30:Sz prog 30 1:=by unfold Sz;kernel_rfl
theorem Sz31:Sz prog 31 32:=by unfold Sz;kernel_rfl
theorem Bz:Zr prog 31 (agg (Aa (List.replicate 32 0))):=by unfold Zr;kernel_rfl
theorem Sz32:Sz prog 32 1:=by unfold Sz;kernel_rfl
theorem Zr32:Zr prog 32 (.slice none 0 0):=by unfold Zr;kernel_rfl
theorem Sz33:Sz prog 33 1:=by unfold Sz;kernel_rfl
theorem Zr33:Zr prog 33 (.slice none 0 0):=by unfold Zr;kernel_rfl
theorem Sz34:Sz prog 34 64:=by unfold Sz;kernel_rfl
theorem Zr34:Zr prog 34 (agg (Aa (List.replicate 64 0))):=by unfold Zr;kernel_rfl
theorem Sz35:Sz prog 35 64:=by unfold Sz;kernel_rfl
theorem Zr35:Zr prog 35 (agg (Aa (List.replicate 64 0))):=by unfold Zr;kernel_rfl
theorem Sz37:Sz prog 37 131:=by unfold Sz;kernel_rfl
theorem Sz51:Sz prog 51 1:=by unfold Sz;kernel_rfl
theorem Sz80:Sz prog 80 1:=by unfold Sz;kernel_rfl
theorem Sz81:Sz prog 81 1:=by unfold Sz;kernel_rfl
theorem Sz82:Sz prog 82 1:=by unfold Sz;kernel_rfl
theorem Sz83:Sz prog 83 1:=by unfold Sz;kernel_rfl
theorem Sz84:Sz prog 84 1:=by unfold Sz;kernel_rfl
theorem Sz86:Sz prog 86 7:=by unfold Sz;kernel_rfl
theorem Sz91:Sz prog 91 132:=by unfold Sz;kernel_rfl
theorem Sz94:Sz prog 94 33:=by unfold Sz;kernel_rfl
theorem Sz105:Sz prog 105 0:=by unfold Sz;kernel_rfl
theorem Zr105:Zr prog 105 (agg []):=by unfold Zr;kernel_rfl
theorem Sz109:Sz prog 109 1:=by unfold Sz;kernel_rfl
theorem Sz113:Sz prog 113 163:=by unfold Sz;kernel_rfl
theorem Sz115:Sz prog 115 1:=by unfold Sz;kernel_rfl
theorem Zr115:Zr prog 115 (.nilFunc):=by unfold Zr;kernel_rfl
theorem Sz117:Sz prog 117 1:=by unfold Sz;kernel_rfl
theorem Zr117:Zr prog 117 (.map none):=by unfold Zr;kernel_rfl
theorem Sz119:Sz prog 119 1:=by unfold Sz;kernel_rfl
theorem Zr119:Zr prog 119 (.map none):=by unfold Zr;kernel_rfl
theorem Sz160:Sz prog 160 8:=by unfold Sz;kernel_rfl
theorem Zr160:Zr prog 160 (agg (Aj (List.replicate 8 0))):=by unfold Zr;kernel_rfl
theorem Sz184:Sz prog 184 32:=by unfold Sz;kernel_rfl
theorem A9:Zr prog 184 (agg (Aa (List.replicate 32 0))):=by unfold Zr;kernel_rfl
theorem Sz187:Sz prog 187 64:=by unfold Sz;kernel_rfl
theorem Sz216:Sz prog 216 4:=by unfold Sz;kernel_rfl
theorem Zr216:Zr prog 216 (agg (Aj (List.replicate 4 0))):=by unfold Zr;kernel_rfl
theorem Sz217:Sz prog 217 4:=by unfold Sz;kernel_rfl
theorem Zr217:Zr prog 217 (agg (Aj (List.replicate 4 0))):=by unfold Zr;kernel_rfl
theorem Sz229:Sz prog 229 128:=by unfold Sz;kernel_rfl
theorem Sz240:Sz prog 240 128:=by unfold Sz;kernel_rfl
theorem Sz241:Sz prog 241 80:=by unfold Sz;kernel_rfl
theorem Zr241:Zr prog 241 (agg (Aj (List.replicate 80 0))):=by unfold Zr;kernel_rfl
theorem Sz250:Sz prog 250 10:=by unfold Sz;kernel_rfl
theorem Zr250:Zr prog 250 (agg (Cg (List.replicate 10 0))):=by unfold Zr;kernel_rfl
theorem Sz253:Sz prog 253 30:=by unfold Sz;kernel_rfl
theorem Sz261:Sz prog 261 5:=by unfold Sz;kernel_rfl
theorem Zr261:Zr prog 261 (agg (Aj (List.replicate 5 0))):=by unfold Zr;kernel_rfl
theorem Zr279:Zr prog 279 (agg (Cg (List.replicate 64 0))):=by unfold Zr;kernel_rfl
theorem Sz282:Sz prog 282 2:=by unfold Sz;kernel_rfl
theorem Zr282:Zr prog 282 (agg ([u64 0]++[u64 0])):=by unfold Zr;kernel_rfl
theorem Body9:A0 prog 9:=λ_ _=>zK
theorem Body10:A0 prog 10:=λ_ _=>zK
theorem Body12:A0 prog 12:=λ_ _=>zK
theorem Body16:A0 prog 16:=λ_ _=>zK
theorem Body17:A0 prog 17:=λ_ _=>zK
theorem Body18:A0 prog 18:=λ_ _=>zK
theorem Body19:A0 prog 19:=λ_ _=>zK
theorem Body20:A0 prog 20:=λ_ _=>zK
theorem Body21:A0 prog 21:=λ_ _=>zK
theorem Body22:A0 prog 22:=λ_ _=>zK
theorem Body23:A0 prog 23:=λ_ _=>zK
theorem Body24:A0 prog 24:=λ_ _=>zK
theorem Body25:A0 prog 25:=λ_ _=>zK
theorem Body26:A0 prog 26:=λ_ _=>zK
theorem Body27:A0 prog 27:=λ_ _=>zK
theorem Body28:A0 prog 28:=λ_ _=>zK
theorem Body29:A0 prog 29:=λ_ _=>zK
theorem Body30:A0 prog 30:=λ_ _=>zK
theorem Body31:A0 prog 31:=λ_ _=>zK
theorem Body32:A0 prog 32:=λ_ _=>zK
theorem Body33:A0 prog 33:=λ_ _=>zK
theorem Body34:A0 prog 34:=λ_ _=>zK
theorem Body35:A0 prog 35:=λ_ _=>zK
theorem Body36:A0 prog 36:=λ_ _=>zK
theorem Body37:A0 prog 37:=λ_ _=>zK
theorem Body38:A0 prog 38:=λ_ _=>zK
theorem Body39:A0 prog 39:=λ_ _=>zK
theorem Body41:A0 prog 41:=λ_ _=>zK
theorem Body42:A0 prog 42:=λ_ _=>zK
theorem Body43:A0 prog 43:=λ_ _=>zK
theorem Body44:A0 prog 44:=λ_ _=>zK
theorem Body45:A0 prog 45:=λ_ _=>zK
theorem Body46:A0 prog 46:=λ_ _=>zK
theorem Body47:A0 prog 47:=λ_ _=>zK
theorem Body49:A0 prog 49:=λ_ _=>zK
theorem Body50:A0 prog 50:=λ_ _=>zK
theorem Body51:A0 prog 51:=λ_ _=>zK
theorem Body52:A0 prog 52:=λ_ _=>zK
theorem Body53:A0 prog 53:=λ_ _=>zK
theorem Body57:A0 prog 57:=λ_ _=>zK
theorem Body58:A0 prog 58:=λ_ _=>zK
theorem Body59:A0 prog 59:=λ_ _=>zK
theorem Body60:A0 prog 60:=λ_ _=>zK
theorem Body61:A0 prog 61:=λ_ _=>zK
theorem Body62:A0 prog 62:=λ_ _=>zK
theorem Body63:A0 prog 63:=λ_ _=>zK
theorem Body64:A0 prog 64:=λ_ _=>zK
theorem Body65:A0 prog 65:=λ_ _=>zK
theorem Body66:A0 prog 66:=λ_ _=>zK
theorem Body67:A0 prog 67:=λ_ _=>zK
theorem Body68:A0 prog 68:=λ_ _=>zK
theorem Body69:A0 prog 69:=λ_ _=>zK
theorem Body70:A0 prog 70:=λ_ _=>zK
theorem Body71:A0 prog 71:=λ_ _=>zK
theorem Body72:A0 prog 72:=λ_ _=>zK
theorem Body73:A0 prog 73:=λ_ _=>zK
theorem Body74:A0 prog 74:=λ_ _=>zK
theorem Body75:A0 prog 75:=λ_ _=>zK
theorem Body76:A0 prog 76:=λ_ _=>zK
theorem Body77:A0 prog 77:=λ_ _=>zK
theorem Body78:A0 prog 78:=λ_ _=>zK
theorem Body79:A0 prog 79:=λ_ _=>zK
theorem Body80:A0 prog 80:=λ_ _=>zK
theorem Body81:A0 prog 81:=λ_ _=>zK
theorem Body83:A0 prog 83:=λ_ _=>zK
theorem Body84:A0 prog 84:=λ_ _=>zK
theorem Body85:A0 prog 85:=λ_ _=>zK
theorem Body86:A0 prog 86:=λ_ _=>zK
theorem Body87:A0 prog 87:=λ_ _=>zK
theorem Body88:A0 prog 88:=λ_ _=>zK
theorem Body89:A0 prog 89:=λ_ _=>zK
theorem Body90:A0 prog 90:=λ_ _=>zK
theorem Body93:A0 prog 93:=λ_ _=>zK
theorem Body94:A0 prog 94:=λ_ _=>zK
theorem Body95:A0 prog 95:=λ_ _=>zK
theorem Body96:A0 prog 96:=λ_ _=>zK
theorem Body99:A0 prog 99:=λ_ _=>zK
theorem Body100:A0 prog 100:=λ_ _=>zK
theorem Body101:A0 prog 101:=λ_ _=>zK
theorem Body102:A0 prog 102:=λ_ _=>zK
theorem Body103:A0 prog 103:=λ_ _=>zK
theorem Body104:A0 prog 104:=λ_ _=>zK
theorem Body105:A0 prog 105:=λ_ _=>zK
theorem Body106:A0 prog 106:=λ_ _=>zK
theorem Body107:A0 prog 107:=λ_ _=>zK
theorem Body108:A0 prog 108:=λ_ _=>zK
theorem Body109:A0 prog 109:=λ_ _=>zK
theorem Body111:A0 prog 111:=λ_ _=>zK
theorem Body112:A0 prog 112:=λ_ _=>zK
theorem Body113:A0 prog 113:=λ_ _=>zK
theorem Body114:A0 prog 114:=λ_ _=>zK
theorem Body115:A0 prog 115:=λ_ _=>zK
theorem Body116:A0 prog 116:=λ_ _=>zK
theorem Body117:A0 prog 117:=λ_ _=>zK
theorem Body118:A0 prog 118:=λ_ _=>zK
theorem Body119:A0 prog 119:=λ_ _=>zK
theorem Body120:A0 prog 120:=λ_ _=>zK
theorem Body121:A0 prog 121:=λ_ _=>zK
theorem Body122:A0 prog 122:=λ_ _=>zK
theorem Body123:A0 prog 123:=λ_ _=>zK
theorem Body124:A0 prog 124:=λ_ _=>zK
theorem Body125:A0 prog 125:=λ_ _=>zK
theorem Body126:A0 prog 126:=λ_ _=>zK
theorem Body136:A0 prog 136:=λ_ _=>zK
theorem Body138:A0 prog 138:=λ_ _=>zK
theorem Body147:A0 prog 147:=λ_ _=>zK
theorem Body148:A0 prog 148:=λ_ _=>zK
theorem Body149:A0 prog 149:=λ_ _=>zK
theorem Body150:A0 prog 150:=λ_ _=>zK
theorem Body151:A0 prog 151:=λ_ _=>zK
theorem Body152:A0 prog 152:=λ_ _=>zK
theorem Body153:A0 prog 153:=λ_ _=>zK
theorem Body154:A0 prog 154:=λ_ _=>zK
theorem Body155:A0 prog 155:=λ_ _=>zK
theorem Body156:A0 prog 156:=λ_ _=>zK
theorem Body157:A0 prog 157:=λ_ _=>zK
theorem Body158:A0 prog 158:=λ_ _=>zK
theorem Body159:A0 prog 159:=λ_ _=>zK
theorem Body160:A0 prog 160:=λ_ _=>zK
theorem Body161:A0 prog 161:=λ_ _=>zK
theorem Body162:A0 prog 162:=λ_ _=>zK
theorem Body163:A0 prog 163:=λ_ _=>zK
theorem Body164:A0 prog 164:=λ_ _=>zK
theorem Body165:A0 prog 165:=λ_ _=>zK
theorem Body166:A0 prog 166:=λ_ _=>zK
theorem Body167:A0 prog 167:=λ_ _=>zK
theorem Body168:A0 prog 168:=λ_ _=>zK
theorem Body169:A0 prog 169:=λ_ _=>zK
theorem Body178:A0 prog 178:=λ_ _=>zK
theorem Body179:A0 prog 179:=λ_ _=>zK
theorem Body180:A0 prog 180:=λ_ _=>zK
theorem Body181:A0 prog 181:=λ_ _=>zK
theorem Body182:A0 prog 182:=λ_ _=>zK
theorem Body183:A0 prog 183:=λ_ _=>zK
theorem Body184:A0 prog 184:=λ_ _=>zK
theorem Body185:A0 prog 185:=λ_ _=>zK
theorem Body186:A0 prog 186:=λ_ _=>zK
theorem Body187:A0 prog 187:=λ_ _=>zK
theorem Body188:A0 prog 188:=λ_ _=>zK
theorem Body189:A0 prog 189:=λ_ _=>zK
theorem Body190:A0 prog 190:=λ_ _=>zK
theorem Body191:A0 prog 191:=λ_ _=>zK
theorem Body192:A0 prog 192:=λ_ _=>zK
theorem Body193:A0 prog 193:=λ_ _=>zK
theorem Body194:A0 prog 194:=λ_ _=>zK
theorem Cp:A0 prog 195:=λ_ _=>zK
theorem Body196:A0 prog 196:=λ_ _=>zK
theorem Body197:A0 prog 197:=λ_ _=>zK
theorem Body198:A0 prog 198:=λ_ _=>zK
theorem Body199:A0 prog 199:=λ_ _=>zK
theorem Body200:A0 prog 200:=λ_ _=>zK
theorem Body201:A0 prog 201:=λ_ _=>zK
theorem Body202:A0 prog 202:=λ_ _=>zK
theorem Body203:A0 prog 203:=λ_ _=>zK
theorem Body204:A0 prog 204:=λ_ _=>zK
theorem Body205:A0 prog 205:=λ_ _=>zK
theorem Body206:A0 prog 206:=λ_ _=>zK
theorem Body207:A0 prog 207:=λ_ _=>zK
theorem Body208:A0 prog 208:=λ_ _=>zK
theorem Body209:A0 prog 209:=λ_ _=>zK
theorem Body210:A0 prog 210:=λ_ _=>zK
theorem Body211:A0 prog 211:=λ_ _=>zK
theorem Body212:A0 prog 212:=λ_ _=>zK
theorem Body213:A0 prog 213:=λ_ _=>zK
theorem Body214:A0 prog 214:=λ_ _=>zK
theorem Body215:A0 prog 215:=λ_ _=>zK
theorem Body216:A0 prog 216:=λ_ _=>zK
theorem Body217:A0 prog 217:=λ_ _=>zK
theorem Body218:A0 prog 218:=λ_ _=>zK
theorem Body219:A0 prog 219:=λ_ _=>zK
theorem Body220:A0 prog 220:=λ_ _=>zK
theorem Body223:A0 prog 223:=λ_ _=>zK
theorem Body224:A0 prog 224:=λ_ _=>zK
theorem Body225:A0 prog 225:=λ_ _=>zK
theorem Body226:A0 prog 226:=λ_ _=>zK
theorem Body227:A0 prog 227:=λ_ _=>zK
theorem Body228:A0 prog 228:=λ_ _=>zK
theorem Body229:A0 prog 229:=λ_ _=>zK
theorem Body230:A0 prog 230:=λ_ _=>zK
theorem Body231:A0 prog 231:=λ_ _=>zK
theorem Body232:A0 prog 232:=λ_ _=>zK
theorem Body233:A0 prog 233:=λ_ _=>zK
theorem Body234:A0 prog 234:=λ_ _=>zK
theorem Body235:A0 prog 235:=λ_ _=>zK
theorem Body236:A0 prog 236:=λ_ _=>zK
theorem Body237:A0 prog 237:=λ_ _=>zK
theorem Body238:A0 prog 238:=λ_ _=>zK
theorem Body239:A0 prog 239:=λ_ _=>zK
theorem Body240:A0 prog 240:=λ_ _=>zK
theorem Body241:A0 prog 241:=λ_ _=>zK
theorem Body242:A0 prog 242:=λ_ _=>zK
theorem Body243:A0 prog 243:=λ_ _=>zK
theorem Body244:A0 prog 244:=λ_ _=>zK
theorem Body245:A0 prog 245:=λ_ _=>zK
theorem Body246:A0 prog 246:=λ_ _=>zK
theorem Body247:A0 prog 247:=λ_ _=>zK
theorem Body248:A0 prog 248:=λ_ _=>zK
theorem Body249:A0 prog 249:=λ_ _=>zK
theorem Body250:A0 prog 250:=λ_ _=>zK
theorem Body251:A0 prog 251:=λ_ _=>zK
theorem Body252:A0 prog 252:=λ_ _=>zK
theorem Body253:A0 prog 253:=λ_ _=>zK
theorem Body254:A0 prog 254:=λ_ _=>zK
theorem Body255:A0 prog 255:=λ_ _=>zK
theorem Body256:A0 prog 256:=λ_ _=>zK
theorem Body257:A0 prog 257:=λ_ _=>zK
theorem Body258:A0 prog 258:=λ_ _=>zK
theorem Body259:A0 prog 259:=λ_ _=>zK
theorem Body260:A0 prog 260:=λ_ _=>zK
theorem Body261:A0 prog 261:=λ_ _=>zK
theorem Body262:A0 prog 262:=λ_ _=>zK
theorem Body263:A0 prog 263:=λ_ _=>zK
theorem Body264:A0 prog 264:=λ_ _=>zK
theorem Body265:A0 prog 265:=λ_ _=>zK
theorem Body266:A0 prog 266:=λ_ _=>zK
theorem Body267:A0 prog 267:=λ_ _=>zK
theorem Body268:A0 prog 268:=λ_ _=>zK
theorem Body269:A0 prog 269:=λ_ _=>zK
theorem Body270:A0 prog 270:=λ_ _=>zK
theorem Body271:A0 prog 271:=λ_ _=>zK
theorem Body272:A0 prog 272:=λ_ _=>zK
theorem Body273:A0 prog 273:=λ_ _=>zK
theorem Body274:A0 prog 274:=λ_ _=>zK
theorem C7:A0 prog 275:=λ_ _=>zK
theorem Body276:A0 prog 276:=λ_ _=>zK
theorem Body277:A0 prog 277:=λ_ _=>zK
theorem Body278:A0 prog 278:=λ_ _=>zK
theorem Body279:A0 prog 279:=λ_ _=>zK
theorem Body280:A0 prog 280:=λ_ _=>zK
theorem Body281:A0 prog 281:=λ_ _=>zK
theorem Body282:A0 prog 282:=λ_ _=>zK
theorem Body283:A0 prog 283:=λ_ _=>zK
theorem Au:prog.follows .mixedOrders=true:=by kernel_rfl
end Go.Proofs.YtbdfihcjddbhaaaGreat
namespace Hw
open Go Go.RowKit
def shr8(x:UInt8)(n:Nat):UInt8:=UInt8.ofNat (x.toNat/2^n)
theorem shr8_toNat(x:UInt8)(n:Nat):(shr8 x n).toNat=x.toNat/2^n:=by
  have h:x.toNat/2^n<=x.toNat:=Ldd _ _;have:=x.toNat_lt;rw[shr8,Lb9,Lal oM]
theorem shr8_eq(x:UInt8)(n:Nat):((x.toNat:Int).fdiv (2^n))=((shr8 x n).toNat:Int):=by
  rw[shr8_toNat];have e:((2:Int)^n)=((2^n:Nat):Int):=by simp
  rw[e,Lfp _ (Leo _)];simp
theorem rem8_eq(x:UInt8)(n:Nat)(h:0<n):((x.toNat:Int).tmod (n:Int))=((UInt8.ofNat (x.toNat%n)).toNat:Int):=by
  have:=x.toNat_lt;have h2:x.toNat%n<=x.toNat:=Nat.mod_le _ _;rw[Int.tmod_eq_emod_of_nonneg (Leo _),Lb9,Lal oM];simp
theorem sub8_eq(x y:UInt8):IntKind.u8.wrap ((x.toNat:Int)-y.toNat)=((x-y).toNat:Int):=by
  have:=x.toNat_lt;have:=y.toNat_lt;rw[IntKind.wrap_u8,UInt8.toNat_sub];omega
section
variable{C:Cx}{ops:Array Oper}{rest:List (Nat×Oper)}{sl:List (Nat×Value)}{hp:List Blk}{Q:St->Prop}{c d:Nat}{ty:TypeId}{pos:String}{af:Array Edge}{g:Option (Nat×Bool)}
variable{xT yT:TypeId}{x y:Operand}{a b:Int}{p q:UInt8}
theorem Tr.shr_u8{ky:IntKind}(hg:Al ops sl g=true)(hk:okD c d C.N=true)(hx:Ai sl x=some (u8 p))(hy:Ai sl y=some (.int ky b))(n:Nat)(hn:b=n)(hr:n<=8)
    (k:Tr C ops rest ⟨(d,u8 (shr8 p n))::sl,hp⟩ Q):Tr C ops ((c,⟨some d, .binOp .shr xT x y yT,ty,pos,af,g⟩)::rest) ⟨sl,hp⟩ Q:=
  .bin hg hk hx hy (λw=>by
    subst hn;simp only[binOp,Op.shift,IntKind.bits];rw[if_neg oM,Lez,Lc6 hr,shr8_eq];rfl) k
theorem Tr.and_u8(hg:Al ops sl g=true)(hk:okD c d C.N=true)(hx:Ai sl x=some (u8 p))(hy:Ai sl y=some (u8 q))
    (k:Tr C ops rest ⟨(d,u8 (p&&&q))::sl,hp⟩ Q):Tr C ops ((c,⟨some d, .binOp .and xT x y yT,ty,pos,af,g⟩)::rest) ⟨sl,hp⟩ Q:=
  .bin hg hk hx hy (λw=>congrArg (λn=>Result.ok (Value.int .u8 n) w) (bits8 (· &&& ·) (· &&& ·) (λ_ _=>rfl) p q)) k
theorem Tr.rem_u8(hg:Al ops sl g=true)(hk:okD c d C.N=true)(hx:Ai sl x=some (u8 p))(hy:Ai sl y=some (.int .u8 b))(n:Nat)(hn:b=n)(h0:0<n)
    (k:Tr C ops rest ⟨(d,u8 (UInt8.ofNat (p.toNat%n)))::sl,hp⟩ Q):Tr C ops ((c,⟨some d, .binOp .rem xT x y yT,ty,pos,af,g⟩)::rest) ⟨sl,hp⟩ Q:=
  .bin hg hk hx hy (λw=>by
    subst hn;simp[binOp,Op.intDiv,show ¬n=0 by omega];exact rem8_eq p n h0) k
theorem Tr.sub_u8(hg:Al ops sl g=true)(hk:okD c d C.N=true)(hx:Ai sl x=some (u8 p))(hy:Ai sl y=some (u8 q))
    (k:Tr C ops rest ⟨(d,u8 (p-q))::sl,hp⟩ Q):Tr C ops ((c,⟨some d, .binOp .sub xT x y yT,ty,pos,af,g⟩)::rest) ⟨sl,hp⟩ Q:=
  .bin hg hk hx hy (λw=>by simp only[binOp,Op.intArith,sub8_eq];rfl) k
end
def By(P:Program)(T:TypeId)(n:Nat):Prop:=(P.info? T).map (·.bytes)=some n
theorem Ret.push{w:World}(cs:List Value)(T:TypeId):Ret [] [blk w.heap.size cs T] w { w with heap:=w.heap.push (.cells cs.toArray T) }:=by
  refine⟨⟨rfl,rfl,rfl,by simp,Lag _,λk hk _=>?_⟩,λb hb=>?_,by simp,λb hb=>?_⟩
  . simp only[Lc9]
    rw[if_neg oM]
  . obtain rfl:=La1.1 hb
    exact⟨cs.toArray,(0,0),by simp,by simp,by simp,free0⟩
  . obtain rfl:=La1.1 hb
    exact .inl (Lag _)
section
variable{C:Cx}{ops:Array Oper}{rest:List (Nat×Oper)}{sl:List (Nat×Value)}{hp:List Blk}{Q:St->Prop}{c d:Nat}{ty:TypeId}{pos:String}{af:Array Edge}{g:Option (Nat×Bool)}{op:Op}
theorem Tr.newBg{cs:List Value}{T:TypeId}(val:Nat->Value)(hg:Al ops sl g=true)(hk:okN c d C.N=true)(hn:Known sl ⟨some d,op,ty,pos,af,g⟩)
    (hr:∀ρ,Fits sl ⟨some d,op,ty,pos,af,g⟩ ρ->∀w,(execOp ρ ⟨some d,op,ty,pos,af,g⟩).run C.P w= .ok (.value (val w.heap.size)) { w with heap:=w.heap.push (.cells cs.toArray T) })
    (k:∀n,Tr C ops rest ⟨(d,val n)::sl,blk n cs T::hp⟩ Q):Tr C ops ((c,⟨some d,op,ty,pos,af,g⟩)::rest) ⟨sl,hp⟩ Q:=by
  simp only[okN,Lap,Lc8]at hk;exact .new val cs T (hk.1.imp De De) (A2 hg) (Cb (nblt hk.2)) ⟨hn,hr⟩ λn _ _=>k n
theorem Tr.growB{cs:List Value}{T:TypeId}(val:Nat->Value)(hg:Al ops sl g=true)(hk:okG c d C.N=true)(hn:Known sl ⟨some d,op,ty,pos,af,g⟩)
    (hr:∀ρ,Fits sl ⟨some d,op,ty,pos,af,g⟩ ρ->∀w,(execOp ρ ⟨some d,op,ty,pos,af,g⟩).run C.P w= .ok (.value (val w.heap.size)) { w with heap:=w.heap.push (.cells cs.toArray T) })
    (k:∀n,Tr C ops rest ⟨(d,val n)::sl,blk n cs T::hp⟩ Q):Tr C ops ((c,⟨some d,op,ty,pos,af,g⟩)::rest) ⟨sl,hp⟩ Q:=by
  simp only[okG,Lap,Lc8]at hk;refine Tr.grow (ρ:=Nat) (λ_=>True) val (λn=>[blk n cs T]) (hk.1.imp De De) (A2 hg) (Cb (nblt hk.2)) ⟨hn,λl hl=>?_,λa w hf hh=>?_⟩ (λn _=>k n)
  . obtain⟨n,_,hf⟩:=fresh_is 0 l
    refine⟨n,trivial,?_⟩;simp only[Lcg,Lar,Lb6];exact⟨λh=>by obtain⟨b,hb,e⟩:=La6.1 h;exact hf b hb e,hl⟩
  . unfold Oper.wp
    rw[hr a.eval hf w];exact⟨w.heap.size,trivial,rfl,Ret.push cs T⟩
theorem row_eq(n:Nat)(z:Value)(hz:z.cells= #[z]):(Array.range n).map (λj=>z.cells[j%z.cells.size]!)=Array.replicate n z:=by
  apply Array.ext
  .simp
  . intro i h1 h2
    simp[hz,Lfx]
theorem Tr.mkSlice{T E:TypeId}{x y:Operand}{kx ky:IntKind}{z:Value}{by':Nat}(n:Nat)(hg:Al ops sl g=true)(hk:okG c d C.N=true)(hx:Ai sl x=some (.int kx (n:Int)))(hy:Ai sl y=some (.int ky (n:Int)))
    (hu:C.P.underlying T=some (.slice E)) (hs:Sz C.P E 1) (hz:Zr C.P E z) (hb:By C.P E by') (hc:z.cells= #[z]) (h0:0<n) (hn:n<=1000000) (aa:by'<=64)
    (k:∀m,Tr C ops rest ⟨(d, .slice (some ⟨m,0,none⟩) n n)::sl,blk m (List.replicate n z) E::hp⟩ Q):Tr C ops ((c,⟨some d, .makeSlice T x y,ty,pos,af,g⟩)::rest) ⟨sl,hp⟩ Q:=by
  refine Tr.growB (λm=> .slice (some ⟨m,0,none⟩) n n) hg hk (C5 hx hy) (λρ hf w=>?_) k;have h1:=hf x (by simp[Op.operands]);rw[hx]at h1;have h2:=hf y (by simp[Op.operands]);rw[hy]at h2;simp only[La7]at h1 h2;have rs:=Ch hs;unfold Sz at hs;unfold Zr at hz;unfold By at hb;cases hi:C.P.info? E with
  |none=>rw[hi]at hs;simp at hs
  | some i=>
    rw[hi]at hs hz hb;simp only[Lbj,La7,Lbx]at hs hz hb;have wn:IntKind.i64.wrap (n:Int)=n:=i64_wrap oM;have hm:by'*n<=64*1000000:=Ld1 aa hn;have ab:((by':Int)*n)=((by'*n:Nat):Int):=by simp
    have n1:¬((n:Int)<0):=by omega
    have n2:¬(281474976710656<(i.bytes:Int)*n):=by rw[hb,ab];omega
    have n5:¬(140737488355328<n*i.bytes):=by rw[hb,Lbk];omega
    have n6:¬(n=0):=by omega
    simp[execOp,Instr.makeSlice,run_underlying hu,asInt,asIntOf,typeInfo,hi,rs,zeroValue,hz,<-h1,<-h2,wn,n1,n2,n5,n6,newRow,newObj,askRoom,roomBytes,row_eq n z hc];simp[Sem.run]
variable{x lo hi:Operand}{b o n cap j:Nat}{T E:TypeId}{kl:IntKind}{l:Int}
theorem Tr.sliceLoNil{sz:Nat}(hg:Al ops sl g=true)(hk:okD c d C.N=true)(hx:Ai sl x=some (.slice none 0 0))(hl:Ai sl lo=some (.int kl 0))
    (hu:C.P.underlying T=some (.slice E)) (hs:Sz C.P E sz)
    (k:Tr C ops rest ⟨(d, .slice none 0 0)::sl,hp⟩ Q):Tr C ops ((c,⟨some d, .slice T x (some lo) none none,ty,pos,af,g⟩)::rest) ⟨sl,hp⟩ Q:=
  .pv hg hk ⟨by simpa[Known,Op.operands]using C5 hx hl,λρ aa w=>by
    have h1:=aa x (by simp[Op.operands]);rw[hx]at h1;have h2:=aa lo (by simp[Op.operands]);rw[hl]at h2;simp only[La7]at h1 h2;simp[execOp,Instr.sliceAt,Instr.slice,<-h1,<-h2,run_underlying hu,Instr.sliceBounds,Instr.sliceBound,asIntOf,Ch hs]⟩ k
end
variable{B:Blk}
theorem A4{l:List Blk}:(B::l).Perm (B::l):=Lco _
theorem rem_there{B x:Blk}{l l':List Blk}(h:l.Perm (B::l')):(x::l).Perm (B::x::l'):=(List.Perm.cons x h).trans (List.Perm.swap B x l')
theorem Ret.pushD{w:World}(cs:List Value)(full:Array Value)(T:TypeId)(m:Nat)(hm:full.size=m)(hp:cs<+:full.toList):Ret [] [⟨w.heap.size,cs,T,m⟩] w (w.drew.alloc (.cells full T)):=by
  refine⟨⟨rfl,rfl,rfl,by show w.heap.size<=(w.heap.push _).size;simp,Nat.le_succ _,λk hk _=>?_⟩,λb hb=>?_,by simp,λb hb=>?_⟩
  . show(w.heap.push _)[k]? =w.heap[k]?
    rw[Lc9,if_neg oM]
  . obtain rfl:=La1.1 hb
    exact⟨full,(0,0),by show(w.heap.push _)[w.heap.size]? =_;simp,hm,hp,free0⟩
  . obtain rfl:=La1.1 hb
    exact .inl (Lag _)
theorem zeroCells_one(z:Value)(hz:z.cells= #[z])(n:Nat):Builtin.zeroCells z.cells n=(List.replicate n z).toArray:=by
  unfold Builtin.zeroCells;apply Array.ext
  .simp[hz]
  . intro i h1 h2
    simp[hz,Lfx]
section
variable{C:Cx}{ops:Array Oper}{rest:List (Nat×Oper)}{sl:List (Nat×Value)}{hp hp':List Blk}{Q:St->Prop}{c d:Nat}{ty:TypeId}{pos:String}{af:Array Edge}{g:Option (Nat×Bool)}
variable{news olds:List Value}{z:Value}
theorem Tr.appendCore{x y:Operand}{b n cap m size cm:Nat}{T tx E:TypeId}{v:Value}{zs:Nat->Array Value}(hg:Al ops sl g=true)(hc:Nat.beq c 4=true)(hd:Nat.blt d C.N=true)
    (hx:Ai sl x=some (.slice (some ⟨b,0,none⟩) n cap)) (hy:Ai sl y=some v) (aj:∀k,(zs k).size=k*size)
    (hp1:hp.Perm (⟨b,olds,E,cm⟩::hp')) (am:cm=cap*size) (ah:olds.length=n*size) (ak:news.length=m*size) (ar:n<=cap)
    (ag:∀w full fr,HRep C hp w->w.heap[b]? =some (.cells full E fr)->full.size=cap*size->Free fr (cap*size)->n+m<=cap->(Builtin.append_ #[T,tx] ty #[.slice (some ⟨b,0,none⟩) n cap,v]).run C.P w= .ok (.slice (some ⟨b,0,none⟩) (n+m) cap) (setBlk w b (Ck full (n*size) news) E fr))
    (ae:∀w,HRep C hp w->cap<n+m->(Builtin.append_ #[T,tx] ty #[.slice (some ⟨b,0,none⟩) n cap,v]).run C.P w= .ok (.slice (some ⟨w.heap.size,0,none⟩) (n+m) (grownCap w (n+m) cap E)) (w.drew.alloc (.cells ((olds++news).toArray++zs (grownCap w (n+m) cap E-(n+m))) E)))
    (k:∀q ac,n+m<=ac->Tr C ops rest ⟨(d, .slice (some ⟨q,0,none⟩) (n+m) ac)::sl,⟨q,olds++news,E,ac*size⟩::hp'⟩ Q):
    Tr C ops ((c,⟨some d, .call { callee:= .builtin .append,args:= #[x,y],argTypes:= #[T,tx] },ty,pos,af,g⟩)::rest) ⟨sl,hp⟩ Q:=by
  subst am;refine Tr.act (ρ:=Nat×Nat) (λr=>n+m<=r.2) (λr=> .slice (some ⟨r.1,0,none⟩) (n+m) r.2) (λr=>⟨r.1,olds++news,E,r.2*size⟩::hp') (De hc) (A2 hg) (Cb (nblt hd))
    ⟨by simpa[Known,Op.operands,Call.operands]using C5 hx hy,λa w hf hh=>?_⟩ (λr hr=>k r.1 r.2 hr)
  have h1:=hf x (by simp[Op.operands,Call.operands]);rw[hx]at h1;have h2:=hf y (by simp[Op.operands,Call.operands]);rw[hy]at h2;simp only[La7]at h1 h2;have ab:=hh.perm hp1;obtain⟨full,fr,aa⟩:=ab.cells _ La9;have aq:=(ab.cells _ La9).lt;have ap:(n+m)*size=n*size+m*size:=Lcf _ _ _;unfold Oper.wp;rcases Lb5 cap (n+m)with hr|hr
  . have ad:(execOp a.eval ⟨some d, .call { callee:= .builtin .append,args:= #[x,y],argTypes:= #[T,tx] },ty,pos,af,g⟩).run C.P w= .ok (.value (.slice (some ⟨w.heap.size,0,none⟩) (n+m) (grownCap w (n+m) cap E))) (w.drew.alloc (.cells ((olds++news).toArray++zs (grownCap w (n+m) cap E-(n+m))) E)):=by
      simp[execOp,resolve,invoke,builtin,<-h1,<-h2,ae w hh hr]
    rw[ad];have an:=grownCap_ge w (n+m) cap E;refine⟨(w.heap.size,grownCap w (n+m) cap E),an,rfl,?_⟩;have ao:(hp'.map (·.n)).Nodup:=by
      have:=ab.nodup;simp only[Lar,Lb6]at this;exact this.2
    refine HRep.grown (out:=[_]) (ab.sub (λx hx=>Laj _ hx) ao) (Ret.pushD _ _ _ _ ?_ ?_)
    . have e:grownCap w (n+m) cap E*size=(n+m)*size+(grownCap w (n+m) cap E-(n+m))*size:=by rw[<-Lcf];congr 1;omega
      simp only[Array.size_append,Lfm,La2,aj,ah,ak,e,ap]
    .simp
  . have ad:(execOp a.eval ⟨some d, .call { callee:= .builtin .append,args:= #[x,y],argTypes:= #[T,tx] },ty,pos,af,g⟩).run C.P w= .ok (.value (.slice (some ⟨b,0,none⟩) (n+m) cap)) (setBlk w b (Ck full (n*size) news) E fr):=by
      simp[execOp,resolve,invoke,builtin,<-h1,<-h2,ag w full fr hh aa.heap aa.size aa.free hr]
    rw[ad];have au:(n+m)*size<=cap*size:=Les _ hr;have ai:=aa.size;simp only at ai;refine⟨(b,cap),hr,rfl,ab.upd (.head (cs:=olds)) aq (by rw[putAll_size];exact ai) ?_ aa.free⟩;refine prefix_iff.2 λj u hj=>?_;rw[Le3,putAll_get _ _ _ _ oM];rcases Lb5 j (n*size)with hjn|hjn
    . rw[if_neg oM]
      rw[Lb1 oM]at hj;simpa using prefix_iff.1 aa.pre j u hj
    . rw[Lb2 oM,ah]at hj
      have:j-n*size<news.length:=by
        rcases Lb5 (j-n*size) news.length with h|h
        .exact h
        .rw[Lav h]at hj;cases hj
      rw[if_pos oM];exact hj
theorem Tr.appendOwn{x y:Operand}{b n cap m size cm by':Nat}{T tx E:TypeId}{v z:Value}(hg:Al ops sl g=true)(hc:Nat.beq c 4=true)(hd:Nat.blt d C.N=true)
    (hx:Ai sl x=some (.slice (some ⟨b,0,none⟩) n cap)) (hy:Ai sl y=some v) (hu:C.P.underlying T=some (.slice E)) (hs:Sz C.P E size) (hz:Zr C.P E z) (hb:By C.P E by') (aj:z.cells.size=size)
    (ab:∀w,HRep C hp w->Src C.P size tx v m news w) (ac:∀u∈news,isCell u=true)
    (hp1:hp.Perm (⟨b,olds,E,cm⟩::hp')) (am:cm=cap*size) (ad:olds.length=n*size) (ai:n<=cap) (ap:n+m<=1000000) (ag:(n+m)*by'<=140737488355328)
    (ah:news.length=m*size)
    (k:∀q aa,n+m<=aa->Tr C ops rest ⟨(d, .slice (some ⟨q,0,none⟩) (n+m) aa)::sl,⟨q,olds++news,E,aa*size⟩::hp'⟩ Q):
    Tr C ops ((c,⟨some d, .call { callee:= .builtin .append,args:= #[x,y],argTypes:= #[T,tx] },ty,pos,af,g⟩)::rest) ⟨sl,hp⟩ Q:=by
  unfold Sz at hs;unfold Zr at hz;unfold By at hb;cases hi:C.P.info? E with
  |none=>rw[hi]at hs;simp at hs
  | some i=>
    rw[hi]at hs hz hb;simp only[Lbj,La7,Lbx]at hs hz hb;subst hs;refine Tr.appendCore (zs:=λk=>Builtin.zeroCells z.cells k) hg hc hd hx hy (λk=>by simp[Builtin.zeroCells,aj]) hp1 am ad ah ai (λw full fr hh ao an ak hr=>?_) (λw hh hr=>?_) k
    . have hS:=ab w hh
      have ar:(n+m)*i.size<=cap*i.size:=Les _ hr;have aq:(n+m)*i.size=n*i.size+m*i.size:=Lcf _ _ _;have ae:=run_storeCells (P:=C.P) (b:=b) (o:=n*i.size) news 0 w full ao oM (by rw[an];exact ak) ac;simp only[Lc7]at ae;rcases hS.kind with ⟨e',hk⟩|hk<;>simp[Builtin.append_,run_underlying hu,run_underlying hk,Go.sizeOf,typeInfo,hi,hS.len,hr,hS.cells,B5,ae]
    . have hS:=ab w hh
      have hold:(Builtin.firstCells i.size n (.slice (some ⟨b,0,none⟩) n cap)).run C.P w.drew= .ok olds.toArray w.drew:=by
        refine run_firstCells_some w.drew i.size n ⟨b,0,none⟩ n cap olds ad (λj u hj=>?_);rw[B5];have:=((hh.perm hp1).cells _ La9).cell (o:=0+j) (v:=u) (by simpa using hj);simpa using this
      exact run_append_grow_src (P:=C.P) w T tx ty E i z hu hi hz (some ⟨b,0,none⟩) n cap olds hold v m news hS hr oM (growslice_fits hr (by rw[hb];exact ag))
theorem one_of_cell{u:Value}(h:isCell u=true):u.oneCell'=true:=by cases u<;>simp[isCell]at h<;>rfl
theorem Tr.appendMade{x y:Operand}{b n cap m cm by':Nat}{T tx E:TypeId}{kt kv:IntKind}{mi:Int}(hg:Al ops sl g=true)(hc:Nat.beq c 4=true)(hd:Nat.blt d C.N=true)
    (hx:Ai sl x=some (.slice (some ⟨b,0,none⟩) n cap)) (hy:Ai sl y=some (.int kv mi)) (am:mi=m) (hu:C.P.underlying T=some (.slice E)) (ac:C.P.underlying tx=some (.int kt)) (hs:Sz C.P E 1) (hz:Zr C.P E z) (hb:By C.P E by') (ai:z.cells= #[z]) (ad:isCell z=true)
    (hp1:hp.Perm (⟨b,olds,E,cm⟩::hp')) (av:cm=cap) (au:olds.length=n) (ah:n<=cap) (aj:n+m<=1000000) (ao:by'<=64)
    (k:∀q aa,n+m<=aa->Tr C ops rest ⟨(d, .slice (some ⟨q,0,none⟩) (n+m) aa)::sl,⟨q,olds++List.replicate m z,E,aa⟩::hp'⟩ Q):
    Tr C ops ((c,⟨some d, .call { callee:= .builtin .append,args:= #[x,y],argTypes:= #[T,tx] },ty,pos,af,g⟩)::rest) ⟨sl,hp⟩ Q:=by
  subst am;unfold Sz at hs;unfold Zr at hz;unfold By at hb;cases hi:C.P.info? E with
  |none=>rw[hi]at hs;simp at hs
  | some i=>
    rw[hi]at hs hz hb;simp only[Lbj,La7,Lbx]at hs hz hb;have wm:IntKind.i64.wrap (m:Int)=m:=i64_wrap oM;have hm:by'*m<=64*1000000:=Ld1 ao oM;have aq:(m:Int)*by'=((by'*m:Nat):Int):=by rw[Int.mul_comm];simp
    have n1:¬((m:Int)<0):=by omega
    have n2:¬(281474976710656<(m:Int)*i.bytes):=by rw[hb,aq];omega
    have rz:=zeroCells_one z ai;refine Tr.appendCore (size:=1) (news:=List.replicate m z) (m:=m) (zs:=λk=>Builtin.zeroCells z.cells k) hg hc hd hx hy (λk=>by simp[Builtin.zeroCells,ai]) hp1 oM oM sP ah (λw full fr hh ap ak an hr=>?_) (λw hh hr=>?_) (λq aa h=>by simpa using k q aa h)
    . have ab:=run_storeCells (P:=C.P) (b:=b) (o:=n) (List.replicate m z) 0 w full ap (by simp;omega) (by rw[ak];exact an) (λu hu=>by rw[List.eq_of_mem_replicate hu];exact ad)
      simp only[Lc7]at ab;by_cases h0:m=0
      . subst h0
        simp[storeCells]at ab;have w0:IntKind.i64.wrap 0=0:=by decide
        simp[Builtin.append_,run_underlying hu,run_underlying ac,Go.sizeOf,typeInfo,hi,hs,asInt,asIntOf,w0,n1,n2,ah,B5,storeCells,Ck];exact ab
      .simp[Builtin.append_,run_underlying hu,run_underlying ac,Go.sizeOf,typeInfo,hi,hs,asInt,asIntOf,wm,n1,n2,hr,B5,zeroValue,hz,h0,rz,ab]
    . have hold:(Builtin.firstCells 1 n (.slice (some ⟨b,0,none⟩) n cap)).run C.P w.drew= .ok olds.toArray w.drew:=by
        refine run_firstCells_some w.drew 1 n ⟨b,0,none⟩ n cap olds oM (λj u hj=>?_);rw[B5];have:=((hh.perm hp1).cells _ La9).cell (o:=0+j) (v:=u) (by simpa using hj);simpa using this
      have h0:¬m=0:=by omega
      have hn:¬(n+m<=cap):=by omega
      have ar:=growslice_fits (bytes:=i.bytes) hr (by
        have:(n+m)*i.bytes<=1000000*64:=Ld1 aj oM;omega)
      have ae:¬(9223372036854775807<((n:Int)+(m:Int))):=by omega
      have ag:¬(281474976710656<Builtin.nextslicecap (n+m) cap*i.bytes):=by omega
      simp[Builtin.append_,run_underlying hu,run_underlying ac,Go.sizeOf,typeInfo,hi,hs,asInt,asIntOf,wm,n1,n2,hn,B5,zeroValue,hz,h0,rz,ae,ag,Question.forced,hold,newRow,grownCap];congr 2;apply Array.ext';simp[Lab]
end
variable{p:Option Addr}{w:World}
theorem two{c:Bool}{K:Bool->Prop}{G:Prop}(aa:∀r,c=r->K r->G)(t:c=true->K true)(f:c=false->K false):G:=by
  cases h:c
  .exact aa false h (f h)
  .exact aa true h (t h)
theorem nd_t{p:Prop}[Decidable p](h:(!decide p)=true):¬p:=by simpa using h
theorem nd_f{p:Prop}[Decidable p](h:(!decide p)=false):p:=by simpa using h
structure Sl where
  p:Option Addr
  n:Nat
  c:Nat
def Sl.v(s:Sl):Value:= .slice s.p s.n s.c
def Sl.nil:Sl:=⟨none,0,0⟩
def SeesP(w:World)(p:Option Addr)(cs:List Value):Prop:=∀(j:Nat) (v:Value),cs[j]? =some v->∃b o,p=some ⟨b,o,none⟩/\w.cell? ⟨b,o+j,none⟩=some v
theorem SeesP.of{b o:Nat}{cs:List Value}(h:Dd w b o cs):SeesP w (some ⟨b,o,none⟩) cs:=λj v hj=>⟨b,o,rfl,h j v hj⟩
theorem SeesP.nil:SeesP w p []:=λj v hj=>by simp at hj
theorem SeesP.at{w:World}{p:Option Addr}{cs:List Value}(h:SeesP w p cs)(hl:0<cs.length):∃b o,p=some ⟨b,o,none⟩/\Dd w b o cs:=by
  obtain⟨b,o,rfl,_⟩:=h 0 _ (La4 hl);refine⟨b,o,rfl,λj v hj=>?_⟩;obtain⟨b',o',e,hc⟩:=h j v hj;simp only[La7,Addr.mk.injEq]at e;obtain⟨rfl,rfl,_⟩:=e;exact hc
theorem A8{C:Cx}{hp:List Blk}{cs:List Value}(h:HRep C hp w)(hl:C.lent=[])(hs:SeesP C.W0 p cs):SeesP w p cs:=λj v hj=>by
  obtain⟨b,o,rfl,hc⟩:=hs j v hj;exact⟨b,o,rfl,h.keeps.cell (by rw[hl];simp) hc⟩
section
variable{C:Cx}{ops:Array Oper}{rest:List (Nat×Oper)}{sl:List (Nat×Value)}{hp:List Blk}{Q:St->Prop}{c d:Nat}{ty:TypeId}{pos:String}{af:Array Edge}{g:Option (Nat×Bool)}
theorem Tr.callB{f:Operand}{fid:FuncId}{ars:List Operand}{ats:Array TypeId}{vs:List Value}{Pre:World->Prop}{b:Bool}(hg:Al ops sl g=true)(hk:okG c d C.N=true)(ac:Ai sl f=some (.func (.func fid) #[] #[]))(aa:evs sl ars=some vs)(hb:A0 C.P fid)
    (hc:Meets C.P fid vs [] Pre λv out=>v= .bool b/\out=[]) (ab:∀w,HRep C hp w->Pre w)
    (kt:b=true->Tr C ops rest ⟨(d, .bool true)::sl,hp⟩ Q) (kf:b=false->Tr C ops rest ⟨(d, .bool false)::sl,hp⟩ Q):Tr C ops ((c,⟨some d, .call ⟨.value f,ars.toArray,ats⟩,ty,pos,af,g⟩)::rest) ⟨sl,hp⟩ Q:=by
  cases b
  .exact Tr.cV hg hk ac aa hb hc ab (kf rfl)
  .exact Tr.cV hg hk ac aa hb hc ab (kt rfl)
theorem Tr.idxSlP{xT E:TypeId}{x y:Operand}{ki:IntKind}{i:Int}{p:Option Addr}{b o n cap:Nat}(sz:Nat)(hg:Al ops sl g=true)(hk:okD c d C.N=true)(hx:Ai sl x=some (.slice p n cap))(hp':p=some ⟨b,o,none⟩)(hy:Ai sl y=some (.int ki i))(hu:C.P.underlying xT=some (.slice E))(hs:Sz C.P E sz)(j:Nat)(hj:i=j)(aa:j<n)
    (k:Tr C ops rest ⟨(d,ptr b (o+j*sz))::sl,hp⟩ Q):Tr C ops ((c,⟨some d, .indexAddr xT x y,ty,pos,af,g⟩)::rest) ⟨sl,hp⟩ Q:=by
  subst hp';exact .idxSl sz hg hk hx hy hu hs j hj aa k
end
abbrev Cn:=Go.Lib.compareBytes
variable{P:Program}{d n:Nat}{p:Option Addr}{td:TypeDesc}{w:World}{xs ys:Array Value}
theorem cmpB_self:∀a,Cn a a=0
  | []=>rfl
  |x::a=>by simp[Cn,Go.Lib.compareBytes];exact cmpB_self a
theorem cmpB_neg:∀a b,Cn b a= -Cn a b
  | [],[]=>by simp[Cn,Go.Lib.compareBytes]
  | [],_::_=>by simp[Cn,Go.Lib.compareBytes]
  |_::_,[]=>by simp[Cn,Go.Lib.compareBytes]
  | x ::a,y::b=>by
    have:=cmpB_neg a b;simp only[Cn,Go.Lib.compareBytes,Lfe]at this ⊢;by_cases h1:x.toNat<y.toNat
    .rw[if_pos h1,if_neg oM,if_pos h1];rfl
    . by_cases h2:y.toNat<x.toNat
      .rw[if_pos h2,if_neg h1,if_pos h2]
      .rw[if_neg h2,if_neg h1,if_neg h1,if_neg h2];exact this
theorem cmpB_zero:∀a b,Cn a b=0↔a=b
  | [],[]=>by simp[Cn,Go.Lib.compareBytes]
  | [],_::_=>by simp[Cn,Go.Lib.compareBytes]
  |_::_,[]=>by simp[Cn,Go.Lib.compareBytes]
  | x ::a,y::b=>by
    have:=cmpB_zero a b;simp only[Cn,Go.Lib.compareBytes,Lfe,Lfj]at this ⊢;by_cases h1:x.toNat<y.toNat
    . rw[if_pos h1]
      refine⟨λh=>by simp at h,λh=>?_⟩;rw[h.1]at h1;omega
    . by_cases h2:y.toNat<x.toNat
      . rw[if_neg h1,if_pos h2]
        refine⟨λh=>by simp at h,λh=>?_⟩;rw[h.1]at h2;omega
      . rw[if_neg h1,if_neg h2,this]
        exact⟨λh=>⟨Ldc.1 oM,h⟩,λh=>h.2⟩
theorem cmpB_trans:∀a b c,Cn a b<=0->Cn b c<=0->Cn a c<=0/\(Cn a b<0\/Cn b c<0->Cn a c<0)
  | [],[],[],_,_=>by simp[Cn,Go.Lib.compareBytes]
  | [],[],_::_,_,_=>by simp[Cn,Go.Lib.compareBytes]
  | [],_::_,[],_,h=>by simp[Cn,Go.Lib.compareBytes]at h
  | [],_::_,_::_,_,_=>by simp[Cn,Go.Lib.compareBytes]
  |_::_,[],_,h,_=>by simp[Cn,Go.Lib.compareBytes]at h
  |_::_,_::_,[],_,h=>by simp[Cn,Go.Lib.compareBytes]at h
  | x :: a, y::b,z::c,h1,h2=>by
    have ih:=cmpB_trans a b c;simp only[Cn,Go.Lib.compareBytes,Lfe]at ih h1 h2 ⊢;by_cases a1:x.toNat<y.toNat
    . by_cases b1:y.toNat<z.toNat
      .rw[if_pos (show x.toNat<z.toNat by omega)];simp
      . by_cases b2:z.toNat<y.toNat
        .rw[if_neg b1,if_pos b2]at h2;omega
        .rw[if_pos (show x.toNat<z.toNat by omega)];simp
    . by_cases a2:y.toNat<x.toNat
      .rw[if_neg a1,if_pos a2]at h1;omega
      . rw [if_neg a1,if_neg a2]at h1 ⊢
        by_cases b1:y.toNat<z.toNat
        .rw[if_pos (show x.toNat<z.toNat by omega)];simp
        . by_cases b2:z.toNat<y.toNat
          .rw[if_neg b1,if_pos b2]at h2;omega
          . rw[if_neg b1,if_neg b2]at h2 ⊢
            rw[if_neg (show ¬x.toNat<z.toNat by omega),if_neg (show ¬z.toNat<x.toNat by omega)];exact ih h1 h2
theorem run_bytesOf{n cap:Nat}{l:List UInt8}(hl:l.length=n)(hs:SeesP w p (Aa l)):(Extern.Bytes.bytesOf (.slice p n cap)).run P w= .ok ⟨l.toArray⟩ w:=by
  subst hl;cases p with
  | none=>
    have:l=[]:=by
      cases l with
      |nil=>rfl
      |cons a l=>obtain⟨b,o,e,_⟩:=hs 0 (u8 a) (by simp[Aa]);cases e
    subst this;rfl
  | some a=>
    have:=Go.Lib.run_loadBytesX (P:=P) w (l.map λb=>(b.toNat:Int)) a .empty (λj x hj=>by
      obtain⟨b,o,e,hc⟩:=hs j (.int .u8 x) (by
        simp only[Aa,Lad]at hj ⊢;cases h:l[j]? with
        |none=>rw[h]at hj;simp at hj
        |some y=>rw[h]at hj;simp at hj;simp[u8,hj])
      simp only[La7]at e;subst e;rw[B5];exact hc)
    simp only[La0]at this;simp only[Extern.Bytes.bytesOf,this];congr 1;apply ByteArray.ext;simp[Go.Lib.bytesOf];apply Le7<;>simp
theorem run_compareB{p q:Option Addr}{n m c1 c2:Nat}{a b:List UInt8}(ha:a.length=n)(hb:b.length=m)(h1:SeesP w p (Aa a))(h2:SeesP w q (Aa b)):
    (Extern.BytealgCompare.compare #[.slice p n c1, .slice q m c2]).run P w= .ok (i64 (Cn a b)) w:=by
  change Sem.run P (do pure (goInt (Extern.BytealgCompare.cmp (<-Extern.Bytes.bytesOf (.slice p n c1)) (<-Extern.Bytes.bytesOf (.slice q m c2))))) w=_;simp only[Sem.run_bind,run_bytesOf (P:=P) (cap:=c1) ha h1,run_bytesOf (P:=P) (cap:=c2) hb h2,Result.andThen,Sem.run_pure,Go.Lib.cmp_eq];rfl
theorem run_part1{T:TypeId}{xs:List Value}{o:Nat}{v:Value}(hu:P.underlying T=some td)(hp:Ci td=true)(hx:xs[o]? =some v):(part T xs.toArray o).run P w= .ok v w:=by
  simp[part,run_isAgg_plain hu hp,hx]
theorem run_partN{T:TypeId}{xs row:List Value}{o n:Nat}(hu:P.underlying T=some td)(hp:Ci td=false)(hs:Sz P T n)(hr:(xs.drop o).take n=row):(part T xs.toArray o).run P w= .ok (agg row) w:=by
  subst hr;simp[part,run_isAgg_arr hu hp,Ch hs]
theorem eqFields_step{f:Field}{fs:List Field}{u v:Value}{r s:Bool}(hn:f.name≠ "_")(hu:(part f.type xs f.offset).run P w= .ok u w)(hv:(part f.type ys f.offset).run P w= .ok v w)
    (he:(Op.equalIn d f.type u v).run P w= .ok r w) (hs:(Op.eqFields d xs ys fs).run P w= .ok s w):(Op.eqFields d xs ys (f::fs)).run P w= .ok (r&&s) w:=by
  unfold Op.eqFields;rw[if_pos hn];simp only[Sem.run_bind,hu,hv,he,Result.andThen_ok];cases r
  .simp
  .simpa using hs
theorem eqFields_nil:(Op.eqFields d xs ys []).run P w= .ok true w:=by simp[Op.eqFields]
theorem eq_bytesA{T E:TypeId}{a b:List UInt8}(ht:P.underlying T=some (.array n E))(he:P.underlying E=some (.int .u8))(hs:Sz P E 1)(ha:a.length=n)(hb:b.length=n):(Op.equalIn (d+2) T (agg (Aa a)) (agg (Aa b))).run P w= .ok (decide (a=b)) w:=by
  have:=run_equalIn_ints (P:=P) (k:= .u8) w d ht he hs (a.map λb=>(b.toNat:Int)) (b.map λb=>(b.toNat:Int)) (by simp[ha]) (by simp[hb]);rw[<-bytes_ints,<-bytes_ints]at this;rw[this];simp only[bytes_inj]
section
variable{C:Cx}{ops:Array Oper}{rest:List (Nat×Oper)}{sl:List (Nat×Value)}{hp:List Blk}{Q:St->Prop}{c d:Nat}{ty:TypeId}{pos:String}{af:Array Edge}{g:Option (Nat×Bool)}{xT yT:TypeId}{x y:Operand}{xs ys:List Value}{q:Bool}
theorem Tr.eql_rec(hg:Al ops sl g=true)(hk:okD c d C.N=true)(hx:Ai sl x=some (agg xs))(hy:Ai sl y=some (agg ys))(hm:C.P.eqGuardType C.P.depth xT=false)
    (he:∀w,(Op.equalIn 10000 xT (agg xs) (agg ys)).run C.P w= .ok q w) {r:Bool} (hr:q=r)
    (k:Tr C ops rest ⟨(d, .bool r)::sl,hp⟩ Q):Tr C ops ((c,⟨some d, .binOp .eql xT x y yT,ty,pos,af,g⟩)::rest) ⟨sl,hp⟩ Q:=
  .binAny hg hk hx hy (λw=>run_eqGuard_agg w .eql xT x y _ _ hm) (λw=>by subst hr;rw[run_eql_struct,he];rfl) k
end
end Hw
namespace Go.Proofs.YtbdfihcjddbhaaaGreat
open Go Hw _root_.Go.Proofs.Tryz
structure Block where
  fWriter:List UInt8
  fSeq:UInt64
  fPrev:List UInt8
  fLinks:Sl
  fData:Sl
  fSig:List UInt8
def Block.cells(x:Block):List Value:=Aa x.fWriter++([u64 x.fSeq]++(Aa x.fPrev++([x.fLinks.v]++([x.fData.v]++(Aa x.fSig)))))
structure Block.ok(x:Block):Prop where
  l_fWriter:x.fWriter.length=32
  l_fPrev:x.fPrev.length=32
  l_fSig:x.fSig.length=64
theorem Block.length{x:Block}(h:x.ok):x.cells.length=131:=by simp[Block.cells,Aa,h.l_fWriter,h.l_fPrev,h.l_fSig]
theorem Block.isCell{x:Block}(h:x.ok):∀u∈x.cells,isCell u=true:=by
  intro u hu;simp only[Block.cells,La8,La1,Aa,La6]at hu;rcases hu with ⟨_,_,rfl⟩|rfl|⟨_,_,rfl⟩|rfl|rfl|⟨_,_,rfl⟩<;>first|rfl
theorem Block.row_fWriter{x:Block}(h:x.ok):(x.cells.drop 0).take 32=Aa x.fWriter:=by simp[Block.cells,Aa,h.l_fWriter,h.l_fPrev,h.l_fSig,Lbr,Lbe,Lao,La5]
theorem Block.rl_fWriter{x:Block}(h:x.ok):(Aa x.fWriter).length=32:=by simp[Aa,h.l_fWriter]
theorem Block.upd_fWriter{x:Block}(h:x.ok)(l:List UInt8)(hl:l.length=32):upd x.cells 0 (Aa l)=({ x with fWriter:=l }).cells:=by
  simp[upd,Block.cells,Aa,h.l_fWriter,h.l_fPrev,h.l_fSig,hl,Lbr,Lbe,Lao,La5]
theorem Block.see_fWriter{x:Block}(h:x.ok):∀(j:Nat) (v:Value),(Aa x.fWriter)[j]? =some v->x.cells[0+j]? =some v:=λj v hj=>by
  rw[<-Block.row_fWriter h,Lbz]at hj;split at hj
  .rwa[Lba]at hj
  .cases hj
theorem Block.get_fSeq{x:Block}(h:x.ok):x.cells[32]? =some (u64 x.fSeq):=by simp[Block.cells,Aa,h.l_fWriter,h.l_fPrev,h.l_fSig,Lea]
theorem Block.row_fPrev{x:Block}(h:x.ok):(x.cells.drop 33).take 32=Aa x.fPrev:=by simp[Block.cells,Aa,h.l_fWriter,h.l_fPrev,h.l_fSig,Lbr,Lbe,Lao,La5]
theorem Block.rl_fPrev{x:Block}(h:x.ok):(Aa x.fPrev).length=32:=by simp[Aa,h.l_fPrev]
theorem Block.see_fPrev{x:Block}(h:x.ok):∀(j:Nat) (v:Value),(Aa x.fPrev)[j]? =some v->x.cells[33+j]? =some v:=λj v hj=>by
  rw[<-Block.row_fPrev h,Lbz]at hj;split at hj
  .rwa[Lba]at hj
  .cases hj
theorem Block.get_fLinks{x:Block}(h:x.ok):x.cells[65]? =some (x.fLinks.v):=by simp[Block.cells,Aa,h.l_fWriter,h.l_fPrev,h.l_fSig,Lea]
theorem Block.set_fLinks{x:Block}(h:x.ok)(v:Sl):x.cells.set 65 (v.v)=({ x with fLinks:=v }).cells:=by simp[Block.cells,Aa,h.l_fWriter,h.l_fPrev,h.l_fSig,List.set_append]
theorem Block.setS_fLinks{x:Block}(h:x.ok)(p:Option Addr)(n c:Nat):x.cells.set 65 (.slice p n c)=({ x with fLinks:=⟨p,n,c⟩ }).cells:=Block.set_fLinks h ⟨p,n,c⟩
theorem Block.get_fData{x:Block}(h:x.ok):x.cells[66]? =some (x.fData.v):=by simp[Block.cells,Aa,h.l_fWriter,h.l_fPrev,h.l_fSig,Lea]
theorem Block.set_fData{x:Block}(h:x.ok)(v:Sl):x.cells.set 66 (v.v)=({ x with fData:=v }).cells:=by simp[Block.cells,Aa,h.l_fWriter,h.l_fPrev,h.l_fSig,List.set_append]
theorem Block.setS_fData{x:Block}(h:x.ok)(p:Option Addr)(n c:Nat):x.cells.set 66 (.slice p n c)=({ x with fData:=⟨p,n,c⟩ }).cells:=Block.set_fData h ⟨p,n,c⟩
theorem Block.row_fSig{x:Block}(h:x.ok):(x.cells.drop 67).take 64=Aa x.fSig:=by simp[Block.cells,Aa,h.l_fWriter,h.l_fPrev,h.l_fSig,Lbr,Lbe,Lao,La5]
theorem Block.rl_fSig{x:Block}(h:x.ok):(Aa x.fSig).length=64:=by simp[Aa,h.l_fSig]
theorem Block.upd_fSig{x:Block}(h:x.ok)(l:List UInt8)(hl:l.length=64):upd x.cells 67 (Aa l)=({ x with fSig:=l }).cells:=by
  simp[upd,Block.cells,Aa,h.l_fWriter,h.l_fPrev,h.l_fSig,hl,Lbr,Lbe,Lao,La5]
theorem Block.see_fSig{x:Block}(h:x.ok):∀(j:Nat) (v:Value),(Aa x.fSig)[j]? =some v->x.cells[67+j]? =some v:=λj v hj=>by
  rw[<-Block.row_fSig h,Lbz]at hj;split at hj
  .rwa[Lba]at hj
  .cases hj
def Block.zero:Block:=⟨List.replicate 32 0,0,List.replicate 32 0,Sl.nil,Sl.nil,List.replicate 64 0⟩
theorem Block.zero_ok:Block.zero.ok:=by constructor<;>first|exact trivial|simp[Block.zero]
theorem Block.zr:Zr prog 37 (agg Block.zero.cells):=by unfold Zr;kernel_rfl
structure Point where
  fX:List UInt8
  fY:List UInt8
def Point.cells(x:Point):List Value:=Aa x.fX++(Aa x.fY)
structure Point.ok(x:Point):Prop where
  l_fX:x.fX.length=32
  l_fY:x.fY.length=32
theorem Point.length{x:Point}(h:x.ok):x.cells.length=64:=by simp[Point.cells,Aa,h.l_fX,h.l_fY]
theorem Point.isCell{x:Point}(h:x.ok):∀u∈x.cells,isCell u=true:=by
  intro u hu;simp only[Point.cells,La8,La1,Aa,La6]at hu;rcases hu with ⟨_,_,rfl⟩|⟨_,_,rfl⟩<;>rfl
theorem Point.row_fX{x:Point}(h:x.ok):(x.cells.drop 0).take 32=Aa x.fX:=by simp[Point.cells,Aa,h.l_fX,h.l_fY,Lbr,Lbe,Lao,La5]
theorem Point.rl_fX{x:Point}(h:x.ok):(Aa x.fX).length=32:=by simp[Aa,h.l_fX]
theorem Point.row_fY{x:Point}(h:x.ok):(x.cells.drop 32).take 32=Aa x.fY:=by simp[Point.cells,Aa,h.l_fX,h.l_fY,Lbr,Lbe,Lao,La5]
theorem Point.rl_fY{x:Point}(h:x.ok):(Aa x.fY).length=32:=by simp[Aa,h.l_fY]
def Point.zero:Point:=⟨List.replicate 32 0,List.replicate 32 0⟩
theorem Point.zero_ok:Point.zero.ok:=by constructor<;>simp[Point.zero]
theorem Point.zr:Zr prog 187 (agg Point.zero.cells):=by unfold Zr;kernel_rfl
theorem Point.eqq{x y:Point}(hx:x.ok)(hy:y.ok)(w:World):(Op.equalIn 10000 187 (agg x.cells) (agg y.cells)).run prog w= .ok (decide (x.fX=y.fX)&&(decide (x.fY=y.fY)&&(true))) w:=by
  rw[show(10000:Nat)=9999+1 from rfl,run_equalIn_struct w 9999 187 x.cells.toArray y.cells.toArray zK zK];exact(eqFields_step dE (run_partN Y184.h rfl Sz184 (Point.row_fX hx)) (run_partN Y184.h rfl Sz184 (Point.row_fX hy)) (eq_bytesA Y184.h Y5.h Sz5 hx.l_fX hy.l_fX) (eqFields_step dE (run_partN Y184.h rfl Sz184 (Point.row_fY hx)) (run_partN Y184.h rfl Sz184 (Point.row_fY hy)) (eq_bytesA Y184.h Y5.h Sz5 hx.l_fY hy.l_fY) eqFields_nil))
theorem Point.eq_run{x y:Point}(hx:x.ok)(hy:y.ok)(w:World)[Decidable (x=y)]:(Op.equalIn 10000 187 (agg x.cells) (agg y.cells)).run prog w= .ok (decide (x=y)) w:=by
  rw[Point.eqq hx hy];congr 1;obtain⟨x0,x1⟩:=x;obtain⟨y0,y1⟩:=y;rw[Lei];simp only[Lap,decide_eq_true_eq,Point.mk.injEq,and_true]
theorem Point.eq_runC{x y:Point}(hx:x.ok)(hy:y.ok)(w:World):(Op.equalIn 10000 187 (agg x.cells) (agg y.cells)).run prog w= .ok (@decide (x=y) (Classical.propDecidable (x=y))) w:= @Point.eq_run x y hx hy w (Classical.propDecidable (x=y))
theorem Point.eg:prog.eqGuardType prog.depth 187=false:=by kernel_rfl
structure wide where
  fX:List UInt8
  fY:List UInt8
  fZ:List UInt8
  fT:List UInt8
def wide.cells(x:wide):List Value:=Aa x.fX++(Aa x.fY++(Aa x.fZ++(Aa x.fT)))
structure wide.ok(x:wide):Prop where
  l_fX:x.fX.length=32
  l_fY:x.fY.length=32
  l_fZ:x.fZ.length=32
  l_fT:x.fT.length=32
theorem wide.length{x:wide}(h:x.ok):x.cells.length=128:=by simp[wide.cells,Aa,h.l_fX,h.l_fY,h.l_fZ,h.l_fT]
theorem wide.isCell{x:wide}(h:x.ok):∀u∈x.cells,isCell u=true:=by
  intro u hu;simp only[wide.cells,La8,La1,Aa,La6]at hu;rcases hu with ⟨_,_,rfl⟩|⟨_,_,rfl⟩|⟨_,_,rfl⟩|⟨_,_,rfl⟩<;>rfl
theorem wide.row_fX{x:wide}(h:x.ok):(x.cells.drop 0).take 32=Aa x.fX:=by simp[wide.cells,Aa,h.l_fX,h.l_fY,h.l_fZ,h.l_fT,Lbr,Lbe,Lao,La5]
theorem wide.rl_fX{x:wide}(h:x.ok):(Aa x.fX).length=32:=by simp[Aa,h.l_fX]
theorem wide.upd_fX{x:wide}(h:x.ok)(l:List UInt8)(hl:l.length=32):upd x.cells 0 (Aa l)=({ x with fX:=l }).cells:=by
  simp[upd,wide.cells,Aa,h.l_fX,h.l_fY,h.l_fZ,h.l_fT,hl,Lbr,Lbe,Lao,La5]
theorem wide.see_fX{x:wide}(h:x.ok):∀(j:Nat) (v:Value),(Aa x.fX)[j]? =some v->x.cells[0+j]? =some v:=λj v hj=>by
  rw[<-wide.row_fX h,Lbz]at hj;split at hj
  .rwa[Lba]at hj
  .cases hj
theorem wide.row_fY{x:wide}(h:x.ok):(x.cells.drop 32).take 32=Aa x.fY:=by simp[wide.cells,Aa,h.l_fX,h.l_fY,h.l_fZ,h.l_fT,Lbr,Lbe,Lao,La5]
theorem wide.rl_fY{x:wide}(h:x.ok):(Aa x.fY).length=32:=by simp[Aa,h.l_fY]
theorem wide.upd_fY{x:wide}(h:x.ok)(l:List UInt8)(hl:l.length=32):upd x.cells 32 (Aa l)=({ x with fY:=l }).cells:=by
  simp[upd,wide.cells,Aa,h.l_fX,h.l_fY,h.l_fZ,h.l_fT,hl,Lbr,Lbe,Lao,La5]
theorem wide.see_fY{x:wide}(h:x.ok):∀(j:Nat) (v:Value),(Aa x.fY)[j]? =some v->x.cells[32+j]? =some v:=λj v hj=>by
  rw[<-wide.row_fY h,Lbz]at hj;split at hj
  .rwa[Lba]at hj
  .cases hj
theorem wide.row_fZ{x:wide}(h:x.ok):(x.cells.drop 64).take 32=Aa x.fZ:=by simp[wide.cells,Aa,h.l_fX,h.l_fY,h.l_fZ,h.l_fT,Lbr,Lbe,Lao,La5]
theorem wide.rl_fZ{x:wide}(h:x.ok):(Aa x.fZ).length=32:=by simp[Aa,h.l_fZ]
theorem wide.upd_fZ{x:wide}(h:x.ok)(l:List UInt8)(hl:l.length=32):upd x.cells 64 (Aa l)=({ x with fZ:=l }).cells:=by
  simp[upd,wide.cells,Aa,h.l_fX,h.l_fY,h.l_fZ,h.l_fT,hl,Lbr,Lbe,Lao,La5]
theorem wide.see_fZ{x:wide}(h:x.ok):∀(j:Nat) (v:Value),(Aa x.fZ)[j]? =some v->x.cells[64+j]? =some v:=λj v hj=>by
  rw[<-wide.row_fZ h,Lbz]at hj;split at hj
  .rwa[Lba]at hj
  .cases hj
theorem wide.row_fT{x:wide}(h:x.ok):(x.cells.drop 96).take 32=Aa x.fT:=by simp[wide.cells,Aa,h.l_fX,h.l_fY,h.l_fZ,h.l_fT,Lbr,Lbe,Lao,La5]
theorem wide.rl_fT{x:wide}(h:x.ok):(Aa x.fT).length=32:=by simp[Aa,h.l_fT]
theorem wide.upd_fT{x:wide}(h:x.ok)(l:List UInt8)(hl:l.length=32):upd x.cells 96 (Aa l)=({ x with fT:=l }).cells:=by
  simp[upd,wide.cells,Aa,h.l_fX,h.l_fY,h.l_fZ,h.l_fT,hl,Lbr,Lbe,Lao,La5]
theorem wide.see_fT{x:wide}(h:x.ok):∀(j:Nat) (v:Value),(Aa x.fT)[j]? =some v->x.cells[96+j]? =some v:=λj v hj=>by
  rw[<-wide.row_fT h,Lbz]at hj;split at hj
  .rwa[Lba]at hj
  .cases hj
def wide.zero:wide:=⟨List.replicate 32 0,List.replicate 32 0,List.replicate 32 0,List.replicate 32 0⟩
theorem wide.zero_ok:wide.zero.ok:=by constructor<;>simp[wide.zero]
theorem wide.zr:Zr prog 229 (agg wide.zero.cells):=by unfold Zr;kernel_rfl
theorem wide.eg:prog.eqGuardType prog.depth 229=false:=by kernel_rfl
structure RKn where
  fName:List UInt8
  fBlock:Block
def RKn.cells(x:RKn):List Value:=Aa x.fName++(x.fBlock.cells)
structure RKn.ok(x:RKn):Prop where
  l_fName:x.fName.length=32
  o_fBlock:x.fBlock.ok
theorem RKn.length{x:RKn}(h:x.ok):x.cells.length=163:=by simp[RKn.cells,Aa,h.l_fName,Block.length h.o_fBlock]
theorem RKn.isCell{x:RKn}(h:x.ok):∀u∈x.cells,isCell u=true:=by
  intro u hu;simp only[RKn.cells,La8,La1,Aa,La6]at hu;rcases hu with ⟨_,_,rfl⟩|hu<;>first|rfl|exact Block.isCell h.o_fBlock u hu
theorem RKn.row_fName{x:RKn}(h:x.ok):(x.cells.drop 0).take 32=Aa x.fName:=by simp[RKn.cells,Aa,h.l_fName,Block.length h.o_fBlock,Lbr,Lbe,Lao,La5]
theorem RKn.rl_fName{x:RKn}(h:x.ok):(Aa x.fName).length=32:=by simp[Aa,h.l_fName]
theorem RKn.see_fName{x:RKn}(h:x.ok):∀(j:Nat) (v:Value),(Aa x.fName)[j]? =some v->x.cells[0+j]? =some v:=λj v hj=>by
  rw[<-RKn.row_fName h,Lbz]at hj;split at hj
  .rwa[Lba]at hj
  .cases hj
theorem RKn.row_fBlock{x:RKn}(h:x.ok):(x.cells.drop 32).take 131=x.fBlock.cells:=by simp[RKn.cells,Aa,h.l_fName,Block.length h.o_fBlock,Lbr,Lbe,Lao,La5]
theorem RKn.rl_fBlock{x:RKn}(h:x.ok):(x.fBlock.cells).length=131:=by simp[Aa,Block.length h.o_fBlock]
theorem RKn.see_fBlock{x:RKn}(h:x.ok):∀(j:Nat) (v:Value),(x.fBlock.cells)[j]? =some v->x.cells[32+j]? =some v:=λj v hj=>by
  rw[<-RKn.row_fBlock h,Lbz]at hj;split at hj
  .rwa[Lba]at hj
  .cases hj
def RKn.zero:RKn:=⟨List.replicate 32 0,Block.zero⟩
theorem RKn.zero_ok:RKn.zero.ok:=by constructor<;>first|exact Block.zero_ok|simp[RKn.zero]
theorem RKn.zr:Zr prog 113 (agg RKn.zero.cells):=by unfold Zr;kernel_rfl
end Go.Proofs.YtbdfihcjddbhaaaGreat
namespace Hw
open Go Go.RowKit Go.ChangeShapes Go.WideShapes
section
variable{H:Type}{enc:TypeId×Value->H}{P:Program}{k e:TypeId}{n:Nat}{W:World}{base:Nat}{sp:Nat->Bool}{held:Bool}
variable{fuel:Nat}{t:TypeId}{y:DataW H×List MemPlace}
theorem mapM_all{α β:Type}{f:α->Option β}:∀(L:List α) (ys:List β),L.mapM f=some ys->∀x∈L,∃y,f x=some y
  | [],_,_,x,hx=>by simp at hx
  | a::L,ys,h,x,hx=>by
    rw[List.mapM_cons]at h;simp only[bind,Option.bind_eq_some_iff,pure,La7]at h;obtain⟨y,hy,ab,aa,_⟩:=h;rcases Lam.1 hx with rfl|hx
    .exact⟨y,hy⟩
    .exact mapM_all L ab aa x hx
theorem bytes_of:∀(cs:List Value),(∀v∈cs,∃a,v= .int .u8 a/\(Lit.int .u8 a).wf=true)->∃l:List UInt8,cs=Aa l
  | [],_=>⟨[],rfl⟩
  | v ::cs,h=>by
    obtain⟨a,rfl,wa⟩:=h v sP;obtain⟨l,rfl⟩:=bytes_of cs λv hv=>h v (by simp[hv]);refine⟨byteOf a::l,?_⟩;have e:IntKind.u8.wrap a=a:=by
      have:=wa;simp[Lit.wf]at this;have m0:IntKind.u8.min=0:=by decide
      have m1:IntKind.u8.max=255:=by decide
      rw[IntKind.wrap_u8];omega
    rw[wrap_u8]at e;simp[Aa,u8,e]
theorem list_of_cells(w:World)(b o:Nat):∀n:Nat,(∀i,i<n->∃a,w.cell? ⟨b,o+i,none⟩=some (.int .u8 a)/\(Lit.int .u8 a).wf=true)->∃l:List UInt8,l.length=n/\Dd w b o (Aa l)
  |0,_=>⟨[],rfl,λj v hj=>by simp[Aa]at hj⟩
  | n + 1,h=>by
    obtain⟨l,hl,hs⟩:=list_of_cells w b o n λi hi=>h i oM;obtain⟨a,ha,wa⟩:=h n oM;refine⟨l++[byteOf a],by simp[hl],λj v hj=>?_⟩;have e:IntKind.u8.wrap a=a:=by
      simp[Lit.wf]at wa;have m0:IntKind.u8.min=0:=by decide
      have m1:IntKind.u8.max=255:=by decide
      rw[IntKind.wrap_u8];omega
    rw[wrap_u8]at e;simp only[Aa,Lae,Lar,Lem]at hj;rcases Lb5 j n with h1|h1
    . rw[Lb1 (by simp[hl];exact h1)]at hj
      exact hs j v hj
    . rw[Lb2 (by simp[hl];exact h1)]at hj
      simp only[La0,hl]at hj;by_cases aa:j=n
      . subst aa
        rw[Lf0]at hj;simp only[Lec,La7]at hj;rw[ha,<-hj];simp[u8,e]
      .rw[Lav (by simp;omega)]at hj;cases hj
theorem u64_back{a:Int}(h:(Lit.int .u64 a).wf=true):∃x:UInt64,a=(x.toNat:Int):=by
  simp[Lit.wf]at h;have m0:IntKind.u64.min=0:=by decide
  have m1:IntKind.u64.max=18446744073709551615:=by decide
  rw[m0,m1]at h;refine⟨UInt64.ofNat a.toNat,?_⟩;rw[Lc4];omega
theorem cat{cs seg rest:List Value}{o n:Nat}(o':Nat)(h:(cs.drop o).take n=seg)(ho:o+n=o')(hr:cs.drop o'=rest):cs.drop o=seg++rest:=by
  subst ho;rw[<-h,<-hr,<-Lf7,Lbt]
theorem cat_last{cs seg:List Value}{o n:Nat}(h:(cs.drop o).take n=seg)(hl:cs.length=o+n):cs.drop o=seg:=by
  rw[<-h,La5 (by rw[Laz];omega)]
theorem open_bytesT(hu:P.underlying k=some (.array n e))(he:P.underlying e=some (.int .u8))(hc:P.cellsOf e=1)(hk:P.cellsOf k=n){cs:List Value}
    (h:DataW.trod enc P W base sp held fuel k cs=some y):∃l:List UInt8,cs=Aa l/\l.length=n:=by
  cases fuel with
  |zero=>simp[DataW.trod]at h
  | succ m=>
    rw[DataW.trod_step]at h;unfold DataW.trodStep at h;simp only[hu]at h;by_cases hl:cs.length=P.cellsOf k
    . rw[if_pos hl]at h
      simp only[Lek]at h;obtain⟨ys,hy,e1⟩:=h;have aa:=mapM_all _ _ hy;obtain⟨l,rfl⟩:=bytes_of cs λv hv=>by
        obtain⟨i,hi,rfl⟩:=List.mem_iff_getElem.1 hv;obtain⟨y,hy⟩:=aa i (by rw[hk]at hl;simp;omega);rw[hc]at hy;obtain⟨a,ea,_,wa⟩:=DataW.trod_int he hy;refine⟨a,?_,wa⟩;rw[Lbb,Lbo hi]at ea;simp only[Ldi,Ld8,Lfj,and_true]at ea;exact ea
      exact⟨l,rfl,by rw[hk]at hl;simpa[Aa]using hl⟩
    .rw[if_neg hl]at h;cases h
structure BytesAt(W:World)(s:Sl)(l:List UInt8):Prop where
  len:l.length=s.n
  cap:s.n<=s.c
  see:SeesP W s.p (Aa l)
  max:s.n<=maxLen
  nil:s.p=none->s.c=0
structure RowsAt(W:World)(s:Sl)(m:Nat)(ls:List (List UInt8)):Prop where
  len:ls.length=s.n
  row:∀l∈ls,l.length=m
  cap:s.n<=s.c
  see:SeesP W s.p (ls.map Aa).flatten
  max:s.n<=maxLen
  nil:s.p=none->s.c=0
theorem open_sliceT(hu:P.underlying t=some (.slice e)){cs:List Value}(h:DataW.trod enc P W base sp held fuel t cs=some y):∃s:Sl,cs=[s.v]/\s.n<=s.c/\s.c<=maxLen/\(s.p=none->s.c=0)/\
    ∀i,i<s.n->∃a,s.p=some a/\∃cs' n y',W.cells? base (a.add (i*P.cellsOf e)) (P.cellsOf e)=some cs'/\DataW.trod enc P W base sp held n e cs'=some y':=by
  rcases Go.Deep.open_slice hu h with ⟨rfl,_⟩|⟨a,len,cap,m,n,D,Pl,rfl,_,hl,hm,aa,_,hx⟩
  .exact⟨⟨none,0,0⟩,rfl,Lag _,by simp[maxLen],λ_=>rfl,λi hi=>by simp at hi⟩
  . refine⟨⟨some a,len,cap⟩,rfl,hl,hm,(λe=>by cases e),λi hi=>?_⟩
    obtain⟨cs',h1,h2⟩:=hx i (by subst aa;simp only at hi;split<;>omega);exact⟨a,rfl,cs',n,_,h1,h2⟩
theorem cells_at{a:Addr}{cs:List Value}(h:W.cells? base a n=some cs):cs.length=n/\∀(j:Nat) (v:Value),cs[j]? =some v->W.cell? (a.add j)=some v:=by
  obtain⟨h1,h2,h3⟩:=World.cells?_some h;refine⟨h2,λj v hj=>?_⟩;have aa:j<n:=by rw[<-h2];exact(Laa.1 hj).1
  have:=h3 j aa;rw[this];exact hj
theorem open_bytesS(hu:P.underlying t=some (.slice e))(he:P.underlying e=some (.int .u8))(hc:P.cellsOf e=1){cs:List Value}(h:DataW.trod enc P W base sp held fuel t cs=some y):
    ∃s l,cs=[s.v]/\BytesAt W s l:=by
  obtain⟨s,rfl,h1,h2,h3,hx⟩:=open_sliceT hu h;by_cases h0:s.n=0
  .exact⟨s,[],rfl,by simp[h0],h1,SeesP.nil,Lbd h1 h2,h3⟩
  . obtain⟨⟨b,o,aa⟩,hp,_⟩:=hx 0 oM
    have ab:∀i,i<s.n->∃v,W.cell? ((⟨b,o,aa⟩:Addr).add i)=some v/\∃a,v= .int .u8 a/\(Lit.int .u8 a).wf=true:=λi hi=>by
      obtain⟨a',hp',cs',n,y',ac,ht⟩:=hx i hi;rw[hp]at hp';obtain rfl:a'=⟨b,o,aa⟩:=by injection hp'.symm
      rw[hc,Lbb]at ac;obtain⟨a,ea,_,wa⟩:=DataW.trod_int he ht;subst ea;have h9:=(cells_at ac).2 0 _ rfl;have e0:∀x:Addr,x.add 0=x:=λx=>by simp[Addr.add]
      rw[e0]at h9;exact⟨_,h9,a,rfl,wa⟩
    obtain rfl:aa=none:=by
      obtain⟨v,hv,_⟩:=ab 0 oM;simpa[Addr.add]using World.cell?_spot hv
    obtain⟨l,hl,hs⟩:=list_of_cells W b o s.n λi hi=>by
      obtain⟨v,hv,a,rfl,wa⟩:=ab i hi;rw[B5]at hv;exact⟨a,hv,wa⟩
    exact⟨s,l,rfl,hl,h1,by rw[hp];exact SeesP.of hs,Lbd h1 h2,h3⟩
theorem rows_of_cells(W:World)(b o m:Nat):∀n:Nat,(∀i,i<n->∃l:List UInt8,l.length=m/\Dd W b (o+i*m) (Aa l))->∃ls:List (List UInt8),ls.length=n/\(∀l∈ls,l.length=m)/\Dd W b o (ls.map Aa).flatten
  |0,_=>⟨[],rfl,by simp,λj v hj=>by simp at hj⟩
  | n + 1,h=>by
    obtain⟨ls,h1,h2,h3⟩:=rows_of_cells W b o m n λi hi=>h i oM;obtain⟨l,hl,hs⟩:=h n oM;have aa:(ls.map Aa).flatten.length=n*m:=by
      rw[<-h1];clear h3 h1 h
      induction ls with
      |nil=>simp
      |cons x xs ih=>rw[Lar,Lcv,La2,ih (λy hy=>h2 y (by simp[hy])),Lax,Lcf];simp[Aa,h2 x sP];omega
    refine⟨ls++[l],by simp[h1],λx hx=>?_,λj v hj=>?_⟩
    . rcases La8.1 hx with hx|hx
      .exact h2 x hx
      .obtain rfl:=La1.1 hx;exact hl
    . rw[Lae,Lcb]at hj
      rcases Lb5 j (n*m)with h4|h4
      . rw[Lb1 oM]at hj
        exact h3 j v hj
      . rw[Lb2 oM,aa]at hj
        have:=hs (j-n*m) v (by simpa using hj);rw[show o+n*m+(j-n*m)=o+j by omega]at this;exact this
theorem open_rowsS{e8:TypeId}{m:Nat}(hu:P.underlying t=some (.slice e))(he:P.underlying e=some (.array m e8))(ae:P.underlying e8=some (.int .u8))(ad:P.cellsOf e8=1)(hc:P.cellsOf e=m)(hm:0<m){cs:List Value}
    (h:DataW.trod enc P W base sp held fuel t cs=some y):∃s ls,cs=[s.v]/\RowsAt W s m ls:=by
  obtain⟨s,rfl,h1,h2,h3,hx⟩:=open_sliceT hu h;by_cases h0:s.n=0
  .exact⟨s,[],rfl,by simp[h0],by simp,h1,SeesP.nil,Lbd h1 h2,h3⟩
  . obtain⟨⟨b,o,aa⟩,hp,_⟩:=hx 0 oM
    have ab:∀i,i<s.n->∃l:List UInt8,l.length=m/\∀(j:Nat) (v:Value),(Aa l)[j]? =some v->W.cell? (((⟨b,o,aa⟩:Addr).add (i*m)).add j)=some v:=λi hi=>by
      obtain⟨a',hp',cs',n,y',ac,ht⟩:=hx i hi;rw[hp]at hp';obtain rfl:a'=⟨b,o,aa⟩:=by injection hp'.symm
      rw[hc]at ac;obtain⟨l,rfl,hl⟩:=open_bytesT he ae ad hc ht;exact⟨l,hl,(cells_at ac).2⟩
    obtain rfl:aa=none:=by
      obtain⟨l,hl,hv⟩:=ab 0 oM;have:=hv 0 (u8 (l.getD 0 0)) (get_bytes oM);simpa[Addr.add]using World.cell?_spot this
    obtain⟨ls,e1,e2,e3⟩:=rows_of_cells W b o m s.n λi hi=>by
      obtain⟨l,hl,hv⟩:=ab i hi;refine⟨l,hl,λj v hj=>?_⟩;have:=hv j v hj;rwa[B5,B5]at this
    exact⟨s,ls,rfl,e1,e2,h1,by rw[hp];exact SeesP.of e3,Lbd h1 h2,h3⟩
end
end Hw
namespace Hw
open Go Go.RowKit
theorem fold_put(off:Nat):∀(l:List Value) (s:Nat) (cells:Array Value),(l.zipIdx s).foldl (λcs (p:Value×Nat)=>cs.setIfInBounds (off+p.2) p.1) cells=Ck cells (off+s) l
  | [],_,_=>rfl
  | v::l,s,cells=>by
    rw[List.zipIdx_cons,Le2,Ck,fold_put off l (s+1)];rfl
theorem fill_seq(size:Nat):∀(aa:List Value) (i:Nat) (cells:Array Value),(∀v∈aa,v.cells.size=size)->(i+aa.length)*size<=cells.size->
    Instr.fill (λi=>some (i*size,size)) cells ((aa.zipIdx i).map λp=>(p.2,p.1))=some (Ck cells (i*size) (aa.map λv=>v.cells.toList).flatten)
  | [],i,cells,_,_=>by simp[Instr.fill,Ck]
  | v ::aa,i,cells,hv,hl=>by
    have h0:=hv v sP;have h1:(i+1+aa.length)*size<=cells.size:=by
      rw[Lax,show i+(aa.length+1)=i+1+aa.length by omega]at hl;exact hl
    have h2:(i+1)*size<=cells.size:=Lbd (Les _ oM) h1;rw[Lcf,Le6]at h2;have hf:(v.cells.zipIdx.foldl (λcs (p:Value×Nat)=>cs.setIfInBounds (i*size+p.2) p.1) cells)=Ck cells (i*size) v.cells.toList:=by
      rw[<-Array.foldl_toList,Array.toList_zipIdx];exact fold_put (i*size) v.cells.toList 0 cells
    rw[List.zipIdx_cons,Lar,Instr.fill];simp only[h0];rw[if_neg (by simp;omega)];rw[show(v.cells.zipIdx.foldl (λcs (x:Value×Nat)=>match x with|(c,j)=>cs.setIfInBounds (i*size+j) c) cells)=Ck cells (i*size) v.cells.toList from hf];rw[fill_seq size aa (i+1) _ (λx hx=>hv x (by simp[hx])) (by rw[putAll_size];exact h1),Lar,Lcv];congr 1;have app:∀(a b:List Value) (c:Array Value) (k:Nat),Ck c k (a++b)=Ck (Ck c k a) (k+a.length) b:=by
      intro a
      induction a with
      |nil=>intro b c k;rfl
      |cons x a ih=>intro b c k;rw[Lan,Ck,Ck,ih,Lax];congr 1;omega
    rw[app,Ldk,h0,Lcf,Le6]
theorem putAll_all(cells:Array Value)(vs:List Value)(h:vs.length=cells.size):Ck cells 0 vs=vs.toArray:=by
  apply Lep;intro j;rw[putAll_get _ _ _ _ oM];by_cases hj:j<vs.length
  .rw[if_pos oM];simp
  .rw[if_neg oM,Lcr oM];simp;omega
theorem flat_length{size:Nat}:∀(aa:List Value),(∀v∈aa,v.cells.size=size)->(aa.map λv=>v.cells.toList).flatten.length=aa.length*size
  | [],_=>by simp
  | v::aa,h=>by
    rw[Lar,Lcv,La2,flat_length aa λx hx=>h x (by simp[hx]),Ldk,h v sP,Lax,Lcf];omega
section
variable{C:Cx}{ops:Array Oper}{rest:List (Nat×Oper)}{sl:List (Nat×Value)}{hp hp':List Blk}{Q:St->Prop}{c d:Nat}{ty:TypeId}{pos:String}{af:Array Edge}{g:Option (Nat×Bool)}
variable{c2 len n size:Nat}{p:Option Addr}{ps:List (Nat×Operand)}{td:TypeDesc}{vs:List (Nat×Value)}{z:Value}
theorem Tr.mkRow{T E:TypeId}(aa:List Value)(cs:List Value)(hg:Al ops sl g=true)(hk:okG c d C.N=true)(hv:evp sl ps=some vs)
    (hu:C.P.underlying T=some (.slice E)) (hs:Sz C.P E size) (hz:Zr C.P E z) (ah:vs=(aa.zipIdx 0).map λp=>(p.2,p.1)) (ae:aa.length=len) (ab:∀v∈aa,v.cells.size=size) (ak:len*size<=16777216) (aj:(aa.map λv=>v.cells.toList).flatten=cs)
    (k:∀q,Tr C ops rest ⟨(d, .slice (some ⟨q,0,none⟩) len len)::sl,blk q cs E::hp⟩ Q):Tr C ops ((c,⟨some d, .buildSlice T len ps.toArray,ty,pos,af,g⟩)::rest) ⟨sl,hp⟩ Q:=
  Tr.growB (λm=> .slice (some ⟨m,0,none⟩) len len) hg hk (λx hx=>by
    simp[Op.operands]at hx;obtain⟨i,hm⟩:=hx;exact evp_known hv _ hm) (λρ hf w=>by
    have h2:=evp_map hv λp hp=>hf p.2 (by simp[Op.operands];exact⟨p.1,hp⟩);have e:(ps.toArray.map λ(i,x)=>(i,ρ x))=vs.toArray:=by
      rw[<-h2];simp
    have rs:=Ch hs;unfold Zr at hz;unfold Sz at hs;cases hi:C.P.info? E with
    |none=>rw[hi]at hs;simp at hs
    | some i=>
      rw[hi]at hz;simp only[Lbx]at hz;have ag:=flat_length aa ab;have ai:¬(16777216<len*size):=by omega
      have ac:(Instr.buildSlice T len vs.toArray).run C.P w= .ok (.slice (some ⟨w.heap.size,0,none⟩) len len) { w with heap:=w.heap.push (.cells cs.toArray E) }:=by
        subst aj;subst ae;by_cases h0:aa.length*size=0
        . simp only[Instr.buildSlice,Sem.run_bind,run_underlying hu,Result.andThen_ok,rs]
          rw[ah];have:=fill_seq size aa 0 #[] ab (by simp[h0]);have ad:(aa.map λv=>v.cells.toList).flatten=[]:=Lai (by rw[ag];exact h0);rw[ad]at this ⊢;have e0:Array.map (λ_=>(default:Value)) (Array.range 0)= #[]:=Lf1 sP;simp[h0,newRow,newObj,e0,this,Ck];simp[Sem.run]
        . simp only[Instr.buildSlice,Sem.run_bind,run_underlying hu,Result.andThen_ok,rs]
          rw[ah];have:=fill_seq size aa 0 ((Array.range (aa.length*size)).map (z.cells[· %z.cells.size]!)) ab sP;rw[Lfg,putAll_all _ _ (by simp[ag])]at this;simp[h0,ai,typeInfo,zeroValue,hi,hz,this,newRow,newObj];simp[Sem.run]
      simp only[execOp,Sem.run_bind,e,ac,Result.andThen];rfl) k
theorem Tr.mkRow2g{T E:TypeId}(aa:List Value)(cs:List Value)(hg:Al ops sl g=true)(hk:okN c d C.N=true)(hv:evp sl ps=some vs)
    (hu:C.P.underlying T=some (.slice E)) (hs:Sz C.P E size) (hz:Zr C.P E z) (ah:vs=(aa.zipIdx 0).map λp=>(p.2,p.1)) (ae:aa.length=len) (ab:∀v∈aa,v.cells.size=size) (ak:len*size<=16777216) (aj:(aa.map λv=>v.cells.toList).flatten=cs)
    (k:∀q,Tr C ops rest ⟨(d, .slice (some ⟨q,0,none⟩) len len)::sl,blk q cs E::hp⟩ Q):Tr C ops ((c,⟨some d, .buildSlice T len ps.toArray,ty,pos,af,g⟩)::rest) ⟨sl,hp⟩ Q:=
  Tr.newBg (λm=> .slice (some ⟨m,0,none⟩) len len) hg hk (λx hx=>by
    simp[Op.operands]at hx;obtain⟨i,hm⟩:=hx;exact evp_known hv _ hm) (λρ hf w=>by
    have h2:=evp_map hv λp hp=>hf p.2 (by simp[Op.operands];exact⟨p.1,hp⟩);have e:(ps.toArray.map λ(i,x)=>(i,ρ x))=vs.toArray:=by
      rw[<-h2];simp
    have rs:=Ch hs;unfold Zr at hz;unfold Sz at hs;cases hi:C.P.info? E with
    |none=>rw[hi]at hs;simp at hs
    | some i=>
      rw[hi]at hz;simp only[Lbx]at hz;have ag:=flat_length aa ab;have ai:¬(16777216<len*size):=by omega
      have ac:(Instr.buildSlice T len vs.toArray).run C.P w= .ok (.slice (some ⟨w.heap.size,0,none⟩) len len) { w with heap:=w.heap.push (.cells cs.toArray E) }:=by
        subst aj;subst ae;by_cases h0:aa.length*size=0
        . simp only[Instr.buildSlice,Sem.run_bind,run_underlying hu,Result.andThen_ok,rs]
          rw[ah];have:=fill_seq size aa 0 #[] ab (by simp[h0]);have ad:(aa.map λv=>v.cells.toList).flatten=[]:=Lai (by rw[ag];exact h0);rw[ad]at this ⊢;have e0:Array.map (λ_=>(default:Value)) (Array.range 0)= #[]:=Lf1 sP;simp[h0,newRow,newObj,e0,this,Ck];simp[Sem.run]
        . simp only[Instr.buildSlice,Sem.run_bind,run_underlying hu,Result.andThen_ok,rs]
          rw[ah];have:=fill_seq size aa 0 ((Array.range (aa.length*size)).map (z.cells[· %z.cells.size]!)) ab sP;rw[Lfg,putAll_all _ _ (by simp[ag])]at this;simp[h0,ai,typeInfo,zeroValue,hi,hz,this,newRow,newObj];simp[Sem.run]
      simp only[execOp,Sem.run_bind,e,ac,Result.andThen];rfl) k
theorem Tr.mkRow2{T E:TypeId}(aa:List Value)(cs:List Value)(hk:okN c d C.N=true)(hv:evp sl ps=some vs)
    (hu:C.P.underlying T=some (.slice E)) (hs:Sz C.P E size) (hz:Zr C.P E z) (ae:vs=(aa.zipIdx 0).map λp=>(p.2,p.1)) (ac:aa.length=len) (ag:∀v∈aa,v.cells.size=size) (ab:len*size<=16777216) (ad:(aa.map λv=>v.cells.toList).flatten=cs)
    (k:∀q,Tr C ops rest ⟨(d, .slice (some ⟨q,0,none⟩) len len)::sl,blk q cs E::hp⟩ Q):Tr C ops ((c,⟨some d, .buildSlice T len ps.toArray,ty,pos,af,none⟩)::rest) ⟨sl,hp⟩ Q:=
  .mkRow2g (g:=none) aa cs rfl hk hv hu hs hz ae ac ag ab ad k
theorem Src.ofP{w:World}{tx e':TypeId}{n cp:Nat}{news:List Value}(hk:C.P.underlying tx=some (.slice e'))(hs:SeesP w p news)(hn:p=none->n=0)(hl:news.length=n*size)(h1:∀u∈news,isCell u=true):Src C.P size tx (.slice p n cp) n news w:=by
  cases p with
  | none=>
    have:=hn rfl;subst this;have:news=[]:=Lai (by rw[hl];simp);subst this;exact Src.ofNil w hk cp
  | some a=>
    refine Src.ofSlice w hk a n cp news hl (λj u hj=>?_) λu hu=>one_of_cell (h1 u hu);obtain⟨b,o,e,hc⟩:=hs j u hj;simp only[La7]at e;subst e;rw[B5];exact hc
theorem Tr.appendSl{x y:Operand}{b n cap m size cm by' c2:Nat}{T tx E E2:TypeId}{olds:List Value}(news:List Value)(hg:Al ops sl g=true)(hc:Nat.beq c 4=true)(hd:Nat.blt d C.N=true)
    (hx:Ai sl x=some (.slice (some ⟨b,0,none⟩) n cap)) (hy:Ai sl y=some (.slice p m c2)) (hu:C.P.underlying T=some (.slice E)) (ah:C.P.underlying tx=some (.slice E2)) (hs:Sz C.P E size) (hz:Zr C.P E z) (hb:By C.P E by') (ak:z.cells.size=size)
    (ag:∀w,HRep C hp w->SeesP w p news) (an:p=none->m=0) (aa:∀u∈news,isCell u=true)
    (hp1:hp.Perm (⟨b,olds,E,cm⟩::hp')) (am:cm=cap*size) (ai:olds.length=n*size) (aj:n<=cap) (ad:n+m<=1000000) (ae:(n+m)*by'<=140737488355328)
    (ac:news.length=m*size)
    (k:∀q ab,n+m<=ab->Tr C ops rest ⟨(d, .slice (some ⟨q,0,none⟩) (n+m) ab)::sl,⟨q,olds++news,E,ab*size⟩::hp'⟩ Q):
    Tr C ops ((c,⟨some d, .call { callee:= .builtin .append,args:= #[x,y],argTypes:= #[T,tx] },ty,pos,af,g⟩)::rest) ⟨sl,hp⟩ Q:=
  .appendOwn hg hc hd hx hy hu hs hz hb ak (λw hh=>Src.ofP ah (ag w hh) an ac aa) aa hp1 am ai aj ad ae ac k
theorem Tr.appendToNil{x y:Operand}{m size by' c2:Nat}{T tx E E2:TypeId}(news:List Value)(hg:Al ops sl g=true)(hk:okG c d C.N=true)
    (hx:Ai sl x=some (.slice none 0 0)) (hy:Ai sl y=some (.slice p m c2)) (hu:C.P.underlying T=some (.slice E)) (ai:C.P.underlying tx=some (.slice E2)) (hs:Sz C.P E size) (hz:Zr C.P E z) (hb:By C.P E by') (aj:z.cells.size=size)
    (ag:∀w,HRep C hp w->SeesP w p news) (hm:0<m) (am:p=none->m=0) (ac:∀u∈news,isCell u=true) (an:m<=1000000) (ae:m*by'<=140737488355328) (ad:news.length=m*size)
    (k:∀q aa,m<=aa->Tr C ops rest ⟨(d, .slice (some ⟨q,0,none⟩) m aa)::sl,⟨q,news,E,aa*size⟩::hp⟩ Q):
    Tr C ops ((c,⟨some d, .call { callee:= .builtin .append,args:= #[x,y],argTypes:= #[T,tx] },ty,pos,af,g⟩)::rest) ⟨sl,hp⟩ Q:=by
  simp only[okG,Lap,Lc8]at hk;refine Tr.grow (ρ:=Nat×Nat) (λr=>m<=r.2) (λr=> .slice (some ⟨r.1,0,none⟩) m r.2) (λr=>[⟨r.1,news,E,r.2*size⟩]) (hk.1.imp De De) (A2 hg) (Cb (nblt hk.2))
    ⟨by simpa[Known,Op.operands,Call.operands]using C5 hx hy,λl hl=>?_,λa w hf hh=>?_⟩ (λr hr=>k r.1 r.2 hr)
  . obtain⟨q,_,hq⟩:=fresh_is 0 l
    refine⟨(q,m),Lag _,?_⟩;simp only[Lcg,Lar,Lb6];exact⟨λh=>by obtain⟨b,hb,e⟩:=La6.1 h;exact hq b hb e,hl⟩
  . have h1:=hf x (by simp[Op.operands,Call.operands]);rw[hx]at h1
    have h2:=hf y (by simp[Op.operands,Call.operands]);rw[hy]at h2;simp only[La7]at h1 h2;unfold Sz at hs;unfold Zr at hz;unfold By at hb;cases hi:C.P.info? E with
    |none=>rw[hi]at hs;simp at hs
    | some i=>
      rw[hi]at hs hz hb;simp only[Lbj,La7,Lbx]at hs hz hb;subst hs;have hS:Src C.P i.size tx (.slice p m c2) m news w:=Src.ofP ai (ag w hh) am ad ac;have ab:=run_append_grow_src (P:=C.P) w T tx ty E i z hu hi hz none 0 0 [] (by simp[Builtin.firstCells]) _ m news hS oM oM (growslice_fits oM (by rw[hb];simpa using ae));simp only[Lb0,Lah]at ab;have ak:=grownCap_ge w m 0 E;unfold Oper.wp;have ah:(execOp a.eval ⟨some d, .call { callee:= .builtin .append,args:= #[x,y],argTypes:= #[T,tx] },ty,pos,af,g⟩).run C.P w= .ok (.value (.slice (some ⟨w.heap.size,0,none⟩) m (grownCap w m 0 E))) (w.drew.alloc (.cells (news.toArray++Builtin.zeroCells z.cells (grownCap w m 0 E-m)) E)):=by
        simp[execOp,resolve,invoke,builtin,<-h1,<-h2,ab]
      rw[ah];refine⟨(w.heap.size,grownCap w m 0 E),ak,rfl,Ret.pushD _ _ _ _ ?_ sP⟩;have e:grownCap w m 0 E*i.size=m*i.size+(grownCap w m 0 E-m)*i.size:=by rw[<-Lcf];congr 1;omega
      simp[Builtin.zeroCells,ad,aj,e]
theorem Tr.appendNilNil{x y:Operand}{T tx E E2:TypeId}(hg:Al ops sl g=true)(hk:okD c d C.N=true)
    (hx:Ai sl x=some (.slice none 0 0)) (hy:Ai sl y=some (.slice p 0 c2)) (hu:C.P.underlying T=some (.slice E)) (aa:C.P.underlying tx=some (.slice E2)) (hs:Sz C.P E size)
    (k:Tr C ops rest ⟨(d, .slice none 0 0)::sl,hp⟩ Q):
    Tr C ops ((c,⟨some d, .call { callee:= .builtin .append,args:= #[x,y],argTypes:= #[T,tx] },ty,pos,af,g⟩)::rest) ⟨sl,hp⟩ Q:=
  .pv hg hk ⟨by simpa[Known,Op.operands,Call.operands]using C5 hx hy,λρ hf w=>by
    have h1:=hf x (by simp[Op.operands,Call.operands]);rw[hx]at h1;have h2:=hf y (by simp[Op.operands,Call.operands]);rw[hy]at h2;simp only[La7]at h1 h2;have rs:=Ch hs;cases p<;>simp[execOp,resolve,invoke,builtin,<-h1,<-h2,Builtin.append_,run_underlying hu,run_underlying aa,rs,Builtin.lenOf,Builtin.firstCells,loadCells,loadCellsFrom,storeCells]⟩ k
theorem Tr.sliceLoN{x lo:Operand}{b o n cap:Nat}{T E:TypeId}{kl:IntKind}{l:Int}{sz:Nat}(j:Nat)(hg:Al ops sl g=true)(hk:okD c d C.N=true)(hx:Ai sl x=some (.slice (some ⟨b,o,none⟩) n cap))(hl:Ai sl lo=some (.int kl l))(hj:l=j)(ab:j<=n)(ac:n<=cap)
    (hu:C.P.underlying T=some (.slice E)) (hs:Sz C.P E sz)
    (k:Tr C ops rest ⟨(d, .slice (some ⟨b,if cap=j then o else o+j*sz,none⟩) (n-j) (cap-j))::sl,hp⟩ Q):Tr C ops ((c,⟨some d, .slice T x (some lo) none none,ty,pos,af,g⟩)::rest) ⟨sl,hp⟩ Q:=
  .pv hg hk ⟨by simpa[Known,Op.operands]using C5 hx hl,λρ aa w=>by
    have h1:=aa x (by simp[Op.operands]);rw[hx]at h1;have h2:=aa lo (by simp[Op.operands]);rw[hl]at h2;simp only[La7]at h1 h2;subst hj;by_cases e:cap=j<;>simp[execOp,Instr.sliceAt,Instr.slice,<-h1,<-h2,run_underlying hu,Instr.sliceBounds,Instr.sliceBound,asIntOf,Ch hs,B5,e,ab]⟩ k
theorem Tr.loadS1{T:TypeId}{x:Operand}{b o:Nat}{v:Value}(hg:Al ops sl g=true)(hk:okL c d C.N=true)(hx:Ai sl x=some (ptr b o))(hu:C.P.underlying T=some td)(hp':Ci td=true)(hv:∀w,HRep C hp w->w.cell? ⟨b,o,none⟩=some v)
    (k:Tr C ops rest ⟨(d,v)::sl,hp⟩ Q):Tr C ops ((c,⟨some d, .load T x,ty,pos,af,g⟩)::rest) ⟨sl,hp⟩ Q:=
  .loadAny hg hk hx (λw hr=>by simp[loadVar,run_isAgg_plain hu hp',load,Sem.run,hv w hr]) k
theorem Tr.loadSN{T:TypeId}{x:Operand}{b o:Nat}(r:List Value)(hg:Al ops sl g=true)(hk:okL c d C.N=true)(hx:Ai sl x=some (ptr b o))(hu:C.P.underlying T=some td)(hp':Ci td=false)(hs:Sz C.P T n)(hn:r.length=n)
    (hv:∀w,HRep C hp w->Dd w b o r)
    (k:Tr C ops rest ⟨(d,agg r)::sl,hp⟩ Q):Tr C ops ((c,⟨some d, .load T x,ty,pos,af,g⟩)::rest) ⟨sl,hp⟩ Q:=
  .loadAny hg hk hx (λw hh=>by
    have:=run_row (P:=C.P) (w:=w) (b:=b) (o:=o) hn λj v hj=>hv w hh j v hj;simp[loadVar,run_isAgg_arr hu hp',Ch hs,this]) k
end
variable{k:Nat}{ls:List (List UInt8)}
theorem flatten_get{α:Type}(m:Nat):∀(ls:List (List α)) (i j:Nat) (l:List α),(∀l∈ls,l.length=m)->ls[i]? =some l->j<m->ls.flatten[i*m+j]? =l[j]?
  | [],i,j,l,_,h,_=>by simp at h
  | x::ls,0,j,l,hl,h,hj=>by
    simp only[Lec,La7]at h;subst h;rw[Lcv,Lfg,Lb0,Lb1 (by rw[hl x sP];exact hj)]
  | x::ls,i+1,j,l,hl,h,hj=>by
    rw[Lcv,Lb2 (by rw[hl x sP,Lcf];omega),hl x sP,show(i+1)*m+j-m=i*m+j by rw[Lcf];omega];exact flatten_get m ls i j l (λy hy=>hl y (by simp[hy])) (by simpa using h) hj
theorem flatten_len{α:Type}(m:Nat):∀(ls:List (List α)),(∀l∈ls,l.length=m)->ls.flatten.length=ls.length*m
  | [],_=>by simp
  |x::ls,h=>by rw[Lcv,La2,flatten_len m ls λy hy=>h y (by simp[hy]),h x sP,Lax,Lcf];omega
abbrev Aq(ls:List (List UInt8)):List Value:=(ls.map Aa).flatten
theorem flatB_all{m:Nat}(h:∀l∈ls,l.length=m):∀l∈ls.map Aa,l.length=m:=λl hl=>by
  obtain⟨x,hx,rfl⟩:=La6.1 hl;simp[Aa,h x hx]
theorem As{m:Nat}(h:∀l∈ls,l.length=m):(Aq ls).length=ls.length*m:=by
  rw[Aq,flatten_len m _ (flatB_all h),La0]
theorem Cu(ls:List (List UInt8)):∀u∈Aq ls,isCell u=true:=λu hu=>by
  simp only[Aq,Lhb,La6]at hu;obtain⟨_,⟨l,_,rfl⟩,hu⟩:=hu;simp only[Aa,La6]at hu;obtain⟨_,_,rfl⟩:=hu;rfl
theorem Br(a b:List (List UInt8)):Aq (a++b)=Aq a++Aq b:=by simp[Aq]
theorem Bn{m:Nat}(h:∀l∈ls,l.length=m)(hk:k<ls.length):(ls.getD k []).length=m:=by
  rw[La3,La4 hk,Lbw];exact h _ (Lcq hk)
theorem Bk{w:World}{b o m:Nat}(h:∀l∈ls,l.length=m)(hs:Dd w b o (Aq ls))(hk:k<ls.length):Dd w b (o+k*m) (Aa (ls.getD k [])):=λj v hj=>by
  have hl:=Bn h hk;have aa:j<m:=by
    rcases Lb5 j m with h1|h1
    .exact h1
    .rw[Lav (by simp only[Aa,La0,hl];exact h1)]at hj;cases hj
  rw[Lcs];refine hs _ v ?_;rw[Aq,flatten_get m _ k j (Aa (ls.getD k [])) (flatB_all h) (by rw[Lad,La3,La4 hk];rfl) aa];exact hj
def FreshRow(v:Value)(out:List Blk)(cells:List Value)(T:TypeId)(n size:Nat):Prop:=∃q c,v= .slice (some ⟨q,0,none⟩) n c/\n<=c/\out=[⟨q,cells,T,c*size⟩]
theorem FreshRow.loose(cells:List Value)(T:TypeId)(n size:Nat):Loose λv out=>FreshRow v out cells T n size:=λl hl=>by
  obtain⟨q,_,hq⟩:=fresh_is 0 l;refine⟨_,_,⟨q,n,rfl,Lag _,rfl⟩,?_⟩;simp only[Lcg,Lar,Lb6];exact⟨λh=>by obtain⟨b,hb,e⟩:=La6.1 h;exact hq b hb e,hl⟩
theorem nodup1{l:List Blk}{b:Blk}:(l.map (·.n)).Nodup->([b].map (·.n)).Nodup:=λ_=>by simp
section
variable{C:Cx}{ops:Array Oper}{rest:List (Nat×Oper)}{sl:List (Nat×Value)}{hp:List Blk}{Q:St->Prop}{c d:Nat}{ty:TypeId}{pos:String}{af:Array Edge}{g:Option (Nat×Bool)}
variable{f:Operand}{fid:FuncId}{ars:List Operand}{ats:Array TypeId}{vs:List Value}
theorem Tr.callL{Pre:World->Prop}{R:Value->List Blk->Prop}{ab:List Nat}{L keep:List Blk}(hg:Al ops sl g=true)(hk:Nat.beq c 4=true)(hd:Nat.blt d C.N=true)(ad:Ai sl f=some (.func (.func fid) #[] #[]))(aa:evs sl ars=some vs)(hb:A0 C.P fid)
    (hc:Meets C.P fid vs ab Pre R) (ag:hp.Perm (L++keep)) (hl:∀n∈ab,∃b∈L,b.n=n) (ae:∀w,HRep C hp w->Pre w)
    (k:∀v out,R v out->Tr C ops rest ⟨(d,v)::sl,out++keep⟩ Q):Tr C ops ((c,⟨some d, .call ⟨.value f,ars.toArray,ats⟩,ty,pos,af,g⟩)::rest) ⟨sl,hp⟩ Q:=by
  refine Tr.act (ρ:=Value×List Blk) (λr=>R r.1 r.2) (·.1) (λr=>r.2++keep) (De hk) (A2 hg) (Cb (nblt hd)) ⟨known_call ad aa,λa w hf hh=>?_⟩ (λr hr=>k r.1 r.2 hr);unfold Oper.wp;rw[run_call ad aa hf,hb];refine(hc w (ae w hh)).mono λe w' ⟨v,out,he,hR,ac⟩=>?_;subst he;exact⟨(v,out),hR,rfl,hh.lentRet ag hl ac⟩
end
def LooseL(lent:List Nat)(R:Value->List Blk->Prop):Prop:=∀l:List Blk,(l.map (·.n)).Nodup->(∀b∈l,b.n∉lent)->∃v out,R v out/\((out++l).map (·.n)).Nodup
section
variable{C:Cx}{ops:Array Oper}{rest:List (Nat×Oper)}{sl:List (Nat×Value)}{hp:List Blk}{Q:St->Prop}{c d:Nat}{ty:TypeId}{pos:String}{af:Array Edge}{g:Option (Nat×Bool)}
variable{f:Operand}{fid:FuncId}{ars:List Operand}{ats:Array TypeId}{vs:List Value}
theorem Tr.callL5{Pre:World->Prop}{R:Value->List Blk->Prop}{aa:List Nat}{L keep:List Blk}(hg:Al ops sl g=true)(hk:Nat.beq c 5=true)(hd:Nat.blt d C.N=true)(ad:Ai sl f=some (.func (.func fid) #[] #[]))(ab:evs sl ars=some vs)(hb:A0 C.P fid)
    (hc:Meets C.P fid vs aa Pre R) (ah:LooseL aa R) (ag:hp.Perm (L++keep)) (hl:∀n∈aa,∃b∈L,b.n=n) (ae:∀w,HRep C hp w->Pre w)
    (k:∀v out,R v out->Tr C ops rest ⟨(d,v)::sl,out++keep⟩ Q):Tr C ops ((c,⟨some d, .call ⟨.value f,ars.toArray,ats⟩,ty,pos,af,g⟩)::rest) ⟨sl,hp⟩ Q:=by
  refine Tr.lend (ρ:=Value×List Blk) (λr=>R r.1 r.2) (·.1) (·.2) aa L keep (.inl (De hk)) (A2 hg) (Cb (nblt hd)) ag hl ⟨known_call ad ab,λl h1 h2=>?_,λa w hf hh=>?_⟩ (λr hr=>k r.1 r.2 hr)
  . obtain⟨v,out,h3,h4⟩:=ah l h1 h2
    exact⟨(v,out),h3,h4⟩
  unfold Oper.wp;rw[run_call ad ab hf,hb];refine(hc w (ae w hh)).mono λe w' ⟨v,out,he,hR,ac⟩=>?_;subst he;exact⟨(v,out),hR,rfl,ac⟩
end
section
variable{C:Cx}{ops:Array Oper}{rest:List (Nat×Oper)}{sl:List (Nat×Value)}{hp:List Blk}{Q:St->Prop}{c d:Nat}{ty:TypeId}{pos:String}{af:Array Edge}{g:Option (Nat×Bool)}
variable{f:Operand}{fid:FuncId}{ars:List Operand}{ats:Array TypeId}{vs us:List Value}{fst cap:Array Value}
variable{Pre:World->Prop}{R:Value->List Blk->Prop}
theorem known_callC(ab:Ai sl f=some (.func (.func fid) fst cap))(aa:evs sl ars=some vs):Known sl ⟨some d, .call ⟨.value f,ars.toArray,ats⟩,ty,pos,af,g⟩:=by
  intro x hx;simp[Op.operands,Call.operands]at hx;rcases hx with rfl|hx
  .simp[ab]
  .exact evs_known aa x hx
theorem run_callC{ρ:Operand->Value}{w:World}(ab:Ai sl f=some (.func (.func fid) fst cap))(aa:evs sl ars=some vs)(ac:fst.toList++vs++cap.toList=us)
    (hf:Fits sl ⟨some d, .call ⟨.value f,ars.toArray,ats⟩,ty,pos,af,g⟩ ρ):
    (execOp ρ ⟨some d, .call ⟨.value f,ars.toArray,ats⟩,ty,pos,af,g⟩).run C.P w=(callFunc fid us.toArray).run C.P w:=by
  have h1:=hf f (by simp[Op.operands,Call.operands]);rw[ab]at h1;simp only[La7]at h1;have h2:=evs_map aa λx hx=>hf x (by simp[Op.operands,Call.operands,hx]);have e:fst++vs.toArray++cap=us.toArray:=by rw[<-ac];simp
  simp[execOp,resolve,Deferred.ofValue,<-h1,h2,invoke];rw[<-e,Array.append_assoc]
theorem Tr.callC(hg:Al ops sl g=true)(hk:okG c d C.N=true)(ac:Ai sl f=some (.func (.func fid) fst cap))(aa:evs sl ars=some vs)(ae:fst.toList++vs++cap.toList=us)(hb:A0 C.P fid)
    (hc:Meets C.P fid us [] Pre R) (hl:Loose R) (ad:∀w,HRep C hp w->Pre w)
    (k:∀v out,R v out->Tr C ops rest ⟨(d,v)::sl,out++hp⟩ Q):Tr C ops ((c,⟨some d, .call ⟨.value f,ars.toArray,ats⟩,ty,pos,af,g⟩)::rest) ⟨sl,hp⟩ Q:=by
  simp only[okG,Lap,Lc8]at hk;refine Tr.grow (ρ:=Value×List Blk) (λr=>R r.1 r.2) (·.1) (·.2) (hk.1.imp De De) (A2 hg) (Cb (nblt hk.2)) ⟨known_callC ac aa,λl hn=>?_,λa w hf hh=>?_⟩ (λr hr=>k r.1 r.2 hr)
  . obtain⟨v,out,h1,h2⟩:=hl l hn
    exact⟨(v,out),h1,h2⟩
  unfold Oper.wp;rw[run_callC ac aa ae hf,hb];refine(hc w (ad w hh)).mono λe w' ⟨v,out,he,hR,ab⟩=>?_;subst he;exact⟨(v,out),hR,rfl,ab⟩
theorem Tr.callCL{ab:List Nat}{L keep:List Blk}(hg:Al ops sl g=true)(hk:Nat.beq c 4=true)(hd:Nat.blt d C.N=true)(ad:Ai sl f=some (.func (.func fid) fst cap))(aa:evs sl ars=some vs)(ah:fst.toList++vs++cap.toList=us)(hb:A0 C.P fid)
    (hc:Meets C.P fid us ab Pre R) (ag:hp.Perm (L++keep)) (hl:∀n∈ab,∃b∈L,b.n=n) (ae:∀w,HRep C hp w->Pre w)
    (k:∀v out,R v out->Tr C ops rest ⟨(d,v)::sl,out++keep⟩ Q):Tr C ops ((c,⟨some d, .call ⟨.value f,ars.toArray,ats⟩,ty,pos,af,g⟩)::rest) ⟨sl,hp⟩ Q:=by
  refine Tr.act (ρ:=Value×List Blk) (λr=>R r.1 r.2) (·.1) (λr=>r.2++keep) (De hk) (A2 hg) (Cb (nblt hd)) ⟨known_callC ad aa,λa w hf hh=>?_⟩ (λr hr=>k r.1 r.2 hr);unfold Oper.wp;rw[run_callC ad aa ah hf,hb];refine(hc w (ae w hh)).mono λe w' ⟨v,out,he,hR,ac⟩=>?_;subst he;exact⟨(v,out),hR,rfl,hh.lentRet ag hl ac⟩
theorem Tr.makeFunc{fn:Fn}{ars bs:List Operand}(hg:Al ops sl g=true)(hk:okD c d C.N=true)(ha:evs sl ars=some us)(hb:evs sl bs=some vs)
    (k:Tr C ops rest ⟨(d, .func fn us.toArray vs.toArray)::sl,hp⟩ Q):Tr C ops ((c,⟨some d, .makeFunc fn ars.toArray bs.toArray,ty,pos,af,g⟩)::rest) ⟨sl,hp⟩ Q:=
  .pv hg hk ⟨λx hx=>by
    simp[Op.operands]at hx;rcases hx with hx|hx
    .exact evs_known ha x hx
    .exact evs_known hb x hx,λρ hf w=>by
    have h1:=evs_map ha λx hx=>hf x (by simp[Op.operands,hx]);have h2:=evs_map hb λx hx=>hf x (by simp[Op.operands,hx]);simp[execOp,Instr.makeFunc,h1,h2]⟩ k
end
variable{B:Blk}
theorem HRep.one{P:Program}{W:World}{N:Nat}(h:BlkOk W B):HRep ⟨P,W,N,[B.n],[],[]⟩ [B] W:=
  ⟨λb hb=>by rw[La1.1 hb];exact h,by simp,λb hb=>by rw[La1.1 hb];exact .inr La9,Keeps.refl _ _,λ_ h=>(by cases h),λ_ _ _ h=>(by cases h)⟩
theorem Cd{C:Cx}{hp:List Blk}{w:World}(h:HRep C hp w)(hb:B∈hp):BlkOk w B:=h.cells B hb
section
variable{C:Cx}{ops:Array Oper}{rest:List (Nat×Oper)}{sl:List (Nat×Value)}{hp:List Blk}{Q:St->Prop}{c d:Nat}{ty:TypeId}{pos:String}{af:Array Edge}{g:Option (Nat×Bool)}
variable{xT yT:TypeId}{x y:Operand}{p q:UInt8}
variable{E:TypeId}{ats:Array TypeId}{cap n sz:Nat}{i:Int}{k1 k2 ki ky:IntKind}
theorem Tr.min2{a b:Int}{v:Value}(hg:Al ops sl g=true)(hk:okD c d C.N=true)(hx:Ai sl x=some (.int k1 a))(hy:Ai sl y=some (.int k2 b))(hv:Value.int k1 (if b<a then b else a)=v)
    (k:Tr C ops rest ⟨(d,v)::sl,hp⟩ Q):Tr C ops ((c,⟨some d, .call { callee:= .builtin .min,args:= #[x,y],argTypes:=ats },ty,pos,af,g⟩)::rest) ⟨sl,hp⟩ Q:=
  .pv hg hk ⟨by simpa[Known,Op.operands,Call.operands]using C5 hx hy,λρ hf w=>by
    have h1:=hf x (by simp[Op.operands,Call.operands]);rw[hx]at h1;have h2:=hf y (by simp[Op.operands,Call.operands]);rw[hy]at h2;simp only[La7]at h1 h2;subst hv;simp[execOp,resolve,invoke,builtin,<-h1,<-h2,Builtin.min_,Builtin.min2]⟩ k
theorem Tr.max2{a b:Int}{v:Value}(hg:Al ops sl g=true)(hk:okD c d C.N=true)(hx:Ai sl x=some (.int k1 a))(hy:Ai sl y=some (.int k2 b))(hv:Value.int k1 (if b>a then b else a)=v)
    (k:Tr C ops rest ⟨(d,v)::sl,hp⟩ Q):Tr C ops ((c,⟨some d, .call { callee:= .builtin .max,args:= #[x,y],argTypes:=ats },ty,pos,af,g⟩)::rest) ⟨sl,hp⟩ Q:=
  .pv hg hk ⟨by simpa[Known,Op.operands,Call.operands]using C5 hx hy,λρ hf w=>by
    have h1:=hf x (by simp[Op.operands,Call.operands]);rw[hx]at h1;have h2:=hf y (by simp[Op.operands,Call.operands]);rw[hy]at h2;simp only[La7]at h1 h2;subst hv;simp[execOp,resolve,invoke,builtin,<-h1,<-h2,Builtin.max_,Builtin.max2]⟩ k
theorem Tr.nC{a:Addr}(hg:Al ops sl g=true)(hk:okD c d C.N=true)(hx:Ai sl x=some (.pointer (some a)))
    (k:Tr C ops rest ⟨(d, .pointer (some a))::sl,hp⟩ Q):Tr C ops ((c,⟨some d, .nilCheck x,ty,pos,af,g⟩)::rest) ⟨sl,hp⟩ Q:=
  .pv hg hk ⟨known1 hx,λρ hf w=>by
    have h1:=hf x (by simp[Op.operands]);rw[hx]at h1;simp only[La7]at h1;simp[execOp,<-h1]⟩ k
theorem pointee_of{P:Program}{T E:TypeId}(hu:P.underlying T=some (.pointer E)):P.underlying T=some (.pointer (P.pointee T)):=by
  have:P.pointee T=E:=by simp[Program.pointee,hu]
  rw[this];exact hu
theorem Tr.neqNilP{a:Addr}(hg:Al ops sl g=true)(hk:okD c d C.N=true)(hx:Ai sl x=some (.pointer (some a)))(hy:Ai sl y=some (.pointer none))(hu:C.P.underlying xT=some (.pointer E))
    (k:Tr C ops rest ⟨(d, .bool true)::sl,hp⟩ Q):Tr C ops ((c,⟨some d, .binOp .neq xT x y yT,ty,pos,af,g⟩)::rest) ⟨sl,hp⟩ Q:=
  .binAny hg hk hx hy (λw=>by simp[eqGuard]) (λw=>by rw[run_neq_pointer_nil w xT (some a) (pointee_of hu)];rfl) k
theorem Tr.eqNilP{a:Addr}(hg:Al ops sl g=true)(hk:okD c d C.N=true)(hx:Ai sl x=some (.pointer (some a)))(hy:Ai sl y=some (.pointer none))(hu:C.P.underlying xT=some (.pointer E))
    (k:Tr C ops rest ⟨(d, .bool false)::sl,hp⟩ Q):Tr C ops ((c,⟨some d, .binOp .eql xT x y yT,ty,pos,af,g⟩)::rest) ⟨sl,hp⟩ Q:=
  .binAny hg hk hx hy (λw=>by simp[eqGuard]) (λw=>by rw[run_eql_pointer_nil w xT (some a) (pointee_of hu)];rfl) k
theorem Tr.eqSameP{a:Addr}(hg:Al ops sl g=true)(hk:okD c d C.N=true)(hx:Ai sl x=some (.pointer (some a)))(hy:Ai sl y=some (.pointer (some a)))(hu:C.P.underlying xT=some (.pointer E))(hs:Sz C.P E sz)
    (k:Tr C ops rest ⟨(d, .bool true)::sl,hp⟩ Q):Tr C ops ((c,⟨some d, .binOp .eql xT x y yT,ty,pos,af,g⟩)::rest) ⟨sl,hp⟩ Q:=
  .binAny hg hk hx hy (λw=>by simp[eqGuard]) (λw=>by
    unfold Sz at hs;cases hi:C.P.info? E with
    |none=>rw[hi]at hs;simp at hs
    |some i=>exact run_eql_ptr_same w a hu hi) k
theorem Tr.eqNilS{ad:Option Addr}(hg:Al ops sl g=true)(hk:okD c d C.N=true)(hx:Ai sl x=some (.slice ad n cap))(hy:Ai sl y=some (.slice none 0 0))(hu:C.P.underlying xT=some (.slice E)){r:Bool}(hr:ad.isNone=r)
    (k:Tr C ops rest ⟨(d, .bool r)::sl,hp⟩ Q):Tr C ops ((c,⟨some d, .binOp .eql xT x y yT,ty,pos,af,g⟩)::rest) ⟨sl,hp⟩ Q:=
  .binAny hg hk hx hy (λw=>by simp[eqGuard]) (λw=>by
    subst hr;have h:=run_equal_slice_nil w xT E ad n cap hu;simp only[binOp,Sem.run_bind,h,Result.andThen_ok];rfl) k
theorem Tr.or_u8(hg:Al ops sl g=true)(hk:okD c d C.N=true)(hx:Ai sl x=some (u8 p))(hy:Ai sl y=some (u8 q))
    (k:Tr C ops rest ⟨(d,u8 (p|||q))::sl,hp⟩ Q):Tr C ops ((c,⟨some d, .binOp .or xT x y yT,ty,pos,af,g⟩)::rest) ⟨sl,hp⟩ Q:=
  .bin hg hk hx hy (λw=>congrArg (λn=>Result.ok (Value.int .u8 n) w) (bits8 (· ||| ·) (· ||| ·) (λ_ _=>rfl) p q)) k
def shl8(x:UInt8)(n:Nat):UInt8:=UInt8.ofNat (x.toNat*2^n)
theorem shl8_eq(x:UInt8)(n:Nat):IntKind.u8.wrap ((x.toNat:Int)*2^n)=((shl8 x n).toNat:Int):=by
  rw[IntKind.wrap_u8,shl8,Lb9];have:((x.toNat:Int)*2^n)=((x.toNat*2^n:Nat):Int):=by simp
  rw[this];omega
theorem Tr.shl_u8{b:Int}(hg:Al ops sl g=true)(hk:okD c d C.N=true)(hx:Ai sl x=some (u8 p))(hy:Ai sl y=some (.int ky b))(n:Nat)(hn:b=n)(hr:n<=8)
    (k:Tr C ops rest ⟨(d,u8 (shl8 p n))::sl,hp⟩ Q):Tr C ops ((c,⟨some d, .binOp .shl xT x y yT,ty,pos,af,g⟩)::rest) ⟨sl,hp⟩ Q:=
  .bin hg hk hx hy (λw=>by
    subst hn;simp only[binOp,Op.shift,IntKind.bits];rw[if_neg oM,Lez,Lc6 hr,shl8_eq];rfl) k
theorem Tr.not_u64{p:UInt64}(hg:Al ops sl g=true)(hk:okD c d C.N=true)(hx:Ai sl x=some (u64 p))
    (k:Tr C ops rest ⟨(d,u64 (18446744073709551615^^^p))::sl,hp⟩ Q):Tr C ops ((c,⟨some d, .unOp .xor xT x,ty,pos,af,g⟩)::rest) ⟨sl,hp⟩ Q:=
  .pv hg hk ⟨known1 hx,λρ hf w=>by
    have h1:=hf x (by simp[Op.operands]);rw[hx]at h1;simp only[La7]at h1;have h2:=bits64 (· ^^^ ·) (· ^^^ ·) (λ_ _=>rfl) 18446744073709551615 p;simp only[execOp,<-h1];have e:(Op.unary .xor (u64 p)).run C.P w= .ok (u64 (18446744073709551615^^^p)) w:=congrArg (λn=>Result.ok (Value.int .u64 n) w) h2;simp[e]⟩ k
theorem Tr.idxStr{s:ByteArray}{b:UInt8}(hg:Al ops sl g=true)(hk:okD c d C.N=true)(hx:Ai sl x=some (.string s))(hy:Ai sl y=some (.int ki i))(hu:C.P.underlying xT=some .string)(j:Nat)(hj:i=j)(hb:s[j]? =some b)
    (k:Tr C ops rest ⟨(d,u8 b)::sl,hp⟩ Q):Tr C ops ((c,⟨some d, .index xT x y,ty,pos,af,g⟩)::rest) ⟨sl,hp⟩ Q:=
  .pv hg hk ⟨C5 hx hy,λρ hf w=>by
    have h1:=hf x (by simp[Op.operands]);rw[hx]at h1;have h2:=hf y (by simp[Op.operands]);rw[hy]at h2;simp only[La7]at h1 h2;subst hj;simp[execOp,Instr.index,<-h1,<-h2,asIntOf,run_underlying hu,hb]⟩ k
theorem Tr.idxA1{cs:List Value}{v:Value}{td:TypeDesc}(hg:Al ops sl g=true)(hk:okD c d C.N=true)(hx:Ai sl x=some (agg cs))(hy:Ai sl y=some (.int ki i))(hu:C.P.underlying xT=some (.array n E))(hs:Sz C.P E 1)(he:C.P.underlying E=some td)(hp':Ci td=true)(j:Nat)(hj:i=j)(aa:j<n)(hv:cs[j]? =some v)
    (k:Tr C ops rest ⟨(d,v)::sl,hp⟩ Q):Tr C ops ((c,⟨some d, .index xT x y,ty,pos,af,g⟩)::rest) ⟨sl,hp⟩ Q:=
  .pv hg hk ⟨C5 hx hy,λρ hf w=>by
    have h1:=hf x (by simp[Op.operands]);rw[hx]at h1;have h2:=hf y (by simp[Op.operands]);rw[hy]at h2;simp only[La7]at h1 h2;subst hj;have h3:=run_part1 (w:=w) he hp' hv;simp[execOp,Instr.index,<-h1,<-h2,asIntOf,run_underlying hu,Ch hs,aa,agg,h3]⟩ k
theorem Tr.s2a{aa E:TypeId}{a:Addr}{n len cap:Nat}(hg:Al ops sl g=true)(hk:okD c d C.N=true)(hx:Ai sl x=some (.slice (some a) len cap))(hu:C.P.underlying aa=some (.array n E))(hn:n<=len)
    (k:Tr C ops rest ⟨(d, .pointer (some a))::sl,hp⟩ Q):Tr C ops ((c,⟨some d, .sliceToArrayPointer aa x,ty,pos,af,g⟩)::rest) ⟨sl,hp⟩ Q:=
  .pv hg hk ⟨known1 hx,λρ hf w=>by
    have h1:=hf x (by simp[Op.operands]);rw[hx]at h1;simp only[La7]at h1;simp[execOp,Instr.arrayAt,<-h1,run_underlying hu,show ¬len<n by omega]⟩ k
theorem Tr.sliceLoHiN{lo hi:Operand}{b o n cap:Nat}{T E:TypeId}{kl kh:IntKind}{l h:Int}(i j:Nat)(hg:Al ops sl g=true)(hk:okD c d C.N=true)(hx:Ai sl x=some (.slice (some ⟨b,o,none⟩) n cap))(hl:Ai sl lo=some (.int kl l))(hh:Ai sl hi=some (.int kh h))(ad:l=i)(hj:h=j)(ac:i<=j)(ab:j<=cap)
    (hu:C.P.underlying T=some (.slice E)) (hs:Sz C.P E sz)
    (k:Tr C ops rest ⟨(d, .slice (some ⟨b,if cap=i then o else o+i*sz,none⟩) (j-i) (cap-i))::sl,hp⟩ Q):Tr C ops ((c,⟨some d, .slice T x (some lo) (some hi) none,ty,pos,af,g⟩)::rest) ⟨sl,hp⟩ Q:=
  .pv hg hk ⟨λz hz=>by
    simp[Op.operands]at hz;rcases hz with rfl|rfl|rfl
    .simp[hx]
    .simp[hl]
    .simp[hh],λρ aa w=>by
    have h1:=aa x (by simp[Op.operands]);rw[hx]at h1;have h2:=aa lo (by simp[Op.operands]);rw[hl]at h2;have h3:=aa hi (by simp[Op.operands]);rw[hh]at h3;simp only[La7]at h1 h2 h3;subst ad;subst hj;by_cases e:cap=i
    . subst e
      simp[execOp,Instr.sliceAt,Instr.slice,<-h1,<-h2,<-h3,run_underlying hu,Instr.sliceBounds,Instr.sliceBound,asIntOf,Ch hs,B5,ab,ac]
    .simp[execOp,Instr.sliceAt,Instr.slice,<-h1,<-h2,<-h3,run_underlying hu,Instr.sliceBounds,Instr.sliceBound,asIntOf,Ch hs,B5,e,ab,ac]⟩ k
theorem Tr.mkRoom{T E:TypeId}{kx ky:IntKind}{z:Value}{by':Nat}{mi:Int}(m:Nat)(hg:Al ops sl g=true)(hk:okG c d C.N=true)(hx:Ai sl x=some (.int kx 0))(hy:Ai sl y=some (.int ky mi))(ac:mi=m)
    (hu:C.P.underlying T=some (.slice E)) (hs:Sz C.P E 1) (hz:Zr C.P E z) (hb:By C.P E by') (hc:z.cells= #[z]) (hn:m<=1000000) (ab:by'<=64)
    (k:∀q,Tr C ops rest ⟨(d, .slice (some ⟨q,0,none⟩) 0 m)::sl,⟨q,[],E,m⟩::hp⟩ Q):Tr C ops ((c,⟨some d, .makeSlice T x y,ty,pos,af,g⟩)::rest) ⟨sl,hp⟩ Q:=by
  subst ac;have ae:=hk;simp only[okG,Lap,Lc8]at hk;refine Tr.grow (ρ:=Nat) (λ_=>True) (λq=> .slice (some ⟨q,0,none⟩) 0 m) (λq=>[⟨q,[],E,m⟩]) (hk.1.imp De De) (A2 hg) (Cb (nblt hk.2)) ⟨C5 hx hy,λl hl=>?_,λa w hf hh=>?_⟩ (λq _=>k q)
  . obtain⟨q,_,hq⟩:=fresh_is 0 l
    refine⟨q,trivial,?_⟩;simp only[Lcg,Lar,Lb6];exact⟨λh=>by obtain⟨b,hb,e⟩:=La6.1 h;exact hq b hb e,hl⟩
  . have h1:=hf x (by simp[Op.operands]);rw[hx]at h1
    have h2:=hf y (by simp[Op.operands]);rw[hy]at h2;simp only[La7]at h1 h2;have rs:=Ch hs;unfold Sz at hs;unfold Zr at hz;unfold By at hb;cases hi:C.P.info? E with
    |none=>rw[hi]at hs;simp at hs
    | some i=>
      rw[hi]at hs hz hb;simp only[Lbj,La7,Lbx]at hs hz hb;have wn:IntKind.i64.wrap (m:Int)=m:=i64_wrap oM;have w0:IntKind.i64.wrap 0=0:=by decide
      have hm:by'*m<=64*1000000:=Ld1 ab hn;have ad:((by':Int)*m)=((by'*m:Nat):Int):=by simp
      have n1:¬((m:Int)<0):=by omega
      have n2:¬(281474976710656<(i.bytes:Int)*m):=by rw[hb,ad];omega
      have n5:¬(140737488355328<m*i.bytes):=by rw[hb,Lbk];omega
      have aa:(execOp a.eval ⟨some d, .makeSlice T x y,ty,pos,af,g⟩).run C.P w= .ok (.value (.slice (some ⟨w.heap.size,0,none⟩) 0 m)) { w with heap:=w.heap.push (.cells (Array.replicate m z) E) }:=by
        by_cases h0:m=0
        . subst h0
          simp[execOp,Instr.makeSlice,run_underlying hu,asInt,asIntOf,typeInfo,hi,rs,zeroValue,hz,<-h1,<-h2,w0,newRow,newObj,askRoom,roomBytes];simp[Sem.run];have e0:Array.map (λ_=>(default:Value)) (Array.range 0)= #[]:=Lf1 sP;rw[e0]
        . simp[execOp,Instr.makeSlice,run_underlying hu,asInt,asIntOf,typeInfo,hi,rs,zeroValue,hz,<-h1,<-h2,wn,w0,n1,n2,n5,h0,newRow,newObj,askRoom,roomBytes,row_eq m z hc]
          simp[Sem.run]
      unfold Oper.wp;rw[aa];refine⟨w.heap.size,trivial,rfl,⟨⟨rfl,rfl,rfl,by simp,Lag _,λk hk _=>?_⟩,λb hb=>?_,by simp,λb hb=>?_⟩⟩
      . simp only[Lc9]
        rw[if_neg oM]
      . obtain rfl:=La1.1 hb
        exact⟨Array.replicate m z,(0,0),by simp,by simp,by simp,free0⟩
      . obtain rfl:=La1.1 hb
        exact .inl (Lag _)
end
end Hw
end
