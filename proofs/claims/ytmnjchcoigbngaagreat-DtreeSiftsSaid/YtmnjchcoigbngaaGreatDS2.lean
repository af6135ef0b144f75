/- Contracts of the functions that the law DS reaches, and the law itself, for every input; no condition. -/
import Derived.KernelRfl
import Derived.Test.YtmnjchcoigbngaaGreatProg
import Derived.Shelf.Spec.SlicesInsertGrow
import Derived.Shelf.Spec.SlicesGrow
import Derived.Test.YtmnjchcoigbngaaGreatDS1
set_option linter.unusedSimpArgs false
set_option linter.unusedVariables false
namespace Go.Proofs.YtmnjchcoigbngaaGreat
open Go Go.Proofs
def r23_0 : List SO := [
  sO 4 (.box 24 1 (.t 0)),
  sO 8 (.alloc 24 [.nilsl]),
  sO 9 (.mv (.c (.int .i64 0)))]
def r23_1 : List SO := [
  sO 18 (.load true 1 (.t 4)),
  sO 19 (.call false 11 [.t 18]),
  sO 10 (.mv (.t 19))]
def r23_2 : List SO := [
  sO 20 (.mv (.t 10)),
  sO 21 (.bin .neq (.t 20) (.c (.int .i64 0)))]
def r23_3 : List SO := [
  sO 22 (.load true 1 (.t 4)),
  sO 23 (.mv (.t 10)),
  sN (.store 1 (.t 8) (.t 22)),
  sO 9 (.mv (.t 23))]
def r23_4 : List SO := [
  sO 24 (.load true 1 (.t 4)),
  sO 25 (.mv (.t 1)),
  sO 26 (.call false 54 [.t 24, .t 25, .c (.bool false)]),
  sO 11 (.mv (.t 26))]
def r23_5 : List SO := [
  sO 27 (.mv (.t 11)),
  sO 28 (.bin .neq (.t 27) (.c (.int .i64 0)))]
def r23_6 : List SO := [
  sO 29 (.load true 1 (.t 4)),
  sO 30 (.mv (.t 11)),
  sN (.store 1 (.t 8) (.t 29)),
  sO 9 (.mv (.t 30))]
def r23_7 : List SO := [
  sO 31 (.mv (.t 2)),
  sO 32 (.fld 0 (.t 4)),
  sO 33 (.load false 1 (.t 32)),
  sO 34 (.mv (.t 1)),
  sO 35 (.idx 5 (.t 33) (.t 34)),
  sO 36 (.fld 2 (.t 35)),
  sO 37 (.load false 1 (.t 36)),
  sO 38 (.call false 55 [.t 31, .t 37]),
  sO 12 (.mv (.t 38))]
def r23_8 : List SO := [
  sO 39 (.mv (.t 12)),
  sO 40 (.bin .neq (.t 39) (.c (.int .i64 0)))]
def r23_9 : List SO := [
  sO 41 (.load true 1 (.t 4)),
  sO 42 (.mv (.t 12)),
  sN (.store 1 (.t 8) (.t 41)),
  sO 9 (.mv (.t 42))]
def r23_10 : List SO := [
  sO 44 (.fld 0 (.t 4)),
  sO 45 (.load false 1 (.t 44)),
  sO 46 (.mv (.t 1)),
  sO 47 (.idx 5 (.t 45) (.t 46)),
  sO 48 (.load true 5 (.t 47)),
  sO 49 (.mv (.t 2)),
  sO 50 (.call false 51 [.t 48, .t 49]),
  sO 43 (.mv (.t 50)),
  sO 51 (.ext (.t 43) 0),
  sO 52 (.ext (.t 43) 1),
  sO 13 (.mv (.t 51)),
  sO 14 (.mv (.t 52))]
def r23_11 : List SO := [
  sO 53 (.mv (.t 14))]
def r23_12 : List SO := [
  sO 54 (.load true 1 (.t 4)),
  sN (.store 1 (.t 8) (.t 54)),
  sO 9 (.mv (.c (.int .i64 7)))]
def r23_13 : List SO := [
  sO 55 (.load true 1 (.t 4)),
  sO 56 (.mv (.t 3)),
  sO 57 (.call false 56 [.t 55, .t 56]),
  sO 15 (.mv (.t 57))]
def r23_14 : List SO := [
  sO 58 (.mv (.t 15)),
  sO 59 (.bin .neq (.t 58) (.c (.int .i64 0)))]
def r23_15 : List SO := [
  sO 60 (.load true 1 (.t 4)),
  sO 61 (.mv (.t 15)),
  sN (.store 1 (.t 8) (.t 60)),
  sO 9 (.mv (.t 61))]
def r23_16 : List SO := [
  sO 62 (.fld 0 (.t 4)),
  sO 63 (.load false 1 (.t 62)),
  sO 64 (.len (.t 63)),
  sO 65 (.bin .geq (.t 64) (.c (.int .i64 4096)))]
def r23_17 : List SO := [
  sO 66 (.load true 1 (.t 4)),
  sN (.store 1 (.t 8) (.t 66)),
  sO 9 (.mv (.c (.int .i64 11)))]
def r23_18 : List SO := [
  sO 67 (.load true 1 (.t 4)),
  sO 68 (.call true 57 [.t 67]),
  sO 16 (.alloc 24 [.nilsl]),
  sN (.store 1 (.t 16) (.t 68))]
def r23_19 : List SO := [
  sO 69 (.fld 0 (.t 16)),
  sO 70 (.load false 1 (.t 69)),
  sO 71 (.mv (.t 1)),
  sO 72 (.idx 5 (.t 70) (.t 71)),
  sO 17 (.mv (.t 72))]
def r23_20 : List SO := [
  sO 73 (.mv (.t 17)),
  sO 74 (.mv (.t 17)),
  sO 75 (.nilck (.t 74)),
  sO 76 (.fld 3 (.t 75)),
  sO 77 (.load false 1 (.t 76)),
  sO 78 (.mv (.t 13)),
  sO 79 (.mv (.t 2)),
  sO 80 (.bslice 38 1 false [.nilsl] 1 [(0, .t 79)]),
  sO 81 (.call false 49 [.t 80]),
  sO 82 (.bslice 38 1 true [.nilsl] 1 [(0, .t 81)]),
  sO 83 (.call true 58 [.t 77, .t 78, .t 82]),
  sO 84 (.nilck (.t 73)),
  sO 85 (.fld 3 (.t 84)),
  sN (.store 1 (.t 85) (.t 83))]
def r23_21 : List SO := [
  sO 86 (.mv (.t 17)),
  sO 87 (.mv (.t 17)),
  sO 88 (.nilck (.t 87)),
  sO 89 (.fld 4 (.t 88)),
  sO 90 (.load false 1 (.t 89)),
  sO 91 (.mv (.t 13)),
  sO 92 (.fld 0 (.t 4)),
  sO 93 (.load false 1 (.t 92)),
  sO 94 (.len (.t 93)),
  sO 95 (.bslice 3 1 true [.int .i64 0] 1 [(0, .t 94)]),
  sO 96 (.call true 59 [.t 90, .t 91, .t 95]),
  sO 97 (.nilck (.t 86)),
  sO 98 (.fld 4 (.t 97)),
  sN (.store 1 (.t 98) (.t 96))]
def r23_22 : List SO := [
  sO 99 (.fld 0 (.t 16)),
  sO 100 (.load false 1 (.t 99)),
  sO 101 (.mv (.t 3)),
  sO 102 (.bslice 38 1 false [.nilsl] 1 [(0, .t 101)]),
  sO 103 (.call false 49 [.t 102]),
  sO 104 (.build [.bool false, .nilsl, .nilsl, .nilsl, .nilsl] [(0, 1, .c (.bool true)), (1, 1, .t 103)]),
  sO 105 (.bslice 68 5 false [.bool false, .nilsl, .nilsl, .nilsl, .nilsl] 1 [(0, .t 104)]),
  sO 106 (.append 68 5 104 (.t 100) (.t 105)),
  sO 107 (.fld 0 (.t 16)),
  sN (.store 1 (.t 107) (.t 106))]
def r23_23 : List SO := [
  sO 108 (.load true 1 (.t 16)),
  sN (.store 1 (.t 8) (.t 108)),
  sO 9 (.mv (.c (.int .i64 0)))]
def s23 : SF := ⟨109, [.cell 8 true 1, .tmp 9], .seq (.reg r23_0) (.seq (.seq (.reg r23_1) (.seq (.reg r23_2) (.cond (.t 21) (.seq (.reg r23_3) (.ret)) (.skip)))) (.seq (.seq (.reg r23_4) (.seq (.reg r23_5) (.cond (.t 28) (.seq (.reg r23_6) (.ret)) (.skip)))) (.seq (.seq (.reg r23_7) (.seq (.reg r23_8) (.cond (.t 40) (.seq (.reg r23_9) (.ret)) (.skip)))) (.seq (.reg r23_10) (.seq (.seq (.reg r23_11) (.cond (.t 53) (.seq (.reg r23_12) (.ret)) (.skip))) (.seq (.seq (.reg r23_13) (.seq (.reg r23_14) (.cond (.t 59) (.seq (.reg r23_15) (.ret)) (.skip)))) (.seq (.seq (.reg r23_16) (.cond (.t 65) (.seq (.reg r23_17) (.ret)) (.skip))) (.seq (.reg r23_18) (.seq (.reg r23_19) (.seq (.dreg [82] r23_20) (.seq (.dreg [95] r23_21) (.seq (.reg r23_22) (.seq (.reg r23_23) (.ret))))))))))))))⟩
theorem s23_ok : slimF Tryz.prog ⟨[57, 58, 59, 63, 67, 68, 77, 102, 103, 104, 110, 116, 120], [82, 95]⟩ Tryz.f23 = some s23 := by kernel_rfl
end Go.Proofs.YtmnjchcoigbngaaGreat


namespace Go.Proofs.YtmnjchcoigbngaaGreat
open Go Go.Proofs
def r26_0 : List SO := [
  sO 6 (.box 24 1 (.t 0)),
  sO 12 (.alloc 24 [.nilsl]),
  sO 13 (.mv (.c (.int .i64 0)))]
def r26_1 : List SO := [
  sO 19 (.load true 1 (.t 6)),
  sO 20 (.call false 11 [.t 19]),
  sO 14 (.mv (.t 20))]
def r26_2 : List SO := [
  sO 21 (.mv (.t 14)),
  sO 22 (.bin .neq (.t 21) (.c (.int .i64 0)))]
def r26_3 : List SO := [
  sO 23 (.load true 1 (.t 6)),
  sO 24 (.mv (.t 14)),
  sN (.store 1 (.t 12) (.t 23)),
  sO 13 (.mv (.t 24))]
def r26_4 : List SO := [
  sO 25 (.load true 1 (.t 6)),
  sO 26 (.mv (.t 1)),
  sO 27 (.mv (.t 2)),
  sO 28 (.mv (.t 3)),
  sO 29 (.mv (.t 4)),
  sO 30 (.mv (.t 5)),
  sO 31 (.call false 65 [.t 25, .t 26, .t 27, .t 28, .t 29, .t 30]),
  sO 15 (.mv (.t 31))]
def r26_5 : List SO := [
  sO 32 (.mv (.t 15)),
  sO 33 (.bin .neq (.t 32) (.c (.int .i64 0)))]
def r26_6 : List SO := [
  sO 34 (.load true 1 (.t 6)),
  sO 35 (.mv (.t 15)),
  sN (.store 1 (.t 12) (.t 34)),
  sO 13 (.mv (.t 35))]
def r26_7 : List SO := [
  sO 36 (.load true 1 (.t 6)),
  sO 37 (.call true 57 [.t 36]),
  sO 16 (.alloc 24 [.nilsl]),
  sN (.store 1 (.t 16) (.t 37))]
def r26_8 : List SO := [
  sO 38 (.fld 0 (.t 16)),
  sO 39 (.load false 1 (.t 38)),
  sO 40 (.mv (.t 1)),
  sO 41 (.idx 5 (.t 39) (.t 40)),
  sO 42 (.load true 5 (.t 41)),
  sO 17 (.alloc 68 [.bool false, .nilsl, .nilsl, .nilsl, .nilsl]),
  sN (.store 5 (.t 17) (.t 42))]
def r26_9 : List SO := [
  sO 43 (.mv (.t 2)),
  sO 44 (.bslice 38 1 false [.nilsl] 1 [(0, .t 43)]),
  sO 45 (.call false 49 [.t 44]),
  sO 46 (.mv (.t 3)),
  sO 47 (.bslice 38 1 false [.nilsl] 1 [(0, .t 46)]),
  sO 48 (.call false 49 [.t 47]),
  sO 49 (.mv (.t 5)),
  sO 50 (.bslice 38 1 false [.nilsl] 1 [(0, .t 49)]),
  sO 51 (.call false 49 [.t 50]),
  sO 53 (.fld 0 (.t 6)),
  sO 54 (.load false 1 (.t 53)),
  sO 55 (.len (.t 54)),
  sO 56 (.fld 0 (.t 6)),
  sO 57 (.load false 1 (.t 56)),
  sO 58 (.len (.t 57)),
  sO 59 (.bin .add (.t 58) (.c (.int .i64 1))),
  sO 52 (.bslice 38 1 true [.nilsl] 2 [(0, .t 48), (1, .t 51)]),
  sO 60 (.bslice 3 1 true [.int .i64 0] 2 [(0, .t 55), (1, .t 59)]),
  sO 61 (.build [.bool false, .nilsl, .nilsl, .nilsl, .nilsl] [(2, 1, .t 45), (3, 1, .t 52), (4, 1, .t 60)]),
  sO 18 (.alloc 68 [.bool false, .nilsl, .nilsl, .nilsl, .nilsl]),
  sN (.store 5 (.t 18) (.t 61))]
def r26_10 : List SO := [
  sO 62 (.mv (.t 3)),
  sO 63 (.mv (.t 5)),
  sO 64 (.call false 66 [.t 62, .t 63]),
  sO 65 (.bin .gtr (.t 64) (.c (.int .i64 0)))]
def r26_11 : List SO := [
  sO 66 (.fld 3 (.t 18)),
  sO 67 (.load false 1 (.t 66)),
  sO 68 (.call true 67 [.t 67])]
def r26_12 : List SO := [
  sO 69 (.fld 4 (.t 18)),
  sO 70 (.load false 1 (.t 69)),
  sO 71 (.call true 68 [.t 70])]
def r26_13 : List SO := [
  sO 72 (.fld 0 (.t 16)),
  sO 73 (.load false 1 (.t 72)),
  sO 74 (.mv (.t 1)),
  sO 75 (.load true 5 (.t 18)),
  sO 76 (.idx 5 (.t 73) (.t 74)),
  sN (.store 5 (.t 76) (.t 75))]
def r26_14 : List SO := [
  sO 77 (.fld 0 (.t 16)),
  sO 78 (.load false 1 (.t 77)),
  sO 79 (.load true 5 (.t 17)),
  sO 80 (.mv (.t 4)),
  sO 81 (.bslice 38 1 false [.nilsl] 1 [(0, .t 80)]),
  sO 82 (.call false 49 [.t 81]),
  sO 83 (.build [.bool false, .nilsl, .nilsl, .nilsl, .nilsl] [(0, 1, .c (.bool true)), (1, 1, .t 82)]),
  sO 84 (.bslice 68 5 false [.bool false, .nilsl, .nilsl, .nilsl, .nilsl] 2 [(0, .t 79), (1, .t 83)]),
  sO 85 (.append 68 5 104 (.t 78) (.t 84)),
  sO 86 (.fld 0 (.t 16)),
  sN (.store 1 (.t 86) (.t 85))]
def r26_15 : List SO := [
  sO 87 (.load true 1 (.t 16)),
  sN (.store 1 (.t 12) (.t 87)),
  sO 13 (.mv (.c (.int .i64 0)))]
def s26 : SF := ⟨88, [.cell 12 true 1, .tmp 13], .seq (.reg r26_0) (.seq (.seq (.reg r26_1) (.seq (.reg r26_2) (.cond (.t 22) (.seq (.reg r26_3) (.ret)) (.skip)))) (.seq (.seq (.reg r26_4) (.seq (.reg r26_5) (.cond (.t 33) (.seq (.reg r26_6) (.ret)) (.skip)))) (.seq (.reg r26_7) (.seq (.reg r26_8) (.seq (.dreg [52, 60, 18] r26_9) (.seq (.seq (.reg r26_10) (.cond (.t 65) (.seq (.reg r26_11) (.reg r26_12)) (.skip))) (.seq (.reg r26_13) (.seq (.reg r26_14) (.seq (.reg r26_15) (.ret))))))))))⟩
theorem s26_ok : slimF Tryz.prog ⟨[57, 58, 59, 63, 67, 68, 77, 102, 103, 104, 110, 116, 120], [52, 60]⟩ Tryz.f26 = some s26 := by kernel_rfl
end Go.Proofs.YtmnjchcoigbngaaGreat


namespace Go.Proofs.YtmnjchcoigbngaaGreat
open Go Go.Proofs
def r28_0 : List SO := [
  sO 3 (.box 24 1 (.t 0)),
  sO 6 (.mv (.c (.nilsl))),
  sO 7 (.mv (.c (.int .i64 0)))]
def r28_1 : List SO := [
  sO 14 (.load true 1 (.t 3)),
  sO 15 (.call false 11 [.t 14]),
  sO 8 (.mv (.t 15))]
def r28_2 : List SO := [
  sO 16 (.mv (.t 8)),
  sO 17 (.bin .neq (.t 16) (.c (.int .i64 0)))]
def r28_3 : List SO := [
  sO 18 (.mv (.t 8)),
  sO 6 (.mv (.c (.nilsl))),
  sO 7 (.mv (.t 18))]
def r28_4 : List SO := [
  sO 19 (.mv (.t 1)),
  sO 20 (.mv (.t 2)),
  sO 21 (.build [.int .i64 0, .int .i64 0] [(0, 1, .t 19), (1, 1, .t 20)]),
  sO 22 (.mv (.c (.int .i64 0)))]
def r28_5 : List SO := [
  sO 23 (.bin .lss (.t 22) (.c (.int .i64 2)))]
def r28_6 : List SO := [
  sO 24 (.aidx false 1 2 (.t 21) (.t 22)),
  sO 10 (.mv (.t 24))]
def r28_7 : List SO := [
  sO 25 (.mv (.t 10)),
  sO 26 (.bin .lss (.t 25) (.c (.int .i64 0))),
  sO 27 (.mv (.t 26)),
  ⟨some (27, false), some 28, .mv (.t 10)⟩,
  ⟨some (27, false), some 29, .fld 0 (.t 3)⟩,
  ⟨some (27, false), some 30, .load false 1 (.t 29)⟩,
  ⟨some (27, false), some 31, .len (.t 30)⟩,
  ⟨some (27, false), some 32, .bin .geq (.t 28) (.t 31)⟩,
  sO 33 (.pick (.t 27) (.c (.bool true)) (.t 32))]
def r28_8 : List SO := [
  sO 6 (.mv (.c (.nilsl))),
  sO 7 (.mv (.c (.int .i64 2)))]
def r28_9 : List SO := [
  sO 34 (.bin .add (.t 22) (.c (.int .i64 1))),
  sO 22 (.mv (.t 34))]
def b28_0 : SC := .seq (.reg r28_5) (.seq (.cond (.t 23) (.skip) (.exit 0)) (.seq (.block 1 (.seq (.reg r28_6) (.seq (.reg r28_7) (.cond (.t 33) (.seq (.reg r28_8) (.ret)) (.skip))))) (.reg r28_9)))
def r28_10 : List SO := [
  sO 36 (.fld 0 (.t 3)),
  sO 37 (.load false 1 (.t 36)),
  sO 38 (.mv (.t 1)),
  sO 39 (.idx 5 (.t 37) (.t 38)),
  sO 40 (.fld 0 (.t 39)),
  sO 41 (.load false 1 (.t 40)),
  sO 42 (.un .not (.t 41)),
  sO 43 (.mv (.t 42)),
  ⟨some (43, false), some 44, .fld 0 (.t 3)⟩,
  ⟨some (43, false), some 45, .load false 1 (.t 44)⟩,
  ⟨some (43, false), some 46, .mv (.t 2)⟩,
  ⟨some (43, false), some 47, .idx 5 (.t 45) (.t 46)⟩,
  ⟨some (43, false), some 48, .fld 0 (.t 47)⟩,
  ⟨some (43, false), some 49, .load false 1 (.t 48)⟩,
  ⟨some (43, false), some 50, .un .not (.t 49)⟩,
  sO 51 (.pick (.t 43) (.c (.bool true)) (.t 50)),
  sO 35 (.mv (.t 51))]
def r28_11 : List SO := [
  sO 6 (.mv (.c (.nilsl))),
  sO 7 (.mv (.c (.int .i64 10)))]
def r28_12 : List SO := [
  sO 53 (.mv (.t 1)),
  sO 54 (.mv (.t 2)),
  sO 55 (.bin .eql (.t 53) (.t 54)),
  sO 52 (.mv (.t 55))]
def r28_13 : List SO := [
  sO 6 (.mv (.c (.nilsl))),
  sO 7 (.mv (.c (.int .i64 8)))]
def r28_14 : List SO := [
  sO 56 (.load true 1 (.t 3)),
  sO 57 (.mv (.t 1)),
  sO 58 (.call false 70 [.t 56, .t 57]),
  sO 59 (.load true 1 (.t 3)),
  sO 60 (.mv (.t 2)),
  sO 61 (.call false 70 [.t 59, .t 60]),
  sO 11 (.mv (.t 58)),
  sO 12 (.mv (.t 61))]
def r28_15 : List SO := [
  sO 62 (.mv (.t 11)),
  sO 63 (.mv (.t 12)),
  sO 64 (.call false 71 [.t 62, .t 63]),
  sO 13 (.mv (.t 64))]
def r28_16 : List SO := [
  sO 65 (.fld 0 (.t 3)),
  sO 66 (.load false 1 (.t 65)),
  sO 67 (.mv (.t 11)),
  sO 68 (.mv (.t 13)),
  sO 69 (.bin .sub (.t 68) (.c (.int .i64 1))),
  sO 70 (.idx 1 (.t 67) (.t 69)),
  sO 71 (.load false 1 (.t 70)),
  sO 72 (.idx 5 (.t 66) (.t 71)),
  sO 73 (.fld 2 (.t 72)),
  sO 74 (.load false 1 (.t 73)),
  sO 75 (.bslice 38 1 false [.nilsl] 1 [(0, .t 74)]),
  sO 76 (.call false 49 [.t 75]),
  sO 6 (.mv (.t 76)),
  sO 7 (.mv (.c (.int .i64 0)))]
def s28 : SF := ⟨77, [.tmp 6, .tmp 7], .seq (.reg r28_0) (.seq (.seq (.reg r28_1) (.seq (.reg r28_2) (.cond (.t 17) (.seq (.reg r28_3) (.ret)) (.skip)))) (.seq (.seq (.reg r28_4) (.block 0 (.loop b28_0))) (.seq (.block 2 (.seq (.reg r28_10) (.cond (.t 35) (.seq (.reg r28_11) (.ret)) (.seq (.reg r28_12) (.cond (.t 52) (.seq (.reg r28_13) (.ret)) (.skip)))))) (.seq (.reg r28_14) (.seq (.reg r28_15) (.seq (.reg r28_16) (.ret)))))))⟩
theorem s28_ok : slimF Tryz.prog ⟨[57, 58, 59, 63, 67, 68, 77, 102, 103, 104, 110, 116, 120], []⟩ Tryz.f28 = some s28 := by kernel_rfl
end Go.Proofs.YtmnjchcoigbngaaGreat


namespace Go.Proofs.YtmnjchcoigbngaaGreat
open Go Go.Proofs
def r32_0 : List SO := [
  sO 0 (.alloc 24 [.nilsl])]
def r32_1 : List SO := [
  sO 1 (.bslice 3 1 false [.int .i64 0] 1 [(0, .c (.int .i64 1))]),
  sO 2 (.bslice 3 1 false [.int .i64 0] 1 [(0, .c (.int .i64 0))]),
  sO 3 (.bslice 3 1 false [.int .i64 0] 1 [(0, .c (.int .i64 2))]),
  sO 4 (.bslice 38 1 false [.nilsl] 2 [(0, .t 2), (1, .t 3)]),
  sO 5 (.bslice 3 1 false [.int .i64 0] 2 [(0, .c (.int .i64 1)), (1, .c (.int .i64 2))]),
  sO 6 (.build [.bool false, .nilsl, .nilsl, .nilsl, .nilsl] [(2, 1, .t 1), (3, 1, .t 4), (4, 1, .t 5)]),
  sO 7 (.build [.bool false, .nilsl, .nilsl, .nilsl, .nilsl] [(0, 1, .c (.bool true))]),
  sO 8 (.bslice 3 1 false [.int .i64 0] 1 [(0, .c (.int .i64 0))]),
  sO 9 (.build [.bool false, .nilsl, .nilsl, .nilsl, .nilsl] [(0, 1, .c (.bool true)), (1, 1, .t 8)]),
  sO 10 (.bslice 68 5 false [.bool false, .nilsl, .nilsl, .nilsl, .nilsl] 3 [(0, .t 6), (1, .t 7), (2, .t 9)]),
  sO 11 (.build [.nilsl] [(0, 1, .t 10)]),
  sN (.store 1 (.t 0) (.t 11))]
def s32 : SF := ⟨12, [.cell 0 true 1], .seq (.reg r32_0) (.seq (.reg r32_1) (.ret))⟩
theorem s32_ok : slimF Tryz.prog ⟨[57, 58, 59, 63, 67, 68, 77, 102, 103, 104, 110, 116, 120], []⟩ Tryz.f32 = some s32 := by kernel_rfl
end Go.Proofs.YtmnjchcoigbngaaGreat


namespace Go.Proofs.YtmnjchcoigbngaaGreat
open Go Go.Proofs
def r33_0 : List SO := [
  sO 4 (.mv (.c (.bool false)))]
def r33_1 : List SO := [
  sO 6 (.mv (.t 0)),
  sO 7 (.len (.t 6)),
  sO 8 (.mv (.t 1)),
  sO 9 (.len (.t 8)),
  sO 10 (.bin .neq (.t 7) (.t 9))]
def r33_2 : List SO := [
  sO 4 (.mv (.c (.bool false)))]
def r33_3 : List SO := [
  sO 5 (.mv (.c (.int .i64 0)))]
def r33_4 : List SO := [
  sO 11 (.mv (.t 5)),
  sO 12 (.mv (.t 0)),
  sO 13 (.len (.t 12)),
  sO 14 (.bin .lss (.t 11) (.t 13))]
def r33_6 : List SO := [
  sO 17 (.mv (.t 0)),
  sO 18 (.mv (.t 5)),
  sO 19 (.idx 1 (.t 17) (.t 18)),
  sO 20 (.load false 1 (.t 19)),
  sO 21 (.mv (.t 1)),
  sO 22 (.mv (.t 5)),
  sO 23 (.idx 1 (.t 21) (.t 22)),
  sO 24 (.load false 1 (.t 23)),
  sO 25 (.bin .neq (.t 20) (.t 24))]
def r33_7 : List SO := [
  sO 4 (.mv (.c (.bool false)))]
def r33_5 : List SO := [
  sO 15 (.mv (.t 5)),
  sO 16 (.bin .add (.t 15) (.c (.int .i64 1))),
  sO 5 (.mv (.t 16))]
def b33_0 : SC := .seq (.seq (.reg r33_4) (.cond (.t 14) (.skip) (.exit 0))) (.seq (.block 1 (.seq (.reg r33_6) (.cond (.t 25) (.seq (.reg r33_7) (.ret)) (.skip)))) (.reg r33_5))
def r33_8 : List SO := [
  sO 4 (.mv (.c (.bool true)))]
def s33 : SF := ⟨26, [.tmp 4], .seq (.reg r33_0) (.seq (.seq (.reg r33_1) (.cond (.t 10) (.seq (.reg r33_2) (.ret)) (.skip))) (.seq (.seq (.reg r33_3) (.block 0 (.loop b33_0))) (.seq (.reg r33_8) (.ret))))⟩
theorem s33_ok : slimF Tryz.prog ⟨[57, 58, 59, 63, 67, 68, 77, 102, 103, 104, 110, 116, 120], []⟩ Tryz.f33 = some s33 := by kernel_rfl
end Go.Proofs.YtmnjchcoigbngaaGreat


namespace Go.Proofs.YtmnjchcoigbngaaGreat
open Go Go.Proofs
def r34_0 : List SO := [
  sO 1 (.box 68 5 (.t 0)),
  sO 2 (.mv (.c (.int .i64 0)))]
def r34_1 : List SO := [
  sO 3 (.fld 2 (.t 1)),
  sO 4 (.load false 1 (.t 3)),
  sO 5 (.len (.t 4)),
  sO 6 (.fld 3 (.t 1)),
  sO 7 (.load false 1 (.t 6)),
  sO 8 (.len (.t 7)),
  sO 9 (.bin .add (.t 5) (.t 8)),
  sO 10 (.fld 4 (.t 1)),
  sO 11 (.load false 1 (.t 10)),
  sO 12 (.len (.t 11)),
  sO 13 (.bin .add (.t 9) (.t 12)),
  sO 14 (.bin .gtr (.t 13) (.c (.int .i64 0)))]
def r34_2 : List SO := [
  sO 2 (.mv (.c (.int .i64 1)))]
def r34_3 : List SO := [
  sO 15 (.fld 1 (.t 1)),
  sO 16 (.load false 1 (.t 15)),
  sO 17 (.call false 48 [.t 16, .c (.int .i64 64)]),
  sO 2 (.mv (.t 17))]
def s34 : SF := ⟨18, [.tmp 2], .seq (.reg r34_0) (.seq (.seq (.reg r34_1) (.cond (.t 14) (.seq (.reg r34_2) (.ret)) (.skip))) (.seq (.reg r34_3) (.ret)))⟩
theorem s34_ok : slimF Tryz.prog ⟨[57, 58, 59, 63, 67, 68, 77, 102, 103, 104, 110, 116, 120], []⟩ Tryz.f34 = some s34 := by kernel_rfl
end Go.Proofs.YtmnjchcoigbngaaGreat


namespace Go.Proofs.YtmnjchcoigbngaaGreat
open Go Go.Proofs
def r35_0 : List SO := [
  sO 2 (.box 68 5 (.t 0)),
  sO 4 (.mv (.c (.int .i64 0)))]
def r35_1 : List SO := [
  sO 10 (.fld 1 (.t 2)),
  sO 11 (.load false 1 (.t 10)),
  sO 12 (.len (.t 11)),
  sO 13 (.bin .gtr (.t 12) (.c (.int .i64 0))),
  sO 9 (.mv (.t 13))]
def r35_2 : List SO := [
  sO 4 (.mv (.c (.int .i64 1)))]
def r35_3 : List SO := [
  sO 15 (.fld 2 (.t 2)),
  sO 16 (.load false 1 (.t 15)),
  sO 17 (.len (.t 16)),
  sO 18 (.bin .eql (.t 17) (.c (.int .i64 0))),
  sO 14 (.mv (.t 18))]
def r35_4 : List SO := [
  sO 4 (.mv (.c (.int .i64 19)))]
def r35_5 : List SO := [
  sO 19 (.fld 2 (.t 2)),
  sO 20 (.load false 1 (.t 19)),
  sO 21 (.call false 48 [.t 20, .c (.int .i64 64)]),
  sO 5 (.mv (.t 21))]
def r35_6 : List SO := [
  sO 22 (.mv (.t 5)),
  sO 23 (.bin .neq (.t 22) (.c (.int .i64 0)))]
def r35_7 : List SO := [
  sO 24 (.mv (.t 5)),
  sO 4 (.mv (.t 24))]
def r35_8 : List SO := [
  sO 25 (.fld 3 (.t 2)),
  sO 26 (.load false 1 (.t 25)),
  sO 27 (.len (.t 26)),
  sO 28 (.fld 4 (.t 2)),
  sO 29 (.load false 1 (.t 28)),
  sO 30 (.len (.t 29)),
  sO 31 (.bin .neq (.t 27) (.t 30))]
def r35_9 : List SO := [
  sO 4 (.mv (.c (.int .i64 1)))]
def r35_10 : List SO := [
  sO 32 (.fld 3 (.t 2)),
  sO 33 (.load false 1 (.t 32)),
  sO 34 (.len (.t 33)),
  sO 35 (.mv (.c (.int .i64 0)))]
def r35_11 : List SO := [
  sO 36 (.bin .lss (.t 35) (.t 34))]
def r35_12 : List SO := [
  sO 37 (.mv (.t 35)),
  sO 38 (.idx 1 (.t 33) (.t 35)),
  sO 39 (.load false 1 (.t 38)),
  sO 6 (.mv (.t 37)),
  sO 7 (.mv (.t 39))]
def r35_13 : List SO := [
  sO 40 (.mv (.t 7)),
  sO 41 (.fld 2 (.t 2)),
  sO 42 (.load false 1 (.t 41)),
  sO 43 (.call false 55 [.t 40, .t 42]),
  sO 8 (.mv (.t 43))]
def r35_14 : List SO := [
  sO 44 (.mv (.t 8)),
  sO 45 (.bin .neq (.t 44) (.c (.int .i64 0)))]
def r35_15 : List SO := [
  sO 46 (.mv (.t 8)),
  sO 4 (.mv (.t 46))]
def r35_16 : List SO := [
  sO 47 (.mv (.t 6)),
  sO 48 (.bin .gtr (.t 47) (.c (.int .i64 0))),
  sO 49 (.mv (.t 48)),
  ⟨some (49, true), some 50, .fld 3 (.t 2)⟩,
  ⟨some (49, true), some 51, .load false 1 (.t 50)⟩,
  ⟨some (49, true), some 52, .mv (.t 6)⟩,
  ⟨some (49, true), some 53, .bin .sub (.t 52) (.c (.int .i64 1))⟩,
  ⟨some (49, true), some 54, .idx 1 (.t 51) (.t 53)⟩,
  ⟨some (49, true), some 55, .load false 1 (.t 54)⟩,
  ⟨some (49, true), some 56, .mv (.t 7)⟩,
  ⟨some (49, true), some 57, .call false 66 [.t 55, .t 56]⟩,
  ⟨some (49, true), some 58, .bin .geq (.t 57) (.c (.int .i64 0))⟩,
  sO 59 (.pick (.t 49) (.t 58) (.c (.bool false)))]
def r35_17 : List SO := [
  sO 4 (.mv (.c (.int .i64 10)))]
def r35_18 : List SO := [
  sO 60 (.fld 4 (.t 2)),
  sO 61 (.load false 1 (.t 60)),
  sO 62 (.mv (.t 6)),
  sO 63 (.idx 1 (.t 61) (.t 62)),
  sO 64 (.load false 1 (.t 63)),
  sO 65 (.bin .lss (.t 64) (.c (.int .i64 0))),
  sO 66 (.mv (.t 65)),
  ⟨some (66, false), some 67, .fld 4 (.t 2)⟩,
  ⟨some (66, false), some 68, .load false 1 (.t 67)⟩,
  ⟨some (66, false), some 69, .mv (.t 6)⟩,
  ⟨some (66, false), some 70, .idx 1 (.t 68) (.t 69)⟩,
  ⟨some (66, false), some 71, .load false 1 (.t 70)⟩,
  ⟨some (66, false), some 72, .mv (.t 1)⟩,
  ⟨some (66, false), some 73, .bin .geq (.t 71) (.t 72)⟩,
  sO 74 (.pick (.t 66) (.c (.bool true)) (.t 73))]
def r35_19 : List SO := [
  sO 4 (.mv (.c (.int .i64 2)))]
def r35_20 : List SO := [
  sO 75 (.bin .add (.t 35) (.c (.int .i64 1))),
  sO 35 (.mv (.t 75))]
def b35_0 : SC := .seq (.reg r35_11) (.seq (.cond (.t 36) (.skip) (.exit 1)) (.seq (.block 2 (.seq (.reg r35_12) (.seq (.seq (.reg r35_13) (.seq (.reg r35_14) (.cond (.t 45) (.seq (.reg r35_15) (.ret)) (.skip)))) (.seq (.seq (.reg r35_16) (.cond (.t 59) (.seq (.reg r35_17) (.ret)) (.skip))) (.seq (.reg r35_18) (.cond (.t 74) (.seq (.reg r35_19) (.ret)) (.skip))))))) (.reg r35_20)))
def r35_21 : List SO := [
  sO 4 (.mv (.c (.int .i64 0)))]
def s35 : SF := ⟨76, [.tmp 4], .seq (.reg r35_0) (.seq (.block 0 (.seq (.reg r35_1) (.cond (.t 9) (.seq (.reg r35_2) (.ret)) (.seq (.reg r35_3) (.cond (.t 14) (.seq (.reg r35_4) (.ret)) (.skip)))))) (.seq (.seq (.reg r35_5) (.seq (.reg r35_6) (.cond (.t 23) (.seq (.reg r35_7) (.ret)) (.skip)))) (.seq (.seq (.reg r35_8) (.cond (.t 31) (.seq (.reg r35_9) (.ret)) (.skip))) (.seq (.seq (.reg r35_10) (.block 1 (.loop b35_0))) (.seq (.reg r35_21) (.ret))))))⟩
theorem s35_ok : slimF Tryz.prog ⟨[57, 58, 59, 63, 67, 68, 77, 102, 103, 104, 110, 116, 120], []⟩ Tryz.f35 = some s35 := by kernel_rfl
end Go.Proofs.YtmnjchcoigbngaaGreat


namespace Go.Proofs.YtmnjchcoigbngaaGreat
open Go Go.Proofs
def r36_0 : List SO := [
  sO 1 (.box 24 1 (.t 0)),
  sO 2 (.mv (.c (.bool false)))]
def r36_1 : List SO := [
  sO 7 (.fld 0 (.t 1)),
  sO 8 (.load false 1 (.t 7)),
  sO 9 (.len (.t 8)),
  sO 10 (.mks 4 1 1 [.bool false] (.t 9) (.t 9)),
  sO 3 (.mv (.t 10))]
def r36_2 : List SO := [
  sO 11 (.bslice 3 1 true [.int .i64 0] 1 [(0, .c (.int .i64 0))]),
  sO 4 (.mv (.t 11))]
def r36_3 : List SO := [
  sO 5 (.mv (.c (.int .i64 0)))]
def r36_4 : List SO := [
  sO 12 (.mv (.t 5)),
  sO 13 (.mv (.t 4)),
  sO 14 (.len (.t 13)),
  sO 15 (.bin .lss (.t 12) (.t 14))]
def r36_6 : List SO := [
  sO 18 (.mv (.t 4)),
  sO 19 (.mv (.t 5)),
  sO 20 (.idx 1 (.t 18) (.t 19)),
  sO 21 (.load false 1 (.t 20)),
  sO 6 (.mv (.t 21))]
def r36_7 : List SO := [
  sO 22 (.mv (.t 3)),
  sO 23 (.mv (.t 6)),
  sO 24 (.idx 1 (.t 22) (.t 23)),
  sO 25 (.load false 1 (.t 24))]
def r36_8 : List SO := [
  sO 2 (.mv (.c (.bool false)))]
def r36_9 : List SO := [
  sO 26 (.mv (.t 3)),
  sO 27 (.mv (.t 6)),
  sO 28 (.idx 1 (.t 26) (.t 27)),
  sN (.store 1 (.t 28) (.c (.bool true)))]
def r36_10 : List SO := [
  sO 29 (.mv (.t 4)),
  sO 30 (.fld 0 (.t 1)),
  sO 31 (.load false 1 (.t 30)),
  sO 32 (.mv (.t 6)),
  sO 33 (.idx 5 (.t 31) (.t 32)),
  sO 34 (.fld 4 (.t 33)),
  sO 35 (.load false 1 (.t 34)),
  sO 36 (.append 3 1 8 (.t 29) (.t 35)),
  sO 4 (.mv (.t 36))]
def r36_11 : List SO := [
  sO 37 (.mv (.t 4)),
  sO 38 (.len (.t 37)),
  sO 39 (.fld 0 (.t 1)),
  sO 40 (.load false 1 (.t 39)),
  sO 41 (.len (.t 40)),
  sO 42 (.bin .gtr (.t 38) (.t 41))]
def r36_12 : List SO := [
  sO 2 (.mv (.c (.bool false)))]
def r36_5 : List SO := [
  sO 16 (.mv (.t 5)),
  sO 17 (.bin .add (.t 16) (.c (.int .i64 1))),
  sO 5 (.mv (.t 17))]
def b36_0 : SC := .seq (.seq (.reg r36_4) (.cond (.t 15) (.skip) (.exit 0))) (.seq (.block 1 (.seq (.reg r36_6) (.seq (.seq (.reg r36_7) (.cond (.t 25) (.seq (.reg r36_8) (.ret)) (.skip))) (.seq (.reg r36_9) (.seq (.reg r36_10) (.seq (.reg r36_11) (.cond (.t 42) (.seq (.reg r36_12) (.ret)) (.skip)))))))) (.reg r36_5))
def r36_13 : List SO := [
  sO 43 (.mv (.t 4)),
  sO 44 (.len (.t 43)),
  sO 45 (.fld 0 (.t 1)),
  sO 46 (.load false 1 (.t 45)),
  sO 47 (.len (.t 46)),
  sO 48 (.bin .eql (.t 44) (.t 47)),
  sO 2 (.mv (.t 48))]
def s36 : SF := ⟨49, [.tmp 2], .seq (.reg r36_0) (.seq (.reg r36_1) (.seq (.reg r36_2) (.seq (.seq (.reg r36_3) (.block 0 (.loop b36_0))) (.seq (.reg r36_13) (.ret)))))⟩
theorem s36_ok : slimF Tryz.prog ⟨[57, 58, 59, 63, 67, 68, 77, 102, 103, 104, 110, 116, 120], [11]⟩ Tryz.f36 = some s36 := by kernel_rfl
end Go.Proofs.YtmnjchcoigbngaaGreat


namespace Go.Proofs.YtmnjchcoigbngaaGreat
open Go Go.Proofs
def r37_0 : List SO := [
  sO 1 (.box 24 1 (.t 0)),
  sO 2 (.mv (.c (.nilsl)))]
def r37_1 : List SO := [
  sO 3 (.lazy 38 1)]
def r37_2 : List SO := [
  sO 6 (.fld 0 (.t 1)),
  sO 7 (.load false 1 (.t 6)),
  sO 8 (.len (.t 7)),
  sO 9 (.mv (.c (.int .i64 0)))]
def r37_3 : List SO := [
  sO 10 (.bin .lss (.t 9) (.t 8))]
def r37_4 : List SO := [
  sO 11 (.idx 5 (.t 7) (.t 9)),
  sO 12 (.load true 5 (.t 11)),
  sO 5 (.alloc 68 [.bool false, .nilsl, .nilsl, .nilsl, .nilsl]),
  sN (.store 5 (.t 5) (.t 12))]
def r37_5 : List SO := [
  sO 13 (.fld 0 (.t 5)),
  sO 14 (.load false 1 (.t 13))]
def r37_6 : List SO := [
  sO 15 (.mv (.t 3)),
  sO 16 (.fld 1 (.t 5)),
  sO 17 (.load false 1 (.t 16)),
  sO 18 (.bslice 38 1 false [.nilsl] 1 [(0, .t 17)]),
  sO 19 (.call false 49 [.t 18]),
  sO 20 (.bslice 38 1 false [.nilsl] 1 [(0, .t 19)]),
  sO 21 (.append 38 1 24 (.t 15) (.t 20)),
  sO 3 (.mv (.t 21))]
def r37_7 : List SO := [
  sO 22 (.bin .add (.t 9) (.c (.int .i64 1))),
  sO 9 (.mv (.t 22))]
def b37_0 : SC := .seq (.reg r37_3) (.seq (.cond (.t 10) (.skip) (.exit 0)) (.seq (.block 1 (.seq (.reg r37_4) (.seq (.reg r37_5) (.cond (.t 14) (.reg r37_6) (.skip))))) (.reg r37_7)))
def r37_8 : List SO := [
  sO 23 (.mv (.t 3)),
  sO 2 (.mv (.t 23))]
def s37 : SF := ⟨24, [.tmp 2], .seq (.reg r37_0) (.seq (.reg r37_1) (.seq (.seq (.reg r37_2) (.block 0 (.loop b37_0))) (.seq (.reg r37_8) (.ret))))⟩
theorem s37_ok : slimF Tryz.prog ⟨[57, 58, 59, 63, 67, 68, 77, 102, 103, 104, 110, 116, 120], [3]⟩ Tryz.f37 = some s37 := by kernel_rfl
end Go.Proofs.YtmnjchcoigbngaaGreat


namespace Go.Proofs.YtmnjchcoigbngaaGreat
open Go Go.Proofs
def r43_0 : List SO := [
  sO 4 (.mv (.c (.bool false)))]
def r43_1 : List SO := [
  sO 6 (.mv (.t 0)),
  sO 7 (.len (.t 6)),
  sO 8 (.mv (.t 1)),
  sO 9 (.len (.t 8)),
  sO 10 (.bin .neq (.t 7) (.t 9))]
def r43_2 : List SO := [
  sO 4 (.mv (.c (.bool false)))]
def r43_3 : List SO := [
  sO 5 (.mv (.c (.int .i64 0)))]
def r43_4 : List SO := [
  sO 11 (.mv (.t 5)),
  sO 12 (.mv (.t 0)),
  sO 13 (.len (.t 12)),
  sO 14 (.bin .lss (.t 11) (.t 13))]
def r43_6 : List SO := [
  sO 17 (.mv (.t 0)),
  sO 18 (.mv (.t 5)),
  sO 19 (.idx 1 (.t 17) (.t 18)),
  sO 20 (.load false 1 (.t 19)),
  sO 21 (.mv (.t 1)),
  sO 22 (.mv (.t 5)),
  sO 23 (.idx 1 (.t 21) (.t 22)),
  sO 24 (.load false 1 (.t 23)),
  sO 25 (.call false 33 [.t 20, .t 24]),
  sO 26 (.un .not (.t 25))]
def r43_7 : List SO := [
  sO 4 (.mv (.c (.bool false)))]
def r43_5 : List SO := [
  sO 15 (.mv (.t 5)),
  sO 16 (.bin .add (.t 15) (.c (.int .i64 1))),
  sO 5 (.mv (.t 16))]
def b43_0 : SC := .seq (.seq (.reg r43_4) (.cond (.t 14) (.skip) (.exit 0))) (.seq (.block 1 (.seq (.reg r43_6) (.cond (.t 26) (.seq (.reg r43_7) (.ret)) (.skip)))) (.reg r43_5))
def r43_8 : List SO := [
  sO 4 (.mv (.c (.bool true)))]
def s43 : SF := ⟨27, [.tmp 4], .seq (.reg r43_0) (.seq (.seq (.reg r43_1) (.cond (.t 10) (.seq (.reg r43_2) (.ret)) (.skip))) (.seq (.seq (.reg r43_3) (.block 0 (.loop b43_0))) (.seq (.reg r43_8) (.ret))))⟩
theorem s43_ok : slimF Tryz.prog ⟨[57, 58, 59, 63, 67, 68, 77, 102, 103, 104, 110, 116, 120], []⟩ Tryz.f43 = some s43 := by kernel_rfl
end Go.Proofs.YtmnjchcoigbngaaGreat


namespace Go.Proofs.YtmnjchcoigbngaaGreat
open Go Go.Proofs
def r48_0 : List SO := [
  sO 3 (.box 3 1 (.t 1)),
  sO 4 (.mv (.c (.int .i64 0)))]
def r48_1 : List SO := [
  sO 6 (.load false 1 (.t 3)),
  sO 7 (.call false 80 [.t 6]),
  sO 8 (.un .not (.t 7)),
  sO 5 (.mv (.t 8))]
def r48_2 : List SO := [
  sO 4 (.mv (.c (.int .i64 2)))]
def r48_3 : List SO := [
  sO 10 (.mv (.t 0)),
  sO 11 (.len (.t 10)),
  sO 12 (.bin .gtr (.t 11) (.c (.int .i64 1024))),
  sO 9 (.mv (.t 12))]
def r48_4 : List SO := [
  sO 4 (.mv (.c (.int .i64 3)))]
def r48_5 : List SO := [
  sO 14 (.mv (.t 0)),
  sO 15 (.mkf 82 [.t 3]),
  sO 16 (.call false 81 [.t 14, .t 15]),
  sO 13 (.mv (.t 16))]
def r48_6 : List SO := [
  sO 4 (.mv (.c (.int .i64 1)))]
def r48_7 : List SO := [
  sO 4 (.mv (.c (.int .i64 0)))]
def s48 : SF := ⟨17, [.tmp 4], .seq (.reg r48_0) (.seq (.block 0 (.seq (.reg r48_1) (.cond (.t 5) (.seq (.reg r48_2) (.ret)) (.seq (.reg r48_3) (.cond (.t 9) (.seq (.reg r48_4) (.ret)) (.seq (.reg r48_5) (.cond (.t 13) (.seq (.reg r48_6) (.ret)) (.skip)))))))) (.seq (.reg r48_7) (.ret)))⟩
theorem s48_ok : slimF Tryz.prog ⟨[57, 58, 59, 63, 67, 68, 77, 102, 103, 104, 110, 116, 120], []⟩ Tryz.f48 = some s48 := by kernel_rfl
end Go.Proofs.YtmnjchcoigbngaaGreat


namespace Go.Proofs.YtmnjchcoigbngaaGreat
open Go Go.Proofs
def r49_0 : List SO := [
  sO 2 (.mv (.c (.nilsl)))]
def r49_1 : List SO := [
  sO 3 (.mv (.t 0)),
  sO 4 (.call false 83 [.t 3]),
  sO 2 (.mv (.t 4))]
def s49 : SF := ⟨5, [.tmp 2], .seq (.reg r49_0) (.seq (.reg r49_1) (.ret))⟩
theorem s49_ok : slimF Tryz.prog ⟨[57, 58, 59, 63, 67, 68, 77, 102, 103, 104, 110, 116, 120], []⟩ Tryz.f49 = some s49 := by kernel_rfl
end Go.Proofs.YtmnjchcoigbngaaGreat


namespace Go.Proofs.YtmnjchcoigbngaaGreat
open Go Go.Proofs
def r50_0 : List SO := [
  sO 2 (.box 37 2 (.t 0)),
  sO 3 (.box 38 1 (.t 1)),
  sO 4 (.mv (.c (.nilsl))),
  sO 5 (.mv (.c (.bool false)))]
def r50_1 : List SO := [
  sO 8 (.load false 1 (.t 3)),
  sO 9 (.len (.t 8)),
  sO 10 (.bin .eql (.t 9) (.c (.int .i64 0)))]
def r50_2 : List SO := [
  sO 4 (.mv (.c (.nilsl))),
  sO 5 (.mv (.c (.bool true)))]
def r50_3 : List SO := [
  sO 11 (.fld 1 (.t 2)),
  sO 12 (.load false 1 (.t 11)),
  sO 13 (.mkf 85 [.t 3]),
  sO 14 (.call false 84 [.t 12, .t 13]),
  sO 6 (.mv (.t 14))]
def r50_4 : List SO := [
  sO 15 (.mv (.t 6)),
  sO 16 (.bin .lss (.t 15) (.c (.int .i64 0)))]
def r50_5 : List SO := [
  sO 4 (.mv (.c (.nilsl))),
  sO 5 (.mv (.c (.bool false)))]
def r50_6 : List SO := [
  sO 17 (.fld 1 (.t 2)),
  sO 18 (.load false 1 (.t 17)),
  sO 19 (.mv (.t 6)),
  sO 20 (.idx 2 (.t 18) (.t 19)),
  sO 21 (.fld 1 (.t 20)),
  sO 22 (.load false 1 (.t 21)),
  sO 7 (.mv (.t 22))]
def r50_7 : List SO := [
  sO 23 (.mv (.t 7)),
  sO 24 (.load false 1 (.t 3)),
  sO 25 (.len (.t 24)),
  sO 26 (.mv (.t 7)),
  sO 27 (.len (.t 26)),
  sO 28 (.mn (.t 25) (.t 27)),
  sO 29 (.slice 1 (.t 23) none (some (.t 28))),
  sO 30 (.call false 87 [.t 29]),
  sO 4 (.mv (.t 30)),
  sO 5 (.mv (.c (.bool true)))]
def s50 : SF := ⟨31, [.tmp 4, .tmp 5], .seq (.reg r50_0) (.seq (.seq (.reg r50_1) (.cond (.t 10) (.seq (.reg r50_2) (.ret)) (.skip))) (.seq (.reg r50_3) (.seq (.seq (.reg r50_4) (.cond (.t 16) (.seq (.reg r50_5) (.ret)) (.skip))) (.seq (.reg r50_6) (.seq (.reg r50_7) (.ret))))))⟩
theorem s50_ok : slimF Tryz.prog ⟨[57, 58, 59, 63, 67, 68, 77, 102, 103, 104, 110, 116, 120], []⟩ Tryz.f50 = some s50 := by kernel_rfl
end Go.Proofs.YtmnjchcoigbngaaGreat


namespace Go.Proofs.YtmnjchcoigbngaaGreat
open Go Go.Proofs
def r51_0 : List SO := [
  sO 2 (.box 68 5 (.t 0)),
  sO 4 (.mv (.c (.int .i64 0))),
  sO 5 (.mv (.c (.bool false)))]
def r51_1 : List SO := [
  sO 6 (.fld 3 (.t 2)),
  sO 7 (.load false 1 (.t 6)),
  sO 8 (.mv (.t 1)),
  sO 9 (.call false 88 [.t 7, .t 8, .c (.fn 66 [] [])]),
  sO 10 (.ext (.t 9) 0),
  sO 11 (.ext (.t 9) 1),
  sO 4 (.mv (.t 10)),
  sO 5 (.mv (.t 11))]
def s51 : SF := ⟨12, [.tmp 4, .tmp 5], .seq (.reg r51_0) (.seq (.reg r51_1) (.ret))⟩
theorem s51_ok : slimF Tryz.prog ⟨[57, 58, 59, 63, 67, 68, 77, 102, 103, 104, 110, 116, 120], []⟩ Tryz.f51 = some s51 := by kernel_rfl
end Go.Proofs.YtmnjchcoigbngaaGreat


namespace Go.Proofs.YtmnjchcoigbngaaGreat
open Go Go.Proofs
def r53_0 : List SO := [
  sO 4 (.mv (.c (.int .i64 0)))]
def r53_1 : List SO := [
  sO 5 (.mv (.c (.int .i64 0)))]
def r53_2 : List SO := [
  sO 6 (.mv (.t 5)),
  sO 7 (.mv (.t 0)),
  sO 8 (.len (.t 7)),
  sO 9 (.bin .lss (.t 6) (.t 8)),
  sO 10 (.mv (.t 9)),
  ⟨some (10, true), some 11, .mv (.t 5)⟩,
  ⟨some (10, true), some 12, .mv (.t 1)⟩,
  ⟨some (10, true), some 13, .len (.t 12)⟩,
  ⟨some (10, true), some 14, .bin .lss (.t 11) (.t 13)⟩,
  sO 15 (.pick (.t 10) (.t 14) (.c (.bool false))),
  sO 16 (.mv (.t 15)),
  ⟨some (16, true), some 17, .mv (.t 0)⟩,
  ⟨some (16, true), some 18, .mv (.t 5)⟩,
  ⟨some (16, true), some 19, .idx 1 (.t 17) (.t 18)⟩,
  ⟨some (16, true), some 20, .load false 1 (.t 19)⟩,
  ⟨some (16, true), some 21, .mv (.t 1)⟩,
  ⟨some (16, true), some 22, .mv (.t 5)⟩,
  ⟨some (16, true), some 23, .idx 1 (.t 21) (.t 22)⟩,
  ⟨some (16, true), some 24, .load false 1 (.t 23)⟩,
  ⟨some (16, true), some 25, .bin .eql (.t 20) (.t 24)⟩,
  sO 26 (.pick (.t 16) (.t 25) (.c (.bool false)))]
def r53_3 : List SO := [
  sO 27 (.mv (.t 5)),
  sO 28 (.bin .add (.t 27) (.c (.int .i64 1))),
  sO 5 (.mv (.t 28))]
def b53_0 : SC := .seq (.seq (.reg r53_2) (.cond (.t 26) (.skip) (.exit 0))) (.block 1 (.reg r53_3))
def r53_4 : List SO := [
  sO 29 (.mv (.t 5)),
  sO 4 (.mv (.t 29))]
def s53 : SF := ⟨30, [.tmp 4], .seq (.reg r53_0) (.seq (.reg r53_1) (.seq (.block 0 (.loop b53_0)) (.seq (.reg r53_4) (.ret))))⟩
theorem s53_ok : slimF Tryz.prog ⟨[57, 58, 59, 63, 67, 68, 77, 102, 103, 104, 110, 116, 120], []⟩ Tryz.f53 = some s53 := by kernel_rfl
end Go.Proofs.YtmnjchcoigbngaaGreat


namespace Go.Proofs.YtmnjchcoigbngaaGreat
open Go Go.Proofs
def r54_0 : List SO := [
  sO 3 (.box 24 1 (.t 0)),
  sO 6 (.mv (.c (.int .i64 0)))]
def r54_1 : List SO := [
  sO 8 (.mv (.t 1)),
  sO 9 (.bin .lss (.t 8) (.c (.int .i64 0))),
  sO 10 (.mv (.t 9)),
  ⟨some (10, false), some 11, .mv (.t 1)⟩,
  ⟨some (10, false), some 12, .fld 0 (.t 3)⟩,
  ⟨some (10, false), some 13, .load false 1 (.t 12)⟩,
  ⟨some (10, false), some 14, .len (.t 13)⟩,
  ⟨some (10, false), some 15, .bin .geq (.t 11) (.t 14)⟩,
  sO 16 (.pick (.t 10) (.c (.bool true)) (.t 15)),
  sO 7 (.mv (.t 16))]
def r54_2 : List SO := [
  sO 6 (.mv (.c (.int .i64 2)))]
def r54_3 : List SO := [
  sO 18 (.fld 0 (.t 3)),
  sO 19 (.load false 1 (.t 18)),
  sO 20 (.mv (.t 1)),
  sO 21 (.idx 5 (.t 19) (.t 20)),
  sO 22 (.fld 0 (.t 21)),
  sO 23 (.load false 1 (.t 22)),
  sO 24 (.mv (.t 2)),
  sO 25 (.bbin .neq (.t 23) (.t 24)),
  sO 17 (.mv (.t 25))]
def r54_4 : List SO := [
  sO 6 (.mv (.c (.int .i64 10)))]
def r54_5 : List SO := [
  sO 6 (.mv (.c (.int .i64 0)))]
def s54 : SF := ⟨26, [.tmp 6], .seq (.reg r54_0) (.seq (.block 0 (.seq (.reg r54_1) (.cond (.t 7) (.seq (.reg r54_2) (.ret)) (.seq (.reg r54_3) (.cond (.t 17) (.seq (.reg r54_4) (.ret)) (.skip)))))) (.seq (.reg r54_5) (.ret)))⟩
theorem s54_ok : slimF Tryz.prog ⟨[57, 58, 59, 63, 67, 68, 77, 102, 103, 104, 110, 116, 120], []⟩ Tryz.f54 = some s54 := by kernel_rfl
end Go.Proofs.YtmnjchcoigbngaaGreat


namespace Go.Proofs.YtmnjchcoigbngaaGreat
open Go Go.Proofs
def r55_0 : List SO := [
  sO 4 (.mv (.c (.int .i64 0)))]
def r55_1 : List SO := [
  sO 5 (.mv (.t 0)),
  sO 6 (.len (.t 5)),
  sO 7 (.mv (.t 1)),
  sO 8 (.len (.t 7)),
  sO 9 (.bin .neq (.t 6) (.t 8))]
def r55_2 : List SO := [
  sO 4 (.mv (.c (.int .i64 1)))]
def r55_3 : List SO := [
  sO 10 (.mv (.t 0)),
  sO 11 (.call false 81 [.t 10, .c (.fn 89 [] [])])]
def r55_4 : List SO := [
  sO 4 (.mv (.c (.int .i64 2)))]
def r55_5 : List SO := [
  sO 4 (.mv (.c (.int .i64 0)))]
def s55 : SF := ⟨12, [.tmp 4], .seq (.reg r55_0) (.seq (.seq (.reg r55_1) (.cond (.t 9) (.seq (.reg r55_2) (.ret)) (.skip))) (.seq (.seq (.reg r55_3) (.cond (.t 11) (.seq (.reg r55_4) (.ret)) (.skip))) (.seq (.reg r55_5) (.ret))))⟩
theorem s55_ok : slimF Tryz.prog ⟨[57, 58, 59, 63, 67, 68, 77, 102, 103, 104, 110, 116, 120], []⟩ Tryz.f55 = some s55 := by kernel_rfl
end Go.Proofs.YtmnjchcoigbngaaGreat


namespace Go.Proofs.YtmnjchcoigbngaaGreat
open Go Go.Proofs
def r56_0 : List SO := [
  sO 2 (.box 24 1 (.t 0)),
  sO 4 (.mv (.c (.int .i64 0)))]
def r56_1 : List SO := [
  sO 6 (.mv (.t 1)),
  sO 7 (.call false 48 [.t 6, .c (.int .i64 64)]),
  sO 5 (.mv (.t 7))]
def r56_2 : List SO := [
  sO 8 (.mv (.t 5)),
  sO 9 (.bin .neq (.t 8) (.c (.int .i64 0)))]
def r56_3 : List SO := [
  sO 10 (.mv (.t 5)),
  sO 4 (.mv (.t 10))]
def r56_4 : List SO := [
  sO 11 (.load true 1 (.t 2)),
  sO 12 (.call false 37 [.t 11]),
  sO 13 (.mv (.t 1)),
  sO 14 (.call false 90 [.t 12, .t 13])]
def r56_5 : List SO := [
  sO 4 (.mv (.c (.int .i64 7)))]
def r56_6 : List SO := [
  sO 4 (.mv (.c (.int .i64 0)))]
def s56 : SF := ⟨15, [.tmp 4], .seq (.reg r56_0) (.seq (.seq (.reg r56_1) (.seq (.reg r56_2) (.cond (.t 9) (.seq (.reg r56_3) (.ret)) (.skip)))) (.seq (.seq (.reg r56_4) (.cond (.t 14) (.seq (.reg r56_5) (.ret)) (.skip))) (.seq (.reg r56_6) (.ret))))⟩
theorem s56_ok : slimF Tryz.prog ⟨[57, 58, 59, 63, 67, 68, 77, 102, 103, 104, 110, 116, 120], []⟩ Tryz.f56 = some s56 := by kernel_rfl
end Go.Proofs.YtmnjchcoigbngaaGreat


namespace Go.Proofs.YtmnjchcoigbngaaGreat
open Go Go.Proofs
def r57_0 : List SO := [
  sO 1 (.box 24 1 (.t 0)),
  sO 2 (.alloc 24 [.nilsl])]
def r57_1 : List SO := [
  sO 9 (.fld 0 (.t 1)),
  sO 10 (.load false 1 (.t 9)),
  sO 11 (.len (.t 10)),
  sO 12 (.mks 68 5 104 [.bool false, .nilsl, .nilsl, .nilsl, .nilsl] (.t 11) (.t 11)),
  sO 3 (.mv (.t 12))]
def r57_2 : List SO := [
  sO 13 (.mv (.t 3)),
  sO 14 (.fld 0 (.t 1)),
  sO 15 (.load false 1 (.t 14)),
  sO 16 (.cpy 5 (.t 13) (.t 15))]
def r57_3 : List SO := [
  sO 17 (.mv (.t 3)),
  sO 18 (.len (.t 17)),
  sO 19 (.mv (.c (.int .i64 0)))]
def r57_4 : List SO := [
  sO 20 (.bin .lss (.t 19) (.t 18))]
def r57_5 : List SO := [
  sO 21 (.mv (.t 19)),
  sO 22 (.idx 5 (.t 17) (.t 19)),
  sO 23 (.load true 5 (.t 22)),
  sO 5 (.alloc 68 [.bool false, .nilsl, .nilsl, .nilsl, .nilsl]),
  sO 4 (.mv (.t 21)),
  sN (.store 5 (.t 5) (.t 23))]
def r57_6 : List SO := [
  sO 24 (.fld 3 (.t 5)),
  sO 25 (.load false 1 (.t 24)),
  sO 26 (.len (.t 25)),
  sO 27 (.bin .add (.t 26) (.c (.int .i64 1))),
  sO 28 (.mks 38 1 24 [.nilsl] (.c (.int .i64 0)) (.t 27)),
  sO 6 (.mv (.t 28))]
def r57_7 : List SO := [
  sO 29 (.fld 3 (.t 5)),
  sO 30 (.load false 1 (.t 29)),
  sO 31 (.len (.t 30)),
  sO 32 (.mv (.c (.int .i64 0)))]
def r57_8 : List SO := [
  sO 33 (.bin .lss (.t 32) (.t 31))]
def r57_9 : List SO := [
  sO 34 (.idx 1 (.t 30) (.t 32)),
  sO 35 (.load false 1 (.t 34)),
  sO 8 (.mv (.t 35))]
def r57_10 : List SO := [
  sO 36 (.mv (.t 6)),
  sO 37 (.mv (.t 8)),
  sO 38 (.bslice 38 1 false [.nilsl] 1 [(0, .t 37)]),
  sO 39 (.call false 49 [.t 38]),
  sO 40 (.bslice 38 1 false [.nilsl] 1 [(0, .t 39)]),
  sO 41 (.append 38 1 24 (.t 36) (.t 40)),
  sO 6 (.mv (.t 41))]
def r57_11 : List SO := [
  sO 42 (.bin .add (.t 32) (.c (.int .i64 1))),
  sO 32 (.mv (.t 42))]
def b57_1 : SC := .seq (.reg r57_8) (.seq (.cond (.t 33) (.skip) (.exit 2)) (.seq (.block 3 (.seq (.reg r57_9) (.reg r57_10))) (.reg r57_11)))
def r57_12 : List SO := [
  sO 43 (.mv (.t 3)),
  sO 44 (.mv (.t 4)),
  sO 45 (.fld 0 (.t 5)),
  sO 46 (.load false 1 (.t 45)),
  sO 47 (.fld 1 (.t 5)),
  sO 48 (.load false 1 (.t 47)),
  sO 49 (.bslice 38 1 false [.nilsl] 1 [(0, .t 48)]),
  sO 50 (.call false 49 [.t 49]),
  sO 51 (.fld 2 (.t 5)),
  sO 52 (.load false 1 (.t 51)),
  sO 53 (.bslice 38 1 false [.nilsl] 1 [(0, .t 52)]),
  sO 54 (.call false 49 [.t 53]),
  sO 55 (.mv (.t 6)),
  sO 56 (.fld 4 (.t 5)),
  sO 57 (.load false 1 (.t 56)),
  sO 58 (.callA 87 [.t 57]),
  sO 59 (.build [.bool false, .nilsl, .nilsl, .nilsl, .nilsl] [(0, 1, .t 46), (1, 1, .t 50), (2, 1, .t 54), (3, 1, .t 55), (4, 1, .t 58)]),
  sO 60 (.idx 5 (.t 43) (.t 44)),
  sN (.store 5 (.t 60) (.t 59))]
def r57_13 : List SO := [
  sO 61 (.bin .add (.t 19) (.c (.int .i64 1))),
  sO 19 (.mv (.t 61))]
def b57_0 : SC := .seq (.reg r57_4) (.seq (.cond (.t 20) (.skip) (.exit 0)) (.seq (.block 1 (.seq (.reg r57_5) (.seq (.reg r57_6) (.seq (.seq (.reg r57_7) (.block 2 (.loop b57_1))) (.dreg [58] r57_12))))) (.reg r57_13)))
def r57_14 : List SO := [
  sO 62 (.mv (.t 3)),
  sO 63 (.build [.nilsl] [(0, 1, .t 62)]),
  sN (.store 1 (.t 2) (.t 63))]
def s57 : SF := ⟨64, [.cell 2 true 1], .seq (.reg r57_0) (.seq (.reg r57_1) (.seq (.reg r57_2) (.seq (.seq (.reg r57_3) (.block 0 (.loop b57_0))) (.seq (.reg r57_14) (.ret)))))⟩
theorem s57_ok : slimF Tryz.prog ⟨[57, 58, 59, 63, 67, 68, 77, 102, 103, 104, 110, 116, 120], [58]⟩ Tryz.f57 = some s57 := by kernel_rfl
end Go.Proofs.YtmnjchcoigbngaaGreat


namespace Go.Proofs.YtmnjchcoigbngaaGreat
open Go Go.Proofs
def r65_0 : List SO := [
  sO 6 (.box 24 1 (.t 0)),
  sO 12 (.mv (.c (.int .i64 0)))]
def r65_1 : List SO := [
  sO 18 (.load true 1 (.t 6)),
  sO 19 (.mv (.t 1)),
  sO 20 (.call false 54 [.t 18, .t 19, .c (.bool true)]),
  sO 13 (.mv (.t 20))]
def r65_2 : List SO := [
  sO 21 (.mv (.t 13)),
  sO 22 (.bin .neq (.t 21) (.c (.int .i64 0)))]
def r65_3 : List SO := [
  sO 23 (.mv (.t 13)),
  sO 12 (.mv (.t 23))]
def r65_4 : List SO := [
  sO 24 (.mv (.t 2)),
  sO 25 (.len (.t 24)),
  sO 26 (.bin .eql (.t 25) (.c (.int .i64 0)))]
def r65_5 : List SO := [
  sO 12 (.mv (.c (.int .i64 19)))]
def r65_6 : List SO := [
  sO 27 (.mv (.t 2)),
  sO 28 (.call false 48 [.t 27, .c (.int .i64 64)]),
  sO 14 (.mv (.t 28))]
def r65_7 : List SO := [
  sO 29 (.mv (.t 14)),
  sO 30 (.bin .neq (.t 29) (.c (.int .i64 0)))]
def r65_8 : List SO := [
  sO 31 (.mv (.t 14)),
  sO 12 (.mv (.t 31))]
def r65_9 : List SO := [
  sO 32 (.mv (.t 3)),
  sO 33 (.mv (.t 2)),
  sO 34 (.call false 55 [.t 32, .t 33]),
  sO 15 (.mv (.t 34))]
def r65_10 : List SO := [
  sO 35 (.mv (.t 15)),
  sO 36 (.bin .neq (.t 35) (.c (.int .i64 0)))]
def r65_11 : List SO := [
  sO 37 (.mv (.t 15)),
  sO 12 (.mv (.t 37))]
def r65_12 : List SO := [
  sO 38 (.load true 1 (.t 6)),
  sO 39 (.mv (.t 4)),
  sO 40 (.call false 56 [.t 38, .t 39]),
  sO 16 (.mv (.t 40))]
def r65_13 : List SO := [
  sO 41 (.mv (.t 16)),
  sO 42 (.bin .neq (.t 41) (.c (.int .i64 0)))]
def r65_14 : List SO := [
  sO 43 (.mv (.t 16)),
  sO 12 (.mv (.t 43))]
def r65_15 : List SO := [
  sO 44 (.mv (.t 5)),
  sO 45 (.mv (.t 2)),
  sO 46 (.call false 55 [.t 44, .t 45]),
  sO 17 (.mv (.t 46))]
def r65_16 : List SO := [
  sO 47 (.mv (.t 17)),
  sO 48 (.bin .neq (.t 47) (.c (.int .i64 0)))]
def r65_17 : List SO := [
  sO 49 (.mv (.t 17)),
  sO 12 (.mv (.t 49))]
def r65_18 : List SO := [
  sO 51 (.mv (.t 3)),
  sO 52 (.mv (.t 5)),
  sO 53 (.call false 96 [.t 51, .t 52]),
  sO 50 (.mv (.t 53))]
def r65_19 : List SO := [
  sO 12 (.mv (.c (.int .i64 15)))]
def r65_20 : List SO := [
  sO 55 (.fld 0 (.t 6)),
  sO 56 (.load false 1 (.t 55)),
  sO 57 (.len (.t 56)),
  sO 58 (.bin .gtr (.t 57) (.c (.int .i64 4094))),
  sO 54 (.mv (.t 58))]
def r65_21 : List SO := [
  sO 12 (.mv (.c (.int .i64 11)))]
def r65_22 : List SO := [
  sO 12 (.mv (.c (.int .i64 0)))]
def s65 : SF := ⟨59, [.tmp 12], .seq (.reg r65_0) (.seq (.seq (.reg r65_1) (.seq (.reg r65_2) (.cond (.t 22) (.seq (.reg r65_3) (.ret)) (.skip)))) (.seq (.seq (.reg r65_4) (.cond (.t 26) (.seq (.reg r65_5) (.ret)) (.skip))) (.seq (.seq (.reg r65_6) (.seq (.reg r65_7) (.cond (.t 30) (.seq (.reg r65_8) (.ret)) (.skip)))) (.seq (.seq (.reg r65_9) (.seq (.reg r65_10) (.cond (.t 36) (.seq (.reg r65_11) (.ret)) (.skip)))) (.seq (.seq (.reg r65_12) (.seq (.reg r65_13) (.cond (.t 42) (.seq (.reg r65_14) (.ret)) (.skip)))) (.seq (.seq (.reg r65_15) (.seq (.reg r65_16) (.cond (.t 48) (.seq (.reg r65_17) (.ret)) (.skip)))) (.seq (.block 0 (.seq (.reg r65_18) (.cond (.t 50) (.seq (.reg r65_19) (.ret)) (.seq (.reg r65_20) (.cond (.t 54) (.seq (.reg r65_21) (.ret)) (.skip)))))) (.seq (.reg r65_22) (.ret)))))))))⟩
theorem s65_ok : slimF Tryz.prog ⟨[57, 58, 59, 63, 67, 68, 77, 102, 103, 104, 110, 116, 120], []⟩ Tryz.f65 = some s65 := by kernel_rfl
end Go.Proofs.YtmnjchcoigbngaaGreat


namespace Go.Proofs.YtmnjchcoigbngaaGreat
open Go Go.Proofs
def r66_0 : List SO := [
  sO 4 (.mv (.c (.int .i64 0)))]
def r66_1 : List SO := [
  sO 5 (.mv (.t 0)),
  sO 6 (.mv (.t 1)),
  sO 7 (.call false 97 [.t 5, .t 6]),
  sO 4 (.mv (.t 7))]
def s66 : SF := ⟨8, [.tmp 4], .seq (.reg r66_0) (.seq (.reg r66_1) (.ret))⟩
theorem s66_ok : slimF Tryz.prog ⟨[57, 58, 59, 63, 67, 68, 77, 102, 103, 104, 110, 116, 120], []⟩ Tryz.f66 = some s66 := by kernel_rfl
end Go.Proofs.YtmnjchcoigbngaaGreat


namespace Go.Proofs.YtmnjchcoigbngaaGreat
open Go Go.Proofs
def r67_0 : List SO := [
  sO 4 (.mv (.t 0)),
  sO 5 (.len (.t 4)),
  sO 6 (.bin .sub (.t 5) (.c (.int .i64 1))),
  sO 2 (.mv (.c (.int .i64 0))),
  sO 3 (.mv (.t 6))]
def r67_1 : List SO := [
  sO 7 (.mv (.t 2)),
  sO 8 (.mv (.t 3)),
  sO 9 (.bin .lss (.t 7) (.t 8))]
def r67_3 : List SO := [
  sO 14 (.mv (.t 0)),
  sO 15 (.mv (.t 2)),
  sO 16 (.mv (.t 0)),
  sO 17 (.mv (.t 3)),
  sO 18 (.mv (.t 0)),
  sO 19 (.mv (.t 3)),
  sO 20 (.idx 1 (.t 18) (.t 19)),
  sO 21 (.load false 1 (.t 20)),
  sO 22 (.mv (.t 0)),
  sO 23 (.mv (.t 2)),
  sO 24 (.idx 1 (.t 22) (.t 23)),
  sO 25 (.load false 1 (.t 24)),
  sO 26 (.idx 1 (.t 14) (.t 15)),
  sN (.store 1 (.t 26) (.t 21)),
  sO 27 (.idx 1 (.t 16) (.t 17)),
  sN (.store 1 (.t 27) (.t 25))]
def r67_2 : List SO := [
  sO 10 (.mv (.t 2)),
  sO 11 (.bin .add (.t 10) (.c (.int .i64 1))),
  sO 12 (.mv (.t 3)),
  sO 13 (.bin .sub (.t 12) (.c (.int .i64 1))),
  sO 2 (.mv (.t 11)),
  sO 3 (.mv (.t 13))]
def b67_0 : SC := .seq (.seq (.reg r67_1) (.cond (.t 9) (.skip) (.exit 0))) (.seq (.block 1 (.reg r67_3)) (.reg r67_2))
def s67 : SF := ⟨28, [], .seq (.reg r67_0) (.block 0 (.loop b67_0))⟩
theorem s67_ok : slimF Tryz.prog ⟨[57, 58, 59, 63, 67, 68, 77, 102, 103, 104, 110, 116, 120], []⟩ Tryz.f67 = some s67 := by kernel_rfl
end Go.Proofs.YtmnjchcoigbngaaGreat


namespace Go.Proofs.YtmnjchcoigbngaaGreat
open Go Go.Proofs
def r68_0 : List SO := [
  sO 4 (.mv (.t 0)),
  sO 5 (.len (.t 4)),
  sO 6 (.bin .sub (.t 5) (.c (.int .i64 1))),
  sO 2 (.mv (.c (.int .i64 0))),
  sO 3 (.mv (.t 6))]
def r68_1 : List SO := [
  sO 7 (.mv (.t 2)),
  sO 8 (.mv (.t 3)),
  sO 9 (.bin .lss (.t 7) (.t 8))]
def r68_3 : List SO := [
  sO 14 (.mv (.t 0)),
  sO 15 (.mv (.t 2)),
  sO 16 (.mv (.t 0)),
  sO 17 (.mv (.t 3)),
  sO 18 (.mv (.t 0)),
  sO 19 (.mv (.t 3)),
  sO 20 (.idx 1 (.t 18) (.t 19)),
  sO 21 (.load false 1 (.t 20)),
  sO 22 (.mv (.t 0)),
  sO 23 (.mv (.t 2)),
  sO 24 (.idx 1 (.t 22) (.t 23)),
  sO 25 (.load false 1 (.t 24)),
  sO 26 (.idx 1 (.t 14) (.t 15)),
  sN (.store 1 (.t 26) (.t 21)),
  sO 27 (.idx 1 (.t 16) (.t 17)),
  sN (.store 1 (.t 27) (.t 25))]
def r68_2 : List SO := [
  sO 10 (.mv (.t 2)),
  sO 11 (.bin .add (.t 10) (.c (.int .i64 1))),
  sO 12 (.mv (.t 3)),
  sO 13 (.bin .sub (.t 12) (.c (.int .i64 1))),
  sO 2 (.mv (.t 11)),
  sO 3 (.mv (.t 13))]
def b68_0 : SC := .seq (.seq (.reg r68_1) (.cond (.t 9) (.skip) (.exit 0))) (.seq (.block 1 (.reg r68_3)) (.reg r68_2))
def s68 : SF := ⟨28, [], .seq (.reg r68_0) (.block 0 (.loop b68_0))⟩
theorem s68_ok : slimF Tryz.prog ⟨[57, 58, 59, 63, 67, 68, 77, 102, 103, 104, 110, 116, 120], []⟩ Tryz.f68 = some s68 := by kernel_rfl
end Go.Proofs.YtmnjchcoigbngaaGreat


namespace Go.Proofs.YtmnjchcoigbngaaGreat
open Go Go.Proofs
def r70_0 : List SO := [
  sO 2 (.box 24 1 (.t 0)),
  sO 3 (.box 3 1 (.t 1)),
  sO 4 (.mv (.c (.nilsl)))]
def r70_1 : List SO := [
  sO 6 (.load false 1 (.t 3)),
  sO 7 (.bslice 3 1 true [.int .i64 0] 1 [(0, .t 6)]),
  sO 5 (.mv (.t 7))]
def r70_2 : List SO := [
  sO 8 (.load false 1 (.t 3)),
  sO 9 (.bin .neq (.t 8) (.c (.int .i64 0)))]
def r70_3 : List SO := [
  sO 10 (.fld 0 (.t 2)),
  sO 11 (.load false 1 (.t 10)),
  sO 12 (.mkf 99 [.t 3]),
  sO 13 (.call false 98 [.t 11, .t 12]),
  sN (.store 1 (.t 3) (.t 13))]
def r70_4 : List SO := [
  sO 14 (.mv (.t 5)),
  sO 15 (.load false 1 (.t 3)),
  sO 16 (.bslice 3 1 false [.int .i64 0] 1 [(0, .t 15)]),
  sO 17 (.append 3 1 8 (.t 14) (.t 16)),
  sO 5 (.mv (.t 17))]
def b70_0 : SC := .seq (.seq (.reg r70_2) (.cond (.t 9) (.skip) (.exit 0))) (.block 1 (.seq (.reg r70_3) (.reg r70_4)))
def r70_5 : List SO := [
  sO 18 (.mv (.t 5)),
  sO 19 (.call true 68 [.t 18])]
def r70_6 : List SO := [
  sO 20 (.mv (.t 5)),
  sO 4 (.mv (.t 20))]
def s70 : SF := ⟨21, [.tmp 4], .seq (.reg r70_0) (.seq (.reg r70_1) (.seq (.block 0 (.loop b70_0)) (.seq (.reg r70_5) (.seq (.reg r70_6) (.ret)))))⟩
theorem s70_ok : slimF Tryz.prog ⟨[57, 58, 59, 63, 67, 68, 77, 102, 103, 104, 110, 116, 120], [7]⟩ Tryz.f70 = some s70 := by kernel_rfl
end Go.Proofs.YtmnjchcoigbngaaGreat


namespace Go.Proofs.YtmnjchcoigbngaaGreat
open Go Go.Proofs
def r71_0 : List SO := [
  sO 4 (.mv (.c (.int .i64 0)))]
def r71_1 : List SO := [
  sO 6 (.mv (.t 0)),
  sO 7 (.len (.t 6)),
  sO 8 (.mv (.t 1)),
  sO 9 (.len (.t 8)),
  sO 10 (.mn (.t 7) (.t 9)),
  sO 11 (.mv (.c (.int .i64 0)))]
def r71_2 : List SO := [
  sO 12 (.bin .lss (.t 11) (.t 10))]
def r71_3 : List SO := [
  sO 13 (.mv (.t 11)),
  sO 5 (.mv (.t 13))]
def r71_4 : List SO := [
  sO 14 (.mv (.t 0)),
  sO 15 (.mv (.t 5)),
  sO 16 (.idx 1 (.t 14) (.t 15)),
  sO 17 (.load false 1 (.t 16)),
  sO 18 (.mv (.t 1)),
  sO 19 (.mv (.t 5)),
  sO 20 (.idx 1 (.t 18) (.t 19)),
  sO 21 (.load false 1 (.t 20)),
  sO 22 (.bin .neq (.t 17) (.t 21))]
def r71_5 : List SO := [
  sO 23 (.mv (.t 5)),
  sO 4 (.mv (.t 23))]
def r71_6 : List SO := [
  sO 24 (.bin .add (.t 11) (.c (.int .i64 1))),
  sO 11 (.mv (.t 24))]
def b71_0 : SC := .seq (.reg r71_2) (.seq (.cond (.t 12) (.skip) (.exit 0)) (.seq (.block 1 (.seq (.reg r71_3) (.seq (.reg r71_4) (.cond (.t 22) (.seq (.reg r71_5) (.ret)) (.skip))))) (.reg r71_6)))
def r71_7 : List SO := [
  sO 25 (.mv (.t 0)),
  sO 26 (.len (.t 25)),
  sO 27 (.mv (.t 1)),
  sO 28 (.len (.t 27)),
  sO 29 (.mn (.t 26) (.t 28)),
  sO 4 (.mv (.t 29))]
def s71 : SF := ⟨30, [.tmp 4], .seq (.reg r71_0) (.seq (.seq (.reg r71_1) (.block 0 (.loop b71_0))) (.seq (.reg r71_7) (.ret)))⟩
theorem s71_ok : slimF Tryz.prog ⟨[57, 58, 59, 63, 67, 68, 77, 102, 103, 104, 110, 116, 120], []⟩ Tryz.f71 = some s71 := by kernel_rfl
end Go.Proofs.YtmnjchcoigbngaaGreat


namespace Go.Proofs.YtmnjchcoigbngaaGreat
open Go Go.Proofs
def r80_0 : List SO := [
  sO 2 (.mv (.c (.bool false)))]
def r80_1 : List SO := [
  sO 3 (.mv (.t 0)),
  sO 4 (.bin .geq (.t 3) (.c (.int .i64 1))),
  sO 5 (.mv (.t 4)),
  ⟨some (5, true), some 6, .mv (.t 0)⟩,
  ⟨some (5, true), some 7, .bin .leq (.t 6) (.c (.int .i64 1024))⟩,
  sO 8 (.pick (.t 5) (.t 7) (.c (.bool false))),
  sO 2 (.mv (.t 8))]
def s80 : SF := ⟨9, [.tmp 2], .seq (.reg r80_0) (.seq (.reg r80_1) (.ret))⟩
theorem s80_ok : slimF Tryz.prog ⟨[57, 58, 59, 63, 67, 68, 77, 102, 103, 104, 110, 116, 120], []⟩ Tryz.f80 = some s80 := by kernel_rfl
end Go.Proofs.YtmnjchcoigbngaaGreat


namespace Go.Proofs.YtmnjchcoigbngaaGreat
open Go Go.Proofs
def r81_0 : List SO := [
  sO 4 (.mv (.c (.bool false)))]
def r81_1 : List SO := [
  sO 5 (.mv (.t 0)),
  sO 6 (.mv (.t 1)),
  sO 7 (.call false 109 [.t 5, .t 6]),
  sO 8 (.bin .geq (.t 7) (.c (.int .i64 0))),
  sO 4 (.mv (.t 8))]
def s81 : SF := ⟨9, [.tmp 4], .seq (.reg r81_0) (.seq (.reg r81_1) (.ret))⟩
theorem s81_ok : slimF Tryz.prog ⟨[57, 58, 59, 63, 67, 68, 77, 102, 103, 104, 110, 116, 120], []⟩ Tryz.f81 = some s81 := by kernel_rfl
end Go.Proofs.YtmnjchcoigbngaaGreat


namespace Go.Proofs.YtmnjchcoigbngaaGreat
open Go Go.Proofs
def r82_0 : List SO := [
  sO 3 (.mv (.c (.bool false)))]
def r82_1 : List SO := [
  sO 4 (.mv (.t 0)),
  sO 5 (.bin .lss (.t 4) (.c (.int .i64 0))),
  sO 6 (.mv (.t 5)),
  ⟨some (6, false), some 7, .mv (.t 0)⟩,
  ⟨some (6, false), some 8, .load false 1 (.t 1)⟩,
  ⟨some (6, false), some 9, .bin .geq (.t 7) (.t 8)⟩,
  sO 10 (.pick (.t 6) (.c (.bool true)) (.t 9)),
  sO 3 (.mv (.t 10))]
def s82 : SF := ⟨11, [.tmp 3], .seq (.reg r82_0) (.seq (.reg r82_1) (.ret))⟩
theorem s82_ok : slimF Tryz.prog ⟨[57, 58, 59, 63, 67, 68, 77, 102, 103, 104, 110, 116, 120], []⟩ Tryz.f82 = some s82 := by kernel_rfl
end Go.Proofs.YtmnjchcoigbngaaGreat


namespace Go.Proofs.YtmnjchcoigbngaaGreat
open Go Go.Proofs
def r83_0 : List SO := [
  sO 2 (.mv (.c (.nilsl)))]
def r83_1 : List SO := [
  sO 3 (.mv (.c (.int .i64 0)))]
def r83_2 : List SO := [
  sO 9 (.mv (.t 0)),
  sO 10 (.len (.t 9)),
  sO 11 (.mv (.c (.int .i64 0)))]
def r83_3 : List SO := [
  sO 12 (.bin .lss (.t 11) (.t 10))]
def r83_4 : List SO := [
  sO 13 (.idx 1 (.t 9) (.t 11)),
  sO 14 (.load false 1 (.t 13)),
  sO 5 (.mv (.t 14))]
def r83_5 : List SO := [
  sO 15 (.mv (.t 3)),
  sO 16 (.mv (.t 5)),
  sO 17 (.len (.t 16)),
  sO 18 (.bin .add (.t 15) (.t 17)),
  sO 3 (.mv (.t 18))]
def r83_6 : List SO := [
  sO 19 (.mv (.t 3)),
  sO 20 (.bin .lss (.t 19) (.c (.int .i64 0)))]
def r83_7 : List SO := [
  sO 21 (.bad),
  sN (.bad)]
def r83_8 : List SO := [
  sO 22 (.bin .add (.t 11) (.c (.int .i64 1))),
  sO 11 (.mv (.t 22))]
def b83_0 : SC := .seq (.reg r83_3) (.seq (.cond (.t 12) (.skip) (.exit 0)) (.seq (.block 1 (.seq (.reg r83_4) (.seq (.reg r83_5) (.seq (.reg r83_6) (.cond (.t 20) (.reg r83_7) (.skip)))))) (.reg r83_8)))
def r83_9 : List SO := [
  sO 23 (.mv (.t 3)),
  sO 24 (.call true 110 [.c (.nilsl), .t 23]),
  sO 6 (.mv (.t 24))]
def r83_10 : List SO := [
  sO 25 (.mv (.t 0)),
  sO 26 (.len (.t 25)),
  sO 27 (.mv (.c (.int .i64 0)))]
def r83_11 : List SO := [
  sO 28 (.bin .lss (.t 27) (.t 26))]
def r83_12 : List SO := [
  sO 29 (.idx 1 (.t 25) (.t 27)),
  sO 30 (.load false 1 (.t 29)),
  sO 8 (.mv (.t 30))]
def r83_13 : List SO := [
  sO 31 (.mv (.t 6)),
  sO 32 (.mv (.t 8)),
  sO 33 (.append 3 1 8 (.t 31) (.t 32)),
  sO 6 (.mv (.t 33))]
def r83_14 : List SO := [
  sO 34 (.bin .add (.t 27) (.c (.int .i64 1))),
  sO 27 (.mv (.t 34))]
def b83_1 : SC := .seq (.reg r83_11) (.seq (.cond (.t 28) (.skip) (.exit 2)) (.seq (.block 3 (.seq (.reg r83_12) (.reg r83_13))) (.reg r83_14)))
def r83_15 : List SO := [
  sO 35 (.mv (.t 6)),
  sO 2 (.mv (.t 35))]
def s83 : SF := ⟨36, [.tmp 2], .seq (.reg r83_0) (.seq (.reg r83_1) (.seq (.seq (.reg r83_2) (.block 0 (.loop b83_0))) (.seq (.reg r83_9) (.seq (.seq (.reg r83_10) (.block 2 (.loop b83_1))) (.seq (.reg r83_15) (.ret))))))⟩
theorem s83_ok : slimF Tryz.prog ⟨[57, 58, 59, 63, 67, 68, 77, 102, 103, 104, 110, 116, 120], []⟩ Tryz.f83 = some s83 := by kernel_rfl
end Go.Proofs.YtmnjchcoigbngaaGreat


namespace Go.Proofs.YtmnjchcoigbngaaGreat
open Go Go.Proofs
def r84_0 : List SO := [
  sO 4 (.mv (.c (.int .i64 0)))]
def r84_1 : List SO := [
  sO 6 (.mv (.t 0)),
  sO 7 (.len (.t 6)),
  sO 8 (.mv (.c (.int .i64 0)))]
def r84_2 : List SO := [
  sO 9 (.bin .lss (.t 8) (.t 7))]
def r84_3 : List SO := [
  sO 10 (.mv (.t 8)),
  sO 5 (.mv (.t 10))]
def r84_4 : List SO := [
  sO 11 (.mv (.t 1)),
  sO 12 (.mv (.t 0)),
  sO 13 (.mv (.t 5)),
  sO 14 (.idx 2 (.t 12) (.t 13)),
  sO 15 (.load true 2 (.t 14)),
  sO 16 (.callv false (.t 11) [.t 15])]
def r84_5 : List SO := [
  sO 17 (.mv (.t 5)),
  sO 4 (.mv (.t 17))]
def r84_6 : List SO := [
  sO 18 (.bin .add (.t 8) (.c (.int .i64 1))),
  sO 8 (.mv (.t 18))]
def b84_0 : SC := .seq (.reg r84_2) (.seq (.cond (.t 9) (.skip) (.exit 0)) (.seq (.block 1 (.seq (.reg r84_3) (.seq (.reg r84_4) (.cond (.t 16) (.seq (.reg r84_5) (.ret)) (.skip))))) (.reg r84_6)))
def r84_7 : List SO := [
  sO 4 (.mv (.c (.int .i64 (-1))))]
def s84 : SF := ⟨19, [.tmp 4], .seq (.reg r84_0) (.seq (.seq (.reg r84_1) (.block 0 (.loop b84_0))) (.seq (.reg r84_7) (.ret)))⟩
theorem s84_ok : slimF Tryz.prog ⟨[57, 58, 59, 63, 67, 68, 77, 102, 103, 104, 110, 116, 120], []⟩ Tryz.f84 = some s84 := by kernel_rfl
end Go.Proofs.YtmnjchcoigbngaaGreat


namespace Go.Proofs.YtmnjchcoigbngaaGreat
open Go Go.Proofs
def r85_0 : List SO := [
  sO 2 (.box 70 2 (.t 0)),
  sO 3 (.mv (.c (.bool false)))]
def r85_1 : List SO := [
  sO 4 (.fld 0 (.t 2)),
  sO 5 (.load false 1 (.t 4)),
  sO 6 (.load false 1 (.t 1)),
  sO 7 (.call false 86 [.t 5, .t 6]),
  sO 3 (.mv (.t 7))]
def s85 : SF := ⟨8, [.tmp 3], .seq (.reg r85_0) (.seq (.reg r85_1) (.ret))⟩
theorem s85_ok : slimF Tryz.prog ⟨[57, 58, 59, 63, 67, 68, 77, 102, 103, 104, 110, 116, 120], []⟩ Tryz.f85 = some s85 := by kernel_rfl
end Go.Proofs.YtmnjchcoigbngaaGreat


namespace Go.Proofs.YtmnjchcoigbngaaGreat
open Go Go.Proofs
def r86_0 : List SO := [
  sO 4 (.mv (.c (.bool false)))]
def r86_1 : List SO := [
  sO 5 (.mv (.t 0)),
  sO 6 (.mv (.t 1)),
  sO 7 (.call false 71 [.t 5, .t 6]),
  sO 8 (.mv (.t 1)),
  sO 9 (.len (.t 8)),
  sO 10 (.bin .eql (.t 7) (.t 9)),
  sO 4 (.mv (.t 10))]
def s86 : SF := ⟨11, [.tmp 4], .seq (.reg r86_0) (.seq (.reg r86_1) (.ret))⟩
theorem s86_ok : slimF Tryz.prog ⟨[57, 58, 59, 63, 67, 68, 77, 102, 103, 104, 110, 116, 120], []⟩ Tryz.f86 = some s86 := by kernel_rfl
end Go.Proofs.YtmnjchcoigbngaaGreat


namespace Go.Proofs.YtmnjchcoigbngaaGreat
open Go Go.Proofs
def r88_0 : List SO := [
  sO 6 (.mv (.c (.int .i64 0))),
  sO 7 (.mv (.c (.bool false)))]
def r88_1 : List SO := [
  sO 12 (.mv (.t 0)),
  sO 13 (.len (.t 12)),
  sO 8 (.mv (.t 13))]
def r88_2 : List SO := [
  sO 14 (.mv (.t 8)),
  sO 9 (.mv (.c (.int .i64 0))),
  sO 10 (.mv (.t 14))]
def r88_3 : List SO := [
  sO 15 (.mv (.t 9)),
  sO 16 (.mv (.t 10)),
  sO 17 (.bin .lss (.t 15) (.t 16))]
def r88_4 : List SO := [
  sO 18 (.mv (.t 9)),
  sO 19 (.mv (.t 10)),
  sO 20 (.bin .add (.t 18) (.t 19)),
  sO 21 (.conv .u64 (.t 20)),
  sO 22 (.bin .shr (.t 21) (.c (.int .u64 1))),
  sO 23 (.conv .i64 (.t 22)),
  sO 11 (.mv (.t 23))]
def r88_5 : List SO := [
  sO 24 (.mv (.t 2)),
  sO 25 (.mv (.t 0)),
  sO 26 (.mv (.t 11)),
  sO 27 (.idx 1 (.t 25) (.t 26)),
  sO 28 (.load false 1 (.t 27)),
  sO 29 (.mv (.t 1)),
  sO 30 (.callv false (.t 24) [.t 28, .t 29]),
  sO 31 (.bin .lss (.t 30) (.c (.int .i64 0)))]
def r88_6 : List SO := [
  sO 32 (.mv (.t 11)),
  sO 33 (.bin .add (.t 32) (.c (.int .i64 1))),
  sO 9 (.mv (.t 33))]
def r88_7 : List SO := [
  sO 34 (.mv (.t 11)),
  sO 10 (.mv (.t 34))]
def b88_0 : SC := .seq (.seq (.reg r88_3) (.cond (.t 17) (.skip) (.exit 0))) (.block 1 (.seq (.reg r88_4) (.seq (.reg r88_5) (.cond (.t 31) (.reg r88_6) (.reg r88_7)))))
def r88_8 : List SO := [
  sO 35 (.mv (.t 9)),
  sO 36 (.mv (.t 9)),
  sO 37 (.mv (.t 8)),
  sO 38 (.bin .lss (.t 36) (.t 37)),
  sO 39 (.mv (.t 38)),
  ⟨some (39, true), some 40, .mv (.t 2)⟩,
  ⟨some (39, true), some 41, .mv (.t 0)⟩,
  ⟨some (39, true), some 42, .mv (.t 9)⟩,
  ⟨some (39, true), some 43, .idx 1 (.t 41) (.t 42)⟩,
  ⟨some (39, true), some 44, .load false 1 (.t 43)⟩,
  ⟨some (39, true), some 45, .mv (.t 1)⟩,
  ⟨some (39, true), some 46, .callv false (.t 40) [.t 44, .t 45]⟩,
  ⟨some (39, true), some 47, .bin .eql (.t 46) (.c (.int .i64 0))⟩,
  sO 48 (.pick (.t 39) (.t 47) (.c (.bool false))),
  sO 6 (.mv (.t 35)),
  sO 7 (.mv (.t 48))]
def s88 : SF := ⟨49, [.tmp 6, .tmp 7], .seq (.reg r88_0) (.seq (.reg r88_1) (.seq (.reg r88_2) (.seq (.block 0 (.loop b88_0)) (.seq (.reg r88_8) (.ret)))))⟩
theorem s88_ok : slimF Tryz.prog ⟨[57, 58, 59, 63, 67, 68, 77, 102, 103, 104, 110, 116, 120], []⟩ Tryz.f88 = some s88 := by kernel_rfl
end Go.Proofs.YtmnjchcoigbngaaGreat


namespace Go.Proofs.YtmnjchcoigbngaaGreat
open Go Go.Proofs
def r89_0 : List SO := [
  sO 2 (.mv (.c (.bool false)))]
def r89_1 : List SO := [
  sO 3 (.mv (.t 0)),
  sO 4 (.bin .lss (.t 3) (.c (.int .i64 0))),
  sO 5 (.mv (.t 4)),
  ⟨some (5, false), some 6, .mv (.t 0)⟩,
  ⟨some (5, false), some 7, .bin .gtr (.t 6) (.c (.int .i64 1048576))⟩,
  sO 8 (.pick (.t 5) (.c (.bool true)) (.t 7)),
  sO 2 (.mv (.t 8))]
def s89 : SF := ⟨9, [.tmp 2], .seq (.reg r89_0) (.seq (.reg r89_1) (.ret))⟩
theorem s89_ok : slimF Tryz.prog ⟨[57, 58, 59, 63, 67, 68, 77, 102, 103, 104, 110, 116, 120], []⟩ Tryz.f89 = some s89 := by kernel_rfl
end Go.Proofs.YtmnjchcoigbngaaGreat


namespace Go.Proofs.YtmnjchcoigbngaaGreat
open Go Go.Proofs
def r90_0 : List SO := [
  sO 3 (.box 38 1 (.t 1)),
  sO 4 (.mv (.c (.bool false)))]
def r90_1 : List SO := [
  sO 5 (.mv (.t 0)),
  sO 6 (.mkf 112 [.t 3]),
  sO 7 (.call false 111 [.t 5, .t 6]),
  sO 4 (.mv (.t 7))]
def s90 : SF := ⟨8, [.tmp 4], .seq (.reg r90_0) (.seq (.reg r90_1) (.ret))⟩
theorem s90_ok : slimF Tryz.prog ⟨[57, 58, 59, 63, 67, 68, 77, 102, 103, 104, 110, 116, 120], []⟩ Tryz.f90 = some s90 := by kernel_rfl
end Go.Proofs.YtmnjchcoigbngaaGreat


namespace Go.Proofs.YtmnjchcoigbngaaGreat
open Go Go.Proofs
def r96_0 : List SO := [
  sO 4 (.mv (.c (.bool false)))]
def r96_1 : List SO := [
  sO 6 (.mv (.t 0)),
  sO 7 (.len (.t 6)),
  sO 8 (.mv (.t 1)),
  sO 9 (.len (.t 8)),
  sO 10 (.bin .neq (.t 7) (.t 9))]
def r96_2 : List SO := [
  sO 4 (.mv (.c (.bool false)))]
def r96_3 : List SO := [
  sO 11 (.mv (.t 0)),
  sO 12 (.len (.t 11)),
  sO 13 (.mv (.c (.int .i64 0)))]
def r96_4 : List SO := [
  sO 14 (.bin .lss (.t 13) (.t 12))]
def r96_5 : List SO := [
  sO 15 (.mv (.t 13)),
  sO 5 (.mv (.t 15))]
def r96_6 : List SO := [
  sO 16 (.mv (.t 0)),
  sO 17 (.mv (.t 5)),
  sO 18 (.idx 1 (.t 16) (.t 17)),
  sO 19 (.load false 1 (.t 18)),
  sO 20 (.mv (.t 1)),
  sO 21 (.mv (.t 5)),
  sO 22 (.idx 1 (.t 20) (.t 21)),
  sO 23 (.load false 1 (.t 22)),
  sO 24 (.bin .neq (.t 19) (.t 23))]
def r96_7 : List SO := [
  sO 4 (.mv (.c (.bool false)))]
def r96_8 : List SO := [
  sO 25 (.bin .add (.t 13) (.c (.int .i64 1))),
  sO 13 (.mv (.t 25))]
def b96_0 : SC := .seq (.reg r96_4) (.seq (.cond (.t 14) (.skip) (.exit 0)) (.seq (.block 1 (.seq (.reg r96_5) (.seq (.reg r96_6) (.cond (.t 24) (.seq (.reg r96_7) (.ret)) (.skip))))) (.reg r96_8)))
def r96_9 : List SO := [
  sO 4 (.mv (.c (.bool true)))]
def s96 : SF := ⟨26, [.tmp 4], .seq (.reg r96_0) (.seq (.seq (.reg r96_1) (.cond (.t 10) (.seq (.reg r96_2) (.ret)) (.skip))) (.seq (.seq (.reg r96_3) (.block 0 (.loop b96_0))) (.seq (.reg r96_9) (.ret))))⟩
theorem s96_ok : slimF Tryz.prog ⟨[57, 58, 59, 63, 67, 68, 77, 102, 103, 104, 110, 116, 120], []⟩ Tryz.f96 = some s96 := by kernel_rfl
end Go.Proofs.YtmnjchcoigbngaaGreat


namespace Go.Proofs.YtmnjchcoigbngaaGreat
open Go Go.Proofs
def r98_0 : List SO := [
  sO 4 (.mv (.c (.int .i64 0)))]
def r98_1 : List SO := [
  sO 6 (.mv (.t 0)),
  sO 7 (.len (.t 6)),
  sO 8 (.mv (.c (.int .i64 0)))]
def r98_2 : List SO := [
  sO 9 (.bin .lss (.t 8) (.t 7))]
def r98_3 : List SO := [
  sO 10 (.mv (.t 8)),
  sO 5 (.mv (.t 10))]
def r98_4 : List SO := [
  sO 11 (.mv (.t 1)),
  sO 12 (.mv (.t 0)),
  sO 13 (.mv (.t 5)),
  sO 14 (.idx 5 (.t 12) (.t 13)),
  sO 15 (.load true 5 (.t 14)),
  sO 16 (.callv false (.t 11) [.t 15])]
def r98_5 : List SO := [
  sO 17 (.mv (.t 5)),
  sO 4 (.mv (.t 17))]
def r98_6 : List SO := [
  sO 18 (.bin .add (.t 8) (.c (.int .i64 1))),
  sO 8 (.mv (.t 18))]
def b98_0 : SC := .seq (.reg r98_2) (.seq (.cond (.t 9) (.skip) (.exit 0)) (.seq (.block 1 (.seq (.reg r98_3) (.seq (.reg r98_4) (.cond (.t 16) (.seq (.reg r98_5) (.ret)) (.skip))))) (.reg r98_6)))
def r98_7 : List SO := [
  sO 4 (.mv (.c (.int .i64 (-1))))]
def s98 : SF := ⟨19, [.tmp 4], .seq (.reg r98_0) (.seq (.seq (.reg r98_1) (.block 0 (.loop b98_0))) (.seq (.reg r98_7) (.ret)))⟩
theorem s98_ok : slimF Tryz.prog ⟨[57, 58, 59, 63, 67, 68, 77, 102, 103, 104, 110, 116, 120], []⟩ Tryz.f98 = some s98 := by kernel_rfl
end Go.Proofs.YtmnjchcoigbngaaGreat


namespace Go.Proofs.YtmnjchcoigbngaaGreat
open Go Go.Proofs
def r99_0 : List SO := [
  sO 2 (.box 68 5 (.t 0)),
  sO 3 (.mv (.c (.bool false)))]
def r99_1 : List SO := [
  sO 4 (.fld 4 (.t 2)),
  sO 5 (.load false 1 (.t 4)),
  sO 6 (.load false 1 (.t 1)),
  sO 7 (.call false 100 [.t 5, .t 6]),
  sO 3 (.mv (.t 7))]
def s99 : SF := ⟨8, [.tmp 3], .seq (.reg r99_0) (.seq (.reg r99_1) (.ret))⟩
theorem s99_ok : slimF Tryz.prog ⟨[57, 58, 59, 63, 67, 68, 77, 102, 103, 104, 110, 116, 120], []⟩ Tryz.f99 = some s99 := by kernel_rfl
end Go.Proofs.YtmnjchcoigbngaaGreat


namespace Go.Proofs.YtmnjchcoigbngaaGreat
open Go Go.Proofs
def r100_0 : List SO := [
  sO 4 (.mv (.c (.bool false)))]
def r100_1 : List SO := [
  sO 5 (.mv (.t 0)),
  sO 6 (.mv (.t 1)),
  sO 7 (.call false 115 [.t 5, .t 6]),
  sO 8 (.bin .geq (.t 7) (.c (.int .i64 0))),
  sO 4 (.mv (.t 8))]
def s100 : SF := ⟨9, [.tmp 4], .seq (.reg r100_0) (.seq (.reg r100_1) (.ret))⟩
theorem s100_ok : slimF Tryz.prog ⟨[57, 58, 59, 63, 67, 68, 77, 102, 103, 104, 110, 116, 120], []⟩ Tryz.f100 = some s100 := by kernel_rfl
end Go.Proofs.YtmnjchcoigbngaaGreat


namespace Go.Proofs.YtmnjchcoigbngaaGreat
open Go Go.Proofs
def r109_0 : List SO := [
  sO 4 (.mv (.c (.int .i64 0)))]
def r109_1 : List SO := [
  sO 6 (.mv (.t 0)),
  sO 7 (.len (.t 6)),
  sO 8 (.mv (.c (.int .i64 0)))]
def r109_2 : List SO := [
  sO 9 (.bin .lss (.t 8) (.t 7))]
def r109_3 : List SO := [
  sO 10 (.mv (.t 8)),
  sO 5 (.mv (.t 10))]
def r109_4 : List SO := [
  sO 11 (.mv (.t 1)),
  sO 12 (.mv (.t 0)),
  sO 13 (.mv (.t 5)),
  sO 14 (.idx 1 (.t 12) (.t 13)),
  sO 15 (.load false 1 (.t 14)),
  sO 16 (.callv false (.t 11) [.t 15])]
def r109_5 : List SO := [
  sO 17 (.mv (.t 5)),
  sO 4 (.mv (.t 17))]
def r109_6 : List SO := [
  sO 18 (.bin .add (.t 8) (.c (.int .i64 1))),
  sO 8 (.mv (.t 18))]
def b109_0 : SC := .seq (.reg r109_2) (.seq (.cond (.t 9) (.skip) (.exit 0)) (.seq (.block 1 (.seq (.reg r109_3) (.seq (.reg r109_4) (.cond (.t 16) (.seq (.reg r109_5) (.ret)) (.skip))))) (.reg r109_6)))
def r109_7 : List SO := [
  sO 4 (.mv (.c (.int .i64 (-1))))]
def s109 : SF := ⟨19, [.tmp 4], .seq (.reg r109_0) (.seq (.seq (.reg r109_1) (.block 0 (.loop b109_0))) (.seq (.reg r109_7) (.ret)))⟩
theorem s109_ok : slimF Tryz.prog ⟨[57, 58, 59, 63, 67, 68, 77, 102, 103, 104, 110, 116, 120], []⟩ Tryz.f109 = some s109 := by kernel_rfl
end Go.Proofs.YtmnjchcoigbngaaGreat


namespace Go.Proofs.YtmnjchcoigbngaaGreat
open Go Go.Proofs
def r111_0 : List SO := [
  sO 4 (.mv (.c (.bool false)))]
def r111_1 : List SO := [
  sO 5 (.mv (.t 0)),
  sO 6 (.mv (.t 1)),
  sO 7 (.call false 119 [.t 5, .t 6]),
  sO 8 (.bin .geq (.t 7) (.c (.int .i64 0))),
  sO 4 (.mv (.t 8))]
def s111 : SF := ⟨9, [.tmp 4], .seq (.reg r111_0) (.seq (.reg r111_1) (.ret))⟩
theorem s111_ok : slimF Tryz.prog ⟨[57, 58, 59, 63, 67, 68, 77, 102, 103, 104, 110, 116, 120], []⟩ Tryz.f111 = some s111 := by kernel_rfl
end Go.Proofs.YtmnjchcoigbngaaGreat


namespace Go.Proofs.YtmnjchcoigbngaaGreat
open Go Go.Proofs
def r112_0 : List SO := [
  sO 3 (.mv (.c (.bool false)))]
def r112_1 : List SO := [
  sO 4 (.mv (.t 0)),
  sO 5 (.load false 1 (.t 1)),
  sO 6 (.call false 96 [.t 4, .t 5]),
  sO 3 (.mv (.t 6))]
def s112 : SF := ⟨7, [.tmp 3], .seq (.reg r112_0) (.seq (.reg r112_1) (.ret))⟩
theorem s112_ok : slimF Tryz.prog ⟨[57, 58, 59, 63, 67, 68, 77, 102, 103, 104, 110, 116, 120], []⟩ Tryz.f112 = some s112 := by kernel_rfl
end Go.Proofs.YtmnjchcoigbngaaGreat


namespace Go.Proofs.YtmnjchcoigbngaaGreat
open Go Go.Proofs
def r115_0 : List SO := [
  sO 4 (.mv (.c (.int .i64 0)))]
def r115_1 : List SO := [
  sO 6 (.mv (.t 0)),
  sO 7 (.len (.t 6)),
  sO 8 (.mv (.c (.int .i64 0)))]
def r115_2 : List SO := [
  sO 9 (.bin .lss (.t 8) (.t 7))]
def r115_3 : List SO := [
  sO 10 (.mv (.t 8)),
  sO 5 (.mv (.t 10))]
def r115_4 : List SO := [
  sO 11 (.mv (.t 1)),
  sO 12 (.mv (.t 0)),
  sO 13 (.mv (.t 5)),
  sO 14 (.idx 1 (.t 12) (.t 13)),
  sO 15 (.load false 1 (.t 14)),
  sO 16 (.bin .eql (.t 11) (.t 15))]
def r115_5 : List SO := [
  sO 17 (.mv (.t 5)),
  sO 4 (.mv (.t 17))]
def r115_6 : List SO := [
  sO 18 (.bin .add (.t 8) (.c (.int .i64 1))),
  sO 8 (.mv (.t 18))]
def b115_0 : SC := .seq (.reg r115_2) (.seq (.cond (.t 9) (.skip) (.exit 0)) (.seq (.block 1 (.seq (.reg r115_3) (.seq (.reg r115_4) (.cond (.t 16) (.seq (.reg r115_5) (.ret)) (.skip))))) (.reg r115_6)))
def r115_7 : List SO := [
  sO 4 (.mv (.c (.int .i64 (-1))))]
def s115 : SF := ⟨19, [.tmp 4], .seq (.reg r115_0) (.seq (.seq (.reg r115_1) (.block 0 (.loop b115_0))) (.seq (.reg r115_7) (.ret)))⟩
theorem s115_ok : slimF Tryz.prog ⟨[57, 58, 59, 63, 67, 68, 77, 102, 103, 104, 110, 116, 120], []⟩ Tryz.f115 = some s115 := by kernel_rfl
end Go.Proofs.YtmnjchcoigbngaaGreat


namespace Go.Proofs.YtmnjchcoigbngaaGreat
open Go Go.Proofs
def r119_0 : List SO := [
  sO 4 (.mv (.c (.int .i64 0)))]
def r119_1 : List SO := [
  sO 6 (.mv (.t 0)),
  sO 7 (.len (.t 6)),
  sO 8 (.mv (.c (.int .i64 0)))]
def r119_2 : List SO := [
  sO 9 (.bin .lss (.t 8) (.t 7))]
def r119_3 : List SO := [
  sO 10 (.mv (.t 8)),
  sO 5 (.mv (.t 10))]
def r119_4 : List SO := [
  sO 11 (.mv (.t 1)),
  sO 12 (.mv (.t 0)),
  sO 13 (.mv (.t 5)),
  sO 14 (.idx 1 (.t 12) (.t 13)),
  sO 15 (.load false 1 (.t 14)),
  sO 16 (.callv false (.t 11) [.t 15])]
def r119_5 : List SO := [
  sO 17 (.mv (.t 5)),
  sO 4 (.mv (.t 17))]
def r119_6 : List SO := [
  sO 18 (.bin .add (.t 8) (.c (.int .i64 1))),
  sO 8 (.mv (.t 18))]
def b119_0 : SC := .seq (.reg r119_2) (.seq (.cond (.t 9) (.skip) (.exit 0)) (.seq (.block 1 (.seq (.reg r119_3) (.seq (.reg r119_4) (.cond (.t 16) (.seq (.reg r119_5) (.ret)) (.skip))))) (.reg r119_6)))
def r119_7 : List SO := [
  sO 4 (.mv (.c (.int .i64 (-1))))]
def s119 : SF := ⟨19, [.tmp 4], .seq (.reg r119_0) (.seq (.seq (.reg r119_1) (.block 0 (.loop b119_0))) (.seq (.reg r119_7) (.ret)))⟩
theorem s119_ok : slimF Tryz.prog ⟨[57, 58, 59, 63, 67, 68, 77, 102, 103, 104, 110, 116, 120], []⟩ Tryz.f119 = some s119 := by kernel_rfl
end Go.Proofs.YtmnjchcoigbngaaGreat


namespace Go.Proofs.YtmnjchcoigbngaaGreat
open Go Go.Proofs Go.Shelf Go.RowKit Go.Lib
structure InsLay (P : Program) (ρ : Ren) (n1 : String) (k bytes : Nat) (z : Value) : Prop where
  mixed : P.follows .mixedOrders = true
  f22 : P.funcs[ρ.f 22]? = some { Body2.n22 ρ with name := n1 }
  ov : ∀ args w, (callFunc (ρ.f 29) args).run P w = ((Extern.SlicesOverlaps.overlaps #[(ρ.t 24), (ρ.t 24)] #[(ρ.t 4)] args).run P w).andThen fun v w' => .ok (.value v) w'
  t0 : P.underlying (ρ.t 0) = some (TypeDesc.tuple #[])
  a0 : ∀ w, (isAgg (ρ.t 0)).run P w = .ok false w
  z0 : ∀ w, (Go.sizeOf (ρ.t 0)).run P w = .ok 1 w
  v0 : ∀ w, (zeroValue (ρ.t 0)).run P w = .ok (Value.tuple #[]) w
  t3 : P.underlying (ρ.t 3) = some (TypeDesc.int IntKind.i64)
  a3 : ∀ w, (isAgg (ρ.t 3)).run P w = .ok false w
  z3 : ∀ w, (Go.sizeOf (ρ.t 3)).run P w = .ok 1 w
  v3 : ∀ w, (zeroValue (ρ.t 3)).run P w = .ok (Value.int IntKind.i64 0) w
  t4 : P.underlying (ρ.t 4) = some (TypeDesc.bool)
  a4 : ∀ w, (isAgg (ρ.t 4)).run P w = .ok false w
  z4 : ∀ w, (Go.sizeOf (ρ.t 4)).run P w = .ok 1 w
  v4 : ∀ w, (zeroValue (ρ.t 4)).run P w = .ok (Value.bool false) w
  z9 : ∀ w, (Go.sizeOf (ρ.t 9)).run P w = .ok k w
  t24 : P.underlying (ρ.t 24) = some (TypeDesc.slice (ρ.t 9))
  a24 : ∀ w, (isAgg (ρ.t 24)).run P w = .ok false w
  z24 : ∀ w, (Go.sizeOf (ρ.t 24)).run P w = .ok 1 w
  v24 : ∀ w, (zeroValue (ρ.t 24)).run P w = .ok (Value.slice none 0 0) w
  i9 : (P.info? (ρ.t 9)).map (fun i => (i.zero, i.size, i.bytes)) = some (some z, k, bytes)
  hk : 0 < k
  hz : z.cells.size = k
variable {P : Program} {ρ : Ren} {n1 : String} {k bytes : Nat} {z : Value}
theorem run_copy_rowk (w : World) (dT sT ty elem : TypeId) (g o dLen dCap : Nat) (a : Addr) (sLen sCap : Nat) (cur : Array Value) (t : TypeId) (cs : List Value) (k : Nat)
    (hu : P.underlying dT = some (.slice elem)) (hs : (P.info? elem).map (·.size) = some k)
    (hg : w.heap[g]? = some (.cells cur t (0, 0))) (hn : cs.length = Nat.min sLen dLen * k)
    (hsrc : ∀ j v, cs[j]? = some v → w.cell? (a.add j) = some v) (hfit : o + cs.length ≤ cur.size) (h1 : ∀ v ∈ cs, v.oneCell' = true) :
    (Builtin.copy_ #[dT, sT] ty #[.slice (some ⟨g, o, none⟩) dLen dCap, .slice (some a) sLen sCap]).run P w =
      .ok (goInt (Nat.min sLen dLen)) (w.setRow g (cur.toList.take o ++ cs ++ cur.toList.drop (o + cs.length)).toArray) := by
  have hl := run_loadCells_list (P := P) w a cs hsrc
  have hst := run_storeCells_at P g o t cs 0 cur w hg (by simpa using hfit) h1
  cases hq : P.info? elem with
  | none => simp [hq] at hs
  | some i =>
    have hi : i.size = k := by simpa [hq] using hs
    simp [Builtin.copy_, run_underlying hu, Builtin.lenOf, Builtin.firstCells, sizeOf, typeInfo, hq, hi, ← hn, hl, hst]
def put (cc : Array Value) (o : Nat) (cs : List Value) : Array Value := (cc.toList.take o ++ cs ++ cc.toList.drop (o + cs.length)).toArray
set_option maxHeartbeats 4000000 in
set_option maxRecDepth 100000 in
theorem ins_shift (L : InsLay P ρ n1 k bytes z) (b n c i vb vc : Nat) (cc cv : Array Value) (tb tv : TypeId) (w : World) (hi : i < n) (hroom : n + 1 ≤ c) (hc63 : c ≤ 9223372036854775807) (hvb : vb ≠ b)
    (hb : w.heap[b]? = some (.cells cc tb (0, 0))) (hv : w.heap[vb]? = some (.cells cv tv (0, 0))) (hcc : c * k = cc.size) (hcv : k ≤ cv.size) (vs : List Value) (hvs : vs = cv.toList.take k)
    (h1c : ∀ v ∈ cc.toList.take (n * k), v.oneCell' = true) (h1v : ∀ v ∈ vs, v.oneCell' = true) :
    Calls P (ρ.f 22) #[.slice (some ⟨b, 0, none⟩) n c, .int .i64 i, .slice (some ⟨vb, 0, none⟩) 1 vc] w fun e w' =>
      e = .returned (.slice (some ⟨b, 0, none⟩) (n + 1) c) ∧ w' = w.drew.setRow b (put (put cc ((i + 1) * k) ((cc.toList.take (n * k)).drop (i * k))) (i * k) vs) := by
  have hk := L.hk
  have hvl : vs.length = k := by rw [hvs, List.length_take, Array.length_toList]; omega
  have t0 := L.t0; have a0 := L.a0; have z0 := L.z0; have v0 := L.v0; have t3 := L.t3; have a3 := L.a3; have z3 := L.z3; have v3 := L.v3; have t4 := L.t4; have a4 := L.a4; have z4 := L.z4; have v4 := L.v4; have z9 := L.z9; have t24 := L.t24; have a24 := L.a24; have z24 := L.z24; have v24 := L.v24
  have u0 := run_underlying L.t0; have u3 := run_underlying L.t3; have u4 := run_underlying L.t4; have u24 := run_underlying L.t24
  have hz2 : ¬ ((i : Int) = (n : Int)) := by omega
  have hsz : (P.info? (ρ.t 9)).map (·.size) = some k := by
    obtain ⟨i0, hi0, h0, h1, h2⟩ := info_parts L.i9
    rw [hi0]; simp [h1]
  have hov : ∀ lb cb, (callFunc (ρ.f 29) #[.slice (some ⟨vb, 0, none⟩) 1 vc, .slice (some ⟨b, (i + 1) * k, none⟩) lb cb]).run P w = .ok (.value (.bool false)) w := fun lb cb => by
    rw [L.ov,
      Lib.run_overlaps_apart w (ρ.t 24) (ρ.t 4) (ρ.t 9) L.t24 k L.z9 ⟨vb, 0, none⟩ ⟨b, (i + 1) * k, none⟩ 1 vc lb cb hvb tv tb cv.size cc.size (by simp [World.shape?, hv]) (by simp [World.shape?, hb]) (by rw [← hcc]; have : 0 < c * k := Nat.mul_pos (by omega) hk; omega) (by simp [World.frozen?, hv]) (by simp [World.frozen?, hv])]
    rfl
  have mixed := L.mixed
  have hw1 : IntKind.i64.wrap ((i : Int) + 1) = (i : Int) + 1 := by rw [IntKind.wrap_i64]; omega
  have hb1 : (0 : Int) ≤ (i : Int) + 1 := by omega
  have hin : i ≤ n := by omega
  have htn : ((i : Int) + 1).toNat = i + 1 := by omega
  have hb2 : ¬ (c = i + 1) := by omega
  have hb3 : (i : Int) ≤ (n : Int) + 1 := by omega
  have hb4 : ¬ (c = i) := by omega
  have hnk : n * k ≤ cc.size := by rw [← hcc]; exact Nat.mul_le_mul_right k (by omega)
  have hn1k : (n + 1) * k ≤ cc.size := by rw [← hcc]; exact Nat.mul_le_mul_right k (by omega)
  have hik : i * k ≤ n * k := Nat.mul_le_mul_right k hin
  obtain ⟨ds, hds⟩ : ∃ ds, ds = (cc.toList.take (n * k)).drop (i * k) := ⟨_, rfl⟩
  have hdl : ds.length = (n - i) * k := by rw [hds, List.length_drop, List.length_take, Array.length_toList, Nat.min_eq_left hnk, Nat.sub_mul]
  rw [← hds]
  have e1 : Nat.min (n + 1 - i) (n - i) = n - i := by simp only [Nat.min_def]; split <;> omega
  have e2 : (i + 1) * k + (n - i) * k = (n + 1) * k := by rw [← Nat.add_mul]; congr 1; omega
  have hcp1 : ∀ ty dc sc, (Builtin.copy_ #[(ρ.t 24), (ρ.t 24)] ty #[.slice (some ⟨b, (i + 1) * k, none⟩) (n - i) dc, .slice (some ⟨b, i * k, none⟩) (n + 1 - i) sc]).run P w.drew = .ok (goInt (n - i : Nat)) (w.drew.setRow b (put cc ((i + 1) * k) ds)) := fun ty dc sc => by
    have h := run_copy_rowk (P := P) w.drew (ρ.t 24) (ρ.t 24) ty (ρ.t 9) b ((i + 1) * k) (n - i) dc ⟨b, i * k, none⟩ (n + 1 - i) sc cc tb ds k L.t24 hsz hb (by rw [hdl, e1])
      (fun j v hj => by
        rw [Addr.add_lit]
        have hj' := hj
        rw [hds, List.getElem?_drop, List.getElem?_take] at hj
        split at hj
        · rw [Array.getElem?_toList] at hj
          simp [World.cell?, show w.drew.heap[b]? = _ from hb, hj]
        · cases hj) (by rw [hdl, e2]; exact hn1k) (fun v hv => h1c v (List.mem_of_mem_drop (hds ▸ hv)))
    rw [e1] at h
    exact h
  have hps : (put cc ((i + 1) * k) ds).size = cc.size := by
    simp only [put, List.size_toArray, List.length_append, List.length_take, List.length_drop, Array.length_toList, hdl, e2]
    omega
  obtain ⟨W1, hW1⟩ : ∃ W1, W1 = w.drew.setRow b (put cc ((i + 1) * k) ds) := ⟨_, rfl⟩
  have hB1 : W1.heap[b]? = some (.cells (put cc ((i + 1) * k) ds) tb (0, 0)) := by rw [hW1]; exact setRow_heap w.drew b cc _ tb _ hb
  have hV1 : W1.heap[vb]? = some (.cells cv tv (0, 0)) := by rw [hW1, setRow_other w.drew b vb _ hvb]; exact hv
  have hcp2 : ∀ ty dc, (Builtin.copy_ #[(ρ.t 24), (ρ.t 24)] ty #[.slice (some ⟨b, i * k, none⟩) (n + 1 - i) dc, .slice (some ⟨vb, 0, none⟩) 1 vc]).run P W1 = .ok (goInt (1 : Nat)) (W1.setRow b (put (put cc ((i + 1) * k) ds) (i * k) vs)) := fun ty dc => by
    have e3 : Nat.min 1 (n + 1 - i) = 1 := by simp only [Nat.min_def]; split <;> omega
    have h := run_copy_rowk (P := P) W1 (ρ.t 24) (ρ.t 24) ty (ρ.t 9) b (i * k) (n + 1 - i) dc ⟨vb, 0, none⟩ 1 vc _ tb vs k L.t24 hsz hB1 (by rw [e3, hvl, Nat.one_mul])
      (fun j v hj => by
        rw [Addr.add_lit]
        rw [hvs, List.getElem?_take] at hj
        split at hj
        · rw [Array.getElem?_toList] at hj
          simp [World.cell?, hV1, hj]
        · cases hj) (by rw [hps, hvl]; have : (i + 1) * k ≤ (n + 1) * k := Nat.mul_le_mul_right k (by omega); rw [Nat.add_mul, Nat.one_mul] at this; omega) h1v
    rw [e3] at h
    exact h
  have hfin : W1.setRow b (put (put cc ((i + 1) * k) ds) (i * k) vs) = w.drew.setRow b (put (put cc ((i + 1) * k) ds) (i * k) vs) := by rw [hW1, setRow_setRow]
  rw [← hW1] at hcp1
  clear hW1 hds e1 e2 hvs
  go_enter L.f22, Body2.n22_ntmps ρ
  go_wp2_with (simp only [hov])
  go_region_law_o (refine step_copy_runI rfl _ _ (ρ.t 24) (ρ.t 24) rfl _ _ (by simp [Act.eval, Act.put]) (by simp [Act.eval, Act.put]) (hcp1 _ _ _) ?_)
  go_wp2_with (at_builtin; refine wpList_copy_runI _ rfl _ _ (ρ.t 24) (ρ.t 24) rfl _ _ rfl rfl (hcp2 _ _) ?_)
  go_ret
  first | exact ⟨rfl, rfl⟩ | exact ⟨rfl, hfin⟩
theorem alloc_setRow (w : World) (a b : Array Value) (e : TypeId) : (w.alloc (.cells a e)).setRow w.heap.size b = w.alloc (.cells b e) := by
  have h : (w.alloc (.cells a e)).heap[w.heap.size]? = some (.cells a e (0, 0)) := heap_push_eq _ _
  unfold World.setRow World.alloc
  congr 1
  refine Array.ext_getElem? fun j => ?_
  rw [Array.getElem?_modify]
  split
  · rename_i hj
    subst hj
    simp [Obj.cells]
  · rename_i hj
    simp only [Array.getElem?_push]
    rw [if_neg (fun x => hj x.symm), if_neg (fun x => hj x.symm)]
set_option maxHeartbeats 4000000 in
set_option maxRecDepth 100000 in
theorem ins_grow (L : InsLay P ρ n1 k bytes z) (b n c i vb vc : Nat) (cc cv : Array Value) (tb tv : TypeId) (w : World) (hi : i < n) (hnc : n ≤ c) (hroom : c < n + 1) (hc63 : c < 9223372036854775807) (hbig : (n + 1) * bytes ≤ 140737488355328)
    (hb : w.heap[b]? = some (.cells cc tb (0, 0))) (hv : w.heap[vb]? = some (.cells cv tv (0, 0))) (hcc : c * k = cc.size) (hcv : k ≤ cv.size) (vs : List Value) (hvs : vs = cv.toList.take k)
    (h1c : ∀ v ∈ cc.toList.take (n * k), v.oneCell' = true) (h1v : ∀ v ∈ vs, v.oneCell' = true) :
    Calls P (ρ.f 22) #[.slice (some ⟨b, 0, none⟩) n c, .int .i64 i, .slice (some ⟨vb, 0, none⟩) 1 vc] w fun e w' =>
      ∃ G R, R.size = G * k ∧ n + 1 ≤ G ∧ G ≤ maxLen ∧ e = .returned (.slice (some ⟨w.heap.size, 0, none⟩) (n + 1) G) ∧ w' = w.drew.drew.alloc (.cells (put (put R (i * k) vs) ((i + 1) * k) ((cc.toList.take (n * k)).drop (i * k))) (ρ.t 9)) ∧ R.toList.take (i * k) = cc.toList.take (i * k) := by
  have hk := L.hk; have hzl := L.hz
  have hvl : vs.length = k := by rw [hvs, List.length_take, Array.length_toList]; omega
  have t0 := L.t0; have a0 := L.a0; have z0 := L.z0; have v0 := L.v0; have t3 := L.t3; have a3 := L.a3; have z3 := L.z3; have v3 := L.v3; have t4 := L.t4; have a4 := L.a4; have z4 := L.z4; have v4 := L.v4; have z9 := L.z9; have t24 := L.t24; have a24 := L.a24; have z24 := L.z24; have v24 := L.v24
  have u0 := run_underlying L.t0; have u3 := run_underlying L.t3; have u4 := run_underlying L.t4; have u24 := run_underlying L.t24
  have mixed := L.mixed
  obtain ⟨i0, hi0, hz0, hzs, hzb⟩ := info_parts L.i9
  have hz2 : ¬ ((i : Int) = (n : Int)) := by omega
  have hz3 : (c : Int) < (n : Int) + 1 := by omega
  have hsz : (P.info? (ρ.t 9)).map (·.size) = some k := by rw [hi0]; simp [hzs]
  have hbw : b < w.heap.size := (Array.getElem?_eq_some_iff.1 hb).1
  have hvw : vb < w.heap.size := (Array.getElem?_eq_some_iff.1 hv).1
  have hkk : (n : Int) + 1 - (i : Int) = ((n + 1 - i : Nat) : Int) := by omega
  have hik : i + (n + 1 - i) = n + 1 := by omega
  have hnk : n * k ≤ cc.size := by rw [← hcc]; exact Nat.mul_le_mul_right k (by omega)
  have hikn : i * k ≤ n * k := Nat.mul_le_mul_right k (by omega)
  have hold : (Builtin.firstCells i0.size i (.slice (some ⟨b, 0, none⟩) i c)).run P w.drew = .ok (cc.toList.take (i * k)).toArray w.drew := by
    rw [hzs]
    exact run_firstCells_some w.drew k i ⟨b, 0, none⟩ i c (cc.toList.take (i * k)) (by rw [List.length_take, Array.length_toList]; omega) (fun j v hj => by
      rw [Addr.add_lit]
      rw [List.getElem?_take] at hj
      split at hj
      · rw [Array.getElem?_toList] at hj
        simp [World.cell?, show w.drew.heap[b]? = _ from hb, hj]
      · cases hj)
  have hrz : ∀ ty, (Builtin.append_ #[(ρ.t 24), (ρ.t 3)] ty #[.slice (some ⟨b, 0, none⟩) i c, .int .i64 ((n : Int) + 1 - (i : Int))]).run P w =
      .ok (.slice (some ⟨w.heap.size, 0, none⟩) (n + 1) (grownCap w (n + 1) c (ρ.t 9))) (w.drew.alloc (.cells ((cc.toList.take (i * k)).toArray ++ Builtin.zeroCells z.cells (n + 1 - i) ++ Builtin.zeroCells z.cells (grownCap w (n + 1) c (ρ.t 9) - (n + 1))) (ρ.t 9))) := fun ty => by
    have h := Lib.run_append_grow_zeros w (ρ.t 24) (ρ.t 3) ty (ρ.t 9) i0 _ .i64 .i64 L.t24 L.t3 hi0 hz0 (some ⟨b, 0, none⟩) i c _ hold (n + 1 - i) (by omega) (by omega) (by omega) (by omega) (by rw [hzb]; have : (n + 1 - i) * bytes ≤ (n + 1) * bytes := Nat.mul_le_mul_right _ (by omega); omega) (by rw [hzb, hik]; exact growslice_fits hroom hbig)
    rw [hik] at h
    rw [hkk]
    exact h
  have hGn : n + 1 ≤ grownCap w (n + 1) c (ρ.t 9) := grownCap_ge w _ _ _
  have hGm : grownCap w (n + 1) c (ρ.t 9) ≤ maxLen := grownCap_le_maxLen w (n + 1) c (ρ.t 9) (by unfold maxLen; omega)
  obtain ⟨G, hG⟩ : ∃ G, G = grownCap w (n + 1) c (ρ.t 9) := ⟨_, rfl⟩
  rw [← hG] at hGn hGm
  obtain ⟨ROW, hROW⟩ : ∃ ROW : Array Value, ROW = (cc.toList.take (i * k)).toArray ++ Builtin.zeroCells z.cells (n + 1 - i) ++ Builtin.zeroCells z.cells (G - (n + 1)) := ⟨_, rfl⟩
  rw [← hG] at hrz
  rw [← hROW] at hrz
  have hRl : ROW.size = G * k := by
    rw [hROW]
    simp only [Array.size_append, List.size_toArray, List.length_take, Array.length_toList, size_zeroCells, hzl, Nat.min_eq_left (show i * k ≤ cc.size by omega), ← Nat.add_mul]
    congr 1; omega
  have hRt : ROW.toList.take (i * k) = cc.toList.take (i * k) := by
    rw [hROW]
    simp only [Array.toList_append, List.append_assoc]
    rw [List.take_append_of_le_length (by simp; omega), List.take_take, Nat.min_self]
  have hG63 : G ≤ 9223372036854775807 := by unfold maxLen at hGm; omega
  have hGi : ¬ (G = i) := by omega
  have hGim : ¬ (G = i + 1) := by omega
  have hci : ¬ (c = i) := by omega
  have hn1G : (n + 1) * k ≤ G * k := Nat.mul_le_mul_right k hGn
  obtain ⟨ds, hds⟩ : ∃ ds, ds = (cc.toList.take (n * k)).drop (i * k) := ⟨_, rfl⟩
  have hdl : ds.length = (n - i) * k := by rw [hds, List.length_drop, List.length_take, Array.length_toList, Nat.min_eq_left hnk, Nat.sub_mul]
  rw [← hds]
  have e1 : Nat.min (n - i) (n - i) = n - i := Nat.min_self _
  have e2 : (i + 1) * k + (n - i) * k = (n + 1) * k := by rw [← Nat.add_mul]; congr 1; omega
  have e4 : i * k + k ≤ (n + 1) * k := by have : (i + 1) * k ≤ (n + 1) * k := Nat.mul_le_mul_right k (by omega); rw [Nat.add_mul, Nat.one_mul] at this; exact this
  obtain ⟨W1, hW1⟩ : ∃ W1, W1 = w.drew.alloc (.cells ROW (ρ.t 9)) := ⟨_, rfl⟩
  have hcpA : ∀ (W : World), W.heap = W1.heap → ∀ ty dc, (Builtin.copy_ #[(ρ.t 24), (ρ.t 24)] ty #[.slice (some ⟨w.heap.size, i * k, none⟩) (n + 1 - i) dc, .slice (some ⟨vb, 0, none⟩) 1 vc]).run P W = .ok (goInt (1 : Nat)) (W.setRow w.heap.size (put ROW (i * k) vs)) := fun W hW ty dc => by
    have e3 : Nat.min 1 (n + 1 - i) = 1 := by simp only [Nat.min_def]; split <;> omega
    have hN : W.heap[w.heap.size]? = some (.cells ROW (ρ.t 9) (0, 0)) := by rw [hW, hW1]; exact heap_push_eq w.drew _
    have hV : W.heap[vb]? = some (.cells cv tv (0, 0)) := by rw [hW, hW1, heap_push_lt w.drew _ hvw]; exact hv
    have h := run_copy_rowk (P := P) W (ρ.t 24) (ρ.t 24) ty (ρ.t 9) w.heap.size (i * k) (n + 1 - i) dc ⟨vb, 0, none⟩ 1 vc ROW (ρ.t 9) vs k L.t24 hsz hN (by rw [e3, hvl, Nat.one_mul])
      (fun j v hj => by
        rw [Addr.add_lit]
        rw [hvs, List.getElem?_take] at hj
        split at hj
        · rw [Array.getElem?_toList] at hj
          simp [World.cell?, hV, hj]
        · cases hj) (by rw [hRl, hvl]; omega) h1v
    rw [e3] at h
    exact h
  have hps : (put ROW (i * k) vs).size = ROW.size := by
    simp only [put, List.size_toArray, List.length_append, List.length_take, List.length_drop, Array.length_toList, hvl]
    omega
  have hcpB : ∀ (W : World), W.heap = (W1.setRow w.heap.size (put ROW (i * k) vs)).heap → ∀ ty dc sc, (Builtin.copy_ #[(ρ.t 24), (ρ.t 24)] ty #[.slice (some ⟨w.heap.size, (i + 1) * k, none⟩) (n - i) dc, .slice (some ⟨b, i * k, none⟩) (n - i) sc]).run P W = .ok (goInt (n - i : Nat)) (W.setRow w.heap.size (put (put ROW (i * k) vs) ((i + 1) * k) ds)) := fun W hW ty dc sc => by
    have hN : W.heap[w.heap.size]? = some (.cells (put ROW (i * k) vs) (ρ.t 9) (0, 0)) := by
      rw [hW, hW1]; exact setRow_heap _ _ ROW _ (ρ.t 9) _ (heap_push_eq w.drew _)
    have hB : W.heap[b]? = some (.cells cc tb (0, 0)) := by
      rw [hW, hW1, setRow_other _ _ b _ (by omega), heap_push_lt w.drew _ hbw]; exact hb
    have h := run_copy_rowk (P := P) W (ρ.t 24) (ρ.t 24) ty (ρ.t 9) w.heap.size ((i + 1) * k) (n - i) dc ⟨b, i * k, none⟩ (n - i) sc _ (ρ.t 9) ds k L.t24 hsz hN (by rw [hdl, e1])
      (fun j v hj => by
        rw [Addr.add_lit]
        rw [hds, List.getElem?_drop, List.getElem?_take] at hj
        split at hj
        · rw [Array.getElem?_toList] at hj
          simp [World.cell?, hB, hj]
        · cases hj) (by rw [hdl, e2, hps, hRl]; exact hn1G) (fun v hv => h1c v (List.mem_of_mem_drop (hds ▸ hv)))
    rw [e1] at h
    exact h
  subst hW1
  have hw1 : IntKind.i64.wrap ((i : Int) + 1) = (i : Int) + 1 := by rw [IntKind.wrap_i64]; omega
  have hb1 : (0 : Int) ≤ (i : Int) + 1 := by omega
  have hin : i ≤ n := by omega
  have htn : ((i : Int) + 1).toNat = i + 1 := by omega
  have hb3 : (i : Int) ≤ (n : Int) := by omega
  have hE1 : ((w.alloc (.cells ROW (ρ.t 9))).drew).heap = (w.drew.alloc (.cells ROW (ρ.t 9))).heap := rfl
  have hF1 : (((w.alloc (.cells ROW (ρ.t 9))).drew.setRow w.heap.size (put ROW (i * k) vs)).drew).heap = ((w.drew.alloc (.cells ROW (ρ.t 9))).setRow w.heap.size (put ROW (i * k) vs)).heap := rfl
  have hcall : Calls P (ρ.f 22) #[.slice (some ⟨b, 0, none⟩) n c, .int .i64 i, .slice (some ⟨vb, 0, none⟩) 1 vc] w fun e w' => e = .returned (.slice (some ⟨w.heap.size, 0, none⟩) (n + 1) G) ∧ w' = (((w.alloc (.cells ROW (ρ.t 9))).drew.setRow w.heap.size (put ROW (i * k) vs)).drew).setRow w.heap.size (put (put ROW (i * k) vs) ((i + 1) * k) ds) := by
    clear hkk hik hold hROW hG hRl hds e1 e2 e4 hRt hvs
    go_enter L.f22, Body2.n22_ntmps ρ
    go_wp2_with (first
      | (at_builtin; refine Lib.wpList_append_run _ rfl _ _ _ _ rfl _ _ rfl rfl _ _ (hrz _) ?_)
      | (at_builtin; refine wpList_copy_runI _ rfl _ _ (ρ.t 24) (ρ.t 24) rfl _ _ rfl rfl (hcpA _ hE1 _ _) ?_)
      | (at_builtin; refine wpList_copy_runI _ rfl _ _ (ρ.t 24) (ρ.t 24) rfl _ _ rfl rfl (hcpB _ hF1 _ _ _) ?_))
    go_region_law_o (refine step_copy_runI rfl _ _ (ρ.t 24) (ρ.t 24) rfl (.slice (some ⟨w.heap.size, (i + 1) * k, none⟩) (n - i) (G - (i + 1))) (.slice (some ⟨b, i * k, none⟩) (n - i) (c - i)) (by simp [Act.eval, Act.put]) (by simp [Act.eval, Act.put]) (hcpB _ hF1 (ρ.t 3) (G - (i + 1)) (c - i)) ?_)
    go_wp2
    go_ret
    exact ⟨rfl, rfl⟩
  refine hcall.mono fun e w' h => ?_
  obtain ⟨rfl, rfl⟩ := h
  refine ⟨G, ROW, hRl, hGn, hGm, rfl, ?_, hRt⟩
  have q := alloc_setRow w ROW (put ROW (i * k) vs) (ρ.t 9)
  have q2 := alloc_setRow w (put ROW (i * k) vs) (put (put ROW (i * k) vs) ((i + 1) * k) ds) (ρ.t 9)
  have q3 : (((w.alloc (.cells ROW (ρ.t 9))).drew.setRow w.heap.size (put ROW (i * k) vs)).drew).setRow w.heap.size (put (put ROW (i * k) vs) ((i + 1) * k) ds) = ((((w.alloc (.cells ROW (ρ.t 9))).setRow w.heap.size (put ROW (i * k) vs))).setRow w.heap.size (put (put ROW (i * k) vs) ((i + 1) * k) ds)).drew.drew := rfl
  rw [q3, q, q2]
  rfl
set_option maxHeartbeats 4000000 in
set_option maxRecDepth 100000 in
theorem ins_end (L : InsLay P ρ n1 k bytes z) (b n c vb vc : Nat) (w w' : World) (v : Value) (hnc : n ≤ c)
    (hr : ∀ ty, (Builtin.append_ #[(ρ.t 24), (ρ.t 24)] ty #[.slice (some ⟨b, 0, none⟩) n c, .slice (some ⟨vb, 0, none⟩) 1 vc]).run P w = .ok v w') :
    Calls P (ρ.f 22) #[.slice (some ⟨b, 0, none⟩) n c, .int .i64 n, .slice (some ⟨vb, 0, none⟩) 1 vc] w fun e u => e = .returned v ∧ u = w' := by
  have hk := L.hk
  have t0 := L.t0; have a0 := L.a0; have z0 := L.z0; have v0 := L.v0; have t3 := L.t3; have a3 := L.a3; have z3 := L.z3; have v3 := L.v3; have t4 := L.t4; have a4 := L.a4; have z4 := L.z4; have v4 := L.v4; have z9 := L.z9; have t24 := L.t24; have a24 := L.a24; have z24 := L.z24; have v24 := L.v24
  have u0 := run_underlying L.t0; have u3 := run_underlying L.t3; have u4 := run_underlying L.t4; have u24 := run_underlying L.t24
  have mixed := L.mixed
  go_enter L.f22, Body2.n22_ntmps ρ
  go_wp2_with (at_builtin; refine Lib.wpList_append_run _ rfl _ _ _ _ rfl _ _ rfl rfl _ _ (hr _) ?_)
  all_goals (go_ret; exact ⟨rfl, rfl⟩)
set_option maxHeartbeats 4000000 in
set_option maxRecDepth 100000 in
theorem ins_none (L : InsLay P ρ n1 k bytes z) (vb vc : Nat) (w w' : World) (v : Value)
    (hr : ∀ ty, (Builtin.append_ #[(ρ.t 24), (ρ.t 24)] ty #[.slice none 0 0, .slice (some ⟨vb, 0, none⟩) 1 vc]).run P w = .ok v w') :
    Calls P (ρ.f 22) #[.slice none 0 0, .int .i64 0, .slice (some ⟨vb, 0, none⟩) 1 vc] w fun e u => e = .returned v ∧ u = w' := by
  have hk := L.hk
  have t0 := L.t0; have a0 := L.a0; have z0 := L.z0; have v0 := L.v0; have t3 := L.t3; have a3 := L.a3; have z3 := L.z3; have v3 := L.v3; have t4 := L.t4; have a4 := L.a4; have z4 := L.z4; have v4 := L.v4; have z9 := L.z9; have t24 := L.t24; have a24 := L.a24; have z24 := L.z24; have v24 := L.v24
  have u0 := run_underlying L.t0; have u3 := run_underlying L.t3; have u4 := run_underlying L.t4; have u24 := run_underlying L.t24
  have mixed := L.mixed
  go_enter L.f22, Body2.n22_ntmps ρ
  go_wp2_with (at_builtin; refine Lib.wpList_append_run _ rfl _ _ _ _ rfl _ _ rfl rfl _ _ (hr _) ?_)
  all_goals (go_ret; exact ⟨rfl, rfl⟩)
set_option maxHeartbeats 4000000 in
set_option maxRecDepth 100000 in
theorem ins_some (L : InsLay P ρ n1 k bytes z) (a : Addr) (vb vc : Nat) (w w' : World) (v : Value)
    (hr : ∀ ty, (Builtin.append_ #[(ρ.t 24), (ρ.t 24)] ty #[.slice (some a) 0 0, .slice (some ⟨vb, 0, none⟩) 1 vc]).run P w = .ok v w') :
    Calls P (ρ.f 22) #[.slice (some a) 0 0, .int .i64 0, .slice (some ⟨vb, 0, none⟩) 1 vc] w fun e u => e = .returned v ∧ u = w' := by
  have hk := L.hk
  have t0 := L.t0; have a0 := L.a0; have z0 := L.z0; have v0 := L.v0; have t3 := L.t3; have a3 := L.a3; have z3 := L.z3; have v3 := L.v3; have t4 := L.t4; have a4 := L.a4; have z4 := L.z4; have v4 := L.v4; have z9 := L.z9; have t24 := L.t24; have a24 := L.a24; have z24 := L.z24; have v24 := L.v24
  have u0 := run_underlying L.t0; have u3 := run_underlying L.t3; have u4 := run_underlying L.t4; have u24 := run_underlying L.t24
  have mixed := L.mixed
  go_enter L.f22, Body2.n22_ntmps ρ
  go_wp2_with (at_builtin; refine Lib.wpList_append_run _ rfl _ _ _ _ rfl _ _ rfl rfl _ _ (hr _) ?_)
  all_goals (go_ret; exact ⟨rfl, rfl⟩)
end Go.Proofs.YtmnjchcoigbngaaGreat


namespace Go.Proofs.YtmnjchcoigbngaaGreat
open Go Go.Proofs Go.Shelf Go.Lib
theorem put_get {cc : Array Value} {o : Nat} {cs : List Value} (h : o + cs.length ≤ cc.size) (q : Nat) : (put cc o cs)[q]? = if o ≤ q ∧ q < o + cs.length then cs[q - o]? else cc[q]? := by
  unfold put
  rw [seg_get h]
theorem put_size {cc : Array Value} {o : Nat} {cs : List Value} (h : o + cs.length ≤ cc.size) : (put cc o cs).size = cc.size := by
  simp only [put, List.size_toArray, List.length_append, List.length_take, List.length_drop, Array.length_toList]
  omega
theorem ins_rows {x : Cx} {rows : List (List V)} {row : List V} {k i : Nat} {cc cv F : Array Value} (hsz : ∀ r ∈ rows, r.length = k) (hsz1 : row.length = k) (hi : i ≤ rows.length)
    (hr : ∀ (r : Nat) (row : List V) (j : Nat) (v : V), rows[r]? = some row → row[j]? = some v → R x v (cc.getD (r * k + j) undef))
    (hv : ∀ (j : Nat) (v : V), row[j]? = some v → R x v (cv.getD j undef))
    (ha : ∀ q, q < i * k → F[q]? = cc[q]?) (hb : ∀ q, q < k → F[i * k + q]? = cv[q]?) (hc : ∀ q, q < (rows.length - i) * k → F[(i + 1) * k + q]? = cc[i * k + q]?) :
    ∀ (r : Nat) (row' : List V) (j : Nat) (v : V), (rows.take i ++ row :: rows.drop i)[r]? = some row' → row'[j]? = some v → R x v (F.getD (r * k + j) undef) := by
  intro r row' j v h1 h2
  have hlt : (rows.take i).length = i := by rw [List.length_take]; omega
  rw [List.getElem?_append] at h1
  split at h1
  · rename_i hlt'
    rw [hlt] at hlt'
    rw [List.getElem?_take, if_pos hlt'] at h1
    have hjk : j < k := by rw [← hsz _ (List.mem_of_getElem? h1)]; exact (List.getElem?_eq_some_iff.1 h2).1
    have : r * k + j < i * k := by
      have : (r + 1) * k ≤ i * k := Nat.mul_le_mul_right k hlt'
      rw [Nat.add_mul, Nat.one_mul] at this; omega
    rw [Array.getD_eq_getD_getElem?, ha _ this, ← Array.getD_eq_getD_getElem?]
    exact hr r row' j v h1 h2
  · rename_i hge
    rw [hlt] at h1 hge
    by_cases he : r = i
    · subst he
      rw [Nat.sub_self] at h1
      simp only [List.getElem?_cons_zero, Option.some.injEq] at h1
      subst h1
      have hjk : j < k := by rw [← hsz1]; exact (List.getElem?_eq_some_iff.1 h2).1
      rw [Array.getD_eq_getD_getElem?, hb _ hjk, ← Array.getD_eq_getD_getElem?]
      exact hv j v h2
    · obtain ⟨q, hq⟩ : ∃ q, r - i = q + 1 := ⟨r - i - 1, by omega⟩
      rw [hq, List.getElem?_cons_succ, List.getElem?_drop] at h1
      have hjk : j < k := by rw [← hsz _ (List.mem_of_getElem? h1)]; exact (List.getElem?_eq_some_iff.1 h2).1
      have hql := (List.getElem?_eq_some_iff.1 h1).1
      have hlt2 : q * k + j < (rows.length - i) * k := by
        have : (q + 1) * k ≤ (rows.length - i) * k := Nat.mul_le_mul_right k (by omega)
        rw [Nat.add_mul, Nat.one_mul] at this; omega
      have e1 : r * k + j = (i + 1) * k + (q * k + j) := by rw [← Nat.add_assoc, ← Nat.add_mul]; congr 2; omega
      have e2 : i * k + (q * k + j) = (i + q) * k + j := by rw [Nat.add_mul]; omega
      rw [e1, Array.getD_eq_getD_getElem?, hc _ hlt2, ← Array.getD_eq_getD_getElem?, e2]
      exact hr _ row' j v h1 h2
section
variable {P : Program} {ρ : Ren} {n1 : String} {k bytes : Nat} {z : Value}
theorem ins_full (L : InsLay P ρ n1 k bytes z) {zz : List V} (hzz : zeroOf P (ρ.t 9) = some zz) (hzl : zz.length = k) {x : Cx} (hx : Inv x) {id id2 ver ver2 ty2 i : Nat} {rows : List (List V)} {row : List V} {c0 c2 : Value}
    {lz : Bool} (hlz : (lz && rows.isEmpty) = false) (hH : x.H id = ⟨ver, true, lz, ρ.t 9, k, rows⟩) (hH2 : x.H id2 = ⟨ver2, true, false, ty2, k, [row]⟩) (hne : id ≠ id2) (hi : i ≤ rows.length)
    (hf : fitRows k rows = true) (hf1 : fitRows k [row] = true) (hb : (rows.length + 1) * bytes ≤ 140737488355328) (hm : rows.length + 1 ≤ 9223372036854775807)
    (r0 : R x (.ms id ver 0 rows.length) c0) (r2 : R x (.ms id2 ver2 0 1) c2) :
    Calls P (ρ.f 22) #[c0, .int .i64 i, c2] x.w fun e w' => ∃ c y, e = .returned c ∧ y.w = w' ∧ y.H = upd x.H id ⟨ver + 1, true, lz, ρ.t 9, k, rows.take i ++ row :: rows.drop i⟩ ∧ Inv y ∧ R y (.ms id (ver + 1) 0 (rows.length + 1)) c ∧ Frame x y := by
  have hk := L.hk
  have ho : (x.H id).own = true := by rw [hH]; simp only [Blk.own, hlz]; rfl
  have ho2 : (x.H id2).own = true := by rw [hH2]; rfl
  obtain ⟨hsz, hone⟩ := fitRows_spec hf
  obtain ⟨hsz1, hone1⟩ := fitRows_spec hf1
  have r0' := r0; have r2' := r2
  cases r0 with
  | ms _ _ _ _ b n cap hv hh =>
  cases r2 with
  | ms _ _ _ _ b2 m2 cap2 hv2 hh2 =>
  obtain ⟨e1, e2, e3, e4, e5, e6⟩ := hh (by rw [hH]) (by rw [hH])
  obtain ⟨d1, d2, d3, d4, d5, d6⟩ := hh2 (by rw [hH2]) (by rw [hH2])
  obtain ⟨e7, e8⟩ := e5 ho
  obtain ⟨d7, d8⟩ := d5 ho2
  obtain ⟨cc, b1, bb2, bb3, bb4⟩ := hx.blk id ho
  obtain ⟨cv, v1, vv2, vv3, vv4⟩ := hx.blk id2 ho2
  have hrs : rowSize x.w (x.σ id) = cc.size := by unfold rowSize; rw [b1]
  have hrs2 : rowSize x.w (x.σ id2) = cv.size := by unfold rowSize; rw [v1]
  rw [hrs, hH] at e8
  rw [hrs2, hH2] at d8
  rw [hH] at e7 b1 bb3 bb4
  rw [hH2] at d7 v1 vv3 vv4
  simp only [Nat.zero_mul, Nat.zero_add] at e7 d7 e8 d8
  simp only at b1 bb3 bb4 v1 vv3 vv4
  subst e1; subst d1; subst e7; subst d7
  have hvb : x.σ id2 ≠ x.σ id := fun e => hne (hx.inj id id2 ho ho2 e.symm)
  have hcv : k ≤ cv.size := by simpa using vv3
  have hsz1' : row.length = k := hsz1 row (by simp)
  have hrow : ∀ (j : Nat) (v : V), row[j]? = some v → R x v (cv.getD j undef) := fun j v hj => by
    have := vv4 0 row j v rfl hj
    simpa using this
  have h1c : ∀ v ∈ cc.toList.take (rows.length * k), v.oneCell' = true := fun v hv => by
    obtain ⟨q, hq⟩ := List.getElem?_of_mem hv
    rw [List.getElem?_take] at hq
    split at hq
    · rename_i hlt
      obtain ⟨rw', u, h5, h6, h7⟩ := CRR_cell hsz hlt
      have h8 := bb4 _ _ _ _ h5 h6
      rw [h7, Array.getD_eq_getD_getElem?, ← Array.getElem?_toList, hq] at h8
      exact h8.one (hone _ (List.mem_of_getElem? h5) _ (List.mem_of_getElem? h6))
    · cases hq
  obtain ⟨vs, hvs⟩ : ∃ vs, vs = cv.toList.take k := ⟨_, rfl⟩
  have hvl : vs.length = k := by rw [hvs, List.length_take, Array.length_toList]; omega
  have hvg : ∀ q, q < k → vs[q]? = cv[q]? := fun q hq => by rw [hvs, List.getElem?_take, if_pos hq, Array.getElem?_toList]
  have h1v : ∀ v ∈ vs, v.oneCell' = true := fun v hv => by
    obtain ⟨q, hq⟩ := List.getElem?_of_mem hv
    have hlt : q < k := by rw [← hvl]; exact (List.getElem?_eq_some_iff.1 hq).1
    have hu : ∃ u, row[q]? = some u := ⟨_, List.getElem?_eq_getElem (by rw [hsz1']; exact hlt)⟩
    obtain ⟨u, hu⟩ := hu
    have h8 := hrow q u hu
    rw [Array.getD_eq_getD_getElem?, ← hvg q hlt, hq] at h8
    exact h8.one (hone1 row (by simp) u (List.mem_of_getElem? hu))
  obtain ⟨n, hn⟩ : ∃ n, n = rows.length := ⟨_, rfl⟩
  have hnew : ∀ r ∈ rows.take i ++ row :: rows.drop i, r.length = k := fun r hr => by
    rcases List.mem_append.1 hr with hr | hr
    · exact hsz r (List.mem_of_mem_take hr)
    · rcases List.mem_cons.1 hr with hr | hr
      · rw [hr]; exact hsz1'
      · exact hsz r (List.mem_of_mem_drop hr)
  have hnewl : (rows.take i ++ row :: rows.drop i).length = rows.length + 1 := by simp; omega
  by_cases hend : i = rows.length
  · obtain ⟨i0, hi0, hz0, hzs, hzb⟩ := info_parts L.i9
    obtain ⟨y, c, hr, y1, y2, y3, y4⟩ := append_run (P := P) (esz := k) (bytes := bytes) (new := [row]) hx L.t24 hi0 hzz hzs hzb hzl (by omega) (i := id) (ver := ver) (len := rows.length) (u := .ms id2 ver2 0 1) (by rw [hH]) (by rw [hH]) (by rw [hH]) (by rw [hH]) (by rw [hH])
      (by simp [rowsOf, hH2]) hf1 hb hm r0' r2' 0
    rw [hend]
    refine (ins_end L (x.σ id) rows.length cap (x.σ id2) cap2 x.w y.w c e2 fun ty => hr).mono fun e w' h => ?_
    obtain ⟨rfl, rfl⟩ := h
    refine ⟨c, y, rfl, rfl, ?_, y2, y4, y3⟩
    rw [y1, hH]
    simp
  have hlt : i < rows.length := by omega
  have hnk : rows.length * k ≤ cc.size := by rw [← e8]; exact Nat.mul_le_mul_right k e2
  have hik : i * k ≤ rows.length * k := Nat.mul_le_mul_right k hi
  obtain ⟨ds, hds⟩ : ∃ ds, ds = (cc.toList.take (rows.length * k)).drop (i * k) := ⟨_, rfl⟩
  have hdl : ds.length = (rows.length - i) * k := by rw [hds, List.length_drop, List.length_take, Array.length_toList (xs := cc), Nat.min_eq_left hnk, Nat.sub_mul]
  have hdg : ∀ q, q < (rows.length - i) * k → ds[q]? = cc[i * k + q]? := fun q hq => by
    rw [hds, List.getElem?_drop, List.getElem?_take, if_pos (by rw [Nat.sub_mul] at hq; omega), Array.getElem?_toList]
  have e9 : (i + 1) * k + (rows.length - i) * k = (rows.length + 1) * k := by rw [← Nat.add_mul]; congr 1; omega
  have e10 : (i + 1) * k = i * k + k := by rw [Nat.add_mul, Nat.one_mul]
  by_cases hroom : rows.length + 1 ≤ cap
  · have hn1k : (rows.length + 1) * k ≤ cc.size := by rw [← e8]; exact Nat.mul_le_mul_right k hroom
    refine (ins_shift L (x.σ id) rows.length cap i (x.σ id2) cap2 cc cv _ _ x.w hlt hroom (by unfold maxLen at e3; omega) hvb b1 v1 e8 hcv vs hvs h1c h1v).mono fun e w' h => ?_
    obtain ⟨rfl, rfl⟩ := h
    rw [← hds]
    have hs1 : (put cc ((i + 1) * k) ds).size = cc.size := put_size (by rw [hdl, e9]; exact hn1k)
    have hfit2 : i * k + vs.length ≤ (put cc ((i + 1) * k) ds).size := by rw [hs1, hvl]; omega
    obtain ⟨dI, dF⟩ := step_draw hx (x.w.drawn + 1) (Nat.le_succ _)
    obtain ⟨hI, hF⟩ := step_set dI id ho cc (put (put cc ((i + 1) * k) ds) (i * k) vs) (by rw [hH]; exact b1) (by rw [put_size hfit2, hs1]) (ver + 1) (rows.take i ++ row :: rows.drop i) (by simp only [hH]; omega) (by simp only [hH]; omega) (by simp only [hH]; simp)
      (by simp only [hH]; exact hnew) (by simp only [hH]; rw [hnewl]; exact hn1k) (by
        simp only [hH]
        refine ins_rows hsz hsz1' hi (fun r row j v h5 h6 => (bb4 r row j v h5 h6).frame hx dF) (fun j v h5 => (hrow j v h5).frame hx dF) (fun q hq => ?_) (fun q hq => ?_) (fun q hq => ?_)
        · rw [put_get hfit2, if_neg (by omega), put_get (by rw [hdl, e9]; exact hn1k), if_neg (by omega)]
        · rw [put_get hfit2, if_pos (by omega), Nat.add_sub_cancel_left]; exact hvg q hq
        · rw [put_get hfit2, if_neg (by omega), put_get (by rw [hdl, e9]; exact hn1k), if_pos (by rw [hdl]; omega), Nat.add_sub_cancel_left]; exact hdg q hq)
    refine ⟨_, _, rfl, ?_, ?_, hI, ?_, dF.trans hF⟩
    · rfl
    · simp only [hH]
    · refine .ms _ _ _ _ _ _ _ (by simp [upd_same]) fun _ _ => ?_
      simp only [upd_same, hH]
      refine ⟨trivial, hroom, e3, by rw [hnewl]; omega, fun _ => ⟨by simp, ?_⟩, fun h => by simp [Blk.own] at h⟩
      have : rowSize (({ x.w with drawn := x.w.drawn + 1 } : World).setRow (x.σ id) (put (put cc ((i + 1) * k) ds) (i * k) vs)) (x.σ id) = cc.size := by
        have q := setRow_heap ({ x.w with drawn := x.w.drawn + 1 } : World) (x.σ id) cc (put (put cc ((i + 1) * k) ds) (i * k) vs) _ _ b1
        unfold rowSize
        rw [q]
        show (put (put cc ((i + 1) * k) ds) (i * k) vs).size = cc.size
        rw [put_size hfit2, hs1]
      rw [this, Nat.zero_add]; exact e8
  · refine (ins_grow L (x.σ id) rows.length cap i (x.σ id2) cap2 cc cv _ _ x.w hlt e2 (by omega) (by omega) hb b1 v1 e8 hcv vs hvs h1c h1v).mono fun e w' h => ?_
    obtain ⟨G, Rw, g1, g2, g3, rfl, rfl, g4⟩ := h
    rw [← hds]
    have hGk : (rows.length + 1) * k ≤ Rw.size := by rw [g1]; exact Nat.mul_le_mul_right k g2
    have hfit1 : i * k + vs.length ≤ Rw.size := by rw [hvl]; omega
    have hs1 : (put Rw (i * k) vs).size = Rw.size := put_size hfit1
    have hfit2 : (i + 1) * k + ds.length ≤ (put Rw (i * k) vs).size := by rw [hs1, hdl, e9]; exact hGk
    obtain ⟨dI, dF⟩ := step_draw hx (x.w.drawn + 2) (by omega)
    obtain ⟨hI, hF⟩ := step_own dI id (put (put Rw (i * k) vs) ((i + 1) * k) ds) lz (ρ.t 9) k (rows.take i ++ row :: rows.drop i) hnew (by rw [hnewl, put_size hfit2, hs1]; exact hGk) (by
        refine ins_rows hsz hsz1' hi (fun r row j v h5 h6 => (bb4 r row j v h5 h6).frame hx dF) (fun j v h5 => (hrow j v h5).frame hx dF) (fun q hq => ?_) (fun q hq => ?_) (fun q hq => ?_)
        · rw [put_get hfit2, if_neg (by omega), put_get hfit1, if_neg (by omega)]
          have := congrArg (fun l => l[q]?) g4
          simp only [List.getElem?_take, if_pos hq, Array.getElem?_toList] at this
          exact this
        · rw [put_get hfit2, if_neg (by omega), put_get hfit1, if_pos (by omega), Nat.add_sub_cancel_left]; exact hvg q hq
        · rw [put_get hfit2, if_pos (by rw [hdl]; omega), Nat.add_sub_cancel_left]; exact hdg q hq)
    refine ⟨_, _, rfl, ?_, ?_, hI, ?_, dF.trans hF⟩
    · rfl
    · simp only [hH]
    · refine .ms _ _ _ _ _ _ _ (by simp [upd_same, hH]) fun _ _ => ?_
      simp only [upd_same, hH]
      refine ⟨trivial, g2, g3, by rw [hnewl]; omega, fun _ => ⟨by simp, ?_⟩, fun h => by simp [Blk.own] at h⟩
      rw [rowSize_new, put_size hfit2, hs1, g1, Nat.zero_add]
theorem CallOK_insert (L : InsLay P ρ n1 k bytes z) (hcf : callable P (ρ.f 22)) {zz : List V} (hzz : zeroOf P (ρ.t 9) = some zz) (hzl : zz.length = k) {id id2 ver ver2 ty2 i n : Nat} {rows : List (List V)} {row : List V} {H : Heap}
    {lz : Bool} (hlz : (lz && (rows.take n).isEmpty) = false) (hH : H id = ⟨ver, true, lz, ρ.t 9, k, rows⟩) (hH2 : H id2 = ⟨ver2, true, false, ty2, k, [row]⟩) (hne : id ≠ id2) (hn : n ≤ rows.length) (hi : i ≤ n)
    (hf : fitRows k (rows.take n) = true) (hf1 : fitRows k [row] = true) (hb : (n + 1) * bytes ≤ 140737488355328) (hm : n + 1 ≤ 9223372036854775807) :
    CallOK P (ρ.f 22) [.ms id ver 0 n, iV i, .ms id2 ver2 0 1] H (.ms id (ver + 2) 0 (n + 1)) (upd H id ⟨ver + 2, true, lz, ρ.t 9, k, (rows.take n).take i ++ row :: (rows.take n).drop i⟩) := by
  refine ⟨hcf, fun x cs hxH hx hr => ?_⟩
  subst hxH
  obtain ⟨c0, c1, c2, rfl⟩ : ∃ c0 c1 c2, cs = [c0, c1, c2] := by
    have := hr.1
    match cs with
    | [a, b, c] => exact ⟨a, b, c, rfl⟩
    | [] => simp at this
    | [_] => simp at this
    | [_, _] => simp at this
    | _ :: _ :: _ :: _ :: _ => simp at this
  have r0 : R x (.ms id ver 0 n) c0 := hr.2 0 _ rfl
  have r1 : R x (iV i) c1 := hr.2 1 _ rfl
  have r2 : R x (.ms id2 ver2 0 1) c2 := hr.2 2 _ rfl
  have hc1 : c1 = .int .i64 i := by
    unfold iV at r1
    cases r1; rfl
  subst hc1
  have hlz2 : (lz && rows.isEmpty) = false := by
    cases lz with
    | false => rfl
    | true =>
      cases rows with
      | nil => simp at hlz
      | cons a l => rfl
  have ho : (x.H id).own = true := by rw [hH]; simp only [Blk.own, hlz2]; rfl
  obtain ⟨cc, b1, bb2, bb3, bb4⟩ := hx.blk id ho
  have hlen : (rows.take n).length = n := by rw [List.length_take]; omega
  obtain ⟨hI, hF⟩ := step_set hx id ho cc cc b1 rfl (ver + 1) (rows.take n) (by rw [hH]; exact Nat.le_succ _) (by rw [hH]; simp) (by rw [hH]; exact hlz) (fun r h => bb2 r (by rw [hH]; exact List.mem_of_mem_take h))
    (by rw [hlen]; refine Nat.le_trans (Nat.mul_le_mul_right _ ?_) bb3; rw [hH]; exact hn) (fun r row j v h1 h2 => by
      rw [List.getElem?_take] at h1
      split at h1
      · exact bb4 r row j v (by rw [hH]; exact h1) h2
      · cases h1)
  have hw : x.w.setRow (x.σ id) cc = x.w := setRow_self x.w _ cc _ _ b1
  rw [hw] at hI hF
  have q0 : R { x with H := upd x.H id ⟨ver + 1, true, (x.H id).lz, (x.H id).ty, (x.H id).sz, rows.take n⟩ } (.ms id (ver + 1) 0 (rows.take n).length) c0 := by
    cases r0 with
    | ms _ _ _ _ b m cap hv hh =>
    obtain ⟨e1, e2, e3, e4, e5, e6⟩ := hh (by rw [hH]) (by rw [hH])
    obtain ⟨e7, e8⟩ := e5 ho
    refine .ms _ _ _ _ _ _ _ (by simp [upd_same]) fun _ _ => ?_
    simp only [upd_same, hlen]
    exact ⟨e1, e2, e3, by omega, fun _ => ⟨e7, e8⟩, fun h => by rw [hH] at h; simp only [Blk.own, hlz] at h; cases h⟩
  have h := ins_full L hzz hzl hI (id := id) (id2 := id2) (ver := ver + 1) (ver2 := ver2) (ty2 := ty2) (i := i) (rows := rows.take n) (row := row) hlz (by simp [upd_same, hH]) (by simp only [upd_ne _ _ (Ne.symm hne)]; exact hH2) hne (by rw [hlen]; exact hi) hf hf1 (by rw [hlen]; exact hb) (by rw [hlen]; exact hm) q0 (r2.frame hx hF)
  refine h.mono fun e w' h => ?_
  obtain ⟨c, y, rfl, h1, h2, h3, h4, h5⟩ := h
  refine ⟨c, y, rfl, h1, ?_, h3, ?_, hF.trans h5⟩
  · rw [h2]
    funext j
    by_cases e : j = id
    · subst e; simp only [upd_same]
    · simp only [upd_ne _ _ e]
  · rw [hlen] at h4; exact h4
theorem CallOK_insert0 (L : InsLay P ρ n1 k bytes z) (hcf : callable P (ρ.f 22)) {zz : List V} (hzz : zeroOf P (ρ.t 9) = some zz) (hzl : zz.length = k) {id id2 ver ver2 ty2 : Nat} {row : List V} {H : Heap}
    (hH : H id = ⟨ver, true, true, ρ.t 9, k, []⟩) (hH2 : H id2 = ⟨ver2, true, false, ty2, k, [row]⟩) (hf1 : fitRows k [row] = true) (hb : bytes ≤ 140737488355328) :
    CallOK P (ρ.f 22) [.ms id ver 0 0, iV 0, .ms id2 ver2 0 1] H (.ms id (ver + 2) 0 1) (upd H id ⟨ver + 2, true, true, ρ.t 9, k, [row]⟩) := by
  refine ⟨hcf, fun x cs hxH hx hr => ?_⟩
  subst hxH
  obtain ⟨c0, c1, c2, rfl⟩ : ∃ c0 c1 c2, cs = [c0, c1, c2] := by
    have := hr.1
    match cs with
    | [a, b, c] => exact ⟨a, b, c, rfl⟩
    | [] => simp at this
    | [_] => simp at this
    | [_, _] => simp at this
    | _ :: _ :: _ :: _ :: _ => simp at this
  have r0 : R x (.ms id ver 0 0) c0 := hr.2 0 _ rfl
  have r1 : R x (iV 0) c1 := hr.2 1 _ rfl
  have r2 : R x (.ms id2 ver2 0 1) c2 := hr.2 2 _ rfl
  have hc1 : c1 = .int .i64 0 := by
    unfold iV at r1
    cases r1; rfl
  subst hc1
  have hk := L.hk
  have ho2 : (x.H id2).own = true := by rw [hH2]; rfl
  obtain ⟨i0, hi0, hz0, hzs, hzb⟩ := info_parts L.i9
  obtain ⟨y, c, hrun, y1, y2, y3, y4⟩ := append_run (P := P) (esz := k) (bytes := bytes) (new := [row]) hx L.t24 hi0 hzz hzs hzb hzl (by omega) (i := id) (ver := ver) (len := 0) (u := .ms id2 ver2 0 1) (by rw [hH]) (by rw [hH]) (by rw [hH]; rfl) (by rw [hH]) (by rw [hH])
      (by simp [rowsOf, hH2]) hf1 (by simpa using hb) (by simp) r0 r2 0
  have hcall : Calls P (ρ.f 22) #[c0, .int .i64 0, c2] x.w fun e w' => e = .returned c ∧ w' = y.w := by
    cases r2 with
    | ms _ _ _ _ b2 m2 cap2 hv2 hh2 =>
    obtain ⟨d1, d2, d3, d4, d5, d6⟩ := hh2 (by rw [hH2]) (by rw [hH2])
    obtain ⟨d7, d8⟩ := d5 ho2
    subst d1; subst d7
    simp only [Nat.zero_mul] at hrun ⊢
    cases r0 with
    | ms _ _ _ _ b n cap hv hh =>
      obtain ⟨e1, e2, e3, e4, e5, e6⟩ := hh (by rw [hH]) (by rw [hH])
      have hcap := e6 (by rw [hH]; rfl)
      subst e1; subst hcap
      cases b with
      | none => exact ins_none L (x.σ id2) cap2 x.w y.w c (fun _ => hrun)
      | some a => exact ins_some L a (x.σ id2) cap2 x.w y.w c (fun _ => hrun)
  refine hcall.mono fun e w' h => ?_
  obtain ⟨rfl, rfl⟩ := h
  have hyi : y.H id = ⟨ver + 1, true, true, ρ.t 9, k, [row]⟩ := by rw [y1, hH]; simp [upd_same]
  have hfin : FinH y.H (upd y.H id ⟨ver + 2, true, true, ρ.t 9, k, [row]⟩) := fun j => by
    by_cases e : j = id
    · subst e; rw [upd_same, hyi]; exact FinB.up (by omega) rfl
    · rw [upd_ne _ _ e]; exact .refl _
  obtain ⟨f1, f2⟩ := fin_step y2 hfin
  have f3 := FinV.ms hfin (id := id) (ver := ver + 1) (n := ver + 2) (off := 0) (len := 0 + [row].length) (by rw [hyi]) (by rw [hyi]) (by simp) (by simp)
  refine ⟨c, finC y _, rfl, rfl, ?_, f1, f3 y c rfl y2 y4, y3.trans f2⟩
  show upd y.H id _ = _
  rw [y1]
  funext j
  by_cases e : j = id
  · subst e; simp only [upd_same]
  · simp only [upd_ne _ _ e]
theorem CallOK_insertL (L : InsLay P ρ n1 k bytes z) (hcf : callable P (ρ.f 22)) {zz : List V} (hzz : zeroOf P (ρ.t 9) = some zz) (hzl : zz.length = k) {id id2 ver ver2 ty2 i n : Nat} {rows : List (List V)} {row : List V} {H : Heap}
    {lz : Bool} (hn : n = rows.length) (hH : H id = ⟨ver, true, lz, ρ.t 9, k, rows⟩) (hH2 : H id2 = ⟨ver2, true, false, ty2, k, [row]⟩) (hne : id ≠ id2) (hi : i ≤ n)
    (hf : fitRows k rows = true) (hf1 : fitRows k [row] = true) (hb : (n + 1) * bytes ≤ 140737488355328) (hm : n + 1 ≤ 9223372036854775807) :
    CallOK P (ρ.f 22) [.ms id ver 0 n, iV i, .ms id2 ver2 0 1] H (.ms id (ver + 2) 0 (n + 1)) (upd H id ⟨ver + 2, true, lz, ρ.t 9, k, rows.take i ++ row :: rows.drop i⟩) := by
  subst hn
  by_cases h0 : (lz && rows.isEmpty) = false
  · have := CallOK_insert L hcf hzz hzl (i := i) (by rw [List.take_length]; exact h0) hH hH2 hne (Nat.le_refl _) hi (by rw [List.take_length]; exact hf) hf1 hb hm
    rw [List.take_length] at this
    exact this
  · cases lz with
    | false => exact (h0 rfl).elim
    | true =>
      cases rows with
      | cons a l => exact (h0 rfl).elim
      | nil =>
        have hi0 : i = 0 := by simpa using hi
        subst hi0
        exact CallOK_insert0 L hcf hzz hzl hH hH2 hf1 (by simpa using hb)
end
end Go.Proofs.YtmnjchcoigbngaaGreat


namespace Go.Proofs.YtmnjchcoigbngaaGreat
open Go Go.Proofs Go.Shelf Go.Lib
def insP (f ty k bytes : Nat) : Prim := fun g args H =>
  if g = f then match args with
    | [.ms id ver 0 n, .int .i64 i, .ms id2 ver2 0 1] => match H id2 with
      | ⟨v2, true, false, _, k2, [row]⟩ => match H id with
        | ⟨v1, true, lz, ty1, k1, rows⟩ =>
          if ((lz && (rows.take n).isEmpty) = false ∨ n = rows.length) ∧ v1 = ver ∧ v2 = ver2 ∧ k1 = k ∧ k2 = k ∧ ty1 = ty ∧ id ≠ id2 ∧ n ≤ rows.length ∧ i.toNat ≤ n ∧ 0 ≤ i ∧ (n + 1) * bytes ≤ 140737488355328 ∧ n + 1 ≤ 9223372036854775807 then
            if fitRows k (rows.take n) && fitRows k [row] then
              some (.ms id (ver + 2) 0 (n + 1), upd H id ⟨ver + 2, true, lz, ty, k, (rows.take n).take i.toNat ++ row :: (rows.take n).drop i.toNat⟩)
            else none
          else none
        | _ => none
      | _ => none
    | _ => none
  else none
theorem insP_ok {P : Program} {ρ : Ren} {n1 : String} {k bytes : Nat} {z : Value} (L : InsLay P ρ n1 k bytes z) (hcf : callable P (ρ.f 22)) {zz : List V} (hzz : zeroOf P (ρ.t 9) = some zz) (hzl : zz.length = k) : PrimOK P (insP (ρ.f 22) (ρ.t 9) k bytes) := by
  intro g args H v H' h
  unfold insP at h
  split at h
  · rename_i hg
    subst hg
    split at h
    · rename_i id ver n i id2 ver2
      split at h
      · rename_i v2 ty2 k2 row h2
        split at h
        · rename_i v1 lz ty1 k1 rows h1
          split at h
          · rename_i hc
            obtain ⟨c0, rfl, rfl, rfl, rfl, rfl, c1, c2, c3, c4, c5, c6⟩ := hc
            split at h
            · rename_i hf
              simp only [Bool.and_eq_true] at hf
              cases h
              rcases c0 with c0 | c0
              · have := CallOK_insert L hcf hzz hzl (i := i.toNat) c0 h1 h2 c1 c2 c3 hf.1 hf.2 c5 c6
                unfold iV at this
                rw [Int.toNat_of_nonneg c4] at this
                exact this
              · have hf1 := hf.1
                rw [c0, List.take_length] at hf1
                have := CallOK_insertL L hcf hzz hzl (i := i.toNat) c0 h1 h2 c1 c3 hf1 hf.2 c5 c6
                unfold iV at this
                rw [Int.toNat_of_nonneg c4] at this
                have e : rows.take n = rows := by rw [c0, List.take_length]
                rw [e]
                exact this
            · cases h
          · cases h
        · cases h
      · cases h
    · cases h
  · cases h
end Go.Proofs.YtmnjchcoigbngaaGreat


namespace Go.Proofs.YtmnjchcoigbngaaGreat
open Go Go.Proofs Go.Shelf
def insRen58 : Go.Shelf.Ren := ⟨fun | 22 => 58 | 29 => 91 | 30 => 92 | n => n, fun | 24 => 31 | 9 => 38 | n => n, fun n => n⟩
theorem insLay58 : InsLay Tryz.prog insRen58 Tryz.f58.name 1 24 (.slice none 0 0) := {
  mixed := by kernel_rfl
  f22 := Tryz.func58.trans (congrArg some (by kernel_rfl))
  ov := fun args w => run_callFunc_extern Tryz.func91 (by kernel_rfl) (by kernel_rfl) (by kernel_rfl) (by kernel_rfl) args w
  t0 := Tryz.underlying0, a0 := Tryz.isAgg0, z0 := Tryz.sizeOf0, v0 := Tryz.zeroValue0
  t3 := Tryz.underlying3, a3 := Tryz.isAgg3, z3 := Tryz.sizeOf3, v3 := Tryz.zeroValue3
  t4 := Tryz.underlying4, a4 := Tryz.isAgg4, z4 := Tryz.sizeOf4, v4 := Tryz.zeroValue4
  z9 := Tryz.sizeOf38
  t24 := Tryz.underlying31, a24 := Tryz.isAgg31, z24 := Tryz.sizeOf31, v24 := Tryz.zeroValue31
  i9 := by kernel_rfl
  hk := by decide
  hz := by kernel_rfl }
theorem insCall58 : callable Tryz.prog 58 := ⟨_, Tryz.func58, by kernel_rfl, by kernel_rfl⟩
def insPrim58 : Prim := insP 58 38 1 24
theorem insPrim58_ok : PrimOK Tryz.prog insPrim58 := insP_ok insLay58 insCall58 (zz := [V.nilsl]) (by kernel_rfl) rfl
end Go.Proofs.YtmnjchcoigbngaaGreat


namespace Go.Proofs.YtmnjchcoigbngaaGreat
open Go Go.Proofs Go.Shelf
def insRen59 : Go.Shelf.Ren := ⟨fun | 22 => 59 | 29 => 93 | 30 => 94 | n => n, fun | 24 => 38 | 9 => 3 | n => n, fun n => n⟩
theorem insLay59 : InsLay Tryz.prog insRen59 Tryz.f59.name 1 8 (.int .i64 0) := {
  mixed := by kernel_rfl
  f22 := Tryz.func59.trans (congrArg some (by kernel_rfl))
  ov := fun args w => run_callFunc_extern Tryz.func93 (by kernel_rfl) (by kernel_rfl) (by kernel_rfl) (by kernel_rfl) args w
  t0 := Tryz.underlying0, a0 := Tryz.isAgg0, z0 := Tryz.sizeOf0, v0 := Tryz.zeroValue0
  t3 := Tryz.underlying3, a3 := Tryz.isAgg3, z3 := Tryz.sizeOf3, v3 := Tryz.zeroValue3
  t4 := Tryz.underlying4, a4 := Tryz.isAgg4, z4 := Tryz.sizeOf4, v4 := Tryz.zeroValue4
  z9 := Tryz.sizeOf3
  t24 := Tryz.underlying38, a24 := Tryz.isAgg38, z24 := Tryz.sizeOf38, v24 := Tryz.zeroValue38
  i9 := by kernel_rfl
  hk := by decide
  hz := by kernel_rfl }
theorem insCall59 : callable Tryz.prog 59 := ⟨_, Tryz.func59, by kernel_rfl, by kernel_rfl⟩
def insPrim59 : Prim := insP 59 3 1 8
theorem insPrim59_ok : PrimOK Tryz.prog insPrim59 := insP_ok insLay59 insCall59 (zz := [V.int .i64 0]) (by kernel_rfl) rfl
end Go.Proofs.YtmnjchcoigbngaaGreat


namespace Go.Proofs.YtmnjchcoigbngaaGreat
open Go Go.Proofs Go.Shelf Go.Lib
section
variable {P : Program} {ρ : Go.Shelf.Ren}
theorem CallOK_grow (L : Lays8.n4 P ρ) (hcf : callable P (ρ.f 4)) (i0 : TypeInfo) (z : Value) (hi0 : P.info? (ρ.t 25) = some i0) (hz0 : i0.zero = some z) (hs0 : 0 < i0.size) (hzs : z.cells.size = i0.size)
    {n : Nat} (hb : n * i0.bytes ≤ 140737488355328) (h63 : n ≤ 4611686018427387904) (id : Nat) (H : Heap) :
    CallOK P (ρ.f 4) [.nilsl, iV (n : Nat)] H (.ms id ((H id).ver + 1) 0 0) (upd H id ⟨(H id).ver + 1, true, decide (n = 0), ρ.t 25, i0.size, []⟩) := by
  refine ⟨hcf, fun x cs hxH hx hr => ?_⟩
  subst hxH
  obtain ⟨c0, c1, rfl⟩ : ∃ c0 c1, cs = [c0, c1] := by
    have := hr.1
    match cs with
    | [a, b] => exact ⟨a, b, rfl⟩
    | [] => simp at this
    | [_] => simp at this
    | _ :: _ :: _ :: _ => simp at this
  have r0 : R x .nilsl c0 := hr.2 0 _ rfl
  have r1 : R x (iV (n : Nat)) c1 := hr.2 1 _ rfl
  have hc0 : c0 = .slice none 0 0 := by cases r0; rfl
  have hc1 : c1 = .int .i64 (n : Nat) := by unfold iV at r1; cases r1; rfl
  subst hc0; subst hc1
  by_cases hn : n = 0
  · subst hn
    refine (Any8.slices_Grow_room L none 0 0 0 x.w (Nat.le_refl _) (by decide) (by decide) (by decide)).mono fun e w' h => ?_
    obtain ⟨rfl, rfl⟩ := h
    obtain ⟨h1, h2, h3⟩ := step_lazy hx id (ρ.t 25) i0.size
    exact ⟨_, { x with H := upd x.H id ⟨(x.H id).ver + 1, true, true, ρ.t 25, i0.size, []⟩ }, rfl, rfl, by simp, h1, h3 _, h2⟩
  · refine (Any8.slices_Grow_grow L i0 z hi0 hz0 hs0 none 0 0 n [] x.w (Nat.le_refl _) (by omega) (by simpa using hb) (by simpa using h63) (by simp) (fun _ => rfl) (fun a h => by cases h)).mono fun e w' h => ?_
    obtain ⟨rfl, rfl⟩ := h
    obtain ⟨dI, dF⟩ := step_draw hx (x.w.drawn + 1) (Nat.le_succ _)
    have hge : 0 + n ≤ grownCap x.w (0 + n) 0 (ρ.t 25) := grownCap_ge x.w _ _ _
    have hle := grownCap_le_maxLen x.w (0 + n) 0 (ρ.t 25) (by unfold maxLen; omega)
    generalize hG : grownCap x.w (0 + n) 0 (ρ.t 25) = G at hge hle
    have hsz : ((#[] : Array Value) ++ Builtin.zeroCells z.cells (0 + n - 0) ++ Builtin.zeroCells z.cells (G - (0 + n))).size = G * i0.size := by
      have zc : ∀ m, (Builtin.zeroCells z.cells m).size = m * i0.size := fun m => by
        rw [size_zeroCells, hzs]
      rw [Array.size_append, Array.size_append, zc, zc]
      simp only [Array.size_empty, Nat.zero_add, Nat.sub_zero]
      rw [← Nat.add_mul]; congr 1; omega
    have hrf : ([].toArray : Array Value) = #[] := rfl
    rw [hrf]
    generalize ((#[] : Array Value) ++ Builtin.zeroCells z.cells (0 + n - 0) ++ Builtin.zeroCells z.cells (G - (0 + n))) = cc at hsz
    obtain ⟨h1, h2⟩ := step_own dI id cc false (ρ.t 25) i0.size [] (by simp) (by simp) (fun r row j v h => by simp at h)
    refine ⟨_, _, rfl, rfl, by simp [hn], h1, ?_, dF.trans h2⟩
    refine .ms _ _ _ _ _ _ _ (by simp [upd_same]) fun _ _ => ?_
    simp only [upd_same]
    refine ⟨trivial, Nat.zero_le _, hle, by simp, fun _ => ⟨by simp [World.drew], ?_⟩, fun h => by simp [Blk.own] at h⟩
    simp only [Nat.zero_add]
    unfold rowSize
    have : (({ x.w with drawn := x.w.drawn + 1 } : World).alloc (.cells cc (ρ.t 25))).heap[({ x.w with drawn := x.w.drawn + 1 } : World).heap.size]? = some (.cells cc (ρ.t 25)) := heap_push_eq _ _
    rw [this]
    exact hsz.symm
theorem CallOK_growk (L : Lays8.n4 P ρ) (hcf : callable P (ρ.f 4)) {k b : Nat} {z : Value} (hi : (P.info? (ρ.t 25)).map (fun i => (i.zero, i.size, i.bytes)) = some (some z, k, b)) (hs0 : 0 < k) (hzs : z.cells.size = k)
    {n : Nat} (hb : n * b ≤ 140737488355328) (h63 : n ≤ 4611686018427387904) (id : Nat) (H : Heap) :
    CallOK P (ρ.f 4) [.nilsl, iV (n : Nat)] H (.ms id ((H id).ver + 1) 0 0) (upd H id ⟨(H id).ver + 1, true, decide (n = 0), ρ.t 25, k, []⟩) := by
  obtain ⟨i0, h1, h2⟩ := Option.map_eq_some_iff.1 hi
  simp only [Prod.mk.injEq] at h2
  obtain ⟨h3, h4, h5⟩ := h2
  subst h4; subst h5
  exact CallOK_grow L hcf i0 z h1 h3 hs0 hzs hb h63 id H
theorem CallOK_growv (L : Lays8.n4 P ρ) (hcf : callable P (ρ.f 4)) {k b : Nat} {z : Value} (hi : (P.info? (ρ.t 25)).map (fun i => (i.zero, i.size, i.bytes)) = some (some z, k, b)) (hs0 : 0 < k) (hzs : z.cells.size = k)
    {n : Nat} (hb : n * b ≤ 140737488355328) (h63 : n ≤ 4611686018427387904) (id : Nat) {H : Heap} {w : Nat} (hv : (H id).ver = w) :
    CallOK P (ρ.f 4) [.nilsl, iV (n : Nat)] H (.ms id (w + 1) 0 0) (upd H id ⟨w + 1, true, decide (n = 0), ρ.t 25, k, []⟩) := by
  subst hv; exact CallOK_growk L hcf hi hs0 hzs hb h63 id H
def growP (f id ty k bytes : Nat) : Prim := fun g args H =>
  if g = f then match args with
    | [.nilsl, .int .i64 n] => if 0 ≤ n ∧ n.toNat * bytes ≤ 140737488355328 ∧ n.toNat ≤ 4611686018427387904 then
        some (.ms id ((H id).ver + 1) 0 0, upd H id ⟨(H id).ver + 1, true, decide (n.toNat = 0), ty, k, []⟩) else none
    | _ => none
  else none
theorem growP_ok (L : Lays8.n4 P ρ) (hcf : callable P (ρ.f 4)) (i0 : TypeInfo) (z : Value) (hi0 : P.info? (ρ.t 25) = some i0) (hz0 : i0.zero = some z) (hs0 : 0 < i0.size) (hzs : z.cells.size = i0.size) (id : Nat) :
    PrimOK P (growP (ρ.f 4) id (ρ.t 25) i0.size i0.bytes) := by
  intro g args H v H' h
  unfold growP at h
  split at h
  · rename_i hg
    subst hg
    split at h
    · rename_i n
      split at h
      · rename_i hc
        cases h
        have := CallOK_grow L hcf i0 z hi0 hz0 hs0 hzs (n := n.toNat) hc.2.1 hc.2.2 id H
        rw [Int.toNat_of_nonneg hc.1] at this
        exact this
      · cases h
    · cases h
  · cases h
theorem growPk_ok (L : Lays8.n4 P ρ) (hcf : callable P (ρ.f 4)) {k b : Nat} {z : Value} (hi : (P.info? (ρ.t 25)).map (fun i => (i.zero, i.size, i.bytes)) = some (some z, k, b)) (hs0 : 0 < k) (hzs : z.cells.size = k) (id : Nat) :
    PrimOK P (growP (ρ.f 4) id (ρ.t 25) k b) := by
  obtain ⟨i0, h1, h2⟩ := Option.map_eq_some_iff.1 hi
  simp only [Prod.mk.injEq] at h2
  obtain ⟨h3, h4, h5⟩ := h2
  subst h4; subst h5
  exact growP_ok L hcf i0 z h1 h3 hs0 hzs id
def orP (p q : Prim) : Prim := fun f args H => match p f args H with
  | some r => some r
  | none => q f args H
theorem orP_ok {p q : Prim} (hp : PrimOK P p) (hq : PrimOK P q) : PrimOK P (orP p q) := by
  intro f args H v H' h
  unfold orP at h
  split at h
  · rename_i r hr; cases h; exact hp _ _ _ _ _ hr
  · exact hq _ _ _ _ _ h
end
end Go.Proofs.YtmnjchcoigbngaaGreat


namespace Go.Proofs.YtmnjchcoigbngaaGreat
open Go Go.Proofs Go.Shelf
def growRen110 : Go.Shelf.Ren := ⟨fun | 4 => 110 | n => n, fun | 22 => 38 | 25 => 3 | 3 => 3 | 4 => 4 | 9 => 9 | 20 => 20 | 0 => 0 | n => n, fun n => n⟩
theorem growLay110 : Lays8.n4 Tryz.prog growRen110 := {
  mixed := (by kernel_rfl),
  f4 := ⟨Tryz.f110.name, by decide, Tryz.func110.trans (congrArg some (by kernel_rfl))⟩,
  t0 := Tryz.underlying0,
  a0 := Tryz.isAgg0,
  z0 := Tryz.sizeOf0,
  v0 := Tryz.zeroValue0,
  t3 := Tryz.underlying3,
  a3 := Tryz.isAgg3,
  z3 := Tryz.sizeOf3,
  v3 := Tryz.zeroValue3,
  t4 := Tryz.underlying4,
  a4 := Tryz.isAgg4,
  z4 := Tryz.sizeOf4,
  v4 := Tryz.zeroValue4,
  t9 := Tryz.underlying9,
  a9 := Tryz.isAgg9,
  z9 := Tryz.sizeOf9,
  v9 := Tryz.zeroValue9,
  t20 := Tryz.underlying20,
  a20 := Tryz.isAgg20,
  z20 := Tryz.sizeOf20,
  v20 := Tryz.zeroValue20,
  t22 := Tryz.underlying38,
  a22 := Tryz.isAgg38,
  z22 := Tryz.sizeOf38,
  v22 := Tryz.zeroValue38 }
theorem growCall110 : callable Tryz.prog 110 := ⟨_, Tryz.func110, by kernel_rfl, by kernel_rfl⟩
theorem growInfo110 : (Tryz.prog.info? 3).map (fun i => (i.zero, i.size, i.bytes)) = some (some (.int .i64 0), 1, 8) := by kernel_rfl
def growPrim110 (id : Nat) : Prim := growP 110 id 3 1 8
theorem growPrim110_ok (id : Nat) : PrimOK Tryz.prog (growPrim110 id) := growPk_ok growLay110 growCall110 growInfo110 (by decide) rfl id
end Go.Proofs.YtmnjchcoigbngaaGreat


namespace Go.Proofs.YtmnjchcoigbngaaGreat
open Go Go.Proofs
def tab10 : List (Nat × XF) := [(10, ⟨s10, []⟩), (11, ⟨s11, []⟩), (13, ⟨s13, []⟩), (14, ⟨s14, []⟩), (16, ⟨s16, [(6, 1000009)]⟩), (17, ⟨s17, []⟩), (20, ⟨s20, []⟩), (22, ⟨s22, []⟩), (23, ⟨s23, []⟩), (26, ⟨s26, []⟩), (28, ⟨s28, []⟩), (32, ⟨s32, []⟩), (33, ⟨s33, []⟩), (34, ⟨s34, []⟩), (35, ⟨s35, []⟩), (36, ⟨s36, []⟩), (37, ⟨s37, []⟩), (43, ⟨s43, []⟩), (48, ⟨s48, []⟩), (49, ⟨s49, []⟩), (50, ⟨s50, []⟩), (51, ⟨s51, []⟩), (53, ⟨s53, []⟩), (54, ⟨s54, []⟩), (55, ⟨s55, []⟩), (56, ⟨s56, []⟩), (57, ⟨s57, [(28, 1000031), (58, 1000061)]⟩), (65, ⟨s65, []⟩), (66, ⟨s66, []⟩), (67, ⟨s67, []⟩), (68, ⟨s68, []⟩), (70, ⟨s70, []⟩), (71, ⟨s71, []⟩), (80, ⟨s80, []⟩), (81, ⟨s81, []⟩), (82, ⟨s82, []⟩), (83, ⟨s83, []⟩), (84, ⟨s84, []⟩), (85, ⟨s85, []⟩), (86, ⟨s86, []⟩), (87, ⟨s87, []⟩), (88, ⟨s88, []⟩), (89, ⟨s89, []⟩), (90, ⟨s90, []⟩), (96, ⟨s96, []⟩), (97, ⟨s97, []⟩), (98, ⟨s98, []⟩), (99, ⟨s99, []⟩), (100, ⟨s100, []⟩), (107, ⟨s107, []⟩), (109, ⟨s109, []⟩), (111, ⟨s111, []⟩), (112, ⟨s112, []⟩), (115, ⟨s115, []⟩), (118, ⟨s118, []⟩), (119, ⟨s119, []⟩)]
theorem tab10_ok : ∀ p ∈ tab10, Good1 Tryz.prog p := by
  intro p hp
  simp only [tab10, List.mem_cons, List.not_mem_nil, or_false] at hp
  rcases hp with rfl | rfl | rfl | rfl | rfl | rfl | rfl | rfl | rfl | rfl | rfl | rfl | rfl | rfl | rfl | rfl | rfl | rfl | rfl | rfl | rfl | rfl | rfl | rfl | rfl | rfl | rfl | rfl | rfl | rfl | rfl | rfl | rfl | rfl | rfl | rfl | rfl | rfl | rfl | rfl | rfl | rfl | rfl | rfl | rfl | rfl | rfl | rfl | rfl | rfl | rfl | rfl | rfl | rfl | rfl | rfl
  · exact ⟨_, _, Tryz.func10, s10_ok, by kernel_rfl⟩
  · exact ⟨_, _, Tryz.func11, s11_ok, by kernel_rfl⟩
  · exact ⟨_, _, Tryz.func13, s13_ok, by kernel_rfl⟩
  · exact ⟨_, _, Tryz.func14, s14_ok, by kernel_rfl⟩
  · exact ⟨_, _, Tryz.func16, s16_ok, by kernel_rfl⟩
  · exact ⟨_, _, Tryz.func17, s17_ok, by kernel_rfl⟩
  · exact ⟨_, _, Tryz.func20, s20_ok, by kernel_rfl⟩
  · exact ⟨_, _, Tryz.func22, s22_ok, by kernel_rfl⟩
  · exact ⟨_, _, Tryz.func23, s23_ok, by kernel_rfl⟩
  · exact ⟨_, _, Tryz.func26, s26_ok, by kernel_rfl⟩
  · exact ⟨_, _, Tryz.func28, s28_ok, by kernel_rfl⟩
  · exact ⟨_, _, Tryz.func32, s32_ok, by kernel_rfl⟩
  · exact ⟨_, _, Tryz.func33, s33_ok, by kernel_rfl⟩
  · exact ⟨_, _, Tryz.func34, s34_ok, by kernel_rfl⟩
  · exact ⟨_, _, Tryz.func35, s35_ok, by kernel_rfl⟩
  · exact ⟨_, _, Tryz.func36, s36_ok, by kernel_rfl⟩
  · exact ⟨_, _, Tryz.func37, s37_ok, by kernel_rfl⟩
  · exact ⟨_, _, Tryz.func43, s43_ok, by kernel_rfl⟩
  · exact ⟨_, _, Tryz.func48, s48_ok, by kernel_rfl⟩
  · exact ⟨_, _, Tryz.func49, s49_ok, by kernel_rfl⟩
  · exact ⟨_, _, Tryz.func50, s50_ok, by kernel_rfl⟩
  · exact ⟨_, _, Tryz.func51, s51_ok, by kernel_rfl⟩
  · exact ⟨_, _, Tryz.func53, s53_ok, by kernel_rfl⟩
  · exact ⟨_, _, Tryz.func54, s54_ok, by kernel_rfl⟩
  · exact ⟨_, _, Tryz.func55, s55_ok, by kernel_rfl⟩
  · exact ⟨_, _, Tryz.func56, s56_ok, by kernel_rfl⟩
  · exact ⟨_, _, Tryz.func57, s57_ok, by kernel_rfl⟩
  · exact ⟨_, _, Tryz.func65, s65_ok, by kernel_rfl⟩
  · exact ⟨_, _, Tryz.func66, s66_ok, by kernel_rfl⟩
  · exact ⟨_, _, Tryz.func67, s67_ok, by kernel_rfl⟩
  · exact ⟨_, _, Tryz.func68, s68_ok, by kernel_rfl⟩
  · exact ⟨_, _, Tryz.func70, s70_ok, by kernel_rfl⟩
  · exact ⟨_, _, Tryz.func71, s71_ok, by kernel_rfl⟩
  · exact ⟨_, _, Tryz.func80, s80_ok, by kernel_rfl⟩
  · exact ⟨_, _, Tryz.func81, s81_ok, by kernel_rfl⟩
  · exact ⟨_, _, Tryz.func82, s82_ok, by kernel_rfl⟩
  · exact ⟨_, _, Tryz.func83, s83_ok, by kernel_rfl⟩
  · exact ⟨_, _, Tryz.func84, s84_ok, by kernel_rfl⟩
  · exact ⟨_, _, Tryz.func85, s85_ok, by kernel_rfl⟩
  · exact ⟨_, _, Tryz.func86, s86_ok, by kernel_rfl⟩
  · exact ⟨_, _, Tryz.func87, s87_ok, by kernel_rfl⟩
  · exact ⟨_, _, Tryz.func88, s88_ok, by kernel_rfl⟩
  · exact ⟨_, _, Tryz.func89, s89_ok, by kernel_rfl⟩
  · exact ⟨_, _, Tryz.func90, s90_ok, by kernel_rfl⟩
  · exact ⟨_, _, Tryz.func96, s96_ok, by kernel_rfl⟩
  · exact ⟨_, _, Tryz.func97, s97_ok, by kernel_rfl⟩
  · exact ⟨_, _, Tryz.func98, s98_ok, by kernel_rfl⟩
  · exact ⟨_, _, Tryz.func99, s99_ok, by kernel_rfl⟩
  · exact ⟨_, _, Tryz.func100, s100_ok, by kernel_rfl⟩
  · exact ⟨_, _, Tryz.func107, s107_ok, by kernel_rfl⟩
  · exact ⟨_, _, Tryz.func109, s109_ok, by kernel_rfl⟩
  · exact ⟨_, _, Tryz.func111, s111_ok, by kernel_rfl⟩
  · exact ⟨_, _, Tryz.func112, s112_ok, by kernel_rfl⟩
  · exact ⟨_, _, Tryz.func115, s115_ok, by kernel_rfl⟩
  · exact ⟨_, _, Tryz.func118, s118_ok, by kernel_rfl⟩
  · exact ⟨_, _, Tryz.func119, s119_ok, by kernel_rfl⟩
theorem aw_learnerlaw26_awake_pure : PureC Tryz.prog 10 [] (.bool true) := pure_of_runQ (orP_ok insPrim58_ok (orP_ok insPrim59_ok (growPrim110_ok 999983))) (orA_ok clonePA87_ok sortedPA38_ok) (Good_of tab10_ok) 400 rfl (by kernel_rfl)
end Go.Proofs.YtmnjchcoigbngaaGreat


namespace Go.Proofs.YtmnjchcoigbngaaGreat
open Go Go.Proofs
def r19_0 : List SO := [
  sO 1 (.box 37 2 (.t 0)),
  sO 2 (.mv (.c (.int .i64 0)))]
def r19_1 : List SO := [
  sO 7 (.fld 0 (.t 1)),
  sO 8 (.load false 1 (.t 7)),
  sO 9 (.bin .lss (.t 8) (.c (.int .i64 1))),
  sO 10 (.mv (.t 9)),
  ⟨some (10, false), some 11, .fld 0 (.t 1)⟩,
  ⟨some (10, false), some 12, .load false 1 (.t 11)⟩,
  ⟨some (10, false), some 13, .bin .gtr (.t 12) (.c (.int .i64 64))⟩,
  sO 14 (.pick (.t 10) (.c (.bool true)) (.t 13))]
def r19_2 : List SO := [
  sO 2 (.mv (.c (.int .i64 2)))]
def r19_3 : List SO := [
  sO 15 (.fld 1 (.t 1)),
  sO 16 (.load false 1 (.t 15)),
  sO 17 (.len (.t 16)),
  sO 18 (.bin .gtr (.t 17) (.c (.int .i64 10000)))]
def r19_4 : List SO := [
  sO 2 (.mv (.c (.int .i64 11)))]
def r19_5 : List SO := [
  sO 3 (.mv (.c (.int .i64 0)))]
def r19_6 : List SO := [
  sO 19 (.mv (.t 3)),
  sO 20 (.fld 1 (.t 1)),
  sO 21 (.load false 1 (.t 20)),
  sO 22 (.len (.t 21)),
  sO 23 (.bin .lss (.t 19) (.t 22))]
def r19_8 : List SO := [
  sO 26 (.fld 1 (.t 1)),
  sO 27 (.load false 1 (.t 26)),
  sO 28 (.mv (.t 3)),
  sO 29 (.idx 2 (.t 27) (.t 28)),
  sO 30 (.load true 2 (.t 29)),
  sO 4 (.alloc 70 [.nilsl, .nilsl]),
  sN (.store 2 (.t 4) (.t 30))]
def r19_9 : List SO := [
  sO 31 (.fld 0 (.t 4)),
  sO 32 (.load false 1 (.t 31)),
  sO 33 (.fld 0 (.t 1)),
  sO 34 (.load false 1 (.t 33)),
  sO 35 (.call false 44 [.t 32, .t 34]),
  sO 5 (.mv (.t 35))]
def r19_10 : List SO := [
  sO 36 (.mv (.t 5)),
  sO 37 (.bin .neq (.t 36) (.c (.int .i64 0)))]
def r19_11 : List SO := [
  sO 38 (.mv (.t 5)),
  sO 2 (.mv (.t 38))]
def r19_12 : List SO := [
  sO 39 (.fld 0 (.t 4)),
  sO 40 (.load false 1 (.t 39)),
  sO 41 (.len (.t 40)),
  sO 42 (.bin .eql (.t 41) (.c (.int .i64 0)))]
def r19_13 : List SO := [
  sO 2 (.mv (.c (.int .i64 19)))]
def r19_14 : List SO := [
  sO 43 (.load true 2 (.t 4)),
  sO 44 (.fld 0 (.t 1)),
  sO 45 (.load false 1 (.t 44)),
  sO 46 (.call false 45 [.t 43, .t 45]),
  sO 6 (.mv (.t 46))]
def r19_15 : List SO := [
  sO 47 (.mv (.t 6)),
  sO 48 (.bin .neq (.t 47) (.c (.int .i64 0)))]
def r19_16 : List SO := [
  sO 49 (.mv (.t 6)),
  sO 2 (.mv (.t 49))]
def r19_17 : List SO := [
  sO 50 (.mv (.t 3)),
  sO 51 (.bin .gtr (.t 50) (.c (.int .i64 0))),
  sO 52 (.mv (.t 51)),
  ⟨some (52, true), some 53, .fld 1 (.t 1)⟩,
  ⟨some (52, true), some 54, .load false 1 (.t 53)⟩,
  ⟨some (52, true), some 55, .mv (.t 3)⟩,
  ⟨some (52, true), some 56, .bin .sub (.t 55) (.c (.int .i64 1))⟩,
  ⟨some (52, true), some 57, .idx 2 (.t 54) (.t 56)⟩,
  ⟨some (52, true), some 58, .fld 0 (.t 57)⟩,
  ⟨some (52, true), some 59, .load false 1 (.t 58)⟩,
  ⟨some (52, true), some 60, .fld 0 (.t 4)⟩,
  ⟨some (52, true), some 61, .load false 1 (.t 60)⟩,
  ⟨some (52, true), some 62, .call false 46 [.t 59, .t 61]⟩,
  ⟨some (52, true), some 63, .bin .geq (.t 62) (.c (.int .i64 0))⟩,
  sO 64 (.pick (.t 52) (.t 63) (.c (.bool false)))]
def r19_18 : List SO := [
  sO 2 (.mv (.c (.int .i64 10)))]
def r19_7 : List SO := [
  sO 24 (.mv (.t 3)),
  sO 25 (.bin .add (.t 24) (.c (.int .i64 1))),
  sO 3 (.mv (.t 25))]
def b19_0 : SC := .seq (.seq (.reg r19_6) (.cond (.t 23) (.skip) (.exit 0))) (.seq (.block 1 (.seq (.reg r19_8) (.seq (.seq (.reg r19_9) (.seq (.reg r19_10) (.cond (.t 37) (.seq (.reg r19_11) (.ret)) (.skip)))) (.seq (.seq (.reg r19_12) (.cond (.t 42) (.seq (.reg r19_13) (.ret)) (.skip))) (.seq (.seq (.reg r19_14) (.seq (.reg r19_15) (.cond (.t 48) (.seq (.reg r19_16) (.ret)) (.skip)))) (.seq (.reg r19_17) (.cond (.t 64) (.seq (.reg r19_18) (.ret)) (.skip)))))))) (.reg r19_7))
def r19_19 : List SO := [
  sO 65 (.load true 2 (.t 1)),
  sO 66 (.call false 47 [.t 65]),
  sO 2 (.mv (.t 66))]
def s19 : SF := ⟨67, [.tmp 2], .seq (.reg r19_0) (.seq (.seq (.reg r19_1) (.cond (.t 14) (.seq (.reg r19_2) (.ret)) (.skip))) (.seq (.seq (.reg r19_3) (.cond (.t 18) (.seq (.reg r19_4) (.ret)) (.skip))) (.seq (.seq (.reg r19_5) (.block 0 (.loop b19_0))) (.seq (.reg r19_19) (.ret)))))⟩
theorem s19_ok : slimF Tryz.prog ⟨[57, 58, 59, 63, 67, 68, 77, 102, 103, 104, 110, 116, 120], []⟩ Tryz.f19 = some s19 := by kernel_rfl
end Go.Proofs.YtmnjchcoigbngaaGreat


namespace Go.Proofs.YtmnjchcoigbngaaGreat
open Go Go.Proofs
def r44_0 : List SO := [
  sO 4 (.mv (.c (.int .i64 0)))]
def r44_1 : List SO := [
  sO 6 (.mv (.t 1)),
  sO 7 (.call false 78 [.t 6]),
  sO 8 (.un .not (.t 7))]
def r44_2 : List SO := [
  sO 4 (.mv (.c (.int .i64 2)))]
def r44_3 : List SO := [
  sO 9 (.mv (.t 0)),
  sO 10 (.len (.t 9)),
  sO 11 (.bin .gtr (.t 10) (.c (.int .i64 1024)))]
def r44_4 : List SO := [
  sO 4 (.mv (.c (.int .i64 3)))]
def r44_5 : List SO := [
  sO 5 (.mv (.c (.int .i64 0)))]
def r44_6 : List SO := [
  sO 12 (.mv (.t 5)),
  sO 13 (.mv (.t 0)),
  sO 14 (.len (.t 13)),
  sO 15 (.bin .lss (.t 12) (.t 14))]
def r44_8 : List SO := [
  sO 18 (.mv (.t 0)),
  sO 19 (.mv (.t 5)),
  sO 20 (.idx 1 (.t 18) (.t 19)),
  sO 21 (.load false 1 (.t 20)),
  sO 22 (.bin .lss (.t 21) (.c (.int .i64 0))),
  sO 23 (.mv (.t 22)),
  ⟨some (23, false), some 24, .mv (.t 0)⟩,
  ⟨some (23, false), some 25, .mv (.t 5)⟩,
  ⟨some (23, false), some 26, .idx 1 (.t 24) (.t 25)⟩,
  ⟨some (23, false), some 27, .load false 1 (.t 26)⟩,
  ⟨some (23, false), some 28, .mv (.t 1)⟩,
  ⟨some (23, false), some 29, .bin .geq (.t 27) (.t 28)⟩,
  sO 30 (.pick (.t 23) (.c (.bool true)) (.t 29))]
def r44_9 : List SO := [
  sO 4 (.mv (.c (.int .i64 1)))]
def r44_7 : List SO := [
  sO 16 (.mv (.t 5)),
  sO 17 (.bin .add (.t 16) (.c (.int .i64 1))),
  sO 5 (.mv (.t 17))]
def b44_0 : SC := .seq (.seq (.reg r44_6) (.cond (.t 15) (.skip) (.exit 0))) (.seq (.block 1 (.seq (.reg r44_8) (.cond (.t 30) (.seq (.reg r44_9) (.ret)) (.skip)))) (.reg r44_7))
def r44_10 : List SO := [
  sO 4 (.mv (.c (.int .i64 0)))]
def s44 : SF := ⟨31, [.tmp 4], .seq (.reg r44_0) (.seq (.seq (.reg r44_1) (.cond (.t 8) (.seq (.reg r44_2) (.ret)) (.skip))) (.seq (.seq (.reg r44_3) (.cond (.t 11) (.seq (.reg r44_4) (.ret)) (.skip))) (.seq (.seq (.reg r44_5) (.block 0 (.loop b44_0))) (.seq (.reg r44_10) (.ret)))))⟩
theorem s44_ok : slimF Tryz.prog ⟨[57, 58, 59, 63, 67, 68, 77, 102, 103, 104, 110, 116, 120], []⟩ Tryz.f44 = some s44 := by kernel_rfl
end Go.Proofs.YtmnjchcoigbngaaGreat


namespace Go.Proofs.YtmnjchcoigbngaaGreat
open Go Go.Proofs
def r78_0 : List SO := [
  sO 2 (.mv (.c (.bool false)))]
def r78_1 : List SO := [
  sO 3 (.mv (.t 0)),
  sO 4 (.bin .geq (.t 3) (.c (.int .i64 1))),
  sO 5 (.mv (.t 4)),
  ⟨some (5, true), some 6, .mv (.t 0)⟩,
  ⟨some (5, true), some 7, .bin .leq (.t 6) (.c (.int .i64 1024))⟩,
  sO 8 (.pick (.t 5) (.t 7) (.c (.bool false))),
  sO 2 (.mv (.t 8))]
def s78 : SF := ⟨9, [.tmp 2], .seq (.reg r78_0) (.seq (.reg r78_1) (.ret))⟩
theorem s78_ok : slimF Tryz.prog ⟨[57, 58, 59, 63, 67, 68, 77, 102, 103, 104, 110, 116, 120], []⟩ Tryz.f78 = some s78 := by kernel_rfl
end Go.Proofs.YtmnjchcoigbngaaGreat


namespace Go.Proofs.YtmnjchcoigbngaaGreat
open Go Go.Proofs
theorem size_pure (n : Int) : PureC Tryz.prog 78 [(iV (n))] (V.bool (decide (1 ≤ n ∧ n ≤ 1024))) := by
 refine pure_of_Wb true 6 Tryz.func78 s78_ok (by kernel_rfl) (by simp [s78]) (by simp) (by simp) fun hB => ?_
 simp only [bnd_map, bnd_int, bnd_bool, bnd_str, bnd_agg, bnd_pp, bnd_nil, bnd_cons, implies_true, and_true, true_and] at hB
 unfold s78
 dsimp only
 refine W_seq_regc (fun T H => T 0 = (iV (n)) ∧ True) ?_ ?_
 ·
  unfold r78_0
  refine R_mv (@rfl V (V.bool false)) ?_
  exact R_nil ⟨rfl, trivial⟩
 intro T H ⟨t0, _⟩
 refine W_seq_regc (fun T H => T 2 = (V.bool (decide (((1 : Int) ≤ (n)) ∧ ((n) ≤ (1024 : Int))))) ∧ True) ?_ ?_
 ·
  unfold r78_1
  refine R_mv t0 ?_
  refine R_geq (x := (n)) (y := (1 : Int)) (@rfl V (iV (n))) (@rfl V (iV (1 : Int))) ?_
  refine R_mv (@rfl V (V.bool (decide ((1 : Int) ≤ (n))))) ?_
  refine Ops_seg 3 (fun T H => T 8 = (V.bool (decide (((1 : Int) ≤ (n)) ∧ ((n) ≤ (1024 : Int))))) ∧ True) ?_ ?_
  ·
   by_cases g1 : (1 : Int) ≤ (n)
   ·
    refine G_yes (Eq.trans (@rfl V (V.bool (decide ((1 : Int) ≤ (n))))) (bdT g1)) ?_
    refine R_mv t0 ?_
    refine G_yes (Eq.trans (@rfl V (V.bool (decide ((1 : Int) ≤ (n))))) (bdT g1)) ?_
    refine R_leq (x := (n)) (y := (1024 : Int)) (@rfl V (iV (n))) (@rfl V (iV (1024 : Int))) ?_
    refine R_pickT (Eq.trans (@rfl V (V.bool (decide ((1 : Int) ≤ (n))))) (bdT g1)) (@rfl V (V.bool (decide ((n) ≤ (1024 : Int))))) ?_
    exact ⟨(Eq.trans (@rfl V (V.bool (decide ((n) ≤ (1024 : Int))))) (dec_andT g1)), trivial⟩
   ·
    refine G_no (Eq.trans (@rfl V (V.bool (decide ((1 : Int) ≤ (n))))) (bdF g1)) (by decide) ?_
    refine G_no (Eq.trans (@rfl V (V.bool (decide ((1 : Int) ≤ (n))))) (bdF g1)) (by decide) ?_
    refine R_pickF (Eq.trans (@rfl V (V.bool (decide ((1 : Int) ≤ (n))))) (bdF g1)) (@rfl V (V.bool false)) ?_
    exact ⟨(Eq.trans (@rfl V (V.bool false)) (dec_andF g1)), trivial⟩
  intro T H ⟨t8, _⟩
  refine R_mv t8 ?_
  exact R_nil ⟨rfl, trivial⟩
 intro T H ⟨t2, _⟩
 refine W_ret ?_
 refine Ret_1 t2 (fz_bool ?_)
 · first | rfl | omega | simp_all
end Go.Proofs.YtmnjchcoigbngaaGreat


namespace Go.Proofs.YtmnjchcoigbngaaGreat
open Go Go.Proofs
theorem rcheck_pure (w : List Int) (n : Int) : PureC Tryz.prog 44 [(ints w), (iV (n))] (iV (wchk w n)) := by
 refine pure_of_Wb true 6 Tryz.func44 s44_ok (by kernel_rfl) (by simp [s44]) (by simp) (by simp) fun hB => ?_
 simp only [bnd_map, bnd_int, bnd_bool, bnd_str, bnd_agg, bnd_pp, bnd_nil, bnd_cons, implies_true, and_true, true_and] at hB
 unfold s44
 dsimp only
 refine W_seq_regc (fun T H => T 0 = (ints w) ∧ T 1 = (iV (n)) ∧ True) ?_ ?_
 ·
  unfold r44_0
  refine R_mv (@rfl V (iV (0 : Int))) ?_
  exact R_nil ⟨rfl, rfl, trivial⟩
 intro T H ⟨t0, t1, _⟩
 refine W_seq_seq ?_
 refine W_seq_regc (fun T H => T 0 = (ints w) ∧ T 1 = (iV (n)) ∧ T 8 = (V.bool (decide (¬(1 ≤ ((n)) ∧ ((n)) ≤ 1024)))) ∧ True) ?_ ?_
 ·
  unfold r44_1
  refine R_mv t1 ?_
  refine R_callc (evcons (@rfl V (iV (n))) evnil) (size_pure ((n))) ?_
  refine R_not (p := 1 ≤ ((n)) ∧ ((n)) ≤ 1024) (@rfl V (V.bool (decide (1 ≤ ((n)) ∧ ((n)) ≤ 1024)))) ?_
  exact R_nil ⟨t0, t1, rfl, trivial⟩
 intro T H ⟨t0, t1, t8, _⟩
 refine W_seq_if (p := ¬(1 ≤ ((n)) ∧ ((n)) ≤ 1024)) t8 (fun c1 => ?_) (fun c1 => ?_)
 ·
  refine W_seq_seq ?_
  refine W_seq_regc (fun T H => T 4 = (iV (2 : Int)) ∧ True) ?_ ?_
  ·
   unfold r44_2
   refine R_mv (@rfl V (iV (2 : Int))) ?_
   exact R_nil ⟨rfl, trivial⟩
  intro T H ⟨t4, _⟩
  refine W_seq_ret ?_
  refine Ret_1 t4 (fz_int ?_)
  · rw [wchk, if_pos (by omega)]
 refine W_seq_skip ?_
 refine W_seq_seq ?_
 refine W_seq_regc (fun T H => T 0 = (ints w) ∧ T 1 = (iV (n)) ∧ T 11 = (V.bool (decide ((1024 : Int) < ((w.length : Nat) : Int)))) ∧ True) ?_ ?_
 ·
  unfold r44_3
  refine R_mv t0 ?_
  refine R_len (@rfl V (ints w)) ?_
  refine R_gtr (x := ((w.length : Nat) : Int)) (y := (1024 : Int)) (@rfl V (iV ((w.length : Nat) : Int))) (@rfl V (iV (1024 : Int))) ?_
  exact R_nil ⟨t0, t1, rfl, trivial⟩
 intro T H ⟨t0, t1, t11, _⟩
 refine W_seq_if (p := (1024 : Int) < ((w.length : Nat) : Int)) t11 (fun c2 => ?_) (fun c2 => ?_)
 ·
  refine W_seq_seq ?_
  refine W_seq_regc (fun T H => T 4 = (iV (3 : Int)) ∧ True) ?_ ?_
  ·
   unfold r44_4
   refine R_mv (@rfl V (iV (3 : Int))) ?_
   exact R_nil ⟨rfl, trivial⟩
  intro T H ⟨t4, _⟩
  refine W_seq_ret ?_
  refine Ret_1 t4 (fz_int ?_)
  · rw [wchk, if_neg (by omega), if_pos (by omega)]
 refine W_seq_skip ?_
 refine W_seq_seq ?_
 refine W_seq_regc (fun T H => T 0 = (ints w) ∧ T 1 = (iV (n)) ∧ T 5 = (iV (0 : Int)) ∧ True) ?_ ?_
 ·
  unfold r44_5
  refine R_mv (@rfl V (iV (0 : Int))) ?_
  exact R_nil ⟨t0, t1, rfl, trivial⟩
 intro T H ⟨t0, t1, t5, _⟩
 refine W_seq_blockg fun Q3 n3 x3 y3 z3 => ?_
 refine W_loop (fun mm T H => ∃ (k : Nat), mm = w.length - k ∧ T 0 = (ints w) ∧ T 1 = (iV (n)) ∧ T 5 = (iV ((k : Nat) : Int)) ∧ (k ≤ w.length) ∧ (w.length ≤ 1024) ∧ (1 ≤ n ∧ n ≤ 1024) ∧ (wchk w n = fe (wE w n) k (w.length - k))) ?_ ?_
 ·
  refine ⟨_, 0, rfl, t0, t1, (Eq.trans t5 (by first | rfl | simp)), ?_, ?_, ?_, ?_⟩
  · omega
  · omega
  · omega
  · rw [wchk, if_neg (by omega), if_neg (by omega)]; rfl
 intro mm T H ⟨k, hmm, t0, t1, t5, hk, hl, hn, hc⟩ Q4 p14 p24 p34
 unfold b44_0
 refine W_seq_seq ?_
 refine W_seq_regc (fun T H => T 0 = (ints w) ∧ T 1 = (iV (n)) ∧ T 5 = (iV ((k : Nat) : Int)) ∧ T 15 = (V.bool (decide (((k : Nat) : Int) < ((w.length : Nat) : Int)))) ∧ True) ?_ ?_
 ·
  unfold r44_6
  refine R_mv t5 ?_
  refine R_mv t0 ?_
  refine R_len (@rfl V (ints w)) ?_
  refine R_lss (x := ((k : Nat) : Int)) (y := ((w.length : Nat) : Int)) (@rfl V (iV ((k : Nat) : Int))) (@rfl V (iV ((w.length : Nat) : Int))) ?_
  exact R_nil ⟨t0, t1, t5, rfl, trivial⟩
 intro T H ⟨t0, t1, t5, t15, _⟩
 refine W_seq_if (p := ((k : Nat) : Int) < ((w.length : Nat) : Int)) t15 (fun c5 => ?_) (fun c5 => ?_)
 ·
  refine W_seq_skip ?_
  refine W_seq_blockg fun Q6 n6 x6 y6 z6 => ?_
  refine W_seq_regc (fun T H => T 0 = (ints w) ∧ T 1 = (iV (n)) ∧ T 5 = (iV ((k : Nat) : Int)) ∧ T 30 = (V.bool (decide ((((nth (w) (k))) < (0 : Int)) ∨ ((n) ≤ ((nth (w) (k))))))) ∧ True) ?_ ?_
  ·
   unfold r44_8
   refine R_mv t0 ?_
   refine R_mv t5 ?_
   refine R_idx (i := k) (@rfl V (ints w)) (@rfl V (iV ((k : Nat) : Int))) (by omega) rfl ?_
   refine R_load_pp (v := (iV ((nth (w) (k))))) rfl (by first | rfl | simp [ldV]) ?_
   refine R_lss (x := ((nth (w) (k)))) (y := (0 : Int)) (@rfl V (iV ((nth (w) (k))))) (@rfl V (iV (0 : Int))) ?_
   refine R_mv (@rfl V (V.bool (decide (((nth (w) (k))) < (0 : Int))))) ?_
   refine Ops_seg 7 (fun T H => T 0 = (ints w) ∧ T 1 = (iV (n)) ∧ T 5 = (iV ((k : Nat) : Int)) ∧ T 30 = (V.bool (decide ((((nth (w) (k))) < (0 : Int)) ∨ ((n) ≤ ((nth (w) (k))))))) ∧ True) ?_ ?_
   ·
    by_cases g7 : ((nth (w) (k))) < (0 : Int)
    ·
     refine G_no (Eq.trans (@rfl V (V.bool (decide (((nth (w) (k))) < (0 : Int))))) (bdT g7)) (by decide) ?_
     refine G_no (Eq.trans (@rfl V (V.bool (decide (((nth (w) (k))) < (0 : Int))))) (bdT g7)) (by decide) ?_
     refine G_no (Eq.trans (@rfl V (V.bool (decide (((nth (w) (k))) < (0 : Int))))) (bdT g7)) (by decide) ?_
     refine G_no (Eq.trans (@rfl V (V.bool (decide (((nth (w) (k))) < (0 : Int))))) (bdT g7)) (by decide) ?_
     refine G_no (Eq.trans (@rfl V (V.bool (decide (((nth (w) (k))) < (0 : Int))))) (bdT g7)) (by decide) ?_
     refine G_no (Eq.trans (@rfl V (V.bool (decide (((nth (w) (k))) < (0 : Int))))) (bdT g7)) (by decide) ?_
     refine R_pickT (Eq.trans (@rfl V (V.bool (decide (((nth (w) (k))) < (0 : Int))))) (bdT g7)) (@rfl V (V.bool true)) ?_
     exact ⟨t0, t1, t5, (Eq.trans (@rfl V (V.bool true)) (dec_orT g7)), trivial⟩
    ·
     refine G_yes (Eq.trans (@rfl V (V.bool (decide (((nth (w) (k))) < (0 : Int))))) (bdF g7)) ?_
     refine R_mv t0 ?_
     refine G_yes (Eq.trans (@rfl V (V.bool (decide (((nth (w) (k))) < (0 : Int))))) (bdF g7)) ?_
     refine R_mv t5 ?_
     refine G_yes (Eq.trans (@rfl V (V.bool (decide (((nth (w) (k))) < (0 : Int))))) (bdF g7)) ?_
     refine R_idx (i := k) (@rfl V (ints w)) (@rfl V (iV ((k : Nat) : Int))) (by omega) rfl ?_
     refine G_yes (Eq.trans (@rfl V (V.bool (decide (((nth (w) (k))) < (0 : Int))))) (bdF g7)) ?_
     refine R_load_pp (v := (iV ((nth (w) (k))))) rfl (by first | rfl | simp [ldV]) ?_
     refine G_yes (Eq.trans (@rfl V (V.bool (decide (((nth (w) (k))) < (0 : Int))))) (bdF g7)) ?_
     refine R_mv t1 ?_
     refine G_yes (Eq.trans (@rfl V (V.bool (decide (((nth (w) (k))) < (0 : Int))))) (bdF g7)) ?_
     refine R_geq (x := ((nth (w) (k)))) (y := (n)) (@rfl V (iV ((nth (w) (k))))) (@rfl V (iV (n))) ?_
     refine R_pickF (Eq.trans (@rfl V (V.bool (decide (((nth (w) (k))) < (0 : Int))))) (bdF g7)) (@rfl V (V.bool (decide ((n) ≤ ((nth (w) (k))))))) ?_
     exact ⟨t0, t1, t5, (Eq.trans (@rfl V (V.bool (decide ((n) ≤ ((nth (w) (k))))))) (dec_orF g7)), trivial⟩
   intro T H ⟨t0, t1, t5, t30, _⟩
   exact R_nil ⟨t0, t1, t5, t30, trivial⟩
  intro T H ⟨t0, t1, t5, t30, _⟩
  refine W_if (p := (((nth (w) (k))) < (0 : Int)) ∨ ((n) ≤ ((nth (w) (k))))) t30 (fun c8 => ?_) (fun c8 => ?_)
  ·
   refine W_seq_regc (fun T H => T 4 = (iV (1 : Int)) ∧ True) ?_ ?_
   ·
    unfold r44_9
    refine R_mv (@rfl V (iV (1 : Int))) ?_
    exact R_nil ⟨rfl, trivial⟩
   intro T H ⟨t4, _⟩
   refine W_ret ?_
   refine y6 _ _ ?_
   refine p24 _ _ ?_
   refine y3 _ _ ?_
   refine Ret_1 t4 (fz_int ?_)
   · rw [hc, fe_hit (by unfold wE; split <;> omega) (by omega)]; unfold wE; split <;> omega
  refine W_skip ?_
  refine n6 _ _ ?_
  refine .done ?_
  refine W_regc (fun T H => T 0 = (ints w) ∧ T 1 = (iV (n)) ∧ T 5 = (iV ((k + 1 : Nat) : Int)) ∧ True) ?_ ?_
  ·
   unfold r44_7
   refine R_mv t5 ?_
   refine R_addN (m := k) (n := 1) (@rfl V (iV ((k : Nat) : Int))) (@rfl V (iV ((1 : Nat) : Int))) (by omega) ?_
   refine R_mv (@rfl V (iV ((k + 1 : Nat) : Int))) ?_
   exact R_nil ⟨t0, t1, rfl, trivial⟩
  intro T H ⟨t0, t1, t5, _⟩
  refine p14 _ _ _ ?_ ⟨(k + 1), rfl, t0, t1, (Eq.trans t5 (by first | rfl | simp)), ?_, ?_, ?_, ?_⟩
  · omega
  · omega
  · omega
  · omega
  · rw [hc, fe_skip (by unfold wE; split <;> omega) (by omega)]
 refine W_seq_exit ?_
 refine p34 _ _ _ ?_
 refine x3 _ _ ?_
 refine .done ?_
 refine W_seq_regc (fun T H => T 4 = (iV (0 : Int)) ∧ True) ?_ ?_
 ·
  unfold r44_10
  refine R_mv (@rfl V (iV (0 : Int))) ?_
  exact R_nil ⟨rfl, trivial⟩
 intro T H ⟨t4, _⟩
 refine W_ret ?_
 refine Ret_1 t4 (fz_int ?_)
 · rw [hc, fe_end (by omega)]
end Go.Proofs.YtmnjchcoigbngaaGreat


namespace Go.Proofs.YtmnjchcoigbngaaGreat
open Go Go.Proofs
def r45_0 : List SO := [
  sO 2 (.box 70 2 (.t 0)),
  sO 4 (.mv (.c (.int .i64 0)))]
def r45_1 : List SO := [
  sO 7 (.fld 0 (.t 2)),
  sO 8 (.load false 1 (.t 7)),
  sO 9 (.mv (.t 1)),
  sO 10 (.call false 44 [.t 8, .t 9]),
  sO 5 (.mv (.t 10))]
def r45_2 : List SO := [
  sO 11 (.mv (.t 5)),
  sO 12 (.bin .neq (.t 11) (.c (.int .i64 0)))]
def r45_3 : List SO := [
  sO 13 (.mv (.t 5)),
  sO 4 (.mv (.t 13))]
def r45_4 : List SO := [
  sO 14 (.fld 1 (.t 2)),
  sO 15 (.load false 1 (.t 14)),
  sO 16 (.len (.t 15)),
  sO 17 (.fld 0 (.t 2)),
  sO 18 (.load false 1 (.t 17)),
  sO 19 (.len (.t 18)),
  sO 20 (.bin .neq (.t 16) (.t 19))]
def r45_5 : List SO := [
  sO 4 (.mv (.c (.int .i64 1)))]
def r45_6 : List SO := [
  sO 6 (.mv (.c (.int .i64 0)))]
def r45_7 : List SO := [
  sO 21 (.mv (.t 6)),
  sO 22 (.fld 1 (.t 2)),
  sO 23 (.load false 1 (.t 22)),
  sO 24 (.len (.t 23)),
  sO 25 (.bin .lss (.t 21) (.t 24))]
def r45_9 : List SO := [
  sO 28 (.fld 1 (.t 2)),
  sO 29 (.load false 1 (.t 28)),
  sO 30 (.mv (.t 6)),
  sO 31 (.idx 1 (.t 29) (.t 30)),
  sO 32 (.load false 1 (.t 31)),
  sO 33 (.bin .lss (.t 32) (.c (.int .i64 0))),
  sO 34 (.mv (.t 33)),
  ⟨some (34, false), some 35, .fld 1 (.t 2)⟩,
  ⟨some (34, false), some 36, .load false 1 (.t 35)⟩,
  ⟨some (34, false), some 37, .mv (.t 6)⟩,
  ⟨some (34, false), some 38, .idx 1 (.t 36) (.t 37)⟩,
  ⟨some (34, false), some 39, .load false 1 (.t 38)⟩,
  ⟨some (34, false), some 40, .bin .gtr (.t 39) (.c (.int .i64 1048576))⟩,
  sO 41 (.pick (.t 34) (.c (.bool true)) (.t 40))]
def r45_10 : List SO := [
  sO 4 (.mv (.c (.int .i64 2)))]
def r45_8 : List SO := [
  sO 26 (.mv (.t 6)),
  sO 27 (.bin .add (.t 26) (.c (.int .i64 1))),
  sO 6 (.mv (.t 27))]
def b45_0 : SC := .seq (.seq (.reg r45_7) (.cond (.t 25) (.skip) (.exit 0))) (.seq (.block 1 (.seq (.reg r45_9) (.cond (.t 41) (.seq (.reg r45_10) (.ret)) (.skip)))) (.reg r45_8))
def r45_11 : List SO := [
  sO 4 (.mv (.c (.int .i64 0)))]
def s45 : SF := ⟨42, [.tmp 4], .seq (.reg r45_0) (.seq (.seq (.reg r45_1) (.seq (.reg r45_2) (.cond (.t 12) (.seq (.reg r45_3) (.ret)) (.skip)))) (.seq (.seq (.reg r45_4) (.cond (.t 20) (.seq (.reg r45_5) (.ret)) (.skip))) (.seq (.seq (.reg r45_6) (.block 0 (.loop b45_0))) (.seq (.reg r45_11) (.ret)))))⟩
theorem s45_ok : slimF Tryz.prog ⟨[57, 58, 59, 63, 67, 68, 77, 102, 103, 104, 110, 116, 120], []⟩ Tryz.f45 = some s45 := by kernel_rfl
end Go.Proofs.YtmnjchcoigbngaaGreat


namespace Go.Proofs.YtmnjchcoigbngaaGreat
open Go Go.Proofs
theorem rproper_pure (t : Tr) (n : Int) : PureC Tryz.prog 45 [(V.agg [(ints t.ni), (ints t.no)]), (iV (n))] (iV (prE t n)) := by
 refine pure_of_Wb true 6 Tryz.func45 s45_ok (by kernel_rfl) (by simp [s45]) (by simp) (by simp) fun hB => ?_
 simp only [bnd_map, bnd_int, bnd_bool, bnd_str, bnd_agg, bnd_pp, bnd_nil, bnd_cons, implies_true, and_true, true_and] at hB
 unfold s45
 dsimp only
 refine W_seq_regc (fun T H => T 1 = (iV (n)) ∧ T 2 = (V.mp 2 1 0 0) ∧ H 2 = (bk 1 70 2 [[(ints t.ni), (ints t.no)]]) ∧ True) ?_ ?_
 ·
  unfold r45_0
  refine R_box (i := 2) (n := 0) (m := 2) (cs := [(ints t.ni), (ints t.no)]) rfl (congrArg Blk.ver rfl) (@rfl V (V.agg [(ints t.ni), (ints t.no)])) rfl rfl ?_
  refine R_mv (@rfl V (iV (0 : Int))) ?_
  exact R_nil ⟨rfl, rfl, rfl, trivial⟩
 intro T H ⟨t1, t2, h2, _⟩
 refine W_seq_seq ?_
 refine W_seq_regc (fun T H => T 2 = (V.mp 2 1 0 0) ∧ T 5 = (iV (wchk t.ni ((n)))) ∧ H 2 = (bk 1 70 2 [[(ints t.ni), (ints t.no)]]) ∧ True) ?_ ?_
 ·
  unfold r45_1
  refine R_fld_mp (o' := 0) t2 h2 (by first | rfl | simp [okB, Blk.own]) rfl ?_
  refine R_load_mp (v := (ints t.ni)) (@rfl V (V.mp 2 1 0 0)) h2 (by first | rfl | simp [ldB, ldV, Blk.own, V.one]) ?_
  refine R_mv t1 ?_
  refine R_callc (evcons (@rfl V (ints t.ni)) (evcons (@rfl V (iV (n))) evnil)) (rcheck_pure t.ni ((n))) ?_
  refine R_mv (@rfl V (iV (wchk t.ni ((n))))) ?_
  exact R_nil ⟨t2, rfl, h2, trivial⟩
 intro T H ⟨t2, t5, h2, _⟩
 refine W_seq_seq ?_
 refine W_seq_regc (fun T H => T 2 = (V.mp 2 1 0 0) ∧ T 5 = (iV (wchk t.ni ((n)))) ∧ T 12 = (V.bool (decide ((wchk t.ni ((n))) ≠ (0 : Int)))) ∧ H 2 = (bk 1 70 2 [[(ints t.ni), (ints t.no)]]) ∧ True) ?_ ?_
 ·
  unfold r45_2
  refine R_mv t5 ?_
  refine R_neq (x := (wchk t.ni ((n)))) (y := (0 : Int)) (@rfl V (iV (wchk t.ni ((n))))) (@rfl V (iV (0 : Int))) ?_
  exact R_nil ⟨t2, t5, rfl, h2, trivial⟩
 intro T H ⟨t2, t5, t12, h2, _⟩
 refine W_seq_if (p := (wchk t.ni ((n))) ≠ (0 : Int)) t12 (fun c1 => ?_) (fun c1 => ?_)
 ·
  refine W_seq_seq ?_
  refine W_seq_regc (fun T H => T 4 = (iV (wchk t.ni ((n)))) ∧ H 2 = (bk 1 70 2 [[(ints t.ni), (ints t.no)]]) ∧ True) ?_ ?_
  ·
   unfold r45_3
   refine R_mv t5 ?_
   refine R_mv (@rfl V (iV (wchk t.ni ((n))))) ?_
   exact R_nil ⟨rfl, h2, trivial⟩
  intro T H ⟨t4, h2, _⟩
  refine W_seq_ret ?_
  refine Ret_1 t4 (fz_int ?_)
  · rw [prE, if_pos (by omega)]
 refine W_seq_skip ?_
 refine W_seq_seq ?_
 refine W_seq_regc (fun T H => T 2 = (V.mp 2 1 0 0) ∧ T 20 = (V.bool (decide (((t.no.length : Nat) : Int) ≠ ((t.ni.length : Nat) : Int)))) ∧ H 2 = (bk 1 70 2 [[(ints t.ni), (ints t.no)]]) ∧ True) ?_ ?_
 ·
  unfold r45_4
  refine R_fld_mp (o' := 1) t2 h2 (by first | rfl | simp [okB, Blk.own]) rfl ?_
  refine R_load_mp (v := (ints t.no)) (@rfl V (V.mp 2 1 0 1)) h2 (by first | rfl | simp [ldB, ldV, Blk.own, V.one]) ?_
  refine R_len (@rfl V (ints t.no)) ?_
  refine R_fld_mp (o' := 0) t2 h2 (by first | rfl | simp [okB, Blk.own]) rfl ?_
  refine R_load_mp (v := (ints t.ni)) (@rfl V (V.mp 2 1 0 0)) h2 (by first | rfl | simp [ldB, ldV, Blk.own, V.one]) ?_
  refine R_len (@rfl V (ints t.ni)) ?_
  refine R_neq (x := ((t.no.length : Nat) : Int)) (y := ((t.ni.length : Nat) : Int)) (@rfl V (iV ((t.no.length : Nat) : Int))) (@rfl V (iV ((t.ni.length : Nat) : Int))) ?_
  exact R_nil ⟨t2, rfl, h2, trivial⟩
 intro T H ⟨t2, t20, h2, _⟩
 refine W_seq_if (p := ((t.no.length : Nat) : Int) ≠ ((t.ni.length : Nat) : Int)) t20 (fun c2 => ?_) (fun c2 => ?_)
 ·
  refine W_seq_seq ?_
  refine W_seq_regc (fun T H => T 4 = (iV (1 : Int)) ∧ H 2 = (bk 1 70 2 [[(ints t.ni), (ints t.no)]]) ∧ True) ?_ ?_
  ·
   unfold r45_5
   refine R_mv (@rfl V (iV (1 : Int))) ?_
   exact R_nil ⟨rfl, h2, trivial⟩
  intro T H ⟨t4, h2, _⟩
  refine W_seq_ret ?_
  refine Ret_1 t4 (fz_int ?_)
  · rw [prE, if_neg (by omega), if_pos (by omega)]
 refine W_seq_skip ?_
 refine W_seq_seq ?_
 refine W_seq_regc (fun T H => T 2 = (V.mp 2 1 0 0) ∧ T 6 = (iV (0 : Int)) ∧ H 2 = (bk 1 70 2 [[(ints t.ni), (ints t.no)]]) ∧ True) ?_ ?_
 ·
  unfold r45_6
  refine R_mv (@rfl V (iV (0 : Int))) ?_
  exact R_nil ⟨t2, rfl, h2, trivial⟩
 intro T H ⟨t2, t6, h2, _⟩
 refine W_seq_blockg fun Q3 n3 x3 y3 z3 => ?_
 refine W_loop (fun mm T H => ∃ (k : Nat), mm = t.no.length - k ∧ T 2 = (V.mp 2 1 0 0) ∧ T 6 = (iV ((k : Nat) : Int)) ∧ H 2 = (bk 1 70 2 [[(ints t.ni), (ints t.no)]]) ∧ (k ≤ t.no.length) ∧ (prE t n = fe (outE t) k (t.no.length - k))) ?_ ?_
 ·
  refine ⟨_, 0, rfl, t2, (Eq.trans t6 (by first | rfl | simp)), h2, ?_, ?_⟩
  · omega
  · rw [prE, if_neg (by omega), if_neg (by omega)]; rfl
 intro mm T H ⟨k, hmm, t2, t6, h2, hk, hc⟩ Q4 p14 p24 p34
 unfold b45_0
 refine W_seq_seq ?_
 refine W_seq_regc (fun T H => T 2 = (V.mp 2 1 0 0) ∧ T 6 = (iV ((k : Nat) : Int)) ∧ T 25 = (V.bool (decide (((k : Nat) : Int) < ((t.no.length : Nat) : Int)))) ∧ H 2 = (bk 1 70 2 [[(ints t.ni), (ints t.no)]]) ∧ True) ?_ ?_
 ·
  unfold r45_7
  refine R_mv t6 ?_
  refine R_fld_mp (o' := 1) t2 h2 (by first | rfl | simp [okB, Blk.own]) rfl ?_
  refine R_load_mp (v := (ints t.no)) (@rfl V (V.mp 2 1 0 1)) h2 (by first | rfl | simp [ldB, ldV, Blk.own, V.one]) ?_
  refine R_len (@rfl V (ints t.no)) ?_
  refine R_lss (x := ((k : Nat) : Int)) (y := ((t.no.length : Nat) : Int)) (@rfl V (iV ((k : Nat) : Int))) (@rfl V (iV ((t.no.length : Nat) : Int))) ?_
  exact R_nil ⟨t2, t6, rfl, h2, trivial⟩
 intro T H ⟨t2, t6, t25, h2, _⟩
 refine W_seq_if (p := ((k : Nat) : Int) < ((t.no.length : Nat) : Int)) t25 (fun c5 => ?_) (fun c5 => ?_)
 ·
  refine W_seq_skip ?_
  refine W_seq_blockg fun Q6 n6 x6 y6 z6 => ?_
  refine W_seq_regc (fun T H => T 2 = (V.mp 2 1 0 0) ∧ T 6 = (iV ((k : Nat) : Int)) ∧ T 41 = (V.bool (decide ((((nth (t.no) (k))) < (0 : Int)) ∨ ((1048576 : Int) < ((nth (t.no) (k))))))) ∧ H 2 = (bk 1 70 2 [[(ints t.ni), (ints t.no)]]) ∧ True) ?_ ?_
  ·
   unfold r45_9
   refine R_fld_mp (o' := 1) t2 h2 (by first | rfl | simp [okB, Blk.own]) rfl ?_
   refine R_load_mp (v := (ints t.no)) (@rfl V (V.mp 2 1 0 1)) h2 (by first | rfl | simp [ldB, ldV, Blk.own, V.one]) ?_
   refine R_mv t6 ?_
   refine R_idx (i := k) (@rfl V (ints t.no)) (@rfl V (iV ((k : Nat) : Int))) (by omega) rfl ?_
   refine R_load_pp (v := (iV ((nth (t.no) (k))))) rfl (by first | rfl | simp [ldV]) ?_
   refine R_lss (x := ((nth (t.no) (k)))) (y := (0 : Int)) (@rfl V (iV ((nth (t.no) (k))))) (@rfl V (iV (0 : Int))) ?_
   refine R_mv (@rfl V (V.bool (decide (((nth (t.no) (k))) < (0 : Int))))) ?_
   refine Ops_seg 7 (fun T H => T 2 = (V.mp 2 1 0 0) ∧ T 6 = (iV ((k : Nat) : Int)) ∧ T 41 = (V.bool (decide ((((nth (t.no) (k))) < (0 : Int)) ∨ ((1048576 : Int) < ((nth (t.no) (k))))))) ∧ H 2 = (bk 1 70 2 [[(ints t.ni), (ints t.no)]]) ∧ True) ?_ ?_
   ·
    by_cases g7 : ((nth (t.no) (k))) < (0 : Int)
    ·
     refine G_no (Eq.trans (@rfl V (V.bool (decide (((nth (t.no) (k))) < (0 : Int))))) (bdT g7)) (by decide) ?_
     refine G_no (Eq.trans (@rfl V (V.bool (decide (((nth (t.no) (k))) < (0 : Int))))) (bdT g7)) (by decide) ?_
     refine G_no (Eq.trans (@rfl V (V.bool (decide (((nth (t.no) (k))) < (0 : Int))))) (bdT g7)) (by decide) ?_
     refine G_no (Eq.trans (@rfl V (V.bool (decide (((nth (t.no) (k))) < (0 : Int))))) (bdT g7)) (by decide) ?_
     refine G_no (Eq.trans (@rfl V (V.bool (decide (((nth (t.no) (k))) < (0 : Int))))) (bdT g7)) (by decide) ?_
     refine G_no (Eq.trans (@rfl V (V.bool (decide (((nth (t.no) (k))) < (0 : Int))))) (bdT g7)) (by decide) ?_
     refine R_pickT (Eq.trans (@rfl V (V.bool (decide (((nth (t.no) (k))) < (0 : Int))))) (bdT g7)) (@rfl V (V.bool true)) ?_
     exact ⟨t2, t6, (Eq.trans (@rfl V (V.bool true)) (dec_orT g7)), h2, trivial⟩
    ·
     refine G_yes (Eq.trans (@rfl V (V.bool (decide (((nth (t.no) (k))) < (0 : Int))))) (bdF g7)) ?_
     refine R_fld_mp (o' := 1) t2 h2 (by first | rfl | simp [okB, Blk.own]) rfl ?_
     refine G_yes (Eq.trans (@rfl V (V.bool (decide (((nth (t.no) (k))) < (0 : Int))))) (bdF g7)) ?_
     refine R_load_mp (v := (ints t.no)) (@rfl V (V.mp 2 1 0 1)) h2 (by first | rfl | simp [ldB, ldV, Blk.own, V.one]) ?_
     refine G_yes (Eq.trans (@rfl V (V.bool (decide (((nth (t.no) (k))) < (0 : Int))))) (bdF g7)) ?_
     refine R_mv t6 ?_
     refine G_yes (Eq.trans (@rfl V (V.bool (decide (((nth (t.no) (k))) < (0 : Int))))) (bdF g7)) ?_
     refine R_idx (i := k) (@rfl V (ints t.no)) (@rfl V (iV ((k : Nat) : Int))) (by omega) rfl ?_
     refine G_yes (Eq.trans (@rfl V (V.bool (decide (((nth (t.no) (k))) < (0 : Int))))) (bdF g7)) ?_
     refine R_load_pp (v := (iV ((nth (t.no) (k))))) rfl (by first | rfl | simp [ldV]) ?_
     refine G_yes (Eq.trans (@rfl V (V.bool (decide (((nth (t.no) (k))) < (0 : Int))))) (bdF g7)) ?_
     refine R_gtr (x := ((nth (t.no) (k)))) (y := (1048576 : Int)) (@rfl V (iV ((nth (t.no) (k))))) (@rfl V (iV (1048576 : Int))) ?_
     refine R_pickF (Eq.trans (@rfl V (V.bool (decide (((nth (t.no) (k))) < (0 : Int))))) (bdF g7)) (@rfl V (V.bool (decide ((1048576 : Int) < ((nth (t.no) (k))))))) ?_
     exact ⟨t2, t6, (Eq.trans (@rfl V (V.bool (decide ((1048576 : Int) < ((nth (t.no) (k))))))) (dec_orF g7)), h2, trivial⟩
   intro T H ⟨t2, t6, t41, h2, _⟩
   exact R_nil ⟨t2, t6, t41, h2, trivial⟩
  intro T H ⟨t2, t6, t41, h2, _⟩
  refine W_if (p := (((nth (t.no) (k))) < (0 : Int)) ∨ ((1048576 : Int) < ((nth (t.no) (k))))) t41 (fun c8 => ?_) (fun c8 => ?_)
  ·
   refine W_seq_regc (fun T H => T 4 = (iV (2 : Int)) ∧ H 2 = (bk 1 70 2 [[(ints t.ni), (ints t.no)]]) ∧ True) ?_ ?_
   ·
    unfold r45_10
    refine R_mv (@rfl V (iV (2 : Int))) ?_
    exact R_nil ⟨rfl, h2, trivial⟩
   intro T H ⟨t4, h2, _⟩
   refine W_ret ?_
   refine y6 _ _ ?_
   refine p24 _ _ ?_
   refine y3 _ _ ?_
   refine Ret_1 t4 (fz_int ?_)
   · rw [hc, fe_hit (by unfold outE; split <;> omega) (by omega)]; unfold outE; split <;> omega
  refine W_skip ?_
  refine n6 _ _ ?_
  refine .done ?_
  refine W_regc (fun T H => T 2 = (V.mp 2 1 0 0) ∧ T 6 = (iV ((k + 1 : Nat) : Int)) ∧ H 2 = (bk 1 70 2 [[(ints t.ni), (ints t.no)]]) ∧ True) ?_ ?_
  ·
   unfold r45_8
   refine R_mv t6 ?_
   refine R_addN (m := k) (n := 1) (@rfl V (iV ((k : Nat) : Int))) (@rfl V (iV ((1 : Nat) : Int))) (by omega) ?_
   refine R_mv (@rfl V (iV ((k + 1 : Nat) : Int))) ?_
   exact R_nil ⟨t2, rfl, h2, trivial⟩
  intro T H ⟨t2, t6, h2, _⟩
  refine p14 _ _ _ ?_ ⟨(k + 1), rfl, t2, (Eq.trans t6 (by first | rfl | simp)), h2, ?_, ?_⟩
  · omega
  · omega
  · rw [hc, fe_skip (by unfold outE; split <;> omega) (by omega)]
 refine W_seq_exit ?_
 refine p34 _ _ _ ?_
 refine x3 _ _ ?_
 refine .done ?_
 refine W_seq_regc (fun T H => T 4 = (iV (0 : Int)) ∧ H 2 = (bk 1 70 2 [[(ints t.ni), (ints t.no)]]) ∧ True) ?_ ?_
 ·
  unfold r45_11
  refine R_mv (@rfl V (iV (0 : Int))) ?_
  exact R_nil ⟨rfl, h2, trivial⟩
 intro T H ⟨t4, h2, _⟩
 refine W_ret ?_
 refine Ret_1 t4 (fz_int ?_)
 · rw [hc, fe_end (by omega)]
end Go.Proofs.YtmnjchcoigbngaaGreat


namespace Go.Proofs.YtmnjchcoigbngaaGreat
open Go Go.Proofs
def r46_0 : List SO := [
  sO 4 (.mv (.c (.int .i64 0)))]
def r46_1 : List SO := [
  sO 5 (.mv (.t 0)),
  sO 6 (.len (.t 5)),
  sO 7 (.mv (.t 1)),
  sO 8 (.len (.t 7)),
  sO 9 (.bin .lss (.t 6) (.t 8))]
def r46_2 : List SO := [
  sO 4 (.mv (.c (.int .i64 (-1))))]
def r46_3 : List SO := [
  sO 10 (.mv (.t 0)),
  sO 11 (.len (.t 10)),
  sO 12 (.mv (.t 1)),
  sO 13 (.len (.t 12)),
  sO 14 (.bin .gtr (.t 11) (.t 13))]
def r46_4 : List SO := [
  sO 4 (.mv (.c (.int .i64 1)))]
def r46_5 : List SO := [
  sO 15 (.mv (.t 0)),
  sO 16 (.mv (.t 1)),
  sO 17 (.call false 76 [.t 15, .t 16]),
  sO 4 (.mv (.t 17))]
def s46 : SF := ⟨18, [.tmp 4], .seq (.reg r46_0) (.seq (.seq (.reg r46_1) (.cond (.t 9) (.seq (.reg r46_2) (.ret)) (.skip))) (.seq (.seq (.reg r46_3) (.cond (.t 14) (.seq (.reg r46_4) (.ret)) (.skip))) (.seq (.reg r46_5) (.ret))))⟩
theorem s46_ok : slimF Tryz.prog ⟨[57, 58, 59, 63, 67, 68, 77, 102, 103, 104, 110, 116, 120], []⟩ Tryz.f46 = some s46 := by kernel_rfl
end Go.Proofs.YtmnjchcoigbngaaGreat


namespace Go.Proofs.YtmnjchcoigbngaaGreat
open Go Go.Proofs
def r76_0 : List SO := [
  sO 4 (.mv (.c (.int .i64 0)))]
def r76_1 : List SO := [
  sO 6 (.mv (.t 0)),
  sO 7 (.mv (.t 1)),
  sO 8 (.call false 53 [.t 6, .t 7]),
  sO 5 (.mv (.t 8))]
def r76_2 : List SO := [
  sO 10 (.mv (.t 5)),
  sO 11 (.mv (.t 0)),
  sO 12 (.len (.t 11)),
  sO 13 (.bin .eql (.t 10) (.t 12)),
  sO 14 (.mv (.t 13)),
  ⟨some (14, true), some 15, .mv (.t 5)⟩,
  ⟨some (14, true), some 16, .mv (.t 1)⟩,
  ⟨some (14, true), some 17, .len (.t 16)⟩,
  ⟨some (14, true), some 18, .bin .eql (.t 15) (.t 17)⟩,
  sO 19 (.pick (.t 14) (.t 18) (.c (.bool false))),
  sO 9 (.mv (.t 19))]
def r76_3 : List SO := [
  sO 4 (.mv (.c (.int .i64 0)))]
def r76_4 : List SO := [
  sO 21 (.mv (.t 5)),
  sO 22 (.mv (.t 0)),
  sO 23 (.len (.t 22)),
  sO 24 (.bin .eql (.t 21) (.t 23)),
  sO 20 (.mv (.t 24))]
def r76_5 : List SO := [
  sO 25 (.mv (.t 5)),
  sO 26 (.mv (.t 1)),
  sO 27 (.len (.t 26)),
  sO 28 (.bin .lss (.t 25) (.t 27)),
  sO 29 (.mv (.t 28)),
  ⟨some (29, true), some 30, .mv (.t 0)⟩,
  ⟨some (29, true), some 31, .mv (.t 5)⟩,
  ⟨some (29, true), some 32, .idx 1 (.t 30) (.t 31)⟩,
  ⟨some (29, true), some 33, .load false 1 (.t 32)⟩,
  ⟨some (29, true), some 34, .mv (.t 1)⟩,
  ⟨some (29, true), some 35, .mv (.t 5)⟩,
  ⟨some (29, true), some 36, .idx 1 (.t 34) (.t 35)⟩,
  ⟨some (29, true), some 37, .load false 1 (.t 36)⟩,
  ⟨some (29, true), some 38, .bin .lss (.t 33) (.t 37)⟩,
  sO 39 (.pick (.t 29) (.t 38) (.c (.bool false))),
  sO 20 (.mv (.t 39))]
def r76_6 : List SO := [
  sO 4 (.mv (.c (.int .i64 (-1))))]
def r76_7 : List SO := [
  sO 4 (.mv (.c (.int .i64 1)))]
def s76 : SF := ⟨40, [.tmp 4], .seq (.reg r76_0) (.seq (.reg r76_1) (.seq (.block 0 (.seq (.reg r76_2) (.cond (.t 9) (.seq (.reg r76_3) (.ret)) (.seq (.seq (.reg r76_4) (.cond (.t 20) (.skip) (.reg r76_5))) (.cond (.t 20) (.seq (.reg r76_6) (.ret)) (.skip)))))) (.seq (.reg r76_7) (.ret))))⟩
theorem s76_ok : slimF Tryz.prog ⟨[57, 58, 59, 63, 67, 68, 77, 102, 103, 104, 110, 116, 120], []⟩ Tryz.f76 = some s76 := by kernel_rfl
end Go.Proofs.YtmnjchcoigbngaaGreat


namespace Go.Proofs.YtmnjchcoigbngaaGreat
open Go Go.Proofs
theorem rcommon_pure (a b : List Int) : PureC Tryz.prog 53 [(ints a), (ints b)] (iV ((cmn a b : Nat) : Int)) := by
 refine pure_of_Wb true 6 Tryz.func53 s53_ok (by kernel_rfl) (by simp [s53]) (by simp) (by simp) fun hB => ?_
 simp only [bnd_map, bnd_int, bnd_bool, bnd_str, bnd_agg, bnd_pp, bnd_nil, bnd_cons, implies_true, and_true, true_and] at hB
 unfold s53
 dsimp only
 refine W_seq_regc (fun T H => T 0 = (ints a) ∧ T 1 = (ints b) ∧ True) ?_ ?_
 ·
  unfold r53_0
  refine R_mv (@rfl V (iV (0 : Int))) ?_
  exact R_nil ⟨rfl, rfl, trivial⟩
 intro T H ⟨t0, t1, _⟩
 refine W_seq_regc (fun T H => T 0 = (ints a) ∧ T 1 = (ints b) ∧ T 5 = (iV (0 : Int)) ∧ True) ?_ ?_
 ·
  unfold r53_1
  refine R_mv (@rfl V (iV (0 : Int))) ?_
  exact R_nil ⟨t0, t1, rfl, trivial⟩
 intro T H ⟨t0, t1, t5, _⟩
 refine W_seq_blockg fun Q1 n1 x1 y1 z1 => ?_
 refine W_loop (fun mm T H => ∃ (k : Nat), mm = a.length - k ∧ T 0 = (ints a) ∧ T 1 = (ints b) ∧ T 5 = (iV ((k : Nat) : Int)) ∧ (k ≤ a.length) ∧ (k ≤ cmn a b)) ?_ ?_
 ·
  refine ⟨_, 0, rfl, t0, t1, (Eq.trans t5 (by first | rfl | simp)), ?_, ?_⟩
  · omega
  · exact Nat.zero_le _
 intro mm T H ⟨k, hmm, t0, t1, t5, hk, hc⟩ Q2 p12 p22 p32
 unfold b53_0
 refine W_seq_seq ?_
 refine W_seq_regc (fun T H => T 0 = (ints a) ∧ T 1 = (ints b) ∧ T 5 = (iV ((k : Nat) : Int)) ∧ T 26 = (V.bool (decide (((((k : Nat) : Int) < ((a.length : Nat) : Int)) ∧ (((k : Nat) : Int) < ((b.length : Nat) : Int))) ∧ (((nth (a) (k))) = ((nth (b) (k))))))) ∧ True) ?_ ?_
 ·
  unfold r53_2
  refine R_mv t5 ?_
  refine R_mv t0 ?_
  refine R_len (@rfl V (ints a)) ?_
  refine R_lss (x := ((k : Nat) : Int)) (y := ((a.length : Nat) : Int)) (@rfl V (iV ((k : Nat) : Int))) (@rfl V (iV ((a.length : Nat) : Int))) ?_
  refine R_mv (@rfl V (V.bool (decide (((k : Nat) : Int) < ((a.length : Nat) : Int))))) ?_
  refine Ops_seg 5 (fun T H => T 0 = (ints a) ∧ T 1 = (ints b) ∧ T 5 = (iV ((k : Nat) : Int)) ∧ T 15 = (V.bool (decide ((((k : Nat) : Int) < ((a.length : Nat) : Int)) ∧ (((k : Nat) : Int) < ((b.length : Nat) : Int))))) ∧ True) ?_ ?_
  ·
   by_cases g3 : ((k : Nat) : Int) < ((a.length : Nat) : Int)
   ·
    refine G_yes (Eq.trans (@rfl V (V.bool (decide (((k : Nat) : Int) < ((a.length : Nat) : Int))))) (bdT g3)) ?_
    refine R_mv t5 ?_
    refine G_yes (Eq.trans (@rfl V (V.bool (decide (((k : Nat) : Int) < ((a.length : Nat) : Int))))) (bdT g3)) ?_
    refine R_mv t1 ?_
    refine G_yes (Eq.trans (@rfl V (V.bool (decide (((k : Nat) : Int) < ((a.length : Nat) : Int))))) (bdT g3)) ?_
    refine R_len (@rfl V (ints b)) ?_
    refine G_yes (Eq.trans (@rfl V (V.bool (decide (((k : Nat) : Int) < ((a.length : Nat) : Int))))) (bdT g3)) ?_
    refine R_lss (x := ((k : Nat) : Int)) (y := ((b.length : Nat) : Int)) (@rfl V (iV ((k : Nat) : Int))) (@rfl V (iV ((b.length : Nat) : Int))) ?_
    refine R_pickT (Eq.trans (@rfl V (V.bool (decide (((k : Nat) : Int) < ((a.length : Nat) : Int))))) (bdT g3)) (@rfl V (V.bool (decide (((k : Nat) : Int) < ((b.length : Nat) : Int))))) ?_
    exact ⟨t0, t1, t5, (Eq.trans (@rfl V (V.bool (decide (((k : Nat) : Int) < ((b.length : Nat) : Int))))) (dec_andT g3)), trivial⟩
   ·
    refine G_no (Eq.trans (@rfl V (V.bool (decide (((k : Nat) : Int) < ((a.length : Nat) : Int))))) (bdF g3)) (by decide) ?_
    refine G_no (Eq.trans (@rfl V (V.bool (decide (((k : Nat) : Int) < ((a.length : Nat) : Int))))) (bdF g3)) (by decide) ?_
    refine G_no (Eq.trans (@rfl V (V.bool (decide (((k : Nat) : Int) < ((a.length : Nat) : Int))))) (bdF g3)) (by decide) ?_
    refine G_no (Eq.trans (@rfl V (V.bool (decide (((k : Nat) : Int) < ((a.length : Nat) : Int))))) (bdF g3)) (by decide) ?_
    refine R_pickF (Eq.trans (@rfl V (V.bool (decide (((k : Nat) : Int) < ((a.length : Nat) : Int))))) (bdF g3)) (@rfl V (V.bool false)) ?_
    exact ⟨t0, t1, t5, (Eq.trans (@rfl V (V.bool false)) (dec_andF g3)), trivial⟩
  intro T H ⟨t0, t1, t5, t15, _⟩
  refine R_mv t15 ?_
  refine Ops_seg 10 (fun T H => T 0 = (ints a) ∧ T 1 = (ints b) ∧ T 5 = (iV ((k : Nat) : Int)) ∧ T 26 = (V.bool (decide (((((k : Nat) : Int) < ((a.length : Nat) : Int)) ∧ (((k : Nat) : Int) < ((b.length : Nat) : Int))) ∧ (((nth (a) (k))) = ((nth (b) (k))))))) ∧ True) ?_ ?_
  ·
   by_cases g4 : (((k : Nat) : Int) < ((a.length : Nat) : Int)) ∧ (((k : Nat) : Int) < ((b.length : Nat) : Int))
   ·
    refine G_yes (Eq.trans (@rfl V (V.bool (decide ((((k : Nat) : Int) < ((a.length : Nat) : Int)) ∧ (((k : Nat) : Int) < ((b.length : Nat) : Int)))))) (bdT g4)) ?_
    refine R_mv t0 ?_
    refine G_yes (Eq.trans (@rfl V (V.bool (decide ((((k : Nat) : Int) < ((a.length : Nat) : Int)) ∧ (((k : Nat) : Int) < ((b.length : Nat) : Int)))))) (bdT g4)) ?_
    refine R_mv t5 ?_
    refine G_yes (Eq.trans (@rfl V (V.bool (decide ((((k : Nat) : Int) < ((a.length : Nat) : Int)) ∧ (((k : Nat) : Int) < ((b.length : Nat) : Int)))))) (bdT g4)) ?_
    refine R_idx (i := k) (@rfl V (ints a)) (@rfl V (iV ((k : Nat) : Int))) (by omega) rfl ?_
    refine G_yes (Eq.trans (@rfl V (V.bool (decide ((((k : Nat) : Int) < ((a.length : Nat) : Int)) ∧ (((k : Nat) : Int) < ((b.length : Nat) : Int)))))) (bdT g4)) ?_
    refine R_load_pp (v := (iV ((nth (a) (k))))) rfl (by first | rfl | simp [ldV]) ?_
    refine G_yes (Eq.trans (@rfl V (V.bool (decide ((((k : Nat) : Int) < ((a.length : Nat) : Int)) ∧ (((k : Nat) : Int) < ((b.length : Nat) : Int)))))) (bdT g4)) ?_
    refine R_mv t1 ?_
    refine G_yes (Eq.trans (@rfl V (V.bool (decide ((((k : Nat) : Int) < ((a.length : Nat) : Int)) ∧ (((k : Nat) : Int) < ((b.length : Nat) : Int)))))) (bdT g4)) ?_
    refine R_mv t5 ?_
    refine G_yes (Eq.trans (@rfl V (V.bool (decide ((((k : Nat) : Int) < ((a.length : Nat) : Int)) ∧ (((k : Nat) : Int) < ((b.length : Nat) : Int)))))) (bdT g4)) ?_
    refine R_idx (i := k) (@rfl V (ints b)) (@rfl V (iV ((k : Nat) : Int))) (by omega) rfl ?_
    refine G_yes (Eq.trans (@rfl V (V.bool (decide ((((k : Nat) : Int) < ((a.length : Nat) : Int)) ∧ (((k : Nat) : Int) < ((b.length : Nat) : Int)))))) (bdT g4)) ?_
    refine R_load_pp (v := (iV ((nth (b) (k))))) rfl (by first | rfl | simp [ldV]) ?_
    refine G_yes (Eq.trans (@rfl V (V.bool (decide ((((k : Nat) : Int) < ((a.length : Nat) : Int)) ∧ (((k : Nat) : Int) < ((b.length : Nat) : Int)))))) (bdT g4)) ?_
    refine R_eql (x := ((nth (a) (k)))) (y := ((nth (b) (k)))) (@rfl V (iV ((nth (a) (k))))) (@rfl V (iV ((nth (b) (k))))) ?_
    refine R_pickT (Eq.trans (@rfl V (V.bool (decide ((((k : Nat) : Int) < ((a.length : Nat) : Int)) ∧ (((k : Nat) : Int) < ((b.length : Nat) : Int)))))) (bdT g4)) (@rfl V (V.bool (decide (((nth (a) (k))) = ((nth (b) (k))))))) ?_
    exact ⟨t0, t1, t5, (Eq.trans (@rfl V (V.bool (decide (((nth (a) (k))) = ((nth (b) (k))))))) (dec_andT g4)), trivial⟩
   ·
    refine G_no (Eq.trans (@rfl V (V.bool (decide ((((k : Nat) : Int) < ((a.length : Nat) : Int)) ∧ (((k : Nat) : Int) < ((b.length : Nat) : Int)))))) (bdF g4)) (by decide) ?_
    refine G_no (Eq.trans (@rfl V (V.bool (decide ((((k : Nat) : Int) < ((a.length : Nat) : Int)) ∧ (((k : Nat) : Int) < ((b.length : Nat) : Int)))))) (bdF g4)) (by decide) ?_
    refine G_no (Eq.trans (@rfl V (V.bool (decide ((((k : Nat) : Int) < ((a.length : Nat) : Int)) ∧ (((k : Nat) : Int) < ((b.length : Nat) : Int)))))) (bdF g4)) (by decide) ?_
    refine G_no (Eq.trans (@rfl V (V.bool (decide ((((k : Nat) : Int) < ((a.length : Nat) : Int)) ∧ (((k : Nat) : Int) < ((b.length : Nat) : Int)))))) (bdF g4)) (by decide) ?_
    refine G_no (Eq.trans (@rfl V (V.bool (decide ((((k : Nat) : Int) < ((a.length : Nat) : Int)) ∧ (((k : Nat) : Int) < ((b.length : Nat) : Int)))))) (bdF g4)) (by decide) ?_
    refine G_no (Eq.trans (@rfl V (V.bool (decide ((((k : Nat) : Int) < ((a.length : Nat) : Int)) ∧ (((k : Nat) : Int) < ((b.length : Nat) : Int)))))) (bdF g4)) (by decide) ?_
    refine G_no (Eq.trans (@rfl V (V.bool (decide ((((k : Nat) : Int) < ((a.length : Nat) : Int)) ∧ (((k : Nat) : Int) < ((b.length : Nat) : Int)))))) (bdF g4)) (by decide) ?_
    refine G_no (Eq.trans (@rfl V (V.bool (decide ((((k : Nat) : Int) < ((a.length : Nat) : Int)) ∧ (((k : Nat) : Int) < ((b.length : Nat) : Int)))))) (bdF g4)) (by decide) ?_
    refine G_no (Eq.trans (@rfl V (V.bool (decide ((((k : Nat) : Int) < ((a.length : Nat) : Int)) ∧ (((k : Nat) : Int) < ((b.length : Nat) : Int)))))) (bdF g4)) (by decide) ?_
    refine R_pickF (Eq.trans (@rfl V (V.bool (decide ((((k : Nat) : Int) < ((a.length : Nat) : Int)) ∧ (((k : Nat) : Int) < ((b.length : Nat) : Int)))))) (bdF g4)) (@rfl V (V.bool false)) ?_
    exact ⟨t0, t1, t5, (Eq.trans (@rfl V (V.bool false)) (dec_andF g4)), trivial⟩
  intro T H ⟨t0, t1, t5, t26, _⟩
  exact R_nil ⟨t0, t1, t5, t26, trivial⟩
 intro T H ⟨t0, t1, t5, t26, _⟩
 refine W_seq_if (p := ((((k : Nat) : Int) < ((a.length : Nat) : Int)) ∧ (((k : Nat) : Int) < ((b.length : Nat) : Int))) ∧ (((nth (a) (k))) = ((nth (b) (k))))) t26 (fun c5 => ?_) (fun c5 => ?_)
 ·
  refine W_seq_skip ?_
  refine W_block fun Q6 n6 x6 y6 z6 => ?_
  refine W_regc (fun T H => T 0 = (ints a) ∧ T 1 = (ints b) ∧ T 5 = (iV ((k + 1 : Nat) : Int)) ∧ True) ?_ ?_
  ·
   unfold r53_3
   refine R_mv t5 ?_
   refine R_addN (m := k) (n := 1) (@rfl V (iV ((k : Nat) : Int))) (@rfl V (iV ((1 : Nat) : Int))) (by omega) ?_
   refine R_mv (@rfl V (iV ((k + 1 : Nat) : Int))) ?_
   exact R_nil ⟨t0, t1, rfl, trivial⟩
  intro T H ⟨t0, t1, t5, _⟩
  refine n6 _ _ ?_
  refine p12 _ _ _ ?_ ⟨(k + 1), rfl, t0, t1, (Eq.trans t5 (by first | rfl | simp)), ?_, ?_⟩
  · omega
  · omega
  · exact cmn_next hc (by omega) (by omega) (by omega)
 refine W_seq_exit ?_
 refine p32 _ _ _ ?_
 refine x1 _ _ ?_
 refine .done ?_
 refine W_seq_regc (fun T H => T 4 = (iV ((k : Nat) : Int)) ∧ True) ?_ ?_
 ·
  unfold r53_4
  refine R_mv t5 ?_
  refine R_mv (@rfl V (iV ((k : Nat) : Int))) ?_
  exact R_nil ⟨rfl, trivial⟩
 intro T H ⟨t4, _⟩
 refine W_ret ?_
 refine Ret_1 t4 (fz_int ?_)
 · rw [cmn_at hc (by omega)]
end Go.Proofs.YtmnjchcoigbngaaGreat


namespace Go.Proofs.YtmnjchcoigbngaaGreat
open Go Go.Proofs
theorem rlex_pure (a b : List Int) : PureC Tryz.prog 76 [(ints a), (ints b)] (iV (lexI a b)) := by
 refine pure_of_Wb true 6 Tryz.func76 s76_ok (by kernel_rfl) (by simp [s76]) (by simp) (by simp) fun hB => ?_
 simp only [bnd_map, bnd_int, bnd_bool, bnd_str, bnd_agg, bnd_pp, bnd_nil, bnd_cons, implies_true, and_true, true_and] at hB
 unfold s76
 dsimp only
 refine W_seq_regc (fun T H => T 0 = (ints a) ∧ T 1 = (ints b) ∧ True) ?_ ?_
 ·
  unfold r76_0
  refine R_mv (@rfl V (iV (0 : Int))) ?_
  exact R_nil ⟨rfl, rfl, trivial⟩
 intro T H ⟨t0, t1, _⟩
 refine W_seq_regc (fun T H => T 0 = (ints a) ∧ T 1 = (ints b) ∧ T 5 = (iV ((cmn a b : Nat) : Int)) ∧ True) ?_ ?_
 ·
  unfold r76_1
  refine R_mv t0 ?_
  refine R_mv t1 ?_
  have q1 := cmn_l a b
  have q2 := cmn_r a b
  refine R_callc (evcons (@rfl V (ints a)) (evcons (@rfl V (ints b)) evnil)) (rcommon_pure a b) ?_
  refine R_mv (@rfl V (iV ((cmn a b : Nat) : Int))) ?_
  exact R_nil ⟨t0, t1, rfl, trivial⟩
 intro T H ⟨t0, t1, t5, _⟩
 have q3 := cmn_l a b
 have q4 := cmn_r a b
 refine W_seq_blockg fun Q5 n5 x5 y5 z5 => ?_
 refine W_seq_regc (fun T H => T 0 = (ints a) ∧ T 1 = (ints b) ∧ T 5 = (iV ((cmn a b : Nat) : Int)) ∧ T 9 = (V.bool (decide ((((cmn a b : Nat) : Int) = ((a.length : Nat) : Int)) ∧ (((cmn a b : Nat) : Int) = ((b.length : Nat) : Int))))) ∧ True) ?_ ?_
 ·
  unfold r76_2
  refine R_mv t5 ?_
  refine R_mv t0 ?_
  refine R_len (@rfl V (ints a)) ?_
  refine R_eql (x := ((cmn a b : Nat) : Int)) (y := ((a.length : Nat) : Int)) (@rfl V (iV ((cmn a b : Nat) : Int))) (@rfl V (iV ((a.length : Nat) : Int))) ?_
  refine R_mv (@rfl V (V.bool (decide (((cmn a b : Nat) : Int) = ((a.length : Nat) : Int))))) ?_
  refine Ops_seg 5 (fun T H => T 0 = (ints a) ∧ T 1 = (ints b) ∧ T 5 = (iV ((cmn a b : Nat) : Int)) ∧ T 19 = (V.bool (decide ((((cmn a b : Nat) : Int) = ((a.length : Nat) : Int)) ∧ (((cmn a b : Nat) : Int) = ((b.length : Nat) : Int))))) ∧ True) ?_ ?_
  ·
   by_cases g6 : ((cmn a b : Nat) : Int) = ((a.length : Nat) : Int)
   ·
    refine G_yes (Eq.trans (@rfl V (V.bool (decide (((cmn a b : Nat) : Int) = ((a.length : Nat) : Int))))) (bdT g6)) ?_
    refine R_mv t5 ?_
    refine G_yes (Eq.trans (@rfl V (V.bool (decide (((cmn a b : Nat) : Int) = ((a.length : Nat) : Int))))) (bdT g6)) ?_
    refine R_mv t1 ?_
    refine G_yes (Eq.trans (@rfl V (V.bool (decide (((cmn a b : Nat) : Int) = ((a.length : Nat) : Int))))) (bdT g6)) ?_
    refine R_len (@rfl V (ints b)) ?_
    refine G_yes (Eq.trans (@rfl V (V.bool (decide (((cmn a b : Nat) : Int) = ((a.length : Nat) : Int))))) (bdT g6)) ?_
    refine R_eql (x := ((cmn a b : Nat) : Int)) (y := ((b.length : Nat) : Int)) (@rfl V (iV ((cmn a b : Nat) : Int))) (@rfl V (iV ((b.length : Nat) : Int))) ?_
    refine R_pickT (Eq.trans (@rfl V (V.bool (decide (((cmn a b : Nat) : Int) = ((a.length : Nat) : Int))))) (bdT g6)) (@rfl V (V.bool (decide (((cmn a b : Nat) : Int) = ((b.length : Nat) : Int))))) ?_
    exact ⟨t0, t1, t5, (Eq.trans (@rfl V (V.bool (decide (((cmn a b : Nat) : Int) = ((b.length : Nat) : Int))))) (dec_andT g6)), trivial⟩
   ·
    refine G_no (Eq.trans (@rfl V (V.bool (decide (((cmn a b : Nat) : Int) = ((a.length : Nat) : Int))))) (bdF g6)) (by decide) ?_
    refine G_no (Eq.trans (@rfl V (V.bool (decide (((cmn a b : Nat) : Int) = ((a.length : Nat) : Int))))) (bdF g6)) (by decide) ?_
    refine G_no (Eq.trans (@rfl V (V.bool (decide (((cmn a b : Nat) : Int) = ((a.length : Nat) : Int))))) (bdF g6)) (by decide) ?_
    refine G_no (Eq.trans (@rfl V (V.bool (decide (((cmn a b : Nat) : Int) = ((a.length : Nat) : Int))))) (bdF g6)) (by decide) ?_
    refine R_pickF (Eq.trans (@rfl V (V.bool (decide (((cmn a b : Nat) : Int) = ((a.length : Nat) : Int))))) (bdF g6)) (@rfl V (V.bool false)) ?_
    exact ⟨t0, t1, t5, (Eq.trans (@rfl V (V.bool false)) (dec_andF g6)), trivial⟩
  intro T H ⟨t0, t1, t5, t19, _⟩
  refine R_mv t19 ?_
  exact R_nil ⟨t0, t1, t5, rfl, trivial⟩
 intro T H ⟨t0, t1, t5, t9, _⟩
 refine W_if (p := (((cmn a b : Nat) : Int) = ((a.length : Nat) : Int)) ∧ (((cmn a b : Nat) : Int) = ((b.length : Nat) : Int))) t9 (fun c7 => ?_) (fun c7 => ?_)
 ·
  refine W_seq_regc (fun T H => T 4 = (iV (0 : Int)) ∧ True) ?_ ?_
  ·
   unfold r76_3
   refine R_mv (@rfl V (iV (0 : Int))) ?_
   exact R_nil ⟨rfl, trivial⟩
  intro T H ⟨t4, _⟩
  refine W_ret ?_
  refine y5 _ _ ?_
  refine Ret_1 t4 (fz_int ?_)
  · unfold lexI; rw [if_pos (by omega)]
 refine W_seq_seq ?_
 refine W_seq_regc (fun T H => T 0 = (ints a) ∧ T 1 = (ints b) ∧ T 5 = (iV ((cmn a b : Nat) : Int)) ∧ T 20 = (V.bool (decide (((cmn a b : Nat) : Int) = ((a.length : Nat) : Int)))) ∧ True) ?_ ?_
 ·
  unfold r76_4
  refine R_mv t5 ?_
  refine R_mv t0 ?_
  refine R_len (@rfl V (ints a)) ?_
  refine R_eql (x := ((cmn a b : Nat) : Int)) (y := ((a.length : Nat) : Int)) (@rfl V (iV ((cmn a b : Nat) : Int))) (@rfl V (iV ((a.length : Nat) : Int))) ?_
  refine R_mv (@rfl V (V.bool (decide (((cmn a b : Nat) : Int) = ((a.length : Nat) : Int))))) ?_
  exact R_nil ⟨t0, t1, t5, rfl, trivial⟩
 intro T H ⟨t0, t1, t5, t20, _⟩
 refine W_seq_if (p := ((cmn a b : Nat) : Int) = ((a.length : Nat) : Int)) t20 (fun c8 => ?_) (fun c8 => ?_)
 ·
  refine W_seq_skip ?_
  refine W_if (p := ((cmn a b : Nat) : Int) = ((a.length : Nat) : Int)) t20 (fun c9 => ?_) (fun c9 => ?_)
  ·
   refine W_seq_regc (fun T H => T 4 = (iV (-1 : Int)) ∧ True) ?_ ?_
   ·
    unfold r76_6
    refine R_mv (@rfl V (iV (-1 : Int))) ?_
    exact R_nil ⟨rfl, trivial⟩
   intro T H ⟨t4, _⟩
   refine W_ret ?_
   refine y5 _ _ ?_
   refine Ret_1 t4 (fz_int ?_)
   · unfold lexI; rw [if_neg (by omega), if_pos (by omega)]
  · exact (c9 c8).elim
 refine W_seq_regc (fun T H => T 20 = (V.bool (decide ((((cmn a b : Nat) : Int) < ((b.length : Nat) : Int)) ∧ (((nth (a) (cmn a b))) < ((nth (b) (cmn a b))))))) ∧ True) ?_ ?_
 ·
  unfold r76_5
  refine R_mv t5 ?_
  refine R_mv t1 ?_
  refine R_len (@rfl V (ints b)) ?_
  refine R_lss (x := ((cmn a b : Nat) : Int)) (y := ((b.length : Nat) : Int)) (@rfl V (iV ((cmn a b : Nat) : Int))) (@rfl V (iV ((b.length : Nat) : Int))) ?_
  refine R_mv (@rfl V (V.bool (decide (((cmn a b : Nat) : Int) < ((b.length : Nat) : Int))))) ?_
  refine Ops_seg 10 (fun T H => T 20 = (V.bool (decide (((cmn a b : Nat) : Int) = ((a.length : Nat) : Int)))) ∧ T 39 = (V.bool (decide ((((cmn a b : Nat) : Int) < ((b.length : Nat) : Int)) ∧ (((nth (a) (cmn a b))) < ((nth (b) (cmn a b))))))) ∧ True) ?_ ?_
  ·
   by_cases g10 : ((cmn a b : Nat) : Int) < ((b.length : Nat) : Int)
   ·
    refine G_yes (Eq.trans (@rfl V (V.bool (decide (((cmn a b : Nat) : Int) < ((b.length : Nat) : Int))))) (bdT g10)) ?_
    refine R_mv t0 ?_
    refine G_yes (Eq.trans (@rfl V (V.bool (decide (((cmn a b : Nat) : Int) < ((b.length : Nat) : Int))))) (bdT g10)) ?_
    refine R_mv t5 ?_
    refine G_yes (Eq.trans (@rfl V (V.bool (decide (((cmn a b : Nat) : Int) < ((b.length : Nat) : Int))))) (bdT g10)) ?_
    refine R_idx (i := (cmn a b)) (@rfl V (ints a)) (@rfl V (iV ((cmn a b : Nat) : Int))) (by omega) rfl ?_
    refine G_yes (Eq.trans (@rfl V (V.bool (decide (((cmn a b : Nat) : Int) < ((b.length : Nat) : Int))))) (bdT g10)) ?_
    refine R_load_pp (v := (iV ((nth (a) (cmn a b))))) rfl (by first | rfl | simp [ldV]) ?_
    refine G_yes (Eq.trans (@rfl V (V.bool (decide (((cmn a b : Nat) : Int) < ((b.length : Nat) : Int))))) (bdT g10)) ?_
    refine R_mv t1 ?_
    refine G_yes (Eq.trans (@rfl V (V.bool (decide (((cmn a b : Nat) : Int) < ((b.length : Nat) : Int))))) (bdT g10)) ?_
    refine R_mv t5 ?_
    refine G_yes (Eq.trans (@rfl V (V.bool (decide (((cmn a b : Nat) : Int) < ((b.length : Nat) : Int))))) (bdT g10)) ?_
    refine R_idx (i := (cmn a b)) (@rfl V (ints b)) (@rfl V (iV ((cmn a b : Nat) : Int))) (by omega) rfl ?_
    refine G_yes (Eq.trans (@rfl V (V.bool (decide (((cmn a b : Nat) : Int) < ((b.length : Nat) : Int))))) (bdT g10)) ?_
    refine R_load_pp (v := (iV ((nth (b) (cmn a b))))) rfl (by first | rfl | simp [ldV]) ?_
    refine G_yes (Eq.trans (@rfl V (V.bool (decide (((cmn a b : Nat) : Int) < ((b.length : Nat) : Int))))) (bdT g10)) ?_
    refine R_lss (x := ((nth (a) (cmn a b)))) (y := ((nth (b) (cmn a b)))) (@rfl V (iV ((nth (a) (cmn a b))))) (@rfl V (iV ((nth (b) (cmn a b))))) ?_
    refine R_pickT (Eq.trans (@rfl V (V.bool (decide (((cmn a b : Nat) : Int) < ((b.length : Nat) : Int))))) (bdT g10)) (@rfl V (V.bool (decide (((nth (a) (cmn a b))) < ((nth (b) (cmn a b))))))) ?_
    exact ⟨t20, (Eq.trans (@rfl V (V.bool (decide (((nth (a) (cmn a b))) < ((nth (b) (cmn a b))))))) (dec_andT g10)), trivial⟩
   ·
    refine G_no (Eq.trans (@rfl V (V.bool (decide (((cmn a b : Nat) : Int) < ((b.length : Nat) : Int))))) (bdF g10)) (by decide) ?_
    refine G_no (Eq.trans (@rfl V (V.bool (decide (((cmn a b : Nat) : Int) < ((b.length : Nat) : Int))))) (bdF g10)) (by decide) ?_
    refine G_no (Eq.trans (@rfl V (V.bool (decide (((cmn a b : Nat) : Int) < ((b.length : Nat) : Int))))) (bdF g10)) (by decide) ?_
    refine G_no (Eq.trans (@rfl V (V.bool (decide (((cmn a b : Nat) : Int) < ((b.length : Nat) : Int))))) (bdF g10)) (by decide) ?_
    refine G_no (Eq.trans (@rfl V (V.bool (decide (((cmn a b : Nat) : Int) < ((b.length : Nat) : Int))))) (bdF g10)) (by decide) ?_
    refine G_no (Eq.trans (@rfl V (V.bool (decide (((cmn a b : Nat) : Int) < ((b.length : Nat) : Int))))) (bdF g10)) (by decide) ?_
    refine G_no (Eq.trans (@rfl V (V.bool (decide (((cmn a b : Nat) : Int) < ((b.length : Nat) : Int))))) (bdF g10)) (by decide) ?_
    refine G_no (Eq.trans (@rfl V (V.bool (decide (((cmn a b : Nat) : Int) < ((b.length : Nat) : Int))))) (bdF g10)) (by decide) ?_
    refine G_no (Eq.trans (@rfl V (V.bool (decide (((cmn a b : Nat) : Int) < ((b.length : Nat) : Int))))) (bdF g10)) (by decide) ?_
    refine R_pickF (Eq.trans (@rfl V (V.bool (decide (((cmn a b : Nat) : Int) < ((b.length : Nat) : Int))))) (bdF g10)) (@rfl V (V.bool false)) ?_
    exact ⟨t20, (Eq.trans (@rfl V (V.bool false)) (dec_andF g10)), trivial⟩
  intro T H ⟨t20, t39, _⟩
  refine R_mv t39 ?_
  exact R_nil ⟨rfl, trivial⟩
 intro T H ⟨t20, _⟩
 refine W_if (p := (((cmn a b : Nat) : Int) < ((b.length : Nat) : Int)) ∧ (((nth (a) (cmn a b))) < ((nth (b) (cmn a b))))) t20 (fun c11 => ?_) (fun c11 => ?_)
 ·
  refine W_seq_regc (fun T H => T 4 = (iV (-1 : Int)) ∧ True) ?_ ?_
  ·
   unfold r76_6
   refine R_mv (@rfl V (iV (-1 : Int))) ?_
   exact R_nil ⟨rfl, trivial⟩
  intro T H ⟨t4, _⟩
  refine W_ret ?_
  refine y5 _ _ ?_
  refine Ret_1 t4 (fz_int ?_)
  · unfold lexI; rw [if_neg (by omega), if_pos (by omega)]
 refine W_skip ?_
 refine n5 _ _ ?_
 refine .done ?_
 refine W_seq_regc (fun T H => T 4 = (iV (1 : Int)) ∧ True) ?_ ?_
 ·
  unfold r76_7
  refine R_mv (@rfl V (iV (1 : Int))) ?_
  exact R_nil ⟨rfl, trivial⟩
 intro T H ⟨t4, _⟩
 refine W_ret ?_
 refine Ret_1 t4 (fz_int ?_)
 · unfold lexI; rw [if_neg (by omega), if_neg (by omega)]
end Go.Proofs.YtmnjchcoigbngaaGreat


namespace Go.Proofs.YtmnjchcoigbngaaGreat
open Go Go.Proofs
theorem rcompare_pure (a b : List Int) : PureC Tryz.prog 46 [(ints a), (ints b)] (iV (slx a b)) := by
 refine pure_of_Wb true 6 Tryz.func46 s46_ok (by kernel_rfl) (by simp [s46]) (by simp) (by simp) fun hB => ?_
 simp only [bnd_map, bnd_int, bnd_bool, bnd_str, bnd_agg, bnd_pp, bnd_nil, bnd_cons, implies_true, and_true, true_and] at hB
 unfold s46
 dsimp only
 refine W_seq_regc (fun T H => T 0 = (ints a) ∧ T 1 = (ints b) ∧ True) ?_ ?_
 ·
  unfold r46_0
  refine R_mv (@rfl V (iV (0 : Int))) ?_
  exact R_nil ⟨rfl, rfl, trivial⟩
 intro T H ⟨t0, t1, _⟩
 refine W_seq_seq ?_
 refine W_seq_regc (fun T H => T 0 = (ints a) ∧ T 1 = (ints b) ∧ T 9 = (V.bool (decide (((a.length : Nat) : Int) < ((b.length : Nat) : Int)))) ∧ True) ?_ ?_
 ·
  unfold r46_1
  refine R_mv t0 ?_
  refine R_len (@rfl V (ints a)) ?_
  refine R_mv t1 ?_
  refine R_len (@rfl V (ints b)) ?_
  refine R_lss (x := ((a.length : Nat) : Int)) (y := ((b.length : Nat) : Int)) (@rfl V (iV ((a.length : Nat) : Int))) (@rfl V (iV ((b.length : Nat) : Int))) ?_
  exact R_nil ⟨t0, t1, rfl, trivial⟩
 intro T H ⟨t0, t1, t9, _⟩
 refine W_seq_if (p := ((a.length : Nat) : Int) < ((b.length : Nat) : Int)) t9 (fun c1 => ?_) (fun c1 => ?_)
 ·
  refine W_seq_seq ?_
  refine W_seq_regc (fun T H => T 4 = (iV (-1 : Int)) ∧ True) ?_ ?_
  ·
   unfold r46_2
   refine R_mv (@rfl V (iV (-1 : Int))) ?_
   exact R_nil ⟨rfl, trivial⟩
  intro T H ⟨t4, _⟩
  refine W_seq_ret ?_
  refine Ret_1 t4 (fz_int ?_)
  · rw [slx, if_pos (by omega)]
 refine W_seq_skip ?_
 refine W_seq_seq ?_
 refine W_seq_regc (fun T H => T 0 = (ints a) ∧ T 1 = (ints b) ∧ T 14 = (V.bool (decide (((b.length : Nat) : Int) < ((a.length : Nat) : Int)))) ∧ True) ?_ ?_
 ·
  unfold r46_3
  refine R_mv t0 ?_
  refine R_len (@rfl V (ints a)) ?_
  refine R_mv t1 ?_
  refine R_len (@rfl V (ints b)) ?_
  refine R_gtr (x := ((a.length : Nat) : Int)) (y := ((b.length : Nat) : Int)) (@rfl V (iV ((a.length : Nat) : Int))) (@rfl V (iV ((b.length : Nat) : Int))) ?_
  exact R_nil ⟨t0, t1, rfl, trivial⟩
 intro T H ⟨t0, t1, t14, _⟩
 refine W_seq_if (p := ((b.length : Nat) : Int) < ((a.length : Nat) : Int)) t14 (fun c2 => ?_) (fun c2 => ?_)
 ·
  refine W_seq_seq ?_
  refine W_seq_regc (fun T H => T 4 = (iV (1 : Int)) ∧ True) ?_ ?_
  ·
   unfold r46_4
   refine R_mv (@rfl V (iV (1 : Int))) ?_
   exact R_nil ⟨rfl, trivial⟩
  intro T H ⟨t4, _⟩
  refine W_seq_ret ?_
  refine Ret_1 t4 (fz_int ?_)
  · rw [slx, if_neg (by omega), if_pos (by omega)]
 refine W_seq_skip ?_
 refine W_seq_regc (fun T H => T 4 = (iV (lexI a b)) ∧ True) ?_ ?_
 ·
  unfold r46_5
  refine R_mv t0 ?_
  refine R_mv t1 ?_
  refine R_callc (evcons (@rfl V (ints a)) (evcons (@rfl V (ints b)) evnil)) (rlex_pure a b) ?_
  refine R_mv (@rfl V (iV (lexI a b))) ?_
  exact R_nil ⟨rfl, trivial⟩
 intro T H ⟨t4, _⟩
 refine W_ret ?_
 refine Ret_1 t4 (fz_int ?_)
 · rw [slx, if_neg (by omega), if_neg (by omega)]
end Go.Proofs.YtmnjchcoigbngaaGreat


namespace Go.Proofs.YtmnjchcoigbngaaGreat
open Go Go.Proofs
def r47_0 : List SO := [
  sO 1 (.box 37 2 (.t 0)),
  sO 2 (.mv (.c (.int .i64 0)))]
def r47_1 : List SO := [
  sO 3 (.mv (.c (.int .i64 0)))]
def r47_2 : List SO := [
  sO 7 (.mv (.t 3)),
  sO 8 (.fld 1 (.t 1)),
  sO 9 (.load false 1 (.t 8)),
  sO 10 (.len (.t 9)),
  sO 11 (.bin .lss (.t 7) (.t 10))]
def r47_4 : List SO := [
  sO 4 (.mv (.c (.bool false))),
  sO 5 (.mv (.c (.bool false)))]
def r47_5 : List SO := [
  sO 14 (.mv (.t 3)),
  sO 15 (.bin .add (.t 14) (.c (.int .i64 1))),
  sO 6 (.mv (.t 15))]
def r47_6 : List SO := [
  sO 16 (.mv (.t 6)),
  sO 17 (.fld 1 (.t 1)),
  sO 18 (.load false 1 (.t 17)),
  sO 19 (.len (.t 18)),
  sO 20 (.bin .lss (.t 16) (.t 19))]
def r47_8 : List SO := [
  sO 23 (.mv (.t 4)),
  sO 24 (.mv (.t 23)),
  ⟨some (24, false), some 25, .fld 1 (.t 1)⟩,
  ⟨some (24, false), some 26, .load false 1 (.t 25)⟩,
  ⟨some (24, false), some 27, .mv (.t 6)⟩,
  ⟨some (24, false), some 28, .idx 2 (.t 26) (.t 27)⟩,
  ⟨some (24, false), some 29, .fld 0 (.t 28)⟩,
  ⟨some (24, false), some 30, .load false 1 (.t 29)⟩,
  ⟨some (24, false), some 31, .fld 1 (.t 1)⟩,
  ⟨some (24, false), some 32, .load false 1 (.t 31)⟩,
  ⟨some (24, false), some 33, .mv (.t 3)⟩,
  ⟨some (24, false), some 34, .idx 2 (.t 32) (.t 33)⟩,
  ⟨some (24, false), some 35, .fld 0 (.t 34)⟩,
  ⟨some (24, false), some 36, .load false 1 (.t 35)⟩,
  ⟨some (24, false), some 37, .call false 73 [.t 30, .t 36]⟩,
  sO 38 (.pick (.t 24) (.c (.bool true)) (.t 37)),
  sO 4 (.mv (.t 38))]
def r47_9 : List SO := [
  sO 39 (.mv (.t 5)),
  sO 40 (.mv (.t 39)),
  ⟨some (40, false), some 41, .fld 1 (.t 1)⟩,
  ⟨some (40, false), some 42, .load false 1 (.t 41)⟩,
  ⟨some (40, false), some 43, .mv (.t 3)⟩,
  ⟨some (40, false), some 44, .idx 2 (.t 42) (.t 43)⟩,
  ⟨some (40, false), some 45, .load true 2 (.t 44)⟩,
  ⟨some (40, false), some 46, .fld 1 (.t 1)⟩,
  ⟨some (40, false), some 47, .load false 1 (.t 46)⟩,
  ⟨some (40, false), some 48, .mv (.t 6)⟩,
  ⟨some (40, false), some 49, .idx 2 (.t 47) (.t 48)⟩,
  ⟨some (40, false), some 50, .load true 2 (.t 49)⟩,
  ⟨some (40, false), some 51, .call false 79 [.t 45, .t 50]⟩,
  ⟨some (40, false), some 52, .bin .geq (.t 51) (.c (.int .i64 0))⟩,
  sO 53 (.pick (.t 40) (.c (.bool true)) (.t 52)),
  sO 5 (.mv (.t 53))]
def r47_7 : List SO := [
  sO 21 (.mv (.t 6)),
  sO 22 (.bin .add (.t 21) (.c (.int .i64 1))),
  sO 6 (.mv (.t 22))]
def b47_1 : SC := .seq (.seq (.reg r47_6) (.cond (.t 20) (.skip) (.exit 2))) (.seq (.block 3 (.seq (.reg r47_8) (.reg r47_9))) (.reg r47_7))
def r47_10 : List SO := [
  sO 54 (.mv (.t 4))]
def r47_11 : List SO := [
  sO 2 (.mv (.c (.int .i64 7)))]
def r47_12 : List SO := [
  sO 55 (.mv (.t 5))]
def r47_13 : List SO := [
  sO 2 (.mv (.c (.int .i64 13)))]
def r47_3 : List SO := [
  sO 12 (.mv (.t 3)),
  sO 13 (.bin .add (.t 12) (.c (.int .i64 1))),
  sO 3 (.mv (.t 13))]
def b47_0 : SC := .seq (.seq (.reg r47_2) (.cond (.t 11) (.skip) (.exit 0))) (.seq (.block 1 (.seq (.reg r47_4) (.seq (.seq (.reg r47_5) (.block 2 (.loop b47_1))) (.seq (.seq (.reg r47_10) (.cond (.t 54) (.seq (.reg r47_11) (.ret)) (.skip))) (.seq (.reg r47_12) (.cond (.t 55) (.seq (.reg r47_13) (.ret)) (.skip))))))) (.reg r47_3))
def r47_14 : List SO := [
  sO 2 (.mv (.c (.int .i64 0)))]
def s47 : SF := ⟨56, [.tmp 2], .seq (.reg r47_0) (.seq (.seq (.reg r47_1) (.block 0 (.loop b47_0))) (.seq (.reg r47_14) (.ret)))⟩
theorem s47_ok : slimF Tryz.prog ⟨[57, 58, 59, 63, 67, 68, 77, 102, 103, 104, 110, 116, 120], []⟩ Tryz.f47 = some s47 := by kernel_rfl
end Go.Proofs.YtmnjchcoigbngaaGreat


namespace Go.Proofs.YtmnjchcoigbngaaGreat
open Go Go.Proofs
def r73_0 : List SO := [
  sO 4 (.mv (.c (.bool false)))]
def r73_1 : List SO := [
  sO 5 (.mv (.t 0)),
  sO 6 (.mv (.t 1)),
  sO 7 (.call false 53 [.t 5, .t 6]),
  sO 8 (.mv (.t 1)),
  sO 9 (.len (.t 8)),
  sO 10 (.bin .eql (.t 7) (.t 9)),
  sO 4 (.mv (.t 10))]
def s73 : SF := ⟨11, [.tmp 4], .seq (.reg r73_0) (.seq (.reg r73_1) (.ret))⟩
theorem s73_ok : slimF Tryz.prog ⟨[57, 58, 59, 63, 67, 68, 77, 102, 103, 104, 110, 116, 120], []⟩ Tryz.f73 = some s73 := by kernel_rfl
end Go.Proofs.YtmnjchcoigbngaaGreat


namespace Go.Proofs.YtmnjchcoigbngaaGreat
open Go Go.Proofs
theorem rhp_pure (w p : List Int) : PureC Tryz.prog 73 [(ints w), (ints p)] (V.bool (hp w p)) := by
 refine pure_of_Wb true 6 Tryz.func73 s73_ok (by kernel_rfl) (by simp [s73]) (by simp) (by simp) fun hB => ?_
 simp only [bnd_map, bnd_int, bnd_bool, bnd_str, bnd_agg, bnd_pp, bnd_nil, bnd_cons, implies_true, and_true, true_and] at hB
 unfold s73
 dsimp only
 refine W_seq_regc (fun T H => T 0 = (ints w) ∧ T 1 = (ints p) ∧ True) ?_ ?_
 ·
  unfold r73_0
  refine R_mv (@rfl V (V.bool false)) ?_
  exact R_nil ⟨rfl, rfl, trivial⟩
 intro T H ⟨t0, t1, _⟩
 refine W_seq_regc (fun T H => T 4 = (V.bool (decide (((cmn w p : Nat) : Int) = ((p.length : Nat) : Int)))) ∧ True) ?_ ?_
 ·
  unfold r73_1
  refine R_mv t0 ?_
  refine R_mv t1 ?_
  have q1 := cmn_l w p
  have q2 := cmn_r w p
  refine R_callc (evcons (@rfl V (ints w)) (evcons (@rfl V (ints p)) evnil)) (rcommon_pure w p) ?_
  refine R_mv t1 ?_
  refine R_len (@rfl V (ints p)) ?_
  refine R_eql (x := ((cmn w p : Nat) : Int)) (y := ((p.length : Nat) : Int)) (@rfl V (iV ((cmn w p : Nat) : Int))) (@rfl V (iV ((p.length : Nat) : Int))) ?_
  refine R_mv (@rfl V (V.bool (decide (((cmn w p : Nat) : Int) = ((p.length : Nat) : Int))))) ?_
  exact R_nil ⟨rfl, trivial⟩
 intro T H ⟨t4, _⟩
 have q3 := cmn_l w p
 have q4 := cmn_r w p
 refine W_ret ?_
 refine Ret_1 t4 (fz_bool ?_)
 · unfold hp; exact decide_eq_decide.2 (by omega)
end Go.Proofs.YtmnjchcoigbngaaGreat


namespace Go.Proofs.YtmnjchcoigbngaaGreat
open Go Go.Proofs
def r79_0 : List SO := [
  sO 2 (.box 70 2 (.t 0)),
  sO 3 (.box 70 2 (.t 1)),
  sO 4 (.mv (.c (.int .i64 0)))]
def r79_1 : List SO := [
  sO 7 (.fld 0 (.t 2)),
  sO 8 (.load false 1 (.t 7)),
  sO 9 (.fld 0 (.t 3)),
  sO 10 (.load false 1 (.t 9)),
  sO 11 (.call false 53 [.t 8, .t 10]),
  sO 5 (.mv (.t 11))]
def r79_2 : List SO := [
  sO 6 (.mv (.c (.int .i64 0)))]
def r79_3 : List SO := [
  sO 12 (.mv (.t 6)),
  sO 13 (.mv (.t 5)),
  sO 14 (.bin .lss (.t 12) (.t 13))]
def r79_5 : List SO := [
  sO 17 (.fld 1 (.t 2)),
  sO 18 (.load false 1 (.t 17)),
  sO 19 (.mv (.t 6)),
  sO 20 (.idx 1 (.t 18) (.t 19)),
  sO 21 (.load false 1 (.t 20)),
  sO 22 (.fld 1 (.t 3)),
  sO 23 (.load false 1 (.t 22)),
  sO 24 (.mv (.t 6)),
  sO 25 (.idx 1 (.t 23) (.t 24)),
  sO 26 (.load false 1 (.t 25)),
  sO 27 (.bin .neq (.t 21) (.t 26))]
def r79_6 : List SO := [
  sO 28 (.mv (.t 6)),
  sO 4 (.mv (.t 28))]
def r79_4 : List SO := [
  sO 15 (.mv (.t 6)),
  sO 16 (.bin .add (.t 15) (.c (.int .i64 1))),
  sO 6 (.mv (.t 16))]
def b79_0 : SC := .seq (.seq (.reg r79_3) (.cond (.t 14) (.skip) (.exit 0))) (.seq (.block 1 (.seq (.reg r79_5) (.cond (.t 27) (.seq (.reg r79_6) (.ret)) (.skip)))) (.reg r79_4))
def r79_7 : List SO := [
  sO 4 (.mv (.c (.int .i64 (-1))))]
def s79 : SF := ⟨29, [.tmp 4], .seq (.reg r79_0) (.seq (.reg r79_1) (.seq (.seq (.reg r79_2) (.block 0 (.loop b79_0))) (.seq (.reg r79_7) (.ret))))⟩
theorem s79_ok : slimF Tryz.prog ⟨[57, 58, 59, 63, 67, 68, 77, 102, 103, 104, 110, 116, 120], []⟩ Tryz.f79 = some s79 := by kernel_rfl
end Go.Proofs.YtmnjchcoigbngaaGreat


namespace Go.Proofs.YtmnjchcoigbngaaGreat
open Go Go.Proofs
theorem rdiffer_pure (a b : Tr) (ha : a.no.length = a.ni.length) (hb : b.no.length = b.ni.length) : PureC Tryz.prog 79 [(V.agg [(ints a.ni), (ints a.no)]), (V.agg [(ints b.ni), (ints b.no)])] (iV (df a b)) := by
 refine pure_of_Wb true 6 Tryz.func79 s79_ok (by kernel_rfl) (by simp [s79]) (by simp) (by simp) fun hB => ?_
 simp only [bnd_map, bnd_int, bnd_bool, bnd_str, bnd_agg, bnd_pp, bnd_nil, bnd_cons, implies_true, and_true, true_and] at hB
 unfold s79
 dsimp only
 refine W_seq_regc (fun T H => T 2 = (V.mp 2 1 0 0) ∧ T 3 = (V.mp 3 1 0 0) ∧ H 2 = (bk 1 70 2 [[(ints a.ni), (ints a.no)]]) ∧ H 3 = (bk 1 70 2 [[(ints b.ni), (ints b.no)]]) ∧ True) ?_ ?_
 ·
  unfold r79_0
  refine R_box (i := 2) (n := 0) (m := 2) (cs := [(ints a.ni), (ints a.no)]) rfl (congrArg Blk.ver rfl) (@rfl V (V.agg [(ints a.ni), (ints a.no)])) rfl rfl ?_
  refine R_box (i := 3) (n := 0) (m := 2) (cs := [(ints b.ni), (ints b.no)]) rfl (congrArg Blk.ver rfl) (@rfl V (V.agg [(ints b.ni), (ints b.no)])) rfl rfl ?_
  refine R_mv (@rfl V (iV (0 : Int))) ?_
  exact R_nil ⟨rfl, rfl, rfl, rfl, trivial⟩
 intro T H ⟨t2, t3, h2, h3, _⟩
 refine W_seq_regc (fun T H => T 2 = (V.mp 2 1 0 0) ∧ T 3 = (V.mp 3 1 0 0) ∧ T 5 = (iV ((cmn a.ni b.ni : Nat) : Int)) ∧ H 2 = (bk 1 70 2 [[(ints a.ni), (ints a.no)]]) ∧ H 3 = (bk 1 70 2 [[(ints b.ni), (ints b.no)]]) ∧ True) ?_ ?_
 ·
  unfold r79_1
  refine R_fld_mp (o' := 0) t2 h2 (by first | rfl | simp [okB, Blk.own]) rfl ?_
  refine R_load_mp (v := (ints a.ni)) (@rfl V (V.mp 2 1 0 0)) h2 (by first | rfl | simp [ldB, ldV, Blk.own, V.one]) ?_
  refine R_fld_mp (o' := 0) t3 h3 (by first | rfl | simp [okB, Blk.own]) rfl ?_
  refine R_load_mp (v := (ints b.ni)) (@rfl V (V.mp 3 1 0 0)) h3 (by first | rfl | simp [ldB, ldV, Blk.own, V.one]) ?_
  have q1 := cmn_l a.ni b.ni
  have q2 := cmn_r a.ni b.ni
  refine R_callc (evcons (@rfl V (ints a.ni)) (evcons (@rfl V (ints b.ni)) evnil)) (rcommon_pure a.ni b.ni) ?_
  refine R_mv (@rfl V (iV ((cmn a.ni b.ni : Nat) : Int))) ?_
  exact R_nil ⟨t2, t3, rfl, h2, h3, trivial⟩
 intro T H ⟨t2, t3, t5, h2, h3, _⟩
 have q3 := cmn_l a.ni b.ni
 have q4 := cmn_r a.ni b.ni
 refine W_seq_seq ?_
 refine W_seq_regc (fun T H => T 2 = (V.mp 2 1 0 0) ∧ T 3 = (V.mp 3 1 0 0) ∧ T 5 = (iV ((cmn a.ni b.ni : Nat) : Int)) ∧ T 6 = (iV (0 : Int)) ∧ H 2 = (bk 1 70 2 [[(ints a.ni), (ints a.no)]]) ∧ H 3 = (bk 1 70 2 [[(ints b.ni), (ints b.no)]]) ∧ True) ?_ ?_
 ·
  unfold r79_2
  refine R_mv (@rfl V (iV (0 : Int))) ?_
  exact R_nil ⟨t2, t3, t5, rfl, h2, h3, trivial⟩
 intro T H ⟨t2, t3, t5, t6, h2, h3, _⟩
 refine W_seq_blockg fun Q5 n5 x5 y5 z5 => ?_
 refine W_loop (fun mm T H => ∃ (k : Nat), mm = (cmn a.ni b.ni) - k ∧ T 2 = (V.mp 2 1 0 0) ∧ T 3 = (V.mp 3 1 0 0) ∧ T 5 = (iV ((cmn a.ni b.ni : Nat) : Int)) ∧ T 6 = (iV ((k : Nat) : Int)) ∧ H 2 = (bk 1 70 2 [[(ints a.ni), (ints a.no)]]) ∧ H 3 = (bk 1 70 2 [[(ints b.ni), (ints b.no)]]) ∧ (k ≤ cmn a.ni b.ni) ∧ (df a b = fi (dfE a b) k (cmn a.ni b.ni - k))) ?_ ?_
 ·
  refine ⟨_, 0, rfl, t2, t3, t5, (Eq.trans t6 (by first | rfl | simp)), h2, h3, ?_, ?_⟩
  · omega
  · rfl
 intro mm T H ⟨k, hmm, t2, t3, t5, t6, h2, h3, hk, hc⟩ Q6 p16 p26 p36
 unfold b79_0
 refine W_seq_seq ?_
 refine W_seq_regc (fun T H => T 2 = (V.mp 2 1 0 0) ∧ T 3 = (V.mp 3 1 0 0) ∧ T 5 = (iV ((cmn a.ni b.ni : Nat) : Int)) ∧ T 6 = (iV ((k : Nat) : Int)) ∧ T 14 = (V.bool (decide (((k : Nat) : Int) < ((cmn a.ni b.ni : Nat) : Int)))) ∧ H 2 = (bk 1 70 2 [[(ints a.ni), (ints a.no)]]) ∧ H 3 = (bk 1 70 2 [[(ints b.ni), (ints b.no)]]) ∧ True) ?_ ?_
 ·
  unfold r79_3
  refine R_mv t6 ?_
  refine R_mv t5 ?_
  refine R_lss (x := ((k : Nat) : Int)) (y := ((cmn a.ni b.ni : Nat) : Int)) (@rfl V (iV ((k : Nat) : Int))) (@rfl V (iV ((cmn a.ni b.ni : Nat) : Int))) ?_
  exact R_nil ⟨t2, t3, t5, t6, rfl, h2, h3, trivial⟩
 intro T H ⟨t2, t3, t5, t6, t14, h2, h3, _⟩
 refine W_seq_if (p := ((k : Nat) : Int) < ((cmn a.ni b.ni : Nat) : Int)) t14 (fun c7 => ?_) (fun c7 => ?_)
 ·
  refine W_seq_skip ?_
  refine W_seq_blockg fun Q8 n8 x8 y8 z8 => ?_
  refine W_seq_regc (fun T H => T 2 = (V.mp 2 1 0 0) ∧ T 3 = (V.mp 3 1 0 0) ∧ T 5 = (iV ((cmn a.ni b.ni : Nat) : Int)) ∧ T 6 = (iV ((k : Nat) : Int)) ∧ T 27 = (V.bool (decide (((nth (a.no) (k))) ≠ ((nth (b.no) (k)))))) ∧ H 2 = (bk 1 70 2 [[(ints a.ni), (ints a.no)]]) ∧ H 3 = (bk 1 70 2 [[(ints b.ni), (ints b.no)]]) ∧ True) ?_ ?_
  ·
   unfold r79_5
   refine R_fld_mp (o' := 1) t2 h2 (by first | rfl | simp [okB, Blk.own]) rfl ?_
   refine R_load_mp (v := (ints a.no)) (@rfl V (V.mp 2 1 0 1)) h2 (by first | rfl | simp [ldB, ldV, Blk.own, V.one]) ?_
   refine R_mv t6 ?_
   refine R_idx (i := k) (@rfl V (ints a.no)) (@rfl V (iV ((k : Nat) : Int))) (by omega) rfl ?_
   refine R_load_pp (v := (iV ((nth (a.no) (k))))) rfl (by first | rfl | simp [ldV]) ?_
   refine R_fld_mp (o' := 1) t3 h3 (by first | rfl | simp [okB, Blk.own]) rfl ?_
   refine R_load_mp (v := (ints b.no)) (@rfl V (V.mp 3 1 0 1)) h3 (by first | rfl | simp [ldB, ldV, Blk.own, V.one]) ?_
   refine R_mv t6 ?_
   refine R_idx (i := k) (@rfl V (ints b.no)) (@rfl V (iV ((k : Nat) : Int))) (by omega) rfl ?_
   refine R_load_pp (v := (iV ((nth (b.no) (k))))) rfl (by first | rfl | simp [ldV]) ?_
   refine R_neq (x := ((nth (a.no) (k)))) (y := ((nth (b.no) (k)))) (@rfl V (iV ((nth (a.no) (k))))) (@rfl V (iV ((nth (b.no) (k))))) ?_
   exact R_nil ⟨t2, t3, t5, t6, rfl, h2, h3, trivial⟩
  intro T H ⟨t2, t3, t5, t6, t27, h2, h3, _⟩
  refine W_if (p := ((nth (a.no) (k))) ≠ ((nth (b.no) (k)))) t27 (fun c9 => ?_) (fun c9 => ?_)
  ·
   refine W_seq_regc (fun T H => T 4 = (iV ((k : Nat) : Int)) ∧ H 2 = (bk 1 70 2 [[(ints a.ni), (ints a.no)]]) ∧ H 3 = (bk 1 70 2 [[(ints b.ni), (ints b.no)]]) ∧ True) ?_ ?_
   ·
    unfold r79_6
    refine R_mv t6 ?_
    refine R_mv (@rfl V (iV ((k : Nat) : Int))) ?_
    exact R_nil ⟨rfl, h2, h3, trivial⟩
   intro T H ⟨t4, h2, h3, _⟩
   refine W_ret ?_
   refine y8 _ _ ?_
   refine p26 _ _ ?_
   refine y5 _ _ ?_
   refine Ret_1 t4 (fz_int ?_)
   · rw [hc, fi_hit (by simp only [dfE, decide_eq_true_eq]; omega) (by omega)]
  refine W_skip ?_
  refine n8 _ _ ?_
  refine .done ?_
  refine W_regc (fun T H => T 2 = (V.mp 2 1 0 0) ∧ T 3 = (V.mp 3 1 0 0) ∧ T 5 = (iV ((cmn a.ni b.ni : Nat) : Int)) ∧ T 6 = (iV ((k + 1 : Nat) : Int)) ∧ H 2 = (bk 1 70 2 [[(ints a.ni), (ints a.no)]]) ∧ H 3 = (bk 1 70 2 [[(ints b.ni), (ints b.no)]]) ∧ True) ?_ ?_
  ·
   unfold r79_4
   refine R_mv t6 ?_
   refine R_addN (m := k) (n := 1) (@rfl V (iV ((k : Nat) : Int))) (@rfl V (iV ((1 : Nat) : Int))) (by omega) ?_
   refine R_mv (@rfl V (iV ((k + 1 : Nat) : Int))) ?_
   exact R_nil ⟨t2, t3, t5, rfl, h2, h3, trivial⟩
  intro T H ⟨t2, t3, t5, t6, h2, h3, _⟩
  refine p16 _ _ _ ?_ ⟨(k + 1), rfl, t2, t3, t5, (Eq.trans t6 (by first | rfl | simp)), h2, h3, ?_, ?_⟩
  · omega
  · omega
  · rw [hc, fi_skip (by simp only [dfE, decide_eq_false_iff_not]; omega) (by omega)]
 refine W_seq_exit ?_
 refine p36 _ _ _ ?_
 refine x5 _ _ ?_
 refine .done ?_
 refine W_seq_regc (fun T H => T 4 = (iV (-1 : Int)) ∧ H 2 = (bk 1 70 2 [[(ints a.ni), (ints a.no)]]) ∧ H 3 = (bk 1 70 2 [[(ints b.ni), (ints b.no)]]) ∧ True) ?_ ?_
 ·
  unfold r79_7
  refine R_mv (@rfl V (iV (-1 : Int))) ?_
  exact R_nil ⟨rfl, h2, h3, trivial⟩
 intro T H ⟨t4, h2, h3, _⟩
 refine W_ret ?_
 refine Ret_1 t4 (fz_int ?_)
 · rw [hc, fi_end (by omega)]
end Go.Proofs.YtmnjchcoigbngaaGreat


namespace Go.Proofs.YtmnjchcoigbngaaGreat
open Go Go.Proofs
theorem rapart_pure (o : Ob) (hpl : ∀ k, k < o.tr.length → (nth o.tr k).no.length = (nth o.tr k).ni.length) : PureC Tryz.prog 47 [(V.agg [(iV (o.i)), (V.sl (List.map cT (o.tr)))])] (iV (fe (apE o) 0 o.tr.length)) := by
 refine pure_of_Wb true 6 Tryz.func47 s47_ok (by kernel_rfl) (by simp [s47]) (by simp) (by simp) fun hB => ?_
 simp only [bnd_map, bnd_int, bnd_bool, bnd_str, bnd_agg, bnd_pp, bnd_nil, bnd_cons, implies_true, and_true, true_and] at hB
 unfold s47
 dsimp only
 refine W_seq_regc (fun T H => T 1 = (V.mp 1 1 0 0) ∧ H 1 = (bk 1 37 2 [[(iV (o.i)), (V.sl (List.map cT (o.tr)))]]) ∧ True) ?_ ?_
 ·
  unfold r47_0
  refine R_box (i := 1) (n := 0) (m := 2) (cs := [(iV (o.i)), (V.sl (List.map cT (o.tr)))]) rfl (congrArg Blk.ver rfl) (@rfl V (V.agg [(iV (o.i)), (V.sl (List.map cT (o.tr)))])) rfl rfl ?_
  refine R_mv (@rfl V (iV (0 : Int))) ?_
  exact R_nil ⟨rfl, rfl, trivial⟩
 intro T H ⟨t1, h1, _⟩
 refine W_seq_seq ?_
 refine W_seq_regc (fun T H => T 1 = (V.mp 1 1 0 0) ∧ T 3 = (iV (0 : Int)) ∧ H 1 = (bk 1 37 2 [[(iV (o.i)), (V.sl (List.map cT (o.tr)))]]) ∧ True) ?_ ?_
 ·
  unfold r47_1
  refine R_mv (@rfl V (iV (0 : Int))) ?_
  exact R_nil ⟨t1, rfl, h1, trivial⟩
 intro T H ⟨t1, t3, h1, _⟩
 refine W_seq_blockg fun Q1 n1 x1 y1 z1 => ?_
 refine W_loop (fun mm T H => ∃ (k : Nat), mm = o.tr.length - k ∧ T 1 = (V.mp 1 1 0 0) ∧ T 3 = (iV ((k : Nat) : Int)) ∧ H 1 = (bk 1 37 2 [[(iV (o.i)), (V.sl (List.map cT (o.tr)))]]) ∧ (k ≤ o.tr.length) ∧ (fe (apE o) 0 o.tr.length = fe (apE o) k (o.tr.length - k))) ?_ ?_
 ·
  refine ⟨_, 0, rfl, t1, (Eq.trans t3 (by first | rfl | simp)), h1, ?_, ?_⟩
  · omega
  · rfl
 intro mm T H ⟨k, hmm, t1, t3, h1, hk, hc⟩ Q2 p12 p22 p32
 unfold b47_0
 refine W_seq_seq ?_
 refine W_seq_regc (fun T H => T 1 = (V.mp 1 1 0 0) ∧ T 3 = (iV ((k : Nat) : Int)) ∧ T 11 = (V.bool (decide (((k : Nat) : Int) < ((o.tr.length : Nat) : Int)))) ∧ H 1 = (bk 1 37 2 [[(iV (o.i)), (V.sl (List.map cT (o.tr)))]]) ∧ True) ?_ ?_
 ·
  unfold r47_2
  refine R_mv t3 ?_
  refine R_fld_mp (o' := 1) t1 h1 (by first | rfl | simp [okB, Blk.own]) rfl ?_
  refine R_load_mp (v := (V.sl (List.map cT (o.tr)))) (@rfl V (V.mp 1 1 0 1)) h1 (by first | rfl | simp [ldB, ldV, Blk.own, V.one]) ?_
  refine R_len (@rfl V (V.sl (List.map cT (o.tr)))) ?_
  refine R_lss (x := ((k : Nat) : Int)) (y := ((o.tr.length : Nat) : Int)) (@rfl V (iV ((k : Nat) : Int))) (@rfl V (iV ((o.tr.length : Nat) : Int))) ?_
  exact R_nil ⟨t1, t3, rfl, h1, trivial⟩
 intro T H ⟨t1, t3, t11, h1, _⟩
 refine W_seq_if (p := ((k : Nat) : Int) < ((o.tr.length : Nat) : Int)) t11 (fun c3 => ?_) (fun c3 => ?_)
 ·
  refine W_seq_skip ?_
  refine W_seq_blockg fun Q4 n4 x4 y4 z4 => ?_
  refine W_seq_regc (fun T H => T 1 = (V.mp 1 1 0 0) ∧ T 3 = (iV ((k : Nat) : Int)) ∧ T 4 = (V.bool false) ∧ T 5 = (V.bool false) ∧ H 1 = (bk 1 37 2 [[(iV (o.i)), (V.sl (List.map cT (o.tr)))]]) ∧ True) ?_ ?_
  ·
   unfold r47_4
   refine R_mv (@rfl V (V.bool false)) ?_
   refine R_mv (@rfl V (V.bool false)) ?_
   exact R_nil ⟨t1, t3, rfl, rfl, h1, trivial⟩
  intro T H ⟨t1, t3, t4, t5, h1, _⟩
  refine W_seq_seq ?_
  refine W_seq_regc (fun T H => T 1 = (V.mp 1 1 0 0) ∧ T 3 = (iV ((k : Nat) : Int)) ∧ T 4 = (V.bool false) ∧ T 5 = (V.bool false) ∧ T 6 = (iV ((k + 1 : Nat) : Int)) ∧ H 1 = (bk 1 37 2 [[(iV (o.i)), (V.sl (List.map cT (o.tr)))]]) ∧ True) ?_ ?_
  ·
   unfold r47_5
   refine R_mv t3 ?_
   refine R_addN (m := k) (n := 1) (@rfl V (iV ((k : Nat) : Int))) (@rfl V (iV ((1 : Nat) : Int))) (by omega) ?_
   refine R_mv (@rfl V (iV ((k + 1 : Nat) : Int))) ?_
   exact R_nil ⟨t1, t3, t4, t5, rfl, h1, trivial⟩
  intro T H ⟨t1, t3, t4, t5, t6, h1, _⟩
  refine W_seq_blockg fun Q5 n5 x5 y5 z5 => ?_
  refine W_loop (fun mm T H => ∃ (j : Nat), mm = o.tr.length - (k + 1 + j) ∧ T 1 = (V.mp 1 1 0 0) ∧ T 3 = (iV ((k : Nat) : Int)) ∧ T 4 = (V.bool (exB (preB o k) (k + 1) j)) ∧ T 5 = (V.bool (exB (claB o k) (k + 1) j)) ∧ T 6 = (iV ((k + 1 + j : Nat) : Int)) ∧ H 1 = (bk 1 37 2 [[(iV (o.i)), (V.sl (List.map cT (o.tr)))]]) ∧ (k + 1 + j ≤ o.tr.length)) ?_ ?_
  ·
   refine ⟨_, 0, rfl, t1, t3, (Eq.trans t4 (by first | rfl | simp)), (Eq.trans t5 (by first | rfl | simp)), (Eq.trans t6 (by first | rfl | simp)), h1, ?_⟩
   · omega
  intro mm T H ⟨j, hmm, t1, t3, t4, t5, t6, h1, hj⟩ Q6 p16 p26 p36
  unfold b47_1
  refine W_seq_seq ?_
  refine W_seq_regc (fun T H => T 1 = (V.mp 1 1 0 0) ∧ T 3 = (iV ((k : Nat) : Int)) ∧ T 4 = (V.bool (exB (preB o k) (k + 1) j)) ∧ T 5 = (V.bool (exB (claB o k) (k + 1) j)) ∧ T 6 = (iV ((k + 1 + j : Nat) : Int)) ∧ T 20 = (V.bool (decide (((k + 1 + j : Nat) : Int) < ((o.tr.length : Nat) : Int)))) ∧ H 1 = (bk 1 37 2 [[(iV (o.i)), (V.sl (List.map cT (o.tr)))]]) ∧ True) ?_ ?_
  ·
   unfold r47_6
   refine R_mv t6 ?_
   refine R_fld_mp (o' := 1) t1 h1 (by first | rfl | simp [okB, Blk.own]) rfl ?_
   refine R_load_mp (v := (V.sl (List.map cT (o.tr)))) (@rfl V (V.mp 1 1 0 1)) h1 (by first | rfl | simp [ldB, ldV, Blk.own, V.one]) ?_
   refine R_len (@rfl V (V.sl (List.map cT (o.tr)))) ?_
   refine R_lss (x := ((k + 1 + j : Nat) : Int)) (y := ((o.tr.length : Nat) : Int)) (@rfl V (iV ((k + 1 + j : Nat) : Int))) (@rfl V (iV ((o.tr.length : Nat) : Int))) ?_
   exact R_nil ⟨t1, t3, t4, t5, t6, rfl, h1, trivial⟩
  intro T H ⟨t1, t3, t4, t5, t6, t20, h1, _⟩
  refine W_seq_if (p := ((k + 1 + j : Nat) : Int) < ((o.tr.length : Nat) : Int)) t20 (fun c7 => ?_) (fun c7 => ?_)
  ·
   refine W_seq_skip ?_
   refine W_seq_blockg fun Q8 n8 x8 y8 z8 => ?_
   refine W_seq_regc (fun T H => T 1 = (V.mp 1 1 0 0) ∧ T 3 = (iV ((k : Nat) : Int)) ∧ T 4 = (V.bool (((exB (preB o k) (k + 1) j) || (hp ((nth (o.tr) (k + 1 + j)).ni) ((nth (o.tr) (k)).ni))))) ∧ T 5 = (V.bool (exB (claB o k) (k + 1) j)) ∧ T 6 = (iV ((k + 1 + j : Nat) : Int)) ∧ H 1 = (bk 1 37 2 [[(iV (o.i)), (V.sl (List.map cT (o.tr)))]]) ∧ True) ?_ ?_
   ·
    unfold r47_8
    refine R_mv t4 ?_
    refine R_mv (@rfl V (V.bool (exB (preB o k) (k + 1) j))) ?_
    refine Ops_seg 14 (fun T H => T 1 = (V.mp 1 1 0 0) ∧ T 3 = (iV ((k : Nat) : Int)) ∧ T 4 = (V.bool (exB (preB o k) (k + 1) j)) ∧ T 5 = (V.bool (exB (claB o k) (k + 1) j)) ∧ T 6 = (iV ((k + 1 + j : Nat) : Int)) ∧ T 38 = (V.bool (((exB (preB o k) (k + 1) j) || (hp ((nth (o.tr) (k + 1 + j)).ni) ((nth (o.tr) (k)).ni))))) ∧ H 1 = (bk 1 37 2 [[(iV (o.i)), (V.sl (List.map cT (o.tr)))]]) ∧ True) ?_ ?_
    ·
     by_cases g9 : (exB (preB o k) (k + 1) j) = true
     ·
      refine G_no (Eq.trans (@rfl V (V.bool (exB (preB o k) (k + 1) j))) (bbT g9)) (by decide) ?_
      refine G_no (Eq.trans (@rfl V (V.bool (exB (preB o k) (k + 1) j))) (bbT g9)) (by decide) ?_
      refine G_no (Eq.trans (@rfl V (V.bool (exB (preB o k) (k + 1) j))) (bbT g9)) (by decide) ?_
      refine G_no (Eq.trans (@rfl V (V.bool (exB (preB o k) (k + 1) j))) (bbT g9)) (by decide) ?_
      refine G_no (Eq.trans (@rfl V (V.bool (exB (preB o k) (k + 1) j))) (bbT g9)) (by decide) ?_
      refine G_no (Eq.trans (@rfl V (V.bool (exB (preB o k) (k + 1) j))) (bbT g9)) (by decide) ?_
      refine G_no (Eq.trans (@rfl V (V.bool (exB (preB o k) (k + 1) j))) (bbT g9)) (by decide) ?_
      refine G_no (Eq.trans (@rfl V (V.bool (exB (preB o k) (k + 1) j))) (bbT g9)) (by decide) ?_
      refine G_no (Eq.trans (@rfl V (V.bool (exB (preB o k) (k + 1) j))) (bbT g9)) (by decide) ?_
      refine G_no (Eq.trans (@rfl V (V.bool (exB (preB o k) (k + 1) j))) (bbT g9)) (by decide) ?_
      refine G_no (Eq.trans (@rfl V (V.bool (exB (preB o k) (k + 1) j))) (bbT g9)) (by decide) ?_
      refine G_no (Eq.trans (@rfl V (V.bool (exB (preB o k) (k + 1) j))) (bbT g9)) (by decide) ?_
      refine G_no (Eq.trans (@rfl V (V.bool (exB (preB o k) (k + 1) j))) (bbT g9)) (by decide) ?_
      refine R_pickT (Eq.trans (@rfl V (V.bool (exB (preB o k) (k + 1) j))) (bbT g9)) (@rfl V (V.bool true)) ?_
      exact ⟨t1, t3, t4, t5, t6, (Eq.trans (@rfl V (V.bool true)) (borT g9)), h1, trivial⟩
     ·
      refine G_yes (Eq.trans (@rfl V (V.bool (exB (preB o k) (k + 1) j))) (bbF g9)) ?_
      refine R_fld_mp (o' := 1) t1 h1 (by first | rfl | simp [okB, Blk.own]) rfl ?_
      refine G_yes (Eq.trans (@rfl V (V.bool (exB (preB o k) (k + 1) j))) (bbF g9)) ?_
      refine R_load_mp (v := (V.sl (List.map cT (o.tr)))) (@rfl V (V.mp 1 1 0 1)) h1 (by first | rfl | simp [ldB, ldV, Blk.own, V.one]) ?_
      refine G_yes (Eq.trans (@rfl V (V.bool (exB (preB o k) (k + 1) j))) (bbF g9)) ?_
      refine R_mv t6 ?_
      refine G_yes (Eq.trans (@rfl V (V.bool (exB (preB o k) (k + 1) j))) (bbF g9)) ?_
      refine R_idx (i := (k + 1 + j)) (@rfl V (V.sl (List.map cT (o.tr)))) (@rfl V (iV ((k + 1 + j : Nat) : Int))) (by omega) rfl ?_
      refine G_yes (Eq.trans (@rfl V (V.bool (exB (preB o k) (k + 1) j))) (bbF g9)) ?_
      refine R_fld_pp (cs' := [(ints ((nth (o.tr) (k + 1 + j)).ni)), (ints ((nth (o.tr) (k + 1 + j)).no))]) rfl rfl ?_
      refine G_yes (Eq.trans (@rfl V (V.bool (exB (preB o k) (k + 1) j))) (bbF g9)) ?_
      refine R_load_pp (v := (ints ((nth (o.tr) (k + 1 + j)).ni))) rfl (by first | rfl | simp [ldV]) ?_
      refine G_yes (Eq.trans (@rfl V (V.bool (exB (preB o k) (k + 1) j))) (bbF g9)) ?_
      refine R_fld_mp (o' := 1) t1 h1 (by first | rfl | simp [okB, Blk.own]) rfl ?_
      refine G_yes (Eq.trans (@rfl V (V.bool (exB (preB o k) (k + 1) j))) (bbF g9)) ?_
      refine R_load_mp (v := (V.sl (List.map cT (o.tr)))) (@rfl V (V.mp 1 1 0 1)) h1 (by first | rfl | simp [ldB, ldV, Blk.own, V.one]) ?_
      refine G_yes (Eq.trans (@rfl V (V.bool (exB (preB o k) (k + 1) j))) (bbF g9)) ?_
      refine R_mv t3 ?_
      refine G_yes (Eq.trans (@rfl V (V.bool (exB (preB o k) (k + 1) j))) (bbF g9)) ?_
      refine R_idx (i := k) (@rfl V (V.sl (List.map cT (o.tr)))) (@rfl V (iV ((k : Nat) : Int))) (by omega) rfl ?_
      refine G_yes (Eq.trans (@rfl V (V.bool (exB (preB o k) (k + 1) j))) (bbF g9)) ?_
      refine R_fld_pp (cs' := [(ints ((nth (o.tr) (k)).ni)), (ints ((nth (o.tr) (k)).no))]) rfl rfl ?_
      refine G_yes (Eq.trans (@rfl V (V.bool (exB (preB o k) (k + 1) j))) (bbF g9)) ?_
      refine R_load_pp (v := (ints ((nth (o.tr) (k)).ni))) rfl (by first | rfl | simp [ldV]) ?_
      refine G_yes (Eq.trans (@rfl V (V.bool (exB (preB o k) (k + 1) j))) (bbF g9)) ?_
      refine R_callc (evcons (@rfl V (ints ((nth (o.tr) (k + 1 + j)).ni))) (evcons (@rfl V (ints ((nth (o.tr) (k)).ni))) evnil)) (rhp_pure ((nth (o.tr) (k + 1 + j)).ni) ((nth (o.tr) (k)).ni)) ?_
      refine R_pickF (Eq.trans (@rfl V (V.bool (exB (preB o k) (k + 1) j))) (bbF g9)) (@rfl V (V.bool (hp ((nth (o.tr) (k + 1 + j)).ni) ((nth (o.tr) (k)).ni)))) ?_
      exact ⟨t1, t3, t4, t5, t6, (Eq.trans (@rfl V (V.bool (hp ((nth (o.tr) (k + 1 + j)).ni) ((nth (o.tr) (k)).ni)))) (borF g9)), h1, trivial⟩
    intro T H ⟨t1, t3, t4, t5, t6, t38, h1, _⟩
    refine R_mv t38 ?_
    exact R_nil ⟨t1, t3, rfl, t5, t6, h1, trivial⟩
   intro T H ⟨t1, t3, t4, t5, t6, h1, _⟩
   refine W_regc (fun T H => T 1 = (V.mp 1 1 0 0) ∧ T 3 = (iV ((k : Nat) : Int)) ∧ T 4 = (V.bool (((exB (preB o k) (k + 1) j) || (hp ((nth (o.tr) (k + 1 + j)).ni) ((nth (o.tr) (k)).ni))))) ∧ T 5 = (V.bool (((exB (claB o k) (k + 1) j) || decide ((0 : Int) ≤ (df ((nth (o.tr) (k))) ((nth (o.tr) (k + 1 + j)))))))) ∧ T 6 = (iV ((k + 1 + j : Nat) : Int)) ∧ H 1 = (bk 1 37 2 [[(iV (o.i)), (V.sl (List.map cT (o.tr)))]]) ∧ True) ?_ ?_
   ·
    unfold r47_9
    refine R_mv t5 ?_
    refine R_mv (@rfl V (V.bool (exB (claB o k) (k + 1) j))) ?_
    refine Ops_seg 13 (fun T H => T 1 = (V.mp 1 1 0 0) ∧ T 3 = (iV ((k : Nat) : Int)) ∧ T 4 = (V.bool (((exB (preB o k) (k + 1) j) || (hp ((nth (o.tr) (k + 1 + j)).ni) ((nth (o.tr) (k)).ni))))) ∧ T 5 = (V.bool (exB (claB o k) (k + 1) j)) ∧ T 6 = (iV ((k + 1 + j : Nat) : Int)) ∧ T 53 = (V.bool (((exB (claB o k) (k + 1) j) || decide ((0 : Int) ≤ (df ((nth (o.tr) (k))) ((nth (o.tr) (k + 1 + j)))))))) ∧ H 1 = (bk 1 37 2 [[(iV (o.i)), (V.sl (List.map cT (o.tr)))]]) ∧ True) ?_ ?_
    ·
     by_cases g10 : (exB (claB o k) (k + 1) j) = true
     ·
      refine G_no (Eq.trans (@rfl V (V.bool (exB (claB o k) (k + 1) j))) (bbT g10)) (by decide) ?_
      refine G_no (Eq.trans (@rfl V (V.bool (exB (claB o k) (k + 1) j))) (bbT g10)) (by decide) ?_
      refine G_no (Eq.trans (@rfl V (V.bool (exB (claB o k) (k + 1) j))) (bbT g10)) (by decide) ?_
      refine G_no (Eq.trans (@rfl V (V.bool (exB (claB o k) (k + 1) j))) (bbT g10)) (by decide) ?_
      refine G_no (Eq.trans (@rfl V (V.bool (exB (claB o k) (k + 1) j))) (bbT g10)) (by decide) ?_
      refine G_no (Eq.trans (@rfl V (V.bool (exB (claB o k) (k + 1) j))) (bbT g10)) (by decide) ?_
      refine G_no (Eq.trans (@rfl V (V.bool (exB (claB o k) (k + 1) j))) (bbT g10)) (by decide) ?_
      refine G_no (Eq.trans (@rfl V (V.bool (exB (claB o k) (k + 1) j))) (bbT g10)) (by decide) ?_
      refine G_no (Eq.trans (@rfl V (V.bool (exB (claB o k) (k + 1) j))) (bbT g10)) (by decide) ?_
      refine G_no (Eq.trans (@rfl V (V.bool (exB (claB o k) (k + 1) j))) (bbT g10)) (by decide) ?_
      refine G_no (Eq.trans (@rfl V (V.bool (exB (claB o k) (k + 1) j))) (bbT g10)) (by decide) ?_
      refine G_no (Eq.trans (@rfl V (V.bool (exB (claB o k) (k + 1) j))) (bbT g10)) (by decide) ?_
      refine R_pickT (Eq.trans (@rfl V (V.bool (exB (claB o k) (k + 1) j))) (bbT g10)) (@rfl V (V.bool true)) ?_
      exact ⟨t1, t3, t4, t5, t6, (Eq.trans (@rfl V (V.bool true)) (borT g10)), h1, trivial⟩
     ·
      refine G_yes (Eq.trans (@rfl V (V.bool (exB (claB o k) (k + 1) j))) (bbF g10)) ?_
      refine R_fld_mp (o' := 1) t1 h1 (by first | rfl | simp [okB, Blk.own]) rfl ?_
      refine G_yes (Eq.trans (@rfl V (V.bool (exB (claB o k) (k + 1) j))) (bbF g10)) ?_
      refine R_load_mp (v := (V.sl (List.map cT (o.tr)))) (@rfl V (V.mp 1 1 0 1)) h1 (by first | rfl | simp [ldB, ldV, Blk.own, V.one]) ?_
      refine G_yes (Eq.trans (@rfl V (V.bool (exB (claB o k) (k + 1) j))) (bbF g10)) ?_
      refine R_mv t3 ?_
      refine G_yes (Eq.trans (@rfl V (V.bool (exB (claB o k) (k + 1) j))) (bbF g10)) ?_
      refine R_idx (i := k) (@rfl V (V.sl (List.map cT (o.tr)))) (@rfl V (iV ((k : Nat) : Int))) (by omega) rfl ?_
      refine G_yes (Eq.trans (@rfl V (V.bool (exB (claB o k) (k + 1) j))) (bbF g10)) ?_
      refine R_load_pp (v := (V.agg [(ints ((nth (o.tr) (k)).ni)), (ints ((nth (o.tr) (k)).no))])) rfl (by first | rfl | simp [ldV]) ?_
      refine G_yes (Eq.trans (@rfl V (V.bool (exB (claB o k) (k + 1) j))) (bbF g10)) ?_
      refine R_fld_mp (o' := 1) t1 h1 (by first | rfl | simp [okB, Blk.own]) rfl ?_
      refine G_yes (Eq.trans (@rfl V (V.bool (exB (claB o k) (k + 1) j))) (bbF g10)) ?_
      refine R_load_mp (v := (V.sl (List.map cT (o.tr)))) (@rfl V (V.mp 1 1 0 1)) h1 (by first | rfl | simp [ldB, ldV, Blk.own, V.one]) ?_
      refine G_yes (Eq.trans (@rfl V (V.bool (exB (claB o k) (k + 1) j))) (bbF g10)) ?_
      refine R_mv t6 ?_
      refine G_yes (Eq.trans (@rfl V (V.bool (exB (claB o k) (k + 1) j))) (bbF g10)) ?_
      refine R_idx (i := (k + 1 + j)) (@rfl V (V.sl (List.map cT (o.tr)))) (@rfl V (iV ((k + 1 + j : Nat) : Int))) (by omega) rfl ?_
      refine G_yes (Eq.trans (@rfl V (V.bool (exB (claB o k) (k + 1) j))) (bbF g10)) ?_
      refine R_load_pp (v := (V.agg [(ints ((nth (o.tr) (k + 1 + j)).ni)), (ints ((nth (o.tr) (k + 1 + j)).no))])) rfl (by first | rfl | simp [ldV]) ?_
      refine G_yes (Eq.trans (@rfl V (V.bool (exB (claB o k) (k + 1) j))) (bbF g10)) ?_
      refine R_callc (evcons (@rfl V (V.agg [(ints ((nth (o.tr) (k)).ni)), (ints ((nth (o.tr) (k)).no))])) (evcons (@rfl V (V.agg [(ints ((nth (o.tr) (k + 1 + j)).ni)), (ints ((nth (o.tr) (k + 1 + j)).no))])) evnil)) (rdiffer_pure ((nth (o.tr) (k))) ((nth (o.tr) (k + 1 + j))) (hpl k (by omega)) (hpl (k + 1 + j) (by omega))) ?_
      refine G_yes (Eq.trans (@rfl V (V.bool (exB (claB o k) (k + 1) j))) (bbF g10)) ?_
      refine R_geq (x := (df ((nth (o.tr) (k))) ((nth (o.tr) (k + 1 + j))))) (y := (0 : Int)) (@rfl V (iV (df ((nth (o.tr) (k))) ((nth (o.tr) (k + 1 + j)))))) (@rfl V (iV (0 : Int))) ?_
      refine R_pickF (Eq.trans (@rfl V (V.bool (exB (claB o k) (k + 1) j))) (bbF g10)) (@rfl V (V.bool (decide ((0 : Int) ≤ (df ((nth (o.tr) (k))) ((nth (o.tr) (k + 1 + j)))))))) ?_
      exact ⟨t1, t3, t4, t5, t6, (Eq.trans (@rfl V (V.bool (decide ((0 : Int) ≤ (df ((nth (o.tr) (k))) ((nth (o.tr) (k + 1 + j)))))))) (borF g10)), h1, trivial⟩
    intro T H ⟨t1, t3, t4, t5, t6, t53, h1, _⟩
    refine R_mv t53 ?_
    exact R_nil ⟨t1, t3, t4, rfl, t6, h1, trivial⟩
   intro T H ⟨t1, t3, t4, t5, t6, h1, _⟩
   refine n8 _ _ ?_
   refine .done ?_
   refine W_regc (fun T H => T 1 = (V.mp 1 1 0 0) ∧ T 3 = (iV ((k : Nat) : Int)) ∧ T 4 = (V.bool (((exB (preB o k) (k + 1) j) || (hp ((nth (o.tr) (k + 1 + j)).ni) ((nth (o.tr) (k)).ni))))) ∧ T 5 = (V.bool (((exB (claB o k) (k + 1) j) || decide ((0 : Int) ≤ (df ((nth (o.tr) (k))) ((nth (o.tr) (k + 1 + j)))))))) ∧ T 6 = (iV ((k + 1 + j + 1 : Nat) : Int)) ∧ H 1 = (bk 1 37 2 [[(iV (o.i)), (V.sl (List.map cT (o.tr)))]]) ∧ True) ?_ ?_
   ·
    unfold r47_7
    refine R_mv t6 ?_
    refine R_addN (m := (k + 1 + j)) (n := 1) (@rfl V (iV ((k + 1 + j : Nat) : Int))) (@rfl V (iV ((1 : Nat) : Int))) (by omega) ?_
    refine R_mv (@rfl V (iV ((k + 1 + j + 1 : Nat) : Int))) ?_
    exact R_nil ⟨t1, t3, t4, t5, rfl, h1, trivial⟩
   intro T H ⟨t1, t3, t4, t5, t6, h1, _⟩
   refine p16 _ _ _ ?_ ⟨j + 1, rfl, t1, t3, (Eq.trans t4 (by first | rfl | simp)), (Eq.trans t5 (by first | rfl | simp)), (Eq.trans t6 (by first | rfl | simp)), h1, ?_⟩
   · omega
   · omega
  refine W_seq_exit ?_
  refine p36 _ _ _ ?_
  refine x5 _ _ ?_
  refine .done ?_
  refine W_seq_seq ?_
  refine W_seq_regc (fun T H => T 1 = (V.mp 1 1 0 0) ∧ T 3 = (iV ((k : Nat) : Int)) ∧ T 5 = (V.bool (exB (claB o k) (k + 1) j)) ∧ T 54 = (V.bool (exB (preB o k) (k + 1) j)) ∧ H 1 = (bk 1 37 2 [[(iV (o.i)), (V.sl (List.map cT (o.tr)))]]) ∧ True) ?_ ?_
  ·
   unfold r47_10
   refine R_mv t4 ?_
   exact R_nil ⟨t1, t3, t5, rfl, h1, trivial⟩
  intro T H ⟨t1, t3, t5, t54, h1, _⟩
  refine W_seq_ifb t54 (fun c11 => ?_) (fun c11 => ?_)
  ·
   have d1 := c11
   refine W_seq_seq ?_
   refine W_seq_regc (fun T H => T 2 = (iV (7 : Int)) ∧ H 1 = (bk 1 37 2 [[(iV (o.i)), (V.sl (List.map cT (o.tr)))]]) ∧ True) ?_ ?_
   ·
    unfold r47_11
    refine R_mv (@rfl V (iV (7 : Int))) ?_
    exact R_nil ⟨rfl, h1, trivial⟩
   intro T H ⟨t2, h1, _⟩
   refine W_seq_ret ?_
   refine y4 _ _ ?_
   refine p22 _ _ ?_
   refine y1 _ _ ?_
   refine Ret_1 t2 (fz_int ?_)
   · have e : j = o.tr.length - (k + 1) := by omega
     subst e
     rw [hc, fe_hit (by rw [apE, if_pos d1]; decide) (by omega), apE, if_pos d1]
  have d1 := c11
  refine W_seq_skip ?_
  refine W_seq_regc (fun T H => T 1 = (V.mp 1 1 0 0) ∧ T 3 = (iV ((k : Nat) : Int)) ∧ T 55 = (V.bool (exB (claB o k) (k + 1) j)) ∧ H 1 = (bk 1 37 2 [[(iV (o.i)), (V.sl (List.map cT (o.tr)))]]) ∧ True) ?_ ?_
  ·
   unfold r47_12
   refine R_mv t5 ?_
   exact R_nil ⟨t1, t3, rfl, h1, trivial⟩
  intro T H ⟨t1, t3, t55, h1, _⟩
  refine W_ifb t55 (fun c12 => ?_) (fun c12 => ?_)
  ·
   have d2 := c12
   refine W_seq_regc (fun T H => T 2 = (iV (13 : Int)) ∧ H 1 = (bk 1 37 2 [[(iV (o.i)), (V.sl (List.map cT (o.tr)))]]) ∧ True) ?_ ?_
   ·
    unfold r47_13
    refine R_mv (@rfl V (iV (13 : Int))) ?_
    exact R_nil ⟨rfl, h1, trivial⟩
   intro T H ⟨t2, h1, _⟩
   refine W_ret ?_
   refine y4 _ _ ?_
   refine p22 _ _ ?_
   refine y1 _ _ ?_
   refine Ret_1 t2 (fz_int ?_)
   · have e : j = o.tr.length - (k + 1) := by omega
     subst e
     rw [hc, fe_hit (by rw [apE, if_neg (by simp [d1]), if_pos d2]; decide) (by omega), apE, if_neg (by simp [d1]), if_pos d2]
  have d2 := c12
  refine W_skip ?_
  refine n4 _ _ ?_
  refine .done ?_
  refine W_regc (fun T H => T 1 = (V.mp 1 1 0 0) ∧ T 3 = (iV ((k + 1 : Nat) : Int)) ∧ H 1 = (bk 1 37 2 [[(iV (o.i)), (V.sl (List.map cT (o.tr)))]]) ∧ True) ?_ ?_
  ·
   unfold r47_3
   refine R_mv t3 ?_
   refine R_addN (m := k) (n := 1) (@rfl V (iV ((k : Nat) : Int))) (@rfl V (iV ((1 : Nat) : Int))) (by omega) ?_
   refine R_mv (@rfl V (iV ((k + 1 : Nat) : Int))) ?_
   exact R_nil ⟨t1, rfl, h1, trivial⟩
  intro T H ⟨t1, t3, h1, _⟩
  refine p12 _ _ _ ?_ ⟨(k + 1), rfl, t1, (Eq.trans t3 (by first | rfl | simp)), h1, ?_, ?_⟩
  · omega
  · omega
  · have e : j = o.tr.length - (k + 1) := by omega
    subst e
    rw [hc, fe_skip (by rw [apE, if_neg (by simp [d1]), if_neg (by simp [d2])]) (by omega)]
 refine W_seq_exit ?_
 refine p32 _ _ _ ?_
 refine x1 _ _ ?_
 refine .done ?_
 refine W_seq_regc (fun T H => T 2 = (iV (0 : Int)) ∧ H 1 = (bk 1 37 2 [[(iV (o.i)), (V.sl (List.map cT (o.tr)))]]) ∧ True) ?_ ?_
 ·
  unfold r47_14
  refine R_mv (@rfl V (iV (0 : Int))) ?_
  exact R_nil ⟨rfl, h1, trivial⟩
 intro T H ⟨t2, h1, _⟩
 refine W_ret ?_
 refine Ret_1 t2 (fz_int ?_)
 · rw [hc, fe_end (by omega)]
end Go.Proofs.YtmnjchcoigbngaaGreat


namespace Go.Proofs.YtmnjchcoigbngaaGreat
open Go Go.Proofs
theorem roval_pure (o : Ob) : PureC Tryz.prog 19 [(V.agg [(iV (o.i)), (V.sl (List.map cT (o.tr)))])] (iV (oval o)) := by
 refine pure_of_Wb true 6 Tryz.func19 s19_ok (by kernel_rfl) (by simp [s19]) (by simp) (by simp) fun hB => ?_
 simp only [bnd_map, bnd_int, bnd_bool, bnd_str, bnd_agg, bnd_pp, bnd_nil, bnd_cons, implies_true, and_true, true_and] at hB
 unfold s19
 dsimp only
 refine W_seq_regc (fun T H => T 1 = (V.mp 1 1 0 0) ∧ H 1 = (bk 1 37 2 [[(iV (o.i)), (V.sl (List.map cT (o.tr)))]]) ∧ H 4 = (⟨0, false, false, 0, 0, []⟩ : Blk) ∧ True) ?_ ?_
 ·
  unfold r19_0
  refine R_box (i := 1) (n := 0) (m := 2) (cs := [(iV (o.i)), (V.sl (List.map cT (o.tr)))]) rfl (congrArg Blk.ver rfl) (@rfl V (V.agg [(iV (o.i)), (V.sl (List.map cT (o.tr)))])) rfl rfl ?_
  refine R_mv (@rfl V (iV (0 : Int))) ?_
  exact R_nil ⟨rfl, rfl, rfl, trivial⟩
 intro T H ⟨t1, h1, h4, _⟩
 refine W_seq_seq ?_
 refine W_seq_regc (fun T H => T 1 = (V.mp 1 1 0 0) ∧ T 14 = (V.bool (decide (((o.i) < (1 : Int)) ∨ ((64 : Int) < (o.i))))) ∧ H 1 = (bk 1 37 2 [[(iV (o.i)), (V.sl (List.map cT (o.tr)))]]) ∧ H 4 = (⟨0, false, false, 0, 0, []⟩ : Blk) ∧ True) ?_ ?_
 ·
  unfold r19_1
  refine R_fld_mp (o' := 0) t1 h1 (by first | rfl | simp [okB, Blk.own]) rfl ?_
  refine R_load_mp (v := (iV (o.i))) (@rfl V (V.mp 1 1 0 0)) h1 (by first | rfl | simp [ldB, ldV, Blk.own, V.one]) ?_
  refine R_lss (x := (o.i)) (y := (1 : Int)) (@rfl V (iV (o.i))) (@rfl V (iV (1 : Int))) ?_
  refine R_mv (@rfl V (V.bool (decide ((o.i) < (1 : Int))))) ?_
  refine Ops_seg 4 (fun T H => T 1 = (V.mp 1 1 0 0) ∧ T 14 = (V.bool (decide (((o.i) < (1 : Int)) ∨ ((64 : Int) < (o.i))))) ∧ H 1 = (bk 1 37 2 [[(iV (o.i)), (V.sl (List.map cT (o.tr)))]]) ∧ H 4 = (⟨0, false, false, 0, 0, []⟩ : Blk) ∧ True) ?_ ?_
  ·
   by_cases g1 : (o.i) < (1 : Int)
   ·
    refine G_no (Eq.trans (@rfl V (V.bool (decide ((o.i) < (1 : Int))))) (bdT g1)) (by decide) ?_
    refine G_no (Eq.trans (@rfl V (V.bool (decide ((o.i) < (1 : Int))))) (bdT g1)) (by decide) ?_
    refine G_no (Eq.trans (@rfl V (V.bool (decide ((o.i) < (1 : Int))))) (bdT g1)) (by decide) ?_
    refine R_pickT (Eq.trans (@rfl V (V.bool (decide ((o.i) < (1 : Int))))) (bdT g1)) (@rfl V (V.bool true)) ?_
    exact ⟨t1, (Eq.trans (@rfl V (V.bool true)) (dec_orT g1)), h1, h4, trivial⟩
   ·
    refine G_yes (Eq.trans (@rfl V (V.bool (decide ((o.i) < (1 : Int))))) (bdF g1)) ?_
    refine R_fld_mp (o' := 0) t1 h1 (by first | rfl | simp [okB, Blk.own]) rfl ?_
    refine G_yes (Eq.trans (@rfl V (V.bool (decide ((o.i) < (1 : Int))))) (bdF g1)) ?_
    refine R_load_mp (v := (iV (o.i))) (@rfl V (V.mp 1 1 0 0)) h1 (by first | rfl | simp [ldB, ldV, Blk.own, V.one]) ?_
    refine G_yes (Eq.trans (@rfl V (V.bool (decide ((o.i) < (1 : Int))))) (bdF g1)) ?_
    refine R_gtr (x := (o.i)) (y := (64 : Int)) (@rfl V (iV (o.i))) (@rfl V (iV (64 : Int))) ?_
    refine R_pickF (Eq.trans (@rfl V (V.bool (decide ((o.i) < (1 : Int))))) (bdF g1)) (@rfl V (V.bool (decide ((64 : Int) < (o.i))))) ?_
    exact ⟨t1, (Eq.trans (@rfl V (V.bool (decide ((64 : Int) < (o.i))))) (dec_orF g1)), h1, h4, trivial⟩
  intro T H ⟨t1, t14, h1, h4, _⟩
  exact R_nil ⟨t1, t14, h1, h4, trivial⟩
 intro T H ⟨t1, t14, h1, h4, _⟩
 refine W_seq_if (p := ((o.i) < (1 : Int)) ∨ ((64 : Int) < (o.i))) t14 (fun c2 => ?_) (fun c2 => ?_)
 ·
  refine W_seq_seq ?_
  refine W_seq_regc (fun T H => T 2 = (iV (2 : Int)) ∧ H 1 = (bk 1 37 2 [[(iV (o.i)), (V.sl (List.map cT (o.tr)))]]) ∧ H 4 = (⟨0, false, false, 0, 0, []⟩ : Blk) ∧ True) ?_ ?_
  ·
   unfold r19_2
   refine R_mv (@rfl V (iV (2 : Int))) ?_
   exact R_nil ⟨rfl, h1, h4, trivial⟩
  intro T H ⟨t2, h1, h4, _⟩
  refine W_seq_ret ?_
  refine Ret_1 t2 (fz_int ?_)
  · rw [oval, if_pos (by omega)]
 refine W_seq_skip ?_
 refine W_seq_seq ?_
 refine W_seq_regc (fun T H => T 1 = (V.mp 1 1 0 0) ∧ T 18 = (V.bool (decide ((10000 : Int) < ((o.tr.length : Nat) : Int)))) ∧ H 1 = (bk 1 37 2 [[(iV (o.i)), (V.sl (List.map cT (o.tr)))]]) ∧ H 4 = (⟨0, false, false, 0, 0, []⟩ : Blk) ∧ True) ?_ ?_
 ·
  unfold r19_3
  refine R_fld_mp (o' := 1) t1 h1 (by first | rfl | simp [okB, Blk.own]) rfl ?_
  refine R_load_mp (v := (V.sl (List.map cT (o.tr)))) (@rfl V (V.mp 1 1 0 1)) h1 (by first | rfl | simp [ldB, ldV, Blk.own, V.one]) ?_
  refine R_len (@rfl V (V.sl (List.map cT (o.tr)))) ?_
  refine R_gtr (x := ((o.tr.length : Nat) : Int)) (y := (10000 : Int)) (@rfl V (iV ((o.tr.length : Nat) : Int))) (@rfl V (iV (10000 : Int))) ?_
  exact R_nil ⟨t1, rfl, h1, h4, trivial⟩
 intro T H ⟨t1, t18, h1, h4, _⟩
 refine W_seq_if (p := (10000 : Int) < ((o.tr.length : Nat) : Int)) t18 (fun c3 => ?_) (fun c3 => ?_)
 ·
  refine W_seq_seq ?_
  refine W_seq_regc (fun T H => T 2 = (iV (11 : Int)) ∧ H 1 = (bk 1 37 2 [[(iV (o.i)), (V.sl (List.map cT (o.tr)))]]) ∧ H 4 = (⟨0, false, false, 0, 0, []⟩ : Blk) ∧ True) ?_ ?_
  ·
   unfold r19_4
   refine R_mv (@rfl V (iV (11 : Int))) ?_
   exact R_nil ⟨rfl, h1, h4, trivial⟩
  intro T H ⟨t2, h1, h4, _⟩
  refine W_seq_ret ?_
  refine Ret_1 t2 (fz_int ?_)
  · rw [oval, if_neg (by omega), if_pos (by omega)]
 refine W_seq_skip ?_
 refine W_seq_seq ?_
 refine W_seq_regc (fun T H => T 1 = (V.mp 1 1 0 0) ∧ T 3 = (iV (0 : Int)) ∧ H 1 = (bk 1 37 2 [[(iV (o.i)), (V.sl (List.map cT (o.tr)))]]) ∧ H 4 = (⟨0, false, false, 0, 0, []⟩ : Blk) ∧ True) ?_ ?_
 ·
  unfold r19_5
  refine R_mv (@rfl V (iV (0 : Int))) ?_
  exact R_nil ⟨t1, rfl, h1, h4, trivial⟩
 intro T H ⟨t1, t3, h1, h4, _⟩
 refine W_seq_blockg fun Q4 n4 x4 y4 z4 => ?_
 refine W_loop (fun mm T H => ∃ (k : Nat) (v4 : Nat), mm = o.tr.length - k ∧ T 1 = (V.mp 1 1 0 0) ∧ T 3 = (iV ((k : Nat) : Int)) ∧ H 1 = (bk 1 37 2 [[(iV (o.i)), (V.sl (List.map cT (o.tr)))]]) ∧ (H 4).ver = v4 ∧ (k ≤ o.tr.length) ∧ (1 ≤ o.i ∧ o.i ≤ 64 ∧ o.tr.length ≤ 10000) ∧ (fe (trE o) 0 o.tr.length = fe (trE o) k (o.tr.length - k)) ∧ (∀ j, j < k → (nth o.tr j).no.length = (nth o.tr j).ni.length)) ?_ ?_
 ·
  refine ⟨_, 0, 0, rfl, t1, (Eq.trans t3 (by first | rfl | simp)), h1, (congrArg Blk.ver h4), ?_, ?_, ?_, ?_⟩
  · omega
  · omega
  · rfl
  · intro j hj; omega
 intro mm T H ⟨k, v4, hmm, t1, t3, h1, h4, hk, hh, hc, hpl⟩ Q5 p15 p25 p35
 unfold b19_0
 refine W_seq_seq ?_
 refine W_seq_regc (fun T H => T 1 = (V.mp 1 1 0 0) ∧ T 3 = (iV ((k : Nat) : Int)) ∧ T 23 = (V.bool (decide (((k : Nat) : Int) < ((o.tr.length : Nat) : Int)))) ∧ H 1 = (bk 1 37 2 [[(iV (o.i)), (V.sl (List.map cT (o.tr)))]]) ∧ (H 4).ver = v4 ∧ True) ?_ ?_
 ·
  unfold r19_6
  refine R_mv t3 ?_
  refine R_fld_mp (o' := 1) t1 h1 (by first | rfl | simp [okB, Blk.own]) rfl ?_
  refine R_load_mp (v := (V.sl (List.map cT (o.tr)))) (@rfl V (V.mp 1 1 0 1)) h1 (by first | rfl | simp [ldB, ldV, Blk.own, V.one]) ?_
  refine R_len (@rfl V (V.sl (List.map cT (o.tr)))) ?_
  refine R_lss (x := ((k : Nat) : Int)) (y := ((o.tr.length : Nat) : Int)) (@rfl V (iV ((k : Nat) : Int))) (@rfl V (iV ((o.tr.length : Nat) : Int))) ?_
  exact R_nil ⟨t1, t3, rfl, h1, h4, trivial⟩
 intro T H ⟨t1, t3, t23, h1, h4, _⟩
 refine W_seq_if (p := ((k : Nat) : Int) < ((o.tr.length : Nat) : Int)) t23 (fun c6 => ?_) (fun c6 => ?_)
 ·
  refine W_seq_skip ?_
  refine W_seq_blockg fun Q7 n7 x7 y7 z7 => ?_
  refine W_seq_regc (fun T H => T 1 = (V.mp 1 1 0 0) ∧ T 3 = (iV ((k : Nat) : Int)) ∧ T 4 = (V.mp 4 (v4 + 1) 0 0) ∧ H 1 = (bk 1 37 2 [[(iV (o.i)), (V.sl (List.map cT (o.tr)))]]) ∧ H 4 = (bk (v4 + 1) 70 2 [[(ints ((nth (o.tr) (k)).ni)), (ints ((nth (o.tr) (k)).no))]]) ∧ True) ?_ ?_
  ·
   unfold r19_8
   refine R_fld_mp (o' := 1) t1 h1 (by first | rfl | simp [okB, Blk.own]) rfl ?_
   refine R_load_mp (v := (V.sl (List.map cT (o.tr)))) (@rfl V (V.mp 1 1 0 1)) h1 (by first | rfl | simp [ldB, ldV, Blk.own, V.one]) ?_
   refine R_mv t3 ?_
   refine R_idx (i := k) (@rfl V (V.sl (List.map cT (o.tr)))) (@rfl V (iV ((k : Nat) : Int))) (by omega) rfl ?_
   refine R_load_pp (v := (V.agg [(ints ((nth (o.tr) (k)).ni)), (ints ((nth (o.tr) (k)).no))])) rfl (by first | rfl | simp [ldV]) ?_
   refine R_alloc (i := 4) (n := v4) (m := 2) rfl h4 rfl ?_
   refine R_store (vs := [(ints ((nth (o.tr) (k)).ni)), (ints ((nth (o.tr) (k)).no))]) (B' := (bk (v4 + 1) 70 2 [[(ints ((nth (o.tr) (k)).ni)), (ints ((nth (o.tr) (k)).no))]])) (@rfl V (V.mp 4 (v4 + 1) 0 0)) (@rfl V (V.agg [(ints ((nth (o.tr) (k)).ni)), (ints ((nth (o.tr) (k)).no))])) rfl (@rfl Blk (bk (v4 + 1) 70 2 [[V.nilsl, V.nilsl]])) (by first | rfl | simp [stB, okB, Blk.own, putAt, V.one]) ?_
   exact R_nil ⟨t1, t3, rfl, h1, rfl, trivial⟩
  intro T H ⟨t1, t3, t4, h1, h4, _⟩
  refine W_seq_seq ?_
  refine W_seq_regc (fun T H => T 1 = (V.mp 1 1 0 0) ∧ T 3 = (iV ((k : Nat) : Int)) ∧ T 4 = (V.mp 4 (v4 + 1) 0 0) ∧ T 5 = (iV (wchk ((nth (o.tr) (k)).ni) ((o.i)))) ∧ H 1 = (bk 1 37 2 [[(iV (o.i)), (V.sl (List.map cT (o.tr)))]]) ∧ H 4 = (bk (v4 + 1) 70 2 [[(ints ((nth (o.tr) (k)).ni)), (ints ((nth (o.tr) (k)).no))]]) ∧ True) ?_ ?_
  ·
   unfold r19_9
   refine R_fld_mp (o' := 0) t4 h4 (by first | rfl | simp [okB, Blk.own]) rfl ?_
   refine R_load_mp (v := (ints ((nth (o.tr) (k)).ni))) (@rfl V (V.mp 4 (v4 + 1) 0 0)) h4 (by first | rfl | simp [ldB, ldV, Blk.own, V.one]) ?_
   refine R_fld_mp (o' := 0) t1 h1 (by first | rfl | simp [okB, Blk.own]) rfl ?_
   refine R_load_mp (v := (iV (o.i))) (@rfl V (V.mp 1 1 0 0)) h1 (by first | rfl | simp [ldB, ldV, Blk.own, V.one]) ?_
   refine R_callc (evcons (@rfl V (ints ((nth (o.tr) (k)).ni))) (evcons (@rfl V (iV (o.i))) evnil)) (rcheck_pure ((nth (o.tr) (k)).ni) ((o.i))) ?_
   refine R_mv (@rfl V (iV (wchk ((nth (o.tr) (k)).ni) ((o.i))))) ?_
   exact R_nil ⟨t1, t3, t4, rfl, h1, h4, trivial⟩
  intro T H ⟨t1, t3, t4, t5, h1, h4, _⟩
  refine W_seq_seq ?_
  refine W_seq_regc (fun T H => T 1 = (V.mp 1 1 0 0) ∧ T 3 = (iV ((k : Nat) : Int)) ∧ T 4 = (V.mp 4 (v4 + 1) 0 0) ∧ T 5 = (iV (wchk ((nth (o.tr) (k)).ni) ((o.i)))) ∧ T 37 = (V.bool (decide ((wchk ((nth (o.tr) (k)).ni) ((o.i))) ≠ (0 : Int)))) ∧ H 1 = (bk 1 37 2 [[(iV (o.i)), (V.sl (List.map cT (o.tr)))]]) ∧ H 4 = (bk (v4 + 1) 70 2 [[(ints ((nth (o.tr) (k)).ni)), (ints ((nth (o.tr) (k)).no))]]) ∧ True) ?_ ?_
  ·
   unfold r19_10
   refine R_mv t5 ?_
   refine R_neq (x := (wchk ((nth (o.tr) (k)).ni) ((o.i)))) (y := (0 : Int)) (@rfl V (iV (wchk ((nth (o.tr) (k)).ni) ((o.i))))) (@rfl V (iV (0 : Int))) ?_
   exact R_nil ⟨t1, t3, t4, t5, rfl, h1, h4, trivial⟩
  intro T H ⟨t1, t3, t4, t5, t37, h1, h4, _⟩
  refine W_seq_if (p := (wchk ((nth (o.tr) (k)).ni) ((o.i))) ≠ (0 : Int)) t37 (fun c8 => ?_) (fun c8 => ?_)
  ·
   refine W_seq_seq ?_
   refine W_seq_regc (fun T H => T 2 = (iV (wchk ((nth (o.tr) (k)).ni) ((o.i)))) ∧ H 1 = (bk 1 37 2 [[(iV (o.i)), (V.sl (List.map cT (o.tr)))]]) ∧ H 4 = (bk (v4 + 1) 70 2 [[(ints ((nth (o.tr) (k)).ni)), (ints ((nth (o.tr) (k)).no))]]) ∧ True) ?_ ?_
   ·
    unfold r19_11
    refine R_mv t5 ?_
    refine R_mv (@rfl V (iV (wchk ((nth (o.tr) (k)).ni) ((o.i))))) ?_
    exact R_nil ⟨rfl, h1, h4, trivial⟩
   intro T H ⟨t2, h1, h4, _⟩
   refine W_seq_ret ?_
   refine y7 _ _ ?_
   refine p25 _ _ ?_
   refine y4 _ _ ?_
   refine Ret_1 t2 (fz_int ?_)
   · have e : trE o k = wchk (nth o.tr k).ni o.i := by rw [trE, if_pos (by omega)]
     have e2 : fe (trE o) 0 o.tr.length = trE o k := by rw [hc]; exact fe_hit (by omega) (by omega)
     rw [oval, if_neg (by omega), if_neg (by omega), if_pos (by omega)]; omega
  refine W_seq_skip ?_
  refine W_seq_seq ?_
  refine W_seq_regc (fun T H => T 1 = (V.mp 1 1 0 0) ∧ T 3 = (iV ((k : Nat) : Int)) ∧ T 4 = (V.mp 4 (v4 + 1) 0 0) ∧ T 42 = (V.bool (decide (((((nth (o.tr) (k)).ni).length : Nat) : Int) = (0 : Int)))) ∧ H 1 = (bk 1 37 2 [[(iV (o.i)), (V.sl (List.map cT (o.tr)))]]) ∧ H 4 = (bk (v4 + 1) 70 2 [[(ints ((nth (o.tr) (k)).ni)), (ints ((nth (o.tr) (k)).no))]]) ∧ True) ?_ ?_
  ·
   unfold r19_12
   refine R_fld_mp (o' := 0) t4 h4 (by first | rfl | simp [okB, Blk.own]) rfl ?_
   refine R_load_mp (v := (ints ((nth (o.tr) (k)).ni))) (@rfl V (V.mp 4 (v4 + 1) 0 0)) h4 (by first | rfl | simp [ldB, ldV, Blk.own, V.one]) ?_
   refine R_len (@rfl V (ints ((nth (o.tr) (k)).ni))) ?_
   refine R_eql (x := ((((nth (o.tr) (k)).ni).length : Nat) : Int)) (y := (0 : Int)) (@rfl V (iV ((((nth (o.tr) (k)).ni).length : Nat) : Int))) (@rfl V (iV (0 : Int))) ?_
   exact R_nil ⟨t1, t3, t4, rfl, h1, h4, trivial⟩
  intro T H ⟨t1, t3, t4, t42, h1, h4, _⟩
  refine W_seq_if (p := ((((nth (o.tr) (k)).ni).length : Nat) : Int) = (0 : Int)) t42 (fun c9 => ?_) (fun c9 => ?_)
  ·
   refine W_seq_seq ?_
   refine W_seq_regc (fun T H => T 2 = (iV (19 : Int)) ∧ H 1 = (bk 1 37 2 [[(iV (o.i)), (V.sl (List.map cT (o.tr)))]]) ∧ H 4 = (bk (v4 + 1) 70 2 [[(ints ((nth (o.tr) (k)).ni)), (ints ((nth (o.tr) (k)).no))]]) ∧ True) ?_ ?_
   ·
    unfold r19_13
    refine R_mv (@rfl V (iV (19 : Int))) ?_
    exact R_nil ⟨rfl, h1, h4, trivial⟩
   intro T H ⟨t2, h1, h4, _⟩
   refine W_seq_ret ?_
   refine y7 _ _ ?_
   refine p25 _ _ ?_
   refine y4 _ _ ?_
   refine Ret_1 t2 (fz_int ?_)
   · have e : trE o k = 19 := by rw [trE, if_neg (by omega), if_pos (by omega)]
     have e2 : fe (trE o) 0 o.tr.length = trE o k := by rw [hc]; exact fe_hit (by omega) (by omega)
     rw [oval, if_neg (by omega), if_neg (by omega), if_pos (by omega)]; omega
  refine W_seq_skip ?_
  refine W_seq_seq ?_
  refine W_seq_regc (fun T H => T 1 = (V.mp 1 1 0 0) ∧ T 3 = (iV ((k : Nat) : Int)) ∧ T 4 = (V.mp 4 (v4 + 1) 0 0) ∧ T 6 = (iV (prE ((nth (o.tr) (k))) ((o.i)))) ∧ H 1 = (bk 1 37 2 [[(iV (o.i)), (V.sl (List.map cT (o.tr)))]]) ∧ H 4 = (bk (v4 + 1) 70 2 [[(ints ((nth (o.tr) (k)).ni)), (ints ((nth (o.tr) (k)).no))]]) ∧ True) ?_ ?_
  ·
   unfold r19_14
   refine R_load_mp (v := (V.agg [(ints ((nth (o.tr) (k)).ni)), (ints ((nth (o.tr) (k)).no))])) t4 h4 (by first | rfl | simp [ldB, ldV, Blk.own, V.one]) ?_
   refine R_fld_mp (o' := 0) t1 h1 (by first | rfl | simp [okB, Blk.own]) rfl ?_
   refine R_load_mp (v := (iV (o.i))) (@rfl V (V.mp 1 1 0 0)) h1 (by first | rfl | simp [ldB, ldV, Blk.own, V.one]) ?_
   refine R_callc (evcons (@rfl V (V.agg [(ints ((nth (o.tr) (k)).ni)), (ints ((nth (o.tr) (k)).no))])) (evcons (@rfl V (iV (o.i))) evnil)) (rproper_pure ((nth (o.tr) (k))) ((o.i))) ?_
   refine R_mv (@rfl V (iV (prE ((nth (o.tr) (k))) ((o.i))))) ?_
   exact R_nil ⟨t1, t3, t4, rfl, h1, h4, trivial⟩
  intro T H ⟨t1, t3, t4, t6, h1, h4, _⟩
  refine W_seq_seq ?_
  refine W_seq_regc (fun T H => T 1 = (V.mp 1 1 0 0) ∧ T 3 = (iV ((k : Nat) : Int)) ∧ T 4 = (V.mp 4 (v4 + 1) 0 0) ∧ T 6 = (iV (prE ((nth (o.tr) (k))) ((o.i)))) ∧ T 48 = (V.bool (decide ((prE ((nth (o.tr) (k))) ((o.i))) ≠ (0 : Int)))) ∧ H 1 = (bk 1 37 2 [[(iV (o.i)), (V.sl (List.map cT (o.tr)))]]) ∧ H 4 = (bk (v4 + 1) 70 2 [[(ints ((nth (o.tr) (k)).ni)), (ints ((nth (o.tr) (k)).no))]]) ∧ True) ?_ ?_
  ·
   unfold r19_15
   refine R_mv t6 ?_
   refine R_neq (x := (prE ((nth (o.tr) (k))) ((o.i)))) (y := (0 : Int)) (@rfl V (iV (prE ((nth (o.tr) (k))) ((o.i))))) (@rfl V (iV (0 : Int))) ?_
   exact R_nil ⟨t1, t3, t4, t6, rfl, h1, h4, trivial⟩
  intro T H ⟨t1, t3, t4, t6, t48, h1, h4, _⟩
  refine W_seq_if (p := (prE ((nth (o.tr) (k))) ((o.i))) ≠ (0 : Int)) t48 (fun c10 => ?_) (fun c10 => ?_)
  ·
   refine W_seq_seq ?_
   refine W_seq_regc (fun T H => T 2 = (iV (prE ((nth (o.tr) (k))) ((o.i)))) ∧ H 1 = (bk 1 37 2 [[(iV (o.i)), (V.sl (List.map cT (o.tr)))]]) ∧ H 4 = (bk (v4 + 1) 70 2 [[(ints ((nth (o.tr) (k)).ni)), (ints ((nth (o.tr) (k)).no))]]) ∧ True) ?_ ?_
   ·
    unfold r19_16
    refine R_mv t6 ?_
    refine R_mv (@rfl V (iV (prE ((nth (o.tr) (k))) ((o.i))))) ?_
    exact R_nil ⟨rfl, h1, h4, trivial⟩
   intro T H ⟨t2, h1, h4, _⟩
   refine W_seq_ret ?_
   refine y7 _ _ ?_
   refine p25 _ _ ?_
   refine y4 _ _ ?_
   refine Ret_1 t2 (fz_int ?_)
   · have e : trE o k = prE (nth o.tr k) o.i := by rw [trE, if_neg (by omega), if_neg (by omega), if_pos (by omega)]
     have e2 : fe (trE o) 0 o.tr.length = trE o k := by rw [hc]; exact fe_hit (by omega) (by omega)
     rw [oval, if_neg (by omega), if_neg (by omega), if_pos (by omega)]; rw [e2, e]
  refine W_seq_skip ?_
  refine W_seq_regc (fun T H => T 1 = (V.mp 1 1 0 0) ∧ T 3 = (iV ((k : Nat) : Int)) ∧ T 64 = (V.bool (decide (((0 : Int) < ((k : Nat) : Int)) ∧ ((0 : Int) ≤ (slx ((nth (o.tr) (((k : Nat) : Int) - (1 : Int)).toNat).ni) ((nth (o.tr) (k)).ni)))))) ∧ H 1 = (bk 1 37 2 [[(iV (o.i)), (V.sl (List.map cT (o.tr)))]]) ∧ H 4 = (bk (v4 + 1) 70 2 [[(ints ((nth (o.tr) (k)).ni)), (ints ((nth (o.tr) (k)).no))]]) ∧ True) ?_ ?_
  ·
   unfold r19_17
   refine R_mv t3 ?_
   refine R_gtr (x := ((k : Nat) : Int)) (y := (0 : Int)) (@rfl V (iV ((k : Nat) : Int))) (@rfl V (iV (0 : Int))) ?_
   refine R_mv (@rfl V (V.bool (decide ((0 : Int) < ((k : Nat) : Int))))) ?_
   refine Ops_seg 12 (fun T H => T 1 = (V.mp 1 1 0 0) ∧ T 3 = (iV ((k : Nat) : Int)) ∧ T 64 = (V.bool (decide (((0 : Int) < ((k : Nat) : Int)) ∧ ((0 : Int) ≤ (slx ((nth (o.tr) (((k : Nat) : Int) - (1 : Int)).toNat).ni) ((nth (o.tr) (k)).ni)))))) ∧ H 1 = (bk 1 37 2 [[(iV (o.i)), (V.sl (List.map cT (o.tr)))]]) ∧ H 4 = (bk (v4 + 1) 70 2 [[(ints ((nth (o.tr) (k)).ni)), (ints ((nth (o.tr) (k)).no))]]) ∧ True) ?_ ?_
   ·
    by_cases g11 : (0 : Int) < ((k : Nat) : Int)
    ·
     refine G_yes (Eq.trans (@rfl V (V.bool (decide ((0 : Int) < ((k : Nat) : Int))))) (bdT g11)) ?_
     refine R_fld_mp (o' := 1) t1 h1 (by first | rfl | simp [okB, Blk.own]) rfl ?_
     refine G_yes (Eq.trans (@rfl V (V.bool (decide ((0 : Int) < ((k : Nat) : Int))))) (bdT g11)) ?_
     refine R_load_mp (v := (V.sl (List.map cT (o.tr)))) (@rfl V (V.mp 1 1 0 1)) h1 (by first | rfl | simp [ldB, ldV, Blk.own, V.one]) ?_
     refine G_yes (Eq.trans (@rfl V (V.bool (decide ((0 : Int) < ((k : Nat) : Int))))) (bdT g11)) ?_
     refine R_mv t3 ?_
     refine G_yes (Eq.trans (@rfl V (V.bool (decide ((0 : Int) < ((k : Nat) : Int))))) (bdT g11)) ?_
     refine R_sub (x := ((k : Nat) : Int)) (y := (1 : Int)) (@rfl V (iV ((k : Nat) : Int))) (@rfl V (iV (1 : Int))) (by omega) (by omega) ?_
     refine G_yes (Eq.trans (@rfl V (V.bool (decide ((0 : Int) < ((k : Nat) : Int))))) (bdT g11)) ?_
     refine R_idxI (i := (((k : Nat) : Int) - (1 : Int))) (@rfl V (V.sl (List.map cT (o.tr)))) (@rfl V (iV (((k : Nat) : Int) - (1 : Int)))) (by omega) (by omega) rfl ?_
     refine G_yes (Eq.trans (@rfl V (V.bool (decide ((0 : Int) < ((k : Nat) : Int))))) (bdT g11)) ?_
     refine R_fld_pp (cs' := [(ints ((nth (o.tr) (((k : Nat) : Int) - (1 : Int)).toNat).ni)), (ints ((nth (o.tr) (((k : Nat) : Int) - (1 : Int)).toNat).no))]) rfl rfl ?_
     refine G_yes (Eq.trans (@rfl V (V.bool (decide ((0 : Int) < ((k : Nat) : Int))))) (bdT g11)) ?_
     refine R_load_pp (v := (ints ((nth (o.tr) (((k : Nat) : Int) - (1 : Int)).toNat).ni))) rfl (by first | rfl | simp [ldV]) ?_
     refine G_yes (Eq.trans (@rfl V (V.bool (decide ((0 : Int) < ((k : Nat) : Int))))) (bdT g11)) ?_
     refine R_fld_mp (o' := 0) t4 h4 (by first | rfl | simp [okB, Blk.own]) rfl ?_
     refine G_yes (Eq.trans (@rfl V (V.bool (decide ((0 : Int) < ((k : Nat) : Int))))) (bdT g11)) ?_
     refine R_load_mp (v := (ints ((nth (o.tr) (k)).ni))) (@rfl V (V.mp 4 (v4 + 1) 0 0)) h4 (by first | rfl | simp [ldB, ldV, Blk.own, V.one]) ?_
     refine G_yes (Eq.trans (@rfl V (V.bool (decide ((0 : Int) < ((k : Nat) : Int))))) (bdT g11)) ?_
     refine R_callc (evcons (@rfl V (ints ((nth (o.tr) (((k : Nat) : Int) - (1 : Int)).toNat).ni))) (evcons (@rfl V (ints ((nth (o.tr) (k)).ni))) evnil)) (rcompare_pure ((nth (o.tr) (((k : Nat) : Int) - (1 : Int)).toNat).ni) ((nth (o.tr) (k)).ni)) ?_
     refine G_yes (Eq.trans (@rfl V (V.bool (decide ((0 : Int) < ((k : Nat) : Int))))) (bdT g11)) ?_
     refine R_geq (x := (slx ((nth (o.tr) (((k : Nat) : Int) - (1 : Int)).toNat).ni) ((nth (o.tr) (k)).ni))) (y := (0 : Int)) (@rfl V (iV (slx ((nth (o.tr) (((k : Nat) : Int) - (1 : Int)).toNat).ni) ((nth (o.tr) (k)).ni)))) (@rfl V (iV (0 : Int))) ?_
     refine R_pickT (Eq.trans (@rfl V (V.bool (decide ((0 : Int) < ((k : Nat) : Int))))) (bdT g11)) (@rfl V (V.bool (decide ((0 : Int) ≤ (slx ((nth (o.tr) (((k : Nat) : Int) - (1 : Int)).toNat).ni) ((nth (o.tr) (k)).ni)))))) ?_
     exact ⟨t1, t3, (Eq.trans (@rfl V (V.bool (decide ((0 : Int) ≤ (slx ((nth (o.tr) (((k : Nat) : Int) - (1 : Int)).toNat).ni) ((nth (o.tr) (k)).ni)))))) (dec_andT g11)), h1, h4, trivial⟩
    ·
     refine G_no (Eq.trans (@rfl V (V.bool (decide ((0 : Int) < ((k : Nat) : Int))))) (bdF g11)) (by decide) ?_
     refine G_no (Eq.trans (@rfl V (V.bool (decide ((0 : Int) < ((k : Nat) : Int))))) (bdF g11)) (by decide) ?_
     refine G_no (Eq.trans (@rfl V (V.bool (decide ((0 : Int) < ((k : Nat) : Int))))) (bdF g11)) (by decide) ?_
     refine G_no (Eq.trans (@rfl V (V.bool (decide ((0 : Int) < ((k : Nat) : Int))))) (bdF g11)) (by decide) ?_
     refine G_no (Eq.trans (@rfl V (V.bool (decide ((0 : Int) < ((k : Nat) : Int))))) (bdF g11)) (by decide) ?_
     refine G_no (Eq.trans (@rfl V (V.bool (decide ((0 : Int) < ((k : Nat) : Int))))) (bdF g11)) (by decide) ?_
     refine G_no (Eq.trans (@rfl V (V.bool (decide ((0 : Int) < ((k : Nat) : Int))))) (bdF g11)) (by decide) ?_
     refine G_no (Eq.trans (@rfl V (V.bool (decide ((0 : Int) < ((k : Nat) : Int))))) (bdF g11)) (by decide) ?_
     refine G_no (Eq.trans (@rfl V (V.bool (decide ((0 : Int) < ((k : Nat) : Int))))) (bdF g11)) (by decide) ?_
     refine G_no (Eq.trans (@rfl V (V.bool (decide ((0 : Int) < ((k : Nat) : Int))))) (bdF g11)) (by decide) ?_
     refine G_no (Eq.trans (@rfl V (V.bool (decide ((0 : Int) < ((k : Nat) : Int))))) (bdF g11)) (by decide) ?_
     refine R_pickF (Eq.trans (@rfl V (V.bool (decide ((0 : Int) < ((k : Nat) : Int))))) (bdF g11)) (@rfl V (V.bool false)) ?_
     exact ⟨t1, t3, (Eq.trans (@rfl V (V.bool false)) (dec_andF g11)), h1, h4, trivial⟩
   intro T H ⟨t1, t3, t64, h1, h4, _⟩
   exact R_nil ⟨t1, t3, t64, h1, h4, trivial⟩
  intro T H ⟨t1, t3, t64, h1, h4, _⟩
  refine W_if (p := ((0 : Int) < ((k : Nat) : Int)) ∧ ((0 : Int) ≤ (slx ((nth (o.tr) (((k : Nat) : Int) - (1 : Int)).toNat).ni) ((nth (o.tr) (k)).ni)))) t64 (fun c12 => ?_) (fun c12 => ?_)
  ·
   rw [show (((k : Nat) : Int) - (1)).toNat = k - 1 by omega] at c12
   refine W_seq_regc (fun T H => T 2 = (iV (10 : Int)) ∧ H 1 = (bk 1 37 2 [[(iV (o.i)), (V.sl (List.map cT (o.tr)))]]) ∧ H 4 = (bk (v4 + 1) 70 2 [[(ints ((nth (o.tr) (k)).ni)), (ints ((nth (o.tr) (k)).no))]]) ∧ True) ?_ ?_
   ·
    unfold r19_18
    refine R_mv (@rfl V (iV (10 : Int))) ?_
    exact R_nil ⟨rfl, h1, h4, trivial⟩
   intro T H ⟨t2, h1, h4, _⟩
   refine W_ret ?_
   refine y7 _ _ ?_
   refine p25 _ _ ?_
   refine y4 _ _ ?_
   refine Ret_1 t2 (fz_int ?_)
   · have e : trE o k = 10 := by rw [trE, if_neg (by omega), if_neg (by omega), if_neg (by omega), if_pos (by omega)]
     have e2 : fe (trE o) 0 o.tr.length = trE o k := by rw [hc]; exact fe_hit (by omega) (by omega)
     rw [oval, if_neg (by omega), if_neg (by omega), if_pos (by omega)]; omega
  rw [show (((k : Nat) : Int) - (1)).toNat = k - 1 by omega] at c12
  refine W_skip ?_
  refine n7 _ _ ?_
  refine .done ?_
  refine W_regc (fun T H => T 1 = (V.mp 1 1 0 0) ∧ T 3 = (iV ((k + 1 : Nat) : Int)) ∧ H 1 = (bk 1 37 2 [[(iV (o.i)), (V.sl (List.map cT (o.tr)))]]) ∧ H 4 = (bk (v4 + 1) 70 2 [[(ints ((nth (o.tr) (k)).ni)), (ints ((nth (o.tr) (k)).no))]]) ∧ True) ?_ ?_
  ·
   unfold r19_7
   refine R_mv t3 ?_
   refine R_addN (m := k) (n := 1) (@rfl V (iV ((k : Nat) : Int))) (@rfl V (iV ((1 : Nat) : Int))) (by omega) ?_
   refine R_mv (@rfl V (iV ((k + 1 : Nat) : Int))) ?_
   exact R_nil ⟨t1, rfl, h1, h4, trivial⟩
  intro T H ⟨t1, t3, h1, h4, _⟩
  refine p15 _ _ _ ?_ ⟨(k + 1), (v4 + 1), rfl, t1, (Eq.trans t3 (by first | rfl | simp)), h1, (congrArg Blk.ver h4), ?_, ?_, ?_, ?_⟩
  · omega
  · omega
  · omega
  · have e : trE o k = 0 := by rw [trE, if_neg (by omega), if_neg (by omega), if_neg (by omega), if_neg (by omega)]
    rw [hc]; exact fe_skip e (by omega)
  · intro j hj
    by_cases e : j = k
    · subst e; exact (prE_ok (n := o.i) (by omega)).len
    · exact hpl j (by omega)
 refine W_seq_exit ?_
 refine p35 _ _ _ ?_
 refine x4 _ _ ?_
 refine .done ?_
 refine W_seq_regc (fun T H => T 2 = (iV (fe (apE o) 0 o.tr.length)) ∧ H 1 = (bk 1 37 2 [[(iV (o.i)), (V.sl (List.map cT (o.tr)))]]) ∧ (H 4).ver = v4 ∧ True) ?_ ?_
 ·
  unfold r19_19
  refine R_load_mp (v := (V.agg [(iV (o.i)), (V.sl (List.map cT (o.tr)))])) t1 h1 (by first | rfl | simp [ldB, ldV, Blk.own, V.one]) ?_
  refine R_callc (evcons (@rfl V (V.agg [(iV (o.i)), (V.sl (List.map cT (o.tr)))])) evnil) (rapart_pure o (fun j hj => hpl j (by omega))) ?_
  refine R_mv (@rfl V (iV (fe (apE o) 0 o.tr.length))) ?_
  exact R_nil ⟨rfl, h1, h4, trivial⟩
 intro T H ⟨t2, h1, h4, _⟩
 refine W_ret ?_
 refine Ret_1 t2 (fz_int ?_)
 · rw [oval, if_neg (by omega), if_neg (by omega), if_neg (by rw [hc, fe_end (by omega)]; omega)]
end Go.Proofs.YtmnjchcoigbngaaGreat


namespace Go.Proofs.YtmnjchcoigbngaaGreat
open Go Go.Proofs
theorem permitted_pure (n : Int) : PureC Tryz.prog 80 [(iV (n))] (V.bool (decide (1 ≤ n ∧ n ≤ 1024))) := by
 refine pure_of_Wb true 6 Tryz.func80 s80_ok (by kernel_rfl) (by simp [s80]) (by simp) (by simp) fun hB => ?_
 simp only [bnd_map, bnd_int, bnd_bool, bnd_str, bnd_agg, bnd_pp, bnd_nil, bnd_cons, implies_true, and_true, true_and] at hB
 unfold s80
 dsimp only
 refine W_seq_regc (fun T H => T 0 = (iV (n)) ∧ True) ?_ ?_
 ·
  unfold r80_0
  refine R_mv (@rfl V (V.bool false)) ?_
  exact R_nil ⟨rfl, trivial⟩
 intro T H ⟨t0, _⟩
 refine W_seq_regc (fun T H => T 2 = (V.bool (decide (((1 : Int) ≤ (n)) ∧ ((n) ≤ (1024 : Int))))) ∧ True) ?_ ?_
 ·
  unfold r80_1
  refine R_mv t0 ?_
  refine R_geq (x := (n)) (y := (1 : Int)) (@rfl V (iV (n))) (@rfl V (iV (1 : Int))) ?_
  refine R_mv (@rfl V (V.bool (decide ((1 : Int) ≤ (n))))) ?_
  refine Ops_seg 3 (fun T H => T 8 = (V.bool (decide (((1 : Int) ≤ (n)) ∧ ((n) ≤ (1024 : Int))))) ∧ True) ?_ ?_
  ·
   by_cases g1 : (1 : Int) ≤ (n)
   ·
    refine G_yes (Eq.trans (@rfl V (V.bool (decide ((1 : Int) ≤ (n))))) (bdT g1)) ?_
    refine R_mv t0 ?_
    refine G_yes (Eq.trans (@rfl V (V.bool (decide ((1 : Int) ≤ (n))))) (bdT g1)) ?_
    refine R_leq (x := (n)) (y := (1024 : Int)) (@rfl V (iV (n))) (@rfl V (iV (1024 : Int))) ?_
    refine R_pickT (Eq.trans (@rfl V (V.bool (decide ((1 : Int) ≤ (n))))) (bdT g1)) (@rfl V (V.bool (decide ((n) ≤ (1024 : Int))))) ?_
    exact ⟨(Eq.trans (@rfl V (V.bool (decide ((n) ≤ (1024 : Int))))) (dec_andT g1)), trivial⟩
   ·
    refine G_no (Eq.trans (@rfl V (V.bool (decide ((1 : Int) ≤ (n))))) (bdF g1)) (by decide) ?_
    refine G_no (Eq.trans (@rfl V (V.bool (decide ((1 : Int) ≤ (n))))) (bdF g1)) (by decide) ?_
    refine R_pickF (Eq.trans (@rfl V (V.bool (decide ((1 : Int) ≤ (n))))) (bdF g1)) (@rfl V (V.bool false)) ?_
    exact ⟨(Eq.trans (@rfl V (V.bool false)) (dec_andF g1)), trivial⟩
  intro T H ⟨t8, _⟩
  refine R_mv t8 ?_
  exact R_nil ⟨rfl, trivial⟩
 intro T H ⟨t2, _⟩
 refine W_ret ?_
 refine Ret_1 t2 (fz_bool ?_)
 · first | rfl | omega | simp_all
end Go.Proofs.YtmnjchcoigbngaaGreat


namespace Go.Proofs.YtmnjchcoigbngaaGreat
open Go Go.Proofs
theorem idxi_pure (p : Int → Bool) (w : List Int) (g : Nat) (caps : List V) (hca : canonL caps = true) (hpu : pureL caps = true) (hq : ∀ k, k < w.length → PureC Tryz.prog g (iV (nth w k) :: caps) (.bool (p (nth w k)))) : PureC Tryz.prog 109 [(ints w), (V.fn g [] caps)] (iV (fi (fun j => p (nth w j)) 0 w.length)) := by
 refine pure_of_Wb true 6 Tryz.func109 s109_ok (by kernel_rfl) (by simp [s109]) (by simp [hpu]) (by simp) fun hB => ?_
 simp only [bnd_map, bnd_int, bnd_bool, bnd_str, bnd_agg, bnd_pp, bnd_nil, bnd_cons, implies_true, and_true, true_and] at hB
 unfold s109
 dsimp only
 refine W_seq_regc (fun T H => T 0 = (ints w) ∧ T 1 = (V.fn g [] caps) ∧ True) ?_ ?_
 ·
  unfold r109_0
  refine R_mv (@rfl V (iV (0 : Int))) ?_
  exact R_nil ⟨rfl, rfl, trivial⟩
 intro T H ⟨t0, t1, _⟩
 refine W_seq_seq ?_
 refine W_seq_regc (fun T H => T 0 = (ints w) ∧ T 1 = (V.fn g [] caps) ∧ T 7 = (iV ((w.length : Nat) : Int)) ∧ T 8 = (iV (0 : Int)) ∧ True) ?_ ?_
 ·
  unfold r109_1
  refine R_mv t0 ?_
  refine R_len (@rfl V (ints w)) ?_
  refine R_mv (@rfl V (iV (0 : Int))) ?_
  exact R_nil ⟨t0, t1, rfl, rfl, trivial⟩
 intro T H ⟨t0, t1, t7, t8, _⟩
 refine W_seq_blockg fun Q1 n1 x1 y1 z1 => ?_
 refine W_loop (fun mm T H => ∃ (k : Nat), mm = w.length - k ∧ T 0 = (ints w) ∧ T 1 = (V.fn g [] caps) ∧ T 7 = (iV ((w.length : Nat) : Int)) ∧ T 8 = (iV ((k : Nat) : Int)) ∧ (k ≤ w.length) ∧ (fi (fun j => p (nth w j)) 0 w.length = fi (fun j => p (nth w j)) k (w.length - k))) ?_ ?_
 ·
  refine ⟨_, 0, rfl, t0, t1, t7, (Eq.trans t8 (by first | rfl | simp)), ?_, ?_⟩
  · omega
  · rfl
 intro mm T H ⟨k, hmm, t0, t1, t7, t8, hk, hc⟩ Q2 p12 p22 p32
 unfold b109_0
 refine W_seq_regc (fun T H => T 0 = (ints w) ∧ T 1 = (V.fn g [] caps) ∧ T 7 = (iV ((w.length : Nat) : Int)) ∧ T 8 = (iV ((k : Nat) : Int)) ∧ T 9 = (V.bool (decide (((k : Nat) : Int) < ((w.length : Nat) : Int)))) ∧ True) ?_ ?_
 ·
  unfold r109_2
  refine R_lss (x := ((k : Nat) : Int)) (y := ((w.length : Nat) : Int)) t8 t7 ?_
  exact R_nil ⟨t0, t1, t7, t8, rfl, trivial⟩
 intro T H ⟨t0, t1, t7, t8, t9, _⟩
 refine W_seq_if (p := ((k : Nat) : Int) < ((w.length : Nat) : Int)) t9 (fun c3 => ?_) (fun c3 => ?_)
 ·
  refine W_seq_skip ?_
  refine W_seq_blockg fun Q4 n4 x4 y4 z4 => ?_
  refine W_seq_regc (fun T H => T 0 = (ints w) ∧ T 1 = (V.fn g [] caps) ∧ T 5 = (iV ((k : Nat) : Int)) ∧ T 7 = (iV ((w.length : Nat) : Int)) ∧ T 8 = (iV ((k : Nat) : Int)) ∧ True) ?_ ?_
  ·
   unfold r109_3
   refine R_mv t8 ?_
   refine R_mv (@rfl V (iV ((k : Nat) : Int))) ?_
   exact R_nil ⟨t0, t1, rfl, t7, t8, trivial⟩
  intro T H ⟨t0, t1, t5, t7, t8, _⟩
  refine W_seq_regc (fun T H => T 0 = (ints w) ∧ T 1 = (V.fn g [] caps) ∧ T 5 = (iV ((k : Nat) : Int)) ∧ T 7 = (iV ((w.length : Nat) : Int)) ∧ T 8 = (iV ((k : Nat) : Int)) ∧ T 16 = (V.bool (p (nth w k))) ∧ True) ?_ ?_
  ·
   unfold r109_4
   refine R_mv t1 ?_
   refine R_mv t0 ?_
   refine R_mv t5 ?_
   refine R_idx (i := k) (@rfl V (ints w)) (@rfl V (iV ((k : Nat) : Int))) (by omega) rfl ?_
   refine R_load_pp (v := (iV ((nth (w) (k))))) rfl (by first | rfl | simp [ldV]) ?_
   refine R_callv (@rfl V (V.fn g [] caps)) (evcons (@rfl V (iV ((nth (w) (k))))) evnil) (hq k (by omega)) (fzv_mapcanon _ _ (by simp [hca])) (by simp [hpu]) (Or.inl (by simp [hpu])) ?_
   exact R_nil ⟨t0, t1, t5, t7, t8, rfl, trivial⟩
  intro T H ⟨t0, t1, t5, t7, t8, t16, _⟩
  refine W_ifb t16 (fun c5 => ?_) (fun c5 => ?_)
  ·
   have d1 := c5
   refine W_seq_regc (fun T H => T 4 = (iV ((k : Nat) : Int)) ∧ True) ?_ ?_
   ·
    unfold r109_5
    refine R_mv t5 ?_
    refine R_mv (@rfl V (iV ((k : Nat) : Int))) ?_
    exact R_nil ⟨rfl, trivial⟩
   intro T H ⟨t4, _⟩
   refine W_ret ?_
   refine y4 _ _ ?_
   refine p22 _ _ ?_
   refine y1 _ _ ?_
   refine Ret_1 t4 (fz_int ?_)
   · rw [hc, fi_hit (by exact d1) (by omega)]
  have d1 := c5
  refine W_skip ?_
  refine n4 _ _ ?_
  refine .done ?_
  refine W_regc (fun T H => T 0 = (ints w) ∧ T 1 = (V.fn g [] caps) ∧ T 7 = (iV ((w.length : Nat) : Int)) ∧ T 8 = (iV ((k + 1 : Nat) : Int)) ∧ True) ?_ ?_
  ·
   unfold r109_6
   refine R_addN (m := k) (n := 1) t8 (@rfl V (iV ((1 : Nat) : Int))) (by omega) ?_
   refine R_mv (@rfl V (iV ((k + 1 : Nat) : Int))) ?_
   exact R_nil ⟨t0, t1, t7, rfl, trivial⟩
  intro T H ⟨t0, t1, t7, t8, _⟩
  refine p12 _ _ _ ?_ ⟨(k + 1), rfl, t0, t1, t7, (Eq.trans t8 (by first | rfl | simp)), ?_, ?_⟩
  · omega
  · omega
  · rw [hc, fi_skip (by exact d1) (by omega)]
 refine W_seq_exit ?_
 refine p32 _ _ _ ?_
 refine x1 _ _ ?_
 refine .done ?_
 refine W_seq_regc (fun T H => T 4 = (iV (-1 : Int)) ∧ True) ?_ ?_
 ·
  unfold r109_7
  refine R_mv (@rfl V (iV (-1 : Int))) ?_
  exact R_nil ⟨rfl, trivial⟩
 intro T H ⟨t4, _⟩
 refine W_ret ?_
 refine Ret_1 t4 (fz_int ?_)
 · rw [hc, fi_end (by omega)]
end Go.Proofs.YtmnjchcoigbngaaGreat


namespace Go.Proofs.YtmnjchcoigbngaaGreat
open Go Go.Proofs
theorem coni_pure (p : Int → Bool) (w : List Int) (g : Nat) (caps : List V) (hca : canonL caps = true) (hpu : pureL caps = true) (hq : ∀ k, k < w.length → PureC Tryz.prog g (iV (nth w k) :: caps) (.bool (p (nth w k)))) : PureC Tryz.prog 81 [(ints w), (V.fn g [] caps)] (V.bool (decide (0 ≤ fi (fun j => p (nth w j)) 0 w.length))) := by
 refine pure_of_Wb true 6 Tryz.func81 s81_ok (by kernel_rfl) (by simp [s81]) (by simp [hpu]) (by simp) fun hB => ?_
 simp only [bnd_map, bnd_int, bnd_bool, bnd_str, bnd_agg, bnd_pp, bnd_nil, bnd_cons, implies_true, and_true, true_and] at hB
 unfold s81
 dsimp only
 refine W_seq_regc (fun T H => T 0 = (ints w) ∧ T 1 = (V.fn g [] caps) ∧ True) ?_ ?_
 ·
  unfold r81_0
  refine R_mv (@rfl V (V.bool false)) ?_
  exact R_nil ⟨rfl, rfl, trivial⟩
 intro T H ⟨t0, t1, _⟩
 refine W_seq_regc (fun T H => T 4 = (V.bool (decide ((0 : Int) ≤ (fi (fun j => p (nth w j)) 0 w.length)))) ∧ True) ?_ ?_
 ·
  unfold r81_1
  refine R_mv t0 ?_
  refine R_mv t1 ?_
  refine R_call (evcons (@rfl V (ints w)) (evcons (@rfl V (V.fn g [] caps)) evnil)) (idxi_pure p w g caps hca hpu hq) (fzv_mapcanon _ _ (by simp [hca, hpu, -List.map_take, -List.map_drop, -List.map_append, -List.map_reverse])) (by simp [hca, hpu, -List.map_take, -List.map_drop, -List.map_append, -List.map_reverse]) (Or.inl (by simp [hca, hpu, -List.map_take, -List.map_drop, -List.map_append, -List.map_reverse])) ?_
  refine R_geq (x := (fi (fun j => p (nth w j)) 0 w.length)) (y := (0 : Int)) (@rfl V (iV (fi (fun j => p (nth w j)) 0 w.length))) (@rfl V (iV (0 : Int))) ?_
  refine R_mv (@rfl V (V.bool (decide ((0 : Int) ≤ (fi (fun j => p (nth w j)) 0 w.length))))) ?_
  exact R_nil ⟨rfl, trivial⟩
 intro T H ⟨t4, _⟩
 refine W_ret ?_
 refine Ret_1 t4 (fz_bool ?_)
 · first | rfl | omega | simp_all
end Go.Proofs.YtmnjchcoigbngaaGreat


namespace Go.Proofs.YtmnjchcoigbngaaGreat
open Go Go.Proofs
theorem check1_pure (a n : Int) : PureC Tryz.prog 82 [(iV (a)), (V.pp [(iV (n))])] (V.bool (decide (a < 0 ∨ n ≤ a))) := by
 refine pure_of_Wb true 6 Tryz.func82 s82_ok (by kernel_rfl) (by simp [s82]) (by simp) (by simp) fun hB => ?_
 simp only [bnd_map, bnd_int, bnd_bool, bnd_str, bnd_agg, bnd_pp, bnd_nil, bnd_cons, implies_true, and_true, true_and] at hB
 unfold s82
 dsimp only
 refine W_seq_regc (fun T H => T 0 = (iV (a)) ∧ T 1 = (V.pp [(iV (n))]) ∧ True) ?_ ?_
 ·
  unfold r82_0
  refine R_mv (@rfl V (V.bool false)) ?_
  exact R_nil ⟨rfl, rfl, trivial⟩
 intro T H ⟨t0, t1, _⟩
 refine W_seq_regc (fun T H => T 3 = (V.bool (decide (((a) < (0 : Int)) ∨ ((n) ≤ (a))))) ∧ True) ?_ ?_
 ·
  unfold r82_1
  refine R_mv t0 ?_
  refine R_lss (x := (a)) (y := (0 : Int)) (@rfl V (iV (a))) (@rfl V (iV (0 : Int))) ?_
  refine R_mv (@rfl V (V.bool (decide ((a) < (0 : Int))))) ?_
  refine Ops_seg 4 (fun T H => T 10 = (V.bool (decide (((a) < (0 : Int)) ∨ ((n) ≤ (a))))) ∧ True) ?_ ?_
  ·
   by_cases g1 : (a) < (0 : Int)
   ·
    refine G_no (Eq.trans (@rfl V (V.bool (decide ((a) < (0 : Int))))) (bdT g1)) (by decide) ?_
    refine G_no (Eq.trans (@rfl V (V.bool (decide ((a) < (0 : Int))))) (bdT g1)) (by decide) ?_
    refine G_no (Eq.trans (@rfl V (V.bool (decide ((a) < (0 : Int))))) (bdT g1)) (by decide) ?_
    refine R_pickT (Eq.trans (@rfl V (V.bool (decide ((a) < (0 : Int))))) (bdT g1)) (@rfl V (V.bool true)) ?_
    exact ⟨(Eq.trans (@rfl V (V.bool true)) (dec_orT g1)), trivial⟩
   ·
    refine G_yes (Eq.trans (@rfl V (V.bool (decide ((a) < (0 : Int))))) (bdF g1)) ?_
    refine R_mv t0 ?_
    refine G_yes (Eq.trans (@rfl V (V.bool (decide ((a) < (0 : Int))))) (bdF g1)) ?_
    refine R_load_pp (v := (iV (n))) t1 (by first | rfl | simp [ldV]) ?_
    refine G_yes (Eq.trans (@rfl V (V.bool (decide ((a) < (0 : Int))))) (bdF g1)) ?_
    refine R_geq (x := (a)) (y := (n)) (@rfl V (iV (a))) (@rfl V (iV (n))) ?_
    refine R_pickF (Eq.trans (@rfl V (V.bool (decide ((a) < (0 : Int))))) (bdF g1)) (@rfl V (V.bool (decide ((n) ≤ (a))))) ?_
    exact ⟨(Eq.trans (@rfl V (V.bool (decide ((n) ≤ (a))))) (dec_orF g1)), trivial⟩
  intro T H ⟨t10, _⟩
  refine R_mv t10 ?_
  exact R_nil ⟨rfl, trivial⟩
 intro T H ⟨t3, _⟩
 refine W_ret ?_
 refine Ret_1 t3 (fz_bool ?_)
 · first | rfl | omega | simp_all
end Go.Proofs.YtmnjchcoigbngaaGreat


namespace Go.Proofs.YtmnjchcoigbngaaGreat
open Go Go.Proofs
theorem check_pure (w : List Int) (n : Int) : PureC Tryz.prog 48 [(ints w), (iV (n))] (iV (wchk w n)) := by
 refine pure_of_Wb true 6 Tryz.func48 s48_ok (by kernel_rfl) (by simp [s48]) (by simp) (by simp) fun hB => ?_
 simp only [bnd_map, bnd_int, bnd_bool, bnd_str, bnd_agg, bnd_pp, bnd_nil, bnd_cons, implies_true, and_true, true_and] at hB
 unfold s48
 dsimp only
 refine W_seq_regc (fun T H => T 0 = (ints w) ∧ T 3 = (V.mp 3 1 0 0) ∧ H 3 = (bk 1 3 1 [[(iV (n))]]) ∧ True) ?_ ?_
 ·
  unfold r48_0
  refine R_box (i := 3) (n := 0) (m := 1) (cs := [(iV (n))]) rfl (congrArg Blk.ver rfl) (@rfl V (iV (n))) rfl rfl ?_
  refine R_mv (@rfl V (iV (0 : Int))) ?_
  exact R_nil ⟨rfl, rfl, rfl, trivial⟩
 intro T H ⟨t0, t3, h3, _⟩
 refine W_seq_blockg fun Q1 n1 x1 y1 z1 => ?_
 refine W_seq_regc (fun T H => T 0 = (ints w) ∧ T 3 = (V.mp 3 1 0 0) ∧ T 5 = (V.bool (decide (¬(1 ≤ ((n)) ∧ ((n)) ≤ 1024)))) ∧ H 3 = (bk 1 3 1 [[(iV (n))]]) ∧ True) ?_ ?_
 ·
  unfold r48_1
  refine R_load_mp (v := (iV (n))) t3 h3 (by first | rfl | simp [ldB, ldV, Blk.own, V.one]) ?_
  refine R_callc (evcons (@rfl V (iV (n))) evnil) (permitted_pure ((n))) ?_
  refine R_not (p := 1 ≤ ((n)) ∧ ((n)) ≤ 1024) (@rfl V (V.bool (decide (1 ≤ ((n)) ∧ ((n)) ≤ 1024)))) ?_
  refine R_mv (@rfl V (V.bool (decide (¬(1 ≤ ((n)) ∧ ((n)) ≤ 1024))))) ?_
  exact R_nil ⟨t0, t3, rfl, h3, trivial⟩
 intro T H ⟨t0, t3, t5, h3, _⟩
 refine W_if (p := ¬(1 ≤ ((n)) ∧ ((n)) ≤ 1024)) t5 (fun c2 => ?_) (fun c2 => ?_)
 ·
  refine W_seq_regc (fun T H => T 4 = (iV (2 : Int)) ∧ H 3 = (bk 1 3 1 [[(iV (n))]]) ∧ True) ?_ ?_
  ·
   unfold r48_2
   refine R_mv (@rfl V (iV (2 : Int))) ?_
   exact R_nil ⟨rfl, h3, trivial⟩
  intro T H ⟨t4, h3, _⟩
  refine W_ret ?_
  refine y1 _ _ ?_
  refine Ret_1 t4 (fz_int ?_)
  · rw [wchk, if_pos (by omega)]
 refine W_seq_regc (fun T H => T 0 = (ints w) ∧ T 3 = (V.mp 3 1 0 0) ∧ T 9 = (V.bool (decide ((1024 : Int) < ((w.length : Nat) : Int)))) ∧ H 3 = (bk 1 3 1 [[(iV (n))]]) ∧ True) ?_ ?_
 ·
  unfold r48_3
  refine R_mv t0 ?_
  refine R_len (@rfl V (ints w)) ?_
  refine R_gtr (x := ((w.length : Nat) : Int)) (y := (1024 : Int)) (@rfl V (iV ((w.length : Nat) : Int))) (@rfl V (iV (1024 : Int))) ?_
  refine R_mv (@rfl V (V.bool (decide ((1024 : Int) < ((w.length : Nat) : Int))))) ?_
  exact R_nil ⟨t0, t3, rfl, h3, trivial⟩
 intro T H ⟨t0, t3, t9, h3, _⟩
 refine W_if (p := (1024 : Int) < ((w.length : Nat) : Int)) t9 (fun c3 => ?_) (fun c3 => ?_)
 ·
  refine W_seq_regc (fun T H => T 4 = (iV (3 : Int)) ∧ H 3 = (bk 1 3 1 [[(iV (n))]]) ∧ True) ?_ ?_
  ·
   unfold r48_4
   refine R_mv (@rfl V (iV (3 : Int))) ?_
   exact R_nil ⟨rfl, h3, trivial⟩
  intro T H ⟨t4, h3, _⟩
  refine W_ret ?_
  refine y1 _ _ ?_
  refine Ret_1 t4 (fz_int ?_)
  · rw [wchk, if_neg (by omega), if_pos (by omega)]
 refine W_seq_regc (fun T H => T 13 = (V.bool (decide (0 ≤ fi (fun j => (fun a => decide (a < 0 ∨ n ≤ a)) (nth w j)) 0 w.length))) ∧ H 3 = (bk 1 3 1 [[(iV (n))]]) ∧ True) ?_ ?_
 ·
  unfold r48_5
  refine R_mv t0 ?_
  refine R_mkf (evcons t3 evnil) ?_
  refine R_call (evcons (@rfl V (ints w)) (evcons (@rfl V (V.fn 82 [] [(V.mp 3 1 0 0)])) evnil)) (coni_pure (fun a => decide (a < 0 ∨ n ≤ a)) w 82 ([(V.pp [(iV (n))])]) (by simp) (by simp) (fun k _ => check1_pure (nth w k) n)) (mcons (fzv_canon 6 _ (by simp [-List.map_take, -List.map_drop, -List.map_append, -List.map_reverse])) (mcons (by simp [fzv, Blk.own, h3]) rfl)) (by simp [-List.map_take, -List.map_drop, -List.map_append, -List.map_reverse]) (Or.inr rfl) ?_
  refine R_mv (@rfl V (V.bool (decide (0 ≤ fi (fun j => (fun a => decide (a < 0 ∨ n ≤ a)) (nth w j)) 0 w.length)))) ?_
  exact R_nil ⟨rfl, h3, trivial⟩
 intro T H ⟨t13, h3, _⟩
 refine W_if (p := 0 ≤ fi (fun j => (fun a => decide (a < 0 ∨ n ≤ a)) (nth w j)) 0 w.length) t13 (fun c4 => ?_) (fun c4 => ?_)
 ·
  refine W_seq_regc (fun T H => T 4 = (iV (1 : Int)) ∧ H 3 = (bk 1 3 1 [[(iV (n))]]) ∧ True) ?_ ?_
  ·
   unfold r48_6
   refine R_mv (@rfl V (iV (1 : Int))) ?_
   exact R_nil ⟨rfl, h3, trivial⟩
  intro T H ⟨t4, h3, _⟩
  refine W_ret ?_
  refine y1 _ _ ?_
  refine Ret_1 t4 (fz_int ?_)
  · have e : (0 ≤ fi (fun j => (fun a => decide (a < 0 ∨ n ≤ a)) (nth w j)) 0 w.length ↔ fe (wE w n) 0 w.length = 1) ∧ (fe (wE w n) 0 w.length = 0 ∨ fe (wE w n) 0 w.length = 1) := in_fe w n w.length 0
    rw [wchk, if_neg (by omega), if_neg (by omega)]; omega
 refine W_skip ?_
 refine n1 _ _ ?_
 refine .done ?_
 refine W_seq_regc (fun T H => T 4 = (iV (0 : Int)) ∧ H 3 = (bk 1 3 1 [[(iV (n))]]) ∧ True) ?_ ?_
 ·
  unfold r48_7
  refine R_mv (@rfl V (iV (0 : Int))) ?_
  exact R_nil ⟨rfl, h3, trivial⟩
 intro T H ⟨t4, h3, _⟩
 refine W_ret ?_
 refine Ret_1 t4 (fz_int ?_)
 · have e : (0 ≤ fi (fun j => (fun a => decide (a < 0 ∨ n ≤ a)) (nth w j)) 0 w.length ↔ fe (wE w n) 0 w.length = 1) ∧ (fe (wE w n) 0 w.length = 0 ∨ fe (wE w n) 0 w.length = 1) := in_fe w n w.length 0
   rw [wchk, if_neg (by omega), if_neg (by omega)]; omega
end Go.Proofs.YtmnjchcoigbngaaGreat


namespace Go.Proofs.YtmnjchcoigbngaaGreat
open Go Go.Proofs
theorem leaf_pure (x : Nd) (hs : x.sf.length ≤ 1048576) (ho : x.ou.length ≤ 1048576) (hk : x.kd.length ≤ 1048576) : PureC Tryz.prog 34 [(V.agg (cN x))] (iV (lfE x)) := by
 refine pure_of_Wb true 6 Tryz.func34 s34_ok (by kernel_rfl) (by simp [s34]) (by simp) (by simp) fun hB => ?_
 simp only [bnd_map, bnd_int, bnd_bool, bnd_str, bnd_agg, bnd_pp, bnd_nil, bnd_cons, implies_true, and_true, true_and] at hB
 unfold s34
 dsimp only
 refine W_seq_regc (fun T H => T 1 = (V.mp 1 1 0 0) ∧ H 1 = (bk 1 68 5 [(cN x)]) ∧ True) ?_ ?_
 ·
  unfold r34_0
  refine R_box (i := 1) (n := 0) (m := 5) (cs := [(V.bool x.lf), (ints x.ac), (ints x.sf), (intss x.ou), (ints x.kd)]) rfl (congrArg Blk.ver rfl) (@rfl V (V.agg (cN x))) rfl rfl ?_
  refine R_mv (@rfl V (iV (0 : Int))) ?_
  exact R_nil ⟨rfl, rfl, trivial⟩
 intro T H ⟨t1, h1, _⟩
 refine W_seq_seq ?_
 refine W_seq_regc (fun T H => T 1 = (V.mp 1 1 0 0) ∧ T 14 = (V.bool (decide ((0 : Int) < ((x.sf.length + x.ou.length + x.kd.length : Nat) : Int)))) ∧ H 1 = (bk 1 68 5 [(cN x)]) ∧ True) ?_ ?_
 ·
  unfold r34_1
  refine R_fld_mp (o' := 2) t1 h1 (by first | rfl | simp [okB, Blk.own]) rfl ?_
  refine R_load_mp (v := (ints x.sf)) (@rfl V (V.mp 1 1 0 2)) h1 (by first | rfl | simp [ldB, ldV, Blk.own, V.one]) ?_
  refine R_len (@rfl V (ints x.sf)) ?_
  refine R_fld_mp (o' := 3) t1 h1 (by first | rfl | simp [okB, Blk.own]) rfl ?_
  refine R_load_mp (v := (intss x.ou)) (@rfl V (V.mp 1 1 0 3)) h1 (by first | rfl | simp [ldB, ldV, Blk.own, V.one]) ?_
  refine R_len (@rfl V (intss x.ou)) ?_
  refine R_addN (m := x.sf.length) (n := x.ou.length) (@rfl V (iV ((x.sf.length : Nat) : Int))) (@rfl V (iV ((x.ou.length : Nat) : Int))) (by omega) ?_
  refine R_fld_mp (o' := 4) t1 h1 (by first | rfl | simp [okB, Blk.own]) rfl ?_
  refine R_load_mp (v := (ints x.kd)) (@rfl V (V.mp 1 1 0 4)) h1 (by first | rfl | simp [ldB, ldV, Blk.own, V.one]) ?_
  refine R_len (@rfl V (ints x.kd)) ?_
  refine R_addN (m := (x.sf.length + x.ou.length)) (n := x.kd.length) (@rfl V (iV ((x.sf.length + x.ou.length : Nat) : Int))) (@rfl V (iV ((x.kd.length : Nat) : Int))) (by omega) ?_
  refine R_gtr (x := ((x.sf.length + x.ou.length + x.kd.length : Nat) : Int)) (y := (0 : Int)) (@rfl V (iV ((x.sf.length + x.ou.length + x.kd.length : Nat) : Int))) (@rfl V (iV (0 : Int))) ?_
  exact R_nil ⟨t1, rfl, h1, trivial⟩
 intro T H ⟨t1, t14, h1, _⟩
 refine W_seq_if (p := (0 : Int) < ((x.sf.length + x.ou.length + x.kd.length : Nat) : Int)) t14 (fun c1 => ?_) (fun c1 => ?_)
 ·
  refine W_seq_seq ?_
  refine W_seq_regc (fun T H => T 2 = (iV (1 : Int)) ∧ H 1 = (bk 1 68 5 [(cN x)]) ∧ True) ?_ ?_
  ·
   unfold r34_2
   refine R_mv (@rfl V (iV (1 : Int))) ?_
   exact R_nil ⟨rfl, h1, trivial⟩
  intro T H ⟨t2, h1, _⟩
  refine W_seq_ret ?_
  refine Ret_1 t2 (fz_int ?_)
  · rw [lfE, if_pos (by omega)]
 refine W_seq_skip ?_
 refine W_seq_regc (fun T H => T 2 = (iV (wchk x.ac ((64 : Int)))) ∧ H 1 = (bk 1 68 5 [(cN x)]) ∧ True) ?_ ?_
 ·
  unfold r34_3
  refine R_fld_mp (o' := 1) t1 h1 (by first | rfl | simp [okB, Blk.own]) rfl ?_
  refine R_load_mp (v := (ints x.ac)) (@rfl V (V.mp 1 1 0 1)) h1 (by first | rfl | simp [ldB, ldV, Blk.own, V.one]) ?_
  refine R_callc (evcons (@rfl V (ints x.ac)) (evcons (@rfl V (iV (64 : Int))) evnil)) (check_pure x.ac ((64 : Int))) ?_
  refine R_mv (@rfl V (iV (wchk x.ac ((64 : Int))))) ?_
  exact R_nil ⟨rfl, h1, trivial⟩
 intro T H ⟨t2, h1, _⟩
 refine W_ret ?_
 refine Ret_1 t2 (fz_int ?_)
 · rw [lfE, if_neg (by omega)]
end Go.Proofs.YtmnjchcoigbngaaGreat


namespace Go.Proofs.YtmnjchcoigbngaaGreat
open Go Go.Proofs
theorem values1_pure (o : Int) : PureC Tryz.prog 89 [(iV (o))] (V.bool (decide (o < 0 ∨ 1048576 < o))) := by
 refine pure_of_Wb true 6 Tryz.func89 s89_ok (by kernel_rfl) (by simp [s89]) (by simp) (by simp) fun hB => ?_
 simp only [bnd_map, bnd_int, bnd_bool, bnd_str, bnd_agg, bnd_pp, bnd_nil, bnd_cons, implies_true, and_true, true_and] at hB
 unfold s89
 dsimp only
 refine W_seq_regc (fun T H => T 0 = (iV (o)) ∧ True) ?_ ?_
 ·
  unfold r89_0
  refine R_mv (@rfl V (V.bool false)) ?_
  exact R_nil ⟨rfl, trivial⟩
 intro T H ⟨t0, _⟩
 refine W_seq_regc (fun T H => T 2 = (V.bool (decide (((o) < (0 : Int)) ∨ ((1048576 : Int) < (o))))) ∧ True) ?_ ?_
 ·
  unfold r89_1
  refine R_mv t0 ?_
  refine R_lss (x := (o)) (y := (0 : Int)) (@rfl V (iV (o))) (@rfl V (iV (0 : Int))) ?_
  refine R_mv (@rfl V (V.bool (decide ((o) < (0 : Int))))) ?_
  refine Ops_seg 3 (fun T H => T 8 = (V.bool (decide (((o) < (0 : Int)) ∨ ((1048576 : Int) < (o))))) ∧ True) ?_ ?_
  ·
   by_cases g1 : (o) < (0 : Int)
   ·
    refine G_no (Eq.trans (@rfl V (V.bool (decide ((o) < (0 : Int))))) (bdT g1)) (by decide) ?_
    refine G_no (Eq.trans (@rfl V (V.bool (decide ((o) < (0 : Int))))) (bdT g1)) (by decide) ?_
    refine R_pickT (Eq.trans (@rfl V (V.bool (decide ((o) < (0 : Int))))) (bdT g1)) (@rfl V (V.bool true)) ?_
    exact ⟨(Eq.trans (@rfl V (V.bool true)) (dec_orT g1)), trivial⟩
   ·
    refine G_yes (Eq.trans (@rfl V (V.bool (decide ((o) < (0 : Int))))) (bdF g1)) ?_
    refine R_mv t0 ?_
    refine G_yes (Eq.trans (@rfl V (V.bool (decide ((o) < (0 : Int))))) (bdF g1)) ?_
    refine R_gtr (x := (o)) (y := (1048576 : Int)) (@rfl V (iV (o))) (@rfl V (iV (1048576 : Int))) ?_
    refine R_pickF (Eq.trans (@rfl V (V.bool (decide ((o) < (0 : Int))))) (bdF g1)) (@rfl V (V.bool (decide ((1048576 : Int) < (o))))) ?_
    exact ⟨(Eq.trans (@rfl V (V.bool (decide ((1048576 : Int) < (o))))) (dec_orF g1)), trivial⟩
  intro T H ⟨t8, _⟩
  refine R_mv t8 ?_
  exact R_nil ⟨rfl, trivial⟩
 intro T H ⟨t2, _⟩
 refine W_ret ?_
 refine Ret_1 t2 (fz_bool ?_)
 · first | rfl | exact decide_eq_decide.2 (by omega)
end Go.Proofs.YtmnjchcoigbngaaGreat


namespace Go.Proofs.YtmnjchcoigbngaaGreat
open Go Go.Proofs
theorem values_pure (outs suffix : List Int) : PureC Tryz.prog 55 [(ints outs), (ints suffix)] (iV (vlE outs suffix)) := by
 refine pure_of_Wb true 6 Tryz.func55 s55_ok (by kernel_rfl) (by simp [s55]) (by simp) (by simp) fun hB => ?_
 simp only [bnd_map, bnd_int, bnd_bool, bnd_str, bnd_agg, bnd_pp, bnd_nil, bnd_cons, implies_true, and_true, true_and] at hB
 unfold s55
 dsimp only
 refine W_seq_regc (fun T H => T 0 = (ints outs) ∧ T 1 = (ints suffix) ∧ True) ?_ ?_
 ·
  unfold r55_0
  refine R_mv (@rfl V (iV (0 : Int))) ?_
  exact R_nil ⟨rfl, rfl, trivial⟩
 intro T H ⟨t0, t1, _⟩
 refine W_seq_seq ?_
 refine W_seq_regc (fun T H => T 0 = (ints outs) ∧ T 9 = (V.bool (decide (((outs.length : Nat) : Int) ≠ ((suffix.length : Nat) : Int)))) ∧ True) ?_ ?_
 ·
  unfold r55_1
  refine R_mv t0 ?_
  refine R_len (@rfl V (ints outs)) ?_
  refine R_mv t1 ?_
  refine R_len (@rfl V (ints suffix)) ?_
  refine R_neq (x := ((outs.length : Nat) : Int)) (y := ((suffix.length : Nat) : Int)) (@rfl V (iV ((outs.length : Nat) : Int))) (@rfl V (iV ((suffix.length : Nat) : Int))) ?_
  exact R_nil ⟨t0, rfl, trivial⟩
 intro T H ⟨t0, t9, _⟩
 refine W_seq_if (p := ((outs.length : Nat) : Int) ≠ ((suffix.length : Nat) : Int)) t9 (fun c1 => ?_) (fun c1 => ?_)
 ·
  refine W_seq_seq ?_
  refine W_seq_regc (fun T H => T 4 = (iV (1 : Int)) ∧ True) ?_ ?_
  ·
   unfold r55_2
   refine R_mv (@rfl V (iV (1 : Int))) ?_
   exact R_nil ⟨rfl, trivial⟩
  intro T H ⟨t4, _⟩
  refine W_seq_ret ?_
  refine Ret_1 t4 (fz_int ?_)
  · rw [vlE, if_pos (by omega)]
 refine W_seq_skip ?_
 refine W_seq_seq ?_
 refine W_seq_regc (fun T H => T 11 = (V.bool (decide (0 ≤ fi (fun j => (fun a => decide (a < 0 ∨ 1048576 < a)) (nth outs j)) 0 outs.length))) ∧ True) ?_ ?_
 ·
  unfold r55_3
  refine R_mv t0 ?_
  refine R_callc (evcons (@rfl V (ints outs)) (evcons (@rfl V (V.fn 89 [] [])) evnil)) (coni_pure (fun a => decide (a < 0 ∨ 1048576 < a)) outs 89 ([]) (by simp) (by simp) (fun k _ => values1_pure (nth outs k))) ?_
  exact R_nil ⟨rfl, trivial⟩
 intro T H ⟨t11, _⟩
 refine W_seq_if (p := 0 ≤ fi (fun j => (fun a => decide (a < 0 ∨ 1048576 < a)) (nth outs j)) 0 outs.length) t11 (fun c2 => ?_) (fun c2 => ?_)
 ·
  refine W_seq_seq ?_
  refine W_seq_regc (fun T H => T 4 = (iV (2 : Int)) ∧ True) ?_ ?_
  ·
   unfold r55_4
   refine R_mv (@rfl V (iV (2 : Int))) ?_
   exact R_nil ⟨rfl, trivial⟩
  intro T H ⟨t4, _⟩
  refine W_seq_ret ?_
  refine Ret_1 t4 (fz_int ?_)
  · have e := ou_fe outs
    rw [vlE, if_neg (by omega)]; omega
 refine W_seq_skip ?_
 refine W_seq_regc (fun T H => T 4 = (iV (0 : Int)) ∧ True) ?_ ?_
 ·
  unfold r55_5
  refine R_mv (@rfl V (iV (0 : Int))) ?_
  exact R_nil ⟨rfl, trivial⟩
 intro T H ⟨t4, _⟩
 refine W_ret ?_
 refine Ret_1 t4 (fz_int ?_)
 · have e := ou_fe outs
   rw [vlE, if_neg (by omega)]; omega
end Go.Proofs.YtmnjchcoigbngaaGreat


namespace Go.Proofs.YtmnjchcoigbngaaGreat
open Go Go.Proofs
theorem lex_pure (a b : List Int) : PureC Tryz.prog 66 [(ints a), (ints b)] (iV (lexI a b)) := by
 refine pure_of_Wb true 6 Tryz.func66 s66_ok (by kernel_rfl) (by simp [s66]) (by simp) (by simp) fun hB => ?_
 simp only [bnd_map, bnd_int, bnd_bool, bnd_str, bnd_agg, bnd_pp, bnd_nil, bnd_cons, implies_true, and_true, true_and] at hB
 unfold s66
 dsimp only
 refine W_seq_regc (fun T H => T 0 = (ints a) ∧ T 1 = (ints b) ∧ True) ?_ ?_
 ·
  unfold r66_0
  refine R_mv (@rfl V (iV (0 : Int))) ?_
  exact R_nil ⟨rfl, rfl, trivial⟩
 intro T H ⟨t0, t1, _⟩
 refine W_seq_regc (fun T H => T 4 = (iV (lexI a b)) ∧ True) ?_ ?_
 ·
  unfold r66_1
  refine R_mv t0 ?_
  refine R_mv t1 ?_
  refine R_callc (evcons (@rfl V (ints a)) (evcons (@rfl V (ints b)) evnil)) (scompare_pure a b) ?_
  refine R_mv (@rfl V (iV (lexI a b))) ?_
  exact R_nil ⟨rfl, trivial⟩
 intro T H ⟨t4, _⟩
 refine W_ret ?_
 refine Ret_1 t4 (fz_canon (by simp) rfl)
end Go.Proofs.YtmnjchcoigbngaaGreat


