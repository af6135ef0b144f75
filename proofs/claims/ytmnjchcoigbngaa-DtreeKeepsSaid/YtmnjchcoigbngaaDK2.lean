/- Contracts of the functions that the law DK reaches, and the law itself, for every input; no condition. -/
import Derived.KernelRfl
import Derived.Test.YtmnjchcoigbngaaProg
import Derived.Shelf.Spec.SlicesInsertGrow
import Derived.Shelf.Spec.SlicesGrow
import Derived.Test.YtmnjchcoigbngaaDK1
set_option linter.unusedSimpArgs false
set_option linter.unusedVariables false
namespace Go.Proofs.Ytmnjchcoigbngaa
open Go Go.Proofs
def r14_8 : List SO := [
 sO 31 (.fld 0 (.t 3)),
 sO 32 (.load false 1 (.t 31)),
 sO 33 (.mv (.t 11)),
 sO 34 (.idx 5 (.t 32) (.t 33)),
 sO 35 (.fld 0 (.t 34)),
 sO 36 (.load false 1 (.t 35)),
 sO 37 (.un .not (.t 36))]
def r14_9 : List SO := [
 sO 38 (.fld 0 (.t 3)),
 sO 39 (.load false 1 (.t 38)),
 sO 40 (.mv (.t 11)),
 sO 41 (.idx 5 (.t 39) (.t 40)),
 sO 42 (.load true 5 (.t 41)),
 sO 12 (.alloc 41 [.bool false, .nilsl, .nilsl, .nilsl, .nilsl]),
 sN (.store 5 (.t 12) (.t 42))]
def r14_14 : List SO := [
 sO 56 (.load true 2 (.t 4)),
 sO 57 (.mv (.t 13)),
 sO 58 (.call false 40 [.t 56, .t 57]),
 sO 55 (.mv (.t 58)),
 sO 59 (.ext (.t 55) 0),
 sO 60 (.ext (.t 55) 1),
 sO 15 (.mv (.t 59)),
 sO 16 (.mv (.t 60))]
def r14_17 : List SO := [
 sO 65 (.load true 5 (.t 12)),
 sO 66 (.mv (.t 15)),
 sO 67 (.mv (.t 2)),
 sO 68 (.len (.t 67)),
 sO 69 (.slice 1 (.t 66) (some (.t 68)) none),
 sO 70 (.call false 29 [.t 65, .t 69]),
 sO 64 (.mv (.t 70)),
 sO 71 (.ext (.t 64) 0),
 sO 72 (.ext (.t 64) 1),
 sO 17 (.mv (.t 71)),
 sO 18 (.mv (.t 72))]
def b14_0 : SC := .seq (.seq (.reg r14_8) (.cond (.t 37) (.skip) (.exit 0))) (.block 1 (.seq (.reg r14_9) (.seq (.reg [sO 43 (.mv (.t 2)), sO 44 (.fld 2 (.t 12)), sO 45 (.load false 1 (.t 44)), sO 46 (.bslice 25 1 false [.nilsl] 2 [(0, .t 43), (1, .t 45)]), sO 47 (.call false 23 [.t 46]), sO 13 (.mv (.t 47))]) (.seq (.seq (.reg [sO 48 (.mv (.t 13)), sO 49 (.fld 0 (.t 4)), sO 50 (.load false 1 (.t 49)), sO 51 (.call false 39 [.t 48, .t 50]), sO 14 (.mv (.t 51))]) (.seq (.reg [sO 52 (.mv (.t 14)), sO 53 (.bin .neq (.t 52) (.c (.int .i64 0)))]) (.cond (.t 53) (.seq (.reg [sO 54 (.mv (.t 14)), sO 6 (.mv (.c (.int .i64 0))), sO 7 (.mv (.c (.nilsl))), sO 8 (.mv (.t 54))]) (.ret)) (.skip)))) (.seq (.reg r14_14) (.seq (.seq (.reg [sO 61 (.mv (.t 16)), sO 62 (.un .not (.t 61))]) (.cond (.t 62) (.seq (.reg [sO 63 (.mv (.t 13)), sO 6 (.mv (.c (.int .i64 0))), sO 7 (.mv (.t 63)), sO 8 (.mv (.c (.int .i64 0)))]) (.ret)) (.skip))) (.seq (.reg r14_17) (.seq (.seq (.reg [sO 73 (.mv (.t 18)), sO 74 (.un .not (.t 73))]) (.cond (.t 74) (.exit 0) (.skip))) (.reg [sO 75 (.fld 4 (.t 12)), sO 76 (.load false 1 (.t 75)), sO 77 (.mv (.t 17)), sO 78 (.idx 1 (.t 76) (.t 77)), sO 79 (.load false 1 (.t 78)), sO 11 (.mv (.t 79))])))))))))
def s14 : SF := ⟨81, [.tmp 6, .tmp 7, .tmp 8], .seq (.reg [sO 3 (.box 24 1 (.t 0)), sO 4 (.box 49 2 (.t 1)), sO 6 (.mv (.c (.int .i64 0))), sO 7 (.mv (.c (.nilsl))), sO 8 (.mv (.c (.int .i64 0)))]) (.seq (.seq (.reg [sO 19 (.load true 1 (.t 3)), sO 20 (.call false 10 [.t 19]), sO 9 (.mv (.t 20))]) (.seq (.reg [sO 21 (.mv (.t 9)), sO 22 (.bin .neq (.t 21) (.c (.int .i64 0)))]) (.cond (.t 22) (.seq (.reg [sO 23 (.mv (.t 9)), sO 6 (.mv (.c (.int .i64 0))), sO 7 (.mv (.c (.nilsl))), sO 8 (.mv (.t 23))]) (.ret)) (.skip)))) (.seq (.seq (.reg [sO 24 (.mv (.t 2)), sO 25 (.fld 0 (.t 4)), sO 26 (.load false 1 (.t 25)), sO 27 (.call false 39 [.t 24, .t 26]), sO 10 (.mv (.t 27))]) (.seq (.reg [sO 28 (.mv (.t 10)), sO 29 (.bin .neq (.t 28) (.c (.int .i64 0)))]) (.cond (.t 29) (.seq (.reg [sO 30 (.mv (.t 10)), sO 6 (.mv (.c (.int .i64 0))), sO 7 (.mv (.c (.nilsl))), sO 8 (.mv (.t 30))]) (.ret)) (.skip)))) (.seq (.reg [sO 11 (.mv (.c (.int .i64 0)))]) (.seq (.block 0 (.loop b14_0)) (.seq (.reg [sO 80 (.mv (.t 11)), sO 6 (.mv (.t 80)), sO 7 (.mv (.c (.nilsl))), sO 8 (.mv (.c (.int .i64 0)))]) (.ret))))))⟩
theorem s14_ok : slimF Try.prog ⟨[22, 25, 26, 31, 32, 67, 68, 69, 73, 79, 81, 86], []⟩ Try.f14 = some s14 := by kernel_rfl
def r15_1 : List SO := [
 sO 8 (.fld 0 (.t 2)),
 sO 9 (.load false 1 (.t 8)),
 sO 10 (.len (.t 9)),
 sO 11 (.fld 0 (.t 3)),
 sO 12 (.load false 1 (.t 11)),
 sO 13 (.len (.t 12)),
 sO 14 (.bin .neq (.t 10) (.t 13))]
def r15_6 : List SO := [
 sO 22 (.fld 0 (.t 2)),
 sO 23 (.load false 1 (.t 22)),
 sO 24 (.mv (.t 5)),
 sO 25 (.idx 5 (.t 23) (.t 24)),
 sO 26 (.load true 5 (.t 25)),
 sO 27 (.fld 0 (.t 3)),
 sO 28 (.load false 1 (.t 27)),
 sO 29 (.mv (.t 5)),
 sO 30 (.idx 5 (.t 28) (.t 29)),
 sO 31 (.load true 5 (.t 30)),
 sO 6 (.alloc 41 [.bool false, .nilsl, .nilsl, .nilsl, .nilsl]),
 sO 7 (.alloc 41 [.bool false, .nilsl, .nilsl, .nilsl, .nilsl]),
 sN (.store 5 (.t 6) (.t 26)),
 sN (.store 5 (.t 7) (.t 31))]
def r15_7 : List SO := [
 sO 32 (.fld 0 (.t 6)),
 sO 33 (.load false 1 (.t 32)),
 sO 34 (.fld 0 (.t 7)),
 sO 35 (.load false 1 (.t 34)),
 sO 36 (.bbin .neq (.t 33) (.t 35)),
 sO 37 (.mv (.t 36)),
 ⟨some (37, false), some 38, .fld 1 (.t 6)⟩,
 ⟨some (37, false), some 39, .load false 1 (.t 38)⟩,
 ⟨some (37, false), some 40, .fld 1 (.t 7)⟩,
 ⟨some (37, false), some 41, .load false 1 (.t 40)⟩,
 ⟨some (37, false), some 42, .call false 17 [.t 39, .t 41]⟩,
 ⟨some (37, false), some 43, .un .not (.t 42)⟩,
 sO 44 (.pick (.t 37) (.c (.bool true)) (.t 43)),
 sO 45 (.mv (.t 44)),
 ⟨some (45, false), some 46, .fld 2 (.t 6)⟩,
 ⟨some (45, false), some 47, .load false 1 (.t 46)⟩,
 ⟨some (45, false), some 48, .fld 2 (.t 7)⟩,
 ⟨some (45, false), some 49, .load false 1 (.t 48)⟩,
 ⟨some (45, false), some 50, .call false 17 [.t 47, .t 49]⟩,
 ⟨some (45, false), some 51, .un .not (.t 50)⟩,
 sO 52 (.pick (.t 45) (.c (.bool true)) (.t 51)),
 sO 53 (.mv (.t 52)),
 ⟨some (53, false), some 54, .fld 3 (.t 6)⟩,
 ⟨some (53, false), some 55, .load false 1 (.t 54)⟩,
 ⟨some (53, false), some 56, .fld 3 (.t 7)⟩,
 ⟨some (53, false), some 57, .load false 1 (.t 56)⟩,
 ⟨some (53, false), some 58, .call false 41 [.t 55, .t 57]⟩,
 ⟨some (53, false), some 59, .un .not (.t 58)⟩,
 sO 60 (.pick (.t 53) (.c (.bool true)) (.t 59)),
 sO 61 (.mv (.t 60)),
 ⟨some (61, false), some 62, .fld 4 (.t 6)⟩,
 ⟨some (61, false), some 63, .load false 1 (.t 62)⟩,
 ⟨some (61, false), some 64, .fld 4 (.t 7)⟩,
 ⟨some (61, false), some 65, .load false 1 (.t 64)⟩,
 ⟨some (61, false), some 66, .call false 17 [.t 63, .t 65]⟩,
 ⟨some (61, false), some 67, .un .not (.t 66)⟩,
 sO 68 (.pick (.t 61) (.c (.bool true)) (.t 67))]
def b15_0 : SC := .seq (.seq (.reg [sO 15 (.mv (.t 5)), sO 16 (.fld 0 (.t 2)), sO 17 (.load false 1 (.t 16)), sO 18 (.len (.t 17)), sO 19 (.bin .lss (.t 15) (.t 18))]) (.cond (.t 19) (.skip) (.exit 0))) (.seq (.block 1 (.seq (.dreg [6, 7] r15_6) (.seq (.reg r15_7) (.cond (.t 68) (.seq (.reg [sO 4 (.mv (.c (.bool false)))]) (.ret)) (.skip))))) (.reg [sO 20 (.mv (.t 5)), sO 21 (.bin .add (.t 20) (.c (.int .i64 1))), sO 5 (.mv (.t 21))]))
def s15 : SF := ⟨69, [.tmp 4], .seq (.reg [sO 2 (.box 24 1 (.t 0)), sO 3 (.box 24 1 (.t 1)), sO 4 (.mv (.c (.bool false)))]) (.seq (.seq (.reg r15_1) (.cond (.t 14) (.seq (.reg [sO 4 (.mv (.c (.bool false)))]) (.ret)) (.skip))) (.seq (.seq (.reg [sO 5 (.mv (.c (.int .i64 0)))]) (.block 0 (.loop b15_0))) (.seq (.reg [sO 4 (.mv (.c (.bool true)))]) (.ret))))⟩
theorem s15_ok : slimF Try.prog ⟨[22, 25, 26, 31, 32, 67, 68, 69, 73, 79, 81, 86], []⟩ Try.f15 = some s15 := by kernel_rfl
def r16_1 : List SO := [
 sO 1 (.bslice 3 1 false [.int .i64 0] 1 [(0, .c (.int .i64 1))]),
 sO 2 (.bslice 3 1 false [.int .i64 0] 1 [(0, .c (.int .i64 0))]),
 sO 3 (.bslice 3 1 false [.int .i64 0] 1 [(0, .c (.int .i64 2))]),
 sO 4 (.bslice 25 1 false [.nilsl] 2 [(0, .t 2), (1, .t 3)]),
 sO 5 (.bslice 3 1 false [.int .i64 0] 2 [(0, .c (.int .i64 1)), (1, .c (.int .i64 2))]),
 sO 6 (.build [.bool false, .nilsl, .nilsl, .nilsl, .nilsl] [(2, 1, .t 1), (3, 1, .t 4), (4, 1, .t 5)]),
 sO 7 (.build [.bool false, .nilsl, .nilsl, .nilsl, .nilsl] [(0, 1, .c (.bool true))]),
 sO 8 (.bslice 3 1 false [.int .i64 0] 1 [(0, .c (.int .i64 0))]),
 sO 9 (.build [.bool false, .nilsl, .nilsl, .nilsl, .nilsl] [(0, 1, .c (.bool true)), (1, 1, .t 8)]),
 sO 10 (.bslice 41 5 false [.bool false, .nilsl, .nilsl, .nilsl, .nilsl] 3 [(0, .t 6), (1, .t 7), (2, .t 9)]),
 sO 11 (.build [.nilsl] [(0, 1, .t 10)]),
 sN (.store 1 (.t 0) (.t 11))]
def s16 : SF := ⟨12, [.cell 0 true 1], .seq (.reg [sO 0 (.alloc 24 [.nilsl])]) (.seq (.reg r16_1) (.ret))⟩
theorem s16_ok : slimF Try.prog ⟨[22, 25, 26, 31, 32, 67, 68, 69, 73, 79, 81, 86], []⟩ Try.f16 = some s16 := by kernel_rfl
def r17_6 : List SO := [
 sO 17 (.mv (.t 0)),
 sO 18 (.mv (.t 5)),
 sO 19 (.idx 1 (.t 17) (.t 18)),
 sO 20 (.load false 1 (.t 19)),
 sO 21 (.mv (.t 1)),
 sO 22 (.mv (.t 5)),
 sO 23 (.idx 1 (.t 21) (.t 22)),
 sO 24 (.load false 1 (.t 23)),
 sO 25 (.bin .neq (.t 20) (.t 24))]
def b17_0 : SC := .seq (.seq (.reg [sO 11 (.mv (.t 5)), sO 12 (.mv (.t 0)), sO 13 (.len (.t 12)), sO 14 (.bin .lss (.t 11) (.t 13))]) (.cond (.t 14) (.skip) (.exit 0))) (.seq (.block 1 (.seq (.reg r17_6) (.cond (.t 25) (.seq (.reg [sO 4 (.mv (.c (.bool false)))]) (.ret)) (.skip)))) (.reg [sO 15 (.mv (.t 5)), sO 16 (.bin .add (.t 15) (.c (.int .i64 1))), sO 5 (.mv (.t 16))]))
def s17 : SF := ⟨26, [.tmp 4], .seq (.reg [sO 4 (.mv (.c (.bool false)))]) (.seq (.seq (.reg [sO 6 (.mv (.t 0)), sO 7 (.len (.t 6)), sO 8 (.mv (.t 1)), sO 9 (.len (.t 8)), sO 10 (.bin .neq (.t 7) (.t 9))]) (.cond (.t 10) (.seq (.reg [sO 4 (.mv (.c (.bool false)))]) (.ret)) (.skip))) (.seq (.seq (.reg [sO 5 (.mv (.c (.int .i64 0)))]) (.block 0 (.loop b17_0))) (.seq (.reg [sO 4 (.mv (.c (.bool true)))]) (.ret))))⟩
theorem s17_ok : slimF Try.prog ⟨[22, 25, 26, 31, 32, 67, 68, 69, 73, 79, 81, 86], []⟩ Try.f17 = some s17 := by kernel_rfl
def r18_6 : List SO := [
 sO 17 (.mv (.t 0)),
 sO 18 (.mv (.t 5)),
 sO 19 (.idx 1 (.t 17) (.t 18)),
 sO 20 (.load false 1 (.t 19)),
 sO 21 (.mv (.t 1)),
 sO 22 (.mv (.t 5)),
 sO 23 (.idx 1 (.t 21) (.t 22)),
 sO 24 (.load false 1 (.t 23)),
 sO 25 (.call false 42 [.t 20, .t 24]),
 sO 26 (.un .not (.t 25))]
def b18_0 : SC := .seq (.seq (.reg [sO 11 (.mv (.t 5)), sO 12 (.mv (.t 0)), sO 13 (.len (.t 12)), sO 14 (.bin .lss (.t 11) (.t 13))]) (.cond (.t 14) (.skip) (.exit 0))) (.seq (.block 1 (.seq (.reg r18_6) (.cond (.t 26) (.seq (.reg [sO 4 (.mv (.c (.bool false)))]) (.ret)) (.skip)))) (.reg [sO 15 (.mv (.t 5)), sO 16 (.bin .add (.t 15) (.c (.int .i64 1))), sO 5 (.mv (.t 16))]))
def s18 : SF := ⟨27, [.tmp 4], .seq (.reg [sO 4 (.mv (.c (.bool false)))]) (.seq (.seq (.reg [sO 6 (.mv (.t 0)), sO 7 (.len (.t 6)), sO 8 (.mv (.t 1)), sO 9 (.len (.t 8)), sO 10 (.bin .neq (.t 7) (.t 9))]) (.cond (.t 10) (.seq (.reg [sO 4 (.mv (.c (.bool false)))]) (.ret)) (.skip))) (.seq (.seq (.reg [sO 5 (.mv (.c (.int .i64 0)))]) (.block 0 (.loop b18_0))) (.seq (.reg [sO 4 (.mv (.c (.bool true)))]) (.ret))))⟩
theorem s18_ok : slimF Try.prog ⟨[22, 25, 26, 31, 32, 67, 68, 69, 73, 79, 81, 86], []⟩ Try.f18 = some s18 := by kernel_rfl
def r20_6 : List SO := [
 sO 15 (.mv (.t 3)),
 sO 16 (.fld 1 (.t 5)),
 sO 17 (.load false 1 (.t 16)),
 sO 18 (.bslice 25 1 false [.nilsl] 1 [(0, .t 17)]),
 sO 19 (.call false 23 [.t 18]),
 sO 20 (.bslice 25 1 false [.nilsl] 1 [(0, .t 19)]),
 sO 21 (.append 25 1 24 (.t 15) (.t 20)),
 sO 3 (.mv (.t 21))]
def b20_0 : SC := .seq (.reg [sO 10 (.bin .lss (.t 9) (.t 8))]) (.seq (.cond (.t 10) (.skip) (.exit 0)) (.seq (.block 1 (.seq (.reg [sO 11 (.idx 5 (.t 7) (.t 9)), sO 12 (.load true 5 (.t 11)), sO 5 (.alloc 41 [.bool false, .nilsl, .nilsl, .nilsl, .nilsl]), sN (.store 5 (.t 5) (.t 12))]) (.seq (.reg [sO 13 (.fld 0 (.t 5)), sO 14 (.load false 1 (.t 13))]) (.cond (.t 14) (.reg r20_6) (.skip))))) (.reg [sO 22 (.bin .add (.t 9) (.c (.int .i64 1))), sO 9 (.mv (.t 22))])))
def s20 : SF := ⟨24, [.tmp 2], .seq (.reg [sO 1 (.box 24 1 (.t 0)), sO 2 (.mv (.c (.nilsl)))]) (.seq (.reg [sO 3 (.lazy 25 1)]) (.seq (.seq (.reg [sO 6 (.fld 0 (.t 1)), sO 7 (.load false 1 (.t 6)), sO 8 (.len (.t 7)), sO 9 (.mv (.c (.int .i64 0)))]) (.block 0 (.loop b20_0))) (.seq (.reg [sO 23 (.mv (.t 3)), sO 2 (.mv (.t 23))]) (.ret))))⟩
theorem s20_ok : slimF Try.prog ⟨[22, 25, 26, 31, 32, 67, 68, 69, 73, 79, 81, 86], [3]⟩ Try.f20 = some s20 := by kernel_rfl
def s21 : SF := ⟨59, [.tmp 12], .seq (.reg [sO 6 (.box 24 1 (.t 0)), sO 12 (.mv (.c (.int .i64 0)))]) (.seq (.seq (.reg [sO 18 (.load true 1 (.t 6)), sO 19 (.mv (.t 1)), sO 20 (.call false 27 [.t 18, .t 19, .c (.bool true)]), sO 13 (.mv (.t 20))]) (.seq (.reg [sO 21 (.mv (.t 13)), sO 22 (.bin .neq (.t 21) (.c (.int .i64 0)))]) (.cond (.t 22) (.seq (.reg [sO 23 (.mv (.t 13)), sO 12 (.mv (.t 23))]) (.ret)) (.skip)))) (.seq (.seq (.reg [sO 24 (.mv (.t 2)), sO 25 (.len (.t 24)), sO 26 (.bin .eql (.t 25) (.c (.int .i64 0)))]) (.cond (.t 26) (.seq (.reg [sO 12 (.mv (.c (.int .i64 19)))]) (.ret)) (.skip))) (.seq (.seq (.reg [sO 27 (.mv (.t 2)), sO 28 (.call false 39 [.t 27, .c (.int .i64 64)]), sO 14 (.mv (.t 28))]) (.seq (.reg [sO 29 (.mv (.t 14)), sO 30 (.bin .neq (.t 29) (.c (.int .i64 0)))]) (.cond (.t 30) (.seq (.reg [sO 31 (.mv (.t 14)), sO 12 (.mv (.t 31))]) (.ret)) (.skip)))) (.seq (.seq (.reg [sO 32 (.mv (.t 3)), sO 33 (.mv (.t 2)), sO 34 (.call false 28 [.t 32, .t 33]), sO 15 (.mv (.t 34))]) (.seq (.reg [sO 35 (.mv (.t 15)), sO 36 (.bin .neq (.t 35) (.c (.int .i64 0)))]) (.cond (.t 36) (.seq (.reg [sO 37 (.mv (.t 15)), sO 12 (.mv (.t 37))]) (.ret)) (.skip)))) (.seq (.seq (.reg [sO 38 (.load true 1 (.t 6)), sO 39 (.mv (.t 4)), sO 40 (.call false 30 [.t 38, .t 39]), sO 16 (.mv (.t 40))]) (.seq (.reg [sO 41 (.mv (.t 16)), sO 42 (.bin .neq (.t 41) (.c (.int .i64 0)))]) (.cond (.t 42) (.seq (.reg [sO 43 (.mv (.t 16)), sO 12 (.mv (.t 43))]) (.ret)) (.skip)))) (.seq (.seq (.reg [sO 44 (.mv (.t 5)), sO 45 (.mv (.t 2)), sO 46 (.call false 28 [.t 44, .t 45]), sO 17 (.mv (.t 46))]) (.seq (.reg [sO 47 (.mv (.t 17)), sO 48 (.bin .neq (.t 47) (.c (.int .i64 0)))]) (.cond (.t 48) (.seq (.reg [sO 49 (.mv (.t 17)), sO 12 (.mv (.t 49))]) (.ret)) (.skip)))) (.seq (.block 0 (.seq (.reg [sO 51 (.mv (.t 3)), sO 52 (.mv (.t 5)), sO 53 (.call false 45 [.t 51, .t 52]), sO 50 (.mv (.t 53))]) (.cond (.t 50) (.seq (.reg [sO 12 (.mv (.c (.int .i64 15)))]) (.ret)) (.seq (.reg [sO 55 (.fld 0 (.t 6)), sO 56 (.load false 1 (.t 55)), sO 57 (.len (.t 56)), sO 58 (.bin .gtr (.t 57) (.c (.int .i64 4094))), sO 54 (.mv (.t 58))]) (.cond (.t 54) (.seq (.reg [sO 12 (.mv (.c (.int .i64 11)))]) (.ret)) (.skip)))))) (.seq (.reg [sO 12 (.mv (.c (.int .i64 0)))]) (.ret)))))))))⟩
theorem s21_ok : slimF Try.prog ⟨[22, 25, 26, 31, 32, 67, 68, 69, 73, 79, 81, 86], []⟩ Try.f21 = some s21 := by kernel_rfl
def r22_10 : List SO := [
 sO 36 (.mv (.t 6)),
 sO 37 (.mv (.t 8)),
 sO 38 (.bslice 25 1 false [.nilsl] 1 [(0, .t 37)]),
 sO 39 (.call false 23 [.t 38]),
 sO 40 (.bslice 25 1 false [.nilsl] 1 [(0, .t 39)]),
 sO 41 (.append 25 1 24 (.t 36) (.t 40)),
 sO 6 (.mv (.t 41))]
def b22_1 : SC := .seq (.reg [sO 33 (.bin .lss (.t 32) (.t 31))]) (.seq (.cond (.t 33) (.skip) (.exit 2)) (.seq (.block 3 (.seq (.reg [sO 34 (.idx 1 (.t 30) (.t 32)), sO 35 (.load false 1 (.t 34)), sO 8 (.mv (.t 35))]) (.reg r22_10))) (.reg [sO 42 (.bin .add (.t 32) (.c (.int .i64 1))), sO 32 (.mv (.t 42))])))
def r22_12 : List SO := [
 sO 43 (.mv (.t 3)),
 sO 44 (.mv (.t 4)),
 sO 45 (.fld 0 (.t 5)),
 sO 46 (.load false 1 (.t 45)),
 sO 47 (.fld 1 (.t 5)),
 sO 48 (.load false 1 (.t 47)),
 sO 49 (.bslice 25 1 false [.nilsl] 1 [(0, .t 48)]),
 sO 50 (.call false 23 [.t 49]),
 sO 51 (.fld 2 (.t 5)),
 sO 52 (.load false 1 (.t 51)),
 sO 53 (.bslice 25 1 false [.nilsl] 1 [(0, .t 52)]),
 sO 54 (.call false 23 [.t 53]),
 sO 55 (.mv (.t 6)),
 sO 56 (.fld 4 (.t 5)),
 sO 57 (.load false 1 (.t 56)),
 sO 58 (.callA 46 [.t 57]),
 sO 59 (.build [.bool false, .nilsl, .nilsl, .nilsl, .nilsl] [(0, 1, .t 46), (1, 1, .t 50), (2, 1, .t 54), (3, 1, .t 55), (4, 1, .t 58)]),
 sO 60 (.idx 5 (.t 43) (.t 44)),
 sN (.store 5 (.t 60) (.t 59))]
def b22_0 : SC := .seq (.reg [sO 20 (.bin .lss (.t 19) (.t 18))]) (.seq (.cond (.t 20) (.skip) (.exit 0)) (.seq (.block 1 (.seq (.reg [sO 21 (.mv (.t 19)), sO 22 (.idx 5 (.t 17) (.t 19)), sO 23 (.load true 5 (.t 22)), sO 5 (.alloc 41 [.bool false, .nilsl, .nilsl, .nilsl, .nilsl]), sO 4 (.mv (.t 21)), sN (.store 5 (.t 5) (.t 23))]) (.seq (.reg [sO 24 (.fld 3 (.t 5)), sO 25 (.load false 1 (.t 24)), sO 26 (.len (.t 25)), sO 27 (.bin .add (.t 26) (.c (.int .i64 1))), sO 28 (.mks 25 1 24 [.nilsl] (.c (.int .i64 0)) (.t 27)), sO 6 (.mv (.t 28))]) (.seq (.seq (.reg [sO 29 (.fld 3 (.t 5)), sO 30 (.load false 1 (.t 29)), sO 31 (.len (.t 30)), sO 32 (.mv (.c (.int .i64 0)))]) (.block 2 (.loop b22_1))) (.dreg [58] r22_12))))) (.reg [sO 61 (.bin .add (.t 19) (.c (.int .i64 1))), sO 19 (.mv (.t 61))])))
def s22 : SF := ⟨64, [.cell 2 true 1], .seq (.reg [sO 1 (.box 24 1 (.t 0)), sO 2 (.alloc 24 [.nilsl])]) (.seq (.reg [sO 9 (.fld 0 (.t 1)), sO 10 (.load false 1 (.t 9)), sO 11 (.len (.t 10)), sO 12 (.mks 41 5 104 [.bool false, .nilsl, .nilsl, .nilsl, .nilsl] (.t 11) (.t 11)), sO 3 (.mv (.t 12))]) (.seq (.reg [sO 13 (.mv (.t 3)), sO 14 (.fld 0 (.t 1)), sO 15 (.load false 1 (.t 14)), sO 16 (.cpy 5 (.t 13) (.t 15))]) (.seq (.seq (.reg [sO 17 (.mv (.t 3)), sO 18 (.len (.t 17)), sO 19 (.mv (.c (.int .i64 0)))]) (.block 0 (.loop b22_0))) (.seq (.reg [sO 62 (.mv (.t 3)), sO 63 (.build [.nilsl] [(0, 1, .t 62)]), sN (.store 1 (.t 2) (.t 63))]) (.ret)))))⟩
theorem s22_ok : slimF Try.prog ⟨[22, 25, 26, 31, 32, 67, 68, 69, 73, 79, 81, 86], [58]⟩ Try.f22 = some s22 := by kernel_rfl
def s23 : SF := ⟨5, [.tmp 2], .seq (.reg [sO 2 (.mv (.c (.nilsl)))]) (.seq (.reg [sO 3 (.mv (.t 0)), sO 4 (.call false 47 [.t 3]), sO 2 (.mv (.t 4))]) (.ret))⟩
theorem s23_ok : slimF Try.prog ⟨[22, 25, 26, 31, 32, 67, 68, 69, 73, 79, 81, 86], []⟩ Try.f23 = some s23 := by kernel_rfl
def s24 : SF := ⟨8, [.tmp 4], .seq (.reg [sO 4 (.mv (.c (.int .i64 0)))]) (.seq (.reg [sO 5 (.mv (.t 0)), sO 6 (.mv (.t 1)), sO 7 (.call false 48 [.t 5, .t 6]), sO 4 (.mv (.t 7))]) (.ret))⟩
theorem s24_ok : slimF Try.prog ⟨[22, 25, 26, 31, 32, 67, 68, 69, 73, 79, 81, 86], []⟩ Try.f24 = some s24 := by kernel_rfl
def r25_3 : List SO := [
 sO 14 (.mv (.t 0)),
 sO 15 (.mv (.t 2)),
 sO 16 (.mv (.t 0)),
 sO 17 (.mv (.t 3)),
 sO 18 (.mv (.t 0)),
 sO 19 (.mv (.t 3)),
 sO 20 (.idx 1 (.t 18) (.t 19)),
 sO 21 (.load false 1 (.t 20)),
 sO 22 (.mv (.t 0)),
 sO 23 (.mv (.t 2)),
 sO 24 (.idx 1 (.t 22) (.t 23)),
 sO 25 (.load false 1 (.t 24)),
 sO 26 (.idx 1 (.t 14) (.t 15)),
 sN (.store 1 (.t 26) (.t 21)),
 sO 27 (.idx 1 (.t 16) (.t 17)),
 sN (.store 1 (.t 27) (.t 25))]
def b25_0 : SC := .seq (.seq (.reg [sO 7 (.mv (.t 2)), sO 8 (.mv (.t 3)), sO 9 (.bin .lss (.t 7) (.t 8))]) (.cond (.t 9) (.skip) (.exit 0))) (.seq (.block 1 (.reg r25_3)) (.reg [sO 10 (.mv (.t 2)), sO 11 (.bin .add (.t 10) (.c (.int .i64 1))), sO 12 (.mv (.t 3)), sO 13 (.bin .sub (.t 12) (.c (.int .i64 1))), sO 2 (.mv (.t 11)), sO 3 (.mv (.t 13))]))
def s25 : SF := ⟨28, [], .seq (.reg [sO 4 (.mv (.t 0)), sO 5 (.len (.t 4)), sO 6 (.bin .sub (.t 5) (.c (.int .i64 1))), sO 2 (.mv (.c (.int .i64 0))), sO 3 (.mv (.t 6))]) (.block 0 (.loop b25_0))⟩
theorem s25_ok : slimF Try.prog ⟨[22, 25, 26, 31, 32, 67, 68, 69, 73, 79, 81, 86], []⟩ Try.f25 = some s25 := by kernel_rfl
def r26_3 : List SO := [
 sO 14 (.mv (.t 0)),
 sO 15 (.mv (.t 2)),
 sO 16 (.mv (.t 0)),
 sO 17 (.mv (.t 3)),
 sO 18 (.mv (.t 0)),
 sO 19 (.mv (.t 3)),
 sO 20 (.idx 1 (.t 18) (.t 19)),
 sO 21 (.load false 1 (.t 20)),
 sO 22 (.mv (.t 0)),
 sO 23 (.mv (.t 2)),
 sO 24 (.idx 1 (.t 22) (.t 23)),
 sO 25 (.load false 1 (.t 24)),
 sO 26 (.idx 1 (.t 14) (.t 15)),
 sN (.store 1 (.t 26) (.t 21)),
 sO 27 (.idx 1 (.t 16) (.t 17)),
 sN (.store 1 (.t 27) (.t 25))]
def b26_0 : SC := .seq (.seq (.reg [sO 7 (.mv (.t 2)), sO 8 (.mv (.t 3)), sO 9 (.bin .lss (.t 7) (.t 8))]) (.cond (.t 9) (.skip) (.exit 0))) (.seq (.block 1 (.reg r26_3)) (.reg [sO 10 (.mv (.t 2)), sO 11 (.bin .add (.t 10) (.c (.int .i64 1))), sO 12 (.mv (.t 3)), sO 13 (.bin .sub (.t 12) (.c (.int .i64 1))), sO 2 (.mv (.t 11)), sO 3 (.mv (.t 13))]))
def s26 : SF := ⟨28, [], .seq (.reg [sO 4 (.mv (.t 0)), sO 5 (.len (.t 4)), sO 6 (.bin .sub (.t 5) (.c (.int .i64 1))), sO 2 (.mv (.c (.int .i64 0))), sO 3 (.mv (.t 6))]) (.block 0 (.loop b26_0))⟩
theorem s26_ok : slimF Try.prog ⟨[22, 25, 26, 31, 32, 67, 68, 69, 73, 79, 81, 86], []⟩ Try.f26 = some s26 := by kernel_rfl
def r27_1 : List SO := [
 sO 8 (.mv (.t 1)),
 sO 9 (.bin .lss (.t 8) (.c (.int .i64 0))),
 sO 10 (.mv (.t 9)),
 ⟨some (10, false), some 11, .mv (.t 1)⟩,
 ⟨some (10, false), some 12, .fld 0 (.t 3)⟩,
 ⟨some (10, false), some 13, .load false 1 (.t 12)⟩,
 ⟨some (10, false), some 14, .len (.t 13)⟩,
 ⟨some (10, false), some 15, .bin .geq (.t 11) (.t 14)⟩,
 sO 16 (.pick (.t 10) (.c (.bool true)) (.t 15)),
 sO 7 (.mv (.t 16))]
def r27_3 : List SO := [
 sO 18 (.fld 0 (.t 3)),
 sO 19 (.load false 1 (.t 18)),
 sO 20 (.mv (.t 1)),
 sO 21 (.idx 5 (.t 19) (.t 20)),
 sO 22 (.fld 0 (.t 21)),
 sO 23 (.load false 1 (.t 22)),
 sO 24 (.mv (.t 2)),
 sO 25 (.bbin .neq (.t 23) (.t 24)),
 sO 17 (.mv (.t 25))]
def s27 : SF := ⟨26, [.tmp 6], .seq (.reg [sO 3 (.box 24 1 (.t 0)), sO 6 (.mv (.c (.int .i64 0)))]) (.seq (.block 0 (.seq (.reg r27_1) (.cond (.t 7) (.seq (.reg [sO 6 (.mv (.c (.int .i64 2)))]) (.ret)) (.seq (.reg r27_3) (.cond (.t 17) (.seq (.reg [sO 6 (.mv (.c (.int .i64 10)))]) (.ret)) (.skip)))))) (.seq (.reg [sO 6 (.mv (.c (.int .i64 0)))]) (.ret)))⟩
theorem s27_ok : slimF Try.prog ⟨[22, 25, 26, 31, 32, 67, 68, 69, 73, 79, 81, 86], []⟩ Try.f27 = some s27 := by kernel_rfl
def s28 : SF := ⟨12, [.tmp 4], .seq (.reg [sO 4 (.mv (.c (.int .i64 0)))]) (.seq (.seq (.reg [sO 5 (.mv (.t 0)), sO 6 (.len (.t 5)), sO 7 (.mv (.t 1)), sO 8 (.len (.t 7)), sO 9 (.bin .neq (.t 6) (.t 8))]) (.cond (.t 9) (.seq (.reg [sO 4 (.mv (.c (.int .i64 1)))]) (.ret)) (.skip))) (.seq (.seq (.reg [sO 10 (.mv (.t 0)), sO 11 (.call false 49 [.t 10, .c (.fn 50 [] [])])]) (.cond (.t 11) (.seq (.reg [sO 4 (.mv (.c (.int .i64 2)))]) (.ret)) (.skip))) (.seq (.reg [sO 4 (.mv (.c (.int .i64 0)))]) (.ret))))⟩
theorem s28_ok : slimF Try.prog ⟨[22, 25, 26, 31, 32, 67, 68, 69, 73, 79, 81, 86], []⟩ Try.f28 = some s28 := by kernel_rfl
def r29_1 : List SO := [
 sO 6 (.fld 3 (.t 2)),
 sO 7 (.load false 1 (.t 6)),
 sO 8 (.mv (.t 1)),
 sO 9 (.call false 51 [.t 7, .t 8, .c (.fn 24 [] [])]),
 sO 10 (.ext (.t 9) 0),
 sO 11 (.ext (.t 9) 1),
 sO 4 (.mv (.t 10)),
 sO 5 (.mv (.t 11))]
def s29 : SF := ⟨12, [.tmp 4, .tmp 5], .seq (.reg [sO 2 (.box 41 5 (.t 0)), sO 4 (.mv (.c (.int .i64 0))), sO 5 (.mv (.c (.bool false)))]) (.seq (.reg r29_1) (.ret))⟩
theorem s29_ok : slimF Try.prog ⟨[22, 25, 26, 31, 32, 67, 68, 69, 73, 79, 81, 86], []⟩ Try.f29 = some s29 := by kernel_rfl
def s30 : SF := ⟨15, [.tmp 4], .seq (.reg [sO 2 (.box 24 1 (.t 0)), sO 4 (.mv (.c (.int .i64 0)))]) (.seq (.seq (.reg [sO 6 (.mv (.t 1)), sO 7 (.call false 39 [.t 6, .c (.int .i64 64)]), sO 5 (.mv (.t 7))]) (.seq (.reg [sO 8 (.mv (.t 5)), sO 9 (.bin .neq (.t 8) (.c (.int .i64 0)))]) (.cond (.t 9) (.seq (.reg [sO 10 (.mv (.t 5)), sO 4 (.mv (.t 10))]) (.ret)) (.skip)))) (.seq (.seq (.reg [sO 11 (.load true 1 (.t 2)), sO 12 (.call false 20 [.t 11]), sO 13 (.mv (.t 1)), sO 14 (.call false 52 [.t 12, .t 13])]) (.cond (.t 14) (.seq (.reg [sO 4 (.mv (.c (.int .i64 7)))]) (.ret)) (.skip))) (.seq (.reg [sO 4 (.mv (.c (.int .i64 0)))]) (.ret))))⟩
theorem s30_ok : slimF Try.prog ⟨[22, 25, 26, 31, 32, 67, 68, 69, 73, 79, 81, 86], []⟩ Try.f30 = some s30 := by kernel_rfl
def r33_1 : List SO := [
 sO 3 (.fld 2 (.t 1)),
 sO 4 (.load false 1 (.t 3)),
 sO 5 (.len (.t 4)),
 sO 6 (.fld 3 (.t 1)),
 sO 7 (.load false 1 (.t 6)),
 sO 8 (.len (.t 7)),
 sO 9 (.bin .add (.t 5) (.t 8)),
 sO 10 (.fld 4 (.t 1)),
 sO 11 (.load false 1 (.t 10)),
 sO 12 (.len (.t 11)),
 sO 13 (.bin .add (.t 9) (.t 12)),
 sO 14 (.bin .gtr (.t 13) (.c (.int .i64 0)))]
def s33 : SF := ⟨18, [.tmp 2], .seq (.reg [sO 1 (.box 41 5 (.t 0)), sO 2 (.mv (.c (.int .i64 0)))]) (.seq (.seq (.reg r33_1) (.cond (.t 14) (.seq (.reg [sO 2 (.mv (.c (.int .i64 1)))]) (.ret)) (.skip))) (.seq (.reg [sO 15 (.fld 1 (.t 1)), sO 16 (.load false 1 (.t 15)), sO 17 (.call false 39 [.t 16, .c (.int .i64 64)]), sO 2 (.mv (.t 17))]) (.ret)))⟩
theorem s33_ok : slimF Try.prog ⟨[22, 25, 26, 31, 32, 67, 68, 69, 73, 79, 81, 86], []⟩ Try.f33 = some s33 := by kernel_rfl
def r34_8 : List SO := [
 sO 25 (.fld 3 (.t 2)),
 sO 26 (.load false 1 (.t 25)),
 sO 27 (.len (.t 26)),
 sO 28 (.fld 4 (.t 2)),
 sO 29 (.load false 1 (.t 28)),
 sO 30 (.len (.t 29)),
 sO 31 (.bin .neq (.t 27) (.t 30))]
def r34_16 : List SO := [
 sO 47 (.mv (.t 6)),
 sO 48 (.bin .gtr (.t 47) (.c (.int .i64 0))),
 sO 49 (.mv (.t 48)),
 ⟨some (49, true), some 50, .fld 3 (.t 2)⟩,
 ⟨some (49, true), some 51, .load false 1 (.t 50)⟩,
 ⟨some (49, true), some 52, .mv (.t 6)⟩,
 ⟨some (49, true), some 53, .bin .sub (.t 52) (.c (.int .i64 1))⟩,
 ⟨some (49, true), some 54, .idx 1 (.t 51) (.t 53)⟩,
 ⟨some (49, true), some 55, .load false 1 (.t 54)⟩,
 ⟨some (49, true), some 56, .mv (.t 7)⟩,
 ⟨some (49, true), some 57, .call false 24 [.t 55, .t 56]⟩,
 ⟨some (49, true), some 58, .bin .geq (.t 57) (.c (.int .i64 0))⟩,
 sO 59 (.pick (.t 49) (.t 58) (.c (.bool false)))]
def r34_18 : List SO := [
 sO 60 (.fld 4 (.t 2)),
 sO 61 (.load false 1 (.t 60)),
 sO 62 (.mv (.t 6)),
 sO 63 (.idx 1 (.t 61) (.t 62)),
 sO 64 (.load false 1 (.t 63)),
 sO 65 (.bin .lss (.t 64) (.c (.int .i64 0))),
 sO 66 (.mv (.t 65)),
 ⟨some (66, false), some 67, .fld 4 (.t 2)⟩,
 ⟨some (66, false), some 68, .load false 1 (.t 67)⟩,
 ⟨some (66, false), some 69, .mv (.t 6)⟩,
 ⟨some (66, false), some 70, .idx 1 (.t 68) (.t 69)⟩,
 ⟨some (66, false), some 71, .load false 1 (.t 70)⟩,
 ⟨some (66, false), some 72, .mv (.t 1)⟩,
 ⟨some (66, false), some 73, .bin .geq (.t 71) (.t 72)⟩,
 sO 74 (.pick (.t 66) (.c (.bool true)) (.t 73))]
def b34_0 : SC := .seq (.reg [sO 36 (.bin .lss (.t 35) (.t 34))]) (.seq (.cond (.t 36) (.skip) (.exit 1)) (.seq (.block 2 (.seq (.reg [sO 37 (.mv (.t 35)), sO 38 (.idx 1 (.t 33) (.t 35)), sO 39 (.load false 1 (.t 38)), sO 6 (.mv (.t 37)), sO 7 (.mv (.t 39))]) (.seq (.seq (.reg [sO 40 (.mv (.t 7)), sO 41 (.fld 2 (.t 2)), sO 42 (.load false 1 (.t 41)), sO 43 (.call false 28 [.t 40, .t 42]), sO 8 (.mv (.t 43))]) (.seq (.reg [sO 44 (.mv (.t 8)), sO 45 (.bin .neq (.t 44) (.c (.int .i64 0)))]) (.cond (.t 45) (.seq (.reg [sO 46 (.mv (.t 8)), sO 4 (.mv (.t 46))]) (.ret)) (.skip)))) (.seq (.seq (.reg r34_16) (.cond (.t 59) (.seq (.reg [sO 4 (.mv (.c (.int .i64 10)))]) (.ret)) (.skip))) (.seq (.reg r34_18) (.cond (.t 74) (.seq (.reg [sO 4 (.mv (.c (.int .i64 2)))]) (.ret)) (.skip))))))) (.reg [sO 75 (.bin .add (.t 35) (.c (.int .i64 1))), sO 35 (.mv (.t 75))])))
def s34 : SF := ⟨76, [.tmp 4], .seq (.reg [sO 2 (.box 41 5 (.t 0)), sO 4 (.mv (.c (.int .i64 0)))]) (.seq (.block 0 (.seq (.reg [sO 10 (.fld 1 (.t 2)), sO 11 (.load false 1 (.t 10)), sO 12 (.len (.t 11)), sO 13 (.bin .gtr (.t 12) (.c (.int .i64 0))), sO 9 (.mv (.t 13))]) (.cond (.t 9) (.seq (.reg [sO 4 (.mv (.c (.int .i64 1)))]) (.ret)) (.seq (.reg [sO 15 (.fld 2 (.t 2)), sO 16 (.load false 1 (.t 15)), sO 17 (.len (.t 16)), sO 18 (.bin .eql (.t 17) (.c (.int .i64 0))), sO 14 (.mv (.t 18))]) (.cond (.t 14) (.seq (.reg [sO 4 (.mv (.c (.int .i64 19)))]) (.ret)) (.skip)))))) (.seq (.seq (.reg [sO 19 (.fld 2 (.t 2)), sO 20 (.load false 1 (.t 19)), sO 21 (.call false 39 [.t 20, .c (.int .i64 64)]), sO 5 (.mv (.t 21))]) (.seq (.reg [sO 22 (.mv (.t 5)), sO 23 (.bin .neq (.t 22) (.c (.int .i64 0)))]) (.cond (.t 23) (.seq (.reg [sO 24 (.mv (.t 5)), sO 4 (.mv (.t 24))]) (.ret)) (.skip)))) (.seq (.seq (.reg r34_8) (.cond (.t 31) (.seq (.reg [sO 4 (.mv (.c (.int .i64 1)))]) (.ret)) (.skip))) (.seq (.seq (.reg [sO 32 (.fld 3 (.t 2)), sO 33 (.load false 1 (.t 32)), sO 34 (.len (.t 33)), sO 35 (.mv (.c (.int .i64 0)))]) (.block 1 (.loop b34_0))) (.seq (.reg [sO 4 (.mv (.c (.int .i64 0)))]) (.ret))))))⟩
theorem s34_ok : slimF Try.prog ⟨[22, 25, 26, 31, 32, 67, 68, 69, 73, 79, 81, 86], []⟩ Try.f34 = some s34 := by kernel_rfl
def r35_10 : List SO := [
 sO 29 (.mv (.t 4)),
 sO 30 (.fld 0 (.t 1)),
 sO 31 (.load false 1 (.t 30)),
 sO 32 (.mv (.t 6)),
 sO 33 (.idx 5 (.t 31) (.t 32)),
 sO 34 (.fld 4 (.t 33)),
 sO 35 (.load false 1 (.t 34)),
 sO 36 (.append 3 1 8 (.t 29) (.t 35)),
 sO 4 (.mv (.t 36))]
def b35_0 : SC := .seq (.seq (.reg [sO 12 (.mv (.t 5)), sO 13 (.mv (.t 4)), sO 14 (.len (.t 13)), sO 15 (.bin .lss (.t 12) (.t 14))]) (.cond (.t 15) (.skip) (.exit 0))) (.seq (.block 1 (.seq (.reg [sO 18 (.mv (.t 4)), sO 19 (.mv (.t 5)), sO 20 (.idx 1 (.t 18) (.t 19)), sO 21 (.load false 1 (.t 20)), sO 6 (.mv (.t 21))]) (.seq (.seq (.reg [sO 22 (.mv (.t 3)), sO 23 (.mv (.t 6)), sO 24 (.idx 1 (.t 22) (.t 23)), sO 25 (.load false 1 (.t 24))]) (.cond (.t 25) (.seq (.reg [sO 2 (.mv (.c (.bool false)))]) (.ret)) (.skip))) (.seq (.reg [sO 26 (.mv (.t 3)), sO 27 (.mv (.t 6)), sO 28 (.idx 1 (.t 26) (.t 27)), sN (.store 1 (.t 28) (.c (.bool true)))]) (.seq (.reg r35_10) (.seq (.reg [sO 37 (.mv (.t 4)), sO 38 (.len (.t 37)), sO 39 (.fld 0 (.t 1)), sO 40 (.load false 1 (.t 39)), sO 41 (.len (.t 40)), sO 42 (.bin .gtr (.t 38) (.t 41))]) (.cond (.t 42) (.seq (.reg [sO 2 (.mv (.c (.bool false)))]) (.ret)) (.skip)))))))) (.reg [sO 16 (.mv (.t 5)), sO 17 (.bin .add (.t 16) (.c (.int .i64 1))), sO 5 (.mv (.t 17))]))
def r35_13 : List SO := [
 sO 43 (.mv (.t 4)),
 sO 44 (.len (.t 43)),
 sO 45 (.fld 0 (.t 1)),
 sO 46 (.load false 1 (.t 45)),
 sO 47 (.len (.t 46)),
 sO 48 (.bin .eql (.t 44) (.t 47)),
 sO 2 (.mv (.t 48))]
def s35 : SF := ⟨49, [.tmp 2], .seq (.reg [sO 1 (.box 24 1 (.t 0)), sO 2 (.mv (.c (.bool false)))]) (.seq (.reg [sO 7 (.fld 0 (.t 1)), sO 8 (.load false 1 (.t 7)), sO 9 (.len (.t 8)), sO 10 (.mks 4 1 1 [.bool false] (.t 9) (.t 9)), sO 3 (.mv (.t 10))]) (.seq (.reg [sO 11 (.bslice 3 1 true [.int .i64 0] 1 [(0, .c (.int .i64 0))]), sO 4 (.mv (.t 11))]) (.seq (.seq (.reg [sO 5 (.mv (.c (.int .i64 0)))]) (.block 0 (.loop b35_0))) (.seq (.reg r35_13) (.ret)))))⟩
theorem s35_ok : slimF Try.prog ⟨[22, 25, 26, 31, 32, 67, 68, 69, 73, 79, 81, 86], [11]⟩ Try.f35 = some s35 := by kernel_rfl
def b37_0 : SC := .seq (.seq (.reg [sO 8 (.load false 1 (.t 3)), sO 9 (.bin .neq (.t 8) (.c (.int .i64 0)))]) (.cond (.t 9) (.skip) (.exit 0))) (.block 1 (.seq (.reg [sO 10 (.fld 0 (.t 2)), sO 11 (.load false 1 (.t 10)), sO 12 (.mkf 59 [.t 3]), sO 13 (.call false 58 [.t 11, .t 12]), sN (.store 1 (.t 3) (.t 13))]) (.reg [sO 14 (.mv (.t 5)), sO 15 (.load false 1 (.t 3)), sO 16 (.bslice 3 1 false [.int .i64 0] 1 [(0, .t 15)]), sO 17 (.append 3 1 8 (.t 14) (.t 16)), sO 5 (.mv (.t 17))])))
def s37 : SF := ⟨21, [.tmp 4], .seq (.reg [sO 2 (.box 24 1 (.t 0)), sO 3 (.box 3 1 (.t 1)), sO 4 (.mv (.c (.nilsl)))]) (.seq (.reg [sO 6 (.load false 1 (.t 3)), sO 7 (.bslice 3 1 true [.int .i64 0] 1 [(0, .t 6)]), sO 5 (.mv (.t 7))]) (.seq (.block 0 (.loop b37_0)) (.seq (.reg [sO 18 (.mv (.t 5)), sO 19 (.call true 26 [.t 18])]) (.seq (.reg [sO 20 (.mv (.t 5)), sO 4 (.mv (.t 20))]) (.ret)))))⟩
theorem s37_ok : slimF Try.prog ⟨[22, 25, 26, 31, 32, 67, 68, 69, 73, 79, 81, 86], [7]⟩ Try.f37 = some s37 := by kernel_rfl
def r38_4 : List SO := [
 sO 14 (.mv (.t 0)),
 sO 15 (.mv (.t 5)),
 sO 16 (.idx 1 (.t 14) (.t 15)),
 sO 17 (.load false 1 (.t 16)),
 sO 18 (.mv (.t 1)),
 sO 19 (.mv (.t 5)),
 sO 20 (.idx 1 (.t 18) (.t 19)),
 sO 21 (.load false 1 (.t 20)),
 sO 22 (.bin .neq (.t 17) (.t 21))]
def b38_0 : SC := .seq (.reg [sO 12 (.bin .lss (.t 11) (.t 10))]) (.seq (.cond (.t 12) (.skip) (.exit 0)) (.seq (.block 1 (.seq (.reg [sO 13 (.mv (.t 11)), sO 5 (.mv (.t 13))]) (.seq (.reg r38_4) (.cond (.t 22) (.seq (.reg [sO 23 (.mv (.t 5)), sO 4 (.mv (.t 23))]) (.ret)) (.skip))))) (.reg [sO 24 (.bin .add (.t 11) (.c (.int .i64 1))), sO 11 (.mv (.t 24))])))
def s38 : SF := ⟨30, [.tmp 4], .seq (.reg [sO 4 (.mv (.c (.int .i64 0)))]) (.seq (.seq (.reg [sO 6 (.mv (.t 0)), sO 7 (.len (.t 6)), sO 8 (.mv (.t 1)), sO 9 (.len (.t 8)), sO 10 (.mn (.t 7) (.t 9)), sO 11 (.mv (.c (.int .i64 0)))]) (.block 0 (.loop b38_0))) (.seq (.reg [sO 25 (.mv (.t 0)), sO 26 (.len (.t 25)), sO 27 (.mv (.t 1)), sO 28 (.len (.t 27)), sO 29 (.mn (.t 26) (.t 28)), sO 4 (.mv (.t 29))]) (.ret)))⟩
theorem s38_ok : slimF Try.prog ⟨[22, 25, 26, 31, 32, 67, 68, 69, 73, 79, 81, 86], []⟩ Try.f38 = some s38 := by kernel_rfl
def s39 : SF := ⟨17, [.tmp 4], .seq (.reg [sO 3 (.box 3 1 (.t 1)), sO 4 (.mv (.c (.int .i64 0)))]) (.seq (.block 0 (.seq (.reg [sO 6 (.load false 1 (.t 3)), sO 7 (.call false 61 [.t 6]), sO 8 (.un .not (.t 7)), sO 5 (.mv (.t 8))]) (.cond (.t 5) (.seq (.reg [sO 4 (.mv (.c (.int .i64 2)))]) (.ret)) (.seq (.reg [sO 10 (.mv (.t 0)), sO 11 (.len (.t 10)), sO 12 (.bin .gtr (.t 11) (.c (.int .i64 1024))), sO 9 (.mv (.t 12))]) (.cond (.t 9) (.seq (.reg [sO 4 (.mv (.c (.int .i64 3)))]) (.ret)) (.seq (.reg [sO 14 (.mv (.t 0)), sO 15 (.mkf 62 [.t 3]), sO 16 (.call false 49 [.t 14, .t 15]), sO 13 (.mv (.t 16))]) (.cond (.t 13) (.seq (.reg [sO 4 (.mv (.c (.int .i64 1)))]) (.ret)) (.skip)))))))) (.seq (.reg [sO 4 (.mv (.c (.int .i64 0)))]) (.ret)))⟩
theorem s39_ok : slimF Try.prog ⟨[22, 25, 26, 31, 32, 67, 68, 69, 73, 79, 81, 86], []⟩ Try.f39 = some s39 := by kernel_rfl
def r40_6 : List SO := [
 sO 17 (.fld 1 (.t 2)),
 sO 18 (.load false 1 (.t 17)),
 sO 19 (.mv (.t 6)),
 sO 20 (.idx 2 (.t 18) (.t 19)),
 sO 21 (.fld 1 (.t 20)),
 sO 22 (.load false 1 (.t 21)),
 sO 7 (.mv (.t 22))]
def r40_7 : List SO := [
 sO 23 (.mv (.t 7)),
 sO 24 (.load false 1 (.t 3)),
 sO 25 (.len (.t 24)),
 sO 26 (.mv (.t 7)),
 sO 27 (.len (.t 26)),
 sO 28 (.mn (.t 25) (.t 27)),
 sO 29 (.slice 1 (.t 23) none (some (.t 28))),
 sO 30 (.call false 46 [.t 29]),
 sO 4 (.mv (.t 30)),
 sO 5 (.mv (.c (.bool true)))]
def s40 : SF := ⟨31, [.tmp 4, .tmp 5], .seq (.reg [sO 2 (.box 49 2 (.t 0)), sO 3 (.box 25 1 (.t 1)), sO 4 (.mv (.c (.nilsl))), sO 5 (.mv (.c (.bool false)))]) (.seq (.seq (.reg [sO 8 (.load false 1 (.t 3)), sO 9 (.len (.t 8)), sO 10 (.bin .eql (.t 9) (.c (.int .i64 0)))]) (.cond (.t 10) (.seq (.reg [sO 4 (.mv (.c (.nilsl))), sO 5 (.mv (.c (.bool true)))]) (.ret)) (.skip))) (.seq (.reg [sO 11 (.fld 1 (.t 2)), sO 12 (.load false 1 (.t 11)), sO 13 (.mkf 64 [.t 3]), sO 14 (.call false 63 [.t 12, .t 13]), sO 6 (.mv (.t 14))]) (.seq (.seq (.reg [sO 15 (.mv (.t 6)), sO 16 (.bin .lss (.t 15) (.c (.int .i64 0)))]) (.cond (.t 16) (.seq (.reg [sO 4 (.mv (.c (.nilsl))), sO 5 (.mv (.c (.bool false)))]) (.ret)) (.skip))) (.seq (.reg r40_6) (.seq (.reg r40_7) (.ret))))))⟩
theorem s40_ok : slimF Try.prog ⟨[22, 25, 26, 31, 32, 67, 68, 69, 73, 79, 81, 86], []⟩ Try.f40 = some s40 := by kernel_rfl
def r41_6 : List SO := [
 sO 17 (.mv (.t 0)),
 sO 18 (.mv (.t 5)),
 sO 19 (.idx 1 (.t 17) (.t 18)),
 sO 20 (.load false 1 (.t 19)),
 sO 21 (.mv (.t 1)),
 sO 22 (.mv (.t 5)),
 sO 23 (.idx 1 (.t 21) (.t 22)),
 sO 24 (.load false 1 (.t 23)),
 sO 25 (.call false 17 [.t 20, .t 24]),
 sO 26 (.un .not (.t 25))]
def b41_0 : SC := .seq (.seq (.reg [sO 11 (.mv (.t 5)), sO 12 (.mv (.t 0)), sO 13 (.len (.t 12)), sO 14 (.bin .lss (.t 11) (.t 13))]) (.cond (.t 14) (.skip) (.exit 0))) (.seq (.block 1 (.seq (.reg r41_6) (.cond (.t 26) (.seq (.reg [sO 4 (.mv (.c (.bool false)))]) (.ret)) (.skip)))) (.reg [sO 15 (.mv (.t 5)), sO 16 (.bin .add (.t 15) (.c (.int .i64 1))), sO 5 (.mv (.t 16))]))
def s41 : SF := ⟨27, [.tmp 4], .seq (.reg [sO 4 (.mv (.c (.bool false)))]) (.seq (.seq (.reg [sO 6 (.mv (.t 0)), sO 7 (.len (.t 6)), sO 8 (.mv (.t 1)), sO 9 (.len (.t 8)), sO 10 (.bin .neq (.t 7) (.t 9))]) (.cond (.t 10) (.seq (.reg [sO 4 (.mv (.c (.bool false)))]) (.ret)) (.skip))) (.seq (.seq (.reg [sO 5 (.mv (.c (.int .i64 0)))]) (.block 0 (.loop b41_0))) (.seq (.reg [sO 4 (.mv (.c (.bool true)))]) (.ret))))⟩
theorem s41_ok : slimF Try.prog ⟨[22, 25, 26, 31, 32, 67, 68, 69, 73, 79, 81, 86], []⟩ Try.f41 = some s41 := by kernel_rfl
def r42_1 : List SO := [
 sO 5 (.mv (.t 0)),
 sO 6 (.len (.t 5)),
 sO 7 (.mv (.t 1)),
 sO 8 (.len (.t 7)),
 sO 9 (.bin .eql (.t 6) (.t 8)),
 sO 10 (.mv (.t 9)),
 ⟨some (10, true), some 11, .mv (.t 0)⟩,
 ⟨some (10, true), some 12, .mv (.t 1)⟩,
 ⟨some (10, true), some 13, .call false 66 [.t 11, .t 12]⟩,
 ⟨some (10, true), some 14, .mv (.t 0)⟩,
 ⟨some (10, true), some 15, .len (.t 14)⟩,
 ⟨some (10, true), some 16, .bin .eql (.t 13) (.t 15)⟩,
 sO 17 (.pick (.t 10) (.t 16) (.c (.bool false))),
 sO 4 (.mv (.t 17))]
def s42 : SF := ⟨18, [.tmp 4], .seq (.reg [sO 4 (.mv (.c (.bool false)))]) (.seq (.reg r42_1) (.ret))⟩
theorem s42_ok : slimF Try.prog ⟨[22, 25, 26, 31, 32, 67, 68, 69, 73, 79, 81, 86], []⟩ Try.f42 = some s42 := by kernel_rfl
def r45_6 : List SO := [
 sO 16 (.mv (.t 0)),
 sO 17 (.mv (.t 5)),
 sO 18 (.idx 1 (.t 16) (.t 17)),
 sO 19 (.load false 1 (.t 18)),
 sO 20 (.mv (.t 1)),
 sO 21 (.mv (.t 5)),
 sO 22 (.idx 1 (.t 20) (.t 21)),
 sO 23 (.load false 1 (.t 22)),
 sO 24 (.bin .neq (.t 19) (.t 23))]
def b45_0 : SC := .seq (.reg [sO 14 (.bin .lss (.t 13) (.t 12))]) (.seq (.cond (.t 14) (.skip) (.exit 0)) (.seq (.block 1 (.seq (.reg [sO 15 (.mv (.t 13)), sO 5 (.mv (.t 15))]) (.seq (.reg r45_6) (.cond (.t 24) (.seq (.reg [sO 4 (.mv (.c (.bool false)))]) (.ret)) (.skip))))) (.reg [sO 25 (.bin .add (.t 13) (.c (.int .i64 1))), sO 13 (.mv (.t 25))])))
def s45 : SF := ⟨26, [.tmp 4], .seq (.reg [sO 4 (.mv (.c (.bool false)))]) (.seq (.seq (.reg [sO 6 (.mv (.t 0)), sO 7 (.len (.t 6)), sO 8 (.mv (.t 1)), sO 9 (.len (.t 8)), sO 10 (.bin .neq (.t 7) (.t 9))]) (.cond (.t 10) (.seq (.reg [sO 4 (.mv (.c (.bool false)))]) (.ret)) (.skip))) (.seq (.seq (.reg [sO 11 (.mv (.t 0)), sO 12 (.len (.t 11)), sO 13 (.mv (.c (.int .i64 0)))]) (.block 0 (.loop b45_0))) (.seq (.reg [sO 4 (.mv (.c (.bool true)))]) (.ret))))⟩
theorem s45_ok : slimF Try.prog ⟨[22, 25, 26, 31, 32, 67, 68, 69, 73, 79, 81, 86], []⟩ Try.f45 = some s45 := by kernel_rfl
def b47_0 : SC := .seq (.reg [sO 12 (.bin .lss (.t 11) (.t 10))]) (.seq (.cond (.t 12) (.skip) (.exit 0)) (.seq (.block 1 (.seq (.reg [sO 13 (.idx 1 (.t 9) (.t 11)), sO 14 (.load false 1 (.t 13)), sO 5 (.mv (.t 14))]) (.seq (.reg [sO 15 (.mv (.t 3)), sO 16 (.mv (.t 5)), sO 17 (.len (.t 16)), sO 18 (.bin .add (.t 15) (.t 17)), sO 3 (.mv (.t 18))]) (.seq (.reg [sO 19 (.mv (.t 3)), sO 20 (.bin .lss (.t 19) (.c (.int .i64 0)))]) (.cond (.t 20) (.reg [sO 21 (.bad), sN (.bad)]) (.skip)))))) (.reg [sO 22 (.bin .add (.t 11) (.c (.int .i64 1))), sO 11 (.mv (.t 22))])))
def b47_1 : SC := .seq (.reg [sO 28 (.bin .lss (.t 27) (.t 26))]) (.seq (.cond (.t 28) (.skip) (.exit 2)) (.seq (.block 3 (.seq (.reg [sO 29 (.idx 1 (.t 25) (.t 27)), sO 30 (.load false 1 (.t 29)), sO 8 (.mv (.t 30))]) (.reg [sO 31 (.mv (.t 6)), sO 32 (.mv (.t 8)), sO 33 (.append 3 1 8 (.t 31) (.t 32)), sO 6 (.mv (.t 33))]))) (.reg [sO 34 (.bin .add (.t 27) (.c (.int .i64 1))), sO 27 (.mv (.t 34))])))
def s47 : SF := ⟨36, [.tmp 2], .seq (.reg [sO 2 (.mv (.c (.nilsl)))]) (.seq (.reg [sO 3 (.mv (.c (.int .i64 0)))]) (.seq (.seq (.reg [sO 9 (.mv (.t 0)), sO 10 (.len (.t 9)), sO 11 (.mv (.c (.int .i64 0)))]) (.block 0 (.loop b47_0))) (.seq (.reg [sO 23 (.mv (.t 3)), sO 24 (.call true 73 [.c (.nilsl), .t 23]), sO 6 (.mv (.t 24))]) (.seq (.seq (.reg [sO 25 (.mv (.t 0)), sO 26 (.len (.t 25)), sO 27 (.mv (.c (.int .i64 0)))]) (.block 2 (.loop b47_1))) (.seq (.reg [sO 35 (.mv (.t 6)), sO 2 (.mv (.t 35))]) (.ret))))))⟩
theorem s47_ok : slimF Try.prog ⟨[22, 25, 26, 31, 32, 67, 68, 69, 73, 79, 81, 86], []⟩ Try.f47 = some s47 := by kernel_rfl
def s49 : SF := ⟨9, [.tmp 4], .seq (.reg [sO 4 (.mv (.c (.bool false)))]) (.seq (.reg [sO 5 (.mv (.t 0)), sO 6 (.mv (.t 1)), sO 7 (.call false 74 [.t 5, .t 6]), sO 8 (.bin .geq (.t 7) (.c (.int .i64 0))), sO 4 (.mv (.t 8))]) (.ret))⟩
theorem s49_ok : slimF Try.prog ⟨[22, 25, 26, 31, 32, 67, 68, 69, 73, 79, 81, 86], []⟩ Try.f49 = some s49 := by kernel_rfl
def r50_1 : List SO := [
 sO 3 (.mv (.t 0)),
 sO 4 (.bin .lss (.t 3) (.c (.int .i64 0))),
 sO 5 (.mv (.t 4)),
 ⟨some (5, false), some 6, .mv (.t 0)⟩,
 ⟨some (5, false), some 7, .bin .gtr (.t 6) (.c (.int .i64 1048576))⟩,
 sO 8 (.pick (.t 5) (.c (.bool true)) (.t 7)),
 sO 2 (.mv (.t 8))]
def s50 : SF := ⟨9, [.tmp 2], .seq (.reg [sO 2 (.mv (.c (.bool false)))]) (.seq (.reg r50_1) (.ret))⟩
theorem s50_ok : slimF Try.prog ⟨[22, 25, 26, 31, 32, 67, 68, 69, 73, 79, 81, 86], []⟩ Try.f50 = some s50 := by kernel_rfl
def r51_4 : List SO := [
 sO 18 (.mv (.t 9)),
 sO 19 (.mv (.t 10)),
 sO 20 (.bin .add (.t 18) (.t 19)),
 sO 21 (.conv .u64 (.t 20)),
 sO 22 (.bin .shr (.t 21) (.c (.int .u64 1))),
 sO 23 (.conv .i64 (.t 22)),
 sO 11 (.mv (.t 23))]
def r51_5 : List SO := [
 sO 24 (.mv (.t 2)),
 sO 25 (.mv (.t 0)),
 sO 26 (.mv (.t 11)),
 sO 27 (.idx 1 (.t 25) (.t 26)),
 sO 28 (.load false 1 (.t 27)),
 sO 29 (.mv (.t 1)),
 sO 30 (.callv false (.t 24) [.t 28, .t 29]),
 sO 31 (.bin .lss (.t 30) (.c (.int .i64 0)))]
def b51_0 : SC := .seq (.seq (.reg [sO 15 (.mv (.t 9)), sO 16 (.mv (.t 10)), sO 17 (.bin .lss (.t 15) (.t 16))]) (.cond (.t 17) (.skip) (.exit 0))) (.block 1 (.seq (.reg r51_4) (.seq (.reg r51_5) (.cond (.t 31) (.reg [sO 32 (.mv (.t 11)), sO 33 (.bin .add (.t 32) (.c (.int .i64 1))), sO 9 (.mv (.t 33))]) (.reg [sO 34 (.mv (.t 11)), sO 10 (.mv (.t 34))])))))
def r51_8 : List SO := [
 sO 35 (.mv (.t 9)),
 sO 36 (.mv (.t 9)),
 sO 37 (.mv (.t 8)),
 sO 38 (.bin .lss (.t 36) (.t 37)),
 sO 39 (.mv (.t 38)),
 ⟨some (39, true), some 40, .mv (.t 2)⟩,
 ⟨some (39, true), some 41, .mv (.t 0)⟩,
 ⟨some (39, true), some 42, .mv (.t 9)⟩,
 ⟨some (39, true), some 43, .idx 1 (.t 41) (.t 42)⟩,
 ⟨some (39, true), some 44, .load false 1 (.t 43)⟩,
 ⟨some (39, true), some 45, .mv (.t 1)⟩,
 ⟨some (39, true), some 46, .callv false (.t 40) [.t 44, .t 45]⟩,
 ⟨some (39, true), some 47, .bin .eql (.t 46) (.c (.int .i64 0))⟩,
 sO 48 (.pick (.t 39) (.t 47) (.c (.bool false))),
 sO 6 (.mv (.t 35)),
 sO 7 (.mv (.t 48))]
def s51 : SF := ⟨49, [.tmp 6, .tmp 7], .seq (.reg [sO 6 (.mv (.c (.int .i64 0))), sO 7 (.mv (.c (.bool false)))]) (.seq (.reg [sO 12 (.mv (.t 0)), sO 13 (.len (.t 12)), sO 8 (.mv (.t 13))]) (.seq (.reg [sO 14 (.mv (.t 8)), sO 9 (.mv (.c (.int .i64 0))), sO 10 (.mv (.t 14))]) (.seq (.block 0 (.loop b51_0)) (.seq (.reg r51_8) (.ret)))))⟩
theorem s51_ok : slimF Try.prog ⟨[22, 25, 26, 31, 32, 67, 68, 69, 73, 79, 81, 86], []⟩ Try.f51 = some s51 := by kernel_rfl
def s52 : SF := ⟨8, [.tmp 4], .seq (.reg [sO 3 (.box 25 1 (.t 1)), sO 4 (.mv (.c (.bool false)))]) (.seq (.reg [sO 5 (.mv (.t 0)), sO 6 (.mkf 76 [.t 3]), sO 7 (.call false 75 [.t 5, .t 6]), sO 4 (.mv (.t 7))]) (.ret))⟩
theorem s52_ok : slimF Try.prog ⟨[22, 25, 26, 31, 32, 67, 68, 69, 73, 79, 81, 86], []⟩ Try.f52 = some s52 := by kernel_rfl
def b58_0 : SC := .seq (.reg [sO 9 (.bin .lss (.t 8) (.t 7))]) (.seq (.cond (.t 9) (.skip) (.exit 0)) (.seq (.block 1 (.seq (.reg [sO 10 (.mv (.t 8)), sO 5 (.mv (.t 10))]) (.seq (.reg [sO 11 (.mv (.t 1)), sO 12 (.mv (.t 0)), sO 13 (.mv (.t 5)), sO 14 (.idx 5 (.t 12) (.t 13)), sO 15 (.load true 5 (.t 14)), sO 16 (.callv false (.t 11) [.t 15])]) (.cond (.t 16) (.seq (.reg [sO 17 (.mv (.t 5)), sO 4 (.mv (.t 17))]) (.ret)) (.skip))))) (.reg [sO 18 (.bin .add (.t 8) (.c (.int .i64 1))), sO 8 (.mv (.t 18))])))
def s58 : SF := ⟨19, [.tmp 4], .seq (.reg [sO 4 (.mv (.c (.int .i64 0)))]) (.seq (.seq (.reg [sO 6 (.mv (.t 0)), sO 7 (.len (.t 6)), sO 8 (.mv (.c (.int .i64 0)))]) (.block 0 (.loop b58_0))) (.seq (.reg [sO 4 (.mv (.c (.int .i64 (-1))))]) (.ret)))⟩
theorem s58_ok : slimF Try.prog ⟨[22, 25, 26, 31, 32, 67, 68, 69, 73, 79, 81, 86], []⟩ Try.f58 = some s58 := by kernel_rfl
def s59 : SF := ⟨8, [.tmp 3], .seq (.reg [sO 2 (.box 41 5 (.t 0)), sO 3 (.mv (.c (.bool false)))]) (.seq (.reg [sO 4 (.fld 4 (.t 2)), sO 5 (.load false 1 (.t 4)), sO 6 (.load false 1 (.t 1)), sO 7 (.call false 60 [.t 5, .t 6]), sO 3 (.mv (.t 7))]) (.ret))⟩
theorem s59_ok : slimF Try.prog ⟨[22, 25, 26, 31, 32, 67, 68, 69, 73, 79, 81, 86], []⟩ Try.f59 = some s59 := by kernel_rfl
def s60 : SF := ⟨9, [.tmp 4], .seq (.reg [sO 4 (.mv (.c (.bool false)))]) (.seq (.reg [sO 5 (.mv (.t 0)), sO 6 (.mv (.t 1)), sO 7 (.call false 80 [.t 5, .t 6]), sO 8 (.bin .geq (.t 7) (.c (.int .i64 0))), sO 4 (.mv (.t 8))]) (.ret))⟩
theorem s60_ok : slimF Try.prog ⟨[22, 25, 26, 31, 32, 67, 68, 69, 73, 79, 81, 86], []⟩ Try.f60 = some s60 := by kernel_rfl
def r61_1 : List SO := [
 sO 3 (.mv (.t 0)),
 sO 4 (.bin .geq (.t 3) (.c (.int .i64 1))),
 sO 5 (.mv (.t 4)),
 ⟨some (5, true), some 6, .mv (.t 0)⟩,
 ⟨some (5, true), some 7, .bin .leq (.t 6) (.c (.int .i64 1024))⟩,
 sO 8 (.pick (.t 5) (.t 7) (.c (.bool false))),
 sO 2 (.mv (.t 8))]
def s61 : SF := ⟨9, [.tmp 2], .seq (.reg [sO 2 (.mv (.c (.bool false)))]) (.seq (.reg r61_1) (.ret))⟩
theorem s61_ok : slimF Try.prog ⟨[22, 25, 26, 31, 32, 67, 68, 69, 73, 79, 81, 86], []⟩ Try.f61 = some s61 := by kernel_rfl
def r62_1 : List SO := [
 sO 4 (.mv (.t 0)),
 sO 5 (.bin .lss (.t 4) (.c (.int .i64 0))),
 sO 6 (.mv (.t 5)),
 ⟨some (6, false), some 7, .mv (.t 0)⟩,
 ⟨some (6, false), some 8, .load false 1 (.t 1)⟩,
 ⟨some (6, false), some 9, .bin .geq (.t 7) (.t 8)⟩,
 sO 10 (.pick (.t 6) (.c (.bool true)) (.t 9)),
 sO 3 (.mv (.t 10))]
def s62 : SF := ⟨11, [.tmp 3], .seq (.reg [sO 3 (.mv (.c (.bool false)))]) (.seq (.reg r62_1) (.ret))⟩
theorem s62_ok : slimF Try.prog ⟨[22, 25, 26, 31, 32, 67, 68, 69, 73, 79, 81, 86], []⟩ Try.f62 = some s62 := by kernel_rfl
def b63_0 : SC := .seq (.reg [sO 9 (.bin .lss (.t 8) (.t 7))]) (.seq (.cond (.t 9) (.skip) (.exit 0)) (.seq (.block 1 (.seq (.reg [sO 10 (.mv (.t 8)), sO 5 (.mv (.t 10))]) (.seq (.reg [sO 11 (.mv (.t 1)), sO 12 (.mv (.t 0)), sO 13 (.mv (.t 5)), sO 14 (.idx 2 (.t 12) (.t 13)), sO 15 (.load true 2 (.t 14)), sO 16 (.callv false (.t 11) [.t 15])]) (.cond (.t 16) (.seq (.reg [sO 17 (.mv (.t 5)), sO 4 (.mv (.t 17))]) (.ret)) (.skip))))) (.reg [sO 18 (.bin .add (.t 8) (.c (.int .i64 1))), sO 8 (.mv (.t 18))])))
def s63 : SF := ⟨19, [.tmp 4], .seq (.reg [sO 4 (.mv (.c (.int .i64 0)))]) (.seq (.seq (.reg [sO 6 (.mv (.t 0)), sO 7 (.len (.t 6)), sO 8 (.mv (.c (.int .i64 0)))]) (.block 0 (.loop b63_0))) (.seq (.reg [sO 4 (.mv (.c (.int .i64 (-1))))]) (.ret)))⟩
theorem s63_ok : slimF Try.prog ⟨[22, 25, 26, 31, 32, 67, 68, 69, 73, 79, 81, 86], []⟩ Try.f63 = some s63 := by kernel_rfl
def s64 : SF := ⟨8, [.tmp 3], .seq (.reg [sO 2 (.box 46 2 (.t 0)), sO 3 (.mv (.c (.bool false)))]) (.seq (.reg [sO 4 (.fld 0 (.t 2)), sO 5 (.load false 1 (.t 4)), sO 6 (.load false 1 (.t 1)), sO 7 (.call false 65 [.t 5, .t 6]), sO 3 (.mv (.t 7))]) (.ret))⟩
theorem s64_ok : slimF Try.prog ⟨[22, 25, 26, 31, 32, 67, 68, 69, 73, 79, 81, 86], []⟩ Try.f64 = some s64 := by kernel_rfl
def r65_1 : List SO := [
 sO 5 (.mv (.t 0)),
 sO 6 (.mv (.t 1)),
 sO 7 (.call false 38 [.t 5, .t 6]),
 sO 8 (.mv (.t 1)),
 sO 9 (.len (.t 8)),
 sO 10 (.bin .eql (.t 7) (.t 9)),
 sO 4 (.mv (.t 10))]
def s65 : SF := ⟨11, [.tmp 4], .seq (.reg [sO 4 (.mv (.c (.bool false)))]) (.seq (.reg r65_1) (.ret))⟩
theorem s65_ok : slimF Try.prog ⟨[22, 25, 26, 31, 32, 67, 68, 69, 73, 79, 81, 86], []⟩ Try.f65 = some s65 := by kernel_rfl
def r66_2 : List SO := [
 sO 6 (.mv (.t 5)),
 sO 7 (.mv (.t 0)),
 sO 8 (.len (.t 7)),
 sO 9 (.bin .lss (.t 6) (.t 8)),
 sO 10 (.mv (.t 9)),
 ⟨some (10, true), some 11, .mv (.t 5)⟩,
 ⟨some (10, true), some 12, .mv (.t 1)⟩,
 ⟨some (10, true), some 13, .len (.t 12)⟩,
 ⟨some (10, true), some 14, .bin .lss (.t 11) (.t 13)⟩,
 sO 15 (.pick (.t 10) (.t 14) (.c (.bool false))),
 sO 16 (.mv (.t 15)),
 ⟨some (16, true), some 17, .mv (.t 0)⟩,
 ⟨some (16, true), some 18, .mv (.t 5)⟩,
 ⟨some (16, true), some 19, .idx 1 (.t 17) (.t 18)⟩,
 ⟨some (16, true), some 20, .load false 1 (.t 19)⟩,
 ⟨some (16, true), some 21, .mv (.t 1)⟩,
 ⟨some (16, true), some 22, .mv (.t 5)⟩,
 ⟨some (16, true), some 23, .idx 1 (.t 21) (.t 22)⟩,
 ⟨some (16, true), some 24, .load false 1 (.t 23)⟩,
 ⟨some (16, true), some 25, .bin .eql (.t 20) (.t 24)⟩,
 sO 26 (.pick (.t 16) (.t 25) (.c (.bool false)))]
def b66_0 : SC := .seq (.seq (.reg r66_2) (.cond (.t 26) (.skip) (.exit 0))) (.block 1 (.reg [sO 27 (.mv (.t 5)), sO 28 (.bin .add (.t 27) (.c (.int .i64 1))), sO 5 (.mv (.t 28))]))
def s66 : SF := ⟨30, [.tmp 4], .seq (.reg [sO 4 (.mv (.c (.int .i64 0)))]) (.seq (.reg [sO 5 (.mv (.c (.int .i64 0)))]) (.seq (.block 0 (.loop b66_0)) (.seq (.reg [sO 29 (.mv (.t 5)), sO 4 (.mv (.t 29))]) (.ret))))⟩
theorem s66_ok : slimF Try.prog ⟨[22, 25, 26, 31, 32, 67, 68, 69, 73, 79, 81, 86], []⟩ Try.f66 = some s66 := by kernel_rfl
def b74_0 : SC := .seq (.reg [sO 9 (.bin .lss (.t 8) (.t 7))]) (.seq (.cond (.t 9) (.skip) (.exit 0)) (.seq (.block 1 (.seq (.reg [sO 10 (.mv (.t 8)), sO 5 (.mv (.t 10))]) (.seq (.reg [sO 11 (.mv (.t 1)), sO 12 (.mv (.t 0)), sO 13 (.mv (.t 5)), sO 14 (.idx 1 (.t 12) (.t 13)), sO 15 (.load false 1 (.t 14)), sO 16 (.callv false (.t 11) [.t 15])]) (.cond (.t 16) (.seq (.reg [sO 17 (.mv (.t 5)), sO 4 (.mv (.t 17))]) (.ret)) (.skip))))) (.reg [sO 18 (.bin .add (.t 8) (.c (.int .i64 1))), sO 8 (.mv (.t 18))])))
def s74 : SF := ⟨19, [.tmp 4], .seq (.reg [sO 4 (.mv (.c (.int .i64 0)))]) (.seq (.seq (.reg [sO 6 (.mv (.t 0)), sO 7 (.len (.t 6)), sO 8 (.mv (.c (.int .i64 0)))]) (.block 0 (.loop b74_0))) (.seq (.reg [sO 4 (.mv (.c (.int .i64 (-1))))]) (.ret)))⟩
theorem s74_ok : slimF Try.prog ⟨[22, 25, 26, 31, 32, 67, 68, 69, 73, 79, 81, 86], []⟩ Try.f74 = some s74 := by kernel_rfl
def s75 : SF := ⟨9, [.tmp 4], .seq (.reg [sO 4 (.mv (.c (.bool false)))]) (.seq (.reg [sO 5 (.mv (.t 0)), sO 6 (.mv (.t 1)), sO 7 (.call false 84 [.t 5, .t 6]), sO 8 (.bin .geq (.t 7) (.c (.int .i64 0))), sO 4 (.mv (.t 8))]) (.ret))⟩
theorem s75_ok : slimF Try.prog ⟨[22, 25, 26, 31, 32, 67, 68, 69, 73, 79, 81, 86], []⟩ Try.f75 = some s75 := by kernel_rfl
def s76 : SF := ⟨7, [.tmp 3], .seq (.reg [sO 3 (.mv (.c (.bool false)))]) (.seq (.reg [sO 4 (.mv (.t 0)), sO 5 (.load false 1 (.t 1)), sO 6 (.call false 45 [.t 4, .t 5]), sO 3 (.mv (.t 6))]) (.ret))⟩
theorem s76_ok : slimF Try.prog ⟨[22, 25, 26, 31, 32, 67, 68, 69, 73, 79, 81, 86], []⟩ Try.f76 = some s76 := by kernel_rfl
def b80_0 : SC := .seq (.reg [sO 9 (.bin .lss (.t 8) (.t 7))]) (.seq (.cond (.t 9) (.skip) (.exit 0)) (.seq (.block 1 (.seq (.reg [sO 10 (.mv (.t 8)), sO 5 (.mv (.t 10))]) (.seq (.reg [sO 11 (.mv (.t 1)), sO 12 (.mv (.t 0)), sO 13 (.mv (.t 5)), sO 14 (.idx 1 (.t 12) (.t 13)), sO 15 (.load false 1 (.t 14)), sO 16 (.bin .eql (.t 11) (.t 15))]) (.cond (.t 16) (.seq (.reg [sO 17 (.mv (.t 5)), sO 4 (.mv (.t 17))]) (.ret)) (.skip))))) (.reg [sO 18 (.bin .add (.t 8) (.c (.int .i64 1))), sO 8 (.mv (.t 18))])))
def s80 : SF := ⟨19, [.tmp 4], .seq (.reg [sO 4 (.mv (.c (.int .i64 0)))]) (.seq (.seq (.reg [sO 6 (.mv (.t 0)), sO 7 (.len (.t 6)), sO 8 (.mv (.c (.int .i64 0)))]) (.block 0 (.loop b80_0))) (.seq (.reg [sO 4 (.mv (.c (.int .i64 (-1))))]) (.ret)))⟩
theorem s80_ok : slimF Try.prog ⟨[22, 25, 26, 31, 32, 67, 68, 69, 73, 79, 81, 86], []⟩ Try.f80 = some s80 := by kernel_rfl
def b84_0 : SC := .seq (.reg [sO 9 (.bin .lss (.t 8) (.t 7))]) (.seq (.cond (.t 9) (.skip) (.exit 0)) (.seq (.block 1 (.seq (.reg [sO 10 (.mv (.t 8)), sO 5 (.mv (.t 10))]) (.seq (.reg [sO 11 (.mv (.t 1)), sO 12 (.mv (.t 0)), sO 13 (.mv (.t 5)), sO 14 (.idx 1 (.t 12) (.t 13)), sO 15 (.load false 1 (.t 14)), sO 16 (.callv false (.t 11) [.t 15])]) (.cond (.t 16) (.seq (.reg [sO 17 (.mv (.t 5)), sO 4 (.mv (.t 17))]) (.ret)) (.skip))))) (.reg [sO 18 (.bin .add (.t 8) (.c (.int .i64 1))), sO 8 (.mv (.t 18))])))
def s84 : SF := ⟨19, [.tmp 4], .seq (.reg [sO 4 (.mv (.c (.int .i64 0)))]) (.seq (.seq (.reg [sO 6 (.mv (.t 0)), sO 7 (.len (.t 6)), sO 8 (.mv (.c (.int .i64 0)))]) (.block 0 (.loop b84_0))) (.seq (.reg [sO 4 (.mv (.c (.int .i64 (-1))))]) (.ret)))⟩
theorem s84_ok : slimF Try.prog ⟨[22, 25, 26, 31, 32, 67, 68, 69, 73, 79, 81, 86], []⟩ Try.f84 = some s84 := by kernel_rfl
end Go.Proofs.Ytmnjchcoigbngaa
namespace Go.Proofs.Ytmnjchcoigbngaa
open Go Go.Proofs Go.Shelf Go.RowKit Go.Lib
structure InsLay (P : Program) (ρ : Ren) (n1 : String) (k bytes : Nat) (z : Value) : Prop where
  mixed : P.follows .mixedOrders = true
  f22 : P.funcs[ρ.f 22]? = some { Body2.n22 ρ with name := n1 }
  ov : ∀ args w, (callFunc (ρ.f 29) args).run P w = ((Extern.SlicesOverlaps.overlaps #[(ρ.t 24), (ρ.t 24)] #[(ρ.t 4)] args).run P w).andThen fun v w' => .ok (.value v) w'
  t0 : P.underlying (ρ.t 0) = some (TypeDesc.tuple #[])
  a0 : ∀ w, (isAgg (ρ.t 0)).run P w = .ok false w
  z0 : ∀ w, (Go.sizeOf (ρ.t 0)).run P w = .ok 1 w
  v0 : ∀ w, (zeroValue (ρ.t 0)).run P w = .ok (Value.tuple #[]) w
  t3 : P.underlying (ρ.t 3) = some (TypeDesc.int IntKind.i64)
  a3 : ∀ w, (isAgg (ρ.t 3)).run P w = .ok false w
  z3 : ∀ w, (Go.sizeOf (ρ.t 3)).run P w = .ok 1 w
  v3 : ∀ w, (zeroValue (ρ.t 3)).run P w = .ok (Value.int IntKind.i64 0) w
  t4 : P.underlying (ρ.t 4) = some (TypeDesc.bool)
  a4 : ∀ w, (isAgg (ρ.t 4)).run P w = .ok false w
  z4 : ∀ w, (Go.sizeOf (ρ.t 4)).run P w = .ok 1 w
  v4 : ∀ w, (zeroValue (ρ.t 4)).run P w = .ok (Value.bool false) w
  z9 : ∀ w, (Go.sizeOf (ρ.t 9)).run P w = .ok k w
  t24 : P.underlying (ρ.t 24) = some (TypeDesc.slice (ρ.t 9))
  a24 : ∀ w, (isAgg (ρ.t 24)).run P w = .ok false w
  z24 : ∀ w, (Go.sizeOf (ρ.t 24)).run P w = .ok 1 w
  v24 : ∀ w, (zeroValue (ρ.t 24)).run P w = .ok (Value.slice none 0 0) w
  i9 : (P.info? (ρ.t 9)).map (fun i => (i.zero, i.size, i.bytes)) = some (some z, k, bytes)
  hk : 0 < k
  hz : z.cells.size = k
variable {P : Program} {ρ : Ren} {n1 : String} {k bytes : Nat} {z : Value}
theorem run_copy_rowk (w : World) (dT sT ty elem : TypeId) (g o dLen dCap : Nat) (a : Addr) (sLen sCap : Nat) (cur : Array Value) (t : TypeId) (cs : List Value) (k : Nat)
    (hu : P.underlying dT = some (.slice elem)) (hs : (P.info? elem).map (·.size) = some k)
    (hg : w.heap[g]? = some (.cells cur t (0, 0))) (hn : cs.length = Nat.min sLen dLen * k)
    (hsrc : ∀ j v, cs[j]? = some v → w.cell? (a.add j) = some v) (hfit : o + cs.length ≤ cur.size) (h1 : ∀ v ∈ cs, v.oneCell' = true) :
    (Builtin.copy_ #[dT, sT] ty #[.slice (some ⟨g, o, none⟩) dLen dCap, .slice (some a) sLen sCap]).run P w =
      .ok (goInt (Nat.min sLen dLen)) (w.setRow g (cur.toList.take o ++ cs ++ cur.toList.drop (o + cs.length)).toArray) := by
  have hl := run_loadCells_list (P := P) w a cs hsrc
  have hst := run_storeCells_at P g o t cs 0 cur w hg (by simpa using hfit) h1
  cases hq : P.info? elem with
  | none => simp [hq] at hs
  | some i =>
    have hi : i.size = k := by simpa [hq] using hs
    simp [Builtin.copy_, run_underlying hu, Builtin.lenOf, Builtin.firstCells, sizeOf, typeInfo, hq, hi, ← hn, hl, hst]
def put (cc : Array Value) (o : Nat) (cs : List Value) : Array Value := (cc.toList.take o ++ cs ++ cc.toList.drop (o + cs.length)).toArray
set_option maxHeartbeats 4000000 in
set_option maxRecDepth 100000 in
theorem ins_shift (L : InsLay P ρ n1 k bytes z) (b n c i vb vc : Nat) (cc cv : Array Value) (tb tv : TypeId) (w : World) (hi : i < n) (hroom : n + 1 ≤ c) (hc63 : c ≤ 9223372036854775807) (hvb : vb ≠ b)
    (hb : w.heap[b]? = some (.cells cc tb (0, 0))) (hv : w.heap[vb]? = some (.cells cv tv (0, 0))) (hcc : c * k = cc.size) (hcv : k ≤ cv.size) (vs : List Value) (hvs : vs = cv.toList.take k)
    (h1c : ∀ v ∈ cc.toList.take (n * k), v.oneCell' = true) (h1v : ∀ v ∈ vs, v.oneCell' = true) :
    Calls P (ρ.f 22) #[.slice (some ⟨b, 0, none⟩) n c, .int .i64 i, .slice (some ⟨vb, 0, none⟩) 1 vc] w fun e w' =>
      e = .returned (.slice (some ⟨b, 0, none⟩) (n + 1) c) ∧ w' = w.drew.setRow b (put (put cc ((i + 1) * k) ((cc.toList.take (n * k)).drop (i * k))) (i * k) vs) := by
  have hk := L.hk
  have hvl : vs.length = k := by rw [hvs, List.length_take, Array.length_toList]; omega
  have t0 := L.t0; have a0 := L.a0; have z0 := L.z0; have v0 := L.v0; have t3 := L.t3; have a3 := L.a3; have z3 := L.z3; have v3 := L.v3; have t4 := L.t4; have a4 := L.a4; have z4 := L.z4; have v4 := L.v4; have z9 := L.z9; have t24 := L.t24; have a24 := L.a24; have z24 := L.z24; have v24 := L.v24
  have u0 := run_underlying L.t0; have u3 := run_underlying L.t3; have u4 := run_underlying L.t4; have u24 := run_underlying L.t24
  have hz2 : ¬ ((i : Int) = (n : Int)) := by omega
  have hsz : (P.info? (ρ.t 9)).map (·.size) = some k := by
    obtain ⟨i0, hi0, h0, h1, h2⟩ := info_parts L.i9
    rw [hi0]; simp [h1]
  have hov : ∀ lb cb, (callFunc (ρ.f 29) #[.slice (some ⟨vb, 0, none⟩) 1 vc, .slice (some ⟨b, (i + 1) * k, none⟩) lb cb]).run P w = .ok (.value (.bool false)) w := fun lb cb => by
    rw [L.ov,
      Lib.run_overlaps_apart w (ρ.t 24) (ρ.t 4) (ρ.t 9) L.t24 k L.z9 ⟨vb, 0, none⟩ ⟨b, (i + 1) * k, none⟩ 1 vc lb cb hvb tv tb cv.size cc.size (by simp [World.shape?, hv]) (by simp [World.shape?, hb]) (by rw [← hcc]; have : 0 < c * k := Nat.mul_pos (by omega) hk; omega) (by simp [World.frozen?, hv]) (by simp [World.frozen?, hv])]
    rfl
  have mixed := L.mixed
  have hw1 : IntKind.i64.wrap ((i : Int) + 1) = (i : Int) + 1 := by rw [IntKind.wrap_i64]; omega
  have hb1 : (0 : Int) ≤ (i : Int) + 1 := by omega
  have hin : i ≤ n := by omega
  have htn : ((i : Int) + 1).toNat = i + 1 := by omega
  have hb2 : ¬ (c = i + 1) := by omega
  have hb3 : (i : Int) ≤ (n : Int) + 1 := by omega
  have hb4 : ¬ (c = i) := by omega
  have hnk : n * k ≤ cc.size := by rw [← hcc]; exact Nat.mul_le_mul_right k (by omega)
  have hn1k : (n + 1) * k ≤ cc.size := by rw [← hcc]; exact Nat.mul_le_mul_right k (by omega)
  have hik : i * k ≤ n * k := Nat.mul_le_mul_right k hin
  obtain ⟨ds, hds⟩ : ∃ ds, ds = (cc.toList.take (n * k)).drop (i * k) := ⟨_, rfl⟩
  have hdl : ds.length = (n - i) * k := by rw [hds, List.length_drop, List.length_take, Array.length_toList, Nat.min_eq_left hnk, Nat.sub_mul]
  rw [← hds]
  have e1 : Nat.min (n + 1 - i) (n - i) = n - i := by simp only [Nat.min_def]; split <;> omega
  have e2 : (i + 1) * k + (n - i) * k = (n + 1) * k := by rw [← Nat.add_mul]; congr 1; omega
  have hcp1 : ∀ ty dc sc, (Builtin.copy_ #[(ρ.t 24), (ρ.t 24)] ty #[.slice (some ⟨b, (i + 1) * k, none⟩) (n - i) dc, .slice (some ⟨b, i * k, none⟩) (n + 1 - i) sc]).run P w.drew = .ok (goInt (n - i : Nat)) (w.drew.setRow b (put cc ((i + 1) * k) ds)) := fun ty dc sc => by
    have h := run_copy_rowk (P := P) w.drew (ρ.t 24) (ρ.t 24) ty (ρ.t 9) b ((i + 1) * k) (n - i) dc ⟨b, i * k, none⟩ (n + 1 - i) sc cc tb ds k L.t24 hsz hb (by rw [hdl, e1])
      (fun j v hj => by
        rw [Addr.add_lit]
        have hj' := hj
        rw [hds, List.getElem?_drop, List.getElem?_take] at hj
        split at hj
        · rw [Array.getElem?_toList] at hj
          simp [World.cell?, show w.drew.heap[b]? = _ from hb, hj]
        · cases hj) (by rw [hdl, e2]; exact hn1k) (fun v hv => h1c v (List.mem_of_mem_drop (hds ▸ hv)))
    rw [e1] at h
    exact h
  have hps : (put cc ((i + 1) * k) ds).size = cc.size := by
    simp only [put, List.size_toArray, List.length_append, List.length_take, List.length_drop, Array.length_toList, hdl, e2]
    omega
  obtain ⟨W1, hW1⟩ : ∃ W1, W1 = w.drew.setRow b (put cc ((i + 1) * k) ds) := ⟨_, rfl⟩
  have hB1 : W1.heap[b]? = some (.cells (put cc ((i + 1) * k) ds) tb (0, 0)) := by rw [hW1]; exact setRow_heap w.drew b cc _ tb _ hb
  have hV1 : W1.heap[vb]? = some (.cells cv tv (0, 0)) := by rw [hW1, setRow_other w.drew b vb _ hvb]; exact hv
  have hcp2 : ∀ ty dc, (Builtin.copy_ #[(ρ.t 24), (ρ.t 24)] ty #[.slice (some ⟨b, i * k, none⟩) (n + 1 - i) dc, .slice (some ⟨vb, 0, none⟩) 1 vc]).run P W1 = .ok (goInt (1 : Nat)) (W1.setRow b (put (put cc ((i + 1) * k) ds) (i * k) vs)) := fun ty dc => by
    have e3 : Nat.min 1 (n + 1 - i) = 1 := by simp only [Nat.min_def]; split <;> omega
    have h := run_copy_rowk (P := P) W1 (ρ.t 24) (ρ.t 24) ty (ρ.t 9) b (i * k) (n + 1 - i) dc ⟨vb, 0, none⟩ 1 vc _ tb vs k L.t24 hsz hB1 (by rw [e3, hvl, Nat.one_mul])
      (fun j v hj => by
        rw [Addr.add_lit]
        rw [hvs, List.getElem?_take] at hj
        split at hj
        · rw [Array.getElem?_toList] at hj
          simp [World.cell?, hV1, hj]
        · cases hj) (by rw [hps, hvl]; have : (i + 1) * k ≤ (n + 1) * k := Nat.mul_le_mul_right k (by omega); rw [Nat.add_mul, Nat.one_mul] at this; omega) h1v
    rw [e3] at h
    exact h
  have hfin : W1.setRow b (put (put cc ((i + 1) * k) ds) (i * k) vs) = w.drew.setRow b (put (put cc ((i + 1) * k) ds) (i * k) vs) := by rw [hW1, setRow_setRow]
  rw [← hW1] at hcp1
  clear hW1 hds e1 e2 hvs
  go_enter L.f22, Body2.n22_ntmps ρ
  go_wp2_with (simp only [hov])
  go_region_law_o (refine step_copy_runI rfl _ _ (ρ.t 24) (ρ.t 24) rfl _ _ (by simp [Act.eval, Act.put]) (by simp [Act.eval, Act.put]) (hcp1 _ _ _) ?_)
  go_wp2_with (at_builtin; refine wpList_copy_runI _ rfl _ _ (ρ.t 24) (ρ.t 24) rfl _ _ rfl rfl (hcp2 _ _) ?_)
  go_ret
  first | exact ⟨rfl, rfl⟩ | exact ⟨rfl, hfin⟩
theorem alloc_setRow (w : World) (a b : Array Value) (e : TypeId) : (w.alloc (.cells a e)).setRow w.heap.size b = w.alloc (.cells b e) := by
  have h : (w.alloc (.cells a e)).heap[w.heap.size]? = some (.cells a e (0, 0)) := heap_push_eq _ _
  unfold World.setRow World.alloc
  congr 1
  refine Array.ext_getElem? fun j => ?_
  rw [Array.getElem?_modify]
  split
  · rename_i hj
    subst hj
    simp [Obj.cells]
  · rename_i hj
    simp only [Array.getElem?_push]
    rw [if_neg (fun x => hj x.symm), if_neg (fun x => hj x.symm)]
set_option maxHeartbeats 4000000 in
set_option maxRecDepth 100000 in
theorem ins_grow (L : InsLay P ρ n1 k bytes z) (b n c i vb vc : Nat) (cc cv : Array Value) (tb tv : TypeId) (w : World) (hi : i < n) (hnc : n ≤ c) (hroom : c < n + 1) (hc63 : c < 9223372036854775807) (hbig : (n + 1) * bytes ≤ 140737488355328)
    (hb : w.heap[b]? = some (.cells cc tb (0, 0))) (hv : w.heap[vb]? = some (.cells cv tv (0, 0))) (hcc : c * k = cc.size) (hcv : k ≤ cv.size) (vs : List Value) (hvs : vs = cv.toList.take k)
    (h1c : ∀ v ∈ cc.toList.take (n * k), v.oneCell' = true) (h1v : ∀ v ∈ vs, v.oneCell' = true) :
    Calls P (ρ.f 22) #[.slice (some ⟨b, 0, none⟩) n c, .int .i64 i, .slice (some ⟨vb, 0, none⟩) 1 vc] w fun e w' =>
      ∃ G R, R.size = G * k ∧ n + 1 ≤ G ∧ G ≤ maxLen ∧ e = .returned (.slice (some ⟨w.heap.size, 0, none⟩) (n + 1) G) ∧ w' = w.drew.drew.alloc (.cells (put (put R (i * k) vs) ((i + 1) * k) ((cc.toList.take (n * k)).drop (i * k))) (ρ.t 9)) ∧ R.toList.take (i * k) = cc.toList.take (i * k) := by
  have hk := L.hk; have hzl := L.hz
  have hvl : vs.length = k := by rw [hvs, List.length_take, Array.length_toList]; omega
  have t0 := L.t0; have a0 := L.a0; have z0 := L.z0; have v0 := L.v0; have t3 := L.t3; have a3 := L.a3; have z3 := L.z3; have v3 := L.v3; have t4 := L.t4; have a4 := L.a4; have z4 := L.z4; have v4 := L.v4; have z9 := L.z9; have t24 := L.t24; have a24 := L.a24; have z24 := L.z24; have v24 := L.v24
  have u0 := run_underlying L.t0; have u3 := run_underlying L.t3; have u4 := run_underlying L.t4; have u24 := run_underlying L.t24
  have mixed := L.mixed
  obtain ⟨i0, hi0, hz0, hzs, hzb⟩ := info_parts L.i9
  have hz2 : ¬ ((i : Int) = (n : Int)) := by omega
  have hz3 : (c : Int) < (n : Int) + 1 := by omega
  have hsz : (P.info? (ρ.t 9)).map (·.size) = some k := by rw [hi0]; simp [hzs]
  have hbw : b < w.heap.size := (Array.getElem?_eq_some_iff.1 hb).1
  have hvw : vb < w.heap.size := (Array.getElem?_eq_some_iff.1 hv).1
  have hkk : (n : Int) + 1 - (i : Int) = ((n + 1 - i : Nat) : Int) := by omega
  have hik : i + (n + 1 - i) = n + 1 := by omega
  have hnk : n * k ≤ cc.size := by rw [← hcc]; exact Nat.mul_le_mul_right k (by omega)
  have hikn : i * k ≤ n * k := Nat.mul_le_mul_right k (by omega)
  have hold : (Builtin.firstCells i0.size i (.slice (some ⟨b, 0, none⟩) i c)).run P w.drew = .ok (cc.toList.take (i * k)).toArray w.drew := by
    rw [hzs]
    exact run_firstCells_some w.drew k i ⟨b, 0, none⟩ i c (cc.toList.take (i * k)) (by rw [List.length_take, Array.length_toList]; omega) (fun j v hj => by
      rw [Addr.add_lit]
      rw [List.getElem?_take] at hj
      split at hj
      · rw [Array.getElem?_toList] at hj
        simp [World.cell?, show w.drew.heap[b]? = _ from hb, hj]
      · cases hj)
  have hrz : ∀ ty, (Builtin.append_ #[(ρ.t 24), (ρ.t 3)] ty #[.slice (some ⟨b, 0, none⟩) i c, .int .i64 ((n : Int) + 1 - (i : Int))]).run P w =
      .ok (.slice (some ⟨w.heap.size, 0, none⟩) (n + 1) (grownCap w (n + 1) c (ρ.t 9))) (w.drew.alloc (.cells ((cc.toList.take (i * k)).toArray ++ Builtin.zeroCells z.cells (n + 1 - i) ++ Builtin.zeroCells z.cells (grownCap w (n + 1) c (ρ.t 9) - (n + 1))) (ρ.t 9))) := fun ty => by
    have h := Lib.run_append_grow_zeros w (ρ.t 24) (ρ.t 3) ty (ρ.t 9) i0 _ .i64 .i64 L.t24 L.t3 hi0 hz0 (some ⟨b, 0, none⟩) i c _ hold (n + 1 - i) (by omega) (by omega) (by omega) (by omega) (by rw [hzb]; have : (n + 1 - i) * bytes ≤ (n + 1) * bytes := Nat.mul_le_mul_right _ (by omega); omega) (by rw [hzb, hik]; exact growslice_fits hroom hbig)
    rw [hik] at h
    rw [hkk]
    exact h
  have hGn : n + 1 ≤ grownCap w (n + 1) c (ρ.t 9) := grownCap_ge w _ _ _
  have hGm : grownCap w (n + 1) c (ρ.t 9) ≤ maxLen := grownCap_le_maxLen w (n + 1) c (ρ.t 9) (by unfold maxLen; omega)
  obtain ⟨G, hG⟩ : ∃ G, G = grownCap w (n + 1) c (ρ.t 9) := ⟨_, rfl⟩
  rw [← hG] at hGn hGm
  obtain ⟨ROW, hROW⟩ : ∃ ROW : Array Value, ROW = (cc.toList.take (i * k)).toArray ++ Builtin.zeroCells z.cells (n + 1 - i) ++ Builtin.zeroCells z.cells (G - (n + 1)) := ⟨_, rfl⟩
  rw [← hG] at hrz
  rw [← hROW] at hrz
  have hRl : ROW.size = G * k := by
    rw [hROW]
    simp only [Array.size_append, List.size_toArray, List.length_take, Array.length_toList, size_zeroCells, hzl, Nat.min_eq_left (show i * k ≤ cc.size by omega), ← Nat.add_mul]
    congr 1; omega
  have hRt : ROW.toList.take (i * k) = cc.toList.take (i * k) := by
    rw [hROW]
    simp only [Array.toList_append, List.append_assoc]
    rw [List.take_append_of_le_length (by simp; omega), List.take_take, Nat.min_self]
  have hG63 : G ≤ 9223372036854775807 := by unfold maxLen at hGm; omega
  have hGi : ¬ (G = i) := by omega
  have hGim : ¬ (G = i + 1) := by omega
  have hci : ¬ (c = i) := by omega
  have hn1G : (n + 1) * k ≤ G * k := Nat.mul_le_mul_right k hGn
  obtain ⟨ds, hds⟩ : ∃ ds, ds = (cc.toList.take (n * k)).drop (i * k) := ⟨_, rfl⟩
  have hdl : ds.length = (n - i) * k := by rw [hds, List.length_drop, List.length_take, Array.length_toList, Nat.min_eq_left hnk, Nat.sub_mul]
  rw [← hds]
  have e1 : Nat.min (n - i) (n - i) = n - i := Nat.min_self _
  have e2 : (i + 1) * k + (n - i) * k = (n + 1) * k := by rw [← Nat.add_mul]; congr 1; omega
  have e4 : i * k + k ≤ (n + 1) * k := by have : (i + 1) * k ≤ (n + 1) * k := Nat.mul_le_mul_right k (by omega); rw [Nat.add_mul, Nat.one_mul] at this; exact this
  obtain ⟨W1, hW1⟩ : ∃ W1, W1 = w.drew.alloc (.cells ROW (ρ.t 9)) := ⟨_, rfl⟩
  have hcpA : ∀ (W : World), W.heap = W1.heap → ∀ ty dc, (Builtin.copy_ #[(ρ.t 24), (ρ.t 24)] ty #[.slice (some ⟨w.heap.size, i * k, none⟩) (n + 1 - i) dc, .slice (some ⟨vb, 0, none⟩) 1 vc]).run P W = .ok (goInt (1 : Nat)) (W.setRow w.heap.size (put ROW (i * k) vs)) := fun W hW ty dc => by
    have e3 : Nat.min 1 (n + 1 - i) = 1 := by simp only [Nat.min_def]; split <;> omega
    have hN : W.heap[w.heap.size]? = some (.cells ROW (ρ.t 9) (0, 0)) := by rw [hW, hW1]; exact heap_push_eq w.drew _
    have hV : W.heap[vb]? = some (.cells cv tv (0, 0)) := by rw [hW, hW1, heap_push_lt w.drew _ hvw]; exact hv
    have h := run_copy_rowk (P := P) W (ρ.t 24) (ρ.t 24) ty (ρ.t 9) w.heap.size (i * k) (n + 1 - i) dc ⟨vb, 0, none⟩ 1 vc ROW (ρ.t 9) vs k L.t24 hsz hN (by rw [e3, hvl, Nat.one_mul])
      (fun j v hj => by
        rw [Addr.add_lit]
        rw [hvs, List.getElem?_take] at hj
        split at hj
        · rw [Array.getElem?_toList] at hj
          simp [World.cell?, hV, hj]
        · cases hj) (by rw [hRl, hvl]; omega) h1v
    rw [e3] at h
    exact h
  have hps : (put ROW (i * k) vs).size = ROW.size := by
    simp only [put, List.size_toArray, List.length_append, List.length_take, List.length_drop, Array.length_toList, hvl]
    omega
  have hcpB : ∀ (W : World), W.heap = (W1.setRow w.heap.size (put ROW (i * k) vs)).heap → ∀ ty dc sc, (Builtin.copy_ #[(ρ.t 24), (ρ.t 24)] ty #[.slice (some ⟨w.heap.size, (i + 1) * k, none⟩) (n - i) dc, .slice (some ⟨b, i * k, none⟩) (n - i) sc]).run P W = .ok (goInt (n - i : Nat)) (W.setRow w.heap.size (put (put ROW (i * k) vs) ((i + 1) * k) ds)) := fun W hW ty dc sc => by
    have hN : W.heap[w.heap.size]? = some (.cells (put ROW (i * k) vs) (ρ.t 9) (0, 0)) := by
      rw [hW, hW1]; exact setRow_heap _ _ ROW _ (ρ.t 9) _ (heap_push_eq w.drew _)
    have hB : W.heap[b]? = some (.cells cc tb (0, 0)) := by
      rw [hW, hW1, setRow_other _ _ b _ (by omega), heap_push_lt w.drew _ hbw]; exact hb
    have h := run_copy_rowk (P := P) W (ρ.t 24) (ρ.t 24) ty (ρ.t 9) w.heap.size ((i + 1) * k) (n - i) dc ⟨b, i * k, none⟩ (n - i) sc _ (ρ.t 9) ds k L.t24 hsz hN (by rw [hdl, e1])
      (fun j v hj => by
        rw [Addr.add_lit]
        rw [hds, List.getElem?_drop, List.getElem?_take] at hj
        split at hj
        · rw [Array.getElem?_toList] at hj
          simp [World.cell?, hB, hj]
        · cases hj) (by rw [hdl, e2, hps, hRl]; exact hn1G) (fun v hv => h1c v (List.mem_of_mem_drop (hds ▸ hv)))
    rw [e1] at h
    exact h
  subst hW1
  have hw1 : IntKind.i64.wrap ((i : Int) + 1) = (i : Int) + 1 := by rw [IntKind.wrap_i64]; omega
  have hb1 : (0 : Int) ≤ (i : Int) + 1 := by omega
  have hin : i ≤ n := by omega
  have htn : ((i : Int) + 1).toNat = i + 1 := by omega
  have hb3 : (i : Int) ≤ (n : Int) := by omega
  have hE1 : ((w.alloc (.cells ROW (ρ.t 9))).drew).heap = (w.drew.alloc (.cells ROW (ρ.t 9))).heap := rfl
  have hF1 : (((w.alloc (.cells ROW (ρ.t 9))).drew.setRow w.heap.size (put ROW (i * k) vs)).drew).heap = ((w.drew.alloc (.cells ROW (ρ.t 9))).setRow w.heap.size (put ROW (i * k) vs)).heap := rfl
  have hcall : Calls P (ρ.f 22) #[.slice (some ⟨b, 0, none⟩) n c, .int .i64 i, .slice (some ⟨vb, 0, none⟩) 1 vc] w fun e w' => e = .returned (.slice (some ⟨w.heap.size, 0, none⟩) (n + 1) G) ∧ w' = (((w.alloc (.cells ROW (ρ.t 9))).drew.setRow w.heap.size (put ROW (i * k) vs)).drew).setRow w.heap.size (put (put ROW (i * k) vs) ((i + 1) * k) ds) := by
    clear hkk hik hold hROW hG hRl hds e1 e2 e4 hRt hvs
    go_enter L.f22, Body2.n22_ntmps ρ
    go_wp2_with (first
      | (at_builtin; refine Lib.wpList_append_run _ rfl _ _ _ _ rfl _ _ rfl rfl _ _ (hrz _) ?_)
      | (at_builtin; refine wpList_copy_runI _ rfl _ _ (ρ.t 24) (ρ.t 24) rfl _ _ rfl rfl (hcpA _ hE1 _ _) ?_)
      | (at_builtin; refine wpList_copy_runI _ rfl _ _ (ρ.t 24) (ρ.t 24) rfl _ _ rfl rfl (hcpB _ hF1 _ _ _) ?_))
    go_region_law_o (refine step_copy_runI rfl _ _ (ρ.t 24) (ρ.t 24) rfl (.slice (some ⟨w.heap.size, (i + 1) * k, none⟩) (n - i) (G - (i + 1))) (.slice (some ⟨b, i * k, none⟩) (n - i) (c - i)) (by simp [Act.eval, Act.put]) (by simp [Act.eval, Act.put]) (hcpB _ hF1 (ρ.t 3) (G - (i + 1)) (c - i)) ?_)
    go_wp2
    go_ret
    exact ⟨rfl, rfl⟩
  refine hcall.mono fun e w' h => ?_
  obtain ⟨rfl, rfl⟩ := h
  refine ⟨G, ROW, hRl, hGn, hGm, rfl, ?_, hRt⟩
  have q := alloc_setRow w ROW (put ROW (i * k) vs) (ρ.t 9)
  have q2 := alloc_setRow w (put ROW (i * k) vs) (put (put ROW (i * k) vs) ((i + 1) * k) ds) (ρ.t 9)
  have q3 : (((w.alloc (.cells ROW (ρ.t 9))).drew.setRow w.heap.size (put ROW (i * k) vs)).drew).setRow w.heap.size (put (put ROW (i * k) vs) ((i + 1) * k) ds) = ((((w.alloc (.cells ROW (ρ.t 9))).setRow w.heap.size (put ROW (i * k) vs))).setRow w.heap.size (put (put ROW (i * k) vs) ((i + 1) * k) ds)).drew.drew := rfl
  rw [q3, q, q2]
  rfl
set_option maxHeartbeats 4000000 in
set_option maxRecDepth 100000 in
theorem ins_end (L : InsLay P ρ n1 k bytes z) (b n c vb vc : Nat) (w w' : World) (v : Value) (hnc : n ≤ c)
    (hr : ∀ ty, (Builtin.append_ #[(ρ.t 24), (ρ.t 24)] ty #[.slice (some ⟨b, 0, none⟩) n c, .slice (some ⟨vb, 0, none⟩) 1 vc]).run P w = .ok v w') :
    Calls P (ρ.f 22) #[.slice (some ⟨b, 0, none⟩) n c, .int .i64 n, .slice (some ⟨vb, 0, none⟩) 1 vc] w fun e u => e = .returned v ∧ u = w' := by
  have hk := L.hk
  have t0 := L.t0; have a0 := L.a0; have z0 := L.z0; have v0 := L.v0; have t3 := L.t3; have a3 := L.a3; have z3 := L.z3; have v3 := L.v3; have t4 := L.t4; have a4 := L.a4; have z4 := L.z4; have v4 := L.v4; have z9 := L.z9; have t24 := L.t24; have a24 := L.a24; have z24 := L.z24; have v24 := L.v24
  have u0 := run_underlying L.t0; have u3 := run_underlying L.t3; have u4 := run_underlying L.t4; have u24 := run_underlying L.t24
  have mixed := L.mixed
  go_enter L.f22, Body2.n22_ntmps ρ
  go_wp2_with (at_builtin; refine Lib.wpList_append_run _ rfl _ _ _ _ rfl _ _ rfl rfl _ _ (hr _) ?_)
  all_goals (go_ret; exact ⟨rfl, rfl⟩)
set_option maxHeartbeats 4000000 in
set_option maxRecDepth 100000 in
theorem ins_none (L : InsLay P ρ n1 k bytes z) (vb vc : Nat) (w w' : World) (v : Value)
    (hr : ∀ ty, (Builtin.append_ #[(ρ.t 24), (ρ.t 24)] ty #[.slice none 0 0, .slice (some ⟨vb, 0, none⟩) 1 vc]).run P w = .ok v w') :
    Calls P (ρ.f 22) #[.slice none 0 0, .int .i64 0, .slice (some ⟨vb, 0, none⟩) 1 vc] w fun e u => e = .returned v ∧ u = w' := by
  have hk := L.hk
  have t0 := L.t0; have a0 := L.a0; have z0 := L.z0; have v0 := L.v0; have t3 := L.t3; have a3 := L.a3; have z3 := L.z3; have v3 := L.v3; have t4 := L.t4; have a4 := L.a4; have z4 := L.z4; have v4 := L.v4; have z9 := L.z9; have t24 := L.t24; have a24 := L.a24; have z24 := L.z24; have v24 := L.v24
  have u0 := run_underlying L.t0; have u3 := run_underlying L.t3; have u4 := run_underlying L.t4; have u24 := run_underlying L.t24
  have mixed := L.mixed
  go_enter L.f22, Body2.n22_ntmps ρ
  go_wp2_with (at_builtin; refine Lib.wpList_append_run _ rfl _ _ _ _ rfl _ _ rfl rfl _ _ (hr _) ?_)
  all_goals (go_ret; exact ⟨rfl, rfl⟩)
set_option maxHeartbeats 4000000 in
set_option maxRecDepth 100000 in
theorem ins_some (L : InsLay P ρ n1 k bytes z) (a : Addr) (vb vc : Nat) (w w' : World) (v : Value)
    (hr : ∀ ty, (Builtin.append_ #[(ρ.t 24), (ρ.t 24)] ty #[.slice (some a) 0 0, .slice (some ⟨vb, 0, none⟩) 1 vc]).run P w = .ok v w') :
    Calls P (ρ.f 22) #[.slice (some a) 0 0, .int .i64 0, .slice (some ⟨vb, 0, none⟩) 1 vc] w fun e u => e = .returned v ∧ u = w' := by
  have hk := L.hk
  have t0 := L.t0; have a0 := L.a0; have z0 := L.z0; have v0 := L.v0; have t3 := L.t3; have a3 := L.a3; have z3 := L.z3; have v3 := L.v3; have t4 := L.t4; have a4 := L.a4; have z4 := L.z4; have v4 := L.v4; have z9 := L.z9; have t24 := L.t24; have a24 := L.a24; have z24 := L.z24; have v24 := L.v24
  have u0 := run_underlying L.t0; have u3 := run_underlying L.t3; have u4 := run_underlying L.t4; have u24 := run_underlying L.t24
  have mixed := L.mixed
  go_enter L.f22, Body2.n22_ntmps ρ
  go_wp2_with (at_builtin; refine Lib.wpList_append_run _ rfl _ _ _ _ rfl _ _ rfl rfl _ _ (hr _) ?_)
  all_goals (go_ret; exact ⟨rfl, rfl⟩)
end Go.Proofs.Ytmnjchcoigbngaa
namespace Go.Proofs.Ytmnjchcoigbngaa
open Go Go.Proofs Go.Shelf Go.Lib
theorem put_get {cc : Array Value} {o : Nat} {cs : List Value} (h : o + cs.length ≤ cc.size) (q : Nat) : (put cc o cs)[q]? = if o ≤ q ∧ q < o + cs.length then cs[q - o]? else cc[q]? := by
  unfold put
  rw [seg_get h]
theorem put_size {cc : Array Value} {o : Nat} {cs : List Value} (h : o + cs.length ≤ cc.size) : (put cc o cs).size = cc.size := by
  simp only [put, List.size_toArray, List.length_append, List.length_take, List.length_drop, Array.length_toList]
  omega
theorem ins_rows {x : Cx} {rows : List (List V)} {row : List V} {k i : Nat} {cc cv F : Array Value} (hsz : ∀ r ∈ rows, r.length = k) (hsz1 : row.length = k) (hi : i ≤ rows.length)
    (hr : ∀ (r : Nat) (row : List V) (j : Nat) (v : V), rows[r]? = some row → row[j]? = some v → R x v (cc.getD (r * k + j) undef))
    (hv : ∀ (j : Nat) (v : V), row[j]? = some v → R x v (cv.getD j undef))
    (ha : ∀ q, q < i * k → F[q]? = cc[q]?) (hb : ∀ q, q < k → F[i * k + q]? = cv[q]?) (hc : ∀ q, q < (rows.length - i) * k → F[(i + 1) * k + q]? = cc[i * k + q]?) :
    ∀ (r : Nat) (row' : List V) (j : Nat) (v : V), (rows.take i ++ row :: rows.drop i)[r]? = some row' → row'[j]? = some v → R x v (F.getD (r * k + j) undef) := by
  intro r row' j v h1 h2
  have hlt : (rows.take i).length = i := by rw [List.length_take]; omega
  rw [List.getElem?_append] at h1
  split at h1
  · rename_i hlt'
    rw [hlt] at hlt'
    rw [List.getElem?_take, if_pos hlt'] at h1
    have hjk : j < k := by rw [← hsz _ (List.mem_of_getElem? h1)]; exact (List.getElem?_eq_some_iff.1 h2).1
    have : r * k + j < i * k := by
      have : (r + 1) * k ≤ i * k := Nat.mul_le_mul_right k hlt'
      rw [Nat.add_mul, Nat.one_mul] at this; omega
    rw [Array.getD_eq_getD_getElem?, ha _ this, ← Array.getD_eq_getD_getElem?]
    exact hr r row' j v h1 h2
  · rename_i hge
    rw [hlt] at h1 hge
    by_cases he : r = i
    · subst he
      rw [Nat.sub_self] at h1
      simp only [List.getElem?_cons_zero, Option.some.injEq] at h1
      subst h1
      have hjk : j < k := by rw [← hsz1]; exact (List.getElem?_eq_some_iff.1 h2).1
      rw [Array.getD_eq_getD_getElem?, hb _ hjk, ← Array.getD_eq_getD_getElem?]
      exact hv j v h2
    · obtain ⟨q, hq⟩ : ∃ q, r - i = q + 1 := ⟨r - i - 1, by omega⟩
      rw [hq, List.getElem?_cons_succ, List.getElem?_drop] at h1
      have hjk : j < k := by rw [← hsz _ (List.mem_of_getElem? h1)]; exact (List.getElem?_eq_some_iff.1 h2).1
      have hql := (List.getElem?_eq_some_iff.1 h1).1
      have hlt2 : q * k + j < (rows.length - i) * k := by
        have : (q + 1) * k ≤ (rows.length - i) * k := Nat.mul_le_mul_right k (by omega)
        rw [Nat.add_mul, Nat.one_mul] at this; omega
      have e1 : r * k + j = (i + 1) * k + (q * k + j) := by rw [← Nat.add_assoc, ← Nat.add_mul]; congr 2; omega
      have e2 : i * k + (q * k + j) = (i + q) * k + j := by rw [Nat.add_mul]; omega
      rw [e1, Array.getD_eq_getD_getElem?, hc _ hlt2, ← Array.getD_eq_getD_getElem?, e2]
      exact hr _ row' j v h1 h2
section
variable {P : Program} {ρ : Ren} {n1 : String} {k bytes : Nat} {z : Value}
theorem ins_full (L : InsLay P ρ n1 k bytes z) {zz : List V} (hzz : zeroOf P (ρ.t 9) = some zz) (hzl : zz.length = k) {x : Cx} (hx : Inv x) {id id2 ver ver2 ty2 i : Nat} {rows : List (List V)} {row : List V} {c0 c2 : Value}
    {lz : Bool} (hlz : (lz && rows.isEmpty) = false) (hH : x.H id = ⟨ver, true, lz, ρ.t 9, k, rows⟩) (hH2 : x.H id2 = ⟨ver2, true, false, ty2, k, [row]⟩) (hne : id ≠ id2) (hi : i ≤ rows.length)
    (hf : fitRows k rows = true) (hf1 : fitRows k [row] = true) (hb : (rows.length + 1) * bytes ≤ 140737488355328) (hm : rows.length + 1 ≤ 9223372036854775807)
    (r0 : R x (.ms id ver 0 rows.length) c0) (r2 : R x (.ms id2 ver2 0 1) c2) :
    Calls P (ρ.f 22) #[c0, .int .i64 i, c2] x.w fun e w' => ∃ c y, e = .returned c ∧ y.w = w' ∧ y.H = upd x.H id ⟨ver + 1, true, lz, ρ.t 9, k, rows.take i ++ row :: rows.drop i⟩ ∧ Inv y ∧ R y (.ms id (ver + 1) 0 (rows.length + 1)) c ∧ Frame x y := by
  have hk := L.hk
  have ho : (x.H id).own = true := by rw [hH]; simp only [Blk.own, hlz]; rfl
  have ho2 : (x.H id2).own = true := by rw [hH2]; rfl
  obtain ⟨hsz, hone⟩ := fitRows_spec hf
  obtain ⟨hsz1, hone1⟩ := fitRows_spec hf1
  have r0' := r0; have r2' := r2
  cases r0 with
  | ms _ _ _ _ b n cap hv hh =>
  cases r2 with
  | ms _ _ _ _ b2 m2 cap2 hv2 hh2 =>
  obtain ⟨e1, e2, e3, e4, e5, e6⟩ := hh (by rw [hH]) (by rw [hH])
  obtain ⟨d1, d2, d3, d4, d5, d6⟩ := hh2 (by rw [hH2]) (by rw [hH2])
  obtain ⟨e7, e8⟩ := e5 ho
  obtain ⟨d7, d8⟩ := d5 ho2
  obtain ⟨cc, b1, bb2, bb3, bb4⟩ := hx.blk id ho
  obtain ⟨cv, v1, vv2, vv3, vv4⟩ := hx.blk id2 ho2
  have hrs : rowSize x.w (x.σ id) = cc.size := by unfold rowSize; rw [b1]
  have hrs2 : rowSize x.w (x.σ id2) = cv.size := by unfold rowSize; rw [v1]
  rw [hrs, hH] at e8
  rw [hrs2, hH2] at d8
  rw [hH] at e7 b1 bb3 bb4
  rw [hH2] at d7 v1 vv3 vv4
  simp only [Nat.zero_mul, Nat.zero_add] at e7 d7 e8 d8
  simp only at b1 bb3 bb4 v1 vv3 vv4
  subst e1; subst d1; subst e7; subst d7
  have hvb : x.σ id2 ≠ x.σ id := fun e => hne (hx.inj id id2 ho ho2 e.symm)
  have hcv : k ≤ cv.size := by simpa using vv3
  have hsz1' : row.length = k := hsz1 row (by simp)
  have hrow : ∀ (j : Nat) (v : V), row[j]? = some v → R x v (cv.getD j undef) := fun j v hj => by
    have := vv4 0 row j v rfl hj
    simpa using this
  have h1c : ∀ v ∈ cc.toList.take (rows.length * k), v.oneCell' = true := fun v hv => by
    obtain ⟨q, hq⟩ := List.getElem?_of_mem hv
    rw [List.getElem?_take] at hq
    split at hq
    · rename_i hlt
      obtain ⟨rw', u, h5, h6, h7⟩ := CRR_cell hsz hlt
      have h8 := bb4 _ _ _ _ h5 h6
      rw [h7, Array.getD_eq_getD_getElem?, ← Array.getElem?_toList, hq] at h8
      exact h8.one (hone _ (List.mem_of_getElem? h5) _ (List.mem_of_getElem? h6))
    · cases hq
  obtain ⟨vs, hvs⟩ : ∃ vs, vs = cv.toList.take k := ⟨_, rfl⟩
  have hvl : vs.length = k := by rw [hvs, List.length_take, Array.length_toList]; omega
  have hvg : ∀ q, q < k → vs[q]? = cv[q]? := fun q hq => by rw [hvs, List.getElem?_take, if_pos hq, Array.getElem?_toList]
  have h1v : ∀ v ∈ vs, v.oneCell' = true := fun v hv => by
    obtain ⟨q, hq⟩ := List.getElem?_of_mem hv
    have hlt : q < k := by rw [← hvl]; exact (List.getElem?_eq_some_iff.1 hq).1
    have hu : ∃ u, row[q]? = some u := ⟨_, List.getElem?_eq_getElem (by rw [hsz1']; exact hlt)⟩
    obtain ⟨u, hu⟩ := hu
    have h8 := hrow q u hu
    rw [Array.getD_eq_getD_getElem?, ← hvg q hlt, hq] at h8
    exact h8.one (hone1 row (by simp) u (List.mem_of_getElem? hu))
  obtain ⟨n, hn⟩ : ∃ n, n = rows.length := ⟨_, rfl⟩
  have hnew : ∀ r ∈ rows.take i ++ row :: rows.drop i, r.length = k := fun r hr => by
    rcases List.mem_append.1 hr with hr | hr
    · exact hsz r (List.mem_of_mem_take hr)
    · rcases List.mem_cons.1 hr with hr | hr
      · rw [hr]; exact hsz1'
      · exact hsz r (List.mem_of_mem_drop hr)
  have hnewl : (rows.take i ++ row :: rows.drop i).length = rows.length + 1 := by simp; omega
  by_cases hend : i = rows.length
  · obtain ⟨i0, hi0, hz0, hzs, hzb⟩ := info_parts L.i9
    obtain ⟨y, c, hr, y1, y2, y3, y4⟩ := append_run (P := P) (esz := k) (bytes := bytes) (new := [row]) hx L.t24 hi0 hzz hzs hzb hzl (by omega) (i := id) (ver := ver) (len := rows.length) (u := .ms id2 ver2 0 1) (by rw [hH]) (by rw [hH]) (by rw [hH]) (by rw [hH]) (by rw [hH])
      (by simp [rowsOf, hH2]) hf1 hb hm r0' r2' 0
    rw [hend]
    refine (ins_end L (x.σ id) rows.length cap (x.σ id2) cap2 x.w y.w c e2 fun ty => hr).mono fun e w' h => ?_
    obtain ⟨rfl, rfl⟩ := h
    refine ⟨c, y, rfl, rfl, ?_, y2, y4, y3⟩
    rw [y1, hH]
    simp
  have hlt : i < rows.length := by omega
  have hnk : rows.length * k ≤ cc.size := by rw [← e8]; exact Nat.mul_le_mul_right k e2
  have hik : i * k ≤ rows.length * k := Nat.mul_le_mul_right k hi
  obtain ⟨ds, hds⟩ : ∃ ds, ds = (cc.toList.take (rows.length * k)).drop (i * k) := ⟨_, rfl⟩
  have hdl : ds.length = (rows.length - i) * k := by rw [hds, List.length_drop, List.length_take, Array.length_toList (xs := cc), Nat.min_eq_left hnk, Nat.sub_mul]
  have hdg : ∀ q, q < (rows.length - i) * k → ds[q]? = cc[i * k + q]? := fun q hq => by
    rw [hds, List.getElem?_drop, List.getElem?_take, if_pos (by rw [Nat.sub_mul] at hq; omega), Array.getElem?_toList]
  have e9 : (i + 1) * k + (rows.length - i) * k = (rows.length + 1) * k := by rw [← Nat.add_mul]; congr 1; omega
  have e10 : (i + 1) * k = i * k + k := by rw [Nat.add_mul, Nat.one_mul]
  by_cases hroom : rows.length + 1 ≤ cap
  · have hn1k : (rows.length + 1) * k ≤ cc.size := by rw [← e8]; exact Nat.mul_le_mul_right k hroom
    refine (ins_shift L (x.σ id) rows.length cap i (x.σ id2) cap2 cc cv _ _ x.w hlt hroom (by unfold maxLen at e3; omega) hvb b1 v1 e8 hcv vs hvs h1c h1v).mono fun e w' h => ?_
    obtain ⟨rfl, rfl⟩ := h
    rw [← hds]
    have hs1 : (put cc ((i + 1) * k) ds).size = cc.size := put_size (by rw [hdl, e9]; exact hn1k)
    have hfit2 : i * k + vs.length ≤ (put cc ((i + 1) * k) ds).size := by rw [hs1, hvl]; omega
    obtain ⟨dI, dF⟩ := step_draw hx (x.w.drawn + 1) (Nat.le_succ _)
    obtain ⟨hI, hF⟩ := step_set dI id ho cc (put (put cc ((i + 1) * k) ds) (i * k) vs) (by rw [hH]; exact b1) (by rw [put_size hfit2, hs1]) (ver + 1) (rows.take i ++ row :: rows.drop i) (by simp only [hH]; omega) (by simp only [hH]; omega) (by simp only [hH]; simp)
      (by simp only [hH]; exact hnew) (by simp only [hH]; rw [hnewl]; exact hn1k) (by
        simp only [hH]
        refine ins_rows hsz hsz1' hi (fun r row j v h5 h6 => (bb4 r row j v h5 h6).frame hx dF) (fun j v h5 => (hrow j v h5).frame hx dF) (fun q hq => ?_) (fun q hq => ?_) (fun q hq => ?_)
        · rw [put_get hfit2, if_neg (by omega), put_get (by rw [hdl, e9]; exact hn1k), if_neg (by omega)]
        · rw [put_get hfit2, if_pos (by omega), Nat.add_sub_cancel_left]; exact hvg q hq
        · rw [put_get hfit2, if_neg (by omega), put_get (by rw [hdl, e9]; exact hn1k), if_pos (by rw [hdl]; omega), Nat.add_sub_cancel_left]; exact hdg q hq)
    refine ⟨_, _, rfl, ?_, ?_, hI, ?_, dF.trans hF⟩
    · rfl
    · simp only [hH]
    · refine .ms _ _ _ _ _ _ _ (by simp [upd_same]) fun _ _ => ?_
      simp only [upd_same, hH]
      refine ⟨trivial, hroom, e3, by rw [hnewl]; omega, fun _ => ⟨by simp, ?_⟩, fun h => by simp [Blk.own] at h⟩
      have : rowSize (({ x.w with drawn := x.w.drawn + 1 } : World).setRow (x.σ id) (put (put cc ((i + 1) * k) ds) (i * k) vs)) (x.σ id) = cc.size := by
        have q := setRow_heap ({ x.w with drawn := x.w.drawn + 1 } : World) (x.σ id) cc (put (put cc ((i + 1) * k) ds) (i * k) vs) _ _ b1
        unfold rowSize
        rw [q]
        show (put (put cc ((i + 1) * k) ds) (i * k) vs).size = cc.size
        rw [put_size hfit2, hs1]
      rw [this, Nat.zero_add]; exact e8
  · refine (ins_grow L (x.σ id) rows.length cap i (x.σ id2) cap2 cc cv _ _ x.w hlt e2 (by omega) (by omega) hb b1 v1 e8 hcv vs hvs h1c h1v).mono fun e w' h => ?_
    obtain ⟨G, Rw, g1, g2, g3, rfl, rfl, g4⟩ := h
    rw [← hds]
    have hGk : (rows.length + 1) * k ≤ Rw.size := by rw [g1]; exact Nat.mul_le_mul_right k g2
    have hfit1 : i * k + vs.length ≤ Rw.size := by rw [hvl]; omega
    have hs1 : (put Rw (i * k) vs).size = Rw.size := put_size hfit1
    have hfit2 : (i + 1) * k + ds.length ≤ (put Rw (i * k) vs).size := by rw [hs1, hdl, e9]; exact hGk
    obtain ⟨dI, dF⟩ := step_draw hx (x.w.drawn + 2) (by omega)
    obtain ⟨hI, hF⟩ := step_own dI id (put (put Rw (i * k) vs) ((i + 1) * k) ds) lz (ρ.t 9) k (rows.take i ++ row :: rows.drop i) hnew (by rw [hnewl, put_size hfit2, hs1]; exact hGk) (by
        refine ins_rows hsz hsz1' hi (fun r row j v h5 h6 => (bb4 r row j v h5 h6).frame hx dF) (fun j v h5 => (hrow j v h5).frame hx dF) (fun q hq => ?_) (fun q hq => ?_) (fun q hq => ?_)
        · rw [put_get hfit2, if_neg (by omega), put_get hfit1, if_neg (by omega)]
          have := congrArg (fun l => l[q]?) g4
          simp only [List.getElem?_take, if_pos hq, Array.getElem?_toList] at this
          exact this
        · rw [put_get hfit2, if_neg (by omega), put_get hfit1, if_pos (by omega), Nat.add_sub_cancel_left]; exact hvg q hq
        · rw [put_get hfit2, if_pos (by rw [hdl]; omega), Nat.add_sub_cancel_left]; exact hdg q hq)
    refine ⟨_, _, rfl, ?_, ?_, hI, ?_, dF.trans hF⟩
    · rfl
    · simp only [hH]
    · refine .ms _ _ _ _ _ _ _ (by simp [upd_same, hH]) fun _ _ => ?_
      simp only [upd_same, hH]
      refine ⟨trivial, g2, g3, by rw [hnewl]; omega, fun _ => ⟨by simp, ?_⟩, fun h => by simp [Blk.own] at h⟩
      rw [rowSize_new, put_size hfit2, hs1, g1, Nat.zero_add]
theorem CallOK_insert (L : InsLay P ρ n1 k bytes z) (hcf : callable P (ρ.f 22)) {zz : List V} (hzz : zeroOf P (ρ.t 9) = some zz) (hzl : zz.length = k) {id id2 ver ver2 ty2 i n : Nat} {rows : List (List V)} {row : List V} {H : Heap}
    {lz : Bool} (hlz : (lz && (rows.take n).isEmpty) = false) (hH : H id = ⟨ver, true, lz, ρ.t 9, k, rows⟩) (hH2 : H id2 = ⟨ver2, true, false, ty2, k, [row]⟩) (hne : id ≠ id2) (hn : n ≤ rows.length) (hi : i ≤ n)
    (hf : fitRows k (rows.take n) = true) (hf1 : fitRows k [row] = true) (hb : (n + 1) * bytes ≤ 140737488355328) (hm : n + 1 ≤ 9223372036854775807) :
    CallOK P (ρ.f 22) [.ms id ver 0 n, iV i, .ms id2 ver2 0 1] H (.ms id (ver + 2) 0 (n + 1)) (upd H id ⟨ver + 2, true, lz, ρ.t 9, k, (rows.take n).take i ++ row :: (rows.take n).drop i⟩) := by
  refine ⟨hcf, fun x cs hxH hx hr => ?_⟩
  subst hxH
  obtain ⟨c0, c1, c2, rfl⟩ : ∃ c0 c1 c2, cs = [c0, c1, c2] := by
    have := hr.1
    match cs with
    | [a, b, c] => exact ⟨a, b, c, rfl⟩
    | [] => simp at this
    | [_] => simp at this
    | [_, _] => simp at this
    | _ :: _ :: _ :: _ :: _ => simp at this
  have r0 : R x (.ms id ver 0 n) c0 := hr.2 0 _ rfl
  have r1 : R x (iV i) c1 := hr.2 1 _ rfl
  have r2 : R x (.ms id2 ver2 0 1) c2 := hr.2 2 _ rfl
  have hc1 : c1 = .int .i64 i := by
    unfold iV at r1
    cases r1; rfl
  subst hc1
  have hlz2 : (lz && rows.isEmpty) = false := by
    cases lz with
    | false => rfl
    | true =>
      cases rows with
      | nil => simp at hlz
      | cons a l => rfl
  have ho : (x.H id).own = true := by rw [hH]; simp only [Blk.own, hlz2]; rfl
  obtain ⟨cc, b1, bb2, bb3, bb4⟩ := hx.blk id ho
  have hlen : (rows.take n).length = n := by rw [List.length_take]; omega
  obtain ⟨hI, hF⟩ := step_set hx id ho cc cc b1 rfl (ver + 1) (rows.take n) (by rw [hH]; exact Nat.le_succ _) (by rw [hH]; simp) (by rw [hH]; exact hlz) (fun r h => bb2 r (by rw [hH]; exact List.mem_of_mem_take h))
    (by rw [hlen]; refine Nat.le_trans (Nat.mul_le_mul_right _ ?_) bb3; rw [hH]; exact hn) (fun r row j v h1 h2 => by
      rw [List.getElem?_take] at h1
      split at h1
      · exact bb4 r row j v (by rw [hH]; exact h1) h2
      · cases h1)
  have hw : x.w.setRow (x.σ id) cc = x.w := setRow_self x.w _ cc _ _ b1
  rw [hw] at hI hF
  have q0 : R { x with H := upd x.H id ⟨ver + 1, true, (x.H id).lz, (x.H id).ty, (x.H id).sz, rows.take n⟩ } (.ms id (ver + 1) 0 (rows.take n).length) c0 := by
    cases r0 with
    | ms _ _ _ _ b m cap hv hh =>
    obtain ⟨e1, e2, e3, e4, e5, e6⟩ := hh (by rw [hH]) (by rw [hH])
    obtain ⟨e7, e8⟩ := e5 ho
    refine .ms _ _ _ _ _ _ _ (by simp [upd_same]) fun _ _ => ?_
    simp only [upd_same, hlen]
    exact ⟨e1, e2, e3, by omega, fun _ => ⟨e7, e8⟩, fun h => by rw [hH] at h; simp only [Blk.own, hlz] at h; cases h⟩
  have h := ins_full L hzz hzl hI (id := id) (id2 := id2) (ver := ver + 1) (ver2 := ver2) (ty2 := ty2) (i := i) (rows := rows.take n) (row := row) hlz (by simp [upd_same, hH]) (by simp only [upd_ne _ _ (Ne.symm hne)]; exact hH2) hne (by rw [hlen]; exact hi) hf hf1 (by rw [hlen]; exact hb) (by rw [hlen]; exact hm) q0 (r2.frame hx hF)
  refine h.mono fun e w' h => ?_
  obtain ⟨c, y, rfl, h1, h2, h3, h4, h5⟩ := h
  refine ⟨c, y, rfl, h1, ?_, h3, ?_, hF.trans h5⟩
  · rw [h2]
    funext j
    by_cases e : j = id
    · subst e; simp only [upd_same]
    · simp only [upd_ne _ _ e]
  · rw [hlen] at h4; exact h4
theorem CallOK_insert0 (L : InsLay P ρ n1 k bytes z) (hcf : callable P (ρ.f 22)) {zz : List V} (hzz : zeroOf P (ρ.t 9) = some zz) (hzl : zz.length = k) {id id2 ver ver2 ty2 : Nat} {row : List V} {H : Heap}
    (hH : H id = ⟨ver, true, true, ρ.t 9, k, []⟩) (hH2 : H id2 = ⟨ver2, true, false, ty2, k, [row]⟩) (hf1 : fitRows k [row] = true) (hb : bytes ≤ 140737488355328) :
    CallOK P (ρ.f 22) [.ms id ver 0 0, iV 0, .ms id2 ver2 0 1] H (.ms id (ver + 2) 0 1) (upd H id ⟨ver + 2, true, true, ρ.t 9, k, [row]⟩) := by
  refine ⟨hcf, fun x cs hxH hx hr => ?_⟩
  subst hxH
  obtain ⟨c0, c1, c2, rfl⟩ : ∃ c0 c1 c2, cs = [c0, c1, c2] := by
    have := hr.1
    match cs with
    | [a, b, c] => exact ⟨a, b, c, rfl⟩
    | [] => simp at this
    | [_] => simp at this
    | [_, _] => simp at this
    | _ :: _ :: _ :: _ :: _ => simp at this
  have r0 : R x (.ms id ver 0 0) c0 := hr.2 0 _ rfl
  have r1 : R x (iV 0) c1 := hr.2 1 _ rfl
  have r2 : R x (.ms id2 ver2 0 1) c2 := hr.2 2 _ rfl
  have hc1 : c1 = .int .i64 0 := by
    unfold iV at r1
    cases r1; rfl
  subst hc1
  have hk := L.hk
  have ho2 : (x.H id2).own = true := by rw [hH2]; rfl
  obtain ⟨i0, hi0, hz0, hzs, hzb⟩ := info_parts L.i9
  obtain ⟨y, c, hrun, y1, y2, y3, y4⟩ := append_run (P := P) (esz := k) (bytes := bytes) (new := [row]) hx L.t24 hi0 hzz hzs hzb hzl (by omega) (i := id) (ver := ver) (len := 0) (u := .ms id2 ver2 0 1) (by rw [hH]) (by rw [hH]) (by rw [hH]; rfl) (by rw [hH]) (by rw [hH])
      (by simp [rowsOf, hH2]) hf1 (by simpa using hb) (by simp) r0 r2 0
  have hcall : Calls P (ρ.f 22) #[c0, .int .i64 0, c2] x.w fun e w' => e = .returned c ∧ w' = y.w := by
    cases r2 with
    | ms _ _ _ _ b2 m2 cap2 hv2 hh2 =>
    obtain ⟨d1, d2, d3, d4, d5, d6⟩ := hh2 (by rw [hH2]) (by rw [hH2])
    obtain ⟨d7, d8⟩ := d5 ho2
    subst d1; subst d7
    simp only [Nat.zero_mul] at hrun ⊢
    cases r0 with
    | ms _ _ _ _ b n cap hv hh =>
      obtain ⟨e1, e2, e3, e4, e5, e6⟩ := hh (by rw [hH]) (by rw [hH])
      have hcap := e6 (by rw [hH]; rfl)
      subst e1; subst hcap
      cases b with
      | none => exact ins_none L (x.σ id2) cap2 x.w y.w c (fun _ => hrun)
      | some a => exact ins_some L a (x.σ id2) cap2 x.w y.w c (fun _ => hrun)
  refine hcall.mono fun e w' h => ?_
  obtain ⟨rfl, rfl⟩ := h
  have hyi : y.H id = ⟨ver + 1, true, true, ρ.t 9, k, [row]⟩ := by rw [y1, hH]; simp [upd_same]
  have hfin : FinH y.H (upd y.H id ⟨ver + 2, true, true, ρ.t 9, k, [row]⟩) := fun j => by
    by_cases e : j = id
    · subst e; rw [upd_same, hyi]; exact FinB.up (by omega) rfl
    · rw [upd_ne _ _ e]; exact .refl _
  obtain ⟨f1, f2⟩ := fin_step y2 hfin
  have f3 := FinV.ms hfin (id := id) (ver := ver + 1) (n := ver + 2) (off := 0) (len := 0 + [row].length) (by rw [hyi]) (by rw [hyi]) (by simp) (by simp)
  refine ⟨c, finC y _, rfl, rfl, ?_, f1, f3 y c rfl y2 y4, y3.trans f2⟩
  show upd y.H id _ = _
  rw [y1]
  funext j
  by_cases e : j = id
  · subst e; simp only [upd_same]
  · simp only [upd_ne _ _ e]
theorem CallOK_insertL (L : InsLay P ρ n1 k bytes z) (hcf : callable P (ρ.f 22)) {zz : List V} (hzz : zeroOf P (ρ.t 9) = some zz) (hzl : zz.length = k) {id id2 ver ver2 ty2 i n : Nat} {rows : List (List V)} {row : List V} {H : Heap}
    {lz : Bool} (hn : n = rows.length) (hH : H id = ⟨ver, true, lz, ρ.t 9, k, rows⟩) (hH2 : H id2 = ⟨ver2, true, false, ty2, k, [row]⟩) (hne : id ≠ id2) (hi : i ≤ n)
    (hf : fitRows k rows = true) (hf1 : fitRows k [row] = true) (hb : (n + 1) * bytes ≤ 140737488355328) (hm : n + 1 ≤ 9223372036854775807) :
    CallOK P (ρ.f 22) [.ms id ver 0 n, iV i, .ms id2 ver2 0 1] H (.ms id (ver + 2) 0 (n + 1)) (upd H id ⟨ver + 2, true, lz, ρ.t 9, k, rows.take i ++ row :: rows.drop i⟩) := by
  subst hn
  by_cases h0 : (lz && rows.isEmpty) = false
  · have := CallOK_insert L hcf hzz hzl (i := i) (by rw [List.take_length]; exact h0) hH hH2 hne (Nat.le_refl _) hi (by rw [List.take_length]; exact hf) hf1 hb hm
    rw [List.take_length] at this
    exact this
  · cases lz with
    | false => exact (h0 rfl).elim
    | true =>
      cases rows with
      | cons a l => exact (h0 rfl).elim
      | nil =>
        have hi0 : i = 0 := by simpa using hi
        subst hi0
        exact CallOK_insert0 L hcf hzz hzl hH hH2 hf1 (by simpa using hb)
end
end Go.Proofs.Ytmnjchcoigbngaa
namespace Go.Proofs.Ytmnjchcoigbngaa
open Go Go.Proofs Go.Shelf Go.Lib
def insP (f ty k bytes : Nat) : Prim := fun g args H =>
  if g = f then match args with
    | [.ms id ver 0 n, .int .i64 i, .ms id2 ver2 0 1] => match H id2 with
      | ⟨v2, true, false, _, k2, [row]⟩ => match H id with
        | ⟨v1, true, lz, ty1, k1, rows⟩ =>
          if ((lz && (rows.take n).isEmpty) = false ∨ n = rows.length) ∧ v1 = ver ∧ v2 = ver2 ∧ k1 = k ∧ k2 = k ∧ ty1 = ty ∧ id ≠ id2 ∧ n ≤ rows.length ∧ i.toNat ≤ n ∧ 0 ≤ i ∧ (n + 1) * bytes ≤ 140737488355328 ∧ n + 1 ≤ 9223372036854775807 then
            if fitRows k (rows.take n) && fitRows k [row] then
              some (.ms id (ver + 2) 0 (n + 1), upd H id ⟨ver + 2, true, lz, ty, k, (rows.take n).take i.toNat ++ row :: (rows.take n).drop i.toNat⟩)
            else none
          else none
        | _ => none
      | _ => none
    | _ => none
  else none
theorem insP_ok {P : Program} {ρ : Ren} {n1 : String} {k bytes : Nat} {z : Value} (L : InsLay P ρ n1 k bytes z) (hcf : callable P (ρ.f 22)) {zz : List V} (hzz : zeroOf P (ρ.t 9) = some zz) (hzl : zz.length = k) : PrimOK P (insP (ρ.f 22) (ρ.t 9) k bytes) := by
  intro g args H v H' h
  unfold insP at h
  split at h
  · rename_i hg
    subst hg
    split at h
    · rename_i id ver n i id2 ver2
      split at h
      · rename_i v2 ty2 k2 row h2
        split at h
        · rename_i v1 lz ty1 k1 rows h1
          split at h
          · rename_i hc
            obtain ⟨c0, rfl, rfl, rfl, rfl, rfl, c1, c2, c3, c4, c5, c6⟩ := hc
            split at h
            · rename_i hf
              simp only [Bool.and_eq_true] at hf
              cases h
              rcases c0 with c0 | c0
              · have := CallOK_insert L hcf hzz hzl (i := i.toNat) c0 h1 h2 c1 c2 c3 hf.1 hf.2 c5 c6
                unfold iV at this
                rw [Int.toNat_of_nonneg c4] at this
                exact this
              · have hf1 := hf.1
                rw [c0, List.take_length] at hf1
                have := CallOK_insertL L hcf hzz hzl (i := i.toNat) c0 h1 h2 c1 c3 hf1 hf.2 c5 c6
                unfold iV at this
                rw [Int.toNat_of_nonneg c4] at this
                have e : rows.take n = rows := by rw [c0, List.take_length]
                rw [e]
                exact this
            · cases h
          · cases h
        · cases h
      · cases h
    · cases h
  · cases h
end Go.Proofs.Ytmnjchcoigbngaa
namespace Go.Proofs.Ytmnjchcoigbngaa
open Go Go.Proofs Go.Shelf
def insRen31 : Go.Shelf.Ren := ⟨fun | 22 => 31 | 29 => 53 | 30 => 54 | n => n, fun | 24 => 31 | 9 => 25 | n => n, fun n => n⟩
theorem insLay31 : InsLay Try.prog insRen31 Try.f31.name 1 24 (.slice none 0 0) := {
  mixed := by kernel_rfl
  f22 := Try.func31.trans (congrArg some (by kernel_rfl))
  ov := fun args w => run_callFunc_extern Try.func53 (by kernel_rfl) (by kernel_rfl) (by kernel_rfl) (by kernel_rfl) args w
  t0 := Try.underlying0, a0 := Try.isAgg0, z0 := Try.sizeOf0, v0 := Try.zeroValue0
  t3 := Try.underlying3, a3 := Try.isAgg3, z3 := Try.sizeOf3, v3 := Try.zeroValue3
  t4 := Try.underlying4, a4 := Try.isAgg4, z4 := Try.sizeOf4, v4 := Try.zeroValue4
  z9 := Try.sizeOf25
  t24 := Try.underlying31, a24 := Try.isAgg31, z24 := Try.sizeOf31, v24 := Try.zeroValue31
  i9 := by kernel_rfl
  hk := by decide
  hz := by kernel_rfl }
theorem insCall31 : callable Try.prog 31 := ⟨_, Try.func31, by kernel_rfl, by kernel_rfl⟩
def insPrim31 : Prim := insP 31 25 1 24
theorem insPrim31_ok : PrimOK Try.prog insPrim31 := insP_ok insLay31 insCall31 (zz := [V.nilsl]) (by kernel_rfl) rfl
end Go.Proofs.Ytmnjchcoigbngaa
namespace Go.Proofs.Ytmnjchcoigbngaa
open Go Go.Proofs Go.Shelf
def insRen32 : Go.Shelf.Ren := ⟨fun | 22 => 32 | 29 => 55 | 30 => 56 | n => n, fun | 24 => 25 | 9 => 3 | n => n, fun n => n⟩
theorem insLay32 : InsLay Try.prog insRen32 Try.f32.name 1 8 (.int .i64 0) := {
  mixed := by kernel_rfl
  f22 := Try.func32.trans (congrArg some (by kernel_rfl))
  ov := fun args w => run_callFunc_extern Try.func55 (by kernel_rfl) (by kernel_rfl) (by kernel_rfl) (by kernel_rfl) args w
  t0 := Try.underlying0, a0 := Try.isAgg0, z0 := Try.sizeOf0, v0 := Try.zeroValue0
  t3 := Try.underlying3, a3 := Try.isAgg3, z3 := Try.sizeOf3, v3 := Try.zeroValue3
  t4 := Try.underlying4, a4 := Try.isAgg4, z4 := Try.sizeOf4, v4 := Try.zeroValue4
  z9 := Try.sizeOf3
  t24 := Try.underlying25, a24 := Try.isAgg25, z24 := Try.sizeOf25, v24 := Try.zeroValue25
  i9 := by kernel_rfl
  hk := by decide
  hz := by kernel_rfl }
theorem insCall32 : callable Try.prog 32 := ⟨_, Try.func32, by kernel_rfl, by kernel_rfl⟩
def insPrim32 : Prim := insP 32 3 1 8
theorem insPrim32_ok : PrimOK Try.prog insPrim32 := insP_ok insLay32 insCall32 (zz := [V.int .i64 0]) (by kernel_rfl) rfl
end Go.Proofs.Ytmnjchcoigbngaa
namespace Go.Proofs.Ytmnjchcoigbngaa
open Go Go.Proofs Go.Shelf Go.Lib
section
variable {P : Program} {ρ : Go.Shelf.Ren}
theorem CallOK_grow (L : Lays8.n4 P ρ) (hcf : callable P (ρ.f 4)) (i0 : TypeInfo) (z : Value) (hi0 : P.info? (ρ.t 25) = some i0) (hz0 : i0.zero = some z) (hs0 : 0 < i0.size) (hzs : z.cells.size = i0.size)
    {n : Nat} (hb : n * i0.bytes ≤ 140737488355328) (h63 : n ≤ 4611686018427387904) (id : Nat) (H : Heap) :
    CallOK P (ρ.f 4) [.nilsl, iV (n : Nat)] H (.ms id ((H id).ver + 1) 0 0) (upd H id ⟨(H id).ver + 1, true, decide (n = 0), ρ.t 25, i0.size, []⟩) := by
  refine ⟨hcf, fun x cs hxH hx hr => ?_⟩
  subst hxH
  obtain ⟨c0, c1, rfl⟩ : ∃ c0 c1, cs = [c0, c1] := by
    have := hr.1
    match cs with
    | [a, b] => exact ⟨a, b, rfl⟩
    | [] => simp at this
    | [_] => simp at this
    | _ :: _ :: _ :: _ => simp at this
  have r0 : R x .nilsl c0 := hr.2 0 _ rfl
  have r1 : R x (iV (n : Nat)) c1 := hr.2 1 _ rfl
  have hc0 : c0 = .slice none 0 0 := by cases r0; rfl
  have hc1 : c1 = .int .i64 (n : Nat) := by unfold iV at r1; cases r1; rfl
  subst hc0; subst hc1
  by_cases hn : n = 0
  · subst hn
    refine (Any8.slices_Grow_room L none 0 0 0 x.w (Nat.le_refl _) (by decide) (by decide) (by decide)).mono fun e w' h => ?_
    obtain ⟨rfl, rfl⟩ := h
    obtain ⟨h1, h2, h3⟩ := step_lazy hx id (ρ.t 25) i0.size
    exact ⟨_, { x with H := upd x.H id ⟨(x.H id).ver + 1, true, true, ρ.t 25, i0.size, []⟩ }, rfl, rfl, by simp, h1, h3 _, h2⟩
  · refine (Any8.slices_Grow_grow L i0 z hi0 hz0 hs0 none 0 0 n [] x.w (Nat.le_refl _) (by omega) (by simpa using hb) (by simpa using h63) (by simp) (fun _ => rfl) (fun a h => by cases h)).mono fun e w' h => ?_
    obtain ⟨rfl, rfl⟩ := h
    obtain ⟨dI, dF⟩ := step_draw hx (x.w.drawn + 1) (Nat.le_succ _)
    have hge : 0 + n ≤ grownCap x.w (0 + n) 0 (ρ.t 25) := grownCap_ge x.w _ _ _
    have hle := grownCap_le_maxLen x.w (0 + n) 0 (ρ.t 25) (by unfold maxLen; omega)
    generalize hG : grownCap x.w (0 + n) 0 (ρ.t 25) = G at hge hle
    have hsz : ((#[] : Array Value) ++ Builtin.zeroCells z.cells (0 + n - 0) ++ Builtin.zeroCells z.cells (G - (0 + n))).size = G * i0.size := by
      have zc : ∀ m, (Builtin.zeroCells z.cells m).size = m * i0.size := fun m => by
        rw [size_zeroCells, hzs]
      rw [Array.size_append, Array.size_append, zc, zc]
      simp only [Array.size_empty, Nat.zero_add, Nat.sub_zero]
      rw [← Nat.add_mul]; congr 1; omega
    have hrf : ([].toArray : Array Value) = #[] := rfl
    rw [hrf]
    generalize ((#[] : Array Value) ++ Builtin.zeroCells z.cells (0 + n - 0) ++ Builtin.zeroCells z.cells (G - (0 + n))) = cc at hsz
    obtain ⟨h1, h2⟩ := step_own dI id cc false (ρ.t 25) i0.size [] (by simp) (by simp) (fun r row j v h => by simp at h)
    refine ⟨_, _, rfl, rfl, by simp [hn], h1, ?_, dF.trans h2⟩
    refine .ms _ _ _ _ _ _ _ (by simp [upd_same]) fun _ _ => ?_
    simp only [upd_same]
    refine ⟨trivial, Nat.zero_le _, hle, by simp, fun _ => ⟨by simp [World.drew], ?_⟩, fun h => by simp [Blk.own] at h⟩
    simp only [Nat.zero_add]
    unfold rowSize
    have : (({ x.w with drawn := x.w.drawn + 1 } : World).alloc (.cells cc (ρ.t 25))).heap[({ x.w with drawn := x.w.drawn + 1 } : World).heap.size]? = some (.cells cc (ρ.t 25)) := heap_push_eq _ _
    rw [this]
    exact hsz.symm
theorem CallOK_growk (L : Lays8.n4 P ρ) (hcf : callable P (ρ.f 4)) {k b : Nat} {z : Value} (hi : (P.info? (ρ.t 25)).map (fun i => (i.zero, i.size, i.bytes)) = some (some z, k, b)) (hs0 : 0 < k) (hzs : z.cells.size = k)
    {n : Nat} (hb : n * b ≤ 140737488355328) (h63 : n ≤ 4611686018427387904) (id : Nat) (H : Heap) :
    CallOK P (ρ.f 4) [.nilsl, iV (n : Nat)] H (.ms id ((H id).ver + 1) 0 0) (upd H id ⟨(H id).ver + 1, true, decide (n = 0), ρ.t 25, k, []⟩) := by
  obtain ⟨i0, h1, h2⟩ := Option.map_eq_some_iff.1 hi
  simp only [Prod.mk.injEq] at h2
  obtain ⟨h3, h4, h5⟩ := h2
  subst h4; subst h5
  exact CallOK_grow L hcf i0 z h1 h3 hs0 hzs hb h63 id H
theorem CallOK_growv (L : Lays8.n4 P ρ) (hcf : callable P (ρ.f 4)) {k b : Nat} {z : Value} (hi : (P.info? (ρ.t 25)).map (fun i => (i.zero, i.size, i.bytes)) = some (some z, k, b)) (hs0 : 0 < k) (hzs : z.cells.size = k)
    {n : Nat} (hb : n * b ≤ 140737488355328) (h63 : n ≤ 4611686018427387904) (id : Nat) {H : Heap} {w : Nat} (hv : (H id).ver = w) :
    CallOK P (ρ.f 4) [.nilsl, iV (n : Nat)] H (.ms id (w + 1) 0 0) (upd H id ⟨w + 1, true, decide (n = 0), ρ.t 25, k, []⟩) := by
  subst hv; exact CallOK_growk L hcf hi hs0 hzs hb h63 id H
def growP (f id ty k bytes : Nat) : Prim := fun g args H =>
  if g = f then match args with
    | [.nilsl, .int .i64 n] => if 0 ≤ n ∧ n.toNat * bytes ≤ 140737488355328 ∧ n.toNat ≤ 4611686018427387904 then
        some (.ms id ((H id).ver + 1) 0 0, upd H id ⟨(H id).ver + 1, true, decide (n.toNat = 0), ty, k, []⟩) else none
    | _ => none
  else none
theorem growP_ok (L : Lays8.n4 P ρ) (hcf : callable P (ρ.f 4)) (i0 : TypeInfo) (z : Value) (hi0 : P.info? (ρ.t 25) = some i0) (hz0 : i0.zero = some z) (hs0 : 0 < i0.size) (hzs : z.cells.size = i0.size) (id : Nat) :
    PrimOK P (growP (ρ.f 4) id (ρ.t 25) i0.size i0.bytes) := by
  intro g args H v H' h
  unfold growP at h
  split at h
  · rename_i hg
    subst hg
    split at h
    · rename_i n
      split at h
      · rename_i hc
        cases h
        have := CallOK_grow L hcf i0 z hi0 hz0 hs0 hzs (n := n.toNat) hc.2.1 hc.2.2 id H
        rw [Int.toNat_of_nonneg hc.1] at this
        exact this
      · cases h
    · cases h
  · cases h
theorem growPk_ok (L : Lays8.n4 P ρ) (hcf : callable P (ρ.f 4)) {k b : Nat} {z : Value} (hi : (P.info? (ρ.t 25)).map (fun i => (i.zero, i.size, i.bytes)) = some (some z, k, b)) (hs0 : 0 < k) (hzs : z.cells.size = k) (id : Nat) :
    PrimOK P (growP (ρ.f 4) id (ρ.t 25) k b) := by
  obtain ⟨i0, h1, h2⟩ := Option.map_eq_some_iff.1 hi
  simp only [Prod.mk.injEq] at h2
  obtain ⟨h3, h4, h5⟩ := h2
  subst h4; subst h5
  exact growP_ok L hcf i0 z h1 h3 hs0 hzs id
def orP (p q : Prim) : Prim := fun f args H => match p f args H with
  | some r => some r
  | none => q f args H
theorem orP_ok {p q : Prim} (hp : PrimOK P p) (hq : PrimOK P q) : PrimOK P (orP p q) := by
  intro f args H v H' h
  unfold orP at h
  split at h
  · rename_i r hr; cases h; exact hp _ _ _ _ _ hr
  · exact hq _ _ _ _ _ h
end
end Go.Proofs.Ytmnjchcoigbngaa
namespace Go.Proofs.Ytmnjchcoigbngaa
open Go Go.Proofs Go.Shelf
def growRen73 : Go.Shelf.Ren := ⟨fun | 4 => 73 | n => n, fun | 22 => 25 | 25 => 3 | 3 => 3 | 4 => 4 | 9 => 9 | 20 => 20 | 0 => 0 | n => n, fun n => n⟩
theorem growLay73 : Lays8.n4 Try.prog growRen73 := {
  mixed := (by kernel_rfl),
  f4 := ⟨Try.f73.name, by decide, Try.func73.trans (congrArg some (by kernel_rfl))⟩,
  t0 := Try.underlying0,
  a0 := Try.isAgg0,
  z0 := Try.sizeOf0,
  v0 := Try.zeroValue0,
  t3 := Try.underlying3,
  a3 := Try.isAgg3,
  z3 := Try.sizeOf3,
  v3 := Try.zeroValue3,
  t4 := Try.underlying4,
  a4 := Try.isAgg4,
  z4 := Try.sizeOf4,
  v4 := Try.zeroValue4,
  t9 := Try.underlying9,
  a9 := Try.isAgg9,
  z9 := Try.sizeOf9,
  v9 := Try.zeroValue9,
  t20 := Try.underlying20,
  a20 := Try.isAgg20,
  z20 := Try.sizeOf20,
  v20 := Try.zeroValue20,
  t22 := Try.underlying25,
  a22 := Try.isAgg25,
  z22 := Try.sizeOf25,
  v22 := Try.zeroValue25 }
theorem growCall73 : callable Try.prog 73 := ⟨_, Try.func73, by kernel_rfl, by kernel_rfl⟩
theorem growInfo73 : (Try.prog.info? 3).map (fun i => (i.zero, i.size, i.bytes)) = some (some (.int .i64 0), 1, 8) := by kernel_rfl
def growPrim73 (id : Nat) : Prim := growP 73 id 3 1 8
theorem growPrim73_ok (id : Nat) : PrimOK Try.prog (growPrim73 id) := growPk_ok growLay73 growCall73 growInfo73 (by decide) rfl id
end Go.Proofs.Ytmnjchcoigbngaa
namespace Go.Proofs.Ytmnjchcoigbngaa
open Go Go.Proofs
def tab6 : List (Nat × XF) := [(6, ⟨s6, []⟩), (7, ⟨s7, []⟩), (8, ⟨s8, []⟩), (9, ⟨s9, []⟩), (10, ⟨s10, []⟩), (12, ⟨s12, []⟩), (13, ⟨s13, []⟩), (14, ⟨s14, []⟩), (15, ⟨s15, [(6, 1000009)]⟩), (16, ⟨s16, []⟩), (17, ⟨s17, []⟩), (18, ⟨s18, []⟩), (20, ⟨s20, []⟩), (21, ⟨s21, []⟩), (22, ⟨s22, [(28, 1000031), (58, 1000061)]⟩), (23, ⟨s23, []⟩), (24, ⟨s24, []⟩), (25, ⟨s25, []⟩), (26, ⟨s26, []⟩), (27, ⟨s27, []⟩), (28, ⟨s28, []⟩), (29, ⟨s29, []⟩), (30, ⟨s30, []⟩), (33, ⟨s33, []⟩), (34, ⟨s34, []⟩), (35, ⟨s35, []⟩), (37, ⟨s37, []⟩), (38, ⟨s38, []⟩), (39, ⟨s39, []⟩), (40, ⟨s40, []⟩), (41, ⟨s41, []⟩), (42, ⟨s42, []⟩), (45, ⟨s45, []⟩), (46, ⟨s46, []⟩), (47, ⟨s47, []⟩), (48, ⟨s48, []⟩), (49, ⟨s49, []⟩), (50, ⟨s50, []⟩), (51, ⟨s51, []⟩), (52, ⟨s52, []⟩), (58, ⟨s58, []⟩), (59, ⟨s59, []⟩), (60, ⟨s60, []⟩), (61, ⟨s61, []⟩), (62, ⟨s62, []⟩), (63, ⟨s63, []⟩), (64, ⟨s64, []⟩), (65, ⟨s65, []⟩), (66, ⟨s66, []⟩), (72, ⟨s72, []⟩), (74, ⟨s74, []⟩), (75, ⟨s75, []⟩), (76, ⟨s76, []⟩), (80, ⟨s80, []⟩), (83, ⟨s83, []⟩), (84, ⟨s84, []⟩)]
theorem tab6_ok : ∀ p ∈ tab6, Good1 Try.prog p := by
  intro p hp
  simp only [tab6, List.mem_cons, List.not_mem_nil, or_false] at hp
  rcases hp with rfl | rfl | rfl | rfl | rfl | rfl | rfl | rfl | rfl | rfl | rfl | rfl | rfl | rfl | rfl | rfl | rfl | rfl | rfl | rfl | rfl | rfl | rfl | rfl | rfl | rfl | rfl | rfl | rfl | rfl | rfl | rfl | rfl | rfl | rfl | rfl | rfl | rfl | rfl | rfl | rfl | rfl | rfl | rfl | rfl | rfl | rfl | rfl | rfl | rfl | rfl | rfl | rfl | rfl | rfl | rfl
  · exact ⟨_, _, Try.func6, s6_ok, by kernel_rfl⟩
  · exact ⟨_, _, Try.func7, s7_ok, by kernel_rfl⟩
  · exact ⟨_, _, Try.func8, s8_ok, by kernel_rfl⟩
  · exact ⟨_, _, Try.func9, s9_ok, by kernel_rfl⟩
  · exact ⟨_, _, Try.func10, s10_ok, by kernel_rfl⟩
  · exact ⟨_, _, Try.func12, s12_ok, by kernel_rfl⟩
  · exact ⟨_, _, Try.func13, s13_ok, by kernel_rfl⟩
  · exact ⟨_, _, Try.func14, s14_ok, by kernel_rfl⟩
  · exact ⟨_, _, Try.func15, s15_ok, by kernel_rfl⟩
  · exact ⟨_, _, Try.func16, s16_ok, by kernel_rfl⟩
  · exact ⟨_, _, Try.func17, s17_ok, by kernel_rfl⟩
  · exact ⟨_, _, Try.func18, s18_ok, by kernel_rfl⟩
  · exact ⟨_, _, Try.func20, s20_ok, by kernel_rfl⟩
  · exact ⟨_, _, Try.func21, s21_ok, by kernel_rfl⟩
  · exact ⟨_, _, Try.func22, s22_ok, by kernel_rfl⟩
  · exact ⟨_, _, Try.func23, s23_ok, by kernel_rfl⟩
  · exact ⟨_, _, Try.func24, s24_ok, by kernel_rfl⟩
  · exact ⟨_, _, Try.func25, s25_ok, by kernel_rfl⟩
  · exact ⟨_, _, Try.func26, s26_ok, by kernel_rfl⟩
  · exact ⟨_, _, Try.func27, s27_ok, by kernel_rfl⟩
  · exact ⟨_, _, Try.func28, s28_ok, by kernel_rfl⟩
  · exact ⟨_, _, Try.func29, s29_ok, by kernel_rfl⟩
  · exact ⟨_, _, Try.func30, s30_ok, by kernel_rfl⟩
  · exact ⟨_, _, Try.func33, s33_ok, by kernel_rfl⟩
  · exact ⟨_, _, Try.func34, s34_ok, by kernel_rfl⟩
  · exact ⟨_, _, Try.func35, s35_ok, by kernel_rfl⟩
  · exact ⟨_, _, Try.func37, s37_ok, by kernel_rfl⟩
  · exact ⟨_, _, Try.func38, s38_ok, by kernel_rfl⟩
  · exact ⟨_, _, Try.func39, s39_ok, by kernel_rfl⟩
  · exact ⟨_, _, Try.func40, s40_ok, by kernel_rfl⟩
  · exact ⟨_, _, Try.func41, s41_ok, by kernel_rfl⟩
  · exact ⟨_, _, Try.func42, s42_ok, by kernel_rfl⟩
  · exact ⟨_, _, Try.func45, s45_ok, by kernel_rfl⟩
  · exact ⟨_, _, Try.func46, s46_ok, by kernel_rfl⟩
  · exact ⟨_, _, Try.func47, s47_ok, by kernel_rfl⟩
  · exact ⟨_, _, Try.func48, s48_ok, by kernel_rfl⟩
  · exact ⟨_, _, Try.func49, s49_ok, by kernel_rfl⟩
  · exact ⟨_, _, Try.func50, s50_ok, by kernel_rfl⟩
  · exact ⟨_, _, Try.func51, s51_ok, by kernel_rfl⟩
  · exact ⟨_, _, Try.func52, s52_ok, by kernel_rfl⟩
  · exact ⟨_, _, Try.func58, s58_ok, by kernel_rfl⟩
  · exact ⟨_, _, Try.func59, s59_ok, by kernel_rfl⟩
  · exact ⟨_, _, Try.func60, s60_ok, by kernel_rfl⟩
  · exact ⟨_, _, Try.func61, s61_ok, by kernel_rfl⟩
  · exact ⟨_, _, Try.func62, s62_ok, by kernel_rfl⟩
  · exact ⟨_, _, Try.func63, s63_ok, by kernel_rfl⟩
  · exact ⟨_, _, Try.func64, s64_ok, by kernel_rfl⟩
  · exact ⟨_, _, Try.func65, s65_ok, by kernel_rfl⟩
  · exact ⟨_, _, Try.func66, s66_ok, by kernel_rfl⟩
  · exact ⟨_, _, Try.func72, s72_ok, by kernel_rfl⟩
  · exact ⟨_, _, Try.func74, s74_ok, by kernel_rfl⟩
  · exact ⟨_, _, Try.func75, s75_ok, by kernel_rfl⟩
  · exact ⟨_, _, Try.func76, s76_ok, by kernel_rfl⟩
  · exact ⟨_, _, Try.func80, s80_ok, by kernel_rfl⟩
  · exact ⟨_, _, Try.func83, s83_ok, by kernel_rfl⟩
  · exact ⟨_, _, Try.func84, s84_ok, by kernel_rfl⟩
theorem aw_learnerlaw26_awake_pure : PureC Try.prog 6 [] (.bool true) := pure_of_runQ (orP_ok insPrim31_ok (orP_ok insPrim32_ok (growPrim73_ok 999983))) (orA_ok clonePA46_ok sortedPA19_ok) (Good_of tab6_ok) 400 rfl (by kernel_rfl)
theorem concat_pure (l : List (List Int)) (hs : (cat l).length ≤ 4294967296) : PureC Try.prog 47 [(intss l)] (ints (cat l)) := by
 refine pW Try.func47 s47_ok fun hB => ?_
 unfold s47
 dsimp only
 refine W_r (R_mv (@rfl V V.nilsl) (R_e (W_r (R_mv (@rfl V (iV (0 : Int))) (R_e (W_seq_seq (W_r ?_)))))))
 refine R_mv (@rfl V (intss l)) (R_len rfl (R_mv (@rfl V (iV (0 : Int))) (R_e (W_seq_blockg fun Q1 n1 x1 y1 z1 => ?_))))
 refine W_loop (fun mm T H => ∃ (k : Nat), mm = l.length - k ∧ T 0 = (intss l) ∧ T 3 = (iV (((cat (l.take k)).length : Nat) : Int)) ∧ T 9 = (intss l) ∧ T 10 = (iV ((l.length : Nat) : Int)) ∧ T 11 = (iV ((k : Nat) : Int)) ∧ H 900 = (⟨0, false, false, 0, 0, []⟩ : Blk) ∧ (k ≤ l.length)) ?_ ?_
 ·
  refine ⟨_, 0, rfl, rfl, (Eq.trans (@rfl V (iV (0 : Int))) (by first | rfl | (rw [cat_take (by omega), List.length_append]; done) | (rw [cat_take (by omega), List.length_append]; rfl) | simp)), rfl, rfl, (Eq.trans (@rfl V (iV (0 : Int))) rfl), rfl, ?_⟩
  · omega
 intro mm T H ⟨k, hmm, t0, t3, t9, t10, t11, h900, hk⟩ Q2 p12 p22 p32
 unfold b47_0
 refine W_r (R_lss t11 t10 (R_e ?_))
 refine W_seq_if rfl (fun c3 => ?_) fun c3 => ?_
 ·
  have hq := cat_take_le (l := l) (k := k) (by omega)
  refine W_seq_skip (W_seq_blockg fun Q4 n4 x4 y4 z4 => (W_r (R_idx (i := k) t9 t11 (by omega) rfl (R_load_pp (v := (ints ((nth (l) (k))))) rfl (by first | rfl | simp [ldV]) (R_mv (@rfl V (ints ((nth (l) (k))))) (R_e (W_r ?_)))))))
  refine R_mv t3 (R_mv (@rfl V (ints ((nth (l) (k))))) (R_len rfl (R_addN rfl rfl (by omega) (R_mv (@rfl V (iV ((((cat (l.take k)).length) + ((nth (l) (k))).length : Nat) : Int))) (R_e (W_r (R_mv (@rfl V (iV ((((cat (l.take k)).length) + ((nth (l) (k))).length : Nat) : Int))) ?_)))))))
  refine R_lss rfl rfl (R_e ?_)
  refine W_if rfl (fun c5 => ?_) fun c5 => ?_
  · exfalso; omega
  refine W_skip (n4 _ _ (.done (W_t (R_addN t11 (@rfl V (iV ((1 : Nat) : Int))) (by omega) (R_mv (@rfl V (iV ((k + 1 : Nat) : Int))) (R_e ?_))))))
  refine p12 _ _ _ ?_ ⟨(k + 1), rfl, t0, (Eq.trans (@rfl V (iV ((((cat (l.take k)).length) + ((nth (l) (k))).length : Nat) : Int))) (by first | rfl | (rw [cat_take (by omega), List.length_append]; done) | (rw [cat_take (by omega), List.length_append]; rfl) | simp)), t9, t10, (Eq.trans (@rfl V (iV ((k + 1 : Nat) : Int))) (by first | rfl | (rw [cat_take (by omega), List.length_append]; done) | (rw [cat_take (by omega), List.length_append]; rfl) | simp)), h900, ?_⟩
  · omega
  · omega
 have hk2 : (cat (l.take k)).length = (cat l).length := by rw [show k = l.length by omega, List.take_length]
 refine W_seq_exit (p32 _ _ _ (x1 _ _ (.done (W_r (R_mv t3 (R_callE (evcons rfl (evcons rfl evnil)) (CallOK_growv growLay73 growCall73 growInfo73 (by decide) rfl (n := ((cat (l.take k)).length)) (by omega) (by omega) 900 (congrArg Blk.ver h900)) (R_mv (@rfl V (V.ms 900 (0 + 1) 0 (0))) ?_)))))))
 refine R_e (W_seq_seq (W_r (R_mv t0 (R_len rfl (R_mv (@rfl V (iV (0 : Int))) (R_e (W_seq_blockg fun Q6 n6 x6 y6 z6 => ?_)))))))
 refine W_loop (fun mm T H => ∃ (j : Nat) (w : Nat), mm = l.length - j ∧ T 6 = (V.ms 900 w 0 ((cat (l.take j)).length)) ∧ T 25 = (intss l) ∧ T 26 = (iV ((l.length : Nat) : Int)) ∧ T 27 = (iV ((j : Nat) : Int)) ∧ H 900 = (⟨w, true, decide ((cat (l.take k)).length = 0), 3, 1, (List.map cI (cat (l.take j)))⟩ : Blk) ∧ (j ≤ l.length)) ?_ ?_
 ·
  refine ⟨_, 0, (0 + 1), rfl, (Eq.trans (@rfl V (V.ms 900 (0 + 1) 0 (0))) (by first | rfl | (rw [cat_take (by omega), List.length_append]; done) | (rw [cat_take (by omega), List.length_append]; rfl) | simp)), rfl, rfl, (Eq.trans (@rfl V (iV (0 : Int))) rfl), (Eq.trans (@rfl Blk (⟨0 + 1, true, decide ((cat (l.take k)).length = 0), 3, 1, []⟩ : Blk)) (by first | rfl | (rw [cat_take (by omega)]; done) | (rw [cat_take (by omega)]; rfl))), ?_⟩
  · omega
 intro mm T H ⟨j, w, hmm, t6, t25, t26, t27, h900, hj⟩ Q7 p17 p27 p37
 unfold b47_1
 refine W_r (R_lss t27 t26 (R_e ?_))
 refine W_seq_if rfl (fun c8 => ?_) fun c8 => ?_
 ·
  have hq := cat_take_le (l := l) (k := j) (by omega)
  refine W_seq_skip (W_seq_blockg fun Q9 n9 x9 y9 z9 => (W_r (R_idx (i := j) t25 t27 (by omega) rfl (R_load_pp (v := (ints ((nth (l) (j))))) rfl (by first | rfl | simp [ldV]) (R_mv (@rfl V (ints ((nth (l) (j))))) (R_e (W_t ?_)))))))
  refine R_mv t6 (R_mv (@rfl V (ints ((nth (l) (j))))) (R_appendS (l := (cat (l.take j))) (m := ((nth (l) (j)))) (f := cI) (@rfl V (V.ms 900 w 0 ((cat (l.take j)).length))) h900 (by first | rfl | simp | omega) (@rfl V (ints ((nth (l) (j))))) (fun _ => rfl) (fun _ => rfl) (by omega) (by omega) (R_mv (@rfl V (V.ms 900 (w + 1) 0 (((cat (l.take j)).length) + ((nth (l) (j))).length))) (R_e (n9 _ _ (.done (W_t ?_)))))))
  refine R_addN t27 (@rfl V (iV ((1 : Nat) : Int))) (by omega) (R_mv (@rfl V (iV ((j + 1 : Nat) : Int))) (R_e ?_))
  refine p17 _ _ _ ?_ ⟨(j + 1), (w + 1), rfl, (Eq.trans (@rfl V (V.ms 900 (w + 1) 0 (((cat (l.take j)).length) + ((nth (l) (j))).length))) (by first | rfl | (rw [cat_take (by omega), List.length_append]; done) | (rw [cat_take (by omega), List.length_append]; rfl) | simp)), t25, t26, (Eq.trans (@rfl V (iV ((j + 1 : Nat) : Int))) (by first | rfl | (rw [cat_take (by omega), List.length_append]; done) | (rw [cat_take (by omega), List.length_append]; rfl) | simp)), (Eq.trans (@rfl Blk (⟨w + 1, true, decide ((cat (l.take k)).length = 0), 3, 1, (List.map cI (cat (l.take j) ++ ((nth (l) (j)))))⟩ : Blk)) (by first | rfl | (rw [cat_take (by omega)]; done) | (rw [cat_take (by omega)]; rfl))), ?_⟩
  · omega
  · omega
 refine W_seq_exit (p37 _ _ _ (x6 _ _ (.done (W_r (R_mv t6 (R_mv (@rfl V (V.ms 900 w 0 ((cat (l.take j)).length))) (R_e ?_)))))))
 refine W_ret ?_
 refine Ret_1 (@rfl V (V.ms 900 w 0 ((cat (l.take j)).length))) (fz_ms h900 (by first | rfl | simp) (l := (cat (l.take j))) rfl (by first | rfl | simp | omega) (fun _ => by simp) ?_)
 · rw [show j = l.length by omega, List.take_length]
theorem pjoin_pure (l : List (List Int)) (hs : (cat l).length ≤ 4294967296) : PureC Try.prog 23 [(intss l)] (ints (cat l)) := by
 refine pW Try.func23 s23_ok fun hB => ?_
 unfold s23
 dsimp only
 refine W_r (R_mv (@rfl V V.nilsl) (R_e (W_r (R_mv (@rfl V (intss l)) (R_callc (evcons rfl evnil) (concat_pure l hs) (R_mv (@rfl V (ints (cat l))) (R_e ?_)))))))
 refine W_ret ?_
 refine Ret_1 (@rfl V (ints (cat l))) (fz_canon (by simp) rfl)
theorem access_pure (t : Dt) (hb : Bd t) : PureC Try.prog 20 [(V.agg [(V.sl (List.map cN (t.nd)))])] (intss (acL t.nd)) := by
 refine pW Try.func20 s20_ok fun hB => ?_
 unfold s20
 dsimp only
 have hbn := hb.n
 refine W_r (R_box (i := 1) (n := 0) (m := 1) (cs := [(V.sl (List.map cN (t.nd)))]) rfl (congrArg Blk.ver rfl) rfl rfl rfl (R_mv (@rfl V V.nilsl) (R_e (W_r (R_lazy (i := 3) (n := 0) rfl (congrArg Blk.ver rfl) (R_e (W_seq_seq ?_)))))))
 refine W_r (R_fld_mp (o' := 0) rfl rfl oB rfl (R_load_mp (v := (V.sl (List.map cN (t.nd)))) rfl rfl (lB oB rfl rfl) (R_len rfl (R_mv (@rfl V (iV (0 : Int))) (R_e (W_seq_blockg fun Q1 n1 x1 y1 z1 => ?_))))))
 refine W_loop (fun mm T H => ∃ (k : Nat) (v : Nat) (v5 : Nat), mm = t.nd.length - k ∧ T 3 = (V.ms 3 v 0 ((acL (t.nd.take k)).length)) ∧ T 7 = (V.sl (List.map cN (t.nd))) ∧ T 8 = (iV ((t.nd.length : Nat) : Int)) ∧ T 9 = (iV ((k : Nat) : Int)) ∧ H 1 = (bk 1 24 1 [[(V.sl (List.map cN (t.nd)))]]) ∧ H 3 = (bz v 25 1 (List.map cL (acL (t.nd.take k)))) ∧ (H 5).ver = v5 ∧ (k ≤ t.nd.length)) ?_ ?_
 ·
  refine ⟨_, 0, 1, 0, rfl, (Eq.trans (@rfl V (V.ms 3 1 0 (0))) (by first | rfl | (rw [acL_take (by omega), if_pos (by assumption), List.length_append]; rfl) | (rw [acL_take (by omega), if_neg (by assumption), List.append_nil]; done) | simp)), rfl, rfl, (Eq.trans (@rfl V (iV (0 : Int))) rfl), rfl, (Eq.trans (@rfl Blk (bz 1 25 1 [])) (by first | rfl | (rw [acL_take (by omega), if_pos (by assumption)]; simp [cat]; done) | (rw [acL_take (by omega), if_neg (by assumption), List.append_nil]; done) | simp)), (congrArg Blk.ver rfl), ?_⟩
  · omega
 intro mm T H ⟨k, v, v5, hmm, t3, t7, t8, t9, h1, h3, h5, hk⟩ Q2 p12 p22 p32
 unfold b20_0
 have q1 := acL_len (t.nd.take k)
 have q2 : (t.nd.take k).length ≤ k := by simp; omega
 refine W_r (R_lss t9 t8 (R_e ?_))
 refine W_seq_if rfl (fun c3 => ?_) fun c3 => ?_
 ·
  have r1 := hb.ac k (by omega)
  refine W_seq_skip (W_seq_blockg fun Q4 n4 x4 y4 z4 => (W_r (R_idx (i := k) t7 t9 (by omega) rfl (R_load_pp (v := (V.agg (cN (((nth (t.nd) (k))))))) rfl (by first | rfl | simp [ldV]) (R_alloc (i := 5) (n := v5) (m := 5) rfl h5 rfl (R_store (vs := [(V.bool (((nth (t.nd) (k))).lf)), (ints (((nth (t.nd) (k))).ac)), (ints (((nth (t.nd) (k))).sf)), (intss (((nth (t.nd) (k))).ou)), (ints (((nth (t.nd) (k))).kd))]) (B' := (bk (v5 + 1) 41 5 [(cN (((nth (t.nd) (k)))))])) rfl rfl rfl rfl (sB oB rfl rfl rfl rfl rfl) (R_e ?_)))))))
  refine W_r (R_fld_mp (o' := 0) rfl rfl oB rfl (R_load_mp (v := (V.bool (((nth (t.nd) (k))).lf))) rfl rfl (lB oB rfl rfl) (R_e ?_)))
  refine W_ifb rfl (fun c5 => ?_) (fun c5 => ?_)
  ·
   have d1 : (nth t.nd k).lf = true := c5
   refine W_t (R_mv t3 (R_fld_mp (o' := 1) rfl rfl oB rfl (R_load_mp (v := (ints (((nth (t.nd) (k))).ac))) rfl rfl (lB oB rfl rfl) (R_bslice (qs := [(0, (ints (((nth (t.nd) (k))).ac)))]) (rows := [[(ints (((nth (t.nd) (k))).ac))]]) (mcons (congrArg (fun v => (0, v)) rfl) rfl) rfl (R_callc (evcons rfl evnil) (pjoin_pure ([((nth (t.nd) (k))).ac]) (by simp [cat]; omega)) (R_bslice (qs := [(0, (ints (cat ([((nth (t.nd) (k))).ac]))))]) (rows := [[(ints (cat ([((nth (t.nd) (k))).ac])))]]) (mcons (congrArg (fun v => (0, v)) rfl) rfl) rfl (R_append1 (l := (acL (t.nd.take k))) (f := cL) (x := (cat ([((nth (t.nd) (k))).ac]))) (@rfl V (V.ms 3 v 0 ((acL (t.nd.take k)).length))) h3 (by first | rfl | simp | omega) (@rfl V (V.sl [[(ints (cat ([((nth (t.nd) (k))).ac])))]])) rfl rfl (by omega) (by omega) ?_)))))))
   refine R_mv (@rfl V (V.ms 3 (v + 1) 0 (((acL (t.nd.take k)).length) + 1))) (R_e (n4 _ _ (.done (W_t (R_addN t9 (@rfl V (iV ((1 : Nat) : Int))) (by omega) (R_mv (@rfl V (iV ((k + 1 : Nat) : Int))) (R_e ?_)))))))
   refine p12 _ _ _ ?_ ⟨(k + 1), (v + 1), (v5 + 1), rfl, (Eq.trans (@rfl V (V.ms 3 (v + 1) 0 (((acL (t.nd.take k)).length) + 1))) (by first | rfl | (rw [acL_take (by omega), if_pos (by assumption), List.length_append]; rfl) | (rw [acL_take (by omega), if_neg (by assumption), List.append_nil]; done) | simp)), t7, t8, (Eq.trans (@rfl V (iV ((k + 1 : Nat) : Int))) (by first | rfl | (rw [acL_take (by omega), if_pos (by assumption), List.length_append]; rfl) | (rw [acL_take (by omega), if_neg (by assumption), List.append_nil]; done) | simp)), h1, (Eq.trans (@rfl Blk (bz (v + 1) 25 1 (List.map cL (acL (t.nd.take k) ++ [cat ([((nth (t.nd) (k))).ac])])))) (by first | rfl | (rw [acL_take (by omega), if_pos (by assumption)]; simp [cat]; done) | (rw [acL_take (by omega), if_neg (by assumption), List.append_nil]; done) | simp)), (congrArg Blk.ver rfl), ?_⟩
   · omega
   · omega
  have d1 : ¬(nth t.nd k).lf = true := by simpa using c5
  refine W_skip (n4 _ _ (.done (W_t (R_addN t9 (@rfl V (iV ((1 : Nat) : Int))) (by omega) (R_mv (@rfl V (iV ((k + 1 : Nat) : Int))) (R_e ?_))))))
  refine p12 _ _ _ ?_ ⟨(k + 1), v, (v5 + 1), rfl, (Eq.trans t3 (by first | rfl | (rw [acL_take (by omega), if_pos (by assumption), List.length_append]; rfl) | (rw [acL_take (by omega), if_neg (by assumption), List.append_nil]; done) | simp)), t7, t8, (Eq.trans (@rfl V (iV ((k + 1 : Nat) : Int))) (by first | rfl | (rw [acL_take (by omega), if_pos (by assumption), List.length_append]; rfl) | (rw [acL_take (by omega), if_neg (by assumption), List.append_nil]; done) | simp)), h1, (Eq.trans h3 (by first | rfl | (rw [acL_take (by omega), if_pos (by assumption)]; simp [cat]; done) | (rw [acL_take (by omega), if_neg (by assumption), List.append_nil]; done) | simp)), (congrArg Blk.ver rfl), ?_⟩
  · omega
  · omega
 refine W_seq_exit (p32 _ _ _ (x1 _ _ (.done (W_r (R_mv t3 (R_mv (@rfl V (V.ms 3 v 0 ((acL (t.nd.take k)).length))) (R_e ?_)))))))
 refine W_ret ?_
 refine Ret_1 (@rfl V (V.ms 3 v 0 ((acL (t.nd.take k)).length))) (fz_ms h3 (by first | rfl | simp) (l := (acL (t.nd.take k))) rfl (by first | rfl | simp | omega) (fun _ => by simp) ?_)
 · rw [show k = t.nd.length by omega, List.take_length]
theorem idxi_pure (p : Int → Bool) (w : List Int) (g : Nat) (caps : List V) (hca : canonL caps = true) (hpu : pureL caps = true) (hq : ∀ k, k < w.length → PureC Try.prog g (iV (nth w k) :: caps) (.bool (p (nth w k)))) : PureC Try.prog 74 [(ints w), (V.fn g [] caps)] (iV (fi (fun j => p (nth w j)) 0 w.length)) := by
 refine pure_of_Wb true 6 Try.func74 s74_ok (by kernel_rfl) (by simp [s74]) (by simp [hpu]) (by simp) fun hB => ?_
 simp only [bnd_map, bnd_int, bnd_bool, bnd_str, bnd_agg, bnd_pp, bnd_nil, bnd_cons, implies_true, and_true, true_and] at hB
 unfold s74
 dsimp only
 refine W_r (R_mv (@rfl V (iV (0 : Int))) (R_e (W_seq_seq (W_r (R_mv (@rfl V (ints w)) (R_len rfl (R_mv (@rfl V (iV (0 : Int))) ?_)))))))
 refine R_e (W_seq_blockg fun Q1 n1 x1 y1 z1 => ?_)
 refine W_loop (fun mm T H => ∃ (k : Nat), mm = w.length - k ∧ T 0 = (ints w) ∧ T 1 = (V.fn g [] caps) ∧ T 7 = (iV ((w.length : Nat) : Int)) ∧ T 8 = (iV ((k : Nat) : Int)) ∧ (k ≤ w.length) ∧ (fi (fun j => p (nth w j)) 0 w.length = fi (fun j => p (nth w j)) k (w.length - k))) ?_ ?_
 ·
  refine ⟨_, 0, rfl, rfl, rfl, rfl, (Eq.trans (@rfl V (iV (0 : Int))) rfl), ?_, ?_⟩
  · omega
  · rfl
 intro mm T H ⟨k, hmm, t0, t1, t7, t8, hk, hc⟩ Q2 p12 p22 p32
 unfold b74_0
 refine W_r (R_lss t8 t7 (R_e ?_))
 refine W_seq_if rfl (fun c3 => ?_) fun c3 => ?_
 ·
  refine W_seq_skip (W_seq_blockg fun Q4 n4 x4 y4 z4 => (W_r (R_mv t8 (R_mv (@rfl V (iV ((k : Nat) : Int))) (R_e (W_r (R_mv t1 ?_)))))))
  refine R_mv t0 (R_mv (@rfl V (iV ((k : Nat) : Int))) (R_idx (i := k) (@rfl V (ints w)) (@rfl V (iV ((k : Nat) : Int))) (by omega) rfl (R_load_pp (v := (iV ((nth (w) (k))))) rfl (by first | rfl | simp [ldV]) (R_callv (@rfl V (V.fn g [] caps)) (evcons (@rfl V (iV ((nth (w) (k))))) evnil) (hq k (by omega)) (fzv_mapcanon _ _ (by simp [hca])) (by simp [hpu]) (Or.inl (by simp [hpu])) (R_e ?_)))))
  refine W_ifb rfl (fun c5 => ?_) (fun c5 => ?_)
  ·
   have d1 := c5
   refine W_r (R_mv (@rfl V (iV ((k : Nat) : Int))) (R_mv (@rfl V (iV ((k : Nat) : Int))) (R_e (W_ret (y4 _ _ (p22 _ _ (y1 _ _ ?_)))))))
   refine Ret_1 (@rfl V (iV ((k : Nat) : Int))) (fz_int ?_)
   · rw [hc, fi_hit (by exact d1) (by omega)]
  have d1 := c5
  refine W_skip (n4 _ _ (.done (W_t (R_addN t8 (@rfl V (iV ((1 : Nat) : Int))) (by omega) (R_mv (@rfl V (iV ((k + 1 : Nat) : Int))) (R_e ?_))))))
  refine p12 _ _ _ ?_ ⟨(k + 1), rfl, t0, t1, t7, (Eq.trans (@rfl V (iV ((k + 1 : Nat) : Int))) (by first | rfl | simp)), ?_, ?_⟩
  · omega
  · omega
  · rw [hc, fi_skip (by exact d1) (by omega)]
 refine W_seq_exit (p32 _ _ _ (x1 _ _ (.done (W_r (R_mv (@rfl V (iV (-1 : Int))) (R_e (W_ret ?_)))))))
 refine Ret_1 (@rfl V (iV (-1 : Int))) (fz_int ?_)
 · rw [hc, fi_end (by omega)]
theorem coni_pure (p : Int → Bool) (w : List Int) (g : Nat) (caps : List V) (hca : canonL caps = true) (hpu : pureL caps = true) (hq : ∀ k, k < w.length → PureC Try.prog g (iV (nth w k) :: caps) (.bool (p (nth w k)))) : PureC Try.prog 49 [(ints w), (V.fn g [] caps)] (V.bool (decide (0 ≤ fi (fun j => p (nth w j)) 0 w.length))) := by
 refine pure_of_Wb true 6 Try.func49 s49_ok (by kernel_rfl) (by simp [s49]) (by simp [hpu]) (by simp) fun hB => ?_
 simp only [bnd_map, bnd_int, bnd_bool, bnd_str, bnd_agg, bnd_pp, bnd_nil, bnd_cons, implies_true, and_true, true_and] at hB
 unfold s49
 dsimp only
 refine W_r (R_mv (@rfl V (V.bool false)) (R_e (W_r (R_mv (@rfl V (ints w)) (R_mv (@rfl V (V.fn g [] caps)) (R_call (evcons (@rfl V (ints w)) (evcons (@rfl V (V.fn g [] caps)) evnil)) (idxi_pure p w g caps hca hpu hq) (fzv_mapcanon _ _ (by simp [hca, hpu, -List.map_take, -List.map_drop, -List.map_append, -List.map_reverse])) (by simp [hca, hpu, -List.map_take, -List.map_drop, -List.map_append, -List.map_reverse]) (Or.inl (by simp [hca, hpu, -List.map_take, -List.map_drop, -List.map_append, -List.map_reverse])) (R_geq rfl rfl ?_)))))))
 refine R_mv (@rfl V (V.bool (decide ((0 : Int) ≤ (fi (fun j => p (nth w j)) 0 w.length))))) (R_e (W_ret ?_))
 refine Ret_1 (@rfl V (V.bool (decide ((0 : Int) ≤ (fi (fun j => p (nth w j)) 0 w.length))))) (fz_bool ?_)
 · first | rfl | omega | simp_all
theorem permitted_pure (n : Int) : PureC Try.prog 61 [(iV (n))] (V.bool (decide (1 ≤ n ∧ n ≤ 1024))) := by
 refine pW Try.func61 s61_ok fun hB => ?_
 unfold s61
 dsimp only
 refine W_r (R_mv (@rfl V (V.bool false)) (R_e (W_r (R_mv (@rfl V (iV (n))) (R_geq rfl rfl (R_mv (@rfl V (V.bool (decide ((1 : Int) ≤ (n))))) ?_))))))
 refine Ops_seg 3 (fun T H => T 8 = (V.bool (decide (((1 : Int) ≤ (n)) ∧ ((n) ≤ (1024 : Int))))) ∧ True) ?_ ?_
 ·
  by_cases g1 : (1 : Int) ≤ (n)
  ·
   refine G_yes (edT g1 rfl) (R_mv (@rfl V (iV (n))) (G_yes (edT g1 rfl) (R_leq rfl rfl (R_pickT (edT g1 rfl) rfl ?_))))
   exact ⟨(dec_andT g1), trivial⟩
  ·
   refine G_n (edF g1 rfl) (G_n (edF g1 rfl) (R_pickF (edF g1 rfl) rfl ?_))
   exact ⟨(dec_andF g1), trivial⟩
 intro T H ⟨t8, _⟩
 refine R_mv t8 (R_e (W_ret ?_))
 refine Ret_1 (@rfl V (V.bool (decide (((1 : Int) ≤ (n)) ∧ ((n) ≤ (1024 : Int)))))) (fz_bool ?_)
 · first | rfl | omega | simp_all
theorem check1_pure (a n : Int) : PureC Try.prog 62 [(iV (a)), (V.pp [(iV (n))])] (V.bool (decide (a < 0 ∨ n ≤ a))) := by
 refine pW Try.func62 s62_ok fun hB => ?_
 unfold s62
 dsimp only
 refine W_r (R_mv (@rfl V (V.bool false)) (R_e (W_r (R_mv (@rfl V (iV (a))) (R_lss rfl rfl (R_mv (@rfl V (V.bool (decide ((a) < (0 : Int))))) ?_))))))
 refine Ops_seg 4 (fun T H => T 10 = (V.bool (decide (((a) < (0 : Int)) ∨ ((n) ≤ (a))))) ∧ True) ?_ ?_
 ·
  by_cases g1 : (a) < (0 : Int)
  ·
   refine G_n (edT g1 rfl) (G_n (edT g1 rfl) (G_n (edT g1 rfl) (R_pickT (edT g1 rfl) rfl ?_)))
   exact ⟨(dec_orT g1), trivial⟩
  ·
   refine G_yes (edF g1 rfl) (R_mv (@rfl V (iV (a))) (G_yes (edF g1 rfl) (R_load_pp (v := (iV (n))) rfl (by first | rfl | simp [ldV]) (G_yes (edF g1 rfl) (R_geq rfl rfl (R_pickF (edF g1 rfl) rfl ?_))))))
   exact ⟨(dec_orF g1), trivial⟩
 intro T H ⟨t10, _⟩
 refine R_mv t10 (R_e (W_ret ?_))
 refine Ret_1 (@rfl V (V.bool (decide (((a) < (0 : Int)) ∨ ((n) ≤ (a)))))) (fz_bool ?_)
 · first | rfl | omega | simp_all
theorem check_pure (w : List Int) (n : Int) : PureC Try.prog 39 [(ints w), (iV (n))] (iV (wchk w n)) := by
 refine pW Try.func39 s39_ok fun hB => ?_
 unfold s39
 dsimp only
 refine W_r (R_box (i := 3) (n := 0) (m := 1) (cs := [(iV (n))]) rfl (congrArg Blk.ver rfl) rfl rfl rfl (R_mv (@rfl V (iV (0 : Int))) (R_e (W_seq_blockg fun Q1 n1 x1 y1 z1 => (W_r (R_load_mp (v := (iV (n))) rfl rfl (lB oB rfl rfl) (R_callc (evcons rfl evnil) (permitted_pure ((n))) ?_)))))))
 refine R_not rfl (R_mv (@rfl V (V.bool (decide (¬(1 ≤ ((n)) ∧ ((n)) ≤ 1024))))) (R_e ?_))
 refine W_if rfl (fun c2 => ?_) fun c2 => ?_
 ·
  refine W_r (R_mv (@rfl V (iV (2 : Int))) (R_e (W_ret (y1 _ _ ?_))))
  refine Ret_1 (@rfl V (iV (2 : Int))) (fz_int ?_)
  · rw [wchk, if_pos (by omega)]
 refine W_r (R_mv (@rfl V (ints w)) (R_len rfl (R_gtr rfl rfl (R_mv (@rfl V (V.bool (decide ((1024 : Int) < ((w.length : Nat) : Int))))) (R_e ?_)))))
 refine W_if rfl (fun c3 => ?_) fun c3 => ?_
 ·
  refine W_r (R_mv (@rfl V (iV (3 : Int))) (R_e (W_ret (y1 _ _ ?_))))
  refine Ret_1 (@rfl V (iV (3 : Int))) (fz_int ?_)
  · rw [wchk, if_neg (by omega), if_pos (by omega)]
 refine W_r (R_mv (@rfl V (ints w)) (R_mkf (evcons rfl evnil) (R_call (evcons (@rfl V (ints w)) (evcons (@rfl V (V.fn 62 [] [(V.mp 3 1 0 0)])) evnil)) (coni_pure (fun a => decide (a < 0 ∨ n ≤ a)) w 62 ([(V.pp [(iV (n))])]) (by simp) (by simp) (fun k _ => check1_pure (nth w k) n)) (mcons (fzv_canon 6 _ (by simp [-List.map_take, -List.map_drop, -List.map_append, -List.map_reverse])) (mcons (by simp [fzv, Blk.own]) rfl)) (by simp [-List.map_take, -List.map_drop, -List.map_append, -List.map_reverse]) (Or.inr rfl) (R_mv (@rfl V (V.bool (decide (0 ≤ fi (fun j => (fun a => decide (a < 0 ∨ n ≤ a)) (nth w j)) 0 w.length)))) (R_e ?_)))))
 refine W_if (p := 0 ≤ fi (fun j => (fun a => decide (a < 0 ∨ n ≤ a)) (nth w j)) 0 w.length) rfl (fun c4 => ?_) (fun c4 => ?_)
 ·
  refine W_r (R_mv (@rfl V (iV (1 : Int))) (R_e (W_ret (y1 _ _ ?_))))
  refine Ret_1 (@rfl V (iV (1 : Int))) (fz_int ?_)
  · have e : (0 ≤ fi (fun j => (fun a => decide (a < 0 ∨ n ≤ a)) (nth w j)) 0 w.length ↔ fe (wE w n) 0 w.length = 1) ∧ (fe (wE w n) 0 w.length = 0 ∨ fe (wE w n) 0 w.length = 1) := in_fe w n w.length 0
    rw [wchk, if_neg (by omega), if_neg (by omega)]; omega
 refine W_skip (n1 _ _ (.done (W_r (R_mv (@rfl V (iV (0 : Int))) (R_e (W_ret ?_))))))
 refine Ret_1 (@rfl V (iV (0 : Int))) (fz_int ?_)
 · have e : (0 ≤ fi (fun j => (fun a => decide (a < 0 ∨ n ≤ a)) (nth w j)) 0 w.length ↔ fe (wE w n) 0 w.length = 1) ∧ (fe (wE w n) 0 w.length = 0 ∨ fe (wE w n) 0 w.length = 1) := in_fe w n w.length 0
   rw [wchk, if_neg (by omega), if_neg (by omega)]; omega
theorem leaf_pure (x : Nd) (hs : x.sf.length ≤ 1048576) (ho : x.ou.length ≤ 1048576) (hk : x.kd.length ≤ 1048576) : PureC Try.prog 33 [(V.agg (cN x))] (iV (lfE x)) := by
 refine pW Try.func33 s33_ok fun hB => ?_
 unfold s33
 dsimp only
 refine W_r (R_box (i := 1) (n := 0) (m := 5) (cs := [(V.bool x.lf), (ints x.ac), (ints x.sf), (intss x.ou), (ints x.kd)]) rfl (congrArg Blk.ver rfl) rfl rfl rfl (R_mv (@rfl V (iV (0 : Int))) (R_e (W_seq_seq (W_r (R_fld_mp (o' := 2) rfl rfl oB rfl (R_load_mp (v := (ints x.sf)) rfl rfl (lB oB rfl rfl) ?_)))))))
 refine R_len rfl (R_fld_mp (o' := 3) rfl rfl oB rfl (R_load_mp (v := (intss x.ou)) rfl rfl (lB oB rfl rfl) (R_len rfl (R_addN rfl rfl (by omega) (R_fld_mp (o' := 4) rfl rfl oB rfl (R_load_mp (v := (ints x.kd)) rfl rfl (lB oB rfl rfl) (R_len rfl ?_)))))))
 refine R_addN rfl rfl (by omega) (R_gtr rfl rfl (R_e ?_))
 refine W_seq_if rfl (fun c1 => ?_) fun c1 => ?_
 ·
  refine W_seq_seq (W_r (R_mv (@rfl V (iV (1 : Int))) (R_e (W_seq_ret ?_))))
  refine Ret_1 (@rfl V (iV (1 : Int))) (fz_int ?_)
  · rw [lfE, if_pos (by omega)]
 refine W_seq_skip (W_r (R_fld_mp (o' := 1) rfl rfl oB rfl (R_load_mp (v := (ints x.ac)) rfl rfl (lB oB rfl rfl) (R_callc (evcons rfl (evcons rfl evnil)) (check_pure x.ac ((64 : Int))) (R_mv (@rfl V (iV (wchk x.ac ((64 : Int))))) (R_e (W_ret ?_)))))))
 refine Ret_1 (@rfl V (iV (wchk x.ac ((64 : Int))))) (fz_int ?_)
 · rw [lfE, if_neg (by omega)]
theorem lex_pure (a b : List Int) : PureC Try.prog 24 [(ints a), (ints b)] (iV (lexI a b)) := by
 refine pW Try.func24 s24_ok fun hB => ?_
 unfold s24
 dsimp only
 refine W_r (R_mv (@rfl V (iV (0 : Int))) (R_e (W_r (R_mv (@rfl V (ints a)) (R_mv (@rfl V (ints b)) (R_callc (evcons rfl (evcons rfl evnil)) (scompare_pure a b) (R_mv (@rfl V (iV (lexI a b))) ?_)))))))
 refine R_e (W_ret ?_)
 refine Ret_1 (@rfl V (iV (lexI a b))) (fz_canon (by simp) rfl)
theorem values1_pure (o : Int) : PureC Try.prog 50 [(iV (o))] (V.bool (decide (o < 0 ∨ 1048576 < o))) := by
 refine pW Try.func50 s50_ok fun hB => ?_
 unfold s50
 dsimp only
 refine W_r (R_mv (@rfl V (V.bool false)) (R_e (W_r (R_mv (@rfl V (iV (o))) (R_lss rfl rfl (R_mv (@rfl V (V.bool (decide ((o) < (0 : Int))))) ?_))))))
 refine Ops_seg 3 (fun T H => T 8 = (V.bool (decide (((o) < (0 : Int)) ∨ ((1048576 : Int) < (o))))) ∧ True) ?_ ?_
 ·
  by_cases g1 : (o) < (0 : Int)
  ·
   refine G_n (edT g1 rfl) (G_n (edT g1 rfl) (R_pickT (edT g1 rfl) rfl ?_))
   exact ⟨(dec_orT g1), trivial⟩
  ·
   refine G_yes (edF g1 rfl) (R_mv (@rfl V (iV (o))) (G_yes (edF g1 rfl) (R_gtr rfl rfl (R_pickF (edF g1 rfl) rfl ?_))))
   exact ⟨(dec_orF g1), trivial⟩
 intro T H ⟨t8, _⟩
 refine R_mv t8 (R_e (W_ret ?_))
 refine Ret_1 (@rfl V (V.bool (decide (((o) < (0 : Int)) ∨ ((1048576 : Int) < (o)))))) (fz_bool ?_)
 · first | rfl | exact decide_eq_decide.2 (by omega)
theorem values_pure (outs suffix : List Int) : PureC Try.prog 28 [(ints outs), (ints suffix)] (iV (vlE outs suffix)) := by
 refine pW Try.func28 s28_ok fun hB => ?_
 unfold s28
 dsimp only
 refine W_r (R_mv (@rfl V (iV (0 : Int))) (R_e (W_seq_seq (W_r (R_mv (@rfl V (ints outs)) (R_len rfl (R_mv (@rfl V (ints suffix)) ?_)))))))
 refine R_len rfl (R_neq rfl rfl (R_e ?_))
 refine W_seq_if rfl (fun c1 => ?_) fun c1 => ?_
 ·
  refine W_seq_seq (W_r (R_mv (@rfl V (iV (1 : Int))) (R_e (W_seq_ret ?_))))
  refine Ret_1 (@rfl V (iV (1 : Int))) (fz_int ?_)
  · rw [vlE, if_pos (by omega)]
 refine W_seq_skip (W_seq_seq (W_r (R_mv (@rfl V (ints outs)) (R_callc (evcons rfl (evcons rfl evnil)) (coni_pure (fun a => decide (a < 0 ∨ 1048576 < a)) outs 50 ([]) (by simp) (by simp) (fun k _ => values1_pure (nth outs k))) (R_e ?_)))))
 refine W_seq_if (p := 0 ≤ fi (fun j => (fun a => decide (a < 0 ∨ 1048576 < a)) (nth outs j)) 0 outs.length) rfl (fun c2 => ?_) (fun c2 => ?_)
 ·
  refine W_seq_seq (W_r (R_mv (@rfl V (iV (2 : Int))) (R_e (W_seq_ret ?_))))
  refine Ret_1 (@rfl V (iV (2 : Int))) (fz_int ?_)
  · have e := ou_fe outs
    rw [vlE, if_neg (by omega)]; omega
 refine W_seq_skip (W_r (R_mv (@rfl V (iV (0 : Int))) (R_e (W_ret ?_))))
 refine Ret_1 (@rfl V (iV (0 : Int))) (fz_int ?_)
 · have e := ou_fe outs
   rw [vlE, if_neg (by omega)]; omega
theorem inner_pure (x : Nd) (n : Nat) (ho : x.ou.length ≤ 1048576) : PureC Try.prog 34 [(V.agg (cN x)), (iV ((n : Nat) : Int))] (iV (inE2 x n)) := by
 refine pW Try.func34 s34_ok fun hB => ?_
 unfold s34
 dsimp only
 refine W_r (R_box (i := 2) (n := 0) (m := 5) (cs := [(V.bool x.lf), (ints x.ac), (ints x.sf), (intss x.ou), (ints x.kd)]) rfl (congrArg Blk.ver rfl) rfl rfl rfl (R_mv (@rfl V (iV (0 : Int))) (R_e (W_seq_blockg fun Q1 n1 x1 y1 z1 => (W_r (R_fld_mp (o' := 1) rfl rfl oB rfl (R_load_mp (v := (ints x.ac)) rfl rfl (lB oB rfl rfl) ?_)))))))
 refine R_len rfl (R_gtr rfl rfl (R_mv (@rfl V (V.bool (decide ((0 : Int) < ((x.ac.length : Nat) : Int))))) (R_e ?_)))
 refine W_if rfl (fun c2 => ?_) fun c2 => ?_
 ·
  refine W_r (R_mv (@rfl V (iV (1 : Int))) (R_e (W_ret (y1 _ _ ?_))))
  refine Ret_1 (@rfl V (iV (1 : Int))) (fz_int ?_)
  · rw [inE2, if_pos (by omega)]
 refine W_r (R_fld_mp (o' := 2) rfl rfl oB rfl (R_load_mp (v := (ints x.sf)) rfl rfl (lB oB rfl rfl) (R_len rfl (R_eql rfl rfl (R_mv (@rfl V (V.bool (decide (((x.sf.length : Nat) : Int) = (0 : Int))))) (R_e ?_))))))
 refine W_if rfl (fun c3 => ?_) fun c3 => ?_
 ·
  refine W_r (R_mv (@rfl V (iV (19 : Int))) (R_e (W_ret (y1 _ _ ?_))))
  refine Ret_1 (@rfl V (iV (19 : Int))) (fz_int ?_)
  · rw [inE2, if_neg (by omega), if_pos (by omega)]
 refine W_skip (n1 _ _ (.done (W_seq_seq (W_r (R_fld_mp (o' := 2) rfl rfl oB rfl (R_load_mp (v := (ints x.sf)) rfl rfl (lB oB rfl rfl) (R_callc (evcons rfl (evcons rfl evnil)) (check_pure x.sf ((64 : Int))) ?_)))))))
 refine R_mv (@rfl V (iV (wchk x.sf ((64 : Int))))) (R_e (W_seq_seq (W_r (R_mv (@rfl V (iV (wchk x.sf ((64 : Int))))) (R_neq rfl rfl (R_e ?_))))))
 refine W_seq_if rfl (fun c4 => ?_) fun c4 => ?_
 ·
  refine W_seq_seq (W_r (R_mv (@rfl V (iV (wchk x.sf ((64 : Int))))) (R_mv (@rfl V (iV (wchk x.sf ((64 : Int))))) (R_e (W_seq_ret ?_)))))
  refine Ret_1 (@rfl V (iV (wchk x.sf ((64 : Int))))) (fz_int ?_)
  · rw [inE2, if_neg (by omega), if_neg (by omega), if_pos (by omega)]
 refine W_seq_skip (W_seq_seq (W_r (R_fld_mp (o' := 3) rfl rfl oB rfl (R_load_mp (v := (intss x.ou)) rfl rfl (lB oB rfl rfl) (R_len rfl (R_fld_mp (o' := 4) rfl rfl oB rfl (R_load_mp (v := (ints x.kd)) rfl rfl (lB oB rfl rfl) ?_)))))))
 refine R_len rfl (R_neq rfl rfl (R_e ?_))
 refine W_seq_if rfl (fun c5 => ?_) fun c5 => ?_
 ·
  refine W_seq_seq (W_r (R_mv (@rfl V (iV (1 : Int))) (R_e (W_seq_ret ?_))))
  refine Ret_1 (@rfl V (iV (1 : Int))) (fz_int ?_)
  · rw [inE2, if_neg (by omega), if_neg (by omega), if_neg (by omega), if_pos (by omega)]
 refine W_seq_skip (W_seq_seq (W_r (R_fld_mp (o' := 3) rfl rfl oB rfl (R_load_mp (v := (intss x.ou)) rfl rfl (lB oB rfl rfl) (R_len rfl (R_mv (@rfl V (iV (0 : Int))) (R_e ?_)))))))
 refine W_seq_blockg fun Q6 n6 x6 y6 z6 => ?_
 refine W_loop (fun mm T H => ∃ (k : Nat), mm = x.ou.length - k ∧ T 1 = (iV ((n : Nat) : Int)) ∧ T 2 = (V.mp 2 1 0 0) ∧ T 33 = (intss x.ou) ∧ T 34 = (iV ((x.ou.length : Nat) : Int)) ∧ T 35 = (iV ((k : Nat) : Int)) ∧ H 2 = (bk 1 41 5 [(cN x)]) ∧ (k ≤ x.ou.length) ∧ (x.ou.length = x.kd.length) ∧ (x.ac.length = 0) ∧ (x.sf.length ≠ 0) ∧ (wchk x.sf 64 = 0) ∧ (fe (chE x n) 0 x.ou.length = fe (chE x n) k (x.ou.length - k))) ?_ ?_
 ·
  refine ⟨_, 0, rfl, rfl, rfl, rfl, rfl, (Eq.trans (@rfl V (iV (0 : Int))) rfl), rfl, ?_, ?_, ?_, ?_, ?_, ?_⟩
  · omega
  · omega
  · omega
  · omega
  · omega
  · rfl
 intro mm T H ⟨k, hmm, t1, t2, t33, t34, t35, h2, hk, hl, ga, gs, gw, hc⟩ Q7 p17 p27 p37
 unfold b34_0
 refine W_r (R_lss t35 t34 (R_e ?_))
 refine W_seq_if rfl (fun c8 => ?_) fun c8 => ?_
 ·
  refine W_seq_skip (W_seq_blockg fun Q9 n9 x9 y9 z9 => (W_r (R_mv t35 (R_idx (i := k) t33 t35 (by omega) rfl (R_load_pp (v := (ints ((nth (x.ou) (k))))) rfl (by first | rfl | simp [ldV]) (R_mv (@rfl V (iV ((k : Nat) : Int))) (R_mv (@rfl V (ints ((nth (x.ou) (k))))) ?_)))))))
  refine R_e (W_seq_seq (W_r (R_mv (@rfl V (ints ((nth (x.ou) (k))))) (R_fld_mp (o' := 2) t2 h2 oB rfl (R_load_mp (v := (ints x.sf)) rfl h2 (lB oB rfl rfl) (R_callc (evcons rfl (evcons rfl evnil)) (values_pure ((nth (x.ou) (k))) x.sf) (R_mv (@rfl V (iV (vlE ((nth (x.ou) (k))) x.sf))) ?_)))))))
  refine R_e (W_seq_seq (W_r (R_mv (@rfl V (iV (vlE ((nth (x.ou) (k))) x.sf))) (R_neq rfl rfl (R_e ?_)))))
  refine W_seq_if rfl (fun c10 => ?_) fun c10 => ?_
  ·
   refine W_seq_seq (W_r (R_mv (@rfl V (iV (vlE ((nth (x.ou) (k))) x.sf))) (R_mv (@rfl V (iV (vlE ((nth (x.ou) (k))) x.sf))) (R_e (W_seq_ret (y9 _ _ (p27 _ _ ?_)))))))
   refine y6 _ _ ?_
   refine Ret_1 (@rfl V (iV (vlE ((nth (x.ou) (k))) x.sf))) (fz_int ?_)
   · rw [inE2, if_neg (by omega), if_neg (by omega), if_neg (by omega), if_neg (by omega), hc, fe_hit (by rw [chE, if_pos (by omega)]; omega) (by omega), chE, if_pos (by omega)]
  refine W_seq_skip (W_seq_seq (W_r (R_mv (@rfl V (iV ((k : Nat) : Int))) (R_gtr rfl rfl (R_mv (@rfl V (V.bool (decide ((0 : Int) < ((k : Nat) : Int))))) ?_)))))
  refine Ops_seg 10 (fun T H => T 1 = (iV ((n : Nat) : Int)) ∧ T 2 = (V.mp 2 1 0 0) ∧ T 6 = (iV ((k : Nat) : Int)) ∧ T 33 = (intss x.ou) ∧ T 34 = (iV ((x.ou.length : Nat) : Int)) ∧ T 35 = (iV ((k : Nat) : Int)) ∧ T 59 = (V.bool (decide (((0 : Int) < ((k : Nat) : Int)) ∧ ((0 : Int) ≤ (lexI ((nth (x.ou) (((k : Nat) : Int) - (1 : Int)).toNat)) ((nth (x.ou) (k)))))))) ∧ H 2 = (bk 1 41 5 [(cN x)]) ∧ True) ?_ ?_
  ·
   by_cases g11 : (0 : Int) < ((k : Nat) : Int)
   ·
    refine G_yes (edT g11 rfl) (R_fld_mp (o' := 3) t2 h2 oB rfl (G_yes (edT g11 rfl) (R_load_mp (v := (intss x.ou)) rfl h2 (lB oB rfl rfl) (G_yes (edT g11 rfl) (R_mv (@rfl V (iV ((k : Nat) : Int))) (G_yes (edT g11 rfl) (R_sub rfl rfl (by omega) (by omega) ?_)))))))
    refine G_yes (edT g11 rfl) (R_idxI (i := (((k : Nat) : Int) - (1 : Int))) (@rfl V (intss x.ou)) (@rfl V (iV (((k : Nat) : Int) - (1 : Int)))) (by omega) (by omega) rfl (G_yes (edT g11 rfl) (R_load_pp (v := (ints ((nth (x.ou) (((k : Nat) : Int) - (1 : Int)).toNat)))) rfl (by first | rfl | simp [ldV]) (G_yes (edT g11 rfl) (R_mv (@rfl V (ints ((nth (x.ou) (k))))) (G_yes (edT g11 rfl) (R_callc (evcons rfl (evcons rfl evnil)) (lex_pure ((nth (x.ou) (((k : Nat) : Int) - (1 : Int)).toNat)) ((nth (x.ou) (k)))) ?_)))))))
    refine G_yes (edT g11 rfl) (R_geq rfl rfl (R_pickT (edT g11 rfl) rfl ?_))
    exact ⟨t1, t2, rfl, t33, t34, t35, (dec_andT g11), h2, trivial⟩
   ·
    refine G_n (edF g11 rfl) (G_n (edF g11 rfl) (G_n (edF g11 rfl) (G_n (edF g11 rfl) (G_n (edF g11 rfl) (G_n (edF g11 rfl) (G_n (edF g11 rfl) (G_n (edF g11 rfl) ?_)))))))
    refine G_n (edF g11 rfl) (R_pickF (edF g11 rfl) rfl ?_)
    exact ⟨t1, t2, rfl, t33, t34, t35, (dec_andF g11), h2, trivial⟩
  intro T H ⟨t1, t2, t6, t33, t34, t35, t59, h2, _⟩
  refine R_e ?_
  refine W_seq_if t59 (fun c12 => ?_) fun c12 => ?_
  ·
   have d2 : 0 < k ∧ 0 ≤ lexI (nth x.ou (k - 1)) (nth x.ou k) := by have q := c12; rw [show (((k : Nat) : Int) - (1 : Int)).toNat = k - 1 by omega] at q; omega
   refine W_seq_seq (W_r (R_mv (@rfl V (iV (10 : Int))) (R_e (W_seq_ret (y9 _ _ (p27 _ _ (y6 _ _ ?_)))))))
   refine Ret_1 (@rfl V (iV (10 : Int))) (fz_int ?_)
   · rw [inE2, if_neg (by omega), if_neg (by omega), if_neg (by omega), if_neg (by omega), hc, fe_hit (by rw [chE, if_neg (by omega), if_pos d2]; omega) (by omega), chE, if_neg (by omega), if_pos d2]
  have d2 : ¬(0 < k ∧ 0 ≤ lexI (nth x.ou (k - 1)) (nth x.ou k)) := by have q := c12; rw [show (((k : Nat) : Int) - (1 : Int)).toNat = k - 1 by omega] at q; omega
  refine W_seq_skip (W_r (R_fld_mp (o' := 4) t2 h2 oB rfl (R_load_mp (v := (ints x.kd)) rfl h2 (lB oB rfl rfl) (R_mv t6 (R_idx (i := k) (@rfl V (ints x.kd)) (@rfl V (iV ((k : Nat) : Int))) (by omega) rfl (R_load_pp (v := (iV ((nth (x.kd) (k))))) rfl (by first | rfl | simp [ldV]) (R_lss rfl rfl ?_)))))))
  refine R_mv (@rfl V (V.bool (decide (((nth (x.kd) (k))) < (0 : Int))))) ?_
  refine Ops_seg 8 (fun T H => T 1 = (iV ((n : Nat) : Int)) ∧ T 2 = (V.mp 2 1 0 0) ∧ T 33 = (intss x.ou) ∧ T 34 = (iV ((x.ou.length : Nat) : Int)) ∧ T 35 = (iV ((k : Nat) : Int)) ∧ T 74 = (V.bool (decide ((((nth (x.kd) (k))) < (0 : Int)) ∨ (((n : Nat) : Int) ≤ ((nth (x.kd) (k))))))) ∧ H 2 = (bk 1 41 5 [(cN x)]) ∧ True) ?_ ?_
  ·
   by_cases g13 : ((nth (x.kd) (k))) < (0 : Int)
   ·
    refine G_n (edT g13 rfl) (G_n (edT g13 rfl) (G_n (edT g13 rfl) (G_n (edT g13 rfl) (G_n (edT g13 rfl) (G_n (edT g13 rfl) (G_n (edT g13 rfl) (R_pickT (edT g13 rfl) rfl ?_)))))))
    exact ⟨t1, t2, t33, t34, t35, (dec_orT g13), h2, trivial⟩
   ·
    refine G_yes (edF g13 rfl) (R_fld_mp (o' := 4) t2 h2 oB rfl (G_yes (edF g13 rfl) (R_load_mp (v := (ints x.kd)) rfl h2 (lB oB rfl rfl) (G_yes (edF g13 rfl) (R_mv t6 (G_yes (edF g13 rfl) (R_idx (i := k) (@rfl V (ints x.kd)) (@rfl V (iV ((k : Nat) : Int))) (by omega) rfl ?_)))))))
    refine G_yes (edF g13 rfl) (R_load_pp (v := (iV ((nth (x.kd) (k))))) rfl (by first | rfl | simp [ldV]) (G_yes (edF g13 rfl) (R_mv t1 (G_yes (edF g13 rfl) (R_geq rfl rfl (R_pickF (edF g13 rfl) rfl ?_))))))
    exact ⟨t1, t2, t33, t34, t35, (dec_orF g13), h2, trivial⟩
  intro T H ⟨t1, t2, t33, t34, t35, t74, h2, _⟩
  refine R_e ?_
  refine W_if t74 (fun c14 => ?_) fun c14 => ?_
  ·
   refine W_r (R_mv (@rfl V (iV (2 : Int))) (R_e (W_ret (y9 _ _ (p27 _ _ (y6 _ _ ?_))))))
   refine Ret_1 (@rfl V (iV (2 : Int))) (fz_int ?_)
   · rw [inE2, if_neg (by omega), if_neg (by omega), if_neg (by omega), if_neg (by omega), hc, fe_hit (by rw [chE, if_neg (by omega), if_neg d2, if_pos (by omega)]; omega) (by omega), chE, if_neg (by omega), if_neg d2, if_pos (by omega)]
  refine W_skip (n9 _ _ (.done (W_t (R_addN t35 (@rfl V (iV ((1 : Nat) : Int))) (by omega) (R_mv (@rfl V (iV ((k + 1 : Nat) : Int))) (R_e ?_))))))
  refine p17 _ _ _ ?_ ⟨(k + 1), rfl, t1, t2, t33, t34, (Eq.trans (@rfl V (iV ((k + 1 : Nat) : Int))) (by first | rfl | simp)), h2, ?_, ?_, ?_, ?_, ?_, ?_⟩
  · omega
  · omega
  · omega
  · omega
  · omega
  · omega
  · rw [hc, fe_skip (by rw [chE, if_neg (by omega), if_neg d2, if_neg (by omega)]) (by omega)]
 refine W_seq_exit (p37 _ _ _ (x6 _ _ (.done (W_r (R_mv (@rfl V (iV (0 : Int))) (R_e (W_ret ?_)))))))
 refine Ret_1 (@rfl V (iV (0 : Int))) (fz_int ?_)
 · rw [inE2, if_neg (by omega), if_neg (by omega), if_neg (by omega), if_neg (by omega), hc, fe_end (by omega)]
end Go.Proofs.Ytmnjchcoigbngaa
namespace Go.Proofs.Ytmnjchcoigbngaa
open Go Go.Proofs
attribute [local irreducible] mksV
theorem connected_pure (t : Dt) (hk : KI t) (hb : Bd t) : PureC Try.prog 35 [(V.agg [(V.sl (List.map cN (t.nd)))])] (V.bool (coB t)) := by
 refine pW Try.func35 s35_ok fun hB => ?_
 unfold s35
 dsimp only
 have hp := hk.pos
 have hbn := hb.n
 refine W_r (R_box (i := 1) (n := 0) (m := 1) (cs := [(V.sl (List.map cN (t.nd)))]) rfl (congrArg Blk.ver rfl) rfl rfl rfl (R_mv (@rfl V (V.bool false)) (R_e (W_r (R_fld_mp (o' := 0) rfl rfl oB rfl (R_load_mp (v := (V.sl (List.map cN (t.nd)))) rfl rfl (lB oB rfl rfl) (R_len rfl ?_)))))))
 refine R_mksm (i := 10) (n := 0) (m := t.nd.length) (q := t.nd.length) (f := cB) (x := false) rfl (congrArg Blk.ver rfl) (@rfl V (iV ((t.nd.length : Nat) : Int))) (@rfl V (iV ((t.nd.length : Nat) : Int))) rfl (by first | omega | (simp only [List.length_replicate]; omega)) (by first | omega | (simp only [List.length_replicate]; omega)) (by first | omega | (simp only [List.length_replicate]; omega)) (R_mv (@rfl V (V.ms 10 1 0 (t.nd.length))) (R_e (W_r (R_bslice_own (i := 11) (n := 0) (qs := [(0, (iV (0 : Int)))]) (rows := [[(iV (0 : Int))]]) rfl (congrArg Blk.ver rfl) (mcons (congrArg (fun v => (0, v)) rfl) rfl) rfl (R_mv (@rfl V (V.ms 11 1 0 (1))) (R_e (W_seq_seq ?_)))))))
 refine W_r (R_mv (@rfl V (iV (0 : Int))) (R_e (W_seq_blockg fun Q1 n1 x1 y1 z1 => ?_)))
 refine W_loop (fun mm T H => ∃ (k : Nat) (w : Nat) (P : RS), mm = t.nd.length + 1 - k ∧ T 1 = (V.mp 1 1 0 0) ∧ T 3 = (V.ms 10 1 0 (t.nd.length)) ∧ T 4 = (V.ms 11 w 0 (P.1.length)) ∧ T 5 = (iV ((k : Nat) : Int)) ∧ H 1 = (bk 1 24 1 [[(V.sl (List.map cN (t.nd)))]]) ∧ H 10 = (bk 1 4 1 (List.map cB (P.2))) ∧ H 11 = (bk w 3 1 (List.map cI (P.1))) ∧ (k ≤ P.1.length) ∧ (CI t P) ∧ (coN t (t.nd.length + 1) 0 (co0 t) = coN t (t.nd.length + 1 - k) k P)) ?_ ?_
 ·
  refine ⟨_, 0, 1, (co0 t), rfl, rfl, rfl, (Eq.trans (@rfl V (V.ms 11 1 0 (1))) (by first | rfl | (rw [show (cS t P k).1.length = (qS t P.1 k).length from rfl, r3]; done) | simp)), (Eq.trans (@rfl V (iV (0 : Int))) rfl), rfl, (Eq.trans (@rfl Blk (bk 1 4 1 (List.map cB (List.replicate t.nd.length false)))) (by first | rfl)), (Eq.trans (@rfl Blk (bk 1 3 1 [[(iV (0 : Int))]])) (by first | rfl)), ?_, ?_, ?_⟩
  · exact Nat.zero_le _
  · exact ci0 hk
  · rfl
 intro mm T H ⟨k, w, P, hmm, t1, t3, t4, t5, h1, h10, h11, hk2, hi, hc⟩ Q2 p12 p22 p32
 unfold b35_0
 have hi1 := hi.l1
 have hi2 := hi.l2
 refine W_seq_seq (W_r (R_mv t5 (R_mv t4 (R_len_ms rfl h11 (by first | rfl | simp) (R_lss rfl rfl (R_e ?_))))))
 refine W_seq_if rfl (fun c3 => ?_) fun c3 => ?_
 ·
  have r1 := hi.rg _ (nth_mem (show k < P.1.length by omega))
  have r2 := hb.kd _ (show (nth P.1 k).toNat < t.nd.length by omega)
  have r3 : (qS t P.1 k).length = P.1.length + (nth t.nd (nth P.1 k).toNat).kd.length := by unfold qS; rw [List.length_append]
  refine W_seq_skip (W_seq_blockg fun Q4 n4 x4 y4 z4 => (W_r (R_mv t4 (R_mv t5 (R_idx_ms0 (i := k) (@rfl V (V.ms 11 w 0 (P.1.length))) (@rfl V (iV ((k : Nat) : Int))) h11 oB rfl (by first | omega | (simp only [List.length_replicate]; omega)) (R_load_mp (v := (iV ((nth (P.1) (k))))) rfl h11 (ldB_map (by first | omega | (simp only [List.length_replicate]; omega)) (by first | rfl | simp [ldV, V.one])) (R_mv (@rfl V (iV ((nth (P.1) (k))))) ?_)))))))
  refine R_e (W_seq_seq (W_r (R_mv t3 (R_mv (@rfl V (iV ((nth (P.1) (k))))) (R_idxI_ms0 (i := ((nth (P.1) (k)))) (@rfl V (V.ms 10 1 0 (t.nd.length))) (@rfl V (iV ((nth (P.1) (k))))) h10 oB rfl (by first | omega | (simp only [List.length_replicate]; omega)) (by first | omega | (simp only [List.length_replicate]; omega)) (R_load_mp (v := (V.bool ((nth (P.2) ((((nth (P.1) (k)))).toNat))))) rfl h10 (ldB_map (by first | omega | (simp only [List.length_replicate]; omega)) (by first | rfl | simp [ldV, V.one])) (R_e ?_)))))))
  refine W_seq_ifb rfl (fun c5 => ?_) (fun c5 => ?_)
  ·
   have d2 : nth P.2 (nth P.1 k).toNat = true := c5
   refine W_seq_seq (W_r (R_mv (@rfl V (V.bool false)) (R_e (W_seq_ret (y4 _ _ (p22 _ _ (y1 _ _ ?_)))))))
   refine Ret_1 (@rfl V (V.bool false)) (fz_bool ?_)
   · rw [coB_none (by rw [hc]; exact co_yes (by omega) (by omega) d2)]
  have d2 : nth P.2 (nth P.1 k).toNat = false := by simpa using c5
  refine W_seq_skip (W_r (R_mv t3 (R_mv (@rfl V (iV ((nth (P.1) (k))))) (R_idxI_ms0 (i := ((nth (P.1) (k)))) (@rfl V (V.ms 10 1 0 (t.nd.length))) (@rfl V (iV ((nth (P.1) (k))))) h10 oB rfl (by first | omega | (simp only [List.length_replicate]; omega)) (by first | omega | (simp only [List.length_replicate]; omega)) (R_store (vs := [(V.bool true)]) (B' := (bk 1 4 1 (List.map cB ((P.2).set ((((nth (P.1) (k)))).toNat) true)))) rfl rfl rfl h10 (stB_map (x := true) (i := ((((nth (P.1) (k)))).toNat)) (by first | omega | (simp only [List.length_replicate]; omega)) rfl rfl rfl rfl) (R_e (W_r ?_)))))))
  refine R_mv t4 (R_fld_mp (o' := 0) t1 h1 oB rfl (R_load_mp (v := (V.sl (List.map cN (t.nd)))) rfl h1 (lB oB rfl rfl) (R_mv (@rfl V (iV ((nth (P.1) (k))))) (R_idxI (i := ((nth (P.1) (k)))) (@rfl V (V.sl (List.map cN (t.nd)))) (@rfl V (iV ((nth (P.1) (k))))) (by first | omega | (simp only [List.length_replicate]; omega)) (by first | omega | (simp only [List.length_replicate]; omega)) rfl (R_fld_pp (cs' := [(ints (((nth (t.nd) ((nth (P.1) (k))).toNat)).kd))]) rfl rfl (R_load_pp (v := (ints (((nth (t.nd) ((nth (P.1) (k))).toNat)).kd))) rfl (by first | rfl | simp [ldV]) (R_appendS (l := P.1) (m := (((nth (t.nd) ((nth (P.1) (k))).toNat)).kd)) (f := cI) (@rfl V (V.ms 11 w 0 (P.1.length))) h11 (by first | rfl | simp | omega) (@rfl V (ints (((nth (t.nd) ((nth (P.1) (k))).toNat)).kd))) (fun _ => rfl) (fun _ => rfl) (by first | omega | (simp only [List.length_replicate]; omega)) (by first | omega | (simp only [List.length_replicate]; omega)) ?_)))))))
  refine R_mv (@rfl V (V.ms 11 (w + 1) 0 (P.1.length + (((nth (t.nd) ((nth (P.1) (k))).toNat)).kd).length))) (R_e (W_r (R_mv (@rfl V (V.ms 11 (w + 1) 0 (P.1.length + (((nth (t.nd) ((nth (P.1) (k))).toNat)).kd).length))) (R_len_ms rfl (@rfl Blk (bk (w + 1) 3 1 (List.map cI (P.1 ++ (((nth (t.nd) ((nth (P.1) (k))).toNat)).kd))))) (by first | rfl | simp) (R_fld_mp (o' := 0) t1 h1 oB rfl (R_load_mp (v := (V.sl (List.map cN (t.nd)))) rfl h1 (lB oB rfl rfl) (R_len rfl ?_)))))))
  refine R_gtr rfl rfl (R_e ?_)
  refine W_if rfl (fun c6 => ?_) fun c6 => ?_
  ·
   have d3 := c6
   refine W_r (R_mv (@rfl V (V.bool false)) (R_e (W_ret (y4 _ _ (p22 _ _ (y1 _ _ ?_))))))
   refine Ret_1 (@rfl V (V.bool false)) (fz_bool ?_)
   · rw [coB_none (by rw [hc]; exact co_big (by omega) (by omega) d2 (by omega))]
  have d3 := c6
  refine W_skip (n4 _ _ (.done (W_t (R_mv t5 (R_addN rfl (@rfl V (iV ((1 : Nat) : Int))) (by first | omega | (simp only [List.length_replicate]; omega)) (R_mv (@rfl V (iV ((k + 1 : Nat) : Int))) (R_e ?_)))))))
  refine p12 _ _ _ ?_ ⟨(k + 1), (w + 1), (cS t P k), rfl, t1, t3, (Eq.trans (@rfl V (V.ms 11 (w + 1) 0 (P.1.length + (((nth (t.nd) ((nth (P.1) (k))).toNat)).kd).length))) (by first | rfl | (rw [show (cS t P k).1.length = (qS t P.1 k).length from rfl, r3]; done) | simp)), (Eq.trans (@rfl V (iV ((k + 1 : Nat) : Int))) (by first | rfl | (rw [show (cS t P k).1.length = (qS t P.1 k).length from rfl, r3]; done) | simp)), h1, (Eq.trans (@rfl Blk (bk 1 4 1 (List.map cB ((P.2).set ((((nth (P.1) (k)))).toNat) true)))) (by first | rfl)), (Eq.trans (@rfl Blk (bk (w + 1) 3 1 (List.map cI (P.1 ++ (((nth (t.nd) ((nth (P.1) (k))).toNat)).kd))))) (by first | rfl)), ?_, ?_, ?_⟩
  · omega
  · show k + 1 ≤ (P.1 ++ _).length; rw [List.length_append]; omega
  · exact hi.step hk (by omega) (by omega)
  · rw [hc, co_go (by omega) (by omega) d2 (by omega)]
 refine W_seq_exit (p32 _ _ _ (x1 _ _ (.done (W_r (R_mv t4 (R_len_ms rfl h11 (by first | rfl | simp) (R_fld_mp (o' := 0) t1 h1 oB rfl ?_)))))))
 refine R_load_mp (v := (V.sl (List.map cN (t.nd)))) rfl h1 (lB oB rfl rfl) (R_len rfl (R_eql rfl rfl (R_mv (@rfl V (V.bool (decide (((P.1.length : Nat) : Int) = ((t.nd.length : Nat) : Int))))) (R_e (W_ret ?_)))))
 refine Ret_1 (@rfl V (V.bool (decide (((P.1.length : Nat) : Int) = ((t.nd.length : Nat) : Int))))) (fz_bool ?_)
 · rw [coB_some (by rw [hc]; exact co_end (by omega) (by omega))]; exact decide_eq_decide.2 (by omega)
end Go.Proofs.Ytmnjchcoigbngaa
namespace Go.Proofs.Ytmnjchcoigbngaa
open Go Go.Proofs
theorem dvalid_pure (t : Dt) (hb : Bd t) : PureC Try.prog 10 [(V.agg [(V.sl (List.map cN (t.nd)))])] (iV (dvE t)) := by
 refine pW Try.func10 s10_ok fun hB => ?_
 unfold s10
 dsimp only
 refine W_r (R_box (i := 1) (n := 0) (m := 1) (cs := [(V.sl (List.map cN (t.nd)))]) rfl (congrArg Blk.ver rfl) rfl rfl rfl (R_mv (@rfl V (iV (0 : Int))) (R_e (W_seq_blockg fun Q1 n1 x1 y1 z1 => (W_r (R_fld_mp (o' := 0) rfl rfl oB rfl (R_load_mp (v := (V.sl (List.map cN (t.nd)))) rfl rfl (lB oB rfl rfl) ?_)))))))
 refine R_len rfl (R_eql rfl rfl (R_mv (@rfl V (V.bool (decide (((t.nd.length : Nat) : Int) = (0 : Int))))) (R_e ?_)))
 refine W_if rfl (fun c2 => ?_) fun c2 => ?_
 ·
  refine W_r (R_mv (@rfl V (iV (19 : Int))) (R_e (W_ret (y1 _ _ ?_))))
  refine Ret_1 (@rfl V (iV (19 : Int))) (fz_int ?_)
  · rw [dvE, if_pos (by omega)]
 refine W_r (R_fld_mp (o' := 0) rfl rfl oB rfl (R_load_mp (v := (V.sl (List.map cN (t.nd)))) rfl rfl (lB oB rfl rfl) (R_len rfl (R_gtr rfl rfl (R_mv (@rfl V (V.bool (decide ((4096 : Int) < ((t.nd.length : Nat) : Int))))) (R_e ?_))))))
 refine W_if rfl (fun c3 => ?_) fun c3 => ?_
 ·
  refine W_r (R_mv (@rfl V (iV (11 : Int))) (R_e (W_ret (y1 _ _ ?_))))
  refine Ret_1 (@rfl V (iV (11 : Int))) (fz_int ?_)
  · rw [dvE, if_neg (by omega), if_pos (by omega)]
 refine W_skip (n1 _ _ (.done (W_seq_seq (W_r (R_fld_mp (o' := 0) rfl rfl oB rfl (R_load_mp (v := (V.sl (List.map cN (t.nd)))) rfl rfl (lB oB rfl rfl) (R_len rfl ?_)))))))
 refine R_mv (@rfl V (iV (0 : Int))) (R_e (W_seq_blockg fun Q4 n4 x4 y4 z4 => ?_))
 refine W_loop (fun mm T H => ∃ (k : Nat) (v4 : Nat), mm = t.nd.length - k ∧ T 1 = (V.mp 1 1 0 0) ∧ T 18 = (V.sl (List.map cN (t.nd))) ∧ T 19 = (iV ((t.nd.length : Nat) : Int)) ∧ T 20 = (iV ((k : Nat) : Int)) ∧ H 1 = (bk 1 24 1 [[(V.sl (List.map cN (t.nd)))]]) ∧ (H 4).ver = v4 ∧ (k ≤ t.nd.length) ∧ (0 < t.nd.length) ∧ (t.nd.length ≤ 4096) ∧ (∀ j, j < k → ndE (nth t.nd j) t.nd.length = 0) ∧ (fe (fun k => ndE (nth t.nd k) t.nd.length) 0 t.nd.length = fe (fun k => ndE (nth t.nd k) t.nd.length) k (t.nd.length - k))) ?_ ?_
 ·
  refine ⟨_, 0, 0, rfl, rfl, rfl, rfl, (Eq.trans (@rfl V (iV (0 : Int))) rfl), rfl, (congrArg Blk.ver rfl), ?_, ?_, ?_, ?_, ?_⟩
  · omega
  · omega
  · omega
  · intro j hj; omega
  · rfl
 intro mm T H ⟨k, v4, hmm, t1, t18, t19, t20, h1, h4, hk, g0, g1, hp, hc⟩ Q5 p15 p25 p35
 unfold b10_0
 refine W_r (R_lss t20 t19 (R_e ?_))
 refine W_seq_if rfl (fun c6 => ?_) fun c6 => ?_
 ·
  have r1 := hb.sf k (by omega)
  have r2 := hb.ou k (by omega)
  have r3 := hb.kd k (by omega)
  refine W_seq_skip (W_seq_blockg fun Q7 n7 x7 y7 z7 => (W_r (R_idx (i := k) t18 t20 (by omega) rfl (R_load_pp (v := (V.agg (cN (((nth (t.nd) (k))))))) rfl (by first | rfl | simp [ldV]) (R_alloc (i := 4) (n := v4) (m := 5) rfl h4 rfl (R_store (vs := [(V.bool (((nth (t.nd) (k))).lf)), (ints (((nth (t.nd) (k))).ac)), (ints (((nth (t.nd) (k))).sf)), (intss (((nth (t.nd) (k))).ou)), (ints (((nth (t.nd) (k))).kd))]) (B' := (bk (v4 + 1) 41 5 [(cN (((nth (t.nd) (k)))))])) rfl rfl rfl rfl (sB oB rfl rfl rfl rfl rfl) (R_e ?_)))))))
  refine W_r (R_mv (@rfl V (iV (0 : Int))) (R_e (W_seq_seq (W_r (R_fld_mp (o' := 0) rfl rfl oB rfl (R_load_mp (v := (V.bool (((nth (t.nd) (k))).lf))) rfl rfl (lB oB rfl rfl) (R_e ?_)))))))
  refine W_seq_ifb rfl (fun c8 => ?_) (fun c8 => ?_)
  ·
   have d0 : (nth t.nd k).lf = true := c8
   have e0 : ndE (nth t.nd k) t.nd.length = lfE (nth t.nd k) := by rw [ndE, if_pos d0]
   refine W_r (R_load_mp (v := (V.agg (cN (((nth (t.nd) (k))))))) rfl rfl (lB oB rfl rfl) (R_callc (evcons rfl evnil) (leaf_pure (((nth (t.nd) (k)))) (by first | omega | assumption) (by first | omega | assumption) (by first | omega | assumption)) (R_mv (@rfl V (iV (lfE (((nth (t.nd) (k))))))) (R_e (W_r (R_mv (@rfl V (iV (lfE (((nth (t.nd) (k))))))) (R_neq rfl rfl ?_)))))))
   refine R_e ?_
   refine W_if rfl (fun c9 => ?_) fun c9 => ?_
   ·
    have d1 : ndE (nth t.nd k) t.nd.length ≠ 0 := by rw [e0]; exact c9
    refine W_r (R_mv (@rfl V (iV (lfE (((nth (t.nd) (k))))))) (R_mv (@rfl V (iV (lfE (((nth (t.nd) (k))))))) (R_e (W_ret (y7 _ _ (p25 _ _ (y4 _ _ ?_)))))))
    refine Ret_1 (@rfl V (iV (lfE (((nth (t.nd) (k))))))) (fz_int ?_)
    · have e : fe (fun k => ndE (nth t.nd k) t.nd.length) 0 t.nd.length = ndE (nth t.nd k) t.nd.length := by rw [hc]; exact fe_hit (e := fun k => ndE (nth t.nd k) t.nd.length) d1 (by omega)
      rw [dvE, if_neg (by omega), if_neg (by omega), if_pos (by rw [e]; exact d1), e, e0]
   have d1 : ndE (nth t.nd k) t.nd.length = 0 := by rw [e0]; omega
   refine W_skip (n7 _ _ (.done (W_t (R_addN t20 (@rfl V (iV ((1 : Nat) : Int))) (by omega) (R_mv (@rfl V (iV ((k + 1 : Nat) : Int))) (R_e ?_))))))
   refine p15 _ _ _ ?_ ⟨(k + 1), (v4 + 1), rfl, t1, t18, t19, (Eq.trans (@rfl V (iV ((k + 1 : Nat) : Int))) (by first | rfl | simp)), h1, (congrArg Blk.ver rfl), ?_, ?_, ?_, ?_, ?_⟩
   · omega
   · omega
   · omega
   · omega
   · intro i hi
     by_cases e : i = k
     · subst e; exact d1
     · exact hp i (by omega)
   · rw [hc, fe_skip (e := fun k => ndE (nth t.nd k) t.nd.length) (by exact d1) (by omega)]
  have d0 : (nth t.nd k).lf = false := by simpa using c8
  have e0 : ndE (nth t.nd k) t.nd.length = inE2 (nth t.nd k) t.nd.length := by rw [ndE, if_neg (by simp [d0])]
  refine W_r (R_load_mp (v := (V.agg (cN (((nth (t.nd) (k))))))) rfl rfl (lB oB rfl rfl) (R_fld_mp (o' := 0) t1 h1 oB rfl (R_load_mp (v := (V.sl (List.map cN (t.nd)))) rfl h1 (lB oB rfl rfl) (R_len rfl (R_callc (evcons rfl (evcons rfl evnil)) (inner_pure (((nth (t.nd) (k)))) t.nd.length (by first | omega | assumption)) (R_mv (@rfl V (iV (inE2 (((nth (t.nd) (k)))) t.nd.length))) (R_e ?_)))))))
  refine W_r (R_mv (@rfl V (iV (inE2 (((nth (t.nd) (k)))) t.nd.length))) (R_neq rfl rfl (R_e ?_)))
  refine W_if rfl (fun c10 => ?_) fun c10 => ?_
  ·
   have d1 : ndE (nth t.nd k) t.nd.length ≠ 0 := by rw [e0]; exact c10
   refine W_r (R_mv (@rfl V (iV (inE2 (((nth (t.nd) (k)))) t.nd.length))) (R_mv (@rfl V (iV (inE2 (((nth (t.nd) (k)))) t.nd.length))) (R_e (W_ret (y7 _ _ (p25 _ _ (y4 _ _ ?_)))))))
   refine Ret_1 (@rfl V (iV (inE2 (((nth (t.nd) (k)))) t.nd.length))) (fz_int ?_)
   · have e : fe (fun k => ndE (nth t.nd k) t.nd.length) 0 t.nd.length = ndE (nth t.nd k) t.nd.length := by rw [hc]; exact fe_hit (e := fun k => ndE (nth t.nd k) t.nd.length) d1 (by omega)
     rw [dvE, if_neg (by omega), if_neg (by omega), if_pos (by rw [e]; exact d1), e, e0]
  have d1 : ndE (nth t.nd k) t.nd.length = 0 := by rw [e0]; omega
  refine W_skip (n7 _ _ (.done (W_t (R_addN t20 (@rfl V (iV ((1 : Nat) : Int))) (by omega) (R_mv (@rfl V (iV ((k + 1 : Nat) : Int))) (R_e ?_))))))
  refine p15 _ _ _ ?_ ⟨(k + 1), (v4 + 1), rfl, t1, t18, t19, (Eq.trans (@rfl V (iV ((k + 1 : Nat) : Int))) (by first | rfl | simp)), h1, (congrArg Blk.ver rfl), ?_, ?_, ?_, ?_, ?_⟩
  · omega
  · omega
  · omega
  · omega
  · intro i hi
    by_cases e : i = k
    · subst e; exact d1
    · exact hp i (by omega)
  · rw [hc, fe_skip (e := fun k => ndE (nth t.nd k) t.nd.length) (by exact d1) (by omega)]
 have hall : ∀ j, j < t.nd.length → ndE (nth t.nd j) t.nd.length = 0 := fun j hj => hp j (by omega)
 have hki : KI t := nds_ki g0 hall
 have hz : fe (fun k => ndE (nth t.nd k) t.nd.length) 0 t.nd.length = 0 := by rw [hc, fe_end (by omega)]
 have haw : ∀ w ∈ acL t.nd, w.length ≤ 1048576 := ac_len hb
 have hal := acL_len t.nd
 refine W_seq_exit (p35 _ _ _ (x4 _ _ (.done (W_seq_seq (W_r (R_load_mp (v := (V.agg [(V.sl (List.map cN (t.nd)))])) t1 h1 (lB oB rfl rfl) (R_callc (evcons rfl evnil) (connected_pure t hki hb) ?_)))))))
 refine R_notb rfl (R_e ?_)
 refine W_seq_ifb rfl (fun c11 => ?_) (fun c11 => ?_)
 ·
  have d3 : whB t = false := by rw [← co_wh hki]; simpa using c11
  refine W_seq_seq (W_r (R_mv (@rfl V (iV (1 : Int))) (R_e (W_seq_ret ?_))))
  refine Ret_1 (@rfl V (iV (1 : Int))) (fz_int ?_)
  · rw [dvE, if_neg (by omega), if_neg (by omega), if_neg (by rw [hz]; simp), if_pos d3]
 have d3 : whB t = true := by rw [← co_wh hki]; simpa using c11
 refine W_seq_skip (W_seq_seq (W_r (R_load_mp (v := (V.agg [(V.sl (List.map cN (t.nd)))])) t1 h1 (lB oB rfl rfl) (R_callc (evcons rfl evnil) (access_pure t hb) (R_mv (@rfl V (intss (acL t.nd))) (R_e (W_seq_seq ?_)))))))
 refine W_r (R_mv (@rfl V (intss (acL t.nd))) (R_callc (evcons rfl evnil) (sorted_pure (acL t.nd) (by first | omega | assumption) haw) (R_len rfl (R_mv (@rfl V (intss (acL t.nd))) (R_len rfl (R_neq rfl rfl (R_e ?_)))))))
 refine W_seq_if rfl (fun c12 => ?_) fun c12 => ?_
 ·
  refine W_seq_seq (W_r (R_mv (@rfl V (iV (7 : Int))) (R_e (W_seq_ret ?_))))
  refine Ret_1 (@rfl V (iV (7 : Int))) (fz_int ?_)
  · rw [dvE, if_neg (by omega), if_neg (by omega), if_neg (by rw [hz]; simp), if_neg (by simp [d3]), if_pos (by omega)]
 refine W_seq_skip (W_r (R_mv (@rfl V (iV (0 : Int))) (R_e (W_ret ?_))))
 refine Ret_1 (@rfl V (iV (0 : Int))) (fz_int ?_)
 · rw [dvE, if_neg (by omega), if_neg (by omega), if_neg (by rw [hz]; simp), if_neg (by simp [d3]), if_neg (by omega)]
theorem dleaves_pure (t : Dt) (hb : Bd t) : PureC Try.prog 7 [(V.agg [(V.sl (List.map cN (t.nd)))])] (intss ((if dvE t = 0 then sdW (acL t.nd) else []))) := by
 refine pW Try.func7 s7_ok fun hB => ?_
 unfold s7
 dsimp only
 have hal := acL_len t.nd
 have hbn := hb.n
 refine W_r (R_box (i := 1) (n := 0) (m := 1) (cs := [(V.sl (List.map cN (t.nd)))]) rfl (congrArg Blk.ver rfl) rfl rfl rfl (R_mv (@rfl V V.nilsl) (R_e (W_seq_seq (W_r (R_load_mp (v := (V.agg [(V.sl (List.map cN (t.nd)))])) rfl rfl (lB oB rfl rfl) (R_callc (evcons rfl evnil) (dvalid_pure t hb) ?_)))))))
 refine R_neq rfl rfl (R_e ?_)
 refine W_seq_if rfl (fun c1 => ?_) fun c1 => ?_
 ·
  refine W_seq_seq (W_r (R_mv (@rfl V V.nilsl) (R_e (W_seq_ret ?_))))
  refine Ret_1 (@rfl V V.nilsl) (fz_nil ?_)
  · rw [if_neg (by omega)]
 refine W_seq_skip (W_r (R_load_mp (v := (V.agg [(V.sl (List.map cN (t.nd)))])) rfl rfl (lB oB rfl rfl) (R_callc (evcons rfl evnil) (access_pure t hb) (R_callc (evcons rfl evnil) (sorted_pure (acL t.nd) (by first | omega | assumption) (ac_len hb)) (R_mv (@rfl V (intss (sdW (acL t.nd)))) (R_e (W_ret ?_)))))))
 refine Ret_1 (@rfl V (intss (sdW (acL t.nd)))) (fz_sl ?_ (fun _ => by simp))
 · rw [if_pos (by omega)]
theorem dnode_pure (t : Dt) (n : Int) (b : Bool) : PureC Try.prog 27 [(V.agg [(V.sl (List.map cN (t.nd)))]), (iV (n)), (V.bool b)] (iV (noE t n b)) := by
 refine pW Try.func27 s27_ok fun hB => ?_
 unfold s27
 dsimp only
 refine W_r (R_box (i := 3) (n := 0) (m := 1) (cs := [(V.sl (List.map cN (t.nd)))]) rfl (congrArg Blk.ver rfl) rfl rfl rfl (R_mv (@rfl V (iV (0 : Int))) (R_e (W_seq_blockg fun Q1 n1 x1 y1 z1 => (W_r (R_mv (@rfl V (iV (n))) (R_lss rfl rfl ?_)))))))
 refine R_mv (@rfl V (V.bool (decide ((n) < (0 : Int))))) ?_
 refine Ops_seg 6 (fun T H => T 1 = (iV (n)) ∧ T 2 = (V.bool b) ∧ T 3 = (V.mp 3 1 0 0) ∧ T 16 = (V.bool (decide (((n) < (0 : Int)) ∨ (((t.nd.length : Nat) : Int) ≤ (n))))) ∧ H 3 = (bk 1 24 1 [[(V.sl (List.map cN (t.nd)))]]) ∧ True) ?_ ?_
 ·
  by_cases g2 : (n) < (0 : Int)
  ·
   refine G_n (edT g2 rfl) (G_n (edT g2 rfl) (G_n (edT g2 rfl) (G_n (edT g2 rfl) (G_n (edT g2 rfl) (R_pickT (edT g2 rfl) rfl ?_)))))
   exact ⟨rfl, rfl, rfl, (dec_orT g2), rfl, trivial⟩
  ·
   refine G_yes (edF g2 rfl) (R_mv (@rfl V (iV (n))) (G_yes (edF g2 rfl) (R_fld_mp (o' := 0) rfl rfl oB rfl (G_yes (edF g2 rfl) (R_load_mp (v := (V.sl (List.map cN (t.nd)))) rfl rfl (lB oB rfl rfl) (G_yes (edF g2 rfl) (R_len rfl ?_)))))))
   refine G_yes (edF g2 rfl) (R_geq rfl rfl (R_pickF (edF g2 rfl) rfl ?_))
   exact ⟨rfl, rfl, rfl, (dec_orF g2), rfl, trivial⟩
 intro T H ⟨t1, t2, t3, t16, h3, _⟩
 refine R_mv t16 (R_e ?_)
 refine W_if rfl (fun c3 => ?_) fun c3 => ?_
 ·
  refine W_r (R_mv (@rfl V (iV (2 : Int))) (R_e (W_ret (y1 _ _ ?_))))
  refine Ret_1 (@rfl V (iV (2 : Int))) (fz_int ?_)
  · rw [noE, if_pos (by omega)]
 refine W_r (R_fld_mp (o' := 0) t3 h3 oB rfl (R_load_mp (v := (V.sl (List.map cN (t.nd)))) rfl h3 (lB oB rfl rfl) (R_mv t1 (R_idxI (i := (n)) (@rfl V (V.sl (List.map cN (t.nd)))) (@rfl V (iV (n))) (by omega) (by omega) rfl (R_fld_pp (cs' := (cN (((nth (t.nd) (n).toNat))))) rfl rfl (R_load_pp (v := (V.bool (((nth (t.nd) (n).toNat)).lf))) rfl (by first | rfl | simp [ldV]) (R_mv t2 ?_)))))))
 refine R_bneq (x := (((nth (t.nd) (n).toNat)).lf)) (y := b) rfl rfl (R_mv (@rfl V (V.bool (((((nth (t.nd) (n).toNat)).lf) != b)))) (R_e ?_))
 refine W_ifb rfl (fun c4 => ?_) (fun c4 => ?_)
 ·
  have d1 : (nth t.nd n.toNat).lf ≠ b := by simpa using c4
  refine W_r (R_mv (@rfl V (iV (10 : Int))) (R_e (W_ret (y1 _ _ ?_))))
  refine Ret_1 (@rfl V (iV (10 : Int))) (fz_int ?_)
  · rw [noE, if_neg (by omega), if_pos d1]
 have d1 : ¬((nth t.nd n.toNat).lf ≠ b) := by simpa using c4
 refine W_skip (n1 _ _ (.done (W_r (R_mv (@rfl V (iV (0 : Int))) (R_e (W_ret ?_))))))
 refine Ret_1 (@rfl V (iV (0 : Int))) (fz_int ?_)
 · rw [noE, if_neg (by omega), if_neg d1]
theorem idxw_pure (p : (List Int) → Bool) (w : List (List Int)) (g : Nat) (caps : List V) (hca : canonL caps = true) (hpu : pureL caps = true) (hq : ∀ k, k < w.length → PureC Try.prog g (ints (nth w k) :: caps) (.bool (p (nth w k)))) : PureC Try.prog 84 [(intss w), (V.fn g [] caps)] (iV (fi (fun j => p (nth w j)) 0 w.length)) := by
 refine pure_of_Wb true 6 Try.func84 s84_ok (by kernel_rfl) (by simp [s84]) (by simp [hpu]) (by simp) fun hB => ?_
 simp only [bnd_map, bnd_int, bnd_bool, bnd_str, bnd_agg, bnd_pp, bnd_nil, bnd_cons, implies_true, and_true, true_and] at hB
 unfold s84
 dsimp only
 refine W_r (R_mv (@rfl V (iV (0 : Int))) (R_e (W_seq_seq (W_r (R_mv (@rfl V (intss w)) (R_len rfl (R_mv (@rfl V (iV (0 : Int))) ?_)))))))
 refine R_e (W_seq_blockg fun Q1 n1 x1 y1 z1 => ?_)
 refine W_loop (fun mm T H => ∃ (k : Nat), mm = w.length - k ∧ T 0 = (intss w) ∧ T 1 = (V.fn g [] caps) ∧ T 7 = (iV ((w.length : Nat) : Int)) ∧ T 8 = (iV ((k : Nat) : Int)) ∧ (k ≤ w.length) ∧ (fi (fun j => p (nth w j)) 0 w.length = fi (fun j => p (nth w j)) k (w.length - k))) ?_ ?_
 ·
  refine ⟨_, 0, rfl, rfl, rfl, rfl, (Eq.trans (@rfl V (iV (0 : Int))) rfl), ?_, ?_⟩
  · omega
  · rfl
 intro mm T H ⟨k, hmm, t0, t1, t7, t8, hk, hc⟩ Q2 p12 p22 p32
 unfold b84_0
 refine W_r (R_lss t8 t7 (R_e ?_))
 refine W_seq_if rfl (fun c3 => ?_) fun c3 => ?_
 ·
  refine W_seq_skip (W_seq_blockg fun Q4 n4 x4 y4 z4 => (W_r (R_mv t8 (R_mv (@rfl V (iV ((k : Nat) : Int))) (R_e (W_r (R_mv t1 ?_)))))))
  refine R_mv t0 (R_mv (@rfl V (iV ((k : Nat) : Int))) (R_idx (i := k) (@rfl V (intss w)) (@rfl V (iV ((k : Nat) : Int))) (by omega) rfl (R_load_pp (v := (ints ((nth (w) (k))))) rfl (by first | rfl | simp [ldV]) (R_callv (@rfl V (V.fn g [] caps)) (evcons (@rfl V (ints ((nth (w) (k))))) evnil) (hq k (by omega)) (fzv_mapcanon _ _ (by simp [hca])) (by simp [hpu]) (Or.inl (by simp [hpu])) (R_e ?_)))))
  refine W_ifb rfl (fun c5 => ?_) (fun c5 => ?_)
  ·
   have d1 := c5
   refine W_r (R_mv (@rfl V (iV ((k : Nat) : Int))) (R_mv (@rfl V (iV ((k : Nat) : Int))) (R_e (W_ret (y4 _ _ (p22 _ _ (y1 _ _ ?_)))))))
   refine Ret_1 (@rfl V (iV ((k : Nat) : Int))) (fz_int ?_)
   · rw [hc, fi_hit (by exact d1) (by omega)]
  have d1 := c5
  refine W_skip (n4 _ _ (.done (W_t (R_addN t8 (@rfl V (iV ((1 : Nat) : Int))) (by omega) (R_mv (@rfl V (iV ((k + 1 : Nat) : Int))) (R_e ?_))))))
  refine p12 _ _ _ ?_ ⟨(k + 1), rfl, t0, t1, t7, (Eq.trans (@rfl V (iV ((k + 1 : Nat) : Int))) (by first | rfl | simp)), ?_, ?_⟩
  · omega
  · omega
  · rw [hc, fi_skip (by exact d1) (by omega)]
 refine W_seq_exit (p32 _ _ _ (x1 _ _ (.done (W_r (R_mv (@rfl V (iV (-1 : Int))) (R_e (W_ret ?_)))))))
 refine Ret_1 (@rfl V (iV (-1 : Int))) (fz_int ?_)
 · rw [hc, fi_end (by omega)]
theorem conw_pure (p : (List Int) → Bool) (w : List (List Int)) (g : Nat) (caps : List V) (hca : canonL caps = true) (hpu : pureL caps = true) (hq : ∀ k, k < w.length → PureC Try.prog g (ints (nth w k) :: caps) (.bool (p (nth w k)))) : PureC Try.prog 75 [(intss w), (V.fn g [] caps)] (V.bool (decide (0 ≤ fi (fun j => p (nth w j)) 0 w.length))) := by
 refine pure_of_Wb true 6 Try.func75 s75_ok (by kernel_rfl) (by simp [s75]) (by simp [hpu]) (by simp) fun hB => ?_
 simp only [bnd_map, bnd_int, bnd_bool, bnd_str, bnd_agg, bnd_pp, bnd_nil, bnd_cons, implies_true, and_true, true_and] at hB
 unfold s75
 dsimp only
 refine W_r (R_mv (@rfl V (V.bool false)) (R_e (W_r (R_mv (@rfl V (intss w)) (R_mv (@rfl V (V.fn g [] caps)) (R_call (evcons (@rfl V (intss w)) (evcons (@rfl V (V.fn g [] caps)) evnil)) (idxw_pure p w g caps hca hpu hq) (fzv_mapcanon _ _ (by simp [hca, hpu, -List.map_take, -List.map_drop, -List.map_append, -List.map_reverse])) (by simp [hca, hpu, -List.map_take, -List.map_drop, -List.map_append, -List.map_reverse]) (Or.inl (by simp [hca, hpu, -List.map_take, -List.map_drop, -List.map_append, -List.map_reverse])) (R_geq rfl rfl ?_)))))))
 refine R_mv (@rfl V (V.bool (decide ((0 : Int) ≤ (fi (fun j => p (nth w j)) 0 w.length))))) (R_e (W_ret ?_))
 refine Ret_1 (@rfl V (V.bool (decide ((0 : Int) ≤ (fi (fun j => p (nth w j)) 0 w.length))))) (fz_bool ?_)
 · first | rfl | omega | simp_all
theorem sequal_pure (a b : List Int) : PureC Try.prog 45 [(ints a), (ints b)] (V.bool (decide (a = b))) := by
 refine pW Try.func45 s45_ok fun hB => ?_
 unfold s45
 dsimp only
 refine W_r (R_mv (@rfl V (V.bool false)) (R_e (W_seq_seq (W_r (R_mv (@rfl V (ints a)) (R_len rfl (R_mv (@rfl V (ints b)) ?_)))))))
 refine R_len rfl (R_neq rfl rfl (R_e ?_))
 refine W_seq_if rfl (fun c1 => ?_) fun c1 => ?_
 ·
  refine W_seq_seq (W_r (R_mv (@rfl V (V.bool false)) (R_e (W_seq_ret ?_))))
  refine Ret_1 (@rfl V (V.bool false)) (fz_bool ?_)
  · exact (decide_eq_false (fun e => by subst e; omega)).symm
 refine W_seq_skip (W_seq_seq (W_r (R_mv (@rfl V (ints a)) (R_len rfl (R_mv (@rfl V (iV (0 : Int))) (R_e (W_seq_blockg fun Q2 n2 x2 y2 z2 => ?_)))))))
 refine W_loop (fun mm T H => ∃ (k : Nat), mm = a.length - k ∧ T 0 = (ints a) ∧ T 1 = (ints b) ∧ T 12 = (iV ((a.length : Nat) : Int)) ∧ T 13 = (iV ((k : Nat) : Int)) ∧ (k ≤ a.length) ∧ (a.length = b.length) ∧ (∀ j, j < k → nth a j = nth b j)) ?_ ?_
 ·
  refine ⟨_, 0, rfl, rfl, rfl, rfl, (Eq.trans (@rfl V (iV (0 : Int))) rfl), ?_, ?_, ?_⟩
  · omega
  · omega
  · intro j hj; omega
 intro mm T H ⟨k, hmm, t0, t1, t12, t13, hk, hl, hc⟩ Q3 p13 p23 p33
 unfold b45_0
 refine W_r (R_lss t13 t12 (R_e ?_))
 refine W_seq_if rfl (fun c4 => ?_) fun c4 => ?_
 ·
  refine W_seq_skip (W_seq_blockg fun Q5 n5 x5 y5 z5 => (W_r (R_mv t13 (R_mv (@rfl V (iV ((k : Nat) : Int))) (R_e (W_r (R_mv t0 ?_)))))))
  refine R_mv (@rfl V (iV ((k : Nat) : Int))) (R_idx (i := k) (@rfl V (ints a)) (@rfl V (iV ((k : Nat) : Int))) (by omega) rfl (R_load_pp (v := (iV ((nth (a) (k))))) rfl (by first | rfl | simp [ldV]) (R_mv t1 (R_mv (@rfl V (iV ((k : Nat) : Int))) (R_idx (i := k) (@rfl V (ints b)) (@rfl V (iV ((k : Nat) : Int))) (by omega) rfl (R_load_pp (v := (iV ((nth (b) (k))))) rfl (by first | rfl | simp [ldV]) (R_neq rfl rfl ?_)))))))
  refine R_e ?_
  refine W_if rfl (fun c6 => ?_) fun c6 => ?_
  ·
   refine W_r (R_mv (@rfl V (V.bool false)) (R_e (W_ret (y5 _ _ (p23 _ _ (y2 _ _ ?_))))))
   refine Ret_1 (@rfl V (V.bool false)) (fz_bool ?_)
   · exact (decide_eq_false (fun e => by subst e; omega)).symm
  refine W_skip (n5 _ _ (.done (W_t (R_addN t13 (@rfl V (iV ((1 : Nat) : Int))) (by omega) (R_mv (@rfl V (iV ((k + 1 : Nat) : Int))) (R_e ?_))))))
  refine p13 _ _ _ ?_ ⟨(k + 1), rfl, t0, t1, t12, (Eq.trans (@rfl V (iV ((k + 1 : Nat) : Int))) (by first | rfl | simp)), ?_, ?_, ?_⟩
  · omega
  · omega
  · omega
  · intro j hj
    by_cases e : j = k
    · subst e; omega
    · exact hc j (by omega)
 refine W_seq_exit (p33 _ _ _ (x2 _ _ (.done (W_r (R_mv (@rfl V (V.bool true)) (R_e (W_ret ?_)))))))
 refine Ret_1 (@rfl V (V.bool true)) (fz_bool ?_)
 · exact (decide_eq_true (nth_ext hl fun j hj => hc j (by omega))).symm
theorem has1_pure (v w : List Int) : PureC Try.prog 76 [(ints v), (V.pp [(ints w)])] (V.bool (decide (v = w))) := by
 refine pW Try.func76 s76_ok fun hB => ?_
 unfold s76
 dsimp only
 refine W_r (R_mv (@rfl V (V.bool false)) (R_e (W_r (R_mv (@rfl V (ints v)) (R_load_pp (v := (ints w)) rfl (by first | rfl | simp [ldV]) (R_callc (evcons rfl (evcons rfl evnil)) (sequal_pure v w) (R_mv (@rfl V (V.bool (decide (v = w)))) ?_)))))))
 refine R_e (W_ret ?_)
 refine Ret_1 (@rfl V (V.bool (decide (v = w)))) (fz_canon (by simp) rfl)
theorem has_pure (l : List (List Int)) (w : List Int) : PureC Try.prog 52 [(intss l), (ints w)] (V.bool (decide (w ∈ l))) := by
 refine pW Try.func52 s52_ok fun hB => ?_
 unfold s52
 dsimp only
 refine W_r (R_box (i := 3) (n := 0) (m := 1) (cs := [(ints w)]) rfl (congrArg Blk.ver rfl) rfl rfl rfl (R_mv (@rfl V (V.bool false)) (R_e (W_r (R_mv (@rfl V (intss l)) (R_mkf (evcons rfl evnil) (R_call (evcons (@rfl V (intss l)) (evcons (@rfl V (V.fn 76 [] [(V.mp 3 1 0 0)])) evnil)) (conw_pure (fun v => decide (v = w)) l 76 ([(V.pp [(ints w)])]) (by simp) (by simp) (fun k _ => has1_pure (nth l k) w)) (mcons (fzv_canon 6 _ (by simp [-List.map_take, -List.map_drop, -List.map_append, -List.map_reverse])) (mcons (by simp [fzv, Blk.own]) rfl)) (by simp [-List.map_take, -List.map_drop, -List.map_append, -List.map_reverse]) (Or.inr rfl) ?_)))))))
 refine R_mv (@rfl V (V.bool (decide (0 ≤ fi (fun j => (fun v => decide (v = w)) (nth l j)) 0 l.length)))) (R_e (W_ret ?_))
 refine Ret_1 (@rfl V (V.bool (decide (0 ≤ fi (fun j => (fun v => decide (v = w)) (nth l j)) 0 l.length)))) (fz_bool ?_)
 · exact decide_eq_decide.2 fi_mem
theorem dfresh_pure (t : Dt) (w : List Int) (hb : Bd t) : PureC Try.prog 30 [(V.agg [(V.sl (List.map cN (t.nd)))]), (ints w)] (iV (fsE t w)) := by
 refine pW Try.func30 s30_ok fun hB => ?_
 unfold s30
 dsimp only
 refine W_r (R_box (i := 2) (n := 0) (m := 1) (cs := [(V.sl (List.map cN (t.nd)))]) rfl (congrArg Blk.ver rfl) rfl rfl rfl (R_mv (@rfl V (iV (0 : Int))) (R_e (W_seq_seq (W_r (R_mv (@rfl V (ints w)) (R_callc (evcons rfl (evcons rfl evnil)) (check_pure w ((64 : Int))) ?_)))))))
 refine R_mv (@rfl V (iV (wchk w ((64 : Int))))) (R_e (W_seq_seq (W_r (R_mv (@rfl V (iV (wchk w ((64 : Int))))) (R_neq rfl rfl (R_e ?_))))))
 refine W_seq_if rfl (fun c1 => ?_) fun c1 => ?_
 ·
  refine W_seq_seq (W_r (R_mv (@rfl V (iV (wchk w ((64 : Int))))) (R_mv (@rfl V (iV (wchk w ((64 : Int))))) (R_e (W_seq_ret ?_)))))
  refine Ret_1 (@rfl V (iV (wchk w ((64 : Int))))) (fz_int ?_)
  · rw [fsE, if_pos (by omega)]
 refine W_seq_skip (W_seq_seq (W_r (R_load_mp (v := (V.agg [(V.sl (List.map cN (t.nd)))])) rfl rfl (lB oB rfl rfl) (R_callc (evcons rfl evnil) (access_pure t hb) (R_mv (@rfl V (ints w)) (R_callc (evcons rfl (evcons rfl evnil)) (has_pure (acL t.nd) w) (R_e ?_)))))))
 refine W_seq_if rfl (fun c2 => ?_) fun c2 => ?_
 ·
  have d1 : w ∈ acL t.nd := by simpa using c2
  refine W_seq_seq (W_r (R_mv (@rfl V (iV (7 : Int))) (R_e (W_seq_ret ?_))))
  refine Ret_1 (@rfl V (iV (7 : Int))) (fz_int ?_)
  · rw [fsE, if_neg (by omega), if_pos d1]
 have d1 : ¬(w ∈ acL t.nd) := by simpa using c2
 refine W_seq_skip (W_r (R_mv (@rfl V (iV (0 : Int))) (R_e (W_ret ?_))))
 refine Ret_1 (@rfl V (iV (0 : Int))) (fz_int ?_)
 · rw [fsE, if_neg (by omega), if_neg d1]
theorem dsplits_pure (t : Dt) (n : Int) (sf outs w other : List Int) (hb : Bd t) : PureC Try.prog 21 [(V.agg [(V.sl (List.map cN (t.nd)))]), (iV (n)), (ints sf), (ints outs), (ints w), (ints other)] (iV (spsE t n sf outs w other)) := by
 refine pW Try.func21 s21_ok fun hB => ?_
 unfold s21
 dsimp only
 refine W_r (R_box (i := 6) (n := 0) (m := 1) (cs := [(V.sl (List.map cN (t.nd)))]) rfl (congrArg Blk.ver rfl) rfl rfl rfl (R_mv (@rfl V (iV (0 : Int))) (R_e (W_seq_seq (W_r (R_load_mp (v := (V.agg [(V.sl (List.map cN (t.nd)))])) rfl rfl (lB oB rfl rfl) (R_mv (@rfl V (iV (n))) ?_)))))))
 refine R_callc (evcons rfl (evcons rfl (evcons rfl evnil))) (dnode_pure t ((n)) true) (R_mv (@rfl V (iV (noE t ((n)) true))) (R_e (W_seq_seq (W_r (R_mv (@rfl V (iV (noE t ((n)) true))) (R_neq rfl rfl (R_e ?_)))))))
 refine W_seq_if rfl (fun c1 => ?_) fun c1 => ?_
 ·
  refine W_seq_seq (W_r (R_mv (@rfl V (iV (noE t ((n)) true))) (R_mv (@rfl V (iV (noE t ((n)) true))) (R_e (W_seq_ret ?_)))))
  refine Ret_1 (@rfl V (iV (noE t ((n)) true))) (fz_int ?_)
  · rw [spsE, if_pos (by omega)]
 refine W_seq_skip (W_seq_seq (W_r (R_mv (@rfl V (ints sf)) (R_len rfl (R_eql rfl rfl (R_e ?_))))))
 refine W_seq_if rfl (fun c2 => ?_) fun c2 => ?_
 ·
  refine W_seq_seq (W_r (R_mv (@rfl V (iV (19 : Int))) (R_e (W_seq_ret ?_))))
  refine Ret_1 (@rfl V (iV (19 : Int))) (fz_int ?_)
  · rw [spsE, if_neg (by omega), if_pos (by omega)]
 refine W_seq_skip (W_seq_seq (W_r (R_mv (@rfl V (ints sf)) (R_callc (evcons rfl (evcons rfl evnil)) (check_pure sf ((64 : Int))) (R_mv (@rfl V (iV (wchk sf ((64 : Int))))) (R_e (W_seq_seq ?_)))))))
 refine W_r (R_mv (@rfl V (iV (wchk sf ((64 : Int))))) (R_neq rfl rfl (R_e ?_)))
 refine W_seq_if rfl (fun c3 => ?_) fun c3 => ?_
 ·
  refine W_seq_seq (W_r (R_mv (@rfl V (iV (wchk sf ((64 : Int))))) (R_mv (@rfl V (iV (wchk sf ((64 : Int))))) (R_e (W_seq_ret ?_)))))
  refine Ret_1 (@rfl V (iV (wchk sf ((64 : Int))))) (fz_int ?_)
  · rw [spsE, if_neg (by omega), if_neg (by omega), if_pos (by omega)]
 refine W_seq_skip (W_seq_seq (W_r (R_mv (@rfl V (ints outs)) (R_mv (@rfl V (ints sf)) (R_callc (evcons rfl (evcons rfl evnil)) (values_pure outs sf) (R_mv (@rfl V (iV (vlE outs sf))) (R_e ?_)))))))
 refine W_seq_seq (W_r (R_mv (@rfl V (iV (vlE outs sf))) (R_neq rfl rfl (R_e ?_))))
 refine W_seq_if rfl (fun c4 => ?_) fun c4 => ?_
 ·
  refine W_seq_seq (W_r (R_mv (@rfl V (iV (vlE outs sf))) (R_mv (@rfl V (iV (vlE outs sf))) (R_e (W_seq_ret ?_)))))
  refine Ret_1 (@rfl V (iV (vlE outs sf))) (fz_int ?_)
  · rw [spsE, if_neg (by omega), if_neg (by omega), if_neg (by omega), if_pos (by omega)]
 refine W_seq_skip (W_seq_seq (W_r (R_load_mp (v := (V.agg [(V.sl (List.map cN (t.nd)))])) rfl rfl (lB oB rfl rfl) (R_mv (@rfl V (ints w)) (R_callc (evcons rfl (evcons rfl evnil)) (dfresh_pure t w hb) (R_mv (@rfl V (iV (fsE t w))) (R_e ?_)))))))
 refine W_seq_seq (W_r (R_mv (@rfl V (iV (fsE t w))) (R_neq rfl rfl (R_e ?_))))
 refine W_seq_if rfl (fun c5 => ?_) fun c5 => ?_
 ·
  refine W_seq_seq (W_r (R_mv (@rfl V (iV (fsE t w))) (R_mv (@rfl V (iV (fsE t w))) (R_e (W_seq_ret ?_)))))
  refine Ret_1 (@rfl V (iV (fsE t w))) (fz_int ?_)
  · rw [spsE, if_neg (by omega), if_neg (by omega), if_neg (by omega), if_neg (by omega), if_pos (by omega)]
 refine W_seq_skip (W_seq_seq (W_r (R_mv (@rfl V (ints other)) (R_mv (@rfl V (ints sf)) (R_callc (evcons rfl (evcons rfl evnil)) (values_pure other sf) (R_mv (@rfl V (iV (vlE other sf))) (R_e ?_)))))))
 refine W_seq_seq (W_r (R_mv (@rfl V (iV (vlE other sf))) (R_neq rfl rfl (R_e ?_))))
 refine W_seq_if rfl (fun c6 => ?_) fun c6 => ?_
 ·
  refine W_seq_seq (W_r (R_mv (@rfl V (iV (vlE other sf))) (R_mv (@rfl V (iV (vlE other sf))) (R_e (W_seq_ret ?_)))))
  refine Ret_1 (@rfl V (iV (vlE other sf))) (fz_int ?_)
  · rw [spsE, if_neg (by omega), if_neg (by omega), if_neg (by omega), if_neg (by omega), if_neg (by omega), if_pos (by omega)]
 refine W_seq_skip (W_seq_blockg fun Q7 n7 x7 y7 z7 => (W_r (R_mv (@rfl V (ints outs)) (R_mv (@rfl V (ints other)) (R_callc (evcons rfl (evcons rfl evnil)) (sequal_pure outs other) (R_mv (@rfl V (V.bool (decide (outs = other)))) (R_e ?_)))))))
 refine W_if rfl (fun c8 => ?_) fun c8 => ?_
 ·
  have d6 : outs = other := by simpa using c8
  refine W_r (R_mv (@rfl V (iV (15 : Int))) (R_e (W_ret (y7 _ _ ?_))))
  refine Ret_1 (@rfl V (iV (15 : Int))) (fz_int ?_)
  · rw [spsE, if_neg (by omega), if_neg (by omega), if_neg (by omega), if_neg (by omega), if_neg (by omega), if_neg (by omega), if_pos d6]
 have d6 : ¬(outs = other) := by simpa using c8
 refine W_seq_regc (fun T H => T 54 = (V.bool (decide ((4094 : Int) < ((t.nd.length : Nat) : Int)))) ∧ H 6 = (bk 1 24 1 [[(V.sl (List.map cN (t.nd)))]]) ∧ True) ?_ ?_
 ·
  refine R_fld_mp (o' := 0) rfl rfl oB rfl (R_load_mp (v := (V.sl (List.map cN (t.nd)))) rfl rfl (lB oB rfl rfl) (R_len rfl (R_gtr rfl rfl (R_mv (@rfl V (V.bool (decide ((4094 : Int) < ((t.nd.length : Nat) : Int))))) ?_))))
  exact R_nil ⟨rfl, rfl, trivial⟩
 intro T H ⟨t54, h6, _⟩
 refine W_if t54 (fun c9 => ?_) fun c9 => ?_
 ·
  refine W_r (R_mv (@rfl V (iV (11 : Int))) (R_e (W_ret (y7 _ _ ?_))))
  refine Ret_1 (@rfl V (iV (11 : Int))) (fz_int ?_)
  · rw [spsE, if_neg (by omega), if_neg (by omega), if_neg (by omega), if_neg (by omega), if_neg (by omega), if_neg (by omega), if_neg d6, if_pos (by omega)]
 refine W_skip (n7 _ _ (.done (W_r (R_mv (@rfl V (iV (0 : Int))) (R_e (W_ret ?_))))))
 refine Ret_1 (@rfl V (iV (0 : Int))) (fz_int ?_)
 · rw [spsE, if_neg (by omega), if_neg (by omega), if_neg (by omega), if_neg (by omega), if_neg (by omega), if_neg (by omega), if_neg d6, if_neg (by omega)]
end Go.Proofs.Ytmnjchcoigbngaa
namespace Go.Proofs.Ytmnjchcoigbngaa
open Go
theorem cp_cN {x : Nd} {j : Nat} (h : x.ou.length ≤ j) : [V.bool x.lf, ints (cat [x.ac]), ints (cat [x.sf]), intss (x.ou.take j), ints x.kd] = cN x := by
  simp only [cat, List.append_nil]; rw [List.take_of_length_le h]
end Go.Proofs.Ytmnjchcoigbngaa
namespace Go.Proofs.Ytmnjchcoigbngaa
open Go Go.Proofs
attribute [local irreducible] mksV
theorem copied_E (t : Dt) (u1 u2 u5 u12 u28 u58 : Nat) (Hi : Heap) (hb : Bd t) (h201 : (Hi 201).ver = u1) (h202 : (Hi 202).ver = u2) (h205 : (Hi 205).ver = u5) (h212 : (Hi 212).ver = u12) (h228 : (Hi 228).ver = u28) (h258 : (Hi 258).ver = u58 ∧ (Hi 258).live = false) : CallOK Try.prog 22 [(V.agg [(V.sl (List.map cN (t.nd)))])] Hi (V.agg [(V.ms 212 (u12 + 1) 0 (t.nd.length))]) (upd (upd (upd (upd (upd (upd Hi 201 (⟨u1 + 1, false, false, 0, 0, []⟩ : Blk)) 202 (⟨u2 + 1, false, false, 0, 0, []⟩ : Blk)) 205 (⟨u5 + t.nd.length, false, false, 0, 0, []⟩ : Blk)) 228 (⟨u28 + t.nd.length * 1048578, false, false, 0, 0, []⟩ : Blk)) 258 (⟨u58 + 3 * t.nd.length, false, false, 0, 0, []⟩ : Blk)) 212 (bk (u12 + 1) 41 5 (List.map cN (t.nd)))) := by
 refine eW (k0 := 200) Try.func22 s22_ok fun hB => ?_
 have hbn := hb.n
 unfold s22
 dsimp only
 refine W_r (R_box (i := 201) (n := u1) (m := 1) (cs := [(V.sl (List.map cN (t.nd)))]) (by rfl) h201 rfl rfl rfl (R_alloc (i := 202) (n := u2) (m := 1) (by rfl) h202 rfl (R_e (W_r (R_fld_mp (o' := 0) rfl rfl oB rfl (R_load_mp (v := (V.sl (List.map cN (t.nd)))) rfl rfl (lB oB rfl rfl) (R_len rfl ?_)))))))
 refine (R_mks (i := 212) (n := u12) (m := t.nd.length) (q := t.nd.length) (by rfl) h212 (@rfl V (iV ((t.nd.length : Nat) : Int))) (@rfl V (iV ((t.nd.length : Nat) : Int))) (by first | omega | (simp; omega) | (simp; done)) (by first | omega | (simp; omega) | (simp; done)) (by first | omega | (simp; omega) | (simp; done)) ?_)
 refine R_mv (@rfl V (V.ms 212 (u12 + 1) 0 (t.nd.length))) (R_e (W_r (R_mv (@rfl V (V.ms 212 (u12 + 1) 0 (t.nd.length))) (R_fld_mp (o' := 0) rfl rfl oB rfl (R_load_mp (v := (V.sl (List.map cN (t.nd)))) rfl rfl (lB oB rfl rfl) (R_cpyd (l := t.nd) (f := cN) (n := 5) (@rfl V (V.ms 212 (u12 + 1) 0 (t.nd.length))) (@rfl V (V.sl (List.map cN (t.nd)))) (@rfl Blk (bk (u12 + 1) 41 5 (List.replicate (t.nd.length) [(V.bool false), V.nilsl, V.nilsl, V.nilsl, V.nilsl]))) (by simp) (fun _ => ⟨rfl, rfl⟩) (R_e ?_)))))))
 refine W_seq_seq (W_r (R_mv (@rfl V (V.ms 212 (u12 + 1) 0 (t.nd.length))) (R_len_ms rfl (@rfl Blk (bk (u12 + 1) 41 5 (List.map cN (t.nd)))) (by first | rfl | simp) (R_mv (@rfl V (iV (0 : Int))) (R_e (W_seq_blockg fun Q1 n1 x1 y1 z1 => ?_))))))
 refine W_loop (fun mm T H => ∃ (k : Nat) (v205 : Nat) (v228 : Nat) (v258 : Nat), mm = t.nd.length - k ∧ T 2 = (V.mp 202 (u2 + 1) 0 0) ∧ T 3 = (V.ms 212 (u12 + 1) 0 (t.nd.length)) ∧ T 17 = (V.ms 212 (u12 + 1) 0 (t.nd.length)) ∧ T 18 = (iV ((t.nd.length : Nat) : Int)) ∧ T 19 = (iV ((k : Nat) : Int)) ∧ (∀ j, j ∉ [201, 202, 205, 228, 258, 212] → H j = Hi j) ∧ H 201 = (bk (u1 + 1) 24 1 [[(V.sl (List.map cN (t.nd)))]]) ∧ H 202 = (bk (u2 + 1) 24 1 [[V.nilsl]]) ∧ (H 205).ver = v205 ∧ H 212 = (bk (u12 + 1) 41 5 (List.map cN (t.nd))) ∧ (H 228).ver = v228 ∧ ((H 258).ver = v258 ∧ (H 258).live = false) ∧ (k ≤ t.nd.length) ∧ (v205 = u5 + k) ∧ (v228 ≤ u28 + k * 1048578) ∧ (v258 = u58 + 3 * k)) ?_ ?_
 ·
  refine ⟨_, 0, u5, u28, u58, rfl, rfl, rfl, rfl, rfl, (Eq.trans (@rfl V (iV (0 : Int))) rfl), (upd_out (upd_out (upd_out (upd_out (fun _ _ => rfl) (by decide)) (by decide)) (by decide)) (by decide)), rfl, rfl, h205, rfl, h228, h258, ?_, ?_, ?_, ?_⟩
  · omega
  · omega
  · omega
  · omega
 intro mm T H ⟨k, v205, v228, v258, hmm, t2, t3, t17, t18, t19, hF, h201, h202, h205, h212, h228, h258, hk, hv5, hv28, hv7⟩ Q2 p12 p22 p32
 unfold b22_0
 
 refine W_r (R_lss t19 t18 (R_e ?_))
 refine W_seq_if rfl (fun c3 => ?_) fun c3 => ?_
 ·
  have r1 := hb.ac k (by omega)
  have r2 := hb.sf k (by omega)
  have r3 := hb.ou k (by omega)
  have r4 := hb.kd k (by omega)
  have r5 := hb.ol k (by omega)
  refine W_seq_skip (W_seq_blockg fun Q4 n4 x4 y4 z4 => (W_r (R_mv t19 (R_idx_ms0 (i := k) t17 t19 h212 oB rfl (by first | omega | (simp; omega) | (simp; done)) (R_load_mp (v := (V.agg (cN (((nth (t.nd) (k))))))) rfl h212 (ldB_map (by first | omega | (simp; omega) | (simp; done)) (by first | rfl | simp [ldV, V.one])) (R_alloc (i := 205) (n := v205) (m := 5) (by rfl) h205 rfl (R_mv (@rfl V (iV ((k : Nat) : Int))) ?_)))))))
  refine R_store (vs := [(V.bool (((nth (t.nd) (k))).lf)), (ints (((nth (t.nd) (k))).ac)), (ints (((nth (t.nd) (k))).sf)), (intss (((nth (t.nd) (k))).ou)), (ints (((nth (t.nd) (k))).kd))]) (B' := (bk (v205 + 1) 41 5 [(cN (((nth (t.nd) (k)))))])) rfl rfl rfl rfl (sB oB rfl rfl rfl rfl rfl) (R_e (W_r (R_fld_mp (o' := 3) rfl rfl oB rfl (R_load_mp (v := (intss (((nth (t.nd) (k))).ou))) rfl rfl (lB oB rfl rfl) (R_len rfl (R_addN rfl (@rfl V (iV ((1 : Nat) : Int))) (by first | omega | (simp; omega) | (simp; done)) ?_))))))
  refine (R_mks (i := 228) (n := v228) (m := 0) (q := (((((nth (t.nd) (k))).ou).length) + 1)) (by rfl) h228 (@rfl V (iV (0 : Int))) (@rfl V (iV ((((((nth (t.nd) (k))).ou).length) + 1 : Nat) : Int))) (by first | omega | (simp; omega) | (simp; done)) (by first | omega | (simp; omega) | (simp; done)) (by first | omega | (simp; omega) | (simp; done)) ?_)
  refine R_mv (@rfl V (V.ms 228 (v228 + 1) 0 (0))) (R_e (W_seq_seq (W_r (R_fld_mp (o' := 3) rfl rfl oB rfl (R_load_mp (v := (intss (((nth (t.nd) (k))).ou))) rfl rfl (lB oB rfl rfl) (R_len rfl (R_mv (@rfl V (iV (0 : Int))) ?_)))))))
  refine R_e (W_seq_blockg fun Q5 n5 x5 y5 z5 => ?_)
  refine W_loop (fun mm T H => ∃ (j : Nat) (w : Nat), mm = (nth t.nd k).ou.length - j ∧ T 2 = (V.mp 202 (u2 + 1) 0 0) ∧ T 3 = (V.ms 212 (u12 + 1) 0 (t.nd.length)) ∧ T 4 = (iV ((k : Nat) : Int)) ∧ T 5 = (V.mp 205 (v205 + 1) 0 0) ∧ T 6 = (V.ms 228 w 0 (j)) ∧ T 17 = (V.ms 212 (u12 + 1) 0 (t.nd.length)) ∧ T 18 = (iV ((t.nd.length : Nat) : Int)) ∧ T 19 = (iV ((k : Nat) : Int)) ∧ T 30 = (intss (((nth (t.nd) (k))).ou)) ∧ T 31 = (iV (((((nth (t.nd) (k))).ou).length : Nat) : Int)) ∧ T 32 = (iV ((j : Nat) : Int)) ∧ (∀ j, j ∉ [201, 202, 205, 228, 258, 212] → H j = Hi j) ∧ H 201 = (bk (u1 + 1) 24 1 [[(V.sl (List.map cN (t.nd)))]]) ∧ H 202 = (bk (u2 + 1) 24 1 [[V.nilsl]]) ∧ H 205 = (bk (v205 + 1) 41 5 [(cN (((nth (t.nd) (k)))))]) ∧ H 212 = (bk (u12 + 1) 41 5 (List.map cN (t.nd))) ∧ H 228 = (bk w 25 1 (List.map cL ((nth t.nd k).ou.take j))) ∧ ((H 258).ver = v258 ∧ (H 258).live = false) ∧ (j ≤ (nth t.nd k).ou.length) ∧ (w ≤ v228 + 1 + j)) ?_ ?_
  ·
   refine ⟨_, 0, (v228 + 1), rfl, t2, t3, rfl, rfl, (Eq.trans (@rfl V (V.ms 228 (v228 + 1) 0 (0))) (by first | rfl | simp)), t17, t18, t19, rfl, rfl, (Eq.trans (@rfl V (iV (0 : Int))) rfl), (upd_out (upd_out (upd_out hF (by decide)) (by decide)) (by decide)), h201, h202, rfl, h212, (Eq.trans (@rfl Blk (bk (v228 + 1) 25 1 (List.replicate (0) [V.nilsl]))) (by first | rfl | (rw [map_cat1 (show j < (nth t.nd k).ou.length by omega)]; done) | (rw [cp_row (show k < t.nd.length by omega) (show (nth t.nd k).ou.length ≤ j by omega)]; done) | simp)), h258, ?_, ?_⟩
   · omega
   · omega
  intro mm T H ⟨j, w, hmm, t2, t3, t4, t5, t6, t17, t18, t19, t30, t31, t32, hF, h201, h202, h205, h212, h228, h258, hj, hw⟩ Q6 p16 p26 p36
  unfold b22_1
  refine W_r (R_lss t32 t31 (R_e ?_))
  refine W_seq_if rfl (fun c7 => ?_) fun c7 => ?_
  ·
   have r6 := r5 j (by omega)
   refine W_seq_skip (W_seq_blockg fun Q8 n8 x8 y8 z8 => (W_r (R_idx (i := j) t30 t32 (by first | omega | (simp; omega) | (simp; done)) rfl (R_load_pp (v := (ints ((nth (((nth (t.nd) (k))).ou) (j))))) rfl (by first | rfl | simp [ldV]) (R_mv (@rfl V (ints ((nth (((nth (t.nd) (k))).ou) (j))))) (R_e (W_t ?_)))))))
   refine R_mv t6 (R_mv (@rfl V (ints ((nth (((nth (t.nd) (k))).ou) (j))))) (R_bslice (qs := [(0, (ints ((nth (((nth (t.nd) (k))).ou) (j)))))]) (rows := [[(ints ((nth (((nth (t.nd) (k))).ou) (j))))]]) (mcons (congrArg (fun v => (0, v)) rfl) rfl) rfl (R_callc (evcons rfl evnil) (pjoin_pure ([(nth (((nth (t.nd) (k))).ou) (j))]) (by simp only [cat, List.append_nil]; omega)) (R_bslice (qs := [(0, (ints (cat ([(nth (((nth (t.nd) (k))).ou) (j))]))))]) (rows := [[(ints (cat ([(nth (((nth (t.nd) (k))).ou) (j))])))]]) (mcons (congrArg (fun v => (0, v)) rfl) rfl) rfl (R_append1 (l := ((nth t.nd k).ou.take j)) (f := cL) (x := (cat ([(nth (((nth (t.nd) (k))).ou) (j))]))) (@rfl V (V.ms 228 w 0 (j))) h228 (by first | rfl | (rw [List.length_take]; omega) | simp | omega) (@rfl V (V.sl [[(ints (cat ([(nth (((nth (t.nd) (k))).ou) (j))])))]])) rfl rfl (by first | omega | (simp; omega) | (simp; done)) (by first | omega | (simp; omega) | (simp; done)) (R_mv (@rfl V (V.ms 228 (w + 1) 0 (j + 1))) (R_e ?_)))))))
   refine n8 _ _ (.done (W_t (R_addN t32 (@rfl V (iV ((1 : Nat) : Int))) (by first | omega | (simp; omega) | (simp; done)) (R_mv (@rfl V (iV ((j + 1 : Nat) : Int))) (R_e ?_)))))
   refine p16 _ _ _ ?_ ⟨(j + 1), (w + 1), rfl, t2, t3, t4, t5, (Eq.trans (@rfl V (V.ms 228 (w + 1) 0 (j + 1))) (by first | rfl | simp)), t17, t18, t19, t30, t31, (Eq.trans (@rfl V (iV ((j + 1 : Nat) : Int))) (by first | rfl | simp)), (upd_out hF (by decide)), h201, h202, h205, h212, (Eq.trans (@rfl Blk (bk (w + 1) 25 1 (List.map cL ((nth t.nd k).ou.take j ++ [cat ([(nth (((nth (t.nd) (k))).ou) (j))])])))) (by first | rfl | (rw [map_cat1 (show j < (nth t.nd k).ou.length by omega)]; done) | (rw [cp_row (show k < t.nd.length by omega) (show (nth t.nd k).ou.length ≤ j by omega)]; done) | simp)), h258, ?_, ?_⟩
   · omega
   · omega
   · omega
  refine W_seq_exit (p36 _ _ _ (x5 _ _ (.done (W_dt (by exact (lateC (h258).2 lateN)) (R_mv t3 (R_mv t4 (R_fld_mp (o' := 0) t5 h205 oB rfl ?_)))))))
  refine R_load_mp (v := (V.bool (((nth (t.nd) (k))).lf))) rfl h205 (lB oB rfl rfl) (R_fld_mp (o' := 1) t5 h205 oB rfl (R_load_mp (v := (ints (((nth (t.nd) (k))).ac))) rfl h205 (lB oB rfl rfl) (R_bslice (qs := [(0, (ints (((nth (t.nd) (k))).ac)))]) (rows := [[(ints (((nth (t.nd) (k))).ac))]]) (mcons (congrArg (fun v => (0, v)) rfl) rfl) rfl (R_callc (evcons rfl evnil) (pjoin_pure ([((nth (t.nd) (k))).ac]) (by simp only [cat, List.append_nil]; omega)) (R_fld_mp (o' := 2) t5 h205 oB rfl (R_load_mp (v := (ints (((nth (t.nd) (k))).sf))) rfl h205 (lB oB rfl rfl) (R_bslice (qs := [(0, (ints (((nth (t.nd) (k))).sf)))]) (rows := [[(ints (((nth (t.nd) (k))).sf))]]) (mcons (congrArg (fun v => (0, v)) rfl) rfl) rfl ?_)))))))
  refine R_callc (evcons rfl evnil) (pjoin_pure ([((nth (t.nd) (k))).sf]) (by simp only [cat, List.append_nil]; omega)) (R_mv t6 (R_fld_mp (o' := 4) t5 h205 oB rfl (R_load_mp (v := (ints (((nth (t.nd) (k))).kd))) rfl h205 (lB oB rfl rfl) (R_callA (i := 258) (n := v258) (B := (bz (v258 + 3) 3 1 (List.map cI (((nth (t.nd) (k))).kd)))) (by rfl) (h258).1 (evcons rfl evnil) rfl (fun H2 h2 => cloneA 258 (by decide) (((nth (t.nd) (k))).kd) v258 H2 h2 (by omega)) (R_build (qs := [(0, 1, (V.bool (((nth (t.nd) (k))).lf))), (1, 1, (ints (cat ([((nth (t.nd) (k))).ac])))), (2, 1, (ints (cat ([((nth (t.nd) (k))).sf])))), (3, 1, (V.ms 228 w 0 (j))), (4, 1, (V.ms 258 (v258 + 3) 0 ((((nth (t.nd) (k))).kd).length)))]) (cs := [(V.bool (((nth (t.nd) (k))).lf)), (ints (cat ([((nth (t.nd) (k))).ac]))), (ints (cat ([((nth (t.nd) (k))).sf]))), (V.ms 228 w 0 (j)), (V.ms 258 (v258 + 3) 0 ((((nth (t.nd) (k))).kd).length))]) (mcons (congrArg (fun v => (0, 1, v)) rfl) (mcons (congrArg (fun v => (1, 1, v)) rfl) (mcons (congrArg (fun v => (2, 1, v)) rfl) (mcons (congrArg (fun v => (3, 1, v)) rfl) (mcons (congrArg (fun v => (4, 1, v)) rfl) rfl))))) rfl (R_idx_ms0 (i := k) (@rfl V (V.ms 212 (u12 + 1) 0 (t.nd.length))) (@rfl V (iV ((k : Nat) : Int))) h212 oB rfl (by first | omega | (simp; omega) | (simp; done)) (R_store (vs := [(V.bool (((nth (t.nd) (k))).lf)), (ints (cat ([((nth (t.nd) (k))).ac]))), (ints (cat ([((nth (t.nd) (k))).sf]))), (V.ms 228 w 0 (j)), (V.ms 258 (v258 + 3) 0 ((((nth (t.nd) (k))).kd).length))]) (B' := (bk (u12 + 1) 41 5 ((List.map cN (t.nd)).set k [(V.bool (((nth (t.nd) (k))).lf)), (ints (cat ([((nth (t.nd) (k))).ac]))), (ints (cat ([((nth (t.nd) (k))).sf]))), (V.ms 228 w 0 (j)), (V.ms 258 (v258 + 3) 0 ((((nth (t.nd) (k))).kd).length))]))) rfl rfl rfl h212 (stB_setc (i := k) (by first | omega | (simp; omega) | (simp; done)) rfl rfl rfl) ?_)))))))
  refine R_e (n4 _ _ (fork_ (R := fun T H => T 2 = (V.mp 202 (u2 + 1) 0 0) ∧ T 3 = (V.ms 212 (u12 + 1) 0 (t.nd.length)) ∧ T 17 = (V.ms 212 (u12 + 1) 0 (t.nd.length)) ∧ T 18 = (iV ((t.nd.length : Nat) : Int)) ∧ T 19 = (iV ((k : Nat) : Int)) ∧ (∀ j, j ∉ [201, 202, 205, 228, 258, 212] → H j = Hi j) ∧ H 201 = (bk (u1 + 1) 24 1 [[(V.sl (List.map cN (t.nd)))]]) ∧ H 202 = (bk (u2 + 1) 24 1 [[V.nilsl]]) ∧ H 205 = (bk (v205 + 1) 41 5 [(cN (((nth (t.nd) (k)))))]) ∧ H 212 = (bk (u12 + 1) 41 5 ((List.map cN (t.nd)).set k [(V.bool (((nth (t.nd) (k))).lf)), (ints (cat ([((nth (t.nd) (k))).ac]))), (ints (cat ([((nth (t.nd) (k))).sf]))), (V.ms 228 w 0 (j)), (V.ms 258 (v258 + 3) 0 ((((nth (t.nd) (k))).kd).length))])) ∧ H 228 = (bk w 25 1 (List.map cL ((nth t.nd k).ou.take j))) ∧ H 258 = (bz (v258 + 3) 3 1 (List.map cI (((nth (t.nd) (k))).kd))) ∧ True) ⟨t2, t3, t17, t18, t19, (upd_out (upd_out hF (by decide)) (by decide)), h201, h202, h205, rfl, h228, rfl, trivial⟩ ?_))
  intro T H ⟨t2, t3, t17, t18, t19, hF, h201, h202, h205, h212, h228, h258, _⟩
  refine frz_cellg (id := 228) (id2 := 212) (rows := (List.map cN (t.nd))) (i := k) (off := 3) (r := [(V.bool (((nth (t.nd) (k))).lf)), (ints (cat ([((nth (t.nd) (k))).ac]))), (ints (cat ([((nth (t.nd) (k))).sf]))), (V.ms 228 w 0 (j)), (V.ms 258 (v258 + 3) 0 ((((nth (t.nd) (k))).kd).length))]) (m := ((nth t.nd k).ou.take j)) (g := cL) (by decide) h228 h212 (by first | omega | (simp; omega) | (simp; done)) (by first | rfl | (rw [List.length_take]; omega) | simp | omega) rfl (fork_ (R := fun T H => T 2 = (V.mp 202 (u2 + 1) 0 0) ∧ T 3 = (V.ms 212 (u12 + 1) 0 (t.nd.length)) ∧ T 17 = (V.ms 212 (u12 + 1) 0 (t.nd.length)) ∧ T 18 = (iV ((t.nd.length : Nat) : Int)) ∧ T 19 = (iV ((k : Nat) : Int)) ∧ (∀ j, j ∉ [201, 202, 205, 228, 258, 212] → H j = Hi j) ∧ H 201 = (bk (u1 + 1) 24 1 [[(V.sl (List.map cN (t.nd)))]]) ∧ H 202 = (bk (u2 + 1) 24 1 [[V.nilsl]]) ∧ H 205 = (bk (v205 + 1) 41 5 [(cN (((nth (t.nd) (k)))))]) ∧ H 212 = (bk (u12 + 1) 41 5 ((List.map cN (t.nd)).set k [(V.bool (((nth (t.nd) (k))).lf)), (ints (cat ([((nth (t.nd) (k))).ac]))), (ints (cat ([((nth (t.nd) (k))).sf]))), (intss ((nth t.nd k).ou.take j)), (V.ms 258 (v258 + 3) 0 ((((nth (t.nd) (k))).kd).length))])) ∧ ((H 228).ver = w ∧ (H 228).live = false) ∧ H 258 = (bz (v258 + 3) 3 1 (List.map cI (((nth (t.nd) (k))).kd))) ∧ True) ⟨(fzT_q t2 rfl), (fzT_q t3 (fzq_other (by decide))), (fzT_q t17 (fzq_other (by decide))), (fzT_q t18 rfl), (fzT_q t19 rfl), (upd_out (kill_out hF (by decide)) (by decide)), ((upd_ne _ _ (by decide)).trans (kill_ne h201 (by decide))), ((upd_ne _ _ (by decide)).trans (kill_ne h202 (by decide))), ((upd_ne _ _ (by decide)).trans (kill_ne h205 (by decide))), (upd_same _ _ _), ⟨(congrArg Blk.ver (upd_ne _ _ (by decide))).trans (kill_self (congrArg Blk.ver h228)).1, (congrArg Blk.live (upd_ne _ _ (by decide))).trans (kill_self (congrArg Blk.ver h228)).2⟩, ((upd_ne _ _ (by decide)).trans (kill_ne h258 (by decide))), trivial⟩ ?_)
  intro T H ⟨t2, t3, t17, t18, t19, hF, h201, h202, h205, h212, h228, h258, _⟩
  refine frz_cellg (id := 258) (id2 := 212) (rows := (List.map cN (t.nd))) (i := k) (off := 4) (r := [(V.bool (((nth (t.nd) (k))).lf)), (ints (cat ([((nth (t.nd) (k))).ac]))), (ints (cat ([((nth (t.nd) (k))).sf]))), (intss ((nth t.nd k).ou.take j)), (V.ms 258 (v258 + 3) 0 ((((nth (t.nd) (k))).kd).length))]) (m := (((nth (t.nd) (k))).kd)) (g := cI) (by decide) h258 h212 (by first | omega | (simp; omega) | (simp; done)) (by first | rfl | (rw [List.length_take]; omega) | simp | omega) rfl (.done ?_)
  refine fork_ (R := fun T H => T 2 = (V.mp 202 (u2 + 1) 0 0) ∧ T 3 = (V.ms 212 (u12 + 1) 0 (t.nd.length)) ∧ T 17 = (V.ms 212 (u12 + 1) 0 (t.nd.length)) ∧ T 18 = (iV ((t.nd.length : Nat) : Int)) ∧ T 19 = (iV ((k : Nat) : Int)) ∧ (∀ j, j ∉ [201, 202, 205, 228, 258, 212] → H j = Hi j) ∧ H 201 = (bk (u1 + 1) 24 1 [[(V.sl (List.map cN (t.nd)))]]) ∧ H 202 = (bk (u2 + 1) 24 1 [[V.nilsl]]) ∧ H 205 = (bk (v205 + 1) 41 5 [(cN (((nth (t.nd) (k)))))]) ∧ H 212 = (bk (u12 + 1) 41 5 (List.map cN ((t.nd).set k ((⟨((nth (t.nd) (k))).lf, cat ([((nth (t.nd) (k))).ac]), cat ([((nth (t.nd) (k))).sf]), (nth t.nd k).ou.take j, ((nth (t.nd) (k))).kd⟩ : Nd))))) ∧ ((H 228).ver = w ∧ (H 228).live = false) ∧ ((H 258).ver = v258 + 3 ∧ (H 258).live = false) ∧ True) ⟨(fzT_q t2 rfl), (fzT_q t3 (fzq_other (by decide))), (fzT_q t17 (fzq_other (by decide))), (fzT_q t18 rfl), (fzT_q t19 rfl), (upd_out (kill_out hF (by decide)) (by decide)), ((upd_ne _ _ (by decide)).trans (kill_ne h201 (by decide))), ((upd_ne _ _ (by decide)).trans (kill_ne h202 (by decide))), ((upd_ne _ _ (by decide)).trans (kill_ne h205 (by decide))), (Eq.trans (upd_same _ _ _) (by first | (rw [List.map_set]; done) | (rw [List.map_set]; rfl))), ⟨(congrArg Blk.ver (upd_ne _ _ (by decide))).trans (kill_dead h228).1, (congrArg Blk.live (upd_ne _ _ (by decide))).trans (kill_dead h228).2⟩, ⟨(congrArg Blk.ver (upd_ne _ _ (by decide))).trans (kill_self (congrArg Blk.ver h258)).1, (congrArg Blk.live (upd_ne _ _ (by decide))).trans (kill_self (congrArg Blk.ver h258)).2⟩, trivial⟩ ?_
  intro T H ⟨t2, t3, t17, t18, t19, hF, h201, h202, h205, h212, h228, h258, _⟩
  refine W_t (R_addN t19 (@rfl V (iV ((1 : Nat) : Int))) (by first | omega | (simp; omega) | (simp; done)) (R_mv (@rfl V (iV ((k + 1 : Nat) : Int))) (R_e ?_)))
  refine p12 _ _ _ ?_ ⟨(k + 1), (v205 + 1), w, (v258 + 3), rfl, t2, t3, t17, t18, (Eq.trans (@rfl V (iV ((k + 1 : Nat) : Int))) (by first | rfl | simp)), hF, h201, h202, (congrArg Blk.ver h205), (Eq.trans h212 (by first | rfl | (rw [map_cat1 (show j < (nth t.nd k).ou.length by omega)]; done) | (rw [cp_row (show k < t.nd.length by omega) (show (nth t.nd k).ou.length ≤ j by omega)]; done) | simp)), (h228).1, h258, ?_, ?_, ?_, ?_⟩
  · omega
  · omega
  · omega
  · omega
  · omega
 refine W_seq_exit (p32 _ _ _ (x1 _ _ (.done (W_r (R_mv t3 (R_build (qs := [(0, 1, (V.ms 212 (u12 + 1) 0 (t.nd.length)))]) (cs := [(V.ms 212 (u12 + 1) 0 (t.nd.length))]) (mcons (congrArg (fun v => (0, 1, v)) rfl) rfl) rfl (R_store (vs := [(V.ms 212 (u12 + 1) 0 (t.nd.length))]) (B' := (bk (u2 + 1) 24 1 [[(V.ms 212 (u12 + 1) 0 (t.nd.length))]])) t2 rfl rfl h202 (sB oB rfl rfl rfl rfl rfl) ?_)))))))
 refine R_e (W_ret (fork_ (R := fun T H => T 2 = (V.mp 202 (u2 + 1) 0 0) ∧ (∀ j, j ∉ [201, 202, 205, 228, 258, 212] → H j = Hi j) ∧ H 201 = (bk (u1 + 1) 24 1 [[(V.sl (List.map cN (t.nd)))]]) ∧ H 202 = (bk (u2 + 1) 24 1 [[(V.ms 212 (u12 + 1) 0 (t.nd.length))]]) ∧ (H 205).ver = v205 ∧ H 212 = (bk (u12 + 1) 41 5 (List.map cN (t.nd))) ∧ (H 228).ver = v228 ∧ ((H 258).ver = v258 ∧ (H 258).live = false) ∧ True) ⟨t2, (upd_out hF (by decide)), h201, rfl, h205, h212, h228, h258, trivial⟩ ?_))
 intro T H ⟨t2, hF, h201, h202, h205, h212, h228, h258, _⟩
 have hkn : k = t.nd.length := by omega
 subst hkn
 have fh := FinX.fin (FinX.put (FinX.putv (n := v258) (B := (⟨u58 + 3 * t.nd.length, false, false, 0, 0, []⟩ : Blk)) (FinX.putv (n := v228) (B := (⟨u28 + t.nd.length * 1048578, false, false, 0, 0, []⟩ : Blk)) (FinX.putv (n := v205) (B := (⟨u5 + t.nd.length, false, false, 0, 0, []⟩ : Blk)) (FinX.putv (n := (u2 + 1)) (B := (⟨u2 + 1, false, false, 0, 0, []⟩ : Blk)) (FinX.putv (n := (u1 + 1)) (B := (⟨u1 + 1, false, false, 0, 0, []⟩ : Blk)) (FinX.start hF) (congrArg Blk.ver h201) (by show _ ≤ u1 + 1; omega) rfl) (congrArg Blk.ver h202) (by show _ ≤ u2 + 1; omega) rfl) h205 (by show _ ≤ u5 + t.nd.length; omega) rfl) h228 (by show _ ≤ u28 + t.nd.length * 1048578; omega) rfl) (h258).1 (by show _ ≤ u58 + 3 * t.nd.length; omega) rfl) h212 (FinB.eq rfl))
 exact RetFC_1 (resV_c (u := (V.agg [(V.ms 212 (u12 + 1) 0 (t.nd.length))])) t2 h202 (lB oB rfl rfl)) fh (FinV.agg1 (FinV.same fh _))
theorem copiedX_E (t : Dt) (n : Nat) (w28 w58 : Nat) (u1 u2 u5 u12 u28 u58 : Nat) (Hi : Heap) (hn : n < t.nd.length) (hb : Bd t) (h201 : (Hi 201).ver = u1) (h202 : (Hi 202).ver = u2) (h205 : (Hi 205).ver = u5) (h212 : (Hi 212).ver = u12) (h228 : (Hi 228).ver = u28) (h258 : (Hi 258).ver = u58 ∧ (Hi 258).live = false) (h7028 : (Hi 7028).ver = w28) (h7058 : (Hi 7058).ver = w58 ∧ (Hi 7058).live = false) : CallOK Try.prog 22 [(V.agg [(V.sl (List.map cN (t.nd)))])] Hi (V.agg [(V.ms 212 (u12 + 1) 0 (t.nd.length))]) (upd (upd (upd (upd (upd (upd (upd (upd Hi 201 (⟨u1 + 1, false, false, 0, 0, []⟩ : Blk)) 202 (⟨u2 + 1, false, false, 0, 0, []⟩ : Blk)) 205 (⟨u5 + t.nd.length, false, false, 0, 0, []⟩ : Blk)) 228 (⟨u28 + t.nd.length * 1048578, false, false, 0, 0, []⟩ : Blk)) 258 (⟨u58 + 3 * t.nd.length, false, false, 0, 0, []⟩ : Blk)) 7028 (bk (w28 + 1 + (nth t.nd n).ou.length) 25 1 (List.map cL ((nth t.nd n).ou)))) 7058 (bz (w58 + 3) 3 1 (List.map cI ((nth t.nd n).kd)))) 212 (bk (u12 + 1) 41 5 ((List.map cN (t.nd)).set n [(V.bool ((nth t.nd n).lf)), (ints (cat [(nth t.nd n).ac])), (ints (cat [(nth t.nd n).sf])), (V.ms 7028 (w28 + 1 + (nth t.nd n).ou.length) 0 ((nth t.nd n).ou.length)), (V.ms 7058 (w58 + 3) 0 ((nth t.nd n).kd.length))]))) := by
 refine eW (k0 := 200) Try.func22 s22_ok fun hB => ?_
 have hbn := hb.n
 unfold s22
 dsimp only
 refine W_r (R_box (i := 201) (n := u1) (m := 1) (cs := [(V.sl (List.map cN (t.nd)))]) (by rfl) h201 rfl rfl rfl (R_alloc (i := 202) (n := u2) (m := 1) (by rfl) h202 rfl (R_e (W_r (R_fld_mp (o' := 0) rfl rfl oB rfl (R_load_mp (v := (V.sl (List.map cN (t.nd)))) rfl rfl (lB oB rfl rfl) (R_len rfl ?_)))))))
 refine (R_mks (i := 212) (n := u12) (m := t.nd.length) (q := t.nd.length) (by rfl) h212 (@rfl V (iV ((t.nd.length : Nat) : Int))) (@rfl V (iV ((t.nd.length : Nat) : Int))) (by first | omega | (simp; omega) | (simp; done)) (by first | omega | (simp; omega) | (simp; done)) (by first | omega | (simp; omega) | (simp; done)) ?_)
 refine R_mv (@rfl V (V.ms 212 (u12 + 1) 0 (t.nd.length))) (R_e (W_r (R_mv (@rfl V (V.ms 212 (u12 + 1) 0 (t.nd.length))) (R_fld_mp (o' := 0) rfl rfl oB rfl (R_load_mp (v := (V.sl (List.map cN (t.nd)))) rfl rfl (lB oB rfl rfl) (R_cpyd (l := t.nd) (f := cN) (n := 5) (@rfl V (V.ms 212 (u12 + 1) 0 (t.nd.length))) (@rfl V (V.sl (List.map cN (t.nd)))) (@rfl Blk (bk (u12 + 1) 41 5 (List.replicate (t.nd.length) [(V.bool false), V.nilsl, V.nilsl, V.nilsl, V.nilsl]))) (by simp) (fun _ => ⟨rfl, rfl⟩) (R_e ?_)))))))
 refine W_seq_seq (W_r (R_mv (@rfl V (V.ms 212 (u12 + 1) 0 (t.nd.length))) (R_len_ms rfl (@rfl Blk (bk (u12 + 1) 41 5 (List.map cN (t.nd)))) (by first | rfl | simp) (R_mv (@rfl V (iV (0 : Int))) (R_e (W_seq_blockg fun Q1 n1 x1 y1 z1 => ?_))))))
 refine W_loop (fun mm T H => (∃ (k : Nat) (v205 : Nat) (v228 : Nat) (v258 : Nat), mm = t.nd.length - k ∧ T 2 = (V.mp 202 (u2 + 1) 0 0) ∧ T 3 = (V.ms 212 (u12 + 1) 0 (t.nd.length)) ∧ T 17 = (V.ms 212 (u12 + 1) 0 (t.nd.length)) ∧ T 18 = (iV ((t.nd.length : Nat) : Int)) ∧ T 19 = (iV ((k : Nat) : Int)) ∧ (∀ j, j ∉ [201, 202, 205, 228, 258, 7028, 7058, 212] → H j = Hi j) ∧ H 201 = (bk (u1 + 1) 24 1 [[(V.sl (List.map cN (t.nd)))]]) ∧ H 202 = (bk (u2 + 1) 24 1 [[V.nilsl]]) ∧ (H 205).ver = v205 ∧ H 212 = (bk (u12 + 1) 41 5 (List.map cN (t.nd))) ∧ (H 228).ver = v228 ∧ ((H 258).ver = v258 ∧ (H 258).live = false) ∧ (H 7028).ver = w28 ∧ ((H 7058).ver = w58 ∧ (H 7058).live = false) ∧ (k < n) ∧ (v205 = u5 + k) ∧ (v228 ≤ u28 + k * 1048578) ∧ (v258 = u58 + 3 * k)) ∨ (∃ (v228 : Nat) (v258 : Nat) (v205 : Nat), mm = t.nd.length - n ∧ T 2 = (V.mp 202 (u2 + 1) 0 0) ∧ T 3 = (V.ms 212 (u12 + 1) 0 (t.nd.length)) ∧ T 17 = (V.ms 212 (u12 + 1) 0 (t.nd.length)) ∧ T 18 = (iV ((t.nd.length : Nat) : Int)) ∧ T 19 = (iV ((n : Nat) : Int)) ∧ (∀ j, j ∉ [201, 202, 205, 228, 258, 7028, 7058, 212] → H j = Hi j) ∧ H 201 = (bk (u1 + 1) 24 1 [[(V.sl (List.map cN (t.nd)))]]) ∧ H 202 = (bk (u2 + 1) 24 1 [[V.nilsl]]) ∧ (H 205).ver = v205 ∧ H 212 = (bk (u12 + 1) 41 5 (List.map cN (t.nd))) ∧ (H 228).ver = v228 ∧ ((H 258).ver = v258 ∧ (H 258).live = false) ∧ (H 7028).ver = w28 ∧ ((H 7058).ver = w58 ∧ (H 7058).live = false) ∧ (v205 = u5 + n) ∧ (v228 ≤ u28 + n * 1048578) ∧ (v258 = u58 + 3 * n)) ∨ (∃ (k : Nat) (v205 : Nat) (v228 : Nat) (v258 : Nat), mm = t.nd.length - k ∧ T 2 = (V.mp 202 (u2 + 1) 0 0) ∧ T 3 = (V.ms 212 (u12 + 1) 0 (t.nd.length)) ∧ T 17 = (V.ms 212 (u12 + 1) 0 (t.nd.length)) ∧ T 18 = (iV ((t.nd.length : Nat) : Int)) ∧ T 19 = (iV ((k : Nat) : Int)) ∧ (∀ j, j ∉ [201, 202, 205, 228, 258, 7028, 7058, 212] → H j = Hi j) ∧ H 201 = (bk (u1 + 1) 24 1 [[(V.sl (List.map cN (t.nd)))]]) ∧ H 202 = (bk (u2 + 1) 24 1 [[V.nilsl]]) ∧ (H 205).ver = v205 ∧ H 212 = (bk (u12 + 1) 41 5 ((List.map cN (t.nd)).set n [(V.bool ((nth t.nd n).lf)), (ints (cat [(nth t.nd n).ac])), (ints (cat [(nth t.nd n).sf])), (V.ms 7028 (w28 + 1 + (nth t.nd n).ou.length) 0 ((nth t.nd n).ou.length)), (V.ms 7058 (w58 + 3) 0 ((nth t.nd n).kd.length))])) ∧ (H 228).ver = v228 ∧ ((H 258).ver = v258 ∧ (H 258).live = false) ∧ H 7028 = (bk (w28 + 1 + (nth t.nd n).ou.length) 25 1 (List.map cL ((nth t.nd n).ou))) ∧ H 7058 = (bz (w58 + 3) 3 1 (List.map cI ((nth t.nd n).kd))) ∧ (n < k) ∧ (k ≤ t.nd.length) ∧ (v205 = u5 + k) ∧ (v228 ≤ u28 + k * 1048578) ∧ (v258 ≤ u58 + 3 * k))) ?_ ?_
 ·
  by_cases hent : n = 0
  ·
   refine ⟨_, Or.inr (Or.inl ⟨u28, u58, u5, rfl, rfl, rfl, rfl, rfl, (Eq.trans (@rfl V (iV (0 : Int))) (by first | rfl | (rw [hto]; done) | (rw [hent]; rfl) | (rw [hje]; done) | simp)), (upd_out (upd_out (upd_out (upd_out (fun _ _ => rfl) (by decide)) (by decide)) (by decide)) (by decide)), rfl, rfl, h205, rfl, h228, h258, h7028, h7058, ?_, ?_, ?_⟩)⟩
   · omega
   · omega
   · omega
  ·
   refine ⟨_, Or.inl ⟨0, u5, u28, u58, rfl, rfl, rfl, rfl, rfl, (Eq.trans (@rfl V (iV (0 : Int))) rfl), (upd_out (upd_out (upd_out (upd_out (fun _ _ => rfl) (by decide)) (by decide)) (by decide)) (by decide)), rfl, rfl, h205, rfl, h228, h258, h7028, h7058, ?_, ?_, ?_, ?_⟩⟩
   · omega
   · omega
   · omega
   · omega
 intro mm T H hI Q2 p12 p22 p32
 rcases hI with ⟨k, v205, v228, v258, hmm, t2, t3, t17, t18, t19, hF, h201, h202, h205, h212, h228, h258, h7028, h7058, hk, hv5, hv28, hv7⟩ | ⟨v228, v258, v205, hmm, t2, t3, t17, t18, t19, hF, h201, h202, h205, h212, h228, h258, h7028, h7058, hv5, hv28, hv7⟩ | ⟨k, v205, v228, v258, hmm, t2, t3, t17, t18, t19, hF, h201, h202, h205, h212, h228, h258, h7028, h7058, hk, hk2, hv5, hv28, hv7⟩
 ·
  unfold b22_0
  refine W_r (R_lss t19 t18 (R_e ?_))
  refine W_seq_if rfl (fun c3 => ?_) fun c3 => ?_
  ·
   have r1 := hb.ac k (by omega)
   have r2 := hb.sf k (by omega)
   have r3 := hb.ou k (by omega)
   have r4 := hb.kd k (by omega)
   have r5 := hb.ol k (by omega)
   refine W_seq_skip (W_seq_blockg fun Q4 n4 x4 y4 z4 => (W_r (R_mv t19 (R_idx_ms0 (i := k) t17 t19 h212 oB rfl (by first | omega | (simp; omega) | (simp; done)) (R_load_mp (v := (V.agg (cN (((nth (t.nd) (k))))))) rfl h212 (ldB_map (by first | omega | (simp; omega) | (simp; done)) (by first | rfl | simp [ldV, V.one])) (R_alloc (i := 205) (n := v205) (m := 5) (by rfl) h205 rfl (R_mv (@rfl V (iV ((k : Nat) : Int))) ?_)))))))
   refine R_store (vs := [(V.bool (((nth (t.nd) (k))).lf)), (ints (((nth (t.nd) (k))).ac)), (ints (((nth (t.nd) (k))).sf)), (intss (((nth (t.nd) (k))).ou)), (ints (((nth (t.nd) (k))).kd))]) (B' := (bk (v205 + 1) 41 5 [(cN (((nth (t.nd) (k)))))])) rfl rfl rfl rfl (sB oB rfl rfl rfl rfl rfl) (R_e (W_r (R_fld_mp (o' := 3) rfl rfl oB rfl (R_load_mp (v := (intss (((nth (t.nd) (k))).ou))) rfl rfl (lB oB rfl rfl) (R_len rfl (R_addN rfl (@rfl V (iV ((1 : Nat) : Int))) (by first | omega | (simp; omega) | (simp; done)) ?_))))))
   refine (R_mks (i := 228) (n := v228) (m := 0) (q := (((((nth (t.nd) (k))).ou).length) + 1)) (by rfl) h228 (@rfl V (iV (0 : Int))) (@rfl V (iV ((((((nth (t.nd) (k))).ou).length) + 1 : Nat) : Int))) (by first | omega | (simp; omega) | (simp; done)) (by first | omega | (simp; omega) | (simp; done)) (by first | omega | (simp; omega) | (simp; done)) ?_)
   refine R_mv (@rfl V (V.ms 228 (v228 + 1) 0 (0))) (R_e (W_seq_seq (W_r (R_fld_mp (o' := 3) rfl rfl oB rfl (R_load_mp (v := (intss (((nth (t.nd) (k))).ou))) rfl rfl (lB oB rfl rfl) (R_len rfl (R_mv (@rfl V (iV (0 : Int))) ?_)))))))
   refine R_e (W_seq_blockg fun Q5 n5 x5 y5 z5 => ?_)
   refine W_loop (fun mm T H => ∃ (j : Nat) (w : Nat), mm = (nth t.nd k).ou.length - j ∧ T 2 = (V.mp 202 (u2 + 1) 0 0) ∧ T 3 = (V.ms 212 (u12 + 1) 0 (t.nd.length)) ∧ T 4 = (iV ((k : Nat) : Int)) ∧ T 5 = (V.mp 205 (v205 + 1) 0 0) ∧ T 6 = (V.ms 228 w 0 (j)) ∧ T 17 = (V.ms 212 (u12 + 1) 0 (t.nd.length)) ∧ T 18 = (iV ((t.nd.length : Nat) : Int)) ∧ T 19 = (iV ((k : Nat) : Int)) ∧ T 30 = (intss (((nth (t.nd) (k))).ou)) ∧ T 31 = (iV (((((nth (t.nd) (k))).ou).length : Nat) : Int)) ∧ T 32 = (iV ((j : Nat) : Int)) ∧ (∀ j, j ∉ [201, 202, 205, 228, 258, 7028, 7058, 212] → H j = Hi j) ∧ H 201 = (bk (u1 + 1) 24 1 [[(V.sl (List.map cN (t.nd)))]]) ∧ H 202 = (bk (u2 + 1) 24 1 [[V.nilsl]]) ∧ H 205 = (bk (v205 + 1) 41 5 [(cN (((nth (t.nd) (k)))))]) ∧ H 212 = (bk (u12 + 1) 41 5 (List.map cN (t.nd))) ∧ H 228 = (bk w 25 1 (List.map cL ((nth t.nd k).ou.take j))) ∧ ((H 258).ver = v258 ∧ (H 258).live = false) ∧ (H 7028).ver = w28 ∧ ((H 7058).ver = w58 ∧ (H 7058).live = false) ∧ (j ≤ (nth t.nd k).ou.length) ∧ (w ≤ v228 + 1 + j)) ?_ ?_
   ·
    refine ⟨_, 0, (v228 + 1), rfl, t2, t3, rfl, rfl, (Eq.trans (@rfl V (V.ms 228 (v228 + 1) 0 (0))) (by first | rfl | (rw [hto]; done) | (rw [hent]; rfl) | (rw [hje]; done) | simp)), t17, t18, t19, rfl, rfl, (Eq.trans (@rfl V (iV (0 : Int))) rfl), (upd_out (upd_out (upd_out hF (by decide)) (by decide)) (by decide)), h201, h202, rfl, h212, (Eq.trans (@rfl Blk (bk (v228 + 1) 25 1 (List.replicate (0) [V.nilsl]))) (by first | rfl | (rw [map_cat1 (show j < (nth t.nd k).ou.length by omega)]; done) | (rw [map_cat1 (show j < (nth t.nd n).ou.length by omega)]; rfl) | (rw [cp_row (show k < t.nd.length by omega) (show (nth t.nd k).ou.length ≤ j by omega)]; done) | (rw [hje, List.take_length]; done) | (rw [hje]; done) | (rw [sets_back (f := cN) (l := t.nd) (i := k) (j := n) (by omega) (by omega) (cp_cN (show (nth t.nd k).ou.length ≤ j by omega))]; done) | simp)), h258, h7028, h7058, ?_, ?_⟩
    · omega
    · omega
   intro mm T H ⟨j, w, hmm, t2, t3, t4, t5, t6, t17, t18, t19, t30, t31, t32, hF, h201, h202, h205, h212, h228, h258, h7028, h7058, hj, hw⟩ Q6 p16 p26 p36
   unfold b22_1
   refine W_r (R_lss t32 t31 (R_e ?_))
   refine W_seq_if rfl (fun c7 => ?_) fun c7 => ?_
   ·
    have r6 := r5 j (by omega)
    refine W_seq_skip (W_seq_blockg fun Q8 n8 x8 y8 z8 => (W_r (R_idx (i := j) t30 t32 (by first | omega | (simp; omega) | (simp; done)) rfl (R_load_pp (v := (ints ((nth (((nth (t.nd) (k))).ou) (j))))) rfl (by first | rfl | simp [ldV]) (R_mv (@rfl V (ints ((nth (((nth (t.nd) (k))).ou) (j))))) (R_e (W_t ?_)))))))
    refine R_mv t6 (R_mv (@rfl V (ints ((nth (((nth (t.nd) (k))).ou) (j))))) (R_bslice (qs := [(0, (ints ((nth (((nth (t.nd) (k))).ou) (j)))))]) (rows := [[(ints ((nth (((nth (t.nd) (k))).ou) (j))))]]) (mcons (congrArg (fun v => (0, v)) rfl) rfl) rfl (R_callc (evcons rfl evnil) (pjoin_pure ([(nth (((nth (t.nd) (k))).ou) (j))]) (by simp only [cat, List.append_nil]; omega)) (R_bslice (qs := [(0, (ints (cat ([(nth (((nth (t.nd) (k))).ou) (j))]))))]) (rows := [[(ints (cat ([(nth (((nth (t.nd) (k))).ou) (j))])))]]) (mcons (congrArg (fun v => (0, v)) rfl) rfl) rfl (R_append1 (l := ((nth t.nd k).ou.take j)) (f := cL) (x := (cat ([(nth (((nth (t.nd) (k))).ou) (j))]))) (@rfl V (V.ms 228 w 0 (j))) h228 (by first | rfl | (rw [List.length_take]; omega) | simp | omega) (@rfl V (V.sl [[(ints (cat ([(nth (((nth (t.nd) (k))).ou) (j))])))]])) rfl rfl (by first | omega | (simp; omega) | (simp; done)) (by first | omega | (simp; omega) | (simp; done)) (R_mv (@rfl V (V.ms 228 (w + 1) 0 (j + 1))) (R_e ?_)))))))
    refine n8 _ _ (.done (W_t (R_addN t32 (@rfl V (iV ((1 : Nat) : Int))) (by first | omega | (simp; omega) | (simp; done)) (R_mv (@rfl V (iV ((j + 1 : Nat) : Int))) (R_e ?_)))))
    refine p16 _ _ _ ?_ ⟨(j + 1), (w + 1), rfl, t2, t3, t4, t5, (Eq.trans (@rfl V (V.ms 228 (w + 1) 0 (j + 1))) (by first | rfl | (rw [hto]; done) | (rw [hent]; rfl) | (rw [hje]; done) | simp)), t17, t18, t19, t30, t31, (Eq.trans (@rfl V (iV ((j + 1 : Nat) : Int))) (by first | rfl | (rw [hto]; done) | (rw [hent]; rfl) | (rw [hje]; done) | simp)), (upd_out hF (by decide)), h201, h202, h205, h212, (Eq.trans (@rfl Blk (bk (w + 1) 25 1 (List.map cL ((nth t.nd k).ou.take j ++ [cat ([(nth (((nth (t.nd) (k))).ou) (j))])])))) (by first | rfl | (rw [map_cat1 (show j < (nth t.nd k).ou.length by omega)]; done) | (rw [map_cat1 (show j < (nth t.nd n).ou.length by omega)]; rfl) | (rw [cp_row (show k < t.nd.length by omega) (show (nth t.nd k).ou.length ≤ j by omega)]; done) | (rw [hje, List.take_length]; done) | (rw [hje]; done) | (rw [sets_back (f := cN) (l := t.nd) (i := k) (j := n) (by omega) (by omega) (cp_cN (show (nth t.nd k).ou.length ≤ j by omega))]; done) | simp)), h258, h7028, h7058, ?_, ?_⟩
    · omega
    · omega
    · omega
   refine W_seq_exit (p36 _ _ _ (x5 _ _ (.done (W_dt (by exact (lateC (h258).2 lateN)) (R_mv t3 (R_mv t4 (R_fld_mp (o' := 0) t5 h205 oB rfl ?_)))))))
   refine R_load_mp (v := (V.bool (((nth (t.nd) (k))).lf))) rfl h205 (lB oB rfl rfl) (R_fld_mp (o' := 1) t5 h205 oB rfl (R_load_mp (v := (ints (((nth (t.nd) (k))).ac))) rfl h205 (lB oB rfl rfl) (R_bslice (qs := [(0, (ints (((nth (t.nd) (k))).ac)))]) (rows := [[(ints (((nth (t.nd) (k))).ac))]]) (mcons (congrArg (fun v => (0, v)) rfl) rfl) rfl (R_callc (evcons rfl evnil) (pjoin_pure ([((nth (t.nd) (k))).ac]) (by simp only [cat, List.append_nil]; omega)) (R_fld_mp (o' := 2) t5 h205 oB rfl (R_load_mp (v := (ints (((nth (t.nd) (k))).sf))) rfl h205 (lB oB rfl rfl) (R_bslice (qs := [(0, (ints (((nth (t.nd) (k))).sf)))]) (rows := [[(ints (((nth (t.nd) (k))).sf))]]) (mcons (congrArg (fun v => (0, v)) rfl) rfl) rfl ?_)))))))
   refine R_callc (evcons rfl evnil) (pjoin_pure ([((nth (t.nd) (k))).sf]) (by simp only [cat, List.append_nil]; omega)) (R_mv t6 (R_fld_mp (o' := 4) t5 h205 oB rfl (R_load_mp (v := (ints (((nth (t.nd) (k))).kd))) rfl h205 (lB oB rfl rfl) (R_callA (i := 258) (n := v258) (B := (bz (v258 + 3) 3 1 (List.map cI (((nth (t.nd) (k))).kd)))) (by rfl) (h258).1 (evcons rfl evnil) rfl (fun H2 h2 => cloneA 258 (by decide) (((nth (t.nd) (k))).kd) v258 H2 h2 (by omega)) (R_build (qs := [(0, 1, (V.bool (((nth (t.nd) (k))).lf))), (1, 1, (ints (cat ([((nth (t.nd) (k))).ac])))), (2, 1, (ints (cat ([((nth (t.nd) (k))).sf])))), (3, 1, (V.ms 228 w 0 (j))), (4, 1, (V.ms 258 (v258 + 3) 0 ((((nth (t.nd) (k))).kd).length)))]) (cs := [(V.bool (((nth (t.nd) (k))).lf)), (ints (cat ([((nth (t.nd) (k))).ac]))), (ints (cat ([((nth (t.nd) (k))).sf]))), (V.ms 228 w 0 (j)), (V.ms 258 (v258 + 3) 0 ((((nth (t.nd) (k))).kd).length))]) (mcons (congrArg (fun v => (0, 1, v)) rfl) (mcons (congrArg (fun v => (1, 1, v)) rfl) (mcons (congrArg (fun v => (2, 1, v)) rfl) (mcons (congrArg (fun v => (3, 1, v)) rfl) (mcons (congrArg (fun v => (4, 1, v)) rfl) rfl))))) rfl (R_idx_ms0 (i := k) (@rfl V (V.ms 212 (u12 + 1) 0 (t.nd.length))) (@rfl V (iV ((k : Nat) : Int))) h212 oB rfl (by first | omega | (simp; omega) | (simp; done)) (R_store (vs := [(V.bool (((nth (t.nd) (k))).lf)), (ints (cat ([((nth (t.nd) (k))).ac]))), (ints (cat ([((nth (t.nd) (k))).sf]))), (V.ms 228 w 0 (j)), (V.ms 258 (v258 + 3) 0 ((((nth (t.nd) (k))).kd).length))]) (B' := (bk (u12 + 1) 41 5 ((List.map cN (t.nd)).set k [(V.bool (((nth (t.nd) (k))).lf)), (ints (cat ([((nth (t.nd) (k))).ac]))), (ints (cat ([((nth (t.nd) (k))).sf]))), (V.ms 228 w 0 (j)), (V.ms 258 (v258 + 3) 0 ((((nth (t.nd) (k))).kd).length))]))) rfl rfl rfl h212 (stB_setc (i := k) (by first | omega | (simp; omega) | (simp; done)) rfl rfl rfl) ?_)))))))
   refine R_e (n4 _ _ (fork_ (R := fun T H => T 2 = (V.mp 202 (u2 + 1) 0 0) ∧ T 3 = (V.ms 212 (u12 + 1) 0 (t.nd.length)) ∧ T 17 = (V.ms 212 (u12 + 1) 0 (t.nd.length)) ∧ T 18 = (iV ((t.nd.length : Nat) : Int)) ∧ T 19 = (iV ((k : Nat) : Int)) ∧ (∀ j, j ∉ [201, 202, 205, 228, 258, 7028, 7058, 212] → H j = Hi j) ∧ H 201 = (bk (u1 + 1) 24 1 [[(V.sl (List.map cN (t.nd)))]]) ∧ H 202 = (bk (u2 + 1) 24 1 [[V.nilsl]]) ∧ H 205 = (bk (v205 + 1) 41 5 [(cN (((nth (t.nd) (k)))))]) ∧ H 212 = (bk (u12 + 1) 41 5 ((List.map cN (t.nd)).set k [(V.bool (((nth (t.nd) (k))).lf)), (ints (cat ([((nth (t.nd) (k))).ac]))), (ints (cat ([((nth (t.nd) (k))).sf]))), (V.ms 228 w 0 (j)), (V.ms 258 (v258 + 3) 0 ((((nth (t.nd) (k))).kd).length))])) ∧ H 228 = (bk w 25 1 (List.map cL ((nth t.nd k).ou.take j))) ∧ H 258 = (bz (v258 + 3) 3 1 (List.map cI (((nth (t.nd) (k))).kd))) ∧ (H 7028).ver = w28 ∧ ((H 7058).ver = w58 ∧ (H 7058).live = false) ∧ True) ⟨t2, t3, t17, t18, t19, (upd_out (upd_out hF (by decide)) (by decide)), h201, h202, h205, rfl, h228, rfl, h7028, h7058, trivial⟩ ?_))
   intro T H ⟨t2, t3, t17, t18, t19, hF, h201, h202, h205, h212, h228, h258, h7028, h7058, _⟩
   refine frz_cellg (id := 228) (id2 := 212) (rows := (List.map cN (t.nd))) (i := k) (off := 3) (r := [(V.bool (((nth (t.nd) (k))).lf)), (ints (cat ([((nth (t.nd) (k))).ac]))), (ints (cat ([((nth (t.nd) (k))).sf]))), (V.ms 228 w 0 (j)), (V.ms 258 (v258 + 3) 0 ((((nth (t.nd) (k))).kd).length))]) (m := ((nth t.nd k).ou.take j)) (g := cL) (by decide) h228 h212 (by first | omega | (simp; omega) | (simp; done)) (by first | rfl | (rw [List.length_take]; omega) | simp | omega) rfl (fork_ (R := fun T H => T 2 = (V.mp 202 (u2 + 1) 0 0) ∧ T 3 = (V.ms 212 (u12 + 1) 0 (t.nd.length)) ∧ T 17 = (V.ms 212 (u12 + 1) 0 (t.nd.length)) ∧ T 18 = (iV ((t.nd.length : Nat) : Int)) ∧ T 19 = (iV ((k : Nat) : Int)) ∧ (∀ j, j ∉ [201, 202, 205, 228, 258, 7028, 7058, 212] → H j = Hi j) ∧ H 201 = (bk (u1 + 1) 24 1 [[(V.sl (List.map cN (t.nd)))]]) ∧ H 202 = (bk (u2 + 1) 24 1 [[V.nilsl]]) ∧ H 205 = (bk (v205 + 1) 41 5 [(cN (((nth (t.nd) (k)))))]) ∧ H 212 = (bk (u12 + 1) 41 5 ((List.map cN (t.nd)).set k [(V.bool (((nth (t.nd) (k))).lf)), (ints (cat ([((nth (t.nd) (k))).ac]))), (ints (cat ([((nth (t.nd) (k))).sf]))), (intss ((nth t.nd k).ou.take j)), (V.ms 258 (v258 + 3) 0 ((((nth (t.nd) (k))).kd).length))])) ∧ ((H 228).ver = w ∧ (H 228).live = false) ∧ H 258 = (bz (v258 + 3) 3 1 (List.map cI (((nth (t.nd) (k))).kd))) ∧ (H 7028).ver = w28 ∧ ((H 7058).ver = w58 ∧ (H 7058).live = false) ∧ True) ⟨(fzT_q t2 rfl), (fzT_q t3 (fzq_other (by decide))), (fzT_q t17 (fzq_other (by decide))), (fzT_q t18 rfl), (fzT_q t19 rfl), (upd_out (kill_out hF (by decide)) (by decide)), ((upd_ne _ _ (by decide)).trans (kill_ne h201 (by decide))), ((upd_ne _ _ (by decide)).trans (kill_ne h202 (by decide))), ((upd_ne _ _ (by decide)).trans (kill_ne h205 (by decide))), (upd_same _ _ _), ⟨(congrArg Blk.ver (upd_ne _ _ (by decide))).trans (kill_self (congrArg Blk.ver h228)).1, (congrArg Blk.live (upd_ne _ _ (by decide))).trans (kill_self (congrArg Blk.ver h228)).2⟩, ((upd_ne _ _ (by decide)).trans (kill_ne h258 (by decide))), ((congrArg Blk.ver (upd_ne _ _ (by decide))).trans (kill_ver h7028)), ⟨(congrArg Blk.ver (upd_ne _ _ (by decide))).trans (kill_dead h7058).1, (congrArg Blk.live (upd_ne _ _ (by decide))).trans (kill_dead h7058).2⟩, trivial⟩ ?_)
   intro T H ⟨t2, t3, t17, t18, t19, hF, h201, h202, h205, h212, h228, h258, h7028, h7058, _⟩
   refine frz_cellg (id := 258) (id2 := 212) (rows := (List.map cN (t.nd))) (i := k) (off := 4) (r := [(V.bool (((nth (t.nd) (k))).lf)), (ints (cat ([((nth (t.nd) (k))).ac]))), (ints (cat ([((nth (t.nd) (k))).sf]))), (intss ((nth t.nd k).ou.take j)), (V.ms 258 (v258 + 3) 0 ((((nth (t.nd) (k))).kd).length))]) (m := (((nth (t.nd) (k))).kd)) (g := cI) (by decide) h258 h212 (by first | omega | (simp; omega) | (simp; done)) (by first | rfl | (rw [List.length_take]; omega) | simp | omega) rfl (.done ?_)
   refine fork_ (R := fun T H => T 2 = (V.mp 202 (u2 + 1) 0 0) ∧ T 3 = (V.ms 212 (u12 + 1) 0 (t.nd.length)) ∧ T 17 = (V.ms 212 (u12 + 1) 0 (t.nd.length)) ∧ T 18 = (iV ((t.nd.length : Nat) : Int)) ∧ T 19 = (iV ((k : Nat) : Int)) ∧ (∀ j, j ∉ [201, 202, 205, 228, 258, 7028, 7058, 212] → H j = Hi j) ∧ H 201 = (bk (u1 + 1) 24 1 [[(V.sl (List.map cN (t.nd)))]]) ∧ H 202 = (bk (u2 + 1) 24 1 [[V.nilsl]]) ∧ H 205 = (bk (v205 + 1) 41 5 [(cN (((nth (t.nd) (k)))))]) ∧ H 212 = (bk (u12 + 1) 41 5 (List.map cN ((t.nd).set k ((⟨((nth (t.nd) (k))).lf, cat ([((nth (t.nd) (k))).ac]), cat ([((nth (t.nd) (k))).sf]), (nth t.nd k).ou.take j, ((nth (t.nd) (k))).kd⟩ : Nd))))) ∧ ((H 228).ver = w ∧ (H 228).live = false) ∧ ((H 258).ver = v258 + 3 ∧ (H 258).live = false) ∧ (H 7028).ver = w28 ∧ ((H 7058).ver = w58 ∧ (H 7058).live = false) ∧ True) ⟨(fzT_q t2 rfl), (fzT_q t3 (fzq_other (by decide))), (fzT_q t17 (fzq_other (by decide))), (fzT_q t18 rfl), (fzT_q t19 rfl), (upd_out (kill_out hF (by decide)) (by decide)), ((upd_ne _ _ (by decide)).trans (kill_ne h201 (by decide))), ((upd_ne _ _ (by decide)).trans (kill_ne h202 (by decide))), ((upd_ne _ _ (by decide)).trans (kill_ne h205 (by decide))), (Eq.trans (upd_same _ _ _) (by first | (rw [List.map_set]; done) | (rw [List.map_set]; rfl))), ⟨(congrArg Blk.ver (upd_ne _ _ (by decide))).trans (kill_dead h228).1, (congrArg Blk.live (upd_ne _ _ (by decide))).trans (kill_dead h228).2⟩, ⟨(congrArg Blk.ver (upd_ne _ _ (by decide))).trans (kill_self (congrArg Blk.ver h258)).1, (congrArg Blk.live (upd_ne _ _ (by decide))).trans (kill_self (congrArg Blk.ver h258)).2⟩, ((congrArg Blk.ver (upd_ne _ _ (by decide))).trans (kill_ver h7028)), ⟨(congrArg Blk.ver (upd_ne _ _ (by decide))).trans (kill_dead h7058).1, (congrArg Blk.live (upd_ne _ _ (by decide))).trans (kill_dead h7058).2⟩, trivial⟩ ?_
   intro T H ⟨t2, t3, t17, t18, t19, hF, h201, h202, h205, h212, h228, h258, h7028, h7058, _⟩
   refine W_t (R_addN t19 (@rfl V (iV ((1 : Nat) : Int))) (by first | omega | (simp; omega) | (simp; done)) (R_mv (@rfl V (iV ((k + 1 : Nat) : Int))) (R_e ?_)))
   by_cases hto : k + 1 = n
   ·
    refine p12 _ _ _ ?_ (Or.inr (Or.inl ⟨w, (v258 + 3), (v205 + 1), rfl, t2, t3, t17, t18, (Eq.trans (@rfl V (iV ((k + 1 : Nat) : Int))) (by first | rfl | (rw [hto]; done) | (rw [hent]; rfl) | (rw [hje]; done) | simp)), hF, h201, h202, (congrArg Blk.ver h205), (Eq.trans h212 (by first | rfl | (rw [map_cat1 (show j < (nth t.nd k).ou.length by omega)]; done) | (rw [map_cat1 (show j < (nth t.nd n).ou.length by omega)]; rfl) | (rw [cp_row (show k < t.nd.length by omega) (show (nth t.nd k).ou.length ≤ j by omega)]; done) | (rw [hje, List.take_length]; done) | (rw [hje]; done) | (rw [sets_back (f := cN) (l := t.nd) (i := k) (j := n) (by omega) (by omega) (cp_cN (show (nth t.nd k).ou.length ≤ j by omega))]; done) | simp)), (h228).1, h258, h7028, h7058, ?_, ?_, ?_⟩))
    · omega
    · omega
    · omega
    · omega
   ·
    refine p12 _ _ _ ?_ (Or.inl ⟨(k + 1), (v205 + 1), w, (v258 + 3), rfl, t2, t3, t17, t18, (Eq.trans (@rfl V (iV ((k + 1 : Nat) : Int))) (by first | rfl | (rw [hto]; done) | (rw [hent]; rfl) | (rw [hje]; done) | simp)), hF, h201, h202, (congrArg Blk.ver h205), (Eq.trans h212 (by first | rfl | (rw [map_cat1 (show j < (nth t.nd k).ou.length by omega)]; done) | (rw [map_cat1 (show j < (nth t.nd n).ou.length by omega)]; rfl) | (rw [cp_row (show k < t.nd.length by omega) (show (nth t.nd k).ou.length ≤ j by omega)]; done) | (rw [hje, List.take_length]; done) | (rw [hje]; done) | (rw [sets_back (f := cN) (l := t.nd) (i := k) (j := n) (by omega) (by omega) (cp_cN (show (nth t.nd k).ou.length ≤ j by omega))]; done) | simp)), (h228).1, h258, h7028, h7058, ?_, ?_, ?_, ?_⟩)
    · omega
    · omega
    · omega
    · omega
    · omega
  · exfalso; omega
 ·
  unfold b22_0
  refine W_r (R_lss t19 t18 (R_e ?_))
  refine W_seq_if rfl (fun c9 => ?_) fun c9 => ?_
  ·
   have r1 := hb.ac n (by omega)
   have r2 := hb.sf n (by omega)
   have r3 := hb.ou n (by omega)
   have r4 := hb.kd n (by omega)
   have r5 := hb.ol n (by omega)
   refine W_seq_skip (W_seq_blockg fun Q10 n10 x10 y10 z10 => (W_r (R_mv t19 (R_idx_ms0 (i := n) t17 t19 h212 oB rfl (by first | omega | (simp; omega) | (simp; done)) (R_load_mp (v := (V.agg (cN (((nth (t.nd) (n))))))) rfl h212 (ldB_map (by first | omega | (simp; omega) | (simp; done)) (by first | rfl | simp [ldV, V.one])) (R_alloc (i := 205) (n := v205) (m := 5) (by rfl) h205 rfl (R_mv (@rfl V (iV ((n : Nat) : Int))) ?_)))))))
   refine R_store (vs := [(V.bool (((nth (t.nd) (n))).lf)), (ints (((nth (t.nd) (n))).ac)), (ints (((nth (t.nd) (n))).sf)), (intss (((nth (t.nd) (n))).ou)), (ints (((nth (t.nd) (n))).kd))]) (B' := (bk (v205 + 1) 41 5 [(cN (((nth (t.nd) (n)))))])) rfl rfl rfl rfl (sB oB rfl rfl rfl rfl rfl) (R_e (W_rk 7000 (R_fld_mp (o' := 3) rfl rfl oB rfl (R_load_mp (v := (intss (((nth (t.nd) (n))).ou))) rfl rfl (lB oB rfl rfl) (R_len rfl (R_addN rfl (@rfl V (iV ((1 : Nat) : Int))) (by first | omega | (simp; omega) | (simp; done)) ?_))))))
   refine (R_mks (i := 7028) (n := w28) (m := 0) (q := (((((nth (t.nd) (n))).ou).length) + 1)) (by rfl) h7028 (@rfl V (iV (0 : Int))) (@rfl V (iV ((((((nth (t.nd) (n))).ou).length) + 1 : Nat) : Int))) (by first | omega | (simp; omega) | (simp; done)) (by first | omega | (simp; omega) | (simp; done)) (by first | omega | (simp; omega) | (simp; done)) ?_)
   refine R_mv (@rfl V (V.ms 7028 (w28 + 1) 0 (0))) (R_e (W_seq_seq (W_r (R_fld_mp (o' := 3) rfl rfl oB rfl (R_load_mp (v := (intss (((nth (t.nd) (n))).ou))) rfl rfl (lB oB rfl rfl) (R_len rfl (R_mv (@rfl V (iV (0 : Int))) ?_)))))))
   refine R_e (W_seq_blockg fun Q11 n11 x11 y11 z11 => ?_)
   refine W_loop (fun mm T H => ∃ (j : Nat), mm = (nth t.nd n).ou.length - j ∧ T 2 = (V.mp 202 (u2 + 1) 0 0) ∧ T 3 = (V.ms 212 (u12 + 1) 0 (t.nd.length)) ∧ T 4 = (iV ((n : Nat) : Int)) ∧ T 5 = (V.mp 205 (v205 + 1) 0 0) ∧ T 6 = (V.ms 7028 (w28 + 1 + j) 0 (j)) ∧ T 17 = (V.ms 212 (u12 + 1) 0 (t.nd.length)) ∧ T 18 = (iV ((t.nd.length : Nat) : Int)) ∧ T 19 = (iV ((n : Nat) : Int)) ∧ T 30 = (intss (((nth (t.nd) (n))).ou)) ∧ T 31 = (iV (((((nth (t.nd) (n))).ou).length : Nat) : Int)) ∧ T 32 = (iV ((j : Nat) : Int)) ∧ (∀ j, j ∉ [201, 202, 205, 228, 258, 7028, 7058, 212] → H j = Hi j) ∧ H 201 = (bk (u1 + 1) 24 1 [[(V.sl (List.map cN (t.nd)))]]) ∧ H 202 = (bk (u2 + 1) 24 1 [[V.nilsl]]) ∧ H 205 = (bk (v205 + 1) 41 5 [(cN (((nth (t.nd) (n)))))]) ∧ H 212 = (bk (u12 + 1) 41 5 (List.map cN (t.nd))) ∧ (H 228).ver = v228 ∧ ((H 258).ver = v258 ∧ (H 258).live = false) ∧ H 7028 = (bk (w28 + 1 + j) 25 1 (List.map cL ((nth t.nd n).ou.take j))) ∧ ((H 7058).ver = w58 ∧ (H 7058).live = false) ∧ (j ≤ (nth t.nd n).ou.length)) ?_ ?_
   ·
    refine ⟨_, 0, rfl, t2, t3, rfl, rfl, (Eq.trans (@rfl V (V.ms 7028 (w28 + 1) 0 (0))) (by first | rfl | (rw [hto]; done) | (rw [hent]; rfl) | (rw [hje]; done) | simp)), t17, t18, t19, rfl, rfl, (Eq.trans (@rfl V (iV (0 : Int))) rfl), (upd_out (upd_out (upd_out hF (by decide)) (by decide)) (by decide)), h201, h202, rfl, h212, h228, h258, (Eq.trans (@rfl Blk (bk (w28 + 1) 25 1 (List.replicate (0) [V.nilsl]))) (by first | rfl | (rw [map_cat1 (show j < (nth t.nd k).ou.length by omega)]; done) | (rw [map_cat1 (show j < (nth t.nd n).ou.length by omega)]; rfl) | (rw [cp_row (show k < t.nd.length by omega) (show (nth t.nd k).ou.length ≤ j by omega)]; done) | (rw [hje, List.take_length]; done) | (rw [hje]; done) | (rw [sets_back (f := cN) (l := t.nd) (i := k) (j := n) (by omega) (by omega) (cp_cN (show (nth t.nd k).ou.length ≤ j by omega))]; done) | simp)), h7058, ?_⟩
    · omega
   intro mm T H ⟨j, hmm, t2, t3, t4, t5, t6, t17, t18, t19, t30, t31, t32, hF, h201, h202, h205, h212, h228, h258, h7028, h7058, hj⟩ Q12 p112 p212 p312
   unfold b22_1
   refine W_r (R_lss t32 t31 (R_e ?_))
   refine W_seq_if rfl (fun c13 => ?_) fun c13 => ?_
   ·
    have r6 := r5 j (by omega)
    refine W_seq_skip (W_seq_blockg fun Q14 n14 x14 y14 z14 => (W_r (R_idx (i := j) t30 t32 (by first | omega | (simp; omega) | (simp; done)) rfl (R_load_pp (v := (ints ((nth (((nth (t.nd) (n))).ou) (j))))) rfl (by first | rfl | simp [ldV]) (R_mv (@rfl V (ints ((nth (((nth (t.nd) (n))).ou) (j))))) (R_e (W_t ?_)))))))
    refine R_mv t6 (R_mv (@rfl V (ints ((nth (((nth (t.nd) (n))).ou) (j))))) (R_bslice (qs := [(0, (ints ((nth (((nth (t.nd) (n))).ou) (j)))))]) (rows := [[(ints ((nth (((nth (t.nd) (n))).ou) (j))))]]) (mcons (congrArg (fun v => (0, v)) rfl) rfl) rfl (R_callc (evcons rfl evnil) (pjoin_pure ([(nth (((nth (t.nd) (n))).ou) (j))]) (by simp only [cat, List.append_nil]; omega)) (R_bslice (qs := [(0, (ints (cat ([(nth (((nth (t.nd) (n))).ou) (j))]))))]) (rows := [[(ints (cat ([(nth (((nth (t.nd) (n))).ou) (j))])))]]) (mcons (congrArg (fun v => (0, v)) rfl) rfl) rfl (R_append1 (l := ((nth t.nd n).ou.take j)) (f := cL) (x := (cat ([(nth (((nth (t.nd) (n))).ou) (j))]))) (@rfl V (V.ms 7028 (w28 + 1 + j) 0 (j))) h7028 (by first | rfl | (rw [List.length_take]; omega) | simp | omega) (@rfl V (V.sl [[(ints (cat ([(nth (((nth (t.nd) (n))).ou) (j))])))]])) rfl rfl (by first | omega | (simp; omega) | (simp; done)) (by first | omega | (simp; omega) | (simp; done)) (R_mv (@rfl V (V.ms 7028 (w28 + 1 + j + 1) 0 (j + 1))) (R_e ?_)))))))
    refine n14 _ _ (.done (W_t (R_addN t32 (@rfl V (iV ((1 : Nat) : Int))) (by first | omega | (simp; omega) | (simp; done)) (R_mv (@rfl V (iV ((j + 1 : Nat) : Int))) (R_e ?_)))))
    refine p112 _ _ _ ?_ ⟨(j + 1), rfl, t2, t3, t4, t5, (Eq.trans (@rfl V (V.ms 7028 (w28 + 1 + j + 1) 0 (j + 1))) (by first | rfl | (rw [hto]; done) | (rw [hent]; rfl) | (rw [hje]; done) | simp)), t17, t18, t19, t30, t31, (Eq.trans (@rfl V (iV ((j + 1 : Nat) : Int))) (by first | rfl | (rw [hto]; done) | (rw [hent]; rfl) | (rw [hje]; done) | simp)), (upd_out hF (by decide)), h201, h202, h205, h212, h228, h258, (Eq.trans (@rfl Blk (bk (w28 + 1 + j + 1) 25 1 (List.map cL ((nth t.nd n).ou.take j ++ [cat ([(nth (((nth (t.nd) (n))).ou) (j))])])))) (by first | rfl | (rw [map_cat1 (show j < (nth t.nd k).ou.length by omega)]; done) | (rw [map_cat1 (show j < (nth t.nd n).ou.length by omega)]; rfl) | (rw [cp_row (show k < t.nd.length by omega) (show (nth t.nd k).ou.length ≤ j by omega)]; done) | (rw [hje, List.take_length]; done) | (rw [hje]; done) | (rw [sets_back (f := cN) (l := t.nd) (i := k) (j := n) (by omega) (by omega) (cp_cN (show (nth t.nd k).ou.length ≤ j by omega))]; done) | simp)), h7058, ?_⟩
    · omega
    · omega
   have hje : j = (nth t.nd n).ou.length := by omega
   refine W_seq_exit (p312 _ _ _ (x11 _ _ (.done (W_dtk 7000 (by exact (lateC (h7058).2 lateN)) (R_mv t3 (R_mv t4 (R_fld_mp (o' := 0) t5 h205 oB rfl ?_)))))))
   refine R_load_mp (v := (V.bool (((nth (t.nd) (n))).lf))) rfl h205 (lB oB rfl rfl) (R_fld_mp (o' := 1) t5 h205 oB rfl (R_load_mp (v := (ints (((nth (t.nd) (n))).ac))) rfl h205 (lB oB rfl rfl) (R_bslice (qs := [(0, (ints (((nth (t.nd) (n))).ac)))]) (rows := [[(ints (((nth (t.nd) (n))).ac))]]) (mcons (congrArg (fun v => (0, v)) rfl) rfl) rfl (R_callc (evcons rfl evnil) (pjoin_pure ([((nth (t.nd) (n))).ac]) (by simp only [cat, List.append_nil]; omega)) (R_fld_mp (o' := 2) t5 h205 oB rfl (R_load_mp (v := (ints (((nth (t.nd) (n))).sf))) rfl h205 (lB oB rfl rfl) (R_bslice (qs := [(0, (ints (((nth (t.nd) (n))).sf)))]) (rows := [[(ints (((nth (t.nd) (n))).sf))]]) (mcons (congrArg (fun v => (0, v)) rfl) rfl) rfl ?_)))))))
   refine R_callc (evcons rfl evnil) (pjoin_pure ([((nth (t.nd) (n))).sf]) (by simp only [cat, List.append_nil]; omega)) (R_mv t6 (R_fld_mp (o' := 4) t5 h205 oB rfl (R_load_mp (v := (ints (((nth (t.nd) (n))).kd))) rfl h205 (lB oB rfl rfl) (R_callA (i := 7058) (n := w58) (B := (bz (w58 + 3) 3 1 (List.map cI (((nth (t.nd) (n))).kd)))) (by rfl) (h7058).1 (evcons rfl evnil) rfl (fun H2 h2 => cloneA 7058 (by decide) (((nth (t.nd) (n))).kd) w58 H2 h2 (by omega)) (R_build (qs := [(0, 1, (V.bool (((nth (t.nd) (n))).lf))), (1, 1, (ints (cat ([((nth (t.nd) (n))).ac])))), (2, 1, (ints (cat ([((nth (t.nd) (n))).sf])))), (3, 1, (V.ms 7028 (w28 + 1 + j) 0 (j))), (4, 1, (V.ms 7058 (w58 + 3) 0 ((((nth (t.nd) (n))).kd).length)))]) (cs := [(V.bool (((nth (t.nd) (n))).lf)), (ints (cat ([((nth (t.nd) (n))).ac]))), (ints (cat ([((nth (t.nd) (n))).sf]))), (V.ms 7028 (w28 + 1 + j) 0 (j)), (V.ms 7058 (w58 + 3) 0 ((((nth (t.nd) (n))).kd).length))]) (mcons (congrArg (fun v => (0, 1, v)) rfl) (mcons (congrArg (fun v => (1, 1, v)) rfl) (mcons (congrArg (fun v => (2, 1, v)) rfl) (mcons (congrArg (fun v => (3, 1, v)) rfl) (mcons (congrArg (fun v => (4, 1, v)) rfl) rfl))))) rfl (R_idx_ms0 (i := n) (@rfl V (V.ms 212 (u12 + 1) 0 (t.nd.length))) (@rfl V (iV ((n : Nat) : Int))) h212 oB rfl (by first | omega | (simp; omega) | (simp; done)) (R_store (vs := [(V.bool (((nth (t.nd) (n))).lf)), (ints (cat ([((nth (t.nd) (n))).ac]))), (ints (cat ([((nth (t.nd) (n))).sf]))), (V.ms 7028 (w28 + 1 + j) 0 (j)), (V.ms 7058 (w58 + 3) 0 ((((nth (t.nd) (n))).kd).length))]) (B' := (bk (u12 + 1) 41 5 ((List.map cN (t.nd)).set n [(V.bool (((nth (t.nd) (n))).lf)), (ints (cat ([((nth (t.nd) (n))).ac]))), (ints (cat ([((nth (t.nd) (n))).sf]))), (V.ms 7028 (w28 + 1 + j) 0 (j)), (V.ms 7058 (w58 + 3) 0 ((((nth (t.nd) (n))).kd).length))]))) rfl rfl rfl h212 (stB_setc (i := n) (by first | omega | (simp; omega) | (simp; done)) rfl rfl rfl) ?_)))))))
   refine R_e (n10 _ _ (.done (W_t (R_addN t19 (@rfl V (iV ((1 : Nat) : Int))) (by first | omega | (simp; omega) | (simp; done)) (R_mv (@rfl V (iV ((n + 1 : Nat) : Int))) (R_e ?_))))))
   refine p12 _ _ _ ?_ (Or.inr (Or.inr (⟨(n + 1), (v205 + 1), v228, v258, rfl, t2, t3, t17, t18, (Eq.trans (@rfl V (iV ((n + 1 : Nat) : Int))) (by first | rfl | (rw [hto]; done) | (rw [hent]; rfl) | (rw [hje]; done) | simp)), (upd_out (upd_out hF (by decide)) (by decide)), h201, h202, (congrArg Blk.ver h205), (Eq.trans (@rfl Blk (bk (u12 + 1) 41 5 ((List.map cN (t.nd)).set n [(V.bool (((nth (t.nd) (n))).lf)), (ints (cat ([((nth (t.nd) (n))).ac]))), (ints (cat ([((nth (t.nd) (n))).sf]))), (V.ms 7028 (w28 + 1 + j) 0 (j)), (V.ms 7058 (w58 + 3) 0 ((((nth (t.nd) (n))).kd).length))]))) (by first | rfl | (rw [map_cat1 (show j < (nth t.nd k).ou.length by omega)]; done) | (rw [map_cat1 (show j < (nth t.nd n).ou.length by omega)]; rfl) | (rw [cp_row (show k < t.nd.length by omega) (show (nth t.nd k).ou.length ≤ j by omega)]; done) | (rw [hje, List.take_length]; done) | (rw [hje]; done) | (rw [sets_back (f := cN) (l := t.nd) (i := k) (j := n) (by omega) (by omega) (cp_cN (show (nth t.nd k).ou.length ≤ j by omega))]; done) | simp)), h228, h258, (Eq.trans h7028 (by first | rfl | (rw [map_cat1 (show j < (nth t.nd k).ou.length by omega)]; done) | (rw [map_cat1 (show j < (nth t.nd n).ou.length by omega)]; rfl) | (rw [cp_row (show k < t.nd.length by omega) (show (nth t.nd k).ou.length ≤ j by omega)]; done) | (rw [hje, List.take_length]; done) | (rw [hje]; done) | (rw [sets_back (f := cN) (l := t.nd) (i := k) (j := n) (by omega) (by omega) (cp_cN (show (nth t.nd k).ou.length ≤ j by omega))]; done) | simp)), (Eq.trans (@rfl Blk (bz (w58 + 3) 3 1 (List.map cI (((nth (t.nd) (n))).kd)))) (by first | rfl | (rw [map_cat1 (show j < (nth t.nd k).ou.length by omega)]; done) | (rw [map_cat1 (show j < (nth t.nd n).ou.length by omega)]; rfl) | (rw [cp_row (show k < t.nd.length by omega) (show (nth t.nd k).ou.length ≤ j by omega)]; done) | (rw [hje, List.take_length]; done) | (rw [hje]; done) | (rw [sets_back (f := cN) (l := t.nd) (i := k) (j := n) (by omega) (by omega) (cp_cN (show (nth t.nd k).ou.length ≤ j by omega))]; done) | simp)), ?_, ?_, ?_, ?_, ?_⟩)))
   · omega
   · omega
   · omega
   · omega
   · rw [Nat.succ_mul]; exact Nat.le_trans hv28 (Nat.add_le_add_left (Nat.le_add_right _ _) _)
   · omega
  · exfalso; omega
 ·
  unfold b22_0
  refine W_r (R_lss t19 t18 (R_e ?_))
  refine W_seq_if rfl (fun c15 => ?_) fun c15 => ?_
  ·
   have r1 := hb.ac k (by omega)
   have r2 := hb.sf k (by omega)
   have r3 := hb.ou k (by omega)
   have r4 := hb.kd k (by omega)
   have r5 := hb.ol k (by omega)
   refine W_seq_skip (W_seq_blockg fun Q16 n16 x16 y16 z16 => (W_r (R_mv t19 (R_idx_ms0 (i := k) t17 t19 h212 oB rfl (by first | omega | (simp; omega) | (simp; done)) (R_load_mp (v := (V.agg (cN (((nth (t.nd) (k))))))) rfl h212 (ldB_setc (by first | omega | (simp; omega) | (simp; done)) (by first | omega | (simp; omega) | (simp; done)) (by first | rfl | simp [ldV, V.one])) (R_alloc (i := 205) (n := v205) (m := 5) (by rfl) h205 rfl (R_mv (@rfl V (iV ((k : Nat) : Int))) ?_)))))))
   refine R_store (vs := [(V.bool (((nth (t.nd) (k))).lf)), (ints (((nth (t.nd) (k))).ac)), (ints (((nth (t.nd) (k))).sf)), (intss (((nth (t.nd) (k))).ou)), (ints (((nth (t.nd) (k))).kd))]) (B' := (bk (v205 + 1) 41 5 [(cN (((nth (t.nd) (k)))))])) rfl rfl rfl rfl (sB oB rfl rfl rfl rfl rfl) (R_e (W_r (R_fld_mp (o' := 3) rfl rfl oB rfl (R_load_mp (v := (intss (((nth (t.nd) (k))).ou))) rfl rfl (lB oB rfl rfl) (R_len rfl (R_addN rfl (@rfl V (iV ((1 : Nat) : Int))) (by first | omega | (simp; omega) | (simp; done)) ?_))))))
   refine (R_mks (i := 228) (n := v228) (m := 0) (q := (((((nth (t.nd) (k))).ou).length) + 1)) (by rfl) h228 (@rfl V (iV (0 : Int))) (@rfl V (iV ((((((nth (t.nd) (k))).ou).length) + 1 : Nat) : Int))) (by first | omega | (simp; omega) | (simp; done)) (by first | omega | (simp; omega) | (simp; done)) (by first | omega | (simp; omega) | (simp; done)) ?_)
   refine R_mv (@rfl V (V.ms 228 (v228 + 1) 0 (0))) (R_e (W_seq_seq (W_r (R_fld_mp (o' := 3) rfl rfl oB rfl (R_load_mp (v := (intss (((nth (t.nd) (k))).ou))) rfl rfl (lB oB rfl rfl) (R_len rfl (R_mv (@rfl V (iV (0 : Int))) ?_)))))))
   refine R_e (W_seq_blockg fun Q17 n17 x17 y17 z17 => ?_)
   refine W_loop (fun mm T H => ∃ (j : Nat) (w : Nat), mm = (nth t.nd k).ou.length - j ∧ T 2 = (V.mp 202 (u2 + 1) 0 0) ∧ T 3 = (V.ms 212 (u12 + 1) 0 (t.nd.length)) ∧ T 4 = (iV ((k : Nat) : Int)) ∧ T 5 = (V.mp 205 (v205 + 1) 0 0) ∧ T 6 = (V.ms 228 w 0 (j)) ∧ T 17 = (V.ms 212 (u12 + 1) 0 (t.nd.length)) ∧ T 18 = (iV ((t.nd.length : Nat) : Int)) ∧ T 19 = (iV ((k : Nat) : Int)) ∧ T 30 = (intss (((nth (t.nd) (k))).ou)) ∧ T 31 = (iV (((((nth (t.nd) (k))).ou).length : Nat) : Int)) ∧ T 32 = (iV ((j : Nat) : Int)) ∧ (∀ j, j ∉ [201, 202, 205, 228, 258, 7028, 7058, 212] → H j = Hi j) ∧ H 201 = (bk (u1 + 1) 24 1 [[(V.sl (List.map cN (t.nd)))]]) ∧ H 202 = (bk (u2 + 1) 24 1 [[V.nilsl]]) ∧ H 205 = (bk (v205 + 1) 41 5 [(cN (((nth (t.nd) (k)))))]) ∧ H 212 = (bk (u12 + 1) 41 5 ((List.map cN (t.nd)).set n [(V.bool ((nth t.nd n).lf)), (ints (cat [(nth t.nd n).ac])), (ints (cat [(nth t.nd n).sf])), (V.ms 7028 (w28 + 1 + (nth t.nd n).ou.length) 0 ((nth t.nd n).ou.length)), (V.ms 7058 (w58 + 3) 0 ((nth t.nd n).kd.length))])) ∧ H 228 = (bk w 25 1 (List.map cL ((nth t.nd k).ou.take j))) ∧ ((H 258).ver = v258 ∧ (H 258).live = false) ∧ H 7028 = (bk (w28 + 1 + (nth t.nd n).ou.length) 25 1 (List.map cL ((nth t.nd n).ou))) ∧ H 7058 = (bz (w58 + 3) 3 1 (List.map cI ((nth t.nd n).kd))) ∧ (j ≤ (nth t.nd k).ou.length) ∧ (w ≤ v228 + 1 + j)) ?_ ?_
   ·
    refine ⟨_, 0, (v228 + 1), rfl, t2, t3, rfl, rfl, (Eq.trans (@rfl V (V.ms 228 (v228 + 1) 0 (0))) (by first | rfl | (rw [hto]; done) | (rw [hent]; rfl) | (rw [hje]; done) | simp)), t17, t18, t19, rfl, rfl, (Eq.trans (@rfl V (iV (0 : Int))) rfl), (upd_out (upd_out (upd_out hF (by decide)) (by decide)) (by decide)), h201, h202, rfl, h212, (Eq.trans (@rfl Blk (bk (v228 + 1) 25 1 (List.replicate (0) [V.nilsl]))) (by first | rfl | (rw [map_cat1 (show j < (nth t.nd k).ou.length by omega)]; done) | (rw [map_cat1 (show j < (nth t.nd n).ou.length by omega)]; rfl) | (rw [cp_row (show k < t.nd.length by omega) (show (nth t.nd k).ou.length ≤ j by omega)]; done) | (rw [hje, List.take_length]; done) | (rw [hje]; done) | (rw [sets_back (f := cN) (l := t.nd) (i := k) (j := n) (by omega) (by omega) (cp_cN (show (nth t.nd k).ou.length ≤ j by omega))]; done) | simp)), h258, h7028, h7058, ?_, ?_⟩
    · omega
    · omega
   intro mm T H ⟨j, w, hmm, t2, t3, t4, t5, t6, t17, t18, t19, t30, t31, t32, hF, h201, h202, h205, h212, h228, h258, h7028, h7058, hj, hw⟩ Q18 p118 p218 p318
   unfold b22_1
   refine W_r (R_lss t32 t31 (R_e ?_))
   refine W_seq_if rfl (fun c19 => ?_) fun c19 => ?_
   ·
    have r6 := r5 j (by omega)
    refine W_seq_skip (W_seq_blockg fun Q20 n20 x20 y20 z20 => (W_r (R_idx (i := j) t30 t32 (by first | omega | (simp; omega) | (simp; done)) rfl (R_load_pp (v := (ints ((nth (((nth (t.nd) (k))).ou) (j))))) rfl (by first | rfl | simp [ldV]) (R_mv (@rfl V (ints ((nth (((nth (t.nd) (k))).ou) (j))))) (R_e (W_t ?_)))))))
    refine R_mv t6 (R_mv (@rfl V (ints ((nth (((nth (t.nd) (k))).ou) (j))))) (R_bslice (qs := [(0, (ints ((nth (((nth (t.nd) (k))).ou) (j)))))]) (rows := [[(ints ((nth (((nth (t.nd) (k))).ou) (j))))]]) (mcons (congrArg (fun v => (0, v)) rfl) rfl) rfl (R_callc (evcons rfl evnil) (pjoin_pure ([(nth (((nth (t.nd) (k))).ou) (j))]) (by simp only [cat, List.append_nil]; omega)) (R_bslice (qs := [(0, (ints (cat ([(nth (((nth (t.nd) (k))).ou) (j))]))))]) (rows := [[(ints (cat ([(nth (((nth (t.nd) (k))).ou) (j))])))]]) (mcons (congrArg (fun v => (0, v)) rfl) rfl) rfl (R_append1 (l := ((nth t.nd k).ou.take j)) (f := cL) (x := (cat ([(nth (((nth (t.nd) (k))).ou) (j))]))) (@rfl V (V.ms 228 w 0 (j))) h228 (by first | rfl | (rw [List.length_take]; omega) | simp | omega) (@rfl V (V.sl [[(ints (cat ([(nth (((nth (t.nd) (k))).ou) (j))])))]])) rfl rfl (by first | omega | (simp; omega) | (simp; done)) (by first | omega | (simp; omega) | (simp; done)) (R_mv (@rfl V (V.ms 228 (w + 1) 0 (j + 1))) (R_e ?_)))))))
    refine n20 _ _ (.done (W_t (R_addN t32 (@rfl V (iV ((1 : Nat) : Int))) (by first | omega | (simp; omega) | (simp; done)) (R_mv (@rfl V (iV ((j + 1 : Nat) : Int))) (R_e ?_)))))
    refine p118 _ _ _ ?_ ⟨(j + 1), (w + 1), rfl, t2, t3, t4, t5, (Eq.trans (@rfl V (V.ms 228 (w + 1) 0 (j + 1))) (by first | rfl | (rw [hto]; done) | (rw [hent]; rfl) | (rw [hje]; done) | simp)), t17, t18, t19, t30, t31, (Eq.trans (@rfl V (iV ((j + 1 : Nat) : Int))) (by first | rfl | (rw [hto]; done) | (rw [hent]; rfl) | (rw [hje]; done) | simp)), (upd_out hF (by decide)), h201, h202, h205, h212, (Eq.trans (@rfl Blk (bk (w + 1) 25 1 (List.map cL ((nth t.nd k).ou.take j ++ [cat ([(nth (((nth (t.nd) (k))).ou) (j))])])))) (by first | rfl | (rw [map_cat1 (show j < (nth t.nd k).ou.length by omega)]; done) | (rw [map_cat1 (show j < (nth t.nd n).ou.length by omega)]; rfl) | (rw [cp_row (show k < t.nd.length by omega) (show (nth t.nd k).ou.length ≤ j by omega)]; done) | (rw [hje, List.take_length]; done) | (rw [hje]; done) | (rw [sets_back (f := cN) (l := t.nd) (i := k) (j := n) (by omega) (by omega) (cp_cN (show (nth t.nd k).ou.length ≤ j by omega))]; done) | simp)), h258, h7028, h7058, ?_, ?_⟩
    · omega
    · omega
    · omega
   refine W_seq_exit (p318 _ _ _ (x17 _ _ (.done (W_dt (by exact (lateC (h258).2 lateN)) (R_mv t3 (R_mv t4 (R_fld_mp (o' := 0) t5 h205 oB rfl ?_)))))))
   refine R_load_mp (v := (V.bool (((nth (t.nd) (k))).lf))) rfl h205 (lB oB rfl rfl) (R_fld_mp (o' := 1) t5 h205 oB rfl (R_load_mp (v := (ints (((nth (t.nd) (k))).ac))) rfl h205 (lB oB rfl rfl) (R_bslice (qs := [(0, (ints (((nth (t.nd) (k))).ac)))]) (rows := [[(ints (((nth (t.nd) (k))).ac))]]) (mcons (congrArg (fun v => (0, v)) rfl) rfl) rfl (R_callc (evcons rfl evnil) (pjoin_pure ([((nth (t.nd) (k))).ac]) (by simp only [cat, List.append_nil]; omega)) (R_fld_mp (o' := 2) t5 h205 oB rfl (R_load_mp (v := (ints (((nth (t.nd) (k))).sf))) rfl h205 (lB oB rfl rfl) (R_bslice (qs := [(0, (ints (((nth (t.nd) (k))).sf)))]) (rows := [[(ints (((nth (t.nd) (k))).sf))]]) (mcons (congrArg (fun v => (0, v)) rfl) rfl) rfl ?_)))))))
   refine R_callc (evcons rfl evnil) (pjoin_pure ([((nth (t.nd) (k))).sf]) (by simp only [cat, List.append_nil]; omega)) (R_mv t6 (R_fld_mp (o' := 4) t5 h205 oB rfl (R_load_mp (v := (ints (((nth (t.nd) (k))).kd))) rfl h205 (lB oB rfl rfl) (R_callA (i := 258) (n := v258) (B := (bz (v258 + 3) 3 1 (List.map cI (((nth (t.nd) (k))).kd)))) (by rfl) (h258).1 (evcons rfl evnil) rfl (fun H2 h2 => cloneA 258 (by decide) (((nth (t.nd) (k))).kd) v258 H2 h2 (by omega)) (R_build (qs := [(0, 1, (V.bool (((nth (t.nd) (k))).lf))), (1, 1, (ints (cat ([((nth (t.nd) (k))).ac])))), (2, 1, (ints (cat ([((nth (t.nd) (k))).sf])))), (3, 1, (V.ms 228 w 0 (j))), (4, 1, (V.ms 258 (v258 + 3) 0 ((((nth (t.nd) (k))).kd).length)))]) (cs := [(V.bool (((nth (t.nd) (k))).lf)), (ints (cat ([((nth (t.nd) (k))).ac]))), (ints (cat ([((nth (t.nd) (k))).sf]))), (V.ms 228 w 0 (j)), (V.ms 258 (v258 + 3) 0 ((((nth (t.nd) (k))).kd).length))]) (mcons (congrArg (fun v => (0, 1, v)) rfl) (mcons (congrArg (fun v => (1, 1, v)) rfl) (mcons (congrArg (fun v => (2, 1, v)) rfl) (mcons (congrArg (fun v => (3, 1, v)) rfl) (mcons (congrArg (fun v => (4, 1, v)) rfl) rfl))))) rfl (R_idx_ms0 (i := k) (@rfl V (V.ms 212 (u12 + 1) 0 (t.nd.length))) (@rfl V (iV ((k : Nat) : Int))) h212 oB rfl (by first | omega | (simp; omega) | (simp; done)) (R_store (vs := [(V.bool (((nth (t.nd) (k))).lf)), (ints (cat ([((nth (t.nd) (k))).ac]))), (ints (cat ([((nth (t.nd) (k))).sf]))), (V.ms 228 w 0 (j)), (V.ms 258 (v258 + 3) 0 ((((nth (t.nd) (k))).kd).length))]) (B' := (bk (u12 + 1) 41 5 (((List.map cN (t.nd)).set n [(V.bool ((nth t.nd n).lf)), (ints (cat [(nth t.nd n).ac])), (ints (cat [(nth t.nd n).sf])), (V.ms 7028 (w28 + 1 + (nth t.nd n).ou.length) 0 ((nth t.nd n).ou.length)), (V.ms 7058 (w58 + 3) 0 ((nth t.nd n).kd.length))]).set k [(V.bool (((nth (t.nd) (k))).lf)), (ints (cat ([((nth (t.nd) (k))).ac]))), (ints (cat ([((nth (t.nd) (k))).sf]))), (V.ms 228 w 0 (j)), (V.ms 258 (v258 + 3) 0 ((((nth (t.nd) (k))).kd).length))]))) rfl rfl rfl h212 (stB_sets (i := k) (nth_setc (by first | omega | (simp; omega) | (simp; done)) (by first | omega | (simp; omega) | (simp; done))) rfl rfl rfl) ?_)))))))
   refine R_e (n16 _ _ (fork_ (R := fun T H => T 2 = (V.mp 202 (u2 + 1) 0 0) ∧ T 3 = (V.ms 212 (u12 + 1) 0 (t.nd.length)) ∧ T 17 = (V.ms 212 (u12 + 1) 0 (t.nd.length)) ∧ T 18 = (iV ((t.nd.length : Nat) : Int)) ∧ T 19 = (iV ((k : Nat) : Int)) ∧ (∀ j, j ∉ [201, 202, 205, 228, 258, 7028, 7058, 212] → H j = Hi j) ∧ H 201 = (bk (u1 + 1) 24 1 [[(V.sl (List.map cN (t.nd)))]]) ∧ H 202 = (bk (u2 + 1) 24 1 [[V.nilsl]]) ∧ H 205 = (bk (v205 + 1) 41 5 [(cN (((nth (t.nd) (k)))))]) ∧ H 212 = (bk (u12 + 1) 41 5 (((List.map cN (t.nd)).set n [(V.bool ((nth t.nd n).lf)), (ints (cat [(nth t.nd n).ac])), (ints (cat [(nth t.nd n).sf])), (V.ms 7028 (w28 + 1 + (nth t.nd n).ou.length) 0 ((nth t.nd n).ou.length)), (V.ms 7058 (w58 + 3) 0 ((nth t.nd n).kd.length))]).set k [(V.bool (((nth (t.nd) (k))).lf)), (ints (cat ([((nth (t.nd) (k))).ac]))), (ints (cat ([((nth (t.nd) (k))).sf]))), (V.ms 228 w 0 (j)), (V.ms 258 (v258 + 3) 0 ((((nth (t.nd) (k))).kd).length))])) ∧ H 228 = (bk w 25 1 (List.map cL ((nth t.nd k).ou.take j))) ∧ H 258 = (bz (v258 + 3) 3 1 (List.map cI (((nth (t.nd) (k))).kd))) ∧ H 7028 = (bk (w28 + 1 + (nth t.nd n).ou.length) 25 1 (List.map cL ((nth t.nd n).ou))) ∧ H 7058 = (bz (w58 + 3) 3 1 (List.map cI ((nth t.nd n).kd))) ∧ True) ⟨t2, t3, t17, t18, t19, (upd_out (upd_out hF (by decide)) (by decide)), h201, h202, h205, rfl, h228, rfl, h7028, h7058, trivial⟩ ?_))
   intro T H ⟨t2, t3, t17, t18, t19, hF, h201, h202, h205, h212, h228, h258, h7028, h7058, _⟩
   refine frz_cellg (id := 228) (id2 := 212) (rows := ((List.map cN (t.nd)).set n [(V.bool ((nth t.nd n).lf)), (ints (cat [(nth t.nd n).ac])), (ints (cat [(nth t.nd n).sf])), (V.ms 7028 (w28 + 1 + (nth t.nd n).ou.length) 0 ((nth t.nd n).ou.length)), (V.ms 7058 (w58 + 3) 0 ((nth t.nd n).kd.length))])) (i := k) (off := 3) (r := [(V.bool (((nth (t.nd) (k))).lf)), (ints (cat ([((nth (t.nd) (k))).ac]))), (ints (cat ([((nth (t.nd) (k))).sf]))), (V.ms 228 w 0 (j)), (V.ms 258 (v258 + 3) 0 ((((nth (t.nd) (k))).kd).length))]) (m := ((nth t.nd k).ou.take j)) (g := cL) (by decide) h228 h212 (by first | omega | (simp; omega) | (simp; done)) (by first | rfl | (rw [List.length_take]; omega) | simp | omega) rfl (fork_ (R := fun T H => T 2 = (V.mp 202 (u2 + 1) 0 0) ∧ T 3 = (V.ms 212 (u12 + 1) 0 (t.nd.length)) ∧ T 17 = (V.ms 212 (u12 + 1) 0 (t.nd.length)) ∧ T 18 = (iV ((t.nd.length : Nat) : Int)) ∧ T 19 = (iV ((k : Nat) : Int)) ∧ (∀ j, j ∉ [201, 202, 205, 228, 258, 7028, 7058, 212] → H j = Hi j) ∧ H 201 = (bk (u1 + 1) 24 1 [[(V.sl (List.map cN (t.nd)))]]) ∧ H 202 = (bk (u2 + 1) 24 1 [[V.nilsl]]) ∧ H 205 = (bk (v205 + 1) 41 5 [(cN (((nth (t.nd) (k)))))]) ∧ H 212 = (bk (u12 + 1) 41 5 (((List.map cN (t.nd)).set n [(V.bool ((nth t.nd n).lf)), (ints (cat [(nth t.nd n).ac])), (ints (cat [(nth t.nd n).sf])), (V.ms 7028 (w28 + 1 + (nth t.nd n).ou.length) 0 ((nth t.nd n).ou.length)), (V.ms 7058 (w58 + 3) 0 ((nth t.nd n).kd.length))]).set k [(V.bool (((nth (t.nd) (k))).lf)), (ints (cat ([((nth (t.nd) (k))).ac]))), (ints (cat ([((nth (t.nd) (k))).sf]))), (intss ((nth t.nd k).ou.take j)), (V.ms 258 (v258 + 3) 0 ((((nth (t.nd) (k))).kd).length))])) ∧ ((H 228).ver = w ∧ (H 228).live = false) ∧ H 258 = (bz (v258 + 3) 3 1 (List.map cI (((nth (t.nd) (k))).kd))) ∧ H 7028 = (bk (w28 + 1 + (nth t.nd n).ou.length) 25 1 (List.map cL ((nth t.nd n).ou))) ∧ H 7058 = (bz (w58 + 3) 3 1 (List.map cI ((nth t.nd n).kd))) ∧ True) ⟨(fzT_q t2 rfl), (fzT_q t3 (fzq_other (by decide))), (fzT_q t17 (fzq_other (by decide))), (fzT_q t18 rfl), (fzT_q t19 rfl), (upd_out (kill_out hF (by decide)) (by decide)), ((upd_ne _ _ (by decide)).trans (kill_ne h201 (by decide))), ((upd_ne _ _ (by decide)).trans (kill_ne h202 (by decide))), ((upd_ne _ _ (by decide)).trans (kill_ne h205 (by decide))), (upd_same _ _ _), ⟨(congrArg Blk.ver (upd_ne _ _ (by decide))).trans (kill_self (congrArg Blk.ver h228)).1, (congrArg Blk.live (upd_ne _ _ (by decide))).trans (kill_self (congrArg Blk.ver h228)).2⟩, ((upd_ne _ _ (by decide)).trans (kill_ne h258 (by decide))), ((upd_ne _ _ (by decide)).trans (kill_ne h7028 (by decide))), ((upd_ne _ _ (by decide)).trans (kill_ne h7058 (by decide))), trivial⟩ ?_)
   intro T H ⟨t2, t3, t17, t18, t19, hF, h201, h202, h205, h212, h228, h258, h7028, h7058, _⟩
   refine frz_cellg (id := 258) (id2 := 212) (rows := ((List.map cN (t.nd)).set n [(V.bool ((nth t.nd n).lf)), (ints (cat [(nth t.nd n).ac])), (ints (cat [(nth t.nd n).sf])), (V.ms 7028 (w28 + 1 + (nth t.nd n).ou.length) 0 ((nth t.nd n).ou.length)), (V.ms 7058 (w58 + 3) 0 ((nth t.nd n).kd.length))])) (i := k) (off := 4) (r := [(V.bool (((nth (t.nd) (k))).lf)), (ints (cat ([((nth (t.nd) (k))).ac]))), (ints (cat ([((nth (t.nd) (k))).sf]))), (intss ((nth t.nd k).ou.take j)), (V.ms 258 (v258 + 3) 0 ((((nth (t.nd) (k))).kd).length))]) (m := (((nth (t.nd) (k))).kd)) (g := cI) (by decide) h258 h212 (by first | omega | (simp; omega) | (simp; done)) (by first | rfl | (rw [List.length_take]; omega) | simp | omega) rfl (.done ?_)
   refine fork_ (R := fun T H => T 2 = (V.mp 202 (u2 + 1) 0 0) ∧ T 3 = (V.ms 212 (u12 + 1) 0 (t.nd.length)) ∧ T 17 = (V.ms 212 (u12 + 1) 0 (t.nd.length)) ∧ T 18 = (iV ((t.nd.length : Nat) : Int)) ∧ T 19 = (iV ((k : Nat) : Int)) ∧ (∀ j, j ∉ [201, 202, 205, 228, 258, 7028, 7058, 212] → H j = Hi j) ∧ H 201 = (bk (u1 + 1) 24 1 [[(V.sl (List.map cN (t.nd)))]]) ∧ H 202 = (bk (u2 + 1) 24 1 [[V.nilsl]]) ∧ H 205 = (bk (v205 + 1) 41 5 [(cN (((nth (t.nd) (k)))))]) ∧ H 212 = (bk (u12 + 1) 41 5 (((List.map cN (t.nd)).set n [(V.bool ((nth t.nd n).lf)), (ints (cat [(nth t.nd n).ac])), (ints (cat [(nth t.nd n).sf])), (V.ms 7028 (w28 + 1 + (nth t.nd n).ou.length) 0 ((nth t.nd n).ou.length)), (V.ms 7058 (w58 + 3) 0 ((nth t.nd n).kd.length))]).set k [(V.bool (((nth (t.nd) (k))).lf)), (ints (cat ([((nth (t.nd) (k))).ac]))), (ints (cat ([((nth (t.nd) (k))).sf]))), (intss ((nth t.nd k).ou.take j)), (ints (((nth (t.nd) (k))).kd))])) ∧ ((H 228).ver = w ∧ (H 228).live = false) ∧ ((H 258).ver = v258 + 3 ∧ (H 258).live = false) ∧ H 7028 = (bk (w28 + 1 + (nth t.nd n).ou.length) 25 1 (List.map cL ((nth t.nd n).ou))) ∧ H 7058 = (bz (w58 + 3) 3 1 (List.map cI ((nth t.nd n).kd))) ∧ True) ⟨(fzT_q t2 rfl), (fzT_q t3 (fzq_other (by decide))), (fzT_q t17 (fzq_other (by decide))), (fzT_q t18 rfl), (fzT_q t19 rfl), (upd_out (kill_out hF (by decide)) (by decide)), ((upd_ne _ _ (by decide)).trans (kill_ne h201 (by decide))), ((upd_ne _ _ (by decide)).trans (kill_ne h202 (by decide))), ((upd_ne _ _ (by decide)).trans (kill_ne h205 (by decide))), (upd_same _ _ _), ⟨(congrArg Blk.ver (upd_ne _ _ (by decide))).trans (kill_dead h228).1, (congrArg Blk.live (upd_ne _ _ (by decide))).trans (kill_dead h228).2⟩, ⟨(congrArg Blk.ver (upd_ne _ _ (by decide))).trans (kill_self (congrArg Blk.ver h258)).1, (congrArg Blk.live (upd_ne _ _ (by decide))).trans (kill_self (congrArg Blk.ver h258)).2⟩, ((upd_ne _ _ (by decide)).trans (kill_ne h7028 (by decide))), ((upd_ne _ _ (by decide)).trans (kill_ne h7058 (by decide))), trivial⟩ ?_
   intro T H ⟨t2, t3, t17, t18, t19, hF, h201, h202, h205, h212, h228, h258, h7028, h7058, _⟩
   refine W_t (R_addN t19 (@rfl V (iV ((1 : Nat) : Int))) (by first | omega | (simp; omega) | (simp; done)) (R_mv (@rfl V (iV ((k + 1 : Nat) : Int))) (R_e ?_)))
   refine p12 _ _ _ ?_ (Or.inr (Or.inr (⟨(k + 1), (v205 + 1), w, (v258 + 3), rfl, t2, t3, t17, t18, (Eq.trans (@rfl V (iV ((k + 1 : Nat) : Int))) (by first | rfl | (rw [hto]; done) | (rw [hent]; rfl) | (rw [hje]; done) | simp)), hF, h201, h202, (congrArg Blk.ver h205), (Eq.trans h212 (by first | rfl | (rw [map_cat1 (show j < (nth t.nd k).ou.length by omega)]; done) | (rw [map_cat1 (show j < (nth t.nd n).ou.length by omega)]; rfl) | (rw [cp_row (show k < t.nd.length by omega) (show (nth t.nd k).ou.length ≤ j by omega)]; done) | (rw [hje, List.take_length]; done) | (rw [hje]; done) | (rw [sets_back (f := cN) (l := t.nd) (i := k) (j := n) (by omega) (by omega) (cp_cN (show (nth t.nd k).ou.length ≤ j by omega))]; done) | simp)), (h228).1, h258, h7028, h7058, ?_, ?_, ?_, ?_, ?_⟩)))
   · omega
   · omega
   · omega
   · omega
   · omega
   · omega
  refine W_seq_exit (p32 _ _ _ (x1 _ _ (.done (W_r (R_mv t3 (R_build (qs := [(0, 1, (V.ms 212 (u12 + 1) 0 (t.nd.length)))]) (cs := [(V.ms 212 (u12 + 1) 0 (t.nd.length))]) (mcons (congrArg (fun v => (0, 1, v)) rfl) rfl) rfl (R_store (vs := [(V.ms 212 (u12 + 1) 0 (t.nd.length))]) (B' := (bk (u2 + 1) 24 1 [[(V.ms 212 (u12 + 1) 0 (t.nd.length))]])) t2 rfl rfl h202 (sB oB rfl rfl rfl rfl rfl) ?_)))))))
  refine R_e (W_ret (fork_ (R := fun T H => T 2 = (V.mp 202 (u2 + 1) 0 0) ∧ (∀ j, j ∉ [201, 202, 205, 228, 258, 7028, 7058, 212] → H j = Hi j) ∧ H 201 = (bk (u1 + 1) 24 1 [[(V.sl (List.map cN (t.nd)))]]) ∧ H 202 = (bk (u2 + 1) 24 1 [[(V.ms 212 (u12 + 1) 0 (t.nd.length))]]) ∧ (H 205).ver = v205 ∧ H 212 = (bk (u12 + 1) 41 5 ((List.map cN (t.nd)).set n [(V.bool ((nth t.nd n).lf)), (ints (cat [(nth t.nd n).ac])), (ints (cat [(nth t.nd n).sf])), (V.ms 7028 (w28 + 1 + (nth t.nd n).ou.length) 0 ((nth t.nd n).ou.length)), (V.ms 7058 (w58 + 3) 0 ((nth t.nd n).kd.length))])) ∧ (H 228).ver = v228 ∧ ((H 258).ver = v258 ∧ (H 258).live = false) ∧ H 7028 = (bk (w28 + 1 + (nth t.nd n).ou.length) 25 1 (List.map cL ((nth t.nd n).ou))) ∧ H 7058 = (bz (w58 + 3) 3 1 (List.map cI ((nth t.nd n).kd))) ∧ True) ⟨t2, (upd_out hF (by decide)), h201, rfl, h205, h212, h228, h258, h7028, h7058, trivial⟩ ?_))
  intro T H ⟨t2, hF, h201, h202, h205, h212, h228, h258, h7028, h7058, _⟩
  have hkn : k = t.nd.length := by omega
  subst hkn
  have fh := FinX.fin (FinX.put (FinX.put (FinX.put (FinX.putv (n := v258) (B := (⟨u58 + 3 * t.nd.length, false, false, 0, 0, []⟩ : Blk)) (FinX.putv (n := v228) (B := (⟨u28 + t.nd.length * 1048578, false, false, 0, 0, []⟩ : Blk)) (FinX.putv (n := v205) (B := (⟨u5 + t.nd.length, false, false, 0, 0, []⟩ : Blk)) (FinX.putv (n := (u2 + 1)) (B := (⟨u2 + 1, false, false, 0, 0, []⟩ : Blk)) (FinX.putv (n := (u1 + 1)) (B := (⟨u1 + 1, false, false, 0, 0, []⟩ : Blk)) (FinX.start hF) (congrArg Blk.ver h201) (by show _ ≤ u1 + 1; omega) rfl) (congrArg Blk.ver h202) (by show _ ≤ u2 + 1; omega) rfl) h205 (by show _ ≤ u5 + t.nd.length; omega) rfl) h228 (by show _ ≤ u28 + t.nd.length * 1048578; omega) rfl) (h258).1 (by show _ ≤ u58 + 3 * t.nd.length; omega) rfl) h7028 (FinB.eq rfl)) h7058 (FinB.eq rfl)) h212 (FinB.eq rfl))
  exact RetFC_1 (resV_c (u := (V.agg [(V.ms 212 (u12 + 1) 0 (t.nd.length))])) t2 h202 (lB oB rfl rfl)) fh (FinV.agg1 (FinV.same fh _))
end Go.Proofs.Ytmnjchcoigbngaa
namespace Go.Proofs.Ytmnjchcoigbngaa
open Go Go.Proofs
theorem revcL52_E (l : List (List Int)) (v : Nat) (z : Bool) (Hi : Heap) (hq : Hi 52 = (⟨v, true, z, 25, 1, (List.map cL (l))⟩ : Blk)) (hl : l.length ≤ 1073741824) : CallOK Try.prog 25 [(V.ms 52 v 0 (l.length))] Hi (V.tup []) (upd Hi 52 (⟨v, true, z, 25, 1, (List.map cL (l.reverse))⟩ : Blk)) := by
 refine eW (k0 := 600) Try.func25 s25_ok fun hB => ?_
 unfold s25
 dsimp only
 refine W_r (R_mv (@rfl V (V.ms 52 v 0 (l.length))) (R_len_ms rfl hq (by first | rfl | simp) (R_sub rfl rfl (by first | omega | (simp only [List.length_set]; omega)) (by first | omega | (simp only [List.length_set]; omega)) (R_mv (@rfl V (iV (0 : Int))) (R_mv (@rfl V (iV (((l.length : Nat) : Int) - (1 : Int)))) (R_e (W_block fun Q1 n1 x1 y1 z1 => ?_)))))))
 refine W_loop (fun mm T H => ∃ (k : Nat), mm = l.length - k ∧ T 0 = (V.ms 52 v 0 (l.length)) ∧ T 2 = (iV ((k : Nat) : Int)) ∧ T 3 = (iV (((l.length : Nat) : Int) - 1 - k)) ∧ (∀ j, j ∉ [52] → H j = Hi j) ∧ H 52 = (⟨v, true, z, 25, 1, (List.map cL (rvL l k))⟩ : Blk) ∧ (2 * k ≤ l.length + 1)) ?_ ?_
 ·
  refine ⟨_, 0, rfl, rfl, (Eq.trans (@rfl V (iV (0 : Int))) rfl), (Eq.trans (@rfl V (iV (((l.length : Nat) : Int) - (1 : Int)))) (by first | rfl | (exact congrArg (V.int .i64) (by omega)) | simp)), (fun _ _ => rfl), (Eq.trans hq (by first | rfl | (rw [rv_zero]; done) | (rw [show (((l.length : Nat) : Int) - 1 - (k : Int)).toNat = l.length - 1 - k by omega, rv_step (by omega) (by omega)]; done) | (rw [rv_end (by omega) (by omega)]; done))), ?_⟩
  · omega
 intro mm T H ⟨k, hmm, t0, t2, t3, hF, h52, hk⟩ Q2 p12 p22 p32
 unfold b25_0
 have q1 := rv_len l k
 refine W_seq_seq (W_r (R_mv t2 (R_mv t3 (R_lss rfl rfl (R_e ?_)))))
 refine W_seq_if rfl (fun c3 => ?_) fun c3 => ?_
 ·
  refine W_seq_skip (W_seq_blockg fun Q4 n4 x4 y4 z4 => (W_t (R_mv t0 (R_mv t2 (R_mv t0 (R_mv t3 (R_mv t0 ?_)))))))
  refine R_mv t3 (R_idxI_ms0 (i := (((l.length : Nat) : Int) - 1 - k)) (@rfl V (V.ms 52 v 0 (l.length))) (@rfl V (iV (((l.length : Nat) : Int) - 1 - k))) h52 (okB_map (by first | omega | (simp only [List.length_set]; omega))) rfl (by first | omega | (simp only [List.length_set]; omega)) (by first | omega | (simp only [List.length_set]; omega)) (R_load_mp (v := (ints ((nth (rvL l k) (((((l.length : Nat) : Int) - 1 - k)).toNat))))) rfl h52 (ldB_map (by first | omega | (simp only [List.length_set]; omega)) (by first | rfl | simp [ldV, V.one])) (R_mv t0 (R_mv t2 (R_idx_ms0 (i := k) (@rfl V (V.ms 52 v 0 (l.length))) (@rfl V (iV ((k : Nat) : Int))) h52 (okB_map (by first | omega | (simp only [List.length_set]; omega))) rfl (by first | omega | (simp only [List.length_set]; omega)) (R_load_mp (v := (ints ((nth (rvL l k) (k))))) rfl h52 (ldB_map (by first | omega | (simp only [List.length_set]; omega)) (by first | rfl | simp [ldV, V.one])) (R_idx_ms0 (i := k) (@rfl V (V.ms 52 v 0 (l.length))) (@rfl V (iV ((k : Nat) : Int))) h52 (okB_map (by first | omega | (simp only [List.length_set]; omega))) rfl (by first | omega | (simp only [List.length_set]; omega)) ?_)))))))
  refine R_store (vs := [(ints ((nth (rvL l k) (((((l.length : Nat) : Int) - 1 - k)).toNat))))]) (B' := (⟨v, true, z, 25, 1, (List.map cL ((rvL l k).set k ((nth (rvL l k) (((((l.length : Nat) : Int) - 1 - k)).toNat)))))⟩ : Blk)) rfl rfl rfl h52 (stB_map (x := ((nth (rvL l k) (((((l.length : Nat) : Int) - 1 - k)).toNat)))) (i := k) (by first | omega | (simp only [List.length_set]; omega)) rfl rfl rfl rfl) (R_idxI_ms0 (i := (((l.length : Nat) : Int) - 1 - k)) (@rfl V (V.ms 52 v 0 (l.length))) (@rfl V (iV (((l.length : Nat) : Int) - 1 - k))) (@rfl Blk (⟨v, true, z, 25, 1, (List.map cL ((rvL l k).set k ((nth (rvL l k) (((((l.length : Nat) : Int) - 1 - k)).toNat)))))⟩ : Blk)) (okB_map (by first | omega | (simp only [List.length_set]; omega))) rfl (by first | omega | (simp only [List.length_set]; omega)) (by first | omega | (simp only [List.length_set]; omega)) (R_store (vs := [(ints ((nth (rvL l k) (k))))]) (B' := (⟨v, true, z, 25, 1, (List.map cL (((rvL l k).set k ((nth (rvL l k) (((((l.length : Nat) : Int) - 1 - k)).toNat)))).set (((((l.length : Nat) : Int) - 1 - k)).toNat) ((nth (rvL l k) (k)))))⟩ : Blk)) rfl rfl rfl (@rfl Blk (⟨v, true, z, 25, 1, (List.map cL ((rvL l k).set k ((nth (rvL l k) (((((l.length : Nat) : Int) - 1 - k)).toNat)))))⟩ : Blk)) (stB_map (x := ((nth (rvL l k) (k)))) (i := (((((l.length : Nat) : Int) - 1 - k)).toNat)) (by first | omega | (simp only [List.length_set]; omega)) rfl rfl rfl rfl) (R_e (n4 _ _ (.done (W_t (R_mv t2 ?_)))))))
  refine R_addN rfl (@rfl V (iV ((1 : Nat) : Int))) (by first | omega | (simp only [List.length_set]; omega)) (R_mv t3 (R_sub rfl rfl (by first | omega | (simp only [List.length_set]; omega)) (by first | omega | (simp only [List.length_set]; omega)) (R_mv (@rfl V (iV ((k + 1 : Nat) : Int))) (R_mv (@rfl V (iV ((((l.length : Nat) : Int) - 1 - k) - (1 : Int)))) (R_e ?_)))))
  refine p12 _ _ _ ?_ ⟨(k + 1), rfl, t0, (Eq.trans (@rfl V (iV ((k + 1 : Nat) : Int))) (by first | rfl | (exact congrArg (V.int .i64) (by omega)) | simp)), (Eq.trans (@rfl V (iV ((((l.length : Nat) : Int) - 1 - k) - (1 : Int)))) (by first | rfl | (exact congrArg (V.int .i64) (by omega)) | simp)), (upd_out (upd_out hF (by decide)) (by decide)), (Eq.trans (@rfl Blk (⟨v, true, z, 25, 1, (List.map cL (((rvL l k).set k ((nth (rvL l k) (((((l.length : Nat) : Int) - 1 - k)).toNat)))).set (((((l.length : Nat) : Int) - 1 - k)).toNat) ((nth (rvL l k) (k)))))⟩ : Blk)) (by first | rfl | (rw [rv_zero]; done) | (rw [show (((l.length : Nat) : Int) - 1 - (k : Int)).toNat = l.length - 1 - k by omega, rv_step (by omega) (by omega)]; done) | (rw [rv_end (by omega) (by omega)]; done))), ?_⟩
  · omega
  · omega
 refine W_seq_exit (p32 _ _ _ (x1 _ _ (fork_ (R := fun T H => T 0 = (V.ms 52 v 0 (l.length)) ∧ T 2 = (iV ((k : Nat) : Int)) ∧ T 3 = (iV (((l.length : Nat) : Int) - 1 - k)) ∧ T 9 = (V.bool (decide (((k : Nat) : Int) < (((l.length : Nat) : Int) - 1 - k)))) ∧ (∀ j, j ∉ [52] → H j = Hi j) ∧ H 52 = (⟨v, true, z, 25, 1, (List.map cL (rvL l k))⟩ : Blk) ∧ True) ⟨t0, t2, t3, (@rfl V (V.bool (decide (((k : Nat) : Int) < (((l.length : Nat) : Int) - 1 - k))))), hF, h52, trivial⟩ ?_)))
 intro T H ⟨t0, t2, t3, t9, hF, h52, _⟩
 skip
 have fh := FinX.fin (FinX.put (B := (⟨v, true, z, 25, 1, (List.map cL (l.reverse))⟩ : Blk)) (FinX.start hF) h52 (FinB.eq (by first | rfl | (rw [rv_zero]; done) | (rw [show (((l.length : Nat) : Int) - 1 - (k : Int)).toNat = l.length - 1 - k by omega, rv_step (by omega) (by omega)]; done) | (rw [rv_end (by omega) (by omega)]; done))))
 exact RetF_0 fh
theorem revcI60_E (l : List Int) (v : Nat) (z : Bool) (Hi : Heap) (hq : Hi 60 = (⟨v, true, z, 3, 1, (List.map cI (l))⟩ : Blk)) (hl : l.length ≤ 1073741824) : CallOK Try.prog 26 [(V.ms 60 v 0 (l.length))] Hi (V.tup []) (upd Hi 60 (⟨v, true, z, 3, 1, (List.map cI (l.reverse))⟩ : Blk)) := by
 refine eW (k0 := 600) Try.func26 s26_ok fun hB => ?_
 unfold s26
 dsimp only
 refine W_r (R_mv (@rfl V (V.ms 60 v 0 (l.length))) (R_len_ms rfl hq (by first | rfl | simp) (R_sub rfl rfl (by first | omega | (simp only [List.length_set]; omega)) (by first | omega | (simp only [List.length_set]; omega)) (R_mv (@rfl V (iV (0 : Int))) (R_mv (@rfl V (iV (((l.length : Nat) : Int) - (1 : Int)))) (R_e (W_block fun Q1 n1 x1 y1 z1 => ?_)))))))
 refine W_loop (fun mm T H => ∃ (k : Nat), mm = l.length - k ∧ T 0 = (V.ms 60 v 0 (l.length)) ∧ T 2 = (iV ((k : Nat) : Int)) ∧ T 3 = (iV (((l.length : Nat) : Int) - 1 - k)) ∧ (∀ j, j ∉ [60] → H j = Hi j) ∧ H 60 = (⟨v, true, z, 3, 1, (List.map cI (rvL l k))⟩ : Blk) ∧ (2 * k ≤ l.length + 1)) ?_ ?_
 ·
  refine ⟨_, 0, rfl, rfl, (Eq.trans (@rfl V (iV (0 : Int))) rfl), (Eq.trans (@rfl V (iV (((l.length : Nat) : Int) - (1 : Int)))) (by first | rfl | (exact congrArg (V.int .i64) (by omega)) | simp)), (fun _ _ => rfl), (Eq.trans hq (by first | rfl | (rw [rv_zero]; done) | (rw [show (((l.length : Nat) : Int) - 1 - (k : Int)).toNat = l.length - 1 - k by omega, rv_step (by omega) (by omega)]; done) | (rw [rv_end (by omega) (by omega)]; done))), ?_⟩
  · omega
 intro mm T H ⟨k, hmm, t0, t2, t3, hF, h60, hk⟩ Q2 p12 p22 p32
 unfold b26_0
 have q1 := rv_len l k
 refine W_seq_seq (W_r (R_mv t2 (R_mv t3 (R_lss rfl rfl (R_e ?_)))))
 refine W_seq_if rfl (fun c3 => ?_) fun c3 => ?_
 ·
  refine W_seq_skip (W_seq_blockg fun Q4 n4 x4 y4 z4 => (W_t (R_mv t0 (R_mv t2 (R_mv t0 (R_mv t3 (R_mv t0 ?_)))))))
  refine R_mv t3 (R_idxI_ms0 (i := (((l.length : Nat) : Int) - 1 - k)) (@rfl V (V.ms 60 v 0 (l.length))) (@rfl V (iV (((l.length : Nat) : Int) - 1 - k))) h60 (okB_map (by first | omega | (simp only [List.length_set]; omega))) rfl (by first | omega | (simp only [List.length_set]; omega)) (by first | omega | (simp only [List.length_set]; omega)) (R_load_mp (v := (iV ((nth (rvL l k) (((((l.length : Nat) : Int) - 1 - k)).toNat))))) rfl h60 (ldB_map (by first | omega | (simp only [List.length_set]; omega)) (by first | rfl | simp [ldV, V.one])) (R_mv t0 (R_mv t2 (R_idx_ms0 (i := k) (@rfl V (V.ms 60 v 0 (l.length))) (@rfl V (iV ((k : Nat) : Int))) h60 (okB_map (by first | omega | (simp only [List.length_set]; omega))) rfl (by first | omega | (simp only [List.length_set]; omega)) (R_load_mp (v := (iV ((nth (rvL l k) (k))))) rfl h60 (ldB_map (by first | omega | (simp only [List.length_set]; omega)) (by first | rfl | simp [ldV, V.one])) (R_idx_ms0 (i := k) (@rfl V (V.ms 60 v 0 (l.length))) (@rfl V (iV ((k : Nat) : Int))) h60 (okB_map (by first | omega | (simp only [List.length_set]; omega))) rfl (by first | omega | (simp only [List.length_set]; omega)) ?_)))))))
  refine R_store (vs := [(iV ((nth (rvL l k) (((((l.length : Nat) : Int) - 1 - k)).toNat))))]) (B' := (⟨v, true, z, 3, 1, (List.map cI ((rvL l k).set k (((nth (rvL l k) (((((l.length : Nat) : Int) - 1 - k)).toNat))))))⟩ : Blk)) rfl rfl rfl h60 (stB_map (x := (((nth (rvL l k) (((((l.length : Nat) : Int) - 1 - k)).toNat))))) (i := k) (by first | omega | (simp only [List.length_set]; omega)) rfl rfl rfl rfl) (R_idxI_ms0 (i := (((l.length : Nat) : Int) - 1 - k)) (@rfl V (V.ms 60 v 0 (l.length))) (@rfl V (iV (((l.length : Nat) : Int) - 1 - k))) (@rfl Blk (⟨v, true, z, 3, 1, (List.map cI ((rvL l k).set k (((nth (rvL l k) (((((l.length : Nat) : Int) - 1 - k)).toNat))))))⟩ : Blk)) (okB_map (by first | omega | (simp only [List.length_set]; omega))) rfl (by first | omega | (simp only [List.length_set]; omega)) (by first | omega | (simp only [List.length_set]; omega)) (R_store (vs := [(iV ((nth (rvL l k) (k))))]) (B' := (⟨v, true, z, 3, 1, (List.map cI (((rvL l k).set k (((nth (rvL l k) (((((l.length : Nat) : Int) - 1 - k)).toNat))))).set (((((l.length : Nat) : Int) - 1 - k)).toNat) (((nth (rvL l k) (k))))))⟩ : Blk)) rfl rfl rfl (@rfl Blk (⟨v, true, z, 3, 1, (List.map cI ((rvL l k).set k (((nth (rvL l k) (((((l.length : Nat) : Int) - 1 - k)).toNat))))))⟩ : Blk)) (stB_map (x := (((nth (rvL l k) (k))))) (i := (((((l.length : Nat) : Int) - 1 - k)).toNat)) (by first | omega | (simp only [List.length_set]; omega)) rfl rfl rfl rfl) (R_e (n4 _ _ (.done (W_t (R_mv t2 ?_)))))))
  refine R_addN rfl (@rfl V (iV ((1 : Nat) : Int))) (by first | omega | (simp only [List.length_set]; omega)) (R_mv t3 (R_sub rfl rfl (by first | omega | (simp only [List.length_set]; omega)) (by first | omega | (simp only [List.length_set]; omega)) (R_mv (@rfl V (iV ((k + 1 : Nat) : Int))) (R_mv (@rfl V (iV ((((l.length : Nat) : Int) - 1 - k) - (1 : Int)))) (R_e ?_)))))
  refine p12 _ _ _ ?_ ⟨(k + 1), rfl, t0, (Eq.trans (@rfl V (iV ((k + 1 : Nat) : Int))) (by first | rfl | (exact congrArg (V.int .i64) (by omega)) | simp)), (Eq.trans (@rfl V (iV ((((l.length : Nat) : Int) - 1 - k) - (1 : Int)))) (by first | rfl | (exact congrArg (V.int .i64) (by omega)) | simp)), (upd_out (upd_out hF (by decide)) (by decide)), (Eq.trans (@rfl Blk (⟨v, true, z, 3, 1, (List.map cI (((rvL l k).set k (((nth (rvL l k) (((((l.length : Nat) : Int) - 1 - k)).toNat))))).set (((((l.length : Nat) : Int) - 1 - k)).toNat) (((nth (rvL l k) (k))))))⟩ : Blk)) (by first | rfl | (rw [rv_zero]; done) | (rw [show (((l.length : Nat) : Int) - 1 - (k : Int)).toNat = l.length - 1 - k by omega, rv_step (by omega) (by omega)]; done) | (rw [rv_end (by omega) (by omega)]; done))), ?_⟩
  · omega
  · omega
 refine W_seq_exit (p32 _ _ _ (x1 _ _ (fork_ (R := fun T H => T 0 = (V.ms 60 v 0 (l.length)) ∧ T 2 = (iV ((k : Nat) : Int)) ∧ T 3 = (iV (((l.length : Nat) : Int) - 1 - k)) ∧ T 9 = (V.bool (decide (((k : Nat) : Int) < (((l.length : Nat) : Int) - 1 - k)))) ∧ (∀ j, j ∉ [60] → H j = Hi j) ∧ H 60 = (⟨v, true, z, 3, 1, (List.map cI (rvL l k))⟩ : Blk) ∧ True) ⟨t0, t2, t3, (@rfl V (V.bool (decide (((k : Nat) : Int) < (((l.length : Nat) : Int) - 1 - k))))), hF, h60, trivial⟩ ?_)))
 intro T H ⟨t0, t2, t3, t9, hF, h60, _⟩
 skip
 have fh := FinX.fin (FinX.put (B := (⟨v, true, z, 3, 1, (List.map cI (l.reverse))⟩ : Blk)) (FinX.start hF) h60 (FinB.eq (by first | rfl | (rw [rv_zero]; done) | (rw [show (((l.length : Nat) : Int) - 1 - (k : Int)).toNat = l.length - 1 - k by omega, rv_step (by omega) (by omega)]; done) | (rw [rv_end (by omega) (by omega)]; done))))
 exact RetF_0 fh
end Go.Proofs.Ytmnjchcoigbngaa
