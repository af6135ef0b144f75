/- Contracts of the functions that the law DC reaches, and the law itself, for every input; no condition. -/
import Derived.KernelRfl
import Derived.Test.YtmnjchcoigbngaaGreatProg
import Derived.Shelf.Spec.SlicesInsertGrow
import Derived.Shelf.SlSortCmp.KitK
import Derived.Shelf.Spec.SlicesGrow
import Derived.Test.YtmnjchcoigbngaaGreatDC1
set_option linter.unusedSimpArgs false
set_option linter.unusedVariables false
namespace Go.Proofs.YtmnjchcoigbngaaGreat
open Go Go.Proofs
def r112_0 : List SO := [
  ⟨none, some 3, .mv (.c (.bool false))⟩]
def r112_1 : List SO := [
  ⟨none, some 4, .mv (.t 0)⟩,
  ⟨none, some 5, .load false 1 (.t 1)⟩,
  ⟨none, some 6, .call false 96 [.t 4, .t 5]⟩,
  ⟨none, some 3, .mv (.t 6)⟩]
def s112 : SF := ⟨7, [.tmp 3], .seq (.reg r112_0) (.seq (.reg r112_1) (.ret))⟩
theorem s112_ok : slimF Tryz.prog ⟨[57, 58, 59, 63, 67, 68, 77, 102, 103, 104, 110, 116, 120], []⟩ Tryz.f112 = some s112 := by kernel_rfl
end Go.Proofs.YtmnjchcoigbngaaGreat


namespace Go.Proofs.YtmnjchcoigbngaaGreat
open Go Go.Proofs
def r115_0 : List SO := [
  ⟨none, some 4, .mv (.c (.int .i64 0))⟩]
def r115_1 : List SO := [
  ⟨none, some 6, .mv (.t 0)⟩,
  ⟨none, some 7, .len (.t 6)⟩,
  ⟨none, some 8, .mv (.c (.int .i64 0))⟩]
def r115_2 : List SO := [
  ⟨none, some 9, .bin .lss (.t 8) (.t 7)⟩]
def r115_3 : List SO := [
  ⟨none, some 10, .mv (.t 8)⟩,
  ⟨none, some 5, .mv (.t 10)⟩]
def r115_4 : List SO := [
  ⟨none, some 11, .mv (.t 1)⟩,
  ⟨none, some 12, .mv (.t 0)⟩,
  ⟨none, some 13, .mv (.t 5)⟩,
  ⟨none, some 14, .idx 1 (.t 12) (.t 13)⟩,
  ⟨none, some 15, .load false 1 (.t 14)⟩,
  ⟨none, some 16, .bin .eql (.t 11) (.t 15)⟩]
def r115_5 : List SO := [
  ⟨none, some 17, .mv (.t 5)⟩,
  ⟨none, some 4, .mv (.t 17)⟩]
def r115_6 : List SO := [
  ⟨none, some 18, .bin .add (.t 8) (.c (.int .i64 1))⟩,
  ⟨none, some 8, .mv (.t 18)⟩]
def b115_0 : SC := .seq (.reg r115_2) (.seq (.cond (.t 9) (.skip) (.exit 0)) (.seq (.block 1 (.seq (.reg r115_3) (.seq (.reg r115_4) (.cond (.t 16) (.seq (.reg r115_5) (.ret)) (.skip))))) (.reg r115_6)))
def r115_7 : List SO := [
  ⟨none, some 4, .mv (.c (.int .i64 (-1)))⟩]
def s115 : SF := ⟨19, [.tmp 4], .seq (.reg r115_0) (.seq (.seq (.reg r115_1) (.block 0 (.loop b115_0))) (.seq (.reg r115_7) (.ret)))⟩
theorem s115_ok : slimF Tryz.prog ⟨[57, 58, 59, 63, 67, 68, 77, 102, 103, 104, 110, 116, 120], []⟩ Tryz.f115 = some s115 := by kernel_rfl
end Go.Proofs.YtmnjchcoigbngaaGreat


namespace Go.Proofs.YtmnjchcoigbngaaGreat
open Go Go.Proofs
def r116_0 : List SO := [
  ⟨none, some 10, .mv (.c (.bool true))⟩]
def r116_1 : List SO := [
  ⟨none, some 11, .mv (.c (.bool true))⟩]
def r116_2 : List SO := [
  ⟨none, some 21, .mv (.t 2)⟩,
  ⟨none, some 22, .mv (.t 1)⟩,
  ⟨none, some 23, .bin .sub (.t 21) (.t 22)⟩,
  ⟨none, some 12, .mv (.t 23)⟩]
def r116_3 : List SO := [
  ⟨none, some 24, .mv (.t 12)⟩,
  ⟨none, some 25, .bin .leq (.t 24) (.c (.int .i64 12))⟩]
def r116_4 : List SO := [
  ⟨none, some 26, .mv (.t 0)⟩,
  ⟨none, some 27, .mv (.t 1)⟩,
  ⟨none, some 28, .mv (.t 2)⟩,
  ⟨none, some 29, .mv (.t 4)⟩,
  ⟨none, some 30, .call true 120 [.t 26, .t 27, .t 28, .t 29]⟩]
def r116_5 : List SO := [
  ⟨none, some 31, .mv (.t 3)⟩,
  ⟨none, some 32, .bin .eql (.t 31) (.c (.int .i64 0))⟩]
def r116_6 : List SO := [
  ⟨none, some 33, .mv (.t 0)⟩,
  ⟨none, some 34, .mv (.t 1)⟩,
  ⟨none, some 35, .mv (.t 2)⟩,
  ⟨none, some 36, .mv (.t 4)⟩,
  ⟨none, some 37, .call false 121 [.t 33, .t 34, .t 35, .t 36]⟩]
def r116_7 : List SO := [
  ⟨none, some 38, .mv (.t 10)⟩,
  ⟨none, some 39, .un .not (.t 38)⟩]
def r116_8 : List SO := [
  ⟨none, some 40, .mv (.t 0)⟩,
  ⟨none, some 41, .mv (.t 1)⟩,
  ⟨none, some 42, .mv (.t 2)⟩,
  ⟨none, some 43, .mv (.t 4)⟩,
  ⟨none, some 44, .call false 122 [.t 40, .t 41, .t 42, .t 43]⟩]
def r116_9 : List SO := [
  ⟨none, some 45, .mv (.t 3)⟩,
  ⟨none, some 46, .bin .sub (.t 45) (.c (.int .i64 1))⟩,
  ⟨none, some 3, .mv (.t 46)⟩]
def r116_10 : List SO := [
  ⟨none, some 48, .mv (.t 0)⟩,
  ⟨none, some 49, .mv (.t 1)⟩,
  ⟨none, some 50, .mv (.t 2)⟩,
  ⟨none, some 51, .mv (.t 4)⟩,
  ⟨none, some 52, .call false 123 [.t 48, .t 49, .t 50, .t 51]⟩,
  ⟨none, some 47, .mv (.t 52)⟩,
  ⟨none, some 53, .ext (.t 47) 0⟩,
  ⟨none, some 54, .ext (.t 47) 1⟩,
  ⟨none, some 13, .mv (.t 53)⟩,
  ⟨none, some 14, .mv (.t 54)⟩]
def r116_11 : List SO := [
  ⟨none, some 55, .mv (.t 14)⟩,
  ⟨none, some 56, .bin .eql (.t 55) (.c (.int .i64 2))⟩]
def r116_12 : List SO := [
  ⟨none, some 57, .mv (.t 0)⟩,
  ⟨none, some 58, .mv (.t 1)⟩,
  ⟨none, some 59, .mv (.t 2)⟩,
  ⟨none, some 60, .mv (.t 4)⟩,
  ⟨none, some 61, .call false 124 [.t 57, .t 58, .t 59, .t 60]⟩]
def r116_13 : List SO := [
  ⟨none, some 62, .mv (.t 2)⟩,
  ⟨none, some 63, .bin .sub (.t 62) (.c (.int .i64 1))⟩,
  ⟨none, some 64, .mv (.t 13)⟩,
  ⟨none, some 65, .mv (.t 1)⟩,
  ⟨none, some 66, .bin .sub (.t 64) (.t 65)⟩,
  ⟨none, some 67, .bin .sub (.t 63) (.t 66)⟩,
  ⟨none, some 13, .mv (.t 67)⟩]
def r116_14 : List SO := [
  ⟨none, some 14, .mv (.c (.int .i64 1))⟩]
def r116_15 : List SO := [
  ⟨none, some 68, .mv (.t 10)⟩,
  ⟨none, some 69, .mv (.t 68)⟩,
  ⟨some (69, true), some 70, .mv (.t 11)⟩,
  ⟨none, some 71, .pick (.t 69) (.t 70) (.c (.bool false))⟩,
  ⟨none, some 72, .mv (.t 71)⟩,
  ⟨some (72, true), some 73, .mv (.t 14)⟩,
  ⟨some (72, true), some 74, .bin .eql (.t 73) (.c (.int .i64 1))⟩,
  ⟨none, some 75, .pick (.t 72) (.t 74) (.c (.bool false))⟩]
def r116_16 : List SO := [
  ⟨none, some 76, .mv (.t 0)⟩,
  ⟨none, some 77, .mv (.t 1)⟩,
  ⟨none, some 78, .mv (.t 2)⟩,
  ⟨none, some 79, .mv (.t 4)⟩,
  ⟨none, some 80, .call false 125 [.t 76, .t 77, .t 78, .t 79]⟩]
def r116_17 : List SO := [
  ⟨none, some 81, .mv (.t 1)⟩,
  ⟨none, some 82, .bin .gtr (.t 81) (.c (.int .i64 0))⟩,
  ⟨none, some 83, .mv (.t 82)⟩,
  ⟨some (83, true), some 84, .mv (.t 4)⟩,
  ⟨some (83, true), some 85, .mv (.t 0)⟩,
  ⟨some (83, true), some 86, .mv (.t 1)⟩,
  ⟨some (83, true), some 87, .bin .sub (.t 86) (.c (.int .i64 1))⟩,
  ⟨some (83, true), some 88, .idx 1 (.t 85) (.t 87)⟩,
  ⟨some (83, true), some 89, .load false 1 (.t 88)⟩,
  ⟨some (83, true), some 90, .mv (.t 0)⟩,
  ⟨some (83, true), some 91, .mv (.t 13)⟩,
  ⟨some (83, true), some 92, .idx 1 (.t 90) (.t 91)⟩,
  ⟨some (83, true), some 93, .load false 1 (.t 92)⟩,
  ⟨some (83, true), some 94, .callv false (.t 84) [.t 89, .t 93]⟩,
  ⟨some (83, true), some 95, .bin .lss (.t 94) (.c (.int .i64 0))⟩,
  ⟨some (83, true), some 96, .un .not (.t 95)⟩,
  ⟨none, some 97, .pick (.t 83) (.t 96) (.c (.bool false))⟩]
def r116_18 : List SO := [
  ⟨none, some 98, .mv (.t 0)⟩,
  ⟨none, some 99, .mv (.t 1)⟩,
  ⟨none, some 100, .mv (.t 2)⟩,
  ⟨none, some 101, .mv (.t 13)⟩,
  ⟨none, some 102, .mv (.t 4)⟩,
  ⟨none, some 103, .call false 126 [.t 98, .t 99, .t 100, .t 101, .t 102]⟩,
  ⟨none, some 15, .mv (.t 103)⟩]
def r116_19 : List SO := [
  ⟨none, some 104, .mv (.t 15)⟩,
  ⟨none, some 1, .mv (.t 104)⟩]
def r116_20 : List SO := [
  ⟨none, some 106, .mv (.t 0)⟩,
  ⟨none, some 107, .mv (.t 1)⟩,
  ⟨none, some 108, .mv (.t 2)⟩,
  ⟨none, some 109, .mv (.t 13)⟩,
  ⟨none, some 110, .mv (.t 4)⟩,
  ⟨none, some 111, .call false 127 [.t 106, .t 107, .t 108, .t 109, .t 110]⟩,
  ⟨none, some 105, .mv (.t 111)⟩,
  ⟨none, some 112, .ext (.t 105) 0⟩,
  ⟨none, some 113, .ext (.t 105) 1⟩,
  ⟨none, some 16, .mv (.t 112)⟩,
  ⟨none, some 17, .mv (.t 113)⟩]
def r116_21 : List SO := [
  ⟨none, some 114, .mv (.t 17)⟩,
  ⟨none, some 11, .mv (.t 114)⟩]
def r116_22 : List SO := [
  ⟨none, some 115, .mv (.t 16)⟩,
  ⟨none, some 116, .mv (.t 1)⟩,
  ⟨none, some 117, .bin .sub (.t 115) (.t 116)⟩,
  ⟨none, some 118, .mv (.t 2)⟩,
  ⟨none, some 119, .mv (.t 16)⟩,
  ⟨none, some 120, .bin .sub (.t 118) (.t 119)⟩,
  ⟨none, some 18, .mv (.t 117)⟩,
  ⟨none, some 19, .mv (.t 120)⟩]
def r116_23 : List SO := [
  ⟨none, some 121, .mv (.t 12)⟩,
  ⟨none, some 122, .bin .quo (.t 121) (.c (.int .i64 8))⟩,
  ⟨none, some 20, .mv (.t 122)⟩]
def r116_24 : List SO := [
  ⟨none, some 123, .mv (.t 18)⟩,
  ⟨none, some 124, .mv (.t 19)⟩,
  ⟨none, some 125, .bin .lss (.t 123) (.t 124)⟩]
def r116_25 : List SO := [
  ⟨none, some 126, .mv (.t 18)⟩,
  ⟨none, some 127, .mv (.t 20)⟩,
  ⟨none, some 128, .bin .geq (.t 126) (.t 127)⟩,
  ⟨none, some 10, .mv (.t 128)⟩]
def r116_26 : List SO := [
  ⟨none, some 129, .mv (.t 0)⟩,
  ⟨none, some 130, .mv (.t 1)⟩,
  ⟨none, some 131, .mv (.t 16)⟩,
  ⟨none, some 132, .mv (.t 3)⟩,
  ⟨none, some 133, .mv (.t 4)⟩,
  ⟨none, some 134, .call true 116 [.t 129, .t 130, .t 131, .t 132, .t 133]⟩]
def r116_27 : List SO := [
  ⟨none, some 135, .mv (.t 16)⟩,
  ⟨none, some 136, .bin .add (.t 135) (.c (.int .i64 1))⟩,
  ⟨none, some 1, .mv (.t 136)⟩]
def r116_28 : List SO := [
  ⟨none, some 137, .mv (.t 19)⟩,
  ⟨none, some 138, .mv (.t 20)⟩,
  ⟨none, some 139, .bin .geq (.t 137) (.t 138)⟩,
  ⟨none, some 10, .mv (.t 139)⟩]
def r116_29 : List SO := [
  ⟨none, some 140, .mv (.t 0)⟩,
  ⟨none, some 141, .mv (.t 16)⟩,
  ⟨none, some 142, .bin .add (.t 141) (.c (.int .i64 1))⟩,
  ⟨none, some 143, .mv (.t 2)⟩,
  ⟨none, some 144, .mv (.t 3)⟩,
  ⟨none, some 145, .mv (.t 4)⟩,
  ⟨none, some 146, .call true 116 [.t 140, .t 142, .t 143, .t 144, .t 145]⟩]
def r116_30 : List SO := [
  ⟨none, some 147, .mv (.t 16)⟩,
  ⟨none, some 2, .mv (.t 147)⟩]
def b116_0 : SC := .block 1 (.seq (.reg r116_2) (.seq (.seq (.reg r116_3) (.cond (.t 25) (.seq (.reg r116_4) (.ret)) (.skip))) (.seq (.seq (.reg r116_5) (.cond (.t 32) (.seq (.reg r116_6) (.ret)) (.skip))) (.seq (.seq (.reg r116_7) (.cond (.t 39) (.seq (.reg r116_8) (.reg r116_9)) (.skip))) (.seq (.reg r116_10) (.seq (.seq (.reg r116_11) (.cond (.t 56) (.seq (.reg r116_12) (.seq (.reg r116_13) (.reg r116_14))) (.skip))) (.seq (.seq (.reg r116_15) (.cond (.t 75) (.seq (.reg r116_16) (.cond (.t 80) (.ret) (.skip))) (.skip))) (.seq (.seq (.reg r116_17) (.cond (.t 97) (.seq (.reg r116_18) (.seq (.reg r116_19) (.exit 1))) (.skip))) (.seq (.reg r116_20) (.seq (.reg r116_21) (.seq (.reg r116_22) (.seq (.reg r116_23) (.seq (.reg r116_24) (.cond (.t 125) (.seq (.reg r116_25) (.seq (.reg r116_26) (.reg r116_27))) (.seq (.reg r116_28) (.seq (.reg r116_29) (.reg r116_30)))))))))))))))))
def s116 : SF := ⟨148, [], .seq (.reg r116_0) (.seq (.reg r116_1) (.block 0 (.loop b116_0)))⟩
theorem s116_ok : slimF Tryz.prog ⟨[57, 58, 59, 63, 67, 68, 77, 102, 103, 104, 110, 116, 120], []⟩ Tryz.f116 = some s116 := by kernel_rfl
end Go.Proofs.YtmnjchcoigbngaaGreat


namespace Go.Proofs.YtmnjchcoigbngaaGreat
open Go Go.Proofs
def r117_0 : List SO := [
  ⟨none, some 2, .mv (.c (.int .i64 0))⟩]
def r117_1 : List SO := [
  ⟨none, some 3, .mv (.t 0)⟩,
  ⟨none, some 4, .conv .u32 (.t 3)⟩,
  ⟨none, some 5, .call false 128 [.t 4]⟩,
  ⟨none, some 2, .mv (.t 5)⟩]
def r117_2 : List SO := [
  ⟨none, some 6, .mv (.t 0)⟩,
  ⟨none, some 7, .call false 129 [.t 6]⟩,
  ⟨none, some 2, .mv (.t 7)⟩]
def s117 : SF := ⟨8, [.tmp 2], .seq (.reg r117_0) (.seq (.cond (.c (.bool false)) (.seq (.reg r117_1) (.ret)) (.skip)) (.seq (.reg r117_2) (.ret)))⟩
theorem s117_ok : slimF Tryz.prog ⟨[57, 58, 59, 63, 67, 68, 77, 102, 103, 104, 110, 116, 120], []⟩ Tryz.f117 = some s117 := by kernel_rfl
end Go.Proofs.YtmnjchcoigbngaaGreat


namespace Go.Proofs.YtmnjchcoigbngaaGreat
open Go Go.Proofs
def r118_0 : List SO := [
  ⟨none, some 2, .mv (.c (.bool false))⟩]
def r118_1 : List SO := [
  ⟨none, some 3, .mv (.t 0)⟩,
  ⟨none, some 4, .mv (.t 0)⟩,
  ⟨none, some 5, .bin .neq (.t 3) (.t 4)⟩,
  ⟨none, some 2, .mv (.t 5)⟩]
def s118 : SF := ⟨6, [.tmp 2], .seq (.reg r118_0) (.seq (.reg r118_1) (.ret))⟩
theorem s118_ok : slimF Tryz.prog ⟨[57, 58, 59, 63, 67, 68, 77, 102, 103, 104, 110, 116, 120], []⟩ Tryz.f118 = some s118 := by kernel_rfl
end Go.Proofs.YtmnjchcoigbngaaGreat


namespace Go.Proofs.YtmnjchcoigbngaaGreat
open Go Go.Proofs
def r119_0 : List SO := [
  ⟨none, some 4, .mv (.c (.int .i64 0))⟩]
def r119_1 : List SO := [
  ⟨none, some 6, .mv (.t 0)⟩,
  ⟨none, some 7, .len (.t 6)⟩,
  ⟨none, some 8, .mv (.c (.int .i64 0))⟩]
def r119_2 : List SO := [
  ⟨none, some 9, .bin .lss (.t 8) (.t 7)⟩]
def r119_3 : List SO := [
  ⟨none, some 10, .mv (.t 8)⟩,
  ⟨none, some 5, .mv (.t 10)⟩]
def r119_4 : List SO := [
  ⟨none, some 11, .mv (.t 1)⟩,
  ⟨none, some 12, .mv (.t 0)⟩,
  ⟨none, some 13, .mv (.t 5)⟩,
  ⟨none, some 14, .idx 1 (.t 12) (.t 13)⟩,
  ⟨none, some 15, .load false 1 (.t 14)⟩,
  ⟨none, some 16, .callv false (.t 11) [.t 15]⟩]
def r119_5 : List SO := [
  ⟨none, some 17, .mv (.t 5)⟩,
  ⟨none, some 4, .mv (.t 17)⟩]
def r119_6 : List SO := [
  ⟨none, some 18, .bin .add (.t 8) (.c (.int .i64 1))⟩,
  ⟨none, some 8, .mv (.t 18)⟩]
def b119_0 : SC := .seq (.reg r119_2) (.seq (.cond (.t 9) (.skip) (.exit 0)) (.seq (.block 1 (.seq (.reg r119_3) (.seq (.reg r119_4) (.cond (.t 16) (.seq (.reg r119_5) (.ret)) (.skip))))) (.reg r119_6)))
def r119_7 : List SO := [
  ⟨none, some 4, .mv (.c (.int .i64 (-1)))⟩]
def s119 : SF := ⟨19, [.tmp 4], .seq (.reg r119_0) (.seq (.seq (.reg r119_1) (.block 0 (.loop b119_0))) (.seq (.reg r119_7) (.ret)))⟩
theorem s119_ok : slimF Tryz.prog ⟨[57, 58, 59, 63, 67, 68, 77, 102, 103, 104, 110, 116, 120], []⟩ Tryz.f119 = some s119 := by kernel_rfl
end Go.Proofs.YtmnjchcoigbngaaGreat


namespace Go.Proofs.YtmnjchcoigbngaaGreat
open Go Go.Proofs
def r120_0 : List SO := [
  ⟨none, some 10, .mv (.t 1)⟩,
  ⟨none, some 11, .bin .add (.t 10) (.c (.int .i64 1))⟩,
  ⟨none, some 8, .mv (.t 11)⟩]
def r120_1 : List SO := [
  ⟨none, some 12, .mv (.t 8)⟩,
  ⟨none, some 13, .mv (.t 2)⟩,
  ⟨none, some 14, .bin .lss (.t 12) (.t 13)⟩]
def r120_3 : List SO := [
  ⟨none, some 17, .mv (.t 8)⟩,
  ⟨none, some 9, .mv (.t 17)⟩]
def r120_4 : List SO := [
  ⟨none, some 18, .mv (.t 9)⟩,
  ⟨none, some 19, .mv (.t 1)⟩,
  ⟨none, some 20, .bin .gtr (.t 18) (.t 19)⟩,
  ⟨none, some 21, .mv (.t 20)⟩,
  ⟨some (21, true), some 22, .mv (.t 3)⟩,
  ⟨some (21, true), some 23, .mv (.t 0)⟩,
  ⟨some (21, true), some 24, .mv (.t 9)⟩,
  ⟨some (21, true), some 25, .idx 1 (.t 23) (.t 24)⟩,
  ⟨some (21, true), some 26, .load false 1 (.t 25)⟩,
  ⟨some (21, true), some 27, .mv (.t 0)⟩,
  ⟨some (21, true), some 28, .mv (.t 9)⟩,
  ⟨some (21, true), some 29, .bin .sub (.t 28) (.c (.int .i64 1))⟩,
  ⟨some (21, true), some 30, .idx 1 (.t 27) (.t 29)⟩,
  ⟨some (21, true), some 31, .load false 1 (.t 30)⟩,
  ⟨some (21, true), some 32, .callv false (.t 22) [.t 26, .t 31]⟩,
  ⟨some (21, true), some 33, .bin .lss (.t 32) (.c (.int .i64 0))⟩,
  ⟨none, some 34, .pick (.t 21) (.t 33) (.c (.bool false))⟩]
def r120_6 : List SO := [
  ⟨none, some 37, .mv (.t 0)⟩,
  ⟨none, some 38, .mv (.t 9)⟩,
  ⟨none, some 39, .mv (.t 0)⟩,
  ⟨none, some 40, .mv (.t 9)⟩,
  ⟨none, some 41, .bin .sub (.t 40) (.c (.int .i64 1))⟩,
  ⟨none, some 42, .mv (.t 0)⟩,
  ⟨none, some 43, .mv (.t 9)⟩,
  ⟨none, some 44, .bin .sub (.t 43) (.c (.int .i64 1))⟩,
  ⟨none, some 45, .idx 1 (.t 42) (.t 44)⟩,
  ⟨none, some 46, .load false 1 (.t 45)⟩,
  ⟨none, some 47, .mv (.t 0)⟩,
  ⟨none, some 48, .mv (.t 9)⟩,
  ⟨none, some 49, .idx 1 (.t 47) (.t 48)⟩,
  ⟨none, some 50, .load false 1 (.t 49)⟩,
  ⟨none, some 51, .idx 1 (.t 37) (.t 38)⟩,
  ⟨none, none, .store 1 (.t 51) (.t 46)⟩,
  ⟨none, some 52, .idx 1 (.t 39) (.t 41)⟩,
  ⟨none, none, .store 1 (.t 52) (.t 50)⟩]
def r120_5 : List SO := [
  ⟨none, some 35, .mv (.t 9)⟩,
  ⟨none, some 36, .bin .sub (.t 35) (.c (.int .i64 1))⟩,
  ⟨none, some 9, .mv (.t 36)⟩]
def b120_1 : SC := .seq (.seq (.reg r120_4) (.cond (.t 34) (.skip) (.exit 2))) (.seq (.block 3 (.reg r120_6)) (.reg r120_5))
def r120_2 : List SO := [
  ⟨none, some 15, .mv (.t 8)⟩,
  ⟨none, some 16, .bin .add (.t 15) (.c (.int .i64 1))⟩,
  ⟨none, some 8, .mv (.t 16)⟩]
def b120_0 : SC := .seq (.seq (.reg r120_1) (.cond (.t 14) (.skip) (.exit 0))) (.seq (.block 1 (.seq (.reg r120_3) (.block 2 (.loop b120_1)))) (.reg r120_2))
def s120 : SF := ⟨53, [], .seq (.reg r120_0) (.block 0 (.loop b120_0))⟩
theorem s120_ok : slimF Tryz.prog ⟨[57, 58, 59, 63, 67, 68, 77, 102, 103, 104, 110, 116, 120], []⟩ Tryz.f120 = some s120 := by kernel_rfl
end Go.Proofs.YtmnjchcoigbngaaGreat


namespace Go.Proofs.YtmnjchcoigbngaaGreat
open Go Go.Proofs
def r121_0 : List SO := [
  ⟨none, some 13, .mv (.t 1)⟩,
  ⟨none, some 8, .mv (.t 13)⟩]
def r121_1 : List SO := [
  ⟨none, some 9, .mv (.c (.int .i64 0))⟩]
def r121_2 : List SO := [
  ⟨none, some 14, .mv (.t 2)⟩,
  ⟨none, some 15, .mv (.t 1)⟩,
  ⟨none, some 16, .bin .sub (.t 14) (.t 15)⟩,
  ⟨none, some 10, .mv (.t 16)⟩]
def r121_3 : List SO := [
  ⟨none, some 17, .mv (.t 10)⟩,
  ⟨none, some 18, .bin .sub (.t 17) (.c (.int .i64 1))⟩,
  ⟨none, some 19, .bin .quo (.t 18) (.c (.int .i64 2))⟩,
  ⟨none, some 11, .mv (.t 19)⟩]
def r121_4 : List SO := [
  ⟨none, some 20, .mv (.t 11)⟩,
  ⟨none, some 21, .bin .geq (.t 20) (.c (.int .i64 0))⟩]
def r121_6 : List SO := [
  ⟨none, some 24, .mv (.t 0)⟩,
  ⟨none, some 25, .mv (.t 11)⟩,
  ⟨none, some 26, .mv (.t 10)⟩,
  ⟨none, some 27, .mv (.t 8)⟩,
  ⟨none, some 28, .mv (.t 3)⟩,
  ⟨none, some 29, .call false 130 [.t 24, .t 25, .t 26, .t 27, .t 28]⟩]
def r121_5 : List SO := [
  ⟨none, some 22, .mv (.t 11)⟩,
  ⟨none, some 23, .bin .sub (.t 22) (.c (.int .i64 1))⟩,
  ⟨none, some 11, .mv (.t 23)⟩]
def b121_0 : SC := .seq (.seq (.reg r121_4) (.cond (.t 21) (.skip) (.exit 0))) (.seq (.block 1 (.reg r121_6)) (.reg r121_5))
def r121_7 : List SO := [
  ⟨none, some 30, .mv (.t 10)⟩,
  ⟨none, some 31, .bin .sub (.t 30) (.c (.int .i64 1))⟩,
  ⟨none, some 12, .mv (.t 31)⟩]
def r121_8 : List SO := [
  ⟨none, some 32, .mv (.t 12)⟩,
  ⟨none, some 33, .bin .geq (.t 32) (.c (.int .i64 0))⟩]
def r121_10 : List SO := [
  ⟨none, some 36, .mv (.t 0)⟩,
  ⟨none, some 37, .mv (.t 8)⟩,
  ⟨none, some 38, .mv (.t 0)⟩,
  ⟨none, some 39, .mv (.t 8)⟩,
  ⟨none, some 40, .mv (.t 12)⟩,
  ⟨none, some 41, .bin .add (.t 39) (.t 40)⟩,
  ⟨none, some 42, .mv (.t 0)⟩,
  ⟨none, some 43, .mv (.t 8)⟩,
  ⟨none, some 44, .mv (.t 12)⟩,
  ⟨none, some 45, .bin .add (.t 43) (.t 44)⟩,
  ⟨none, some 46, .idx 1 (.t 42) (.t 45)⟩,
  ⟨none, some 47, .load false 1 (.t 46)⟩,
  ⟨none, some 48, .mv (.t 0)⟩,
  ⟨none, some 49, .mv (.t 8)⟩,
  ⟨none, some 50, .idx 1 (.t 48) (.t 49)⟩,
  ⟨none, some 51, .load false 1 (.t 50)⟩,
  ⟨none, some 52, .idx 1 (.t 36) (.t 37)⟩,
  ⟨none, none, .store 1 (.t 52) (.t 47)⟩,
  ⟨none, some 53, .idx 1 (.t 38) (.t 41)⟩,
  ⟨none, none, .store 1 (.t 53) (.t 51)⟩]
def r121_11 : List SO := [
  ⟨none, some 54, .mv (.t 0)⟩,
  ⟨none, some 55, .mv (.t 9)⟩,
  ⟨none, some 56, .mv (.t 12)⟩,
  ⟨none, some 57, .mv (.t 8)⟩,
  ⟨none, some 58, .mv (.t 3)⟩,
  ⟨none, some 59, .call false 130 [.t 54, .t 55, .t 56, .t 57, .t 58]⟩]
def r121_9 : List SO := [
  ⟨none, some 34, .mv (.t 12)⟩,
  ⟨none, some 35, .bin .sub (.t 34) (.c (.int .i64 1))⟩,
  ⟨none, some 12, .mv (.t 35)⟩]
def b121_1 : SC := .seq (.seq (.reg r121_8) (.cond (.t 33) (.skip) (.exit 2))) (.seq (.block 3 (.seq (.reg r121_10) (.reg r121_11))) (.reg r121_9))
def s121 : SF := ⟨60, [], .seq (.reg r121_0) (.seq (.reg r121_1) (.seq (.reg r121_2) (.seq (.seq (.reg r121_3) (.block 0 (.loop b121_0))) (.seq (.reg r121_7) (.block 2 (.loop b121_1))))))⟩
theorem s121_ok : slimF Tryz.prog ⟨[57, 58, 59, 63, 67, 68, 77, 102, 103, 104, 110, 116, 120], []⟩ Tryz.f121 = some s121 := by kernel_rfl
end Go.Proofs.YtmnjchcoigbngaaGreat


namespace Go.Proofs.YtmnjchcoigbngaaGreat
open Go Go.Proofs
def r122_0 : List SO := [
  ⟨none, some 13, .mv (.t 2)⟩,
  ⟨none, some 14, .mv (.t 1)⟩,
  ⟨none, some 15, .bin .sub (.t 13) (.t 14)⟩,
  ⟨none, some 8, .mv (.t 15)⟩]
def r122_1 : List SO := [
  ⟨none, some 16, .mv (.t 8)⟩,
  ⟨none, some 17, .bin .geq (.t 16) (.c (.int .i64 8))⟩]
def r122_2 : List SO := [
  ⟨none, some 18, .mv (.t 8)⟩,
  ⟨none, some 19, .conv .u64 (.t 18)⟩,
  ⟨none, some 9, .alloc 140 [.int .u64 0]⟩,
  ⟨none, none, .store 1 (.t 9) (.t 19)⟩]
def r122_3 : List SO := [
  ⟨none, some 20, .mv (.t 8)⟩,
  ⟨none, some 21, .call false 131 [.t 20]⟩,
  ⟨none, some 10, .mv (.t 21)⟩]
def r122_4 : List SO := [
  ⟨none, some 22, .mv (.t 1)⟩,
  ⟨none, some 23, .mv (.t 8)⟩,
  ⟨none, some 24, .bin .quo (.t 23) (.c (.int .i64 4))⟩,
  ⟨none, some 25, .bin .mul (.t 24) (.c (.int .i64 2))⟩,
  ⟨none, some 26, .bin .add (.t 22) (.t 25)⟩,
  ⟨none, some 27, .bin .sub (.t 26) (.c (.int .i64 1))⟩,
  ⟨none, some 11, .mv (.t 27)⟩]
def r122_5 : List SO := [
  ⟨none, some 28, .mv (.t 11)⟩,
  ⟨none, some 29, .mv (.t 1)⟩,
  ⟨none, some 30, .mv (.t 8)⟩,
  ⟨none, some 31, .bin .quo (.t 30) (.c (.int .i64 4))⟩,
  ⟨none, some 32, .bin .mul (.t 31) (.c (.int .i64 2))⟩,
  ⟨none, some 33, .bin .add (.t 29) (.t 32)⟩,
  ⟨none, some 34, .bin .add (.t 33) (.c (.int .i64 1))⟩,
  ⟨none, some 35, .bin .leq (.t 28) (.t 34)⟩]
def r122_7 : List SO := [
  ⟨none, some 38, .call false 132 [.t 9]⟩,
  ⟨none, some 39, .mv (.t 10)⟩,
  ⟨none, some 40, .bin .sub (.t 39) (.c (.int .u64 1))⟩,
  ⟨none, some 41, .bin .and (.t 38) (.t 40)⟩,
  ⟨none, some 42, .conv .i64 (.t 41)⟩,
  ⟨none, some 12, .mv (.t 42)⟩]
def r122_8 : List SO := [
  ⟨none, some 43, .mv (.t 12)⟩,
  ⟨none, some 44, .mv (.t 8)⟩,
  ⟨none, some 45, .bin .geq (.t 43) (.t 44)⟩]
def r122_9 : List SO := [
  ⟨none, some 46, .mv (.t 12)⟩,
  ⟨none, some 47, .mv (.t 8)⟩,
  ⟨none, some 48, .bin .sub (.t 46) (.t 47)⟩,
  ⟨none, some 12, .mv (.t 48)⟩]
def r122_10 : List SO := [
  ⟨none, some 49, .mv (.t 0)⟩,
  ⟨none, some 50, .mv (.t 11)⟩,
  ⟨none, some 51, .mv (.t 0)⟩,
  ⟨none, some 52, .mv (.t 1)⟩,
  ⟨none, some 53, .mv (.t 12)⟩,
  ⟨none, some 54, .bin .add (.t 52) (.t 53)⟩,
  ⟨none, some 55, .mv (.t 0)⟩,
  ⟨none, some 56, .mv (.t 1)⟩,
  ⟨none, some 57, .mv (.t 12)⟩,
  ⟨none, some 58, .bin .add (.t 56) (.t 57)⟩,
  ⟨none, some 59, .idx 1 (.t 55) (.t 58)⟩,
  ⟨none, some 60, .load false 1 (.t 59)⟩,
  ⟨none, some 61, .mv (.t 0)⟩,
  ⟨none, some 62, .mv (.t 11)⟩,
  ⟨none, some 63, .idx 1 (.t 61) (.t 62)⟩,
  ⟨none, some 64, .load false 1 (.t 63)⟩,
  ⟨none, some 65, .idx 1 (.t 49) (.t 50)⟩,
  ⟨none, none, .store 1 (.t 65) (.t 60)⟩,
  ⟨none, some 66, .idx 1 (.t 51) (.t 54)⟩,
  ⟨none, none, .store 1 (.t 66) (.t 64)⟩]
def r122_6 : List SO := [
  ⟨none, some 36, .mv (.t 11)⟩,
  ⟨none, some 37, .bin .add (.t 36) (.c (.int .i64 1))⟩,
  ⟨none, some 11, .mv (.t 37)⟩]
def b122_0 : SC := .seq (.seq (.reg r122_5) (.cond (.t 35) (.skip) (.exit 0))) (.seq (.block 1 (.seq (.reg r122_7) (.seq (.seq (.reg r122_8) (.cond (.t 45) (.reg r122_9) (.skip))) (.reg r122_10)))) (.reg r122_6))
def s122 : SF := ⟨67, [], .seq (.reg r122_0) (.seq (.reg r122_1) (.cond (.t 17) (.seq (.reg r122_2) (.seq (.reg r122_3) (.seq (.reg r122_4) (.block 0 (.loop b122_0))))) (.skip)))⟩
theorem s122_ok : slimF Tryz.prog ⟨[57, 58, 59, 63, 67, 68, 77, 102, 103, 104, 110, 116, 120], []⟩ Tryz.f122 = some s122 := by kernel_rfl
end Go.Proofs.YtmnjchcoigbngaaGreat


namespace Go.Proofs.YtmnjchcoigbngaaGreat
open Go Go.Proofs
def r123_0 : List SO := [
  ⟨none, some 8, .mv (.c (.int .i64 0))⟩,
  ⟨none, some 9, .mv (.c (.int .i64 0))⟩]
def r123_1 : List SO := [
  ⟨none, some 15, .mv (.t 2)⟩,
  ⟨none, some 16, .mv (.t 1)⟩,
  ⟨none, some 17, .bin .sub (.t 15) (.t 16)⟩,
  ⟨none, some 10, .mv (.t 17)⟩]
def r123_2 : List SO := [
  ⟨none, some 11, .alloc 3 [.int .i64 0]⟩]
def r123_3 : List SO := [
  ⟨none, some 18, .mv (.t 1)⟩,
  ⟨none, some 19, .mv (.t 10)⟩,
  ⟨none, some 20, .bin .quo (.t 19) (.c (.int .i64 4))⟩,
  ⟨none, some 21, .bin .mul (.t 20) (.c (.int .i64 1))⟩,
  ⟨none, some 22, .bin .add (.t 18) (.t 21)⟩,
  ⟨none, some 12, .mv (.t 22)⟩]
def r123_4 : List SO := [
  ⟨none, some 23, .mv (.t 1)⟩,
  ⟨none, some 24, .mv (.t 10)⟩,
  ⟨none, some 25, .bin .quo (.t 24) (.c (.int .i64 4))⟩,
  ⟨none, some 26, .bin .mul (.t 25) (.c (.int .i64 2))⟩,
  ⟨none, some 27, .bin .add (.t 23) (.t 26)⟩,
  ⟨none, some 13, .mv (.t 27)⟩]
def r123_5 : List SO := [
  ⟨none, some 28, .mv (.t 1)⟩,
  ⟨none, some 29, .mv (.t 10)⟩,
  ⟨none, some 30, .bin .quo (.t 29) (.c (.int .i64 4))⟩,
  ⟨none, some 31, .bin .mul (.t 30) (.c (.int .i64 3))⟩,
  ⟨none, some 32, .bin .add (.t 28) (.t 31)⟩,
  ⟨none, some 14, .mv (.t 32)⟩]
def r123_6 : List SO := [
  ⟨none, some 33, .mv (.t 10)⟩,
  ⟨none, some 34, .bin .geq (.t 33) (.c (.int .i64 8))⟩]
def r123_7 : List SO := [
  ⟨none, some 35, .mv (.t 10)⟩,
  ⟨none, some 36, .bin .geq (.t 35) (.c (.int .i64 50))⟩]
def r123_8 : List SO := [
  ⟨none, some 37, .mv (.t 0)⟩,
  ⟨none, some 38, .mv (.t 12)⟩,
  ⟨none, some 39, .mv (.t 3)⟩,
  ⟨none, some 40, .call false 133 [.t 37, .t 38, .t 11, .t 39]⟩,
  ⟨none, some 12, .mv (.t 40)⟩]
def r123_9 : List SO := [
  ⟨none, some 41, .mv (.t 0)⟩,
  ⟨none, some 42, .mv (.t 13)⟩,
  ⟨none, some 43, .mv (.t 3)⟩,
  ⟨none, some 44, .call false 133 [.t 41, .t 42, .t 11, .t 43]⟩,
  ⟨none, some 13, .mv (.t 44)⟩]
def r123_10 : List SO := [
  ⟨none, some 45, .mv (.t 0)⟩,
  ⟨none, some 46, .mv (.t 14)⟩,
  ⟨none, some 47, .mv (.t 3)⟩,
  ⟨none, some 48, .call false 133 [.t 45, .t 46, .t 11, .t 47]⟩,
  ⟨none, some 14, .mv (.t 48)⟩]
def r123_11 : List SO := [
  ⟨none, some 49, .mv (.t 0)⟩,
  ⟨none, some 50, .mv (.t 12)⟩,
  ⟨none, some 51, .mv (.t 13)⟩,
  ⟨none, some 52, .mv (.t 14)⟩,
  ⟨none, some 53, .mv (.t 3)⟩,
  ⟨none, some 54, .call false 134 [.t 49, .t 50, .t 51, .t 52, .t 11, .t 53]⟩,
  ⟨none, some 13, .mv (.t 54)⟩]
def r123_12 : List SO := [
  ⟨none, some 55, .load false 1 (.t 11)⟩]
def r123_14 : List SO := [
  ⟨none, some 58, .bin .eql (.t 55) (.c (.int .i64 0))⟩,
  ⟨none, some 57, .mv (.t 58)⟩]
def r123_15 : List SO := [
  ⟨none, some 59, .mv (.t 13)⟩,
  ⟨none, some 8, .mv (.t 59)⟩,
  ⟨none, some 9, .mv (.c (.int .i64 1))⟩]
def r123_16 : List SO := [
  ⟨none, some 61, .bin .eql (.t 55) (.c (.int .i64 12))⟩,
  ⟨none, some 60, .mv (.t 61)⟩]
def r123_17 : List SO := [
  ⟨none, some 62, .mv (.t 13)⟩,
  ⟨none, some 8, .mv (.t 62)⟩,
  ⟨none, some 9, .mv (.c (.int .i64 2))⟩]
def r123_13 : List SO := [
  ⟨none, some 56, .mv (.t 13)⟩,
  ⟨none, some 8, .mv (.t 56)⟩,
  ⟨none, some 9, .mv (.c (.int .i64 0))⟩]
def s123 : SF := ⟨63, [.tmp 8, .tmp 9], .seq (.reg r123_0) (.seq (.reg r123_1) (.seq (.reg r123_2) (.seq (.reg r123_3) (.seq (.reg r123_4) (.seq (.reg r123_5) (.seq (.seq (.reg r123_6) (.cond (.t 34) (.seq (.seq (.reg r123_7) (.cond (.t 36) (.seq (.reg r123_8) (.seq (.reg r123_9) (.reg r123_10))) (.skip))) (.reg r123_11)) (.skip))) (.seq (.reg r123_12) (.block 0 (.seq (.reg r123_14) (.cond (.t 57) (.seq (.reg r123_15) (.ret)) (.seq (.reg r123_16) (.cond (.t 60) (.seq (.reg r123_17) (.ret)) (.seq (.reg r123_13) (.ret))))))))))))))⟩
theorem s123_ok : slimF Tryz.prog ⟨[57, 58, 59, 63, 67, 68, 77, 102, 103, 104, 110, 116, 120], []⟩ Tryz.f123 = some s123 := by kernel_rfl
end Go.Proofs.YtmnjchcoigbngaaGreat


namespace Go.Proofs.YtmnjchcoigbngaaGreat
open Go Go.Proofs
def r124_0 : List SO := [
  ⟨none, some 10, .mv (.t 1)⟩,
  ⟨none, some 8, .mv (.t 10)⟩]
def r124_1 : List SO := [
  ⟨none, some 11, .mv (.t 2)⟩,
  ⟨none, some 12, .bin .sub (.t 11) (.c (.int .i64 1))⟩,
  ⟨none, some 9, .mv (.t 12)⟩]
def r124_2 : List SO := [
  ⟨none, some 13, .mv (.t 8)⟩,
  ⟨none, some 14, .mv (.t 9)⟩,
  ⟨none, some 15, .bin .lss (.t 13) (.t 14)⟩]
def r124_3 : List SO := [
  ⟨none, some 16, .mv (.t 0)⟩,
  ⟨none, some 17, .mv (.t 8)⟩,
  ⟨none, some 18, .mv (.t 0)⟩,
  ⟨none, some 19, .mv (.t 9)⟩,
  ⟨none, some 20, .mv (.t 0)⟩,
  ⟨none, some 21, .mv (.t 9)⟩,
  ⟨none, some 22, .idx 1 (.t 20) (.t 21)⟩,
  ⟨none, some 23, .load false 1 (.t 22)⟩,
  ⟨none, some 24, .mv (.t 0)⟩,
  ⟨none, some 25, .mv (.t 8)⟩,
  ⟨none, some 26, .idx 1 (.t 24) (.t 25)⟩,
  ⟨none, some 27, .load false 1 (.t 26)⟩,
  ⟨none, some 28, .idx 1 (.t 16) (.t 17)⟩,
  ⟨none, none, .store 1 (.t 28) (.t 23)⟩,
  ⟨none, some 29, .idx 1 (.t 18) (.t 19)⟩,
  ⟨none, none, .store 1 (.t 29) (.t 27)⟩]
def r124_4 : List SO := [
  ⟨none, some 30, .mv (.t 8)⟩,
  ⟨none, some 31, .bin .add (.t 30) (.c (.int .i64 1))⟩,
  ⟨none, some 8, .mv (.t 31)⟩]
def r124_5 : List SO := [
  ⟨none, some 32, .mv (.t 9)⟩,
  ⟨none, some 33, .bin .sub (.t 32) (.c (.int .i64 1))⟩,
  ⟨none, some 9, .mv (.t 33)⟩]
def b124_0 : SC := .seq (.seq (.reg r124_2) (.cond (.t 15) (.skip) (.exit 0))) (.block 1 (.seq (.reg r124_3) (.seq (.reg r124_4) (.reg r124_5))))
def s124 : SF := ⟨34, [], .seq (.reg r124_0) (.seq (.reg r124_1) (.block 0 (.loop b124_0)))⟩
theorem s124_ok : slimF Tryz.prog ⟨[57, 58, 59, 63, 67, 68, 77, 102, 103, 104, 110, 116, 120], []⟩ Tryz.f124 = some s124 := by kernel_rfl
end Go.Proofs.YtmnjchcoigbngaaGreat


namespace Go.Proofs.YtmnjchcoigbngaaGreat
open Go Go.Proofs
def r125_0 : List SO := [
  ⟨none, some 8, .mv (.c (.bool false))⟩]
def r125_1 : List SO := [
  ⟨none, some 13, .mv (.t 1)⟩,
  ⟨none, some 14, .bin .add (.t 13) (.c (.int .i64 1))⟩,
  ⟨none, some 9, .mv (.t 14)⟩]
def r125_2 : List SO := [
  ⟨none, some 10, .mv (.c (.int .i64 0))⟩]
def r125_3 : List SO := [
  ⟨none, some 15, .mv (.t 10)⟩,
  ⟨none, some 16, .bin .lss (.t 15) (.c (.int .i64 5))⟩]
def r125_5 : List SO := [
  ⟨none, some 19, .mv (.t 9)⟩,
  ⟨none, some 20, .mv (.t 2)⟩,
  ⟨none, some 21, .bin .lss (.t 19) (.t 20)⟩,
  ⟨none, some 22, .mv (.t 21)⟩,
  ⟨some (22, true), some 23, .mv (.t 3)⟩,
  ⟨some (22, true), some 24, .mv (.t 0)⟩,
  ⟨some (22, true), some 25, .mv (.t 9)⟩,
  ⟨some (22, true), some 26, .idx 1 (.t 24) (.t 25)⟩,
  ⟨some (22, true), some 27, .load false 1 (.t 26)⟩,
  ⟨some (22, true), some 28, .mv (.t 0)⟩,
  ⟨some (22, true), some 29, .mv (.t 9)⟩,
  ⟨some (22, true), some 30, .bin .sub (.t 29) (.c (.int .i64 1))⟩,
  ⟨some (22, true), some 31, .idx 1 (.t 28) (.t 30)⟩,
  ⟨some (22, true), some 32, .load false 1 (.t 31)⟩,
  ⟨some (22, true), some 33, .callv false (.t 23) [.t 27, .t 32]⟩,
  ⟨some (22, true), some 34, .bin .lss (.t 33) (.c (.int .i64 0))⟩,
  ⟨some (22, true), some 35, .un .not (.t 34)⟩,
  ⟨none, some 36, .pick (.t 22) (.t 35) (.c (.bool false))⟩]
def r125_6 : List SO := [
  ⟨none, some 37, .mv (.t 9)⟩,
  ⟨none, some 38, .bin .add (.t 37) (.c (.int .i64 1))⟩,
  ⟨none, some 9, .mv (.t 38)⟩]
def b125_1 : SC := .seq (.seq (.reg r125_5) (.cond (.t 36) (.skip) (.exit 2))) (.block 3 (.reg r125_6))
def r125_7 : List SO := [
  ⟨none, some 39, .mv (.t 9)⟩,
  ⟨none, some 40, .mv (.t 2)⟩,
  ⟨none, some 41, .bin .eql (.t 39) (.t 40)⟩]
def r125_8 : List SO := [
  ⟨none, some 8, .mv (.c (.bool true))⟩]
def r125_9 : List SO := [
  ⟨none, some 42, .mv (.t 2)⟩,
  ⟨none, some 43, .mv (.t 1)⟩,
  ⟨none, some 44, .bin .sub (.t 42) (.t 43)⟩,
  ⟨none, some 45, .bin .lss (.t 44) (.c (.int .i64 50))⟩]
def r125_10 : List SO := [
  ⟨none, some 8, .mv (.c (.bool false))⟩]
def r125_11 : List SO := [
  ⟨none, some 46, .mv (.t 0)⟩,
  ⟨none, some 47, .mv (.t 9)⟩,
  ⟨none, some 48, .mv (.t 0)⟩,
  ⟨none, some 49, .mv (.t 9)⟩,
  ⟨none, some 50, .bin .sub (.t 49) (.c (.int .i64 1))⟩,
  ⟨none, some 51, .mv (.t 0)⟩,
  ⟨none, some 52, .mv (.t 9)⟩,
  ⟨none, some 53, .bin .sub (.t 52) (.c (.int .i64 1))⟩,
  ⟨none, some 54, .idx 1 (.t 51) (.t 53)⟩,
  ⟨none, some 55, .load false 1 (.t 54)⟩,
  ⟨none, some 56, .mv (.t 0)⟩,
  ⟨none, some 57, .mv (.t 9)⟩,
  ⟨none, some 58, .idx 1 (.t 56) (.t 57)⟩,
  ⟨none, some 59, .load false 1 (.t 58)⟩,
  ⟨none, some 60, .idx 1 (.t 46) (.t 47)⟩,
  ⟨none, none, .store 1 (.t 60) (.t 55)⟩,
  ⟨none, some 61, .idx 1 (.t 48) (.t 50)⟩,
  ⟨none, none, .store 1 (.t 61) (.t 59)⟩]
def r125_12 : List SO := [
  ⟨none, some 62, .mv (.t 9)⟩,
  ⟨none, some 63, .mv (.t 1)⟩,
  ⟨none, some 64, .bin .sub (.t 62) (.t 63)⟩,
  ⟨none, some 65, .bin .geq (.t 64) (.c (.int .i64 2))⟩]
def r125_13 : List SO := [
  ⟨none, some 66, .mv (.t 9)⟩,
  ⟨none, some 67, .bin .sub (.t 66) (.c (.int .i64 1))⟩,
  ⟨none, some 11, .mv (.t 67)⟩]
def r125_14 : List SO := [
  ⟨none, some 68, .mv (.t 11)⟩,
  ⟨none, some 69, .bin .geq (.t 68) (.c (.int .i64 1))⟩]
def r125_16 : List SO := [
  ⟨none, some 72, .mv (.t 3)⟩,
  ⟨none, some 73, .mv (.t 0)⟩,
  ⟨none, some 74, .mv (.t 11)⟩,
  ⟨none, some 75, .idx 1 (.t 73) (.t 74)⟩,
  ⟨none, some 76, .load false 1 (.t 75)⟩,
  ⟨none, some 77, .mv (.t 0)⟩,
  ⟨none, some 78, .mv (.t 11)⟩,
  ⟨none, some 79, .bin .sub (.t 78) (.c (.int .i64 1))⟩,
  ⟨none, some 80, .idx 1 (.t 77) (.t 79)⟩,
  ⟨none, some 81, .load false 1 (.t 80)⟩,
  ⟨none, some 82, .callv false (.t 72) [.t 76, .t 81]⟩,
  ⟨none, some 83, .bin .lss (.t 82) (.c (.int .i64 0))⟩,
  ⟨none, some 84, .un .not (.t 83)⟩]
def r125_17 : List SO := [
  ⟨none, some 85, .mv (.t 0)⟩,
  ⟨none, some 86, .mv (.t 11)⟩,
  ⟨none, some 87, .mv (.t 0)⟩,
  ⟨none, some 88, .mv (.t 11)⟩,
  ⟨none, some 89, .bin .sub (.t 88) (.c (.int .i64 1))⟩,
  ⟨none, some 90, .mv (.t 0)⟩,
  ⟨none, some 91, .mv (.t 11)⟩,
  ⟨none, some 92, .bin .sub (.t 91) (.c (.int .i64 1))⟩,
  ⟨none, some 93, .idx 1 (.t 90) (.t 92)⟩,
  ⟨none, some 94, .load false 1 (.t 93)⟩,
  ⟨none, some 95, .mv (.t 0)⟩,
  ⟨none, some 96, .mv (.t 11)⟩,
  ⟨none, some 97, .idx 1 (.t 95) (.t 96)⟩,
  ⟨none, some 98, .load false 1 (.t 97)⟩,
  ⟨none, some 99, .idx 1 (.t 85) (.t 86)⟩,
  ⟨none, none, .store 1 (.t 99) (.t 94)⟩,
  ⟨none, some 100, .idx 1 (.t 87) (.t 89)⟩,
  ⟨none, none, .store 1 (.t 100) (.t 98)⟩]
def r125_15 : List SO := [
  ⟨none, some 70, .mv (.t 11)⟩,
  ⟨none, some 71, .bin .sub (.t 70) (.c (.int .i64 1))⟩,
  ⟨none, some 11, .mv (.t 71)⟩]
def b125_2 : SC := .seq (.seq (.reg r125_14) (.cond (.t 69) (.skip) (.exit 4))) (.seq (.block 5 (.seq (.seq (.reg r125_16) (.cond (.t 84) (.exit 4) (.skip))) (.reg r125_17))) (.reg r125_15))
def r125_18 : List SO := [
  ⟨none, some 101, .mv (.t 2)⟩,
  ⟨none, some 102, .mv (.t 9)⟩,
  ⟨none, some 103, .bin .sub (.t 101) (.t 102)⟩,
  ⟨none, some 104, .bin .geq (.t 103) (.c (.int .i64 2))⟩]
def r125_19 : List SO := [
  ⟨none, some 105, .mv (.t 9)⟩,
  ⟨none, some 106, .bin .add (.t 105) (.c (.int .i64 1))⟩,
  ⟨none, some 12, .mv (.t 106)⟩]
def r125_20 : List SO := [
  ⟨none, some 107, .mv (.t 12)⟩,
  ⟨none, some 108, .mv (.t 2)⟩,
  ⟨none, some 109, .bin .lss (.t 107) (.t 108)⟩]
def r125_22 : List SO := [
  ⟨none, some 112, .mv (.t 3)⟩,
  ⟨none, some 113, .mv (.t 0)⟩,
  ⟨none, some 114, .mv (.t 12)⟩,
  ⟨none, some 115, .idx 1 (.t 113) (.t 114)⟩,
  ⟨none, some 116, .load false 1 (.t 115)⟩,
  ⟨none, some 117, .mv (.t 0)⟩,
  ⟨none, some 118, .mv (.t 12)⟩,
  ⟨none, some 119, .bin .sub (.t 118) (.c (.int .i64 1))⟩,
  ⟨none, some 120, .idx 1 (.t 117) (.t 119)⟩,
  ⟨none, some 121, .load false 1 (.t 120)⟩,
  ⟨none, some 122, .callv false (.t 112) [.t 116, .t 121]⟩,
  ⟨none, some 123, .bin .lss (.t 122) (.c (.int .i64 0))⟩,
  ⟨none, some 124, .un .not (.t 123)⟩]
def r125_23 : List SO := [
  ⟨none, some 125, .mv (.t 0)⟩,
  ⟨none, some 126, .mv (.t 12)⟩,
  ⟨none, some 127, .mv (.t 0)⟩,
  ⟨none, some 128, .mv (.t 12)⟩,
  ⟨none, some 129, .bin .sub (.t 128) (.c (.int .i64 1))⟩,
  ⟨none, some 130, .mv (.t 0)⟩,
  ⟨none, some 131, .mv (.t 12)⟩,
  ⟨none, some 132, .bin .sub (.t 131) (.c (.int .i64 1))⟩,
  ⟨none, some 133, .idx 1 (.t 130) (.t 132)⟩,
  ⟨none, some 134, .load false 1 (.t 133)⟩,
  ⟨none, some 135, .mv (.t 0)⟩,
  ⟨none, some 136, .mv (.t 12)⟩,
  ⟨none, some 137, .idx 1 (.t 135) (.t 136)⟩,
  ⟨none, some 138, .load false 1 (.t 137)⟩,
  ⟨none, some 139, .idx 1 (.t 125) (.t 126)⟩,
  ⟨none, none, .store 1 (.t 139) (.t 134)⟩,
  ⟨none, some 140, .idx 1 (.t 127) (.t 129)⟩,
  ⟨none, none, .store 1 (.t 140) (.t 138)⟩]
def r125_21 : List SO := [
  ⟨none, some 110, .mv (.t 12)⟩,
  ⟨none, some 111, .bin .add (.t 110) (.c (.int .i64 1))⟩,
  ⟨none, some 12, .mv (.t 111)⟩]
def b125_3 : SC := .seq (.seq (.reg r125_20) (.cond (.t 109) (.skip) (.exit 6))) (.seq (.block 7 (.seq (.seq (.reg r125_22) (.cond (.t 124) (.exit 6) (.skip))) (.reg r125_23))) (.reg r125_21))
def r125_4 : List SO := [
  ⟨none, some 17, .mv (.t 10)⟩,
  ⟨none, some 18, .bin .add (.t 17) (.c (.int .i64 1))⟩,
  ⟨none, some 10, .mv (.t 18)⟩]
def b125_0 : SC := .seq (.seq (.reg r125_3) (.cond (.t 16) (.skip) (.exit 0))) (.seq (.block 1 (.seq (.block 2 (.loop b125_1)) (.seq (.seq (.reg r125_7) (.cond (.t 41) (.seq (.reg r125_8) (.ret)) (.skip))) (.seq (.seq (.reg r125_9) (.cond (.t 45) (.seq (.reg r125_10) (.ret)) (.skip))) (.seq (.reg r125_11) (.seq (.seq (.reg r125_12) (.cond (.t 65) (.seq (.reg r125_13) (.block 4 (.loop b125_2))) (.skip))) (.seq (.reg r125_18) (.cond (.t 104) (.seq (.reg r125_19) (.block 6 (.loop b125_3))) (.skip))))))))) (.reg r125_4))
def r125_24 : List SO := [
  ⟨none, some 8, .mv (.c (.bool false))⟩]
def s125 : SF := ⟨141, [.tmp 8], .seq (.reg r125_0) (.seq (.reg r125_1) (.seq (.seq (.reg r125_2) (.block 0 (.loop b125_0))) (.seq (.reg r125_24) (.ret))))⟩
theorem s125_ok : slimF Tryz.prog ⟨[57, 58, 59, 63, 67, 68, 77, 102, 103, 104, 110, 116, 120], []⟩ Tryz.f125 = some s125 := by kernel_rfl
end Go.Proofs.YtmnjchcoigbngaaGreat


namespace Go.Proofs.YtmnjchcoigbngaaGreat
open Go Go.Proofs
def r126_0 : List SO := [
  ⟨none, some 10, .mv (.c (.int .i64 0))⟩]
def r126_1 : List SO := [
  ⟨none, some 13, .mv (.t 0)⟩,
  ⟨none, some 14, .mv (.t 1)⟩,
  ⟨none, some 15, .mv (.t 0)⟩,
  ⟨none, some 16, .mv (.t 3)⟩,
  ⟨none, some 17, .mv (.t 0)⟩,
  ⟨none, some 18, .mv (.t 3)⟩,
  ⟨none, some 19, .idx 1 (.t 17) (.t 18)⟩,
  ⟨none, some 20, .load false 1 (.t 19)⟩,
  ⟨none, some 21, .mv (.t 0)⟩,
  ⟨none, some 22, .mv (.t 1)⟩,
  ⟨none, some 23, .idx 1 (.t 21) (.t 22)⟩,
  ⟨none, some 24, .load false 1 (.t 23)⟩,
  ⟨none, some 25, .idx 1 (.t 13) (.t 14)⟩,
  ⟨none, none, .store 1 (.t 25) (.t 20)⟩,
  ⟨none, some 26, .idx 1 (.t 15) (.t 16)⟩,
  ⟨none, none, .store 1 (.t 26) (.t 24)⟩]
def r126_2 : List SO := [
  ⟨none, some 27, .mv (.t 1)⟩,
  ⟨none, some 28, .bin .add (.t 27) (.c (.int .i64 1))⟩,
  ⟨none, some 29, .mv (.t 2)⟩,
  ⟨none, some 30, .bin .sub (.t 29) (.c (.int .i64 1))⟩,
  ⟨none, some 11, .mv (.t 28)⟩,
  ⟨none, some 12, .mv (.t 30)⟩]
def r126_3 : List SO := [
  ⟨none, some 31, .mv (.t 11)⟩,
  ⟨none, some 32, .mv (.t 12)⟩,
  ⟨none, some 33, .bin .leq (.t 31) (.t 32)⟩,
  ⟨none, some 34, .mv (.t 33)⟩,
  ⟨some (34, true), some 35, .mv (.t 4)⟩,
  ⟨some (34, true), some 36, .mv (.t 0)⟩,
  ⟨some (34, true), some 37, .mv (.t 1)⟩,
  ⟨some (34, true), some 38, .idx 1 (.t 36) (.t 37)⟩,
  ⟨some (34, true), some 39, .load false 1 (.t 38)⟩,
  ⟨some (34, true), some 40, .mv (.t 0)⟩,
  ⟨some (34, true), some 41, .mv (.t 11)⟩,
  ⟨some (34, true), some 42, .idx 1 (.t 40) (.t 41)⟩,
  ⟨some (34, true), some 43, .load false 1 (.t 42)⟩,
  ⟨some (34, true), some 44, .callv false (.t 35) [.t 39, .t 43]⟩,
  ⟨some (34, true), some 45, .bin .lss (.t 44) (.c (.int .i64 0))⟩,
  ⟨some (34, true), some 46, .un .not (.t 45)⟩,
  ⟨none, some 47, .pick (.t 34) (.t 46) (.c (.bool false))⟩]
def r126_4 : List SO := [
  ⟨none, some 48, .mv (.t 11)⟩,
  ⟨none, some 49, .bin .add (.t 48) (.c (.int .i64 1))⟩,
  ⟨none, some 11, .mv (.t 49)⟩]
def b126_1 : SC := .seq (.seq (.reg r126_3) (.cond (.t 47) (.skip) (.exit 2))) (.block 3 (.reg r126_4))
def r126_5 : List SO := [
  ⟨none, some 50, .mv (.t 11)⟩,
  ⟨none, some 51, .mv (.t 12)⟩,
  ⟨none, some 52, .bin .leq (.t 50) (.t 51)⟩,
  ⟨none, some 53, .mv (.t 52)⟩,
  ⟨some (53, true), some 54, .mv (.t 4)⟩,
  ⟨some (53, true), some 55, .mv (.t 0)⟩,
  ⟨some (53, true), some 56, .mv (.t 1)⟩,
  ⟨some (53, true), some 57, .idx 1 (.t 55) (.t 56)⟩,
  ⟨some (53, true), some 58, .load false 1 (.t 57)⟩,
  ⟨some (53, true), some 59, .mv (.t 0)⟩,
  ⟨some (53, true), some 60, .mv (.t 12)⟩,
  ⟨some (53, true), some 61, .idx 1 (.t 59) (.t 60)⟩,
  ⟨some (53, true), some 62, .load false 1 (.t 61)⟩,
  ⟨some (53, true), some 63, .callv false (.t 54) [.t 58, .t 62]⟩,
  ⟨some (53, true), some 64, .bin .lss (.t 63) (.c (.int .i64 0))⟩,
  ⟨none, some 65, .pick (.t 53) (.t 64) (.c (.bool false))⟩]
def r126_6 : List SO := [
  ⟨none, some 66, .mv (.t 12)⟩,
  ⟨none, some 67, .bin .sub (.t 66) (.c (.int .i64 1))⟩,
  ⟨none, some 12, .mv (.t 67)⟩]
def b126_2 : SC := .seq (.seq (.reg r126_5) (.cond (.t 65) (.skip) (.exit 4))) (.block 5 (.reg r126_6))
def r126_7 : List SO := [
  ⟨none, some 68, .mv (.t 11)⟩,
  ⟨none, some 69, .mv (.t 12)⟩,
  ⟨none, some 70, .bin .gtr (.t 68) (.t 69)⟩]
def r126_8 : List SO := [
  ⟨none, some 71, .mv (.t 0)⟩,
  ⟨none, some 72, .mv (.t 11)⟩,
  ⟨none, some 73, .mv (.t 0)⟩,
  ⟨none, some 74, .mv (.t 12)⟩,
  ⟨none, some 75, .mv (.t 0)⟩,
  ⟨none, some 76, .mv (.t 12)⟩,
  ⟨none, some 77, .idx 1 (.t 75) (.t 76)⟩,
  ⟨none, some 78, .load false 1 (.t 77)⟩,
  ⟨none, some 79, .mv (.t 0)⟩,
  ⟨none, some 80, .mv (.t 11)⟩,
  ⟨none, some 81, .idx 1 (.t 79) (.t 80)⟩,
  ⟨none, some 82, .load false 1 (.t 81)⟩,
  ⟨none, some 83, .idx 1 (.t 71) (.t 72)⟩,
  ⟨none, none, .store 1 (.t 83) (.t 78)⟩,
  ⟨none, some 84, .idx 1 (.t 73) (.t 74)⟩,
  ⟨none, none, .store 1 (.t 84) (.t 82)⟩]
def r126_9 : List SO := [
  ⟨none, some 85, .mv (.t 11)⟩,
  ⟨none, some 86, .bin .add (.t 85) (.c (.int .i64 1))⟩,
  ⟨none, some 11, .mv (.t 86)⟩]
def r126_10 : List SO := [
  ⟨none, some 87, .mv (.t 12)⟩,
  ⟨none, some 88, .bin .sub (.t 87) (.c (.int .i64 1))⟩,
  ⟨none, some 12, .mv (.t 88)⟩]
def b126_0 : SC := .block 1 (.seq (.block 2 (.loop b126_1)) (.seq (.block 4 (.loop b126_2)) (.seq (.seq (.reg r126_7) (.cond (.t 70) (.exit 0) (.skip))) (.seq (.reg r126_8) (.seq (.reg r126_9) (.reg r126_10))))))
def r126_11 : List SO := [
  ⟨none, some 89, .mv (.t 11)⟩,
  ⟨none, some 10, .mv (.t 89)⟩]
def s126 : SF := ⟨90, [.tmp 10], .seq (.reg r126_0) (.seq (.reg r126_1) (.seq (.reg r126_2) (.seq (.block 0 (.loop b126_0)) (.seq (.reg r126_11) (.ret)))))⟩
theorem s126_ok : slimF Tryz.prog ⟨[57, 58, 59, 63, 67, 68, 77, 102, 103, 104, 110, 116, 120], []⟩ Tryz.f126 = some s126 := by kernel_rfl
end Go.Proofs.YtmnjchcoigbngaaGreat


namespace Go.Proofs.YtmnjchcoigbngaaGreat
open Go Go.Proofs
def r127_0 : List SO := [
  ⟨none, some 10, .mv (.c (.int .i64 0))⟩,
  ⟨none, some 11, .mv (.c (.bool false))⟩]
def r127_1 : List SO := [
  ⟨none, some 14, .mv (.t 0)⟩,
  ⟨none, some 15, .mv (.t 1)⟩,
  ⟨none, some 16, .mv (.t 0)⟩,
  ⟨none, some 17, .mv (.t 3)⟩,
  ⟨none, some 18, .mv (.t 0)⟩,
  ⟨none, some 19, .mv (.t 3)⟩,
  ⟨none, some 20, .idx 1 (.t 18) (.t 19)⟩,
  ⟨none, some 21, .load false 1 (.t 20)⟩,
  ⟨none, some 22, .mv (.t 0)⟩,
  ⟨none, some 23, .mv (.t 1)⟩,
  ⟨none, some 24, .idx 1 (.t 22) (.t 23)⟩,
  ⟨none, some 25, .load false 1 (.t 24)⟩,
  ⟨none, some 26, .idx 1 (.t 14) (.t 15)⟩,
  ⟨none, none, .store 1 (.t 26) (.t 21)⟩,
  ⟨none, some 27, .idx 1 (.t 16) (.t 17)⟩,
  ⟨none, none, .store 1 (.t 27) (.t 25)⟩]
def r127_2 : List SO := [
  ⟨none, some 28, .mv (.t 1)⟩,
  ⟨none, some 29, .bin .add (.t 28) (.c (.int .i64 1))⟩,
  ⟨none, some 30, .mv (.t 2)⟩,
  ⟨none, some 31, .bin .sub (.t 30) (.c (.int .i64 1))⟩,
  ⟨none, some 12, .mv (.t 29)⟩,
  ⟨none, some 13, .mv (.t 31)⟩]
def r127_3 : List SO := [
  ⟨none, some 32, .mv (.t 12)⟩,
  ⟨none, some 33, .mv (.t 13)⟩,
  ⟨none, some 34, .bin .leq (.t 32) (.t 33)⟩,
  ⟨none, some 35, .mv (.t 34)⟩,
  ⟨some (35, true), some 36, .mv (.t 4)⟩,
  ⟨some (35, true), some 37, .mv (.t 0)⟩,
  ⟨some (35, true), some 38, .mv (.t 12)⟩,
  ⟨some (35, true), some 39, .idx 1 (.t 37) (.t 38)⟩,
  ⟨some (35, true), some 40, .load false 1 (.t 39)⟩,
  ⟨some (35, true), some 41, .mv (.t 0)⟩,
  ⟨some (35, true), some 42, .mv (.t 1)⟩,
  ⟨some (35, true), some 43, .idx 1 (.t 41) (.t 42)⟩,
  ⟨some (35, true), some 44, .load false 1 (.t 43)⟩,
  ⟨some (35, true), some 45, .callv false (.t 36) [.t 40, .t 44]⟩,
  ⟨some (35, true), some 46, .bin .lss (.t 45) (.c (.int .i64 0))⟩,
  ⟨none, some 47, .pick (.t 35) (.t 46) (.c (.bool false))⟩]
def r127_4 : List SO := [
  ⟨none, some 48, .mv (.t 12)⟩,
  ⟨none, some 49, .bin .add (.t 48) (.c (.int .i64 1))⟩,
  ⟨none, some 12, .mv (.t 49)⟩]
def b127_0 : SC := .seq (.seq (.reg r127_3) (.cond (.t 47) (.skip) (.exit 0))) (.block 1 (.reg r127_4))
def r127_5 : List SO := [
  ⟨none, some 50, .mv (.t 12)⟩,
  ⟨none, some 51, .mv (.t 13)⟩,
  ⟨none, some 52, .bin .leq (.t 50) (.t 51)⟩,
  ⟨none, some 53, .mv (.t 52)⟩,
  ⟨some (53, true), some 54, .mv (.t 4)⟩,
  ⟨some (53, true), some 55, .mv (.t 0)⟩,
  ⟨some (53, true), some 56, .mv (.t 13)⟩,
  ⟨some (53, true), some 57, .idx 1 (.t 55) (.t 56)⟩,
  ⟨some (53, true), some 58, .load false 1 (.t 57)⟩,
  ⟨some (53, true), some 59, .mv (.t 0)⟩,
  ⟨some (53, true), some 60, .mv (.t 1)⟩,
  ⟨some (53, true), some 61, .idx 1 (.t 59) (.t 60)⟩,
  ⟨some (53, true), some 62, .load false 1 (.t 61)⟩,
  ⟨some (53, true), some 63, .callv false (.t 54) [.t 58, .t 62]⟩,
  ⟨some (53, true), some 64, .bin .lss (.t 63) (.c (.int .i64 0))⟩,
  ⟨some (53, true), some 65, .un .not (.t 64)⟩,
  ⟨none, some 66, .pick (.t 53) (.t 65) (.c (.bool false))⟩]
def r127_6 : List SO := [
  ⟨none, some 67, .mv (.t 13)⟩,
  ⟨none, some 68, .bin .sub (.t 67) (.c (.int .i64 1))⟩,
  ⟨none, some 13, .mv (.t 68)⟩]
def b127_1 : SC := .seq (.seq (.reg r127_5) (.cond (.t 66) (.skip) (.exit 2))) (.block 3 (.reg r127_6))
def r127_7 : List SO := [
  ⟨none, some 69, .mv (.t 12)⟩,
  ⟨none, some 70, .mv (.t 13)⟩,
  ⟨none, some 71, .bin .gtr (.t 69) (.t 70)⟩]
def r127_8 : List SO := [
  ⟨none, some 72, .mv (.t 0)⟩,
  ⟨none, some 73, .mv (.t 13)⟩,
  ⟨none, some 74, .mv (.t 0)⟩,
  ⟨none, some 75, .mv (.t 1)⟩,
  ⟨none, some 76, .mv (.t 0)⟩,
  ⟨none, some 77, .mv (.t 1)⟩,
  ⟨none, some 78, .idx 1 (.t 76) (.t 77)⟩,
  ⟨none, some 79, .load false 1 (.t 78)⟩,
  ⟨none, some 80, .mv (.t 0)⟩,
  ⟨none, some 81, .mv (.t 13)⟩,
  ⟨none, some 82, .idx 1 (.t 80) (.t 81)⟩,
  ⟨none, some 83, .load false 1 (.t 82)⟩,
  ⟨none, some 84, .idx 1 (.t 72) (.t 73)⟩,
  ⟨none, none, .store 1 (.t 84) (.t 79)⟩,
  ⟨none, some 85, .idx 1 (.t 74) (.t 75)⟩,
  ⟨none, none, .store 1 (.t 85) (.t 83)⟩]
def r127_9 : List SO := [
  ⟨none, some 86, .mv (.t 13)⟩,
  ⟨none, some 10, .mv (.t 86)⟩,
  ⟨none, some 11, .mv (.c (.bool true))⟩]
def r127_10 : List SO := [
  ⟨none, some 87, .mv (.t 0)⟩,
  ⟨none, some 88, .mv (.t 12)⟩,
  ⟨none, some 89, .mv (.t 0)⟩,
  ⟨none, some 90, .mv (.t 13)⟩,
  ⟨none, some 91, .mv (.t 0)⟩,
  ⟨none, some 92, .mv (.t 13)⟩,
  ⟨none, some 93, .idx 1 (.t 91) (.t 92)⟩,
  ⟨none, some 94, .load false 1 (.t 93)⟩,
  ⟨none, some 95, .mv (.t 0)⟩,
  ⟨none, some 96, .mv (.t 12)⟩,
  ⟨none, some 97, .idx 1 (.t 95) (.t 96)⟩,
  ⟨none, some 98, .load false 1 (.t 97)⟩,
  ⟨none, some 99, .idx 1 (.t 87) (.t 88)⟩,
  ⟨none, none, .store 1 (.t 99) (.t 94)⟩,
  ⟨none, some 100, .idx 1 (.t 89) (.t 90)⟩,
  ⟨none, none, .store 1 (.t 100) (.t 98)⟩]
def r127_11 : List SO := [
  ⟨none, some 101, .mv (.t 12)⟩,
  ⟨none, some 102, .bin .add (.t 101) (.c (.int .i64 1))⟩,
  ⟨none, some 12, .mv (.t 102)⟩]
def r127_12 : List SO := [
  ⟨none, some 103, .mv (.t 13)⟩,
  ⟨none, some 104, .bin .sub (.t 103) (.c (.int .i64 1))⟩,
  ⟨none, some 13, .mv (.t 104)⟩]
def r127_13 : List SO := [
  ⟨none, some 105, .mv (.t 12)⟩,
  ⟨none, some 106, .mv (.t 13)⟩,
  ⟨none, some 107, .bin .leq (.t 105) (.t 106)⟩,
  ⟨none, some 108, .mv (.t 107)⟩,
  ⟨some (108, true), some 109, .mv (.t 4)⟩,
  ⟨some (108, true), some 110, .mv (.t 0)⟩,
  ⟨some (108, true), some 111, .mv (.t 12)⟩,
  ⟨some (108, true), some 112, .idx 1 (.t 110) (.t 111)⟩,
  ⟨some (108, true), some 113, .load false 1 (.t 112)⟩,
  ⟨some (108, true), some 114, .mv (.t 0)⟩,
  ⟨some (108, true), some 115, .mv (.t 1)⟩,
  ⟨some (108, true), some 116, .idx 1 (.t 114) (.t 115)⟩,
  ⟨some (108, true), some 117, .load false 1 (.t 116)⟩,
  ⟨some (108, true), some 118, .callv false (.t 109) [.t 113, .t 117]⟩,
  ⟨some (108, true), some 119, .bin .lss (.t 118) (.c (.int .i64 0))⟩,
  ⟨none, some 120, .pick (.t 108) (.t 119) (.c (.bool false))⟩]
def r127_14 : List SO := [
  ⟨none, some 121, .mv (.t 12)⟩,
  ⟨none, some 122, .bin .add (.t 121) (.c (.int .i64 1))⟩,
  ⟨none, some 12, .mv (.t 122)⟩]
def b127_3 : SC := .seq (.seq (.reg r127_13) (.cond (.t 120) (.skip) (.exit 6))) (.block 7 (.reg r127_14))
def r127_15 : List SO := [
  ⟨none, some 123, .mv (.t 12)⟩,
  ⟨none, some 124, .mv (.t 13)⟩,
  ⟨none, some 125, .bin .leq (.t 123) (.t 124)⟩,
  ⟨none, some 126, .mv (.t 125)⟩,
  ⟨some (126, true), some 127, .mv (.t 4)⟩,
  ⟨some (126, true), some 128, .mv (.t 0)⟩,
  ⟨some (126, true), some 129, .mv (.t 13)⟩,
  ⟨some (126, true), some 130, .idx 1 (.t 128) (.t 129)⟩,
  ⟨some (126, true), some 131, .load false 1 (.t 130)⟩,
  ⟨some (126, true), some 132, .mv (.t 0)⟩,
  ⟨some (126, true), some 133, .mv (.t 1)⟩,
  ⟨some (126, true), some 134, .idx 1 (.t 132) (.t 133)⟩,
  ⟨some (126, true), some 135, .load false 1 (.t 134)⟩,
  ⟨some (126, true), some 136, .callv false (.t 127) [.t 131, .t 135]⟩,
  ⟨some (126, true), some 137, .bin .lss (.t 136) (.c (.int .i64 0))⟩,
  ⟨some (126, true), some 138, .un .not (.t 137)⟩,
  ⟨none, some 139, .pick (.t 126) (.t 138) (.c (.bool false))⟩]
def r127_16 : List SO := [
  ⟨none, some 140, .mv (.t 13)⟩,
  ⟨none, some 141, .bin .sub (.t 140) (.c (.int .i64 1))⟩,
  ⟨none, some 13, .mv (.t 141)⟩]
def b127_4 : SC := .seq (.seq (.reg r127_15) (.cond (.t 139) (.skip) (.exit 8))) (.block 9 (.reg r127_16))
def r127_17 : List SO := [
  ⟨none, some 142, .mv (.t 12)⟩,
  ⟨none, some 143, .mv (.t 13)⟩,
  ⟨none, some 144, .bin .gtr (.t 142) (.t 143)⟩]
def r127_18 : List SO := [
  ⟨none, some 145, .mv (.t 0)⟩,
  ⟨none, some 146, .mv (.t 12)⟩,
  ⟨none, some 147, .mv (.t 0)⟩,
  ⟨none, some 148, .mv (.t 13)⟩,
  ⟨none, some 149, .mv (.t 0)⟩,
  ⟨none, some 150, .mv (.t 13)⟩,
  ⟨none, some 151, .idx 1 (.t 149) (.t 150)⟩,
  ⟨none, some 152, .load false 1 (.t 151)⟩,
  ⟨none, some 153, .mv (.t 0)⟩,
  ⟨none, some 154, .mv (.t 12)⟩,
  ⟨none, some 155, .idx 1 (.t 153) (.t 154)⟩,
  ⟨none, some 156, .load false 1 (.t 155)⟩,
  ⟨none, some 157, .idx 1 (.t 145) (.t 146)⟩,
  ⟨none, none, .store 1 (.t 157) (.t 152)⟩,
  ⟨none, some 158, .idx 1 (.t 147) (.t 148)⟩,
  ⟨none, none, .store 1 (.t 158) (.t 156)⟩]
def r127_19 : List SO := [
  ⟨none, some 159, .mv (.t 12)⟩,
  ⟨none, some 160, .bin .add (.t 159) (.c (.int .i64 1))⟩,
  ⟨none, some 12, .mv (.t 160)⟩]
def r127_20 : List SO := [
  ⟨none, some 161, .mv (.t 13)⟩,
  ⟨none, some 162, .bin .sub (.t 161) (.c (.int .i64 1))⟩,
  ⟨none, some 13, .mv (.t 162)⟩]
def b127_2 : SC := .block 5 (.seq (.block 6 (.loop b127_3)) (.seq (.block 8 (.loop b127_4)) (.seq (.seq (.reg r127_17) (.cond (.t 144) (.exit 4) (.skip))) (.seq (.reg r127_18) (.seq (.reg r127_19) (.reg r127_20))))))
def r127_21 : List SO := [
  ⟨none, some 163, .mv (.t 0)⟩,
  ⟨none, some 164, .mv (.t 13)⟩,
  ⟨none, some 165, .mv (.t 0)⟩,
  ⟨none, some 166, .mv (.t 1)⟩,
  ⟨none, some 167, .mv (.t 0)⟩,
  ⟨none, some 168, .mv (.t 1)⟩,
  ⟨none, some 169, .idx 1 (.t 167) (.t 168)⟩,
  ⟨none, some 170, .load false 1 (.t 169)⟩,
  ⟨none, some 171, .mv (.t 0)⟩,
  ⟨none, some 172, .mv (.t 13)⟩,
  ⟨none, some 173, .idx 1 (.t 171) (.t 172)⟩,
  ⟨none, some 174, .load false 1 (.t 173)⟩,
  ⟨none, some 175, .idx 1 (.t 163) (.t 164)⟩,
  ⟨none, none, .store 1 (.t 175) (.t 170)⟩,
  ⟨none, some 176, .idx 1 (.t 165) (.t 166)⟩,
  ⟨none, none, .store 1 (.t 176) (.t 174)⟩]
def r127_22 : List SO := [
  ⟨none, some 177, .mv (.t 13)⟩,
  ⟨none, some 10, .mv (.t 177)⟩,
  ⟨none, some 11, .mv (.c (.bool false))⟩]
def s127 : SF := ⟨178, [.tmp 10, .tmp 11], .seq (.reg r127_0) (.seq (.reg r127_1) (.seq (.reg r127_2) (.seq (.block 0 (.loop b127_0)) (.seq (.block 2 (.loop b127_1)) (.seq (.seq (.reg r127_7) (.cond (.t 71) (.seq (.reg r127_8) (.seq (.reg r127_9) (.ret))) (.skip))) (.seq (.reg r127_10) (.seq (.reg r127_11) (.seq (.reg r127_12) (.seq (.block 4 (.loop b127_2)) (.seq (.reg r127_21) (.seq (.reg r127_22) (.ret))))))))))))⟩
theorem s127_ok : slimF Tryz.prog ⟨[57, 58, 59, 63, 67, 68, 77, 102, 103, 104, 110, 116, 120], []⟩ Tryz.f127 = some s127 := by kernel_rfl
end Go.Proofs.YtmnjchcoigbngaaGreat


namespace Go.Proofs.YtmnjchcoigbngaaGreat
open Go Go.Proofs
def r128_0 : List SO := [
  ⟨none, some 2, .mv (.c (.int .i64 0))⟩]
def r128_1 : List SO := [
  ⟨none, some 3, .mv (.t 0)⟩,
  ⟨none, some 4, .bin .geq (.t 3) (.c (.int .u32 65536))⟩]
def r128_2 : List SO := [
  ⟨none, some 5, .mv (.t 0)⟩,
  ⟨none, some 6, .bin .shr (.t 5) (.c (.int .u64 16))⟩,
  ⟨none, some 0, .mv (.t 6)⟩]
def r128_3 : List SO := [
  ⟨none, some 2, .mv (.c (.int .i64 16))⟩]
def r128_4 : List SO := [
  ⟨none, some 7, .mv (.t 0)⟩,
  ⟨none, some 8, .bin .geq (.t 7) (.c (.int .u32 256))⟩]
def r128_5 : List SO := [
  ⟨none, some 9, .mv (.t 0)⟩,
  ⟨none, some 10, .bin .shr (.t 9) (.c (.int .u64 8))⟩,
  ⟨none, some 0, .mv (.t 10)⟩]
def r128_6 : List SO := [
  ⟨none, some 11, .mv (.t 2)⟩,
  ⟨none, some 12, .bin .add (.t 11) (.c (.int .i64 8))⟩,
  ⟨none, some 2, .mv (.t 12)⟩]
def r128_7 : List SO := [
  ⟨none, some 13, .mv (.t 2)⟩,
  ⟨none, some 14, .mv (.t 0)⟩,
  ⟨none, some 15, .conv .u8 (.t 14)⟩,
  ⟨none, some 16, .sidx (.c (.str [0, 1, 2, 2, 3, 3, 3, 3, 4, 4, 4, 4, 4, 4, 4, 4, 5, 5, 5, 5, 5, 5, 5, 5, 5, 5, 5, 5, 5, 5, 5, 5, 6, 6, 6, 6, 6, 6, 6, 6, 6, 6, 6, 6, 6, 6, 6, 6, 6, 6, 6, 6, 6, 6, 6, 6, 6, 6, 6, 6, 6, 6, 6, 6, 7, 7, 7, 7, 7, 7, 7, 7, 7, 7, 7, 7, 7, 7, 7, 7, 7, 7, 7, 7, 7, 7, 7, 7, 7, 7, 7, 7, 7, 7, 7, 7, 7, 7, 7, 7, 7, 7, 7, 7, 7, 7, 7, 7, 7, 7, 7, 7, 7, 7, 7, 7, 7, 7, 7, 7, 7, 7, 7, 7, 7, 7, 7, 7, 8, 8, 8, 8, 8, 8, 8, 8, 8, 8, 8, 8, 8, 8, 8, 8, 8, 8, 8, 8, 8, 8, 8, 8, 8, 8, 8, 8, 8, 8, 8, 8, 8, 8, 8, 8, 8, 8, 8, 8, 8, 8, 8, 8, 8, 8, 8, 8, 8, 8, 8, 8, 8, 8, 8, 8, 8, 8, 8, 8, 8, 8, 8, 8, 8, 8, 8, 8, 8, 8, 8, 8, 8, 8, 8, 8, 8, 8, 8, 8, 8, 8, 8, 8, 8, 8, 8, 8, 8, 8, 8, 8, 8, 8, 8, 8, 8, 8, 8, 8, 8, 8, 8, 8, 8, 8, 8, 8, 8, 8, 8, 8, 8, 8, 8, 8, 8, 8, 8, 8, 8, 8, 8, 8, 8, 8, 8, 8])) (.t 15)⟩,
  ⟨none, some 17, .conv .i64 (.t 16)⟩,
  ⟨none, some 18, .bin .add (.t 13) (.t 17)⟩,
  ⟨none, some 2, .mv (.t 18)⟩]
def s128 : SF := ⟨19, [.tmp 2], .seq (.reg r128_0) (.seq (.seq (.reg r128_1) (.cond (.t 4) (.seq (.reg r128_2) (.reg r128_3)) (.skip))) (.seq (.seq (.reg r128_4) (.cond (.t 8) (.seq (.reg r128_5) (.reg r128_6)) (.skip))) (.seq (.reg r128_7) (.ret))))⟩
theorem s128_ok : slimF Tryz.prog ⟨[57, 58, 59, 63, 67, 68, 77, 102, 103, 104, 110, 116, 120], []⟩ Tryz.f128 = some s128 := by kernel_rfl
end Go.Proofs.YtmnjchcoigbngaaGreat


namespace Go.Proofs.YtmnjchcoigbngaaGreat
open Go Go.Proofs
def r129_0 : List SO := [
  ⟨none, some 2, .mv (.c (.int .i64 0))⟩]
def r129_1 : List SO := [
  ⟨none, some 3, .mv (.t 0)⟩,
  ⟨none, some 4, .bin .geq (.t 3) (.c (.int .u64 4294967296))⟩]
def r129_2 : List SO := [
  ⟨none, some 5, .mv (.t 0)⟩,
  ⟨none, some 6, .bin .shr (.t 5) (.c (.int .u64 32))⟩,
  ⟨none, some 0, .mv (.t 6)⟩]
def r129_3 : List SO := [
  ⟨none, some 2, .mv (.c (.int .i64 32))⟩]
def r129_4 : List SO := [
  ⟨none, some 7, .mv (.t 0)⟩,
  ⟨none, some 8, .bin .geq (.t 7) (.c (.int .u64 65536))⟩]
def r129_5 : List SO := [
  ⟨none, some 9, .mv (.t 0)⟩,
  ⟨none, some 10, .bin .shr (.t 9) (.c (.int .u64 16))⟩,
  ⟨none, some 0, .mv (.t 10)⟩]
def r129_6 : List SO := [
  ⟨none, some 11, .mv (.t 2)⟩,
  ⟨none, some 12, .bin .add (.t 11) (.c (.int .i64 16))⟩,
  ⟨none, some 2, .mv (.t 12)⟩]
def r129_7 : List SO := [
  ⟨none, some 13, .mv (.t 0)⟩,
  ⟨none, some 14, .bin .geq (.t 13) (.c (.int .u64 256))⟩]
def r129_8 : List SO := [
  ⟨none, some 15, .mv (.t 0)⟩,
  ⟨none, some 16, .bin .shr (.t 15) (.c (.int .u64 8))⟩,
  ⟨none, some 0, .mv (.t 16)⟩]
def r129_9 : List SO := [
  ⟨none, some 17, .mv (.t 2)⟩,
  ⟨none, some 18, .bin .add (.t 17) (.c (.int .i64 8))⟩,
  ⟨none, some 2, .mv (.t 18)⟩]
def r129_10 : List SO := [
  ⟨none, some 19, .mv (.t 2)⟩,
  ⟨none, some 20, .mv (.t 0)⟩,
  ⟨none, some 21, .conv .u8 (.t 20)⟩,
  ⟨none, some 22, .sidx (.c (.str [0, 1, 2, 2, 3, 3, 3, 3, 4, 4, 4, 4, 4, 4, 4, 4, 5, 5, 5, 5, 5, 5, 5, 5, 5, 5, 5, 5, 5, 5, 5, 5, 6, 6, 6, 6, 6, 6, 6, 6, 6, 6, 6, 6, 6, 6, 6, 6, 6, 6, 6, 6, 6, 6, 6, 6, 6, 6, 6, 6, 6, 6, 6, 6, 7, 7, 7, 7, 7, 7, 7, 7, 7, 7, 7, 7, 7, 7, 7, 7, 7, 7, 7, 7, 7, 7, 7, 7, 7, 7, 7, 7, 7, 7, 7, 7, 7, 7, 7, 7, 7, 7, 7, 7, 7, 7, 7, 7, 7, 7, 7, 7, 7, 7, 7, 7, 7, 7, 7, 7, 7, 7, 7, 7, 7, 7, 7, 7, 8, 8, 8, 8, 8, 8, 8, 8, 8, 8, 8, 8, 8, 8, 8, 8, 8, 8, 8, 8, 8, 8, 8, 8, 8, 8, 8, 8, 8, 8, 8, 8, 8, 8, 8, 8, 8, 8, 8, 8, 8, 8, 8, 8, 8, 8, 8, 8, 8, 8, 8, 8, 8, 8, 8, 8, 8, 8, 8, 8, 8, 8, 8, 8, 8, 8, 8, 8, 8, 8, 8, 8, 8, 8, 8, 8, 8, 8, 8, 8, 8, 8, 8, 8, 8, 8, 8, 8, 8, 8, 8, 8, 8, 8, 8, 8, 8, 8, 8, 8, 8, 8, 8, 8, 8, 8, 8, 8, 8, 8, 8, 8, 8, 8, 8, 8, 8, 8, 8, 8, 8, 8, 8, 8, 8, 8, 8, 8])) (.t 21)⟩,
  ⟨none, some 23, .conv .i64 (.t 22)⟩,
  ⟨none, some 24, .bin .add (.t 19) (.t 23)⟩,
  ⟨none, some 2, .mv (.t 24)⟩]
def s129 : SF := ⟨25, [.tmp 2], .seq (.reg r129_0) (.seq (.seq (.reg r129_1) (.cond (.t 4) (.seq (.reg r129_2) (.reg r129_3)) (.skip))) (.seq (.seq (.reg r129_4) (.cond (.t 8) (.seq (.reg r129_5) (.reg r129_6)) (.skip))) (.seq (.seq (.reg r129_7) (.cond (.t 14) (.seq (.reg r129_8) (.reg r129_9)) (.skip))) (.seq (.reg r129_10) (.ret)))))⟩
theorem s129_ok : slimF Tryz.prog ⟨[57, 58, 59, 63, 67, 68, 77, 102, 103, 104, 110, 116, 120], []⟩ Tryz.f129 = some s129 := by kernel_rfl
end Go.Proofs.YtmnjchcoigbngaaGreat


namespace Go.Proofs.YtmnjchcoigbngaaGreat
open Go Go.Proofs
def r130_0 : List SO := [
  ⟨none, some 12, .mv (.t 1)⟩,
  ⟨none, some 10, .mv (.t 12)⟩]
def r130_1 : List SO := [
  ⟨none, some 13, .mv (.t 10)⟩,
  ⟨none, some 14, .bin .mul (.c (.int .i64 2)) (.t 13)⟩,
  ⟨none, some 15, .bin .add (.t 14) (.c (.int .i64 1))⟩,
  ⟨none, some 11, .mv (.t 15)⟩]
def r130_2 : List SO := [
  ⟨none, some 16, .mv (.t 11)⟩,
  ⟨none, some 17, .mv (.t 2)⟩,
  ⟨none, some 18, .bin .geq (.t 16) (.t 17)⟩]
def r130_3 : List SO := [
  ⟨none, some 19, .mv (.t 11)⟩,
  ⟨none, some 20, .bin .add (.t 19) (.c (.int .i64 1))⟩,
  ⟨none, some 21, .mv (.t 2)⟩,
  ⟨none, some 22, .bin .lss (.t 20) (.t 21)⟩,
  ⟨none, some 23, .mv (.t 22)⟩,
  ⟨some (23, true), some 24, .mv (.t 4)⟩,
  ⟨some (23, true), some 25, .mv (.t 0)⟩,
  ⟨some (23, true), some 26, .mv (.t 3)⟩,
  ⟨some (23, true), some 27, .mv (.t 11)⟩,
  ⟨some (23, true), some 28, .bin .add (.t 26) (.t 27)⟩,
  ⟨some (23, true), some 29, .idx 1 (.t 25) (.t 28)⟩,
  ⟨some (23, true), some 30, .load false 1 (.t 29)⟩,
  ⟨some (23, true), some 31, .mv (.t 0)⟩,
  ⟨some (23, true), some 32, .mv (.t 3)⟩,
  ⟨some (23, true), some 33, .mv (.t 11)⟩,
  ⟨some (23, true), some 34, .bin .add (.t 32) (.t 33)⟩,
  ⟨some (23, true), some 35, .bin .add (.t 34) (.c (.int .i64 1))⟩,
  ⟨some (23, true), some 36, .idx 1 (.t 31) (.t 35)⟩,
  ⟨some (23, true), some 37, .load false 1 (.t 36)⟩,
  ⟨some (23, true), some 38, .callv false (.t 24) [.t 30, .t 37]⟩,
  ⟨some (23, true), some 39, .bin .lss (.t 38) (.c (.int .i64 0))⟩,
  ⟨none, some 40, .pick (.t 23) (.t 39) (.c (.bool false))⟩]
def r130_4 : List SO := [
  ⟨none, some 41, .mv (.t 11)⟩,
  ⟨none, some 42, .bin .add (.t 41) (.c (.int .i64 1))⟩,
  ⟨none, some 11, .mv (.t 42)⟩]
def r130_5 : List SO := [
  ⟨none, some 43, .mv (.t 4)⟩,
  ⟨none, some 44, .mv (.t 0)⟩,
  ⟨none, some 45, .mv (.t 3)⟩,
  ⟨none, some 46, .mv (.t 10)⟩,
  ⟨none, some 47, .bin .add (.t 45) (.t 46)⟩,
  ⟨none, some 48, .idx 1 (.t 44) (.t 47)⟩,
  ⟨none, some 49, .load false 1 (.t 48)⟩,
  ⟨none, some 50, .mv (.t 0)⟩,
  ⟨none, some 51, .mv (.t 3)⟩,
  ⟨none, some 52, .mv (.t 11)⟩,
  ⟨none, some 53, .bin .add (.t 51) (.t 52)⟩,
  ⟨none, some 54, .idx 1 (.t 50) (.t 53)⟩,
  ⟨none, some 55, .load false 1 (.t 54)⟩,
  ⟨none, some 56, .callv false (.t 43) [.t 49, .t 55]⟩,
  ⟨none, some 57, .bin .lss (.t 56) (.c (.int .i64 0))⟩,
  ⟨none, some 58, .un .not (.t 57)⟩]
def r130_6 : List SO := [
  ⟨none, some 59, .mv (.t 0)⟩,
  ⟨none, some 60, .mv (.t 3)⟩,
  ⟨none, some 61, .mv (.t 10)⟩,
  ⟨none, some 62, .bin .add (.t 60) (.t 61)⟩,
  ⟨none, some 63, .mv (.t 0)⟩,
  ⟨none, some 64, .mv (.t 3)⟩,
  ⟨none, some 65, .mv (.t 11)⟩,
  ⟨none, some 66, .bin .add (.t 64) (.t 65)⟩,
  ⟨none, some 67, .mv (.t 0)⟩,
  ⟨none, some 68, .mv (.t 3)⟩,
  ⟨none, some 69, .mv (.t 11)⟩,
  ⟨none, some 70, .bin .add (.t 68) (.t 69)⟩,
  ⟨none, some 71, .idx 1 (.t 67) (.t 70)⟩,
  ⟨none, some 72, .load false 1 (.t 71)⟩,
  ⟨none, some 73, .mv (.t 0)⟩,
  ⟨none, some 74, .mv (.t 3)⟩,
  ⟨none, some 75, .mv (.t 10)⟩,
  ⟨none, some 76, .bin .add (.t 74) (.t 75)⟩,
  ⟨none, some 77, .idx 1 (.t 73) (.t 76)⟩,
  ⟨none, some 78, .load false 1 (.t 77)⟩,
  ⟨none, some 79, .idx 1 (.t 59) (.t 62)⟩,
  ⟨none, none, .store 1 (.t 79) (.t 72)⟩,
  ⟨none, some 80, .idx 1 (.t 63) (.t 66)⟩,
  ⟨none, none, .store 1 (.t 80) (.t 78)⟩]
def r130_7 : List SO := [
  ⟨none, some 81, .mv (.t 11)⟩,
  ⟨none, some 10, .mv (.t 81)⟩]
def b130_0 : SC := .block 1 (.seq (.reg r130_1) (.seq (.seq (.reg r130_2) (.cond (.t 18) (.exit 0) (.skip))) (.seq (.seq (.reg r130_3) (.cond (.t 40) (.reg r130_4) (.skip))) (.seq (.seq (.reg r130_5) (.cond (.t 58) (.ret) (.skip))) (.seq (.reg r130_6) (.reg r130_7))))))
def s130 : SF := ⟨82, [], .seq (.reg r130_0) (.block 0 (.loop b130_0))⟩
theorem s130_ok : slimF Tryz.prog ⟨[57, 58, 59, 63, 67, 68, 77, 102, 103, 104, 110, 116, 120], []⟩ Tryz.f130 = some s130 := by kernel_rfl
end Go.Proofs.YtmnjchcoigbngaaGreat


namespace Go.Proofs.YtmnjchcoigbngaaGreat
open Go Go.Proofs
def r131_0 : List SO := [
  ⟨none, some 2, .mv (.c (.int .u64 0))⟩]
def r131_1 : List SO := [
  ⟨none, some 3, .mv (.t 0)⟩,
  ⟨none, some 4, .conv .u64 (.t 3)⟩,
  ⟨none, some 5, .call false 117 [.t 4]⟩,
  ⟨none, some 6, .bin .shl (.c (.int .u64 1)) (.t 5)⟩,
  ⟨none, some 2, .mv (.t 6)⟩]
def s131 : SF := ⟨7, [.tmp 2], .seq (.reg r131_0) (.seq (.reg r131_1) (.ret))⟩
theorem s131_ok : slimF Tryz.prog ⟨[57, 58, 59, 63, 67, 68, 77, 102, 103, 104, 110, 116, 120], []⟩ Tryz.f131 = some s131 := by kernel_rfl
end Go.Proofs.YtmnjchcoigbngaaGreat


namespace Go.Proofs.YtmnjchcoigbngaaGreat
open Go Go.Proofs
def r132_0 : List SO := [
  ⟨none, some 2, .mv (.c (.int .u64 0))⟩]
def r132_1 : List SO := [
  ⟨none, some 3, .mv (.t 0)⟩,
  ⟨none, some 4, .nilck (.t 3)⟩,
  ⟨none, some 5, .load false 1 (.t 4)⟩,
  ⟨none, some 6, .mv (.t 0)⟩,
  ⟨none, some 7, .nilck (.t 6)⟩,
  ⟨none, some 8, .load false 1 (.t 7)⟩,
  ⟨none, some 9, .bin .shl (.t 8) (.c (.int .u64 13))⟩,
  ⟨none, some 10, .bin .xor (.t 5) (.t 9)⟩,
  ⟨none, some 11, .nilck (.t 3)⟩,
  ⟨none, none, .store 1 (.t 11) (.t 10)⟩]
def r132_2 : List SO := [
  ⟨none, some 12, .mv (.t 0)⟩,
  ⟨none, some 13, .nilck (.t 12)⟩,
  ⟨none, some 14, .load false 1 (.t 13)⟩,
  ⟨none, some 15, .mv (.t 0)⟩,
  ⟨none, some 16, .nilck (.t 15)⟩,
  ⟨none, some 17, .load false 1 (.t 16)⟩,
  ⟨none, some 18, .bin .shr (.t 17) (.c (.int .u64 7))⟩,
  ⟨none, some 19, .bin .xor (.t 14) (.t 18)⟩,
  ⟨none, some 20, .nilck (.t 12)⟩,
  ⟨none, none, .store 1 (.t 20) (.t 19)⟩]
def r132_3 : List SO := [
  ⟨none, some 21, .mv (.t 0)⟩,
  ⟨none, some 22, .nilck (.t 21)⟩,
  ⟨none, some 23, .load false 1 (.t 22)⟩,
  ⟨none, some 24, .mv (.t 0)⟩,
  ⟨none, some 25, .nilck (.t 24)⟩,
  ⟨none, some 26, .load false 1 (.t 25)⟩,
  ⟨none, some 27, .bin .shl (.t 26) (.c (.int .u64 17))⟩,
  ⟨none, some 28, .bin .xor (.t 23) (.t 27)⟩,
  ⟨none, some 29, .nilck (.t 21)⟩,
  ⟨none, none, .store 1 (.t 29) (.t 28)⟩]
def r132_4 : List SO := [
  ⟨none, some 30, .mv (.t 0)⟩,
  ⟨none, some 31, .nilck (.t 30)⟩,
  ⟨none, some 32, .load false 1 (.t 31)⟩,
  ⟨none, some 2, .mv (.t 32)⟩]
def s132 : SF := ⟨33, [.tmp 2], .seq (.reg r132_0) (.seq (.reg r132_1) (.seq (.reg r132_2) (.seq (.reg r132_3) (.seq (.reg r132_4) (.ret)))))⟩
theorem s132_ok : slimF Tryz.prog ⟨[57, 58, 59, 63, 67, 68, 77, 102, 103, 104, 110, 116, 120], []⟩ Tryz.f132 = some s132 := by kernel_rfl
end Go.Proofs.YtmnjchcoigbngaaGreat


namespace Go.Proofs.YtmnjchcoigbngaaGreat
open Go Go.Proofs
def r133_0 : List SO := [
  ⟨none, some 8, .mv (.c (.int .i64 0))⟩]
def r133_1 : List SO := [
  ⟨none, some 9, .mv (.t 0)⟩,
  ⟨none, some 10, .mv (.t 1)⟩,
  ⟨none, some 11, .bin .sub (.t 10) (.c (.int .i64 1))⟩,
  ⟨none, some 12, .mv (.t 1)⟩,
  ⟨none, some 13, .mv (.t 1)⟩,
  ⟨none, some 14, .bin .add (.t 13) (.c (.int .i64 1))⟩,
  ⟨none, some 15, .mv (.t 2)⟩,
  ⟨none, some 16, .mv (.t 3)⟩,
  ⟨none, some 17, .call false 134 [.t 9, .t 11, .t 12, .t 14, .t 15, .t 16]⟩,
  ⟨none, some 8, .mv (.t 17)⟩]
def s133 : SF := ⟨18, [.tmp 8], .seq (.reg r133_0) (.seq (.reg r133_1) (.ret))⟩
theorem s133_ok : slimF Tryz.prog ⟨[57, 58, 59, 63, 67, 68, 77, 102, 103, 104, 110, 116, 120], []⟩ Tryz.f133 = some s133 := by kernel_rfl
end Go.Proofs.YtmnjchcoigbngaaGreat


namespace Go.Proofs.YtmnjchcoigbngaaGreat
open Go Go.Proofs
def r134_0 : List SO := [
  ⟨none, some 12, .mv (.c (.int .i64 0))⟩]
def r134_1 : List SO := [
  ⟨none, some 14, .mv (.t 0)⟩,
  ⟨none, some 15, .mv (.t 1)⟩,
  ⟨none, some 16, .mv (.t 2)⟩,
  ⟨none, some 17, .mv (.t 4)⟩,
  ⟨none, some 18, .mv (.t 5)⟩,
  ⟨none, some 19, .call false 135 [.t 14, .t 15, .t 16, .t 17, .t 18]⟩,
  ⟨none, some 13, .mv (.t 19)⟩,
  ⟨none, some 20, .ext (.t 13) 0⟩,
  ⟨none, some 21, .ext (.t 13) 1⟩,
  ⟨none, some 1, .mv (.t 20)⟩,
  ⟨none, some 2, .mv (.t 21)⟩]
def r134_2 : List SO := [
  ⟨none, some 23, .mv (.t 0)⟩,
  ⟨none, some 24, .mv (.t 2)⟩,
  ⟨none, some 25, .mv (.t 3)⟩,
  ⟨none, some 26, .mv (.t 4)⟩,
  ⟨none, some 27, .mv (.t 5)⟩,
  ⟨none, some 28, .call false 135 [.t 23, .t 24, .t 25, .t 26, .t 27]⟩,
  ⟨none, some 22, .mv (.t 28)⟩,
  ⟨none, some 29, .ext (.t 22) 0⟩,
  ⟨none, some 30, .ext (.t 22) 1⟩,
  ⟨none, some 2, .mv (.t 29)⟩,
  ⟨none, some 3, .mv (.t 30)⟩]
def r134_3 : List SO := [
  ⟨none, some 32, .mv (.t 0)⟩,
  ⟨none, some 33, .mv (.t 1)⟩,
  ⟨none, some 34, .mv (.t 2)⟩,
  ⟨none, some 35, .mv (.t 4)⟩,
  ⟨none, some 36, .mv (.t 5)⟩,
  ⟨none, some 37, .call false 135 [.t 32, .t 33, .t 34, .t 35, .t 36]⟩,
  ⟨none, some 31, .mv (.t 37)⟩,
  ⟨none, some 38, .ext (.t 31) 0⟩,
  ⟨none, some 39, .ext (.t 31) 1⟩,
  ⟨none, some 1, .mv (.t 38)⟩,
  ⟨none, some 2, .mv (.t 39)⟩]
def r134_4 : List SO := [
  ⟨none, some 40, .mv (.t 2)⟩,
  ⟨none, some 12, .mv (.t 40)⟩]
def s134 : SF := ⟨41, [.tmp 12], .seq (.reg r134_0) (.seq (.reg r134_1) (.seq (.reg r134_2) (.seq (.reg r134_3) (.seq (.reg r134_4) (.ret)))))⟩
theorem s134_ok : slimF Tryz.prog ⟨[57, 58, 59, 63, 67, 68, 77, 102, 103, 104, 110, 116, 120], []⟩ Tryz.f134 = some s134 := by kernel_rfl
end Go.Proofs.YtmnjchcoigbngaaGreat


namespace Go.Proofs.YtmnjchcoigbngaaGreat
open Go Go.Proofs
def r135_0 : List SO := [
  ⟨none, some 10, .mv (.c (.int .i64 0))⟩,
  ⟨none, some 11, .mv (.c (.int .i64 0))⟩]
def r135_1 : List SO := [
  ⟨none, some 12, .mv (.t 4)⟩,
  ⟨none, some 13, .mv (.t 0)⟩,
  ⟨none, some 14, .mv (.t 2)⟩,
  ⟨none, some 15, .idx 1 (.t 13) (.t 14)⟩,
  ⟨none, some 16, .load false 1 (.t 15)⟩,
  ⟨none, some 17, .mv (.t 0)⟩,
  ⟨none, some 18, .mv (.t 1)⟩,
  ⟨none, some 19, .idx 1 (.t 17) (.t 18)⟩,
  ⟨none, some 20, .load false 1 (.t 19)⟩,
  ⟨none, some 21, .callv false (.t 12) [.t 16, .t 20]⟩,
  ⟨none, some 22, .bin .lss (.t 21) (.c (.int .i64 0))⟩]
def r135_2 : List SO := [
  ⟨none, some 23, .mv (.t 3)⟩,
  ⟨none, some 24, .nilck (.t 23)⟩,
  ⟨none, some 25, .load false 1 (.t 24)⟩,
  ⟨none, some 26, .bin .add (.t 25) (.c (.int .i64 1))⟩,
  ⟨none, some 27, .nilck (.t 23)⟩,
  ⟨none, none, .store 1 (.t 27) (.t 26)⟩]
def r135_3 : List SO := [
  ⟨none, some 28, .mv (.t 2)⟩,
  ⟨none, some 29, .mv (.t 1)⟩,
  ⟨none, some 10, .mv (.t 28)⟩,
  ⟨none, some 11, .mv (.t 29)⟩]
def r135_4 : List SO := [
  ⟨none, some 30, .mv (.t 1)⟩,
  ⟨none, some 31, .mv (.t 2)⟩,
  ⟨none, some 10, .mv (.t 30)⟩,
  ⟨none, some 11, .mv (.t 31)⟩]
def s135 : SF := ⟨32, [.tmp 10, .tmp 11], .seq (.reg r135_0) (.seq (.seq (.reg r135_1) (.cond (.t 22) (.seq (.reg r135_2) (.seq (.reg r135_3) (.ret))) (.skip))) (.seq (.reg r135_4) (.ret)))⟩
theorem s135_ok : slimF Tryz.prog ⟨[57, 58, 59, 63, 67, 68, 77, 102, 103, 104, 110, 116, 120], []⟩ Tryz.f135 = some s135 := by kernel_rfl
end Go.Proofs.YtmnjchcoigbngaaGreat


namespace Go.Proofs.YtmnjchcoigbngaaGreat
open Go Go.Proofs Go.Shelf Go.RowKit Go.Lib
structure InsLay (P : Program) (ρ : Ren) (n1 : String) (k bytes : Nat) (z : Value) : Prop where
  mixed : P.follows .mixedOrders = true
  f22 : P.funcs[ρ.f 22]? = some { Body2.n22 ρ with name := n1 }
  ov : ∀ args w, (callFunc (ρ.f 29) args).run P w = ((Extern.SlicesOverlaps.overlaps #[(ρ.t 24), (ρ.t 24)] #[(ρ.t 4)] args).run P w).andThen fun v w' => .ok (.value v) w'
  t0 : P.underlying (ρ.t 0) = some (TypeDesc.tuple #[])
  a0 : ∀ w, (isAgg (ρ.t 0)).run P w = .ok false w
  z0 : ∀ w, (Go.sizeOf (ρ.t 0)).run P w = .ok 1 w
  v0 : ∀ w, (zeroValue (ρ.t 0)).run P w = .ok (Value.tuple #[]) w
  t3 : P.underlying (ρ.t 3) = some (TypeDesc.int IntKind.i64)
  a3 : ∀ w, (isAgg (ρ.t 3)).run P w = .ok false w
  z3 : ∀ w, (Go.sizeOf (ρ.t 3)).run P w = .ok 1 w
  v3 : ∀ w, (zeroValue (ρ.t 3)).run P w = .ok (Value.int IntKind.i64 0) w
  t4 : P.underlying (ρ.t 4) = some (TypeDesc.bool)
  a4 : ∀ w, (isAgg (ρ.t 4)).run P w = .ok false w
  z4 : ∀ w, (Go.sizeOf (ρ.t 4)).run P w = .ok 1 w
  v4 : ∀ w, (zeroValue (ρ.t 4)).run P w = .ok (Value.bool false) w
  z9 : ∀ w, (Go.sizeOf (ρ.t 9)).run P w = .ok k w
  t24 : P.underlying (ρ.t 24) = some (TypeDesc.slice (ρ.t 9))
  a24 : ∀ w, (isAgg (ρ.t 24)).run P w = .ok false w
  z24 : ∀ w, (Go.sizeOf (ρ.t 24)).run P w = .ok 1 w
  v24 : ∀ w, (zeroValue (ρ.t 24)).run P w = .ok (Value.slice none 0 0) w
  i9 : (P.info? (ρ.t 9)).map (fun i => (i.zero, i.size, i.bytes)) = some (some z, k, bytes)
  hk : 0 < k
  hz : z.cells.size = k
variable {P : Program} {ρ : Ren} {n1 : String} {k bytes : Nat} {z : Value}
theorem run_copy_rowk (w : World) (dT sT ty elem : TypeId) (g o dLen dCap : Nat) (a : Addr) (sLen sCap : Nat) (cur : Array Value) (t : TypeId) (cs : List Value) (k : Nat)
    (hu : P.underlying dT = some (.slice elem)) (hs : (P.info? elem).map (·.size) = some k)
    (hg : w.heap[g]? = some (.cells cur t (0, 0))) (hn : cs.length = Nat.min sLen dLen * k)
    (hsrc : ∀ j v, cs[j]? = some v → w.cell? (a.add j) = some v) (hfit : o + cs.length ≤ cur.size) (h1 : ∀ v ∈ cs, v.oneCell' = true) :
    (Builtin.copy_ #[dT, sT] ty #[.slice (some ⟨g, o, none⟩) dLen dCap, .slice (some a) sLen sCap]).run P w =
      .ok (goInt (Nat.min sLen dLen)) (w.setRow g (cur.toList.take o ++ cs ++ cur.toList.drop (o + cs.length)).toArray) := by
  have hl := run_loadCells_list (P := P) w a cs hsrc
  have hst := run_storeCells_at P g o t cs 0 cur w hg (by simpa using hfit) h1
  cases hq : P.info? elem with
  | none => simp [hq] at hs
  | some i =>
    have hi : i.size = k := by simpa [hq] using hs
    simp [Builtin.copy_, run_underlying hu, Builtin.lenOf, Builtin.firstCells, sizeOf, typeInfo, hq, hi, ← hn, hl, hst]
def put (cc : Array Value) (o : Nat) (cs : List Value) : Array Value := (cc.toList.take o ++ cs ++ cc.toList.drop (o + cs.length)).toArray
set_option maxHeartbeats 4000000 in
set_option maxRecDepth 100000 in
theorem ins_shift (L : InsLay P ρ n1 k bytes z) (b n c i vb vc : Nat) (cc cv : Array Value) (tb tv : TypeId) (w : World) (hi : i < n) (hroom : n + 1 ≤ c) (hc63 : c ≤ 9223372036854775807) (hvb : vb ≠ b)
    (hb : w.heap[b]? = some (.cells cc tb (0, 0))) (hv : w.heap[vb]? = some (.cells cv tv (0, 0))) (hcc : c * k = cc.size) (hcv : k ≤ cv.size) (vs : List Value) (hvs : vs = cv.toList.take k)
    (h1c : ∀ v ∈ cc.toList.take (n * k), v.oneCell' = true) (h1v : ∀ v ∈ vs, v.oneCell' = true) :
    Calls P (ρ.f 22) #[.slice (some ⟨b, 0, none⟩) n c, .int .i64 i, .slice (some ⟨vb, 0, none⟩) 1 vc] w fun e w' =>
      e = .returned (.slice (some ⟨b, 0, none⟩) (n + 1) c) ∧ w' = w.drew.setRow b (put (put cc ((i + 1) * k) ((cc.toList.take (n * k)).drop (i * k))) (i * k) vs) := by
  have hk := L.hk
  have hvl : vs.length = k := by rw [hvs, List.length_take, Array.length_toList]; omega
  have t0 := L.t0; have a0 := L.a0; have z0 := L.z0; have v0 := L.v0; have t3 := L.t3; have a3 := L.a3; have z3 := L.z3; have v3 := L.v3; have t4 := L.t4; have a4 := L.a4; have z4 := L.z4; have v4 := L.v4; have z9 := L.z9; have t24 := L.t24; have a24 := L.a24; have z24 := L.z24; have v24 := L.v24
  have u0 := run_underlying L.t0; have u3 := run_underlying L.t3; have u4 := run_underlying L.t4; have u24 := run_underlying L.t24
  have hz2 : ¬ ((i : Int) = (n : Int)) := by omega
  have hsz : (P.info? (ρ.t 9)).map (·.size) = some k := by
    obtain ⟨i0, hi0, h0, h1, h2⟩ := info_parts L.i9
    rw [hi0]; simp [h1]
  have hov : ∀ lb cb, (callFunc (ρ.f 29) #[.slice (some ⟨vb, 0, none⟩) 1 vc, .slice (some ⟨b, (i + 1) * k, none⟩) lb cb]).run P w = .ok (.value (.bool false)) w := fun lb cb => by
    rw [L.ov,
      Lib.run_overlaps_apart w (ρ.t 24) (ρ.t 4) (ρ.t 9) L.t24 k L.z9 ⟨vb, 0, none⟩ ⟨b, (i + 1) * k, none⟩ 1 vc lb cb hvb tv tb cv.size cc.size (by simp [World.shape?, hv]) (by simp [World.shape?, hb]) (by rw [← hcc]; have : 0 < c * k := Nat.mul_pos (by omega) hk; omega) (by simp [World.frozen?, hv]) (by simp [World.frozen?, hv])]
    rfl
  have mixed := L.mixed
  have hw1 : IntKind.i64.wrap ((i : Int) + 1) = (i : Int) + 1 := by rw [IntKind.wrap_i64]; omega
  have hb1 : (0 : Int) ≤ (i : Int) + 1 := by omega
  have hin : i ≤ n := by omega
  have htn : ((i : Int) + 1).toNat = i + 1 := by omega
  have hb2 : ¬ (c = i + 1) := by omega
  have hb3 : (i : Int) ≤ (n : Int) + 1 := by omega
  have hb4 : ¬ (c = i) := by omega
  have hnk : n * k ≤ cc.size := by rw [← hcc]; exact Nat.mul_le_mul_right k (by omega)
  have hn1k : (n + 1) * k ≤ cc.size := by rw [← hcc]; exact Nat.mul_le_mul_right k (by omega)
  have hik : i * k ≤ n * k := Nat.mul_le_mul_right k hin
  obtain ⟨ds, hds⟩ : ∃ ds, ds = (cc.toList.take (n * k)).drop (i * k) := ⟨_, rfl⟩
  have hdl : ds.length = (n - i) * k := by rw [hds, List.length_drop, List.length_take, Array.length_toList, Nat.min_eq_left hnk, Nat.sub_mul]
  rw [← hds]
  have e1 : Nat.min (n + 1 - i) (n - i) = n - i := by simp only [Nat.min_def]; split <;> omega
  have e2 : (i + 1) * k + (n - i) * k = (n + 1) * k := by rw [← Nat.add_mul]; congr 1; omega
  have hcp1 : ∀ ty dc sc, (Builtin.copy_ #[(ρ.t 24), (ρ.t 24)] ty #[.slice (some ⟨b, (i + 1) * k, none⟩) (n - i) dc, .slice (some ⟨b, i * k, none⟩) (n + 1 - i) sc]).run P w.drew = .ok (goInt (n - i : Nat)) (w.drew.setRow b (put cc ((i + 1) * k) ds)) := fun ty dc sc => by
    have h := run_copy_rowk (P := P) w.drew (ρ.t 24) (ρ.t 24) ty (ρ.t 9) b ((i + 1) * k) (n - i) dc ⟨b, i * k, none⟩ (n + 1 - i) sc cc tb ds k L.t24 hsz hb (by rw [hdl, e1])
      (fun j v hj => by
        rw [Addr.add_lit]
        have hj' := hj
        rw [hds, List.getElem?_drop, List.getElem?_take] at hj
        split at hj
        · rw [Array.getElem?_toList] at hj
          simp [World.cell?, show w.drew.heap[b]? = _ from hb, hj]
        · cases hj) (by rw [hdl, e2]; exact hn1k) (fun v hv => h1c v (List.mem_of_mem_drop (hds ▸ hv)))
    rw [e1] at h
    exact h
  have hps : (put cc ((i + 1) * k) ds).size = cc.size := by
    simp only [put, List.size_toArray, List.length_append, List.length_take, List.length_drop, Array.length_toList, hdl, e2]
    omega
  obtain ⟨W1, hW1⟩ : ∃ W1, W1 = w.drew.setRow b (put cc ((i + 1) * k) ds) := ⟨_, rfl⟩
  have hB1 : W1.heap[b]? = some (.cells (put cc ((i + 1) * k) ds) tb (0, 0)) := by rw [hW1]; exact setRow_heap w.drew b cc _ tb _ hb
  have hV1 : W1.heap[vb]? = some (.cells cv tv (0, 0)) := by rw [hW1, setRow_other w.drew b vb _ hvb]; exact hv
  have hcp2 : ∀ ty dc, (Builtin.copy_ #[(ρ.t 24), (ρ.t 24)] ty #[.slice (some ⟨b, i * k, none⟩) (n + 1 - i) dc, .slice (some ⟨vb, 0, none⟩) 1 vc]).run P W1 = .ok (goInt (1 : Nat)) (W1.setRow b (put (put cc ((i + 1) * k) ds) (i * k) vs)) := fun ty dc => by
    have e3 : Nat.min 1 (n + 1 - i) = 1 := by simp only [Nat.min_def]; split <;> omega
    have h := run_copy_rowk (P := P) W1 (ρ.t 24) (ρ.t 24) ty (ρ.t 9) b (i * k) (n + 1 - i) dc ⟨vb, 0, none⟩ 1 vc _ tb vs k L.t24 hsz hB1 (by rw [e3, hvl, Nat.one_mul])
      (fun j v hj => by
        rw [Addr.add_lit]
        rw [hvs, List.getElem?_take] at hj
        split at hj
        · rw [Array.getElem?_toList] at hj
          simp [World.cell?, hV1, hj]
        · cases hj) (by rw [hps, hvl]; have : (i + 1) * k ≤ (n + 1) * k := Nat.mul_le_mul_right k (by omega); rw [Nat.add_mul, Nat.one_mul] at this; omega) h1v
    rw [e3] at h
    exact h
  have hfin : W1.setRow b (put (put cc ((i + 1) * k) ds) (i * k) vs) = w.drew.setRow b (put (put cc ((i + 1) * k) ds) (i * k) vs) := by rw [hW1, setRow_setRow]
  rw [← hW1] at hcp1
  clear hW1 hds e1 e2 hvs
  go_enter L.f22, Body2.n22_ntmps ρ
  go_wp2_with (simp only [hov])
  go_region_law_o (refine step_copy_runI rfl _ _ (ρ.t 24) (ρ.t 24) rfl _ _ (by simp [Act.eval, Act.put]) (by simp [Act.eval, Act.put]) (hcp1 _ _ _) ?_)
  go_wp2_with (at_builtin; refine wpList_copy_runI _ rfl _ _ (ρ.t 24) (ρ.t 24) rfl _ _ rfl rfl (hcp2 _ _) ?_)
  go_ret
  first | exact ⟨rfl, rfl⟩ | exact ⟨rfl, hfin⟩
theorem alloc_setRow (w : World) (a b : Array Value) (e : TypeId) : (w.alloc (.cells a e)).setRow w.heap.size b = w.alloc (.cells b e) := by
  have h : (w.alloc (.cells a e)).heap[w.heap.size]? = some (.cells a e (0, 0)) := heap_push_eq _ _
  unfold World.setRow World.alloc
  congr 1
  refine Array.ext_getElem? fun j => ?_
  rw [Array.getElem?_modify]
  split
  · rename_i hj
    subst hj
    simp [Obj.cells]
  · rename_i hj
    simp only [Array.getElem?_push]
    rw [if_neg (fun x => hj x.symm), if_neg (fun x => hj x.symm)]
set_option maxHeartbeats 4000000 in
set_option maxRecDepth 100000 in
theorem ins_grow (L : InsLay P ρ n1 k bytes z) (b n c i vb vc : Nat) (cc cv : Array Value) (tb tv : TypeId) (w : World) (hi : i < n) (hnc : n ≤ c) (hroom : c < n + 1) (hc63 : c < 9223372036854775807) (hbig : (n + 1) * bytes ≤ 140737488355328)
    (hb : w.heap[b]? = some (.cells cc tb (0, 0))) (hv : w.heap[vb]? = some (.cells cv tv (0, 0))) (hcc : c * k = cc.size) (hcv : k ≤ cv.size) (vs : List Value) (hvs : vs = cv.toList.take k)
    (h1c : ∀ v ∈ cc.toList.take (n * k), v.oneCell' = true) (h1v : ∀ v ∈ vs, v.oneCell' = true) :
    Calls P (ρ.f 22) #[.slice (some ⟨b, 0, none⟩) n c, .int .i64 i, .slice (some ⟨vb, 0, none⟩) 1 vc] w fun e w' =>
      ∃ G R, R.size = G * k ∧ n + 1 ≤ G ∧ G ≤ maxLen ∧ e = .returned (.slice (some ⟨w.heap.size, 0, none⟩) (n + 1) G) ∧ w' = w.drew.drew.alloc (.cells (put (put R (i * k) vs) ((i + 1) * k) ((cc.toList.take (n * k)).drop (i * k))) (ρ.t 9)) ∧ R.toList.take (i * k) = cc.toList.take (i * k) := by
  have hk := L.hk; have hzl := L.hz
  have hvl : vs.length = k := by rw [hvs, List.length_take, Array.length_toList]; omega
  have t0 := L.t0; have a0 := L.a0; have z0 := L.z0; have v0 := L.v0; have t3 := L.t3; have a3 := L.a3; have z3 := L.z3; have v3 := L.v3; have t4 := L.t4; have a4 := L.a4; have z4 := L.z4; have v4 := L.v4; have z9 := L.z9; have t24 := L.t24; have a24 := L.a24; have z24 := L.z24; have v24 := L.v24
  have u0 := run_underlying L.t0; have u3 := run_underlying L.t3; have u4 := run_underlying L.t4; have u24 := run_underlying L.t24
  have mixed := L.mixed
  obtain ⟨i0, hi0, hz0, hzs, hzb⟩ := info_parts L.i9
  have hz2 : ¬ ((i : Int) = (n : Int)) := by omega
  have hz3 : (c : Int) < (n : Int) + 1 := by omega
  have hsz : (P.info? (ρ.t 9)).map (·.size) = some k := by rw [hi0]; simp [hzs]
  have hbw : b < w.heap.size := (Array.getElem?_eq_some_iff.1 hb).1
  have hvw : vb < w.heap.size := (Array.getElem?_eq_some_iff.1 hv).1
  have hkk : (n : Int) + 1 - (i : Int) = ((n + 1 - i : Nat) : Int) := by omega
  have hik : i + (n + 1 - i) = n + 1 := by omega
  have hnk : n * k ≤ cc.size := by rw [← hcc]; exact Nat.mul_le_mul_right k (by omega)
  have hikn : i * k ≤ n * k := Nat.mul_le_mul_right k (by omega)
  have hold : (Builtin.firstCells i0.size i (.slice (some ⟨b, 0, none⟩) i c)).run P w.drew = .ok (cc.toList.take (i * k)).toArray w.drew := by
    rw [hzs]
    exact run_firstCells_some w.drew k i ⟨b, 0, none⟩ i c (cc.toList.take (i * k)) (by rw [List.length_take, Array.length_toList]; omega) (fun j v hj => by
      rw [Addr.add_lit]
      rw [List.getElem?_take] at hj
      split at hj
      · rw [Array.getElem?_toList] at hj
        simp [World.cell?, show w.drew.heap[b]? = _ from hb, hj]
      · cases hj)
  have hrz : ∀ ty, (Builtin.append_ #[(ρ.t 24), (ρ.t 3)] ty #[.slice (some ⟨b, 0, none⟩) i c, .int .i64 ((n : Int) + 1 - (i : Int))]).run P w =
      .ok (.slice (some ⟨w.heap.size, 0, none⟩) (n + 1) (grownCap w (n + 1) c (ρ.t 9))) (w.drew.alloc (.cells ((cc.toList.take (i * k)).toArray ++ Builtin.zeroCells z.cells (n + 1 - i) ++ Builtin.zeroCells z.cells (grownCap w (n + 1) c (ρ.t 9) - (n + 1))) (ρ.t 9))) := fun ty => by
    have h := Lib.run_append_grow_zeros w (ρ.t 24) (ρ.t 3) ty (ρ.t 9) i0 _ .i64 .i64 L.t24 L.t3 hi0 hz0 (some ⟨b, 0, none⟩) i c _ hold (n + 1 - i) (by omega) (by omega) (by omega) (by omega) (by rw [hzb]; have : (n + 1 - i) * bytes ≤ (n + 1) * bytes := Nat.mul_le_mul_right _ (by omega); omega) (by rw [hzb, hik]; exact growslice_fits hroom hbig)
    rw [hik] at h
    rw [hkk]
    exact h
  have hGn : n + 1 ≤ grownCap w (n + 1) c (ρ.t 9) := grownCap_ge w _ _ _
  have hGm : grownCap w (n + 1) c (ρ.t 9) ≤ maxLen := grownCap_le_maxLen w (n + 1) c (ρ.t 9) (by unfold maxLen; omega)
  obtain ⟨G, hG⟩ : ∃ G, G = grownCap w (n + 1) c (ρ.t 9) := ⟨_, rfl⟩
  rw [← hG] at hGn hGm
  obtain ⟨ROW, hROW⟩ : ∃ ROW : Array Value, ROW = (cc.toList.take (i * k)).toArray ++ Builtin.zeroCells z.cells (n + 1 - i) ++ Builtin.zeroCells z.cells (G - (n + 1)) := ⟨_, rfl⟩
  rw [← hG] at hrz
  rw [← hROW] at hrz
  have hRl : ROW.size = G * k := by
    rw [hROW]
    simp only [Array.size_append, List.size_toArray, List.length_take, Array.length_toList, size_zeroCells, hzl, Nat.min_eq_left (show i * k ≤ cc.size by omega), ← Nat.add_mul]
    congr 1; omega
  have hRt : ROW.toList.take (i * k) = cc.toList.take (i * k) := by
    rw [hROW]
    simp only [Array.toList_append, List.append_assoc]
    rw [List.take_append_of_le_length (by simp; omega), List.take_take, Nat.min_self]
  have hG63 : G ≤ 9223372036854775807 := by unfold maxLen at hGm; omega
  have hGi : ¬ (G = i) := by omega
  have hGim : ¬ (G = i + 1) := by omega
  have hci : ¬ (c = i) := by omega
  have hn1G : (n + 1) * k ≤ G * k := Nat.mul_le_mul_right k hGn
  obtain ⟨ds, hds⟩ : ∃ ds, ds = (cc.toList.take (n * k)).drop (i * k) := ⟨_, rfl⟩
  have hdl : ds.length = (n - i) * k := by rw [hds, List.length_drop, List.length_take, Array.length_toList, Nat.min_eq_left hnk, Nat.sub_mul]
  rw [← hds]
  have e1 : Nat.min (n - i) (n - i) = n - i := Nat.min_self _
  have e2 : (i + 1) * k + (n - i) * k = (n + 1) * k := by rw [← Nat.add_mul]; congr 1; omega
  have e4 : i * k + k ≤ (n + 1) * k := by have : (i + 1) * k ≤ (n + 1) * k := Nat.mul_le_mul_right k (by omega); rw [Nat.add_mul, Nat.one_mul] at this; exact this
  obtain ⟨W1, hW1⟩ : ∃ W1, W1 = w.drew.alloc (.cells ROW (ρ.t 9)) := ⟨_, rfl⟩
  have hcpA : ∀ (W : World), W.heap = W1.heap → ∀ ty dc, (Builtin.copy_ #[(ρ.t 24), (ρ.t 24)] ty #[.slice (some ⟨w.heap.size, i * k, none⟩) (n + 1 - i) dc, .slice (some ⟨vb, 0, none⟩) 1 vc]).run P W = .ok (goInt (1 : Nat)) (W.setRow w.heap.size (put ROW (i * k) vs)) := fun W hW ty dc => by
    have e3 : Nat.min 1 (n + 1 - i) = 1 := by simp only [Nat.min_def]; split <;> omega
    have hN : W.heap[w.heap.size]? = some (.cells ROW (ρ.t 9) (0, 0)) := by rw [hW, hW1]; exact heap_push_eq w.drew _
    have hV : W.heap[vb]? = some (.cells cv tv (0, 0)) := by rw [hW, hW1, heap_push_lt w.drew _ hvw]; exact hv
    have h := run_copy_rowk (P := P) W (ρ.t 24) (ρ.t 24) ty (ρ.t 9) w.heap.size (i * k) (n + 1 - i) dc ⟨vb, 0, none⟩ 1 vc ROW (ρ.t 9) vs k L.t24 hsz hN (by rw [e3, hvl, Nat.one_mul])
      (fun j v hj => by
        rw [Addr.add_lit]
        rw [hvs, List.getElem?_take] at hj
        split at hj
        · rw [Array.getElem?_toList] at hj
          simp [World.cell?, hV, hj]
        · cases hj) (by rw [hRl, hvl]; omega) h1v
    rw [e3] at h
    exact h
  have hps : (put ROW (i * k) vs).size = ROW.size := by
    simp only [put, List.size_toArray, List.length_append, List.length_take, List.length_drop, Array.length_toList, hvl]
    omega
  have hcpB : ∀ (W : World), W.heap = (W1.setRow w.heap.size (put ROW (i * k) vs)).heap → ∀ ty dc sc, (Builtin.copy_ #[(ρ.t 24), (ρ.t 24)] ty #[.slice (some ⟨w.heap.size, (i + 1) * k, none⟩) (n - i) dc, .slice (some ⟨b, i * k, none⟩) (n - i) sc]).run P W = .ok (goInt (n - i : Nat)) (W.setRow w.heap.size (put (put ROW (i * k) vs) ((i + 1) * k) ds)) := fun W hW ty dc sc => by
    have hN : W.heap[w.heap.size]? = some (.cells (put ROW (i * k) vs) (ρ.t 9) (0, 0)) := by
      rw [hW, hW1]; exact setRow_heap _ _ ROW _ (ρ.t 9) _ (heap_push_eq w.drew _)
    have hB : W.heap[b]? = some (.cells cc tb (0, 0)) := by
      rw [hW, hW1, setRow_other _ _ b _ (by omega), heap_push_lt w.drew _ hbw]; exact hb
    have h := run_copy_rowk (P := P) W (ρ.t 24) (ρ.t 24) ty (ρ.t 9) w.heap.size ((i + 1) * k) (n - i) dc ⟨b, i * k, none⟩ (n - i) sc _ (ρ.t 9) ds k L.t24 hsz hN (by rw [hdl, e1])
      (fun j v hj => by
        rw [Addr.add_lit]
        rw [hds, List.getElem?_drop, List.getElem?_take] at hj
        split at hj
        · rw [Array.getElem?_toList] at hj
          simp [World.cell?, hB, hj]
        · cases hj) (by rw [hdl, e2, hps, hRl]; exact hn1G) (fun v hv => h1c v (List.mem_of_mem_drop (hds ▸ hv)))
    rw [e1] at h
    exact h
  subst hW1
  have hw1 : IntKind.i64.wrap ((i : Int) + 1) = (i : Int) + 1 := by rw [IntKind.wrap_i64]; omega
  have hb1 : (0 : Int) ≤ (i : Int) + 1 := by omega
  have hin : i ≤ n := by omega
  have htn : ((i : Int) + 1).toNat = i + 1 := by omega
  have hb3 : (i : Int) ≤ (n : Int) := by omega
  have hE1 : ((w.alloc (.cells ROW (ρ.t 9))).drew).heap = (w.drew.alloc (.cells ROW (ρ.t 9))).heap := rfl
  have hF1 : (((w.alloc (.cells ROW (ρ.t 9))).drew.setRow w.heap.size (put ROW (i * k) vs)).drew).heap = ((w.drew.alloc (.cells ROW (ρ.t 9))).setRow w.heap.size (put ROW (i * k) vs)).heap := rfl
  have hcall : Calls P (ρ.f 22) #[.slice (some ⟨b, 0, none⟩) n c, .int .i64 i, .slice (some ⟨vb, 0, none⟩) 1 vc] w fun e w' => e = .returned (.slice (some ⟨w.heap.size, 0, none⟩) (n + 1) G) ∧ w' = (((w.alloc (.cells ROW (ρ.t 9))).drew.setRow w.heap.size (put ROW (i * k) vs)).drew).setRow w.heap.size (put (put ROW (i * k) vs) ((i + 1) * k) ds) := by
    clear hkk hik hold hROW hG hRl hds e1 e2 e4 hRt hvs
    go_enter L.f22, Body2.n22_ntmps ρ
    go_wp2_with (first
      | (at_builtin; refine Lib.wpList_append_run _ rfl _ _ _ _ rfl _ _ rfl rfl _ _ (hrz _) ?_)
      | (at_builtin; refine wpList_copy_runI _ rfl _ _ (ρ.t 24) (ρ.t 24) rfl _ _ rfl rfl (hcpA _ hE1 _ _) ?_)
      | (at_builtin; refine wpList_copy_runI _ rfl _ _ (ρ.t 24) (ρ.t 24) rfl _ _ rfl rfl (hcpB _ hF1 _ _ _) ?_))
    go_region_law_o (refine step_copy_runI rfl _ _ (ρ.t 24) (ρ.t 24) rfl (.slice (some ⟨w.heap.size, (i + 1) * k, none⟩) (n - i) (G - (i + 1))) (.slice (some ⟨b, i * k, none⟩) (n - i) (c - i)) (by simp [Act.eval, Act.put]) (by simp [Act.eval, Act.put]) (hcpB _ hF1 (ρ.t 3) (G - (i + 1)) (c - i)) ?_)
    go_wp2
    go_ret
    exact ⟨rfl, rfl⟩
  refine hcall.mono fun e w' h => ?_
  obtain ⟨rfl, rfl⟩ := h
  refine ⟨G, ROW, hRl, hGn, hGm, rfl, ?_, hRt⟩
  have q := alloc_setRow w ROW (put ROW (i * k) vs) (ρ.t 9)
  have q2 := alloc_setRow w (put ROW (i * k) vs) (put (put ROW (i * k) vs) ((i + 1) * k) ds) (ρ.t 9)
  have q3 : (((w.alloc (.cells ROW (ρ.t 9))).drew.setRow w.heap.size (put ROW (i * k) vs)).drew).setRow w.heap.size (put (put ROW (i * k) vs) ((i + 1) * k) ds) = ((((w.alloc (.cells ROW (ρ.t 9))).setRow w.heap.size (put ROW (i * k) vs))).setRow w.heap.size (put (put ROW (i * k) vs) ((i + 1) * k) ds)).drew.drew := rfl
  rw [q3, q, q2]
  rfl
set_option maxHeartbeats 4000000 in
set_option maxRecDepth 100000 in
theorem ins_end (L : InsLay P ρ n1 k bytes z) (b n c vb vc : Nat) (w w' : World) (v : Value) (hnc : n ≤ c)
    (hr : ∀ ty, (Builtin.append_ #[(ρ.t 24), (ρ.t 24)] ty #[.slice (some ⟨b, 0, none⟩) n c, .slice (some ⟨vb, 0, none⟩) 1 vc]).run P w = .ok v w') :
    Calls P (ρ.f 22) #[.slice (some ⟨b, 0, none⟩) n c, .int .i64 n, .slice (some ⟨vb, 0, none⟩) 1 vc] w fun e u => e = .returned v ∧ u = w' := by
  have hk := L.hk
  have t0 := L.t0; have a0 := L.a0; have z0 := L.z0; have v0 := L.v0; have t3 := L.t3; have a3 := L.a3; have z3 := L.z3; have v3 := L.v3; have t4 := L.t4; have a4 := L.a4; have z4 := L.z4; have v4 := L.v4; have z9 := L.z9; have t24 := L.t24; have a24 := L.a24; have z24 := L.z24; have v24 := L.v24
  have u0 := run_underlying L.t0; have u3 := run_underlying L.t3; have u4 := run_underlying L.t4; have u24 := run_underlying L.t24
  have mixed := L.mixed
  go_enter L.f22, Body2.n22_ntmps ρ
  go_wp2_with (at_builtin; refine Lib.wpList_append_run _ rfl _ _ _ _ rfl _ _ rfl rfl _ _ (hr _) ?_)
  all_goals (go_ret; exact ⟨rfl, rfl⟩)
set_option maxHeartbeats 4000000 in
set_option maxRecDepth 100000 in
theorem ins_none (L : InsLay P ρ n1 k bytes z) (vb vc : Nat) (w w' : World) (v : Value)
    (hr : ∀ ty, (Builtin.append_ #[(ρ.t 24), (ρ.t 24)] ty #[.slice none 0 0, .slice (some ⟨vb, 0, none⟩) 1 vc]).run P w = .ok v w') :
    Calls P (ρ.f 22) #[.slice none 0 0, .int .i64 0, .slice (some ⟨vb, 0, none⟩) 1 vc] w fun e u => e = .returned v ∧ u = w' := by
  have hk := L.hk
  have t0 := L.t0; have a0 := L.a0; have z0 := L.z0; have v0 := L.v0; have t3 := L.t3; have a3 := L.a3; have z3 := L.z3; have v3 := L.v3; have t4 := L.t4; have a4 := L.a4; have z4 := L.z4; have v4 := L.v4; have z9 := L.z9; have t24 := L.t24; have a24 := L.a24; have z24 := L.z24; have v24 := L.v24
  have u0 := run_underlying L.t0; have u3 := run_underlying L.t3; have u4 := run_underlying L.t4; have u24 := run_underlying L.t24
  have mixed := L.mixed
  go_enter L.f22, Body2.n22_ntmps ρ
  go_wp2_with (at_builtin; refine Lib.wpList_append_run _ rfl _ _ _ _ rfl _ _ rfl rfl _ _ (hr _) ?_)
  all_goals (go_ret; exact ⟨rfl, rfl⟩)
set_option maxHeartbeats 4000000 in
set_option maxRecDepth 100000 in
theorem ins_some (L : InsLay P ρ n1 k bytes z) (a : Addr) (vb vc : Nat) (w w' : World) (v : Value)
    (hr : ∀ ty, (Builtin.append_ #[(ρ.t 24), (ρ.t 24)] ty #[.slice (some a) 0 0, .slice (some ⟨vb, 0, none⟩) 1 vc]).run P w = .ok v w') :
    Calls P (ρ.f 22) #[.slice (some a) 0 0, .int .i64 0, .slice (some ⟨vb, 0, none⟩) 1 vc] w fun e u => e = .returned v ∧ u = w' := by
  have hk := L.hk
  have t0 := L.t0; have a0 := L.a0; have z0 := L.z0; have v0 := L.v0; have t3 := L.t3; have a3 := L.a3; have z3 := L.z3; have v3 := L.v3; have t4 := L.t4; have a4 := L.a4; have z4 := L.z4; have v4 := L.v4; have z9 := L.z9; have t24 := L.t24; have a24 := L.a24; have z24 := L.z24; have v24 := L.v24
  have u0 := run_underlying L.t0; have u3 := run_underlying L.t3; have u4 := run_underlying L.t4; have u24 := run_underlying L.t24
  have mixed := L.mixed
  go_enter L.f22, Body2.n22_ntmps ρ
  go_wp2_with (at_builtin; refine Lib.wpList_append_run _ rfl _ _ _ _ rfl _ _ rfl rfl _ _ (hr _) ?_)
  all_goals (go_ret; exact ⟨rfl, rfl⟩)
end Go.Proofs.YtmnjchcoigbngaaGreat


namespace Go.Proofs.YtmnjchcoigbngaaGreat
open Go Go.Sort Go.Proofs Go.Shelf
theorem R.pure_same {x y : Cx} {v : V} {c : Value} (h : R x v c) (hp : v.pure = true) (hw : ∀ b, x.Z b → y.w.heap[b]? = x.w.heap[b]?) (hz : ∀ b, x.Z b → y.Z b) : R y v c := by
  have keep : ∀ a : Addr, x.Z a.block → ∀ n, y.w.cell? (a.add n) = x.w.cell? (a.add n) := fun a ha n => by
    refine cell_of_heap ?_
    rw [addr_add_block]; exact hw _ ha
  induction h with
  | int k n => exact .int k n
  | bool b => exact .bool b
  | str s => exact .str s
  | nilsl => exact .nilsl
  | slnil => exact .slnil
  | sl rows a cap sz cs hc hm hzz hsz hcell _ ih =>
    simp only [V.pure] at hp
    refine .sl rows a cap sz cs hc hm (fun hne => hz _ (hzz hne)) hsz (fun r row j v hr hj => by rw [keep a (hzz (by intro e; subst e; simp at hr))]; exact hcell r row j v hr hj) fun r row j v hr hj => ih r row j v hr hj ?_
    exact pureL_iff.1 (pureLL_iff.1 hp row (List.mem_of_getElem? hr)) v (List.mem_of_getElem? hj)
  | ms => simp [V.pure] at hp
  | pp cells a cs hzz hcell _ ih =>
    simp only [V.pure] at hp
    exact .pp cells a cs (fun hne => hz _ (hzz hne)) (fun j v hj => by rw [keep a (hzz (by intro e; subst e; simp at hj))]; exact hcell j v hj) fun j v hj => ih j v hj (pureL_iff.1 hp v (List.mem_of_getElem? hj))
  | nilp => exact .nilp
  | mp => simp [V.pure] at hp
  | agg cells cs hs _ ih =>
    simp only [V.pure] at hp
    exact .agg cells cs hs fun j v hj => ih j v hj (pureL_iff.1 hp v (List.mem_of_getElem? hj))
  | tup vs cs hs _ ih =>
    simp only [V.pure] at hp
    exact .tup vs cs hs fun j v hj => ih j v hj (pureL_iff.1 hp v (List.mem_of_getElem? hj))
  | fn f first caps fs cs hfs hcs _ _ ih1 ih2 =>
    simp only [V.pure, Bool.and_eq_true] at hp
    exact .fn f first caps fs cs hfs hcs (fun j v hj => ih1 j v hj (pureL_iff.1 hp.1 v (List.mem_of_getElem? hj))) fun j v hj => ih2 j v hj (pureL_iff.1 hp.2 v (List.mem_of_getElem? hj))
  | raw c hh => exact .raw c hh
theorem step_grow {x : Cx} (hx : Inv x) (os : Array Obj) : let y : Cx := { x with w := Go.Sort.grow x.w os }; Inv y ∧ Frame x y := by
  intro y
  have hp : ∀ b, b < x.w.heap.size → y.w.heap[b]? = x.w.heap[b]? := fun b hb => by
    show (x.w.heap ++ os)[b]? = _
    rw [Array.getElem?_append, if_pos hb]
  have hs : x.w.heap.size ≤ y.w.heap.size := by show _ ≤ (x.w.heap ++ os).size; simp
  have hf : Frame x y := by
    refine ⟨rfl, rfl, rfl, hs, fun b hb _ => hp b hb, fun _ h => h, fun b h => .inl h, fun id => ⟨Nat.le_refl _, fun h _ => ⟨h, rfl, rfl, rfl, fun h => ⟨rfl, ?_⟩⟩⟩, fun _ h => .inl ⟨h, rfl⟩, Nat.le_refl _⟩
    unfold rowSize; rw [hp _ (hx.lt h)]
  refine ⟨⟨fun b h => Nat.lt_of_lt_of_le (hx.zlt b h) hs, hx.zown, fun id hl => ?_, hx.inj⟩, hf⟩
  obtain ⟨cc, h1, h2, h3, h4⟩ := hx.blk id hl
  exact ⟨cc, by rw [hp _ (hx.lt hl)]; exact h1, h2, h3, fun r row j v hr hj => (h4 r row j v hr hj).frame hx hf⟩
def SortNone (P : Program) (f : Nat) : Prop := ∀ (p : Option Addr) (cap : Nat) (fv : Value) (w : World), Calls P f #[.slice p 0 cap, fv] w fun e w' => e = .returned (.tuple #[]) ∧ w' = w
theorem enters_callable {P : Program} {g : Nat} (h : callable P g) : ∀ args w, (callFunc g args).run P w = .ok (.enter g args) w := by
  obtain ⟨fn, h1, h2, h3⟩ := h
  obtain ⟨c, hc⟩ := Option.isSome_iff_exists.1 h2
  exact enters_of h1 h3 hc
theorem grown_of_frame {z y : Cx} (hf : Frame z y) (hno : ∀ id, (z.H id).own = false) : ∃ q os, y.w = grow (z.w.drewN q) os := by
  refine ⟨y.w.drawn - z.w.drawn, y.w.heap.extract z.w.heap.size y.w.heap.size, ?_⟩
  have e1 := hf.os; have e2 := hf.tape; have e3 := hf.output; have e4 := hf.drawn; have e5 := hf.size
  have e6 : y.w.heap = z.w.heap ++ y.w.heap.extract z.w.heap.size y.w.heap.size := by
    refine Array.ext_getElem? fun b => ?_
    rw [Array.getElem?_append]
    split
    · rename_i hb
      exact hf.keep b hb fun id h => by rw [hno id] at h; cases h
    · rename_i hb
      rw [Array.getElem?_extract]
      by_cases h : b < y.w.heap.size
      · rw [if_pos (by omega)]; congr 1; omega
      · rw [if_neg (by omega), Array.getElem?_eq_none (by omega)]
  have e7 : y.w.drawn = z.w.drawn + (y.w.drawn - z.w.drawn) := by omega
  unfold grow World.drewN
  cases hy : y.w with
  | mk heap tape drawn os output =>
    rw [hy] at e1 e2 e3 e6 e7
    simp only at e1 e2 e3 e6 e7 ⊢
    rw [← e6, ← e7, e1, e2, e3]
section
variable {P : Program} {α : Type} [Inhabited α] {enc : α → List Value} {k : Nat} {w : World} {blk off m : Nat} {dk : Array α} {os : Array Obj}
end
theorem nth_set_eq {α : Type} [Inhabited α] (d : Array α) (i : Nat) (h : i < d.size) : d[i]! = nth d.toList i := by
  rw [getElem!_pos d i h, ← nth_getElem (by simpa using h)]; rfl
section
variable {P : Program}
end
end Go.Proofs.YtmnjchcoigbngaaGreat


namespace Go.Proofs.YtmnjchcoigbngaaGreat
open Go Go.Proofs Go.Shelf Go.Lib
theorem put_get {cc : Array Value} {o : Nat} {cs : List Value} (h : o + cs.length ≤ cc.size) (q : Nat) : (put cc o cs)[q]? = if o ≤ q ∧ q < o + cs.length then cs[q - o]? else cc[q]? := by
  unfold put
  rw [seg_get h]
theorem put_size {cc : Array Value} {o : Nat} {cs : List Value} (h : o + cs.length ≤ cc.size) : (put cc o cs).size = cc.size := by
  simp only [put, List.size_toArray, List.length_append, List.length_take, List.length_drop, Array.length_toList]
  omega
theorem ins_rows {x : Cx} {rows : List (List V)} {row : List V} {k i : Nat} {cc cv F : Array Value} (hsz : ∀ r ∈ rows, r.length = k) (hsz1 : row.length = k) (hi : i ≤ rows.length)
    (hr : ∀ (r : Nat) (row : List V) (j : Nat) (v : V), rows[r]? = some row → row[j]? = some v → R x v (cc.getD (r * k + j) undef))
    (hv : ∀ (j : Nat) (v : V), row[j]? = some v → R x v (cv.getD j undef))
    (ha : ∀ q, q < i * k → F[q]? = cc[q]?) (hb : ∀ q, q < k → F[i * k + q]? = cv[q]?) (hc : ∀ q, q < (rows.length - i) * k → F[(i + 1) * k + q]? = cc[i * k + q]?) :
    ∀ (r : Nat) (row' : List V) (j : Nat) (v : V), (rows.take i ++ row :: rows.drop i)[r]? = some row' → row'[j]? = some v → R x v (F.getD (r * k + j) undef) := by
  intro r row' j v h1 h2
  have hlt : (rows.take i).length = i := by rw [List.length_take]; omega
  rw [List.getElem?_append] at h1
  split at h1
  · rename_i hlt'
    rw [hlt] at hlt'
    rw [List.getElem?_take, if_pos hlt'] at h1
    have hjk : j < k := by rw [← hsz _ (List.mem_of_getElem? h1)]; exact (List.getElem?_eq_some_iff.1 h2).1
    have : r * k + j < i * k := by
      have : (r + 1) * k ≤ i * k := Nat.mul_le_mul_right k hlt'
      rw [Nat.add_mul, Nat.one_mul] at this; omega
    rw [Array.getD_eq_getD_getElem?, ha _ this, ← Array.getD_eq_getD_getElem?]
    exact hr r row' j v h1 h2
  · rename_i hge
    rw [hlt] at h1 hge
    by_cases he : r = i
    · subst he
      rw [Nat.sub_self] at h1
      simp only [List.getElem?_cons_zero, Option.some.injEq] at h1
      subst h1
      have hjk : j < k := by rw [← hsz1]; exact (List.getElem?_eq_some_iff.1 h2).1
      rw [Array.getD_eq_getD_getElem?, hb _ hjk, ← Array.getD_eq_getD_getElem?]
      exact hv j v h2
    · obtain ⟨q, hq⟩ : ∃ q, r - i = q + 1 := ⟨r - i - 1, by omega⟩
      rw [hq, List.getElem?_cons_succ, List.getElem?_drop] at h1
      have hjk : j < k := by rw [← hsz _ (List.mem_of_getElem? h1)]; exact (List.getElem?_eq_some_iff.1 h2).1
      have hql := (List.getElem?_eq_some_iff.1 h1).1
      have hlt2 : q * k + j < (rows.length - i) * k := by
        have : (q + 1) * k ≤ (rows.length - i) * k := Nat.mul_le_mul_right k (by omega)
        rw [Nat.add_mul, Nat.one_mul] at this; omega
      have e1 : r * k + j = (i + 1) * k + (q * k + j) := by rw [← Nat.add_assoc, ← Nat.add_mul]; congr 2; omega
      have e2 : i * k + (q * k + j) = (i + q) * k + j := by rw [Nat.add_mul]; omega
      rw [e1, Array.getD_eq_getD_getElem?, hc _ hlt2, ← Array.getD_eq_getD_getElem?, e2]
      exact hr _ row' j v h1 h2
section
variable {P : Program} {ρ : Ren} {n1 : String} {k bytes : Nat} {z : Value}
theorem ins_full (L : InsLay P ρ n1 k bytes z) {zz : List V} (hzz : zeroOf P (ρ.t 9) = some zz) (hzl : zz.length = k) {x : Cx} (hx : Inv x) {id id2 ver ver2 ty2 i : Nat} {rows : List (List V)} {row : List V} {c0 c2 : Value}
    {lz : Bool} (hlz : (lz && rows.isEmpty) = false) (hH : x.H id = ⟨ver, true, lz, ρ.t 9, k, rows⟩) (hH2 : x.H id2 = ⟨ver2, true, false, ty2, k, [row]⟩) (hne : id ≠ id2) (hi : i ≤ rows.length)
    (hf : fitRows k rows = true) (hf1 : fitRows k [row] = true) (hb : (rows.length + 1) * bytes ≤ 140737488355328) (hm : rows.length + 1 ≤ 9223372036854775807)
    (r0 : R x (.ms id ver 0 rows.length) c0) (r2 : R x (.ms id2 ver2 0 1) c2) :
    Calls P (ρ.f 22) #[c0, .int .i64 i, c2] x.w fun e w' => ∃ c y, e = .returned c ∧ y.w = w' ∧ y.H = upd x.H id ⟨ver + 1, true, lz, ρ.t 9, k, rows.take i ++ row :: rows.drop i⟩ ∧ Inv y ∧ R y (.ms id (ver + 1) 0 (rows.length + 1)) c ∧ Frame x y := by
  have hk := L.hk
  have ho : (x.H id).own = true := by rw [hH]; simp only [Blk.own, hlz]; rfl
  have ho2 : (x.H id2).own = true := by rw [hH2]; rfl
  obtain ⟨hsz, hone⟩ := fitRows_spec hf
  obtain ⟨hsz1, hone1⟩ := fitRows_spec hf1
  have r0' := r0; have r2' := r2
  cases r0 with
  | ms _ _ _ _ b n cap hv hh =>
  cases r2 with
  | ms _ _ _ _ b2 m2 cap2 hv2 hh2 =>
  obtain ⟨e1, e2, e3, e4, e5, e6⟩ := hh (by rw [hH]) (by rw [hH])
  obtain ⟨d1, d2, d3, d4, d5, d6⟩ := hh2 (by rw [hH2]) (by rw [hH2])
  obtain ⟨e7, e8⟩ := e5 ho
  obtain ⟨d7, d8⟩ := d5 ho2
  obtain ⟨cc, b1, bb2, bb3, bb4⟩ := hx.blk id ho
  obtain ⟨cv, v1, vv2, vv3, vv4⟩ := hx.blk id2 ho2
  have hrs : rowSize x.w (x.σ id) = cc.size := by unfold rowSize; rw [b1]
  have hrs2 : rowSize x.w (x.σ id2) = cv.size := by unfold rowSize; rw [v1]
  rw [hrs, hH] at e8
  rw [hrs2, hH2] at d8
  rw [hH] at e7 b1 bb3 bb4
  rw [hH2] at d7 v1 vv3 vv4
  simp only [Nat.zero_mul, Nat.zero_add] at e7 d7 e8 d8
  simp only at b1 bb3 bb4 v1 vv3 vv4
  subst e1; subst d1; subst e7; subst d7
  have hvb : x.σ id2 ≠ x.σ id := fun e => hne (hx.inj id id2 ho ho2 e.symm)
  have hcv : k ≤ cv.size := by simpa using vv3
  have hsz1' : row.length = k := hsz1 row (by simp)
  have hrow : ∀ (j : Nat) (v : V), row[j]? = some v → R x v (cv.getD j undef) := fun j v hj => by
    have := vv4 0 row j v rfl hj
    simpa using this
  have h1c : ∀ v ∈ cc.toList.take (rows.length * k), v.oneCell' = true := fun v hv => by
    obtain ⟨q, hq⟩ := List.getElem?_of_mem hv
    rw [List.getElem?_take] at hq
    split at hq
    · rename_i hlt
      obtain ⟨rw', u, h5, h6, h7⟩ := CRR_cell hsz hlt
      have h8 := bb4 _ _ _ _ h5 h6
      rw [h7, Array.getD_eq_getD_getElem?, ← Array.getElem?_toList, hq] at h8
      exact h8.one (hone _ (List.mem_of_getElem? h5) _ (List.mem_of_getElem? h6))
    · cases hq
  obtain ⟨vs, hvs⟩ : ∃ vs, vs = cv.toList.take k := ⟨_, rfl⟩
  have hvl : vs.length = k := by rw [hvs, List.length_take, Array.length_toList]; omega
  have hvg : ∀ q, q < k → vs[q]? = cv[q]? := fun q hq => by rw [hvs, List.getElem?_take, if_pos hq, Array.getElem?_toList]
  have h1v : ∀ v ∈ vs, v.oneCell' = true := fun v hv => by
    obtain ⟨q, hq⟩ := List.getElem?_of_mem hv
    have hlt : q < k := by rw [← hvl]; exact (List.getElem?_eq_some_iff.1 hq).1
    have hu : ∃ u, row[q]? = some u := ⟨_, List.getElem?_eq_getElem (by rw [hsz1']; exact hlt)⟩
    obtain ⟨u, hu⟩ := hu
    have h8 := hrow q u hu
    rw [Array.getD_eq_getD_getElem?, ← hvg q hlt, hq] at h8
    exact h8.one (hone1 row (by simp) u (List.mem_of_getElem? hu))
  obtain ⟨n, hn⟩ : ∃ n, n = rows.length := ⟨_, rfl⟩
  have hnew : ∀ r ∈ rows.take i ++ row :: rows.drop i, r.length = k := fun r hr => by
    rcases List.mem_append.1 hr with hr | hr
    · exact hsz r (List.mem_of_mem_take hr)
    · rcases List.mem_cons.1 hr with hr | hr
      · rw [hr]; exact hsz1'
      · exact hsz r (List.mem_of_mem_drop hr)
  have hnewl : (rows.take i ++ row :: rows.drop i).length = rows.length + 1 := by simp; omega
  by_cases hend : i = rows.length
  · obtain ⟨i0, hi0, hz0, hzs, hzb⟩ := info_parts L.i9
    obtain ⟨y, c, hr, y1, y2, y3, y4⟩ := append_run (P := P) (esz := k) (bytes := bytes) (new := [row]) hx L.t24 hi0 hzz hzs hzb hzl (by omega) (i := id) (ver := ver) (len := rows.length) (u := .ms id2 ver2 0 1) (by rw [hH]) (by rw [hH]) (by rw [hH]) (by rw [hH]) (by rw [hH])
      (by simp [rowsOf, hH2]) hf1 hb hm r0' r2' 0
    rw [hend]
    refine (ins_end L (x.σ id) rows.length cap (x.σ id2) cap2 x.w y.w c e2 fun ty => hr).mono fun e w' h => ?_
    obtain ⟨rfl, rfl⟩ := h
    refine ⟨c, y, rfl, rfl, ?_, y2, y4, y3⟩
    rw [y1, hH]
    simp
  have hlt : i < rows.length := by omega
  have hnk : rows.length * k ≤ cc.size := by rw [← e8]; exact Nat.mul_le_mul_right k e2
  have hik : i * k ≤ rows.length * k := Nat.mul_le_mul_right k hi
  obtain ⟨ds, hds⟩ : ∃ ds, ds = (cc.toList.take (rows.length * k)).drop (i * k) := ⟨_, rfl⟩
  have hdl : ds.length = (rows.length - i) * k := by rw [hds, List.length_drop, List.length_take, Array.length_toList (xs := cc), Nat.min_eq_left hnk, Nat.sub_mul]
  have hdg : ∀ q, q < (rows.length - i) * k → ds[q]? = cc[i * k + q]? := fun q hq => by
    rw [hds, List.getElem?_drop, List.getElem?_take, if_pos (by rw [Nat.sub_mul] at hq; omega), Array.getElem?_toList]
  have e9 : (i + 1) * k + (rows.length - i) * k = (rows.length + 1) * k := by rw [← Nat.add_mul]; congr 1; omega
  have e10 : (i + 1) * k = i * k + k := by rw [Nat.add_mul, Nat.one_mul]
  by_cases hroom : rows.length + 1 ≤ cap
  · have hn1k : (rows.length + 1) * k ≤ cc.size := by rw [← e8]; exact Nat.mul_le_mul_right k hroom
    refine (ins_shift L (x.σ id) rows.length cap i (x.σ id2) cap2 cc cv _ _ x.w hlt hroom (by unfold maxLen at e3; omega) hvb b1 v1 e8 hcv vs hvs h1c h1v).mono fun e w' h => ?_
    obtain ⟨rfl, rfl⟩ := h
    rw [← hds]
    have hs1 : (put cc ((i + 1) * k) ds).size = cc.size := put_size (by rw [hdl, e9]; exact hn1k)
    have hfit2 : i * k + vs.length ≤ (put cc ((i + 1) * k) ds).size := by rw [hs1, hvl]; omega
    obtain ⟨dI, dF⟩ := step_draw hx (x.w.drawn + 1) (Nat.le_succ _)
    obtain ⟨hI, hF⟩ := step_set dI id ho cc (put (put cc ((i + 1) * k) ds) (i * k) vs) (by rw [hH]; exact b1) (by rw [put_size hfit2, hs1]) (ver + 1) (rows.take i ++ row :: rows.drop i) (by simp only [hH]; omega) (by simp only [hH]; omega) (by simp only [hH]; simp)
      (by simp only [hH]; exact hnew) (by simp only [hH]; rw [hnewl]; exact hn1k) (by
        simp only [hH]
        refine ins_rows hsz hsz1' hi (fun r row j v h5 h6 => (bb4 r row j v h5 h6).frame hx dF) (fun j v h5 => (hrow j v h5).frame hx dF) (fun q hq => ?_) (fun q hq => ?_) (fun q hq => ?_)
        · rw [put_get hfit2, if_neg (by omega), put_get (by rw [hdl, e9]; exact hn1k), if_neg (by omega)]
        · rw [put_get hfit2, if_pos (by omega), Nat.add_sub_cancel_left]; exact hvg q hq
        · rw [put_get hfit2, if_neg (by omega), put_get (by rw [hdl, e9]; exact hn1k), if_pos (by rw [hdl]; omega), Nat.add_sub_cancel_left]; exact hdg q hq)
    refine ⟨_, _, rfl, ?_, ?_, hI, ?_, dF.trans hF⟩
    · rfl
    · simp only [hH]
    · refine .ms _ _ _ _ _ _ _ (by simp [upd_same]) fun _ _ => ?_
      simp only [upd_same, hH]
      refine ⟨trivial, hroom, e3, by rw [hnewl]; omega, fun _ => ⟨by simp, ?_⟩, fun h => by simp [Blk.own] at h⟩
      have : rowSize (({ x.w with drawn := x.w.drawn + 1 } : World).setRow (x.σ id) (put (put cc ((i + 1) * k) ds) (i * k) vs)) (x.σ id) = cc.size := by
        have q := setRow_heap ({ x.w with drawn := x.w.drawn + 1 } : World) (x.σ id) cc (put (put cc ((i + 1) * k) ds) (i * k) vs) _ _ b1
        unfold rowSize
        rw [q]
        show (put (put cc ((i + 1) * k) ds) (i * k) vs).size = cc.size
        rw [put_size hfit2, hs1]
      rw [this, Nat.zero_add]; exact e8
  · refine (ins_grow L (x.σ id) rows.length cap i (x.σ id2) cap2 cc cv _ _ x.w hlt e2 (by omega) (by omega) hb b1 v1 e8 hcv vs hvs h1c h1v).mono fun e w' h => ?_
    obtain ⟨G, Rw, g1, g2, g3, rfl, rfl, g4⟩ := h
    rw [← hds]
    have hGk : (rows.length + 1) * k ≤ Rw.size := by rw [g1]; exact Nat.mul_le_mul_right k g2
    have hfit1 : i * k + vs.length ≤ Rw.size := by rw [hvl]; omega
    have hs1 : (put Rw (i * k) vs).size = Rw.size := put_size hfit1
    have hfit2 : (i + 1) * k + ds.length ≤ (put Rw (i * k) vs).size := by rw [hs1, hdl, e9]; exact hGk
    obtain ⟨dI, dF⟩ := step_draw hx (x.w.drawn + 2) (by omega)
    obtain ⟨hI, hF⟩ := step_own dI id (put (put Rw (i * k) vs) ((i + 1) * k) ds) lz (ρ.t 9) k (rows.take i ++ row :: rows.drop i) hnew (by rw [hnewl, put_size hfit2, hs1]; exact hGk) (by
        refine ins_rows hsz hsz1' hi (fun r row j v h5 h6 => (bb4 r row j v h5 h6).frame hx dF) (fun j v h5 => (hrow j v h5).frame hx dF) (fun q hq => ?_) (fun q hq => ?_) (fun q hq => ?_)
        · rw [put_get hfit2, if_neg (by omega), put_get hfit1, if_neg (by omega)]
          have := congrArg (fun l => l[q]?) g4
          simp only [List.getElem?_take, if_pos hq, Array.getElem?_toList] at this
          exact this
        · rw [put_get hfit2, if_neg (by omega), put_get hfit1, if_pos (by omega), Nat.add_sub_cancel_left]; exact hvg q hq
        · rw [put_get hfit2, if_pos (by rw [hdl]; omega), Nat.add_sub_cancel_left]; exact hdg q hq)
    refine ⟨_, _, rfl, ?_, ?_, hI, ?_, dF.trans hF⟩
    · rfl
    · simp only [hH]
    · refine .ms _ _ _ _ _ _ _ (by simp [upd_same, hH]) fun _ _ => ?_
      simp only [upd_same, hH]
      refine ⟨trivial, g2, g3, by rw [hnewl]; omega, fun _ => ⟨by simp, ?_⟩, fun h => by simp [Blk.own] at h⟩
      rw [rowSize_new, put_size hfit2, hs1, g1, Nat.zero_add]
theorem CallOK_insert (L : InsLay P ρ n1 k bytes z) (hcf : callable P (ρ.f 22)) {zz : List V} (hzz : zeroOf P (ρ.t 9) = some zz) (hzl : zz.length = k) {id id2 ver ver2 ty2 i n : Nat} {rows : List (List V)} {row : List V} {H : Heap}
    {lz : Bool} (hlz : (lz && (rows.take n).isEmpty) = false) (hH : H id = ⟨ver, true, lz, ρ.t 9, k, rows⟩) (hH2 : H id2 = ⟨ver2, true, false, ty2, k, [row]⟩) (hne : id ≠ id2) (hn : n ≤ rows.length) (hi : i ≤ n)
    (hf : fitRows k (rows.take n) = true) (hf1 : fitRows k [row] = true) (hb : (n + 1) * bytes ≤ 140737488355328) (hm : n + 1 ≤ 9223372036854775807) :
    CallOK P (ρ.f 22) [.ms id ver 0 n, iV i, .ms id2 ver2 0 1] H (.ms id (ver + 2) 0 (n + 1)) (upd H id ⟨ver + 2, true, lz, ρ.t 9, k, (rows.take n).take i ++ row :: (rows.take n).drop i⟩) := by
  refine ⟨hcf, fun x cs hxH hx hr => ?_⟩
  subst hxH
  obtain ⟨c0, c1, c2, rfl⟩ : ∃ c0 c1 c2, cs = [c0, c1, c2] := by
    have := hr.1
    match cs with
    | [a, b, c] => exact ⟨a, b, c, rfl⟩
    | [] => simp at this
    | [_] => simp at this
    | [_, _] => simp at this
    | _ :: _ :: _ :: _ :: _ => simp at this
  have r0 : R x (.ms id ver 0 n) c0 := hr.2 0 _ rfl
  have r1 : R x (iV i) c1 := hr.2 1 _ rfl
  have r2 : R x (.ms id2 ver2 0 1) c2 := hr.2 2 _ rfl
  have hc1 : c1 = .int .i64 i := by
    unfold iV at r1
    cases r1; rfl
  subst hc1
  have hlz2 : (lz && rows.isEmpty) = false := by
    cases lz with
    | false => rfl
    | true =>
      cases rows with
      | nil => simp at hlz
      | cons a l => rfl
  have ho : (x.H id).own = true := by rw [hH]; simp only [Blk.own, hlz2]; rfl
  obtain ⟨cc, b1, bb2, bb3, bb4⟩ := hx.blk id ho
  have hlen : (rows.take n).length = n := by rw [List.length_take]; omega
  obtain ⟨hI, hF⟩ := step_set hx id ho cc cc b1 rfl (ver + 1) (rows.take n) (by rw [hH]; exact Nat.le_succ _) (by rw [hH]; simp) (by rw [hH]; exact hlz) (fun r h => bb2 r (by rw [hH]; exact List.mem_of_mem_take h))
    (by rw [hlen]; refine Nat.le_trans (Nat.mul_le_mul_right _ ?_) bb3; rw [hH]; exact hn) (fun r row j v h1 h2 => by
      rw [List.getElem?_take] at h1
      split at h1
      · exact bb4 r row j v (by rw [hH]; exact h1) h2
      · cases h1)
  have hw : x.w.setRow (x.σ id) cc = x.w := setRow_self x.w _ cc _ _ b1
  rw [hw] at hI hF
  have q0 : R { x with H := upd x.H id ⟨ver + 1, true, (x.H id).lz, (x.H id).ty, (x.H id).sz, rows.take n⟩ } (.ms id (ver + 1) 0 (rows.take n).length) c0 := by
    cases r0 with
    | ms _ _ _ _ b m cap hv hh =>
    obtain ⟨e1, e2, e3, e4, e5, e6⟩ := hh (by rw [hH]) (by rw [hH])
    obtain ⟨e7, e8⟩ := e5 ho
    refine .ms _ _ _ _ _ _ _ (by simp [upd_same]) fun _ _ => ?_
    simp only [upd_same, hlen]
    exact ⟨e1, e2, e3, by omega, fun _ => ⟨e7, e8⟩, fun h => by rw [hH] at h; simp only [Blk.own, hlz] at h; cases h⟩
  have h := ins_full L hzz hzl hI (id := id) (id2 := id2) (ver := ver + 1) (ver2 := ver2) (ty2 := ty2) (i := i) (rows := rows.take n) (row := row) hlz (by simp [upd_same, hH]) (by simp only [upd_ne _ _ (Ne.symm hne)]; exact hH2) hne (by rw [hlen]; exact hi) hf hf1 (by rw [hlen]; exact hb) (by rw [hlen]; exact hm) q0 (r2.frame hx hF)
  refine h.mono fun e w' h => ?_
  obtain ⟨c, y, rfl, h1, h2, h3, h4, h5⟩ := h
  refine ⟨c, y, rfl, h1, ?_, h3, ?_, hF.trans h5⟩
  · rw [h2]
    funext j
    by_cases e : j = id
    · subst e; simp only [upd_same]
    · simp only [upd_ne _ _ e]
  · rw [hlen] at h4; exact h4
theorem CallOK_insert0 (L : InsLay P ρ n1 k bytes z) (hcf : callable P (ρ.f 22)) {zz : List V} (hzz : zeroOf P (ρ.t 9) = some zz) (hzl : zz.length = k) {id id2 ver ver2 ty2 : Nat} {row : List V} {H : Heap}
    (hH : H id = ⟨ver, true, true, ρ.t 9, k, []⟩) (hH2 : H id2 = ⟨ver2, true, false, ty2, k, [row]⟩) (hf1 : fitRows k [row] = true) (hb : bytes ≤ 140737488355328) :
    CallOK P (ρ.f 22) [.ms id ver 0 0, iV 0, .ms id2 ver2 0 1] H (.ms id (ver + 2) 0 1) (upd H id ⟨ver + 2, true, true, ρ.t 9, k, [row]⟩) := by
  refine ⟨hcf, fun x cs hxH hx hr => ?_⟩
  subst hxH
  obtain ⟨c0, c1, c2, rfl⟩ : ∃ c0 c1 c2, cs = [c0, c1, c2] := by
    have := hr.1
    match cs with
    | [a, b, c] => exact ⟨a, b, c, rfl⟩
    | [] => simp at this
    | [_] => simp at this
    | [_, _] => simp at this
    | _ :: _ :: _ :: _ :: _ => simp at this
  have r0 : R x (.ms id ver 0 0) c0 := hr.2 0 _ rfl
  have r1 : R x (iV 0) c1 := hr.2 1 _ rfl
  have r2 : R x (.ms id2 ver2 0 1) c2 := hr.2 2 _ rfl
  have hc1 : c1 = .int .i64 0 := by
    unfold iV at r1
    cases r1; rfl
  subst hc1
  have hk := L.hk
  have ho2 : (x.H id2).own = true := by rw [hH2]; rfl
  obtain ⟨i0, hi0, hz0, hzs, hzb⟩ := info_parts L.i9
  obtain ⟨y, c, hrun, y1, y2, y3, y4⟩ := append_run (P := P) (esz := k) (bytes := bytes) (new := [row]) hx L.t24 hi0 hzz hzs hzb hzl (by omega) (i := id) (ver := ver) (len := 0) (u := .ms id2 ver2 0 1) (by rw [hH]) (by rw [hH]) (by rw [hH]; rfl) (by rw [hH]) (by rw [hH])
      (by simp [rowsOf, hH2]) hf1 (by simpa using hb) (by simp) r0 r2 0
  have hcall : Calls P (ρ.f 22) #[c0, .int .i64 0, c2] x.w fun e w' => e = .returned c ∧ w' = y.w := by
    cases r2 with
    | ms _ _ _ _ b2 m2 cap2 hv2 hh2 =>
    obtain ⟨d1, d2, d3, d4, d5, d6⟩ := hh2 (by rw [hH2]) (by rw [hH2])
    obtain ⟨d7, d8⟩ := d5 ho2
    subst d1; subst d7
    simp only [Nat.zero_mul] at hrun ⊢
    cases r0 with
    | ms _ _ _ _ b n cap hv hh =>
      obtain ⟨e1, e2, e3, e4, e5, e6⟩ := hh (by rw [hH]) (by rw [hH])
      have hcap := e6 (by rw [hH]; rfl)
      subst e1; subst hcap
      cases b with
      | none => exact ins_none L (x.σ id2) cap2 x.w y.w c (fun _ => hrun)
      | some a => exact ins_some L a (x.σ id2) cap2 x.w y.w c (fun _ => hrun)
  refine hcall.mono fun e w' h => ?_
  obtain ⟨rfl, rfl⟩ := h
  have hyi : y.H id = ⟨ver + 1, true, true, ρ.t 9, k, [row]⟩ := by rw [y1, hH]; simp [upd_same]
  have hfin : FinH y.H (upd y.H id ⟨ver + 2, true, true, ρ.t 9, k, [row]⟩) := fun j => by
    by_cases e : j = id
    · subst e; rw [upd_same, hyi]; exact FinB.up (by omega) rfl
    · rw [upd_ne _ _ e]; exact .refl _
  obtain ⟨f1, f2⟩ := fin_step y2 hfin
  have f3 := FinV.ms hfin (id := id) (ver := ver + 1) (n := ver + 2) (off := 0) (len := 0 + [row].length) (by rw [hyi]) (by rw [hyi]) (by simp) (by simp)
  refine ⟨c, finC y _, rfl, rfl, ?_, f1, f3 y c rfl y2 y4, y3.trans f2⟩
  show upd y.H id _ = _
  rw [y1]
  funext j
  by_cases e : j = id
  · subst e; simp only [upd_same]
  · simp only [upd_ne _ _ e]
theorem CallOK_insertL (L : InsLay P ρ n1 k bytes z) (hcf : callable P (ρ.f 22)) {zz : List V} (hzz : zeroOf P (ρ.t 9) = some zz) (hzl : zz.length = k) {id id2 ver ver2 ty2 i n : Nat} {rows : List (List V)} {row : List V} {H : Heap}
    {lz : Bool} (hn : n = rows.length) (hH : H id = ⟨ver, true, lz, ρ.t 9, k, rows⟩) (hH2 : H id2 = ⟨ver2, true, false, ty2, k, [row]⟩) (hne : id ≠ id2) (hi : i ≤ n)
    (hf : fitRows k rows = true) (hf1 : fitRows k [row] = true) (hb : (n + 1) * bytes ≤ 140737488355328) (hm : n + 1 ≤ 9223372036854775807) :
    CallOK P (ρ.f 22) [.ms id ver 0 n, iV i, .ms id2 ver2 0 1] H (.ms id (ver + 2) 0 (n + 1)) (upd H id ⟨ver + 2, true, lz, ρ.t 9, k, rows.take i ++ row :: rows.drop i⟩) := by
  subst hn
  by_cases h0 : (lz && rows.isEmpty) = false
  · have := CallOK_insert L hcf hzz hzl (i := i) (by rw [List.take_length]; exact h0) hH hH2 hne (Nat.le_refl _) hi (by rw [List.take_length]; exact hf) hf1 hb hm
    rw [List.take_length] at this
    exact this
  · cases lz with
    | false => exact (h0 rfl).elim
    | true =>
      cases rows with
      | cons a l => exact (h0 rfl).elim
      | nil =>
        have hi0 : i = 0 := by simpa using hi
        subst hi0
        exact CallOK_insert0 L hcf hzz hzl hH hH2 hf1 (by simpa using hb)
end
end Go.Proofs.YtmnjchcoigbngaaGreat


namespace Go.Proofs.YtmnjchcoigbngaaGreat
open Go Go.Proofs Go.Shelf Go.Lib
def insP (f ty k bytes : Nat) : Prim := fun g args H =>
  if g = f then match args with
    | [.ms id ver 0 n, .int .i64 i, .ms id2 ver2 0 1] => match H id2 with
      | ⟨v2, true, false, _, k2, [row]⟩ => match H id with
        | ⟨v1, true, lz, ty1, k1, rows⟩ =>
          if ((lz && (rows.take n).isEmpty) = false ∨ n = rows.length) ∧ v1 = ver ∧ v2 = ver2 ∧ k1 = k ∧ k2 = k ∧ ty1 = ty ∧ id ≠ id2 ∧ n ≤ rows.length ∧ i.toNat ≤ n ∧ 0 ≤ i ∧ (n + 1) * bytes ≤ 140737488355328 ∧ n + 1 ≤ 9223372036854775807 then
            if fitRows k (rows.take n) && fitRows k [row] then
              some (.ms id (ver + 2) 0 (n + 1), upd H id ⟨ver + 2, true, lz, ty, k, (rows.take n).take i.toNat ++ row :: (rows.take n).drop i.toNat⟩)
            else none
          else none
        | _ => none
      | _ => none
    | _ => none
  else none
theorem insP_ok {P : Program} {ρ : Ren} {n1 : String} {k bytes : Nat} {z : Value} (L : InsLay P ρ n1 k bytes z) (hcf : callable P (ρ.f 22)) {zz : List V} (hzz : zeroOf P (ρ.t 9) = some zz) (hzl : zz.length = k) : PrimOK P (insP (ρ.f 22) (ρ.t 9) k bytes) := by
  intro g args H v H' h
  unfold insP at h
  split at h
  · rename_i hg
    subst hg
    split at h
    · rename_i id ver n i id2 ver2
      split at h
      · rename_i v2 ty2 k2 row h2
        split at h
        · rename_i v1 lz ty1 k1 rows h1
          split at h
          · rename_i hc
            obtain ⟨c0, rfl, rfl, rfl, rfl, rfl, c1, c2, c3, c4, c5, c6⟩ := hc
            split at h
            · rename_i hf
              simp only [Bool.and_eq_true] at hf
              cases h
              rcases c0 with c0 | c0
              · have := CallOK_insert L hcf hzz hzl (i := i.toNat) c0 h1 h2 c1 c2 c3 hf.1 hf.2 c5 c6
                unfold iV at this
                rw [Int.toNat_of_nonneg c4] at this
                exact this
              · have hf1 := hf.1
                rw [c0, List.take_length] at hf1
                have := CallOK_insertL L hcf hzz hzl (i := i.toNat) c0 h1 h2 c1 c3 hf1 hf.2 c5 c6
                unfold iV at this
                rw [Int.toNat_of_nonneg c4] at this
                have e : rows.take n = rows := by rw [c0, List.take_length]
                rw [e]
                exact this
            · cases h
          · cases h
        · cases h
      · cases h
    · cases h
  · cases h
end Go.Proofs.YtmnjchcoigbngaaGreat


namespace Go.Proofs.YtmnjchcoigbngaaGreat
open Go Go.Proofs Go.Shelf
def insRen58 : Go.Shelf.Ren := ⟨fun | 22 => 58 | 29 => 91 | 30 => 92 | n => n, fun | 24 => 31 | 9 => 38 | n => n, fun n => n⟩
theorem insLay58 : InsLay Tryz.prog insRen58 Tryz.f58.name 1 24 (.slice none 0 0) := {
  mixed := by kernel_rfl
  f22 := Tryz.func58.trans (congrArg some (by kernel_rfl))
  ov := fun args w => run_callFunc_extern Tryz.func91 (by kernel_rfl) (by kernel_rfl) (by kernel_rfl) (by kernel_rfl) args w
  t0 := Tryz.underlying0, a0 := Tryz.isAgg0, z0 := Tryz.sizeOf0, v0 := Tryz.zeroValue0
  t3 := Tryz.underlying3, a3 := Tryz.isAgg3, z3 := Tryz.sizeOf3, v3 := Tryz.zeroValue3
  t4 := Tryz.underlying4, a4 := Tryz.isAgg4, z4 := Tryz.sizeOf4, v4 := Tryz.zeroValue4
  z9 := Tryz.sizeOf38
  t24 := Tryz.underlying31, a24 := Tryz.isAgg31, z24 := Tryz.sizeOf31, v24 := Tryz.zeroValue31
  i9 := by kernel_rfl
  hk := by decide
  hz := by kernel_rfl }
theorem insCall58 : callable Tryz.prog 58 := ⟨_, Tryz.func58, by kernel_rfl, by kernel_rfl⟩
def insPrim58 : Prim := insP 58 38 1 24
theorem insPrim58_ok : PrimOK Tryz.prog insPrim58 := insP_ok insLay58 insCall58 (zz := [.nilsl]) (by kernel_rfl) rfl
end Go.Proofs.YtmnjchcoigbngaaGreat


namespace Go.Proofs.YtmnjchcoigbngaaGreat
open Go Go.Proofs Go.Shelf
def insRen59 : Go.Shelf.Ren := ⟨fun | 22 => 59 | 29 => 93 | 30 => 94 | n => n, fun | 24 => 38 | 9 => 3 | n => n, fun n => n⟩
theorem insLay59 : InsLay Tryz.prog insRen59 Tryz.f59.name 1 8 (.int .i64 0) := {
  mixed := by kernel_rfl
  f22 := Tryz.func59.trans (congrArg some (by kernel_rfl))
  ov := fun args w => run_callFunc_extern Tryz.func93 (by kernel_rfl) (by kernel_rfl) (by kernel_rfl) (by kernel_rfl) args w
  t0 := Tryz.underlying0, a0 := Tryz.isAgg0, z0 := Tryz.sizeOf0, v0 := Tryz.zeroValue0
  t3 := Tryz.underlying3, a3 := Tryz.isAgg3, z3 := Tryz.sizeOf3, v3 := Tryz.zeroValue3
  t4 := Tryz.underlying4, a4 := Tryz.isAgg4, z4 := Tryz.sizeOf4, v4 := Tryz.zeroValue4
  z9 := Tryz.sizeOf3
  t24 := Tryz.underlying38, a24 := Tryz.isAgg38, z24 := Tryz.sizeOf38, v24 := Tryz.zeroValue38
  i9 := by kernel_rfl
  hk := by decide
  hz := by kernel_rfl }
theorem insCall59 : callable Tryz.prog 59 := ⟨_, Tryz.func59, by kernel_rfl, by kernel_rfl⟩
def insPrim59 : Prim := insP 59 3 1 8
theorem insPrim59_ok : PrimOK Tryz.prog insPrim59 := insP_ok insLay59 insCall59 (zz := [.int .i64 0]) (by kernel_rfl) rfl
end Go.Proofs.YtmnjchcoigbngaaGreat


namespace Go.Proofs.YtmnjchcoigbngaaGreat
open Go Go.Proofs Go.Shelf Go.Lib
section
variable {P : Program} {ρ : Go.Shelf.Ren}
theorem CallOK_grow (L : Lays8.n4 P ρ) (hcf : callable P (ρ.f 4)) (i0 : TypeInfo) (z : Value) (hi0 : P.info? (ρ.t 25) = some i0) (hz0 : i0.zero = some z) (hs0 : 0 < i0.size) (hzs : z.cells.size = i0.size)
    {n : Nat} (hb : n * i0.bytes ≤ 140737488355328) (h63 : n ≤ 4611686018427387904) (id : Nat) (H : Heap) :
    CallOK P (ρ.f 4) [.nilsl, iV (n : Nat)] H (.ms id ((H id).ver + 1) 0 0) (upd H id ⟨(H id).ver + 1, true, decide (n = 0), ρ.t 25, i0.size, []⟩) := by
  refine ⟨hcf, fun x cs hxH hx hr => ?_⟩
  subst hxH
  obtain ⟨c0, c1, rfl⟩ : ∃ c0 c1, cs = [c0, c1] := by
    have := hr.1
    match cs with
    | [a, b] => exact ⟨a, b, rfl⟩
    | [] => simp at this
    | [_] => simp at this
    | _ :: _ :: _ :: _ => simp at this
  have r0 : R x .nilsl c0 := hr.2 0 _ rfl
  have r1 : R x (iV (n : Nat)) c1 := hr.2 1 _ rfl
  have hc0 : c0 = .slice none 0 0 := by cases r0; rfl
  have hc1 : c1 = .int .i64 (n : Nat) := by unfold iV at r1; cases r1; rfl
  subst hc0; subst hc1
  by_cases hn : n = 0
  · subst hn
    refine (Any8.slices_Grow_room L none 0 0 0 x.w (Nat.le_refl _) (by decide) (by decide) (by decide)).mono fun e w' h => ?_
    obtain ⟨rfl, rfl⟩ := h
    obtain ⟨h1, h2, h3⟩ := step_lazy hx id (ρ.t 25) i0.size
    exact ⟨_, { x with H := upd x.H id ⟨(x.H id).ver + 1, true, true, ρ.t 25, i0.size, []⟩ }, rfl, rfl, by simp, h1, h3 _, h2⟩
  · refine (Any8.slices_Grow_grow L i0 z hi0 hz0 hs0 none 0 0 n [] x.w (Nat.le_refl _) (by omega) (by simpa using hb) (by simpa using h63) (by simp) (fun _ => rfl) (fun a h => by cases h)).mono fun e w' h => ?_
    obtain ⟨rfl, rfl⟩ := h
    obtain ⟨dI, dF⟩ := step_draw hx (x.w.drawn + 1) (Nat.le_succ _)
    have hge : 0 + n ≤ grownCap x.w (0 + n) 0 (ρ.t 25) := grownCap_ge x.w _ _ _
    have hle := grownCap_le_maxLen x.w (0 + n) 0 (ρ.t 25) (by unfold maxLen; omega)
    generalize hG : grownCap x.w (0 + n) 0 (ρ.t 25) = G at hge hle
    have hsz : ((#[] : Array Value) ++ Builtin.zeroCells z.cells (0 + n - 0) ++ Builtin.zeroCells z.cells (G - (0 + n))).size = G * i0.size := by
      have zc : ∀ m, (Builtin.zeroCells z.cells m).size = m * i0.size := fun m => by
        rw [size_zeroCells, hzs]
      rw [Array.size_append, Array.size_append, zc, zc]
      simp only [Array.size_empty, Nat.zero_add, Nat.sub_zero]
      rw [← Nat.add_mul]; congr 1; omega
    have hrf : ([].toArray : Array Value) = #[] := rfl
    rw [hrf]
    generalize ((#[] : Array Value) ++ Builtin.zeroCells z.cells (0 + n - 0) ++ Builtin.zeroCells z.cells (G - (0 + n))) = cc at hsz
    obtain ⟨h1, h2⟩ := step_own dI id cc false (ρ.t 25) i0.size [] (by simp) (by simp) (fun r row j v h => by simp at h)
    refine ⟨_, _, rfl, rfl, by simp [hn], h1, ?_, dF.trans h2⟩
    refine .ms _ _ _ _ _ _ _ (by simp [upd_same]) fun _ _ => ?_
    simp only [upd_same]
    refine ⟨trivial, Nat.zero_le _, hle, by simp, fun _ => ⟨by simp [World.drew], ?_⟩, fun h => by simp [Blk.own] at h⟩
    simp only [Nat.zero_add]
    unfold rowSize
    have : (({ x.w with drawn := x.w.drawn + 1 } : World).alloc (.cells cc (ρ.t 25))).heap[({ x.w with drawn := x.w.drawn + 1 } : World).heap.size]? = some (.cells cc (ρ.t 25)) := heap_push_eq _ _
    rw [this]
    exact hsz.symm
theorem CallOK_growk (L : Lays8.n4 P ρ) (hcf : callable P (ρ.f 4)) {k b : Nat} {z : Value} (hi : (P.info? (ρ.t 25)).map (fun i => (i.zero, i.size, i.bytes)) = some (some z, k, b)) (hs0 : 0 < k) (hzs : z.cells.size = k)
    {n : Nat} (hb : n * b ≤ 140737488355328) (h63 : n ≤ 4611686018427387904) (id : Nat) (H : Heap) :
    CallOK P (ρ.f 4) [.nilsl, iV (n : Nat)] H (.ms id ((H id).ver + 1) 0 0) (upd H id ⟨(H id).ver + 1, true, decide (n = 0), ρ.t 25, k, []⟩) := by
  obtain ⟨i0, h1, h2⟩ := Option.map_eq_some_iff.1 hi
  simp only [Prod.mk.injEq] at h2
  obtain ⟨h3, h4, h5⟩ := h2
  subst h4; subst h5
  exact CallOK_grow L hcf i0 z h1 h3 hs0 hzs hb h63 id H
theorem CallOK_growv (L : Lays8.n4 P ρ) (hcf : callable P (ρ.f 4)) {k b : Nat} {z : Value} (hi : (P.info? (ρ.t 25)).map (fun i => (i.zero, i.size, i.bytes)) = some (some z, k, b)) (hs0 : 0 < k) (hzs : z.cells.size = k)
    {n : Nat} (hb : n * b ≤ 140737488355328) (h63 : n ≤ 4611686018427387904) (id : Nat) {H : Heap} {w : Nat} (hv : (H id).ver = w) :
    CallOK P (ρ.f 4) [.nilsl, iV (n : Nat)] H (.ms id (w + 1) 0 0) (upd H id ⟨w + 1, true, decide (n = 0), ρ.t 25, k, []⟩) := by
  subst hv; exact CallOK_growk L hcf hi hs0 hzs hb h63 id H
def growP (f id ty k bytes : Nat) : Prim := fun g args H =>
  if g = f then match args with
    | [.nilsl, .int .i64 n] => if 0 ≤ n ∧ n.toNat * bytes ≤ 140737488355328 ∧ n.toNat ≤ 4611686018427387904 then
        some (.ms id ((H id).ver + 1) 0 0, upd H id ⟨(H id).ver + 1, true, decide (n.toNat = 0), ty, k, []⟩) else none
    | _ => none
  else none
theorem growP_ok (L : Lays8.n4 P ρ) (hcf : callable P (ρ.f 4)) (i0 : TypeInfo) (z : Value) (hi0 : P.info? (ρ.t 25) = some i0) (hz0 : i0.zero = some z) (hs0 : 0 < i0.size) (hzs : z.cells.size = i0.size) (id : Nat) :
    PrimOK P (growP (ρ.f 4) id (ρ.t 25) i0.size i0.bytes) := by
  intro g args H v H' h
  unfold growP at h
  split at h
  · rename_i hg
    subst hg
    split at h
    · rename_i n
      split at h
      · rename_i hc
        cases h
        have := CallOK_grow L hcf i0 z hi0 hz0 hs0 hzs (n := n.toNat) hc.2.1 hc.2.2 id H
        rw [Int.toNat_of_nonneg hc.1] at this
        exact this
      · cases h
    · cases h
  · cases h
theorem growPk_ok (L : Lays8.n4 P ρ) (hcf : callable P (ρ.f 4)) {k b : Nat} {z : Value} (hi : (P.info? (ρ.t 25)).map (fun i => (i.zero, i.size, i.bytes)) = some (some z, k, b)) (hs0 : 0 < k) (hzs : z.cells.size = k) (id : Nat) :
    PrimOK P (growP (ρ.f 4) id (ρ.t 25) k b) := by
  obtain ⟨i0, h1, h2⟩ := Option.map_eq_some_iff.1 hi
  simp only [Prod.mk.injEq] at h2
  obtain ⟨h3, h4, h5⟩ := h2
  subst h4; subst h5
  exact growP_ok L hcf i0 z h1 h3 hs0 hzs id
def orP (p q : Prim) : Prim := fun f args H => match p f args H with
  | some r => some r
  | none => q f args H
theorem orP_ok {p q : Prim} (hp : PrimOK P p) (hq : PrimOK P q) : PrimOK P (orP p q) := by
  intro f args H v H' h
  unfold orP at h
  split at h
  · rename_i r hr; cases h; exact hp _ _ _ _ _ hr
  · exact hq _ _ _ _ _ h
end
end Go.Proofs.YtmnjchcoigbngaaGreat


namespace Go.Proofs.YtmnjchcoigbngaaGreat
open Go Go.Proofs Go.Shelf
def growRen110 : Go.Shelf.Ren := ⟨fun | 4 => 110 | n => n, fun | 22 => 38 | 25 => 3 | 3 => 3 | 4 => 4 | 9 => 9 | 20 => 20 | 0 => 0 | n => n, fun n => n⟩
theorem growLay110 : Lays8.n4 Tryz.prog growRen110 := {
  mixed := (by kernel_rfl),
  f4 := ⟨Tryz.f110.name, by decide, Tryz.func110.trans (congrArg some (by kernel_rfl))⟩,
  t0 := Tryz.underlying0,
  a0 := Tryz.isAgg0,
  z0 := Tryz.sizeOf0,
  v0 := Tryz.zeroValue0,
  t3 := Tryz.underlying3,
  a3 := Tryz.isAgg3,
  z3 := Tryz.sizeOf3,
  v3 := Tryz.zeroValue3,
  t4 := Tryz.underlying4,
  a4 := Tryz.isAgg4,
  z4 := Tryz.sizeOf4,
  v4 := Tryz.zeroValue4,
  t9 := Tryz.underlying9,
  a9 := Tryz.isAgg9,
  z9 := Tryz.sizeOf9,
  v9 := Tryz.zeroValue9,
  t20 := Tryz.underlying20,
  a20 := Tryz.isAgg20,
  z20 := Tryz.sizeOf20,
  v20 := Tryz.zeroValue20,
  t22 := Tryz.underlying38,
  a22 := Tryz.isAgg38,
  z22 := Tryz.sizeOf38,
  v22 := Tryz.zeroValue38 }
theorem growCall110 : callable Tryz.prog 110 := ⟨_, Tryz.func110, by kernel_rfl, by kernel_rfl⟩
theorem growInfo110 : (Tryz.prog.info? 3).map (fun i => (i.zero, i.size, i.bytes)) = some (some (.int .i64 0), 1, 8) := by kernel_rfl
def growPrim110 (id : Nat) : Prim := growP 110 id 3 1 8
theorem growPrim110_ok (id : Nat) : PrimOK Tryz.prog (growPrim110 id) := growPk_ok growLay110 growCall110 growInfo110 (by decide) rfl id
end Go.Proofs.YtmnjchcoigbngaaGreat


namespace Go.Proofs.YtmnjchcoigbngaaGreat
open Go Go.Proofs
def tab10 : List (Nat × XF) := [(10, ⟨s10, []⟩), (11, ⟨s11, []⟩), (13, ⟨s13, []⟩), (14, ⟨s14, []⟩), (16, ⟨s16, [(6, 1000009)]⟩), (17, ⟨s17, []⟩), (20, ⟨s20, []⟩), (22, ⟨s22, []⟩), (23, ⟨s23, []⟩), (26, ⟨s26, []⟩), (28, ⟨s28, []⟩), (32, ⟨s32, []⟩), (33, ⟨s33, []⟩), (34, ⟨s34, []⟩), (35, ⟨s35, []⟩), (36, ⟨s36, []⟩), (37, ⟨s37, []⟩), (38, ⟨s38, []⟩), (43, ⟨s43, []⟩), (48, ⟨s48, []⟩), (49, ⟨s49, []⟩), (50, ⟨s50, []⟩), (51, ⟨s51, []⟩), (53, ⟨s53, []⟩), (54, ⟨s54, []⟩), (55, ⟨s55, []⟩), (56, ⟨s56, []⟩), (57, ⟨s57, [(28, 1000031), (58, 1000061)]⟩), (65, ⟨s65, []⟩), (66, ⟨s66, []⟩), (67, ⟨s67, []⟩), (68, ⟨s68, []⟩), (70, ⟨s70, []⟩), (71, ⟨s71, []⟩), (74, ⟨s74, []⟩), (75, ⟨s75, []⟩), (80, ⟨s80, []⟩), (81, ⟨s81, []⟩), (82, ⟨s82, []⟩), (83, ⟨s83, []⟩), (84, ⟨s84, []⟩), (85, ⟨s85, []⟩), (86, ⟨s86, []⟩), (87, ⟨s87, []⟩), (88, ⟨s88, []⟩), (89, ⟨s89, []⟩), (90, ⟨s90, []⟩), (96, ⟨s96, []⟩), (97, ⟨s97, []⟩), (98, ⟨s98, []⟩), (99, ⟨s99, []⟩), (100, ⟨s100, []⟩), (102, ⟨s102, []⟩), (103, ⟨s103, []⟩), (104, ⟨s104, []⟩), (105, ⟨s105, []⟩), (106, ⟨s106, []⟩), (107, ⟨s107, []⟩), (109, ⟨s109, []⟩), (111, ⟨s111, []⟩), (112, ⟨s112, []⟩), (115, ⟨s115, []⟩), (116, ⟨s116, []⟩), (117, ⟨s117, []⟩), (118, ⟨s118, []⟩), (119, ⟨s119, []⟩), (120, ⟨s120, []⟩), (121, ⟨s121, []⟩), (122, ⟨s122, []⟩), (123, ⟨s123, []⟩), (124, ⟨s124, []⟩), (125, ⟨s125, []⟩), (126, ⟨s126, []⟩), (127, ⟨s127, []⟩), (128, ⟨s128, []⟩), (129, ⟨s129, []⟩), (130, ⟨s130, []⟩), (131, ⟨s131, []⟩), (132, ⟨s132, []⟩), (133, ⟨s133, []⟩), (134, ⟨s134, []⟩), (135, ⟨s135, []⟩)]
theorem tab10_ok : ∀ p ∈ tab10, Good1 Tryz.prog p := by
  intro p hp
  simp only [tab10, List.mem_cons, List.not_mem_nil, or_false] at hp
  rcases hp with rfl | rfl | rfl | rfl | rfl | rfl | rfl | rfl | rfl | rfl | rfl | rfl | rfl | rfl | rfl | rfl | rfl | rfl | rfl | rfl | rfl | rfl | rfl | rfl | rfl | rfl | rfl | rfl | rfl | rfl | rfl | rfl | rfl | rfl | rfl | rfl | rfl | rfl | rfl | rfl | rfl | rfl | rfl | rfl | rfl | rfl | rfl | rfl | rfl | rfl | rfl | rfl | rfl | rfl | rfl | rfl | rfl | rfl | rfl | rfl | rfl | rfl | rfl | rfl | rfl | rfl | rfl | rfl | rfl | rfl | rfl | rfl | rfl | rfl | rfl | rfl | rfl | rfl | rfl | rfl | rfl | rfl
  · exact ⟨_, _, Tryz.func10, s10_ok, by kernel_rfl⟩
  · exact ⟨_, _, Tryz.func11, s11_ok, by kernel_rfl⟩
  · exact ⟨_, _, Tryz.func13, s13_ok, by kernel_rfl⟩
  · exact ⟨_, _, Tryz.func14, s14_ok, by kernel_rfl⟩
  · exact ⟨_, _, Tryz.func16, s16_ok, by kernel_rfl⟩
  · exact ⟨_, _, Tryz.func17, s17_ok, by kernel_rfl⟩
  · exact ⟨_, _, Tryz.func20, s20_ok, by kernel_rfl⟩
  · exact ⟨_, _, Tryz.func22, s22_ok, by kernel_rfl⟩
  · exact ⟨_, _, Tryz.func23, s23_ok, by kernel_rfl⟩
  · exact ⟨_, _, Tryz.func26, s26_ok, by kernel_rfl⟩
  · exact ⟨_, _, Tryz.func28, s28_ok, by kernel_rfl⟩
  · exact ⟨_, _, Tryz.func32, s32_ok, by kernel_rfl⟩
  · exact ⟨_, _, Tryz.func33, s33_ok, by kernel_rfl⟩
  · exact ⟨_, _, Tryz.func34, s34_ok, by kernel_rfl⟩
  · exact ⟨_, _, Tryz.func35, s35_ok, by kernel_rfl⟩
  · exact ⟨_, _, Tryz.func36, s36_ok, by kernel_rfl⟩
  · exact ⟨_, _, Tryz.func37, s37_ok, by kernel_rfl⟩
  · exact ⟨_, _, Tryz.func38, s38_ok, by kernel_rfl⟩
  · exact ⟨_, _, Tryz.func43, s43_ok, by kernel_rfl⟩
  · exact ⟨_, _, Tryz.func48, s48_ok, by kernel_rfl⟩
  · exact ⟨_, _, Tryz.func49, s49_ok, by kernel_rfl⟩
  · exact ⟨_, _, Tryz.func50, s50_ok, by kernel_rfl⟩
  · exact ⟨_, _, Tryz.func51, s51_ok, by kernel_rfl⟩
  · exact ⟨_, _, Tryz.func53, s53_ok, by kernel_rfl⟩
  · exact ⟨_, _, Tryz.func54, s54_ok, by kernel_rfl⟩
  · exact ⟨_, _, Tryz.func55, s55_ok, by kernel_rfl⟩
  · exact ⟨_, _, Tryz.func56, s56_ok, by kernel_rfl⟩
  · exact ⟨_, _, Tryz.func57, s57_ok, by kernel_rfl⟩
  · exact ⟨_, _, Tryz.func65, s65_ok, by kernel_rfl⟩
  · exact ⟨_, _, Tryz.func66, s66_ok, by kernel_rfl⟩
  · exact ⟨_, _, Tryz.func67, s67_ok, by kernel_rfl⟩
  · exact ⟨_, _, Tryz.func68, s68_ok, by kernel_rfl⟩
  · exact ⟨_, _, Tryz.func70, s70_ok, by kernel_rfl⟩
  · exact ⟨_, _, Tryz.func71, s71_ok, by kernel_rfl⟩
  · exact ⟨_, _, Tryz.func74, s74_ok, by kernel_rfl⟩
  · exact ⟨_, _, Tryz.func75, s75_ok, by kernel_rfl⟩
  · exact ⟨_, _, Tryz.func80, s80_ok, by kernel_rfl⟩
  · exact ⟨_, _, Tryz.func81, s81_ok, by kernel_rfl⟩
  · exact ⟨_, _, Tryz.func82, s82_ok, by kernel_rfl⟩
  · exact ⟨_, _, Tryz.func83, s83_ok, by kernel_rfl⟩
  · exact ⟨_, _, Tryz.func84, s84_ok, by kernel_rfl⟩
  · exact ⟨_, _, Tryz.func85, s85_ok, by kernel_rfl⟩
  · exact ⟨_, _, Tryz.func86, s86_ok, by kernel_rfl⟩
  · exact ⟨_, _, Tryz.func87, s87_ok, by kernel_rfl⟩
  · exact ⟨_, _, Tryz.func88, s88_ok, by kernel_rfl⟩
  · exact ⟨_, _, Tryz.func89, s89_ok, by kernel_rfl⟩
  · exact ⟨_, _, Tryz.func90, s90_ok, by kernel_rfl⟩
  · exact ⟨_, _, Tryz.func96, s96_ok, by kernel_rfl⟩
  · exact ⟨_, _, Tryz.func97, s97_ok, by kernel_rfl⟩
  · exact ⟨_, _, Tryz.func98, s98_ok, by kernel_rfl⟩
  · exact ⟨_, _, Tryz.func99, s99_ok, by kernel_rfl⟩
  · exact ⟨_, _, Tryz.func100, s100_ok, by kernel_rfl⟩
  · exact ⟨_, _, Tryz.func102, s102_ok, by kernel_rfl⟩
  · exact ⟨_, _, Tryz.func103, s103_ok, by kernel_rfl⟩
  · exact ⟨_, _, Tryz.func104, s104_ok, by kernel_rfl⟩
  · exact ⟨_, _, Tryz.func105, s105_ok, by kernel_rfl⟩
  · exact ⟨_, _, Tryz.func106, s106_ok, by kernel_rfl⟩
  · exact ⟨_, _, Tryz.func107, s107_ok, by kernel_rfl⟩
  · exact ⟨_, _, Tryz.func109, s109_ok, by kernel_rfl⟩
  · exact ⟨_, _, Tryz.func111, s111_ok, by kernel_rfl⟩
  · exact ⟨_, _, Tryz.func112, s112_ok, by kernel_rfl⟩
  · exact ⟨_, _, Tryz.func115, s115_ok, by kernel_rfl⟩
  · exact ⟨_, _, Tryz.func116, s116_ok, by kernel_rfl⟩
  · exact ⟨_, _, Tryz.func117, s117_ok, by kernel_rfl⟩
  · exact ⟨_, _, Tryz.func118, s118_ok, by kernel_rfl⟩
  · exact ⟨_, _, Tryz.func119, s119_ok, by kernel_rfl⟩
  · exact ⟨_, _, Tryz.func120, s120_ok, by kernel_rfl⟩
  · exact ⟨_, _, Tryz.func121, s121_ok, by kernel_rfl⟩
  · exact ⟨_, _, Tryz.func122, s122_ok, by kernel_rfl⟩
  · exact ⟨_, _, Tryz.func123, s123_ok, by kernel_rfl⟩
  · exact ⟨_, _, Tryz.func124, s124_ok, by kernel_rfl⟩
  · exact ⟨_, _, Tryz.func125, s125_ok, by kernel_rfl⟩
  · exact ⟨_, _, Tryz.func126, s126_ok, by kernel_rfl⟩
  · exact ⟨_, _, Tryz.func127, s127_ok, by kernel_rfl⟩
  · exact ⟨_, _, Tryz.func128, s128_ok, by kernel_rfl⟩
  · exact ⟨_, _, Tryz.func129, s129_ok, by kernel_rfl⟩
  · exact ⟨_, _, Tryz.func130, s130_ok, by kernel_rfl⟩
  · exact ⟨_, _, Tryz.func131, s131_ok, by kernel_rfl⟩
  · exact ⟨_, _, Tryz.func132, s132_ok, by kernel_rfl⟩
  · exact ⟨_, _, Tryz.func133, s133_ok, by kernel_rfl⟩
  · exact ⟨_, _, Tryz.func134, s134_ok, by kernel_rfl⟩
  · exact ⟨_, _, Tryz.func135, s135_ok, by kernel_rfl⟩
theorem aw_learnerlaw26_awake_pure : PureC Tryz.prog 10 [] (.bool true) := pure_of_runQ (orP_ok insPrim58_ok (orP_ok insPrim59_ok (growPrim110_ok 999983))) clonePA87_ok (Good_of tab10_ok) 400 rfl (by kernel_rfl)
end Go.Proofs.YtmnjchcoigbngaaGreat


namespace Go.Proofs.YtmnjchcoigbngaaGreat
open Go Go.Proofs
theorem rcommon_pure (a b : List Int) : PureC Tryz.prog 53 [(V.sl (List.map cI (a))), (V.sl (List.map cI (b)))] (iV ((cmn a b : Nat) : Int)) := by
 refine pure_of_Wb true 6 Tryz.func53 s53_ok (by kernel_rfl) (by simp [s53]) (by simp) (by simp) fun hB => ?_
 simp only [bnd_map, bnd_int, bnd_bool, bnd_str, bnd_agg, bnd_pp, bnd_nil, bnd_cons, implies_true, and_true, true_and] at hB
 unfold s53
 dsimp only
 refine W_seq_regc (fun T H => T 0 = (V.sl (List.map cI (a))) ∧ T 1 = (V.sl (List.map cI (b))) ∧ True) ?_ ?_
 ·
  unfold r53_0
  refine R_mv (@rfl V (iV (0 : Int))) ?_
  exact R_nil ⟨rfl, rfl, trivial⟩
 intro T H ⟨t0, t1, _⟩
 refine W_seq_regc (fun T H => T 0 = (V.sl (List.map cI (a))) ∧ T 1 = (V.sl (List.map cI (b))) ∧ T 5 = (iV (0 : Int)) ∧ True) ?_ ?_
 ·
  unfold r53_1
  refine R_mv (@rfl V (iV (0 : Int))) ?_
  exact R_nil ⟨t0, t1, rfl, trivial⟩
 intro T H ⟨t0, t1, t5, _⟩
 refine W_seq_blockg fun Q1 n1 x1 y1 z1 => ?_
 refine W_loop (fun mm T H => ∃ (k : Nat), mm = a.length - k ∧ T 0 = (V.sl (List.map cI (a))) ∧ T 1 = (V.sl (List.map cI (b))) ∧ T 5 = (iV ((k : Nat) : Int)) ∧ (k ≤ a.length) ∧ (k ≤ cmn a b)) ?_ ?_
 ·
  refine ⟨_, 0, rfl, t0, t1, (Eq.trans t5 (by first | rfl | simp)), ?_, ?_⟩
  · omega
  · exact Nat.zero_le _
 intro mm T H ⟨k, hmm, t0, t1, t5, hk, hc⟩ Q2 p12 p22 p32
 unfold b53_0
 refine W_seq_seq ?_
 refine W_seq_regc (fun T H => T 0 = (V.sl (List.map cI (a))) ∧ T 1 = (V.sl (List.map cI (b))) ∧ T 5 = (iV ((k : Nat) : Int)) ∧ T 26 = (V.bool (decide (((((k : Nat) : Int) < ((a.length : Nat) : Int)) ∧ (((k : Nat) : Int) < ((b.length : Nat) : Int))) ∧ (((nth (a) (k))) = ((nth (b) (k))))))) ∧ True) ?_ ?_
 ·
  unfold r53_2
  refine R_mv t5 ?_
  refine R_mv t0 ?_
  refine R_len (@rfl V (V.sl (List.map cI (a)))) ?_
  refine R_lss (x := ((k : Nat) : Int)) (y := ((a.length : Nat) : Int)) (@rfl V (iV ((k : Nat) : Int))) (@rfl V (iV ((a.length : Nat) : Int))) ?_
  refine R_mv (@rfl V (V.bool (decide (((k : Nat) : Int) < ((a.length : Nat) : Int))))) ?_
  refine Ops_seg 5 (fun T H => T 0 = (V.sl (List.map cI (a))) ∧ T 1 = (V.sl (List.map cI (b))) ∧ T 5 = (iV ((k : Nat) : Int)) ∧ T 15 = (V.bool (decide ((((k : Nat) : Int) < ((a.length : Nat) : Int)) ∧ (((k : Nat) : Int) < ((b.length : Nat) : Int))))) ∧ True) ?_ ?_
  ·
   by_cases g3 : ((k : Nat) : Int) < ((a.length : Nat) : Int)
   ·
    refine G_yes (Eq.trans (@rfl V (V.bool (decide (((k : Nat) : Int) < ((a.length : Nat) : Int))))) (bdT g3)) ?_
    refine R_mv t5 ?_
    refine G_yes (Eq.trans (@rfl V (V.bool (decide (((k : Nat) : Int) < ((a.length : Nat) : Int))))) (bdT g3)) ?_
    refine R_mv t1 ?_
    refine G_yes (Eq.trans (@rfl V (V.bool (decide (((k : Nat) : Int) < ((a.length : Nat) : Int))))) (bdT g3)) ?_
    refine R_len (@rfl V (V.sl (List.map cI (b)))) ?_
    refine G_yes (Eq.trans (@rfl V (V.bool (decide (((k : Nat) : Int) < ((a.length : Nat) : Int))))) (bdT g3)) ?_
    refine R_lss (x := ((k : Nat) : Int)) (y := ((b.length : Nat) : Int)) (@rfl V (iV ((k : Nat) : Int))) (@rfl V (iV ((b.length : Nat) : Int))) ?_
    refine R_pickT (Eq.trans (@rfl V (V.bool (decide (((k : Nat) : Int) < ((a.length : Nat) : Int))))) (bdT g3)) (@rfl V (V.bool (decide (((k : Nat) : Int) < ((b.length : Nat) : Int))))) ?_
    exact ⟨t0, t1, t5, (Eq.trans (@rfl V (V.bool (decide (((k : Nat) : Int) < ((b.length : Nat) : Int))))) (dec_andT g3)), trivial⟩
   ·
    refine G_no (Eq.trans (@rfl V (V.bool (decide (((k : Nat) : Int) < ((a.length : Nat) : Int))))) (bdF g3)) (by decide) ?_
    refine G_no (Eq.trans (@rfl V (V.bool (decide (((k : Nat) : Int) < ((a.length : Nat) : Int))))) (bdF g3)) (by decide) ?_
    refine G_no (Eq.trans (@rfl V (V.bool (decide (((k : Nat) : Int) < ((a.length : Nat) : Int))))) (bdF g3)) (by decide) ?_
    refine G_no (Eq.trans (@rfl V (V.bool (decide (((k : Nat) : Int) < ((a.length : Nat) : Int))))) (bdF g3)) (by decide) ?_
    refine R_pickF (Eq.trans (@rfl V (V.bool (decide (((k : Nat) : Int) < ((a.length : Nat) : Int))))) (bdF g3)) (@rfl V (V.bool false)) ?_
    exact ⟨t0, t1, t5, (Eq.trans (@rfl V (V.bool false)) (dec_andF g3)), trivial⟩
  intro T H ⟨t0, t1, t5, t15, _⟩
  refine R_mv t15 ?_
  refine Ops_seg 10 (fun T H => T 0 = (V.sl (List.map cI (a))) ∧ T 1 = (V.sl (List.map cI (b))) ∧ T 5 = (iV ((k : Nat) : Int)) ∧ T 26 = (V.bool (decide (((((k : Nat) : Int) < ((a.length : Nat) : Int)) ∧ (((k : Nat) : Int) < ((b.length : Nat) : Int))) ∧ (((nth (a) (k))) = ((nth (b) (k))))))) ∧ True) ?_ ?_
  ·
   by_cases g4 : (((k : Nat) : Int) < ((a.length : Nat) : Int)) ∧ (((k : Nat) : Int) < ((b.length : Nat) : Int))
   ·
    refine G_yes (Eq.trans (@rfl V (V.bool (decide ((((k : Nat) : Int) < ((a.length : Nat) : Int)) ∧ (((k : Nat) : Int) < ((b.length : Nat) : Int)))))) (bdT g4)) ?_
    refine R_mv t0 ?_
    refine G_yes (Eq.trans (@rfl V (V.bool (decide ((((k : Nat) : Int) < ((a.length : Nat) : Int)) ∧ (((k : Nat) : Int) < ((b.length : Nat) : Int)))))) (bdT g4)) ?_
    refine R_mv t5 ?_
    refine G_yes (Eq.trans (@rfl V (V.bool (decide ((((k : Nat) : Int) < ((a.length : Nat) : Int)) ∧ (((k : Nat) : Int) < ((b.length : Nat) : Int)))))) (bdT g4)) ?_
    refine R_idx (i := k) (@rfl V (V.sl (List.map cI (a)))) (@rfl V (iV ((k : Nat) : Int))) (by omega) rfl ?_
    refine G_yes (Eq.trans (@rfl V (V.bool (decide ((((k : Nat) : Int) < ((a.length : Nat) : Int)) ∧ (((k : Nat) : Int) < ((b.length : Nat) : Int)))))) (bdT g4)) ?_
    refine R_load_pp (v := (iV ((nth (a) (k))))) (@rfl V (V.pp [(iV ((nth (a) (k))))])) (by first | rfl | simp [ldV]) ?_
    refine G_yes (Eq.trans (@rfl V (V.bool (decide ((((k : Nat) : Int) < ((a.length : Nat) : Int)) ∧ (((k : Nat) : Int) < ((b.length : Nat) : Int)))))) (bdT g4)) ?_
    refine R_mv t1 ?_
    refine G_yes (Eq.trans (@rfl V (V.bool (decide ((((k : Nat) : Int) < ((a.length : Nat) : Int)) ∧ (((k : Nat) : Int) < ((b.length : Nat) : Int)))))) (bdT g4)) ?_
    refine R_mv t5 ?_
    refine G_yes (Eq.trans (@rfl V (V.bool (decide ((((k : Nat) : Int) < ((a.length : Nat) : Int)) ∧ (((k : Nat) : Int) < ((b.length : Nat) : Int)))))) (bdT g4)) ?_
    refine R_idx (i := k) (@rfl V (V.sl (List.map cI (b)))) (@rfl V (iV ((k : Nat) : Int))) (by omega) rfl ?_
    refine G_yes (Eq.trans (@rfl V (V.bool (decide ((((k : Nat) : Int) < ((a.length : Nat) : Int)) ∧ (((k : Nat) : Int) < ((b.length : Nat) : Int)))))) (bdT g4)) ?_
    refine R_load_pp (v := (iV ((nth (b) (k))))) (@rfl V (V.pp [(iV ((nth (b) (k))))])) (by first | rfl | simp [ldV]) ?_
    refine G_yes (Eq.trans (@rfl V (V.bool (decide ((((k : Nat) : Int) < ((a.length : Nat) : Int)) ∧ (((k : Nat) : Int) < ((b.length : Nat) : Int)))))) (bdT g4)) ?_
    refine R_eql (x := ((nth (a) (k)))) (y := ((nth (b) (k)))) (@rfl V (iV ((nth (a) (k))))) (@rfl V (iV ((nth (b) (k))))) ?_
    refine R_pickT (Eq.trans (@rfl V (V.bool (decide ((((k : Nat) : Int) < ((a.length : Nat) : Int)) ∧ (((k : Nat) : Int) < ((b.length : Nat) : Int)))))) (bdT g4)) (@rfl V (V.bool (decide (((nth (a) (k))) = ((nth (b) (k))))))) ?_
    exact ⟨t0, t1, t5, (Eq.trans (@rfl V (V.bool (decide (((nth (a) (k))) = ((nth (b) (k))))))) (dec_andT g4)), trivial⟩
   ·
    refine G_no (Eq.trans (@rfl V (V.bool (decide ((((k : Nat) : Int) < ((a.length : Nat) : Int)) ∧ (((k : Nat) : Int) < ((b.length : Nat) : Int)))))) (bdF g4)) (by decide) ?_
    refine G_no (Eq.trans (@rfl V (V.bool (decide ((((k : Nat) : Int) < ((a.length : Nat) : Int)) ∧ (((k : Nat) : Int) < ((b.length : Nat) : Int)))))) (bdF g4)) (by decide) ?_
    refine G_no (Eq.trans (@rfl V (V.bool (decide ((((k : Nat) : Int) < ((a.length : Nat) : Int)) ∧ (((k : Nat) : Int) < ((b.length : Nat) : Int)))))) (bdF g4)) (by decide) ?_
    refine G_no (Eq.trans (@rfl V (V.bool (decide ((((k : Nat) : Int) < ((a.length : Nat) : Int)) ∧ (((k : Nat) : Int) < ((b.length : Nat) : Int)))))) (bdF g4)) (by decide) ?_
    refine G_no (Eq.trans (@rfl V (V.bool (decide ((((k : Nat) : Int) < ((a.length : Nat) : Int)) ∧ (((k : Nat) : Int) < ((b.length : Nat) : Int)))))) (bdF g4)) (by decide) ?_
    refine G_no (Eq.trans (@rfl V (V.bool (decide ((((k : Nat) : Int) < ((a.length : Nat) : Int)) ∧ (((k : Nat) : Int) < ((b.length : Nat) : Int)))))) (bdF g4)) (by decide) ?_
    refine G_no (Eq.trans (@rfl V (V.bool (decide ((((k : Nat) : Int) < ((a.length : Nat) : Int)) ∧ (((k : Nat) : Int) < ((b.length : Nat) : Int)))))) (bdF g4)) (by decide) ?_
    refine G_no (Eq.trans (@rfl V (V.bool (decide ((((k : Nat) : Int) < ((a.length : Nat) : Int)) ∧ (((k : Nat) : Int) < ((b.length : Nat) : Int)))))) (bdF g4)) (by decide) ?_
    refine G_no (Eq.trans (@rfl V (V.bool (decide ((((k : Nat) : Int) < ((a.length : Nat) : Int)) ∧ (((k : Nat) : Int) < ((b.length : Nat) : Int)))))) (bdF g4)) (by decide) ?_
    refine R_pickF (Eq.trans (@rfl V (V.bool (decide ((((k : Nat) : Int) < ((a.length : Nat) : Int)) ∧ (((k : Nat) : Int) < ((b.length : Nat) : Int)))))) (bdF g4)) (@rfl V (V.bool false)) ?_
    exact ⟨t0, t1, t5, (Eq.trans (@rfl V (V.bool false)) (dec_andF g4)), trivial⟩
  intro T H ⟨t0, t1, t5, t26, _⟩
  exact R_nil ⟨t0, t1, t5, t26, trivial⟩
 intro T H ⟨t0, t1, t5, t26, _⟩
 refine W_seq_if (p := ((((k : Nat) : Int) < ((a.length : Nat) : Int)) ∧ (((k : Nat) : Int) < ((b.length : Nat) : Int))) ∧ (((nth (a) (k))) = ((nth (b) (k))))) t26 (fun c5 => ?_) (fun c5 => ?_)
 ·
  refine W_seq_skip ?_
  refine W_block fun Q6 n6 x6 y6 z6 => ?_
  refine W_regc (fun T H => T 0 = (V.sl (List.map cI (a))) ∧ T 1 = (V.sl (List.map cI (b))) ∧ T 5 = (iV ((k + 1 : Nat) : Int)) ∧ True) ?_ ?_
  ·
   unfold r53_3
   refine R_mv t5 ?_
   refine R_addN (m := k) (n := 1) (@rfl V (iV ((k : Nat) : Int))) (@rfl V (iV ((1 : Nat) : Int))) (by omega) ?_
   refine R_mv (@rfl V (iV ((k + 1 : Nat) : Int))) ?_
   exact R_nil ⟨t0, t1, rfl, trivial⟩
  intro T H ⟨t0, t1, t5, _⟩
  refine n6 _ _ ?_
  refine p12 _ _ _ ?_ ⟨(k + 1), rfl, t0, t1, (Eq.trans t5 (by first | rfl | simp)), ?_, ?_⟩
  · omega
  · omega
  · exact cmn_next hc (by omega) (by omega) (by omega)
 refine W_seq_exit ?_
 refine p32 _ _ _ ?_
 refine x1 _ _ ?_
 refine .done ?_
 refine W_seq_regc (fun T H => T 4 = (iV ((k : Nat) : Int)) ∧ True) ?_ ?_
 ·
  unfold r53_4
  refine R_mv t5 ?_
  refine R_mv (@rfl V (iV ((k : Nat) : Int))) ?_
  exact R_nil ⟨rfl, trivial⟩
 intro T H ⟨t4, _⟩
 refine W_ret ?_
 refine Ret_1 t4 (fz_int ?_)
 · rw [cmn_at hc (by omega)]
end Go.Proofs.YtmnjchcoigbngaaGreat


namespace Go.Proofs.YtmnjchcoigbngaaGreat
open Go Go.Proofs
theorem rsame1_pure (a b : List Int) : PureC Tryz.prog 22 [(V.sl (List.map cI (a))), (V.sl (List.map cI (b)))] (V.bool (decide (a = b))) := by
 refine pure_of_Wb true 6 Tryz.func22 s22_ok (by kernel_rfl) (by simp [s22]) (by simp) (by simp) fun hB => ?_
 simp only [bnd_map, bnd_int, bnd_bool, bnd_str, bnd_agg, bnd_pp, bnd_nil, bnd_cons, implies_true, and_true, true_and] at hB
 unfold s22
 dsimp only
 refine W_seq_regc (fun T H => T 0 = (V.sl (List.map cI (a))) ∧ T 1 = (V.sl (List.map cI (b))) ∧ True) ?_ ?_
 ·
  unfold r22_0
  refine R_mv (@rfl V (V.bool false)) ?_
  exact R_nil ⟨rfl, rfl, trivial⟩
 intro T H ⟨t0, t1, _⟩
 refine W_seq_regc (fun T H => T 4 = (V.bool (decide ((((a.length : Nat) : Int) = ((b.length : Nat) : Int)) ∧ (((cmn a b : Nat) : Int) = ((a.length : Nat) : Int))))) ∧ True) ?_ ?_
 ·
  unfold r22_1
  refine R_mv t0 ?_
  refine R_len (@rfl V (V.sl (List.map cI (a)))) ?_
  refine R_mv t1 ?_
  refine R_len (@rfl V (V.sl (List.map cI (b)))) ?_
  refine R_eql (x := ((a.length : Nat) : Int)) (y := ((b.length : Nat) : Int)) (@rfl V (iV ((a.length : Nat) : Int))) (@rfl V (iV ((b.length : Nat) : Int))) ?_
  refine R_mv (@rfl V (V.bool (decide (((a.length : Nat) : Int) = ((b.length : Nat) : Int))))) ?_
  refine Ops_seg 7 (fun T H => T 17 = (V.bool (decide ((((a.length : Nat) : Int) = ((b.length : Nat) : Int)) ∧ (((cmn a b : Nat) : Int) = ((a.length : Nat) : Int))))) ∧ True) ?_ ?_
  ·
   by_cases g1 : ((a.length : Nat) : Int) = ((b.length : Nat) : Int)
   ·
    refine G_yes (Eq.trans (@rfl V (V.bool (decide (((a.length : Nat) : Int) = ((b.length : Nat) : Int))))) (bdT g1)) ?_
    refine R_mv t0 ?_
    refine G_yes (Eq.trans (@rfl V (V.bool (decide (((a.length : Nat) : Int) = ((b.length : Nat) : Int))))) (bdT g1)) ?_
    refine R_mv t1 ?_
    refine G_yes (Eq.trans (@rfl V (V.bool (decide (((a.length : Nat) : Int) = ((b.length : Nat) : Int))))) (bdT g1)) ?_
    have q2 := cmn_l a b
    have q3 := cmn_r a b
    refine R_call (evcons (@rfl V (V.sl (List.map cI (a)))) (evcons (@rfl V (V.sl (List.map cI (b)))) evnil)) (rcommon_pure a b) (fzv_mapcanon _ _ (by simp [-List.map_take, -List.map_drop, -List.map_append, -List.map_reverse])) (by simp [-List.map_take, -List.map_drop, -List.map_append, -List.map_reverse]) (Or.inl (by simp [-List.map_take, -List.map_drop, -List.map_append, -List.map_reverse])) ?_
    refine G_yes (Eq.trans (@rfl V (V.bool (decide (((a.length : Nat) : Int) = ((b.length : Nat) : Int))))) (bdT g1)) ?_
    refine R_mv t0 ?_
    refine G_yes (Eq.trans (@rfl V (V.bool (decide (((a.length : Nat) : Int) = ((b.length : Nat) : Int))))) (bdT g1)) ?_
    refine R_len (@rfl V (V.sl (List.map cI (a)))) ?_
    refine G_yes (Eq.trans (@rfl V (V.bool (decide (((a.length : Nat) : Int) = ((b.length : Nat) : Int))))) (bdT g1)) ?_
    refine R_eql (x := ((cmn a b : Nat) : Int)) (y := ((a.length : Nat) : Int)) (@rfl V (iV ((cmn a b : Nat) : Int))) (@rfl V (iV ((a.length : Nat) : Int))) ?_
    refine R_pickT (Eq.trans (@rfl V (V.bool (decide (((a.length : Nat) : Int) = ((b.length : Nat) : Int))))) (bdT g1)) (@rfl V (V.bool (decide (((cmn a b : Nat) : Int) = ((a.length : Nat) : Int))))) ?_
    exact ⟨(Eq.trans (@rfl V (V.bool (decide (((cmn a b : Nat) : Int) = ((a.length : Nat) : Int))))) (dec_andT g1)), trivial⟩
   ·
    refine G_no (Eq.trans (@rfl V (V.bool (decide (((a.length : Nat) : Int) = ((b.length : Nat) : Int))))) (bdF g1)) (by decide) ?_
    refine G_no (Eq.trans (@rfl V (V.bool (decide (((a.length : Nat) : Int) = ((b.length : Nat) : Int))))) (bdF g1)) (by decide) ?_
    refine G_no (Eq.trans (@rfl V (V.bool (decide (((a.length : Nat) : Int) = ((b.length : Nat) : Int))))) (bdF g1)) (by decide) ?_
    refine G_no (Eq.trans (@rfl V (V.bool (decide (((a.length : Nat) : Int) = ((b.length : Nat) : Int))))) (bdF g1)) (by decide) ?_
    refine G_no (Eq.trans (@rfl V (V.bool (decide (((a.length : Nat) : Int) = ((b.length : Nat) : Int))))) (bdF g1)) (by decide) ?_
    refine G_no (Eq.trans (@rfl V (V.bool (decide (((a.length : Nat) : Int) = ((b.length : Nat) : Int))))) (bdF g1)) (by decide) ?_
    refine R_pickF (Eq.trans (@rfl V (V.bool (decide (((a.length : Nat) : Int) = ((b.length : Nat) : Int))))) (bdF g1)) (@rfl V (V.bool false)) ?_
    exact ⟨(Eq.trans (@rfl V (V.bool false)) (dec_andF g1)), trivial⟩
  intro T H ⟨t17, _⟩
  refine R_mv t17 ?_
  exact R_nil ⟨rfl, trivial⟩
 intro T H ⟨t4, _⟩
 refine W_ret ?_
 refine Ret_1 t4 (fz_bool ?_)
 · exact same_dec a b
end Go.Proofs.YtmnjchcoigbngaaGreat


namespace Go.Proofs.YtmnjchcoigbngaaGreat
open Go Go.Proofs
theorem permitted_pure (n : Int) : PureC Tryz.prog 80 [(iV (n))] (V.bool (decide (1 ≤ n ∧ n ≤ 1024))) := by
 refine pure_of_Wb true 6 Tryz.func80 s80_ok (by kernel_rfl) (by simp [s80]) (by simp) (by simp) fun hB => ?_
 simp only [bnd_map, bnd_int, bnd_bool, bnd_str, bnd_agg, bnd_pp, bnd_nil, bnd_cons, implies_true, and_true, true_and] at hB
 unfold s80
 dsimp only
 refine W_seq_regc (fun T H => T 0 = (iV (n)) ∧ True) ?_ ?_
 ·
  unfold r80_0
  refine R_mv (@rfl V (V.bool false)) ?_
  exact R_nil ⟨rfl, trivial⟩
 intro T H ⟨t0, _⟩
 refine W_seq_regc (fun T H => T 2 = (V.bool (decide (((1 : Int) ≤ (n)) ∧ ((n) ≤ (1024 : Int))))) ∧ True) ?_ ?_
 ·
  unfold r80_1
  refine R_mv t0 ?_
  refine R_geq (x := (n)) (y := (1 : Int)) (@rfl V (iV (n))) (@rfl V (iV (1 : Int))) ?_
  refine R_mv (@rfl V (V.bool (decide ((1 : Int) ≤ (n))))) ?_
  refine Ops_seg 3 (fun T H => T 8 = (V.bool (decide (((1 : Int) ≤ (n)) ∧ ((n) ≤ (1024 : Int))))) ∧ True) ?_ ?_
  ·
   by_cases g1 : (1 : Int) ≤ (n)
   ·
    refine G_yes (Eq.trans (@rfl V (V.bool (decide ((1 : Int) ≤ (n))))) (bdT g1)) ?_
    refine R_mv t0 ?_
    refine G_yes (Eq.trans (@rfl V (V.bool (decide ((1 : Int) ≤ (n))))) (bdT g1)) ?_
    refine R_leq (x := (n)) (y := (1024 : Int)) (@rfl V (iV (n))) (@rfl V (iV (1024 : Int))) ?_
    refine R_pickT (Eq.trans (@rfl V (V.bool (decide ((1 : Int) ≤ (n))))) (bdT g1)) (@rfl V (V.bool (decide ((n) ≤ (1024 : Int))))) ?_
    exact ⟨(Eq.trans (@rfl V (V.bool (decide ((n) ≤ (1024 : Int))))) (dec_andT g1)), trivial⟩
   ·
    refine G_no (Eq.trans (@rfl V (V.bool (decide ((1 : Int) ≤ (n))))) (bdF g1)) (by decide) ?_
    refine G_no (Eq.trans (@rfl V (V.bool (decide ((1 : Int) ≤ (n))))) (bdF g1)) (by decide) ?_
    refine R_pickF (Eq.trans (@rfl V (V.bool (decide ((1 : Int) ≤ (n))))) (bdF g1)) (@rfl V (V.bool false)) ?_
    exact ⟨(Eq.trans (@rfl V (V.bool false)) (dec_andF g1)), trivial⟩
  intro T H ⟨t8, _⟩
  refine R_mv t8 ?_
  exact R_nil ⟨rfl, trivial⟩
 intro T H ⟨t2, _⟩
 refine W_ret ?_
 refine Ret_1 t2 (fz_bool ?_)
 · first | rfl | omega | simp_all
end Go.Proofs.YtmnjchcoigbngaaGreat


namespace Go.Proofs.YtmnjchcoigbngaaGreat
open Go Go.Proofs
theorem idxi_pure (p : Int → Bool) (w : List Int) (g : Nat) (caps : List V) (hca : canonL caps = true) (hpu : pureL caps = true) (hq : ∀ k, k < w.length → PureC Tryz.prog g (iV (nth w k) :: caps) (.bool (p (nth w k)))) : PureC Tryz.prog 109 [(V.sl (List.map cI (w))), (V.fn g [] caps)] (iV (fi (fun j => p (nth w j)) 0 w.length)) := by
 refine pure_of_Wb true 6 Tryz.func109 s109_ok (by kernel_rfl) (by simp [s109]) (by simp [hpu]) (by simp) fun hB => ?_
 simp only [bnd_map, bnd_int, bnd_bool, bnd_str, bnd_agg, bnd_pp, bnd_nil, bnd_cons, implies_true, and_true, true_and] at hB
 unfold s109
 dsimp only
 refine W_seq_regc (fun T H => T 0 = (V.sl (List.map cI (w))) ∧ T 1 = (V.fn g [] caps) ∧ True) ?_ ?_
 ·
  unfold r109_0
  refine R_mv (@rfl V (iV (0 : Int))) ?_
  exact R_nil ⟨rfl, rfl, trivial⟩
 intro T H ⟨t0, t1, _⟩
 refine W_seq_seq ?_
 refine W_seq_regc (fun T H => T 0 = (V.sl (List.map cI (w))) ∧ T 1 = (V.fn g [] caps) ∧ T 7 = (iV ((w.length : Nat) : Int)) ∧ T 8 = (iV (0 : Int)) ∧ True) ?_ ?_
 ·
  unfold r109_1
  refine R_mv t0 ?_
  refine R_len (@rfl V (V.sl (List.map cI (w)))) ?_
  refine R_mv (@rfl V (iV (0 : Int))) ?_
  exact R_nil ⟨t0, t1, rfl, rfl, trivial⟩
 intro T H ⟨t0, t1, t7, t8, _⟩
 refine W_seq_blockg fun Q1 n1 x1 y1 z1 => ?_
 refine W_loop (fun mm T H => ∃ (k : Nat), mm = w.length - k ∧ T 0 = (V.sl (List.map cI (w))) ∧ T 1 = (V.fn g [] caps) ∧ T 7 = (iV ((w.length : Nat) : Int)) ∧ T 8 = (iV ((k : Nat) : Int)) ∧ (k ≤ w.length) ∧ (fi (fun j => p (nth w j)) 0 w.length = fi (fun j => p (nth w j)) k (w.length - k))) ?_ ?_
 ·
  refine ⟨_, 0, rfl, t0, t1, t7, (Eq.trans t8 (by first | rfl | simp)), ?_, ?_⟩
  · omega
  · rfl
 intro mm T H ⟨k, hmm, t0, t1, t7, t8, hk, hc⟩ Q2 p12 p22 p32
 unfold b109_0
 refine W_seq_regc (fun T H => T 0 = (V.sl (List.map cI (w))) ∧ T 1 = (V.fn g [] caps) ∧ T 7 = (iV ((w.length : Nat) : Int)) ∧ T 8 = (iV ((k : Nat) : Int)) ∧ T 9 = (V.bool (decide (((k : Nat) : Int) < ((w.length : Nat) : Int)))) ∧ True) ?_ ?_
 ·
  unfold r109_2
  refine R_lss (x := ((k : Nat) : Int)) (y := ((w.length : Nat) : Int)) t8 t7 ?_
  exact R_nil ⟨t0, t1, t7, t8, rfl, trivial⟩
 intro T H ⟨t0, t1, t7, t8, t9, _⟩
 refine W_seq_if (p := ((k : Nat) : Int) < ((w.length : Nat) : Int)) t9 (fun c3 => ?_) (fun c3 => ?_)
 ·
  refine W_seq_skip ?_
  refine W_seq_blockg fun Q4 n4 x4 y4 z4 => ?_
  refine W_seq_regc (fun T H => T 0 = (V.sl (List.map cI (w))) ∧ T 1 = (V.fn g [] caps) ∧ T 5 = (iV ((k : Nat) : Int)) ∧ T 7 = (iV ((w.length : Nat) : Int)) ∧ T 8 = (iV ((k : Nat) : Int)) ∧ True) ?_ ?_
  ·
   unfold r109_3
   refine R_mv t8 ?_
   refine R_mv (@rfl V (iV ((k : Nat) : Int))) ?_
   exact R_nil ⟨t0, t1, rfl, t7, t8, trivial⟩
  intro T H ⟨t0, t1, t5, t7, t8, _⟩
  refine W_seq_regc (fun T H => T 0 = (V.sl (List.map cI (w))) ∧ T 1 = (V.fn g [] caps) ∧ T 5 = (iV ((k : Nat) : Int)) ∧ T 7 = (iV ((w.length : Nat) : Int)) ∧ T 8 = (iV ((k : Nat) : Int)) ∧ T 16 = (V.bool (p (nth w k))) ∧ True) ?_ ?_
  ·
   unfold r109_4
   refine R_mv t1 ?_
   refine R_mv t0 ?_
   refine R_mv t5 ?_
   refine R_idx (i := k) (@rfl V (V.sl (List.map cI (w)))) (@rfl V (iV ((k : Nat) : Int))) (by omega) rfl ?_
   refine R_load_pp (v := (iV ((nth (w) (k))))) (@rfl V (V.pp [(iV ((nth (w) (k))))])) (by first | rfl | simp [ldV]) ?_
   refine R_callv (@rfl V (V.fn g [] caps)) (evcons (@rfl V (iV ((nth (w) (k))))) evnil) (hq k (by omega)) (fzv_mapcanon _ _ (by simp [hca])) (by simp [hpu]) (Or.inl (by simp [hpu])) ?_
   exact R_nil ⟨t0, t1, t5, t7, t8, rfl, trivial⟩
  intro T H ⟨t0, t1, t5, t7, t8, t16, _⟩
  refine W_ifb t16 (fun c5 => ?_) (fun c5 => ?_)
  ·
   have d1 := c5
   refine W_seq_regc (fun T H => T 4 = (iV ((k : Nat) : Int)) ∧ True) ?_ ?_
   ·
    unfold r109_5
    refine R_mv t5 ?_
    refine R_mv (@rfl V (iV ((k : Nat) : Int))) ?_
    exact R_nil ⟨rfl, trivial⟩
   intro T H ⟨t4, _⟩
   refine W_ret ?_
   refine y4 _ _ ?_
   refine p22 _ _ ?_
   refine y1 _ _ ?_
   refine Ret_1 t4 (fz_int ?_)
   · rw [hc, fi_hit (by exact d1) (by omega)]
  have d1 := c5
  refine W_skip ?_
  refine n4 _ _ ?_
  refine .done ?_
  refine W_regc (fun T H => T 0 = (V.sl (List.map cI (w))) ∧ T 1 = (V.fn g [] caps) ∧ T 7 = (iV ((w.length : Nat) : Int)) ∧ T 8 = (iV ((k + 1 : Nat) : Int)) ∧ True) ?_ ?_
  ·
   unfold r109_6
   refine R_addN (m := k) (n := 1) t8 (@rfl V (iV ((1 : Nat) : Int))) (by omega) ?_
   refine R_mv (@rfl V (iV ((k + 1 : Nat) : Int))) ?_
   exact R_nil ⟨t0, t1, t7, rfl, trivial⟩
  intro T H ⟨t0, t1, t7, t8, _⟩
  refine p12 _ _ _ ?_ ⟨(k + 1), rfl, t0, t1, t7, (Eq.trans t8 (by first | rfl | simp)), ?_, ?_⟩
  · omega
  · omega
  · rw [hc, fi_skip (by exact d1) (by omega)]
 refine W_seq_exit ?_
 refine p32 _ _ _ ?_
 refine x1 _ _ ?_
 refine .done ?_
 refine W_seq_regc (fun T H => T 4 = (iV (-1 : Int)) ∧ True) ?_ ?_
 ·
  unfold r109_7
  refine R_mv (@rfl V (iV (-1 : Int))) ?_
  exact R_nil ⟨rfl, trivial⟩
 intro T H ⟨t4, _⟩
 refine W_ret ?_
 refine Ret_1 t4 (fz_int ?_)
 · rw [hc, fi_end (by omega)]
end Go.Proofs.YtmnjchcoigbngaaGreat


namespace Go.Proofs.YtmnjchcoigbngaaGreat
open Go Go.Proofs
theorem coni_pure (p : Int → Bool) (w : List Int) (g : Nat) (caps : List V) (hca : canonL caps = true) (hpu : pureL caps = true) (hq : ∀ k, k < w.length → PureC Tryz.prog g (iV (nth w k) :: caps) (.bool (p (nth w k)))) : PureC Tryz.prog 81 [(V.sl (List.map cI (w))), (V.fn g [] caps)] (V.bool (decide (0 ≤ fi (fun j => p (nth w j)) 0 w.length))) := by
 refine pure_of_Wb true 6 Tryz.func81 s81_ok (by kernel_rfl) (by simp [s81]) (by simp [hpu]) (by simp) fun hB => ?_
 simp only [bnd_map, bnd_int, bnd_bool, bnd_str, bnd_agg, bnd_pp, bnd_nil, bnd_cons, implies_true, and_true, true_and] at hB
 unfold s81
 dsimp only
 refine W_seq_regc (fun T H => T 0 = (V.sl (List.map cI (w))) ∧ T 1 = (V.fn g [] caps) ∧ True) ?_ ?_
 ·
  unfold r81_0
  refine R_mv (@rfl V (V.bool false)) ?_
  exact R_nil ⟨rfl, rfl, trivial⟩
 intro T H ⟨t0, t1, _⟩
 refine W_seq_regc (fun T H => T 4 = (V.bool (decide ((0 : Int) ≤ (fi (fun j => p (nth w j)) 0 w.length)))) ∧ True) ?_ ?_
 ·
  unfold r81_1
  refine R_mv t0 ?_
  refine R_mv t1 ?_
  refine R_call (evcons (@rfl V (V.sl (List.map cI (w)))) (evcons (@rfl V (V.fn g [] caps)) evnil)) (idxi_pure p w g caps hca hpu hq) (fzv_mapcanon _ _ (by simp [hca, hpu, -List.map_take, -List.map_drop, -List.map_append, -List.map_reverse])) (by simp [hca, hpu, -List.map_take, -List.map_drop, -List.map_append, -List.map_reverse]) (Or.inl (by simp [hca, hpu, -List.map_take, -List.map_drop, -List.map_append, -List.map_reverse])) ?_
  refine R_geq (x := (fi (fun j => p (nth w j)) 0 w.length)) (y := (0 : Int)) (@rfl V (iV (fi (fun j => p (nth w j)) 0 w.length))) (@rfl V (iV (0 : Int))) ?_
  refine R_mv (@rfl V (V.bool (decide ((0 : Int) ≤ (fi (fun j => p (nth w j)) 0 w.length))))) ?_
  exact R_nil ⟨rfl, trivial⟩
 intro T H ⟨t4, _⟩
 refine W_ret ?_
 refine Ret_1 t4 (fz_bool ?_)
 · first | rfl | omega | simp_all
end Go.Proofs.YtmnjchcoigbngaaGreat


namespace Go.Proofs.YtmnjchcoigbngaaGreat
open Go Go.Proofs
theorem check1_pure (a n : Int) : PureC Tryz.prog 82 [(iV (a)), (V.pp [(iV (n))])] (V.bool (decide (a < 0 ∨ n ≤ a))) := by
 refine pure_of_Wb true 6 Tryz.func82 s82_ok (by kernel_rfl) (by simp [s82]) (by simp) (by simp) fun hB => ?_
 simp only [bnd_map, bnd_int, bnd_bool, bnd_str, bnd_agg, bnd_pp, bnd_nil, bnd_cons, implies_true, and_true, true_and] at hB
 unfold s82
 dsimp only
 refine W_seq_regc (fun T H => T 0 = (iV (a)) ∧ T 1 = (V.pp [(iV (n))]) ∧ True) ?_ ?_
 ·
  unfold r82_0
  refine R_mv (@rfl V (V.bool false)) ?_
  exact R_nil ⟨rfl, rfl, trivial⟩
 intro T H ⟨t0, t1, _⟩
 refine W_seq_regc (fun T H => T 3 = (V.bool (decide (((a) < (0 : Int)) ∨ ((n) ≤ (a))))) ∧ True) ?_ ?_
 ·
  unfold r82_1
  refine R_mv t0 ?_
  refine R_lss (x := (a)) (y := (0 : Int)) (@rfl V (iV (a))) (@rfl V (iV (0 : Int))) ?_
  refine R_mv (@rfl V (V.bool (decide ((a) < (0 : Int))))) ?_
  refine Ops_seg 4 (fun T H => T 10 = (V.bool (decide (((a) < (0 : Int)) ∨ ((n) ≤ (a))))) ∧ True) ?_ ?_
  ·
   by_cases g1 : (a) < (0 : Int)
   ·
    refine G_no (Eq.trans (@rfl V (V.bool (decide ((a) < (0 : Int))))) (bdT g1)) (by decide) ?_
    refine G_no (Eq.trans (@rfl V (V.bool (decide ((a) < (0 : Int))))) (bdT g1)) (by decide) ?_
    refine G_no (Eq.trans (@rfl V (V.bool (decide ((a) < (0 : Int))))) (bdT g1)) (by decide) ?_
    refine R_pickT (Eq.trans (@rfl V (V.bool (decide ((a) < (0 : Int))))) (bdT g1)) (@rfl V (V.bool true)) ?_
    exact ⟨(Eq.trans (@rfl V (V.bool true)) (dec_orT g1)), trivial⟩
   ·
    refine G_yes (Eq.trans (@rfl V (V.bool (decide ((a) < (0 : Int))))) (bdF g1)) ?_
    refine R_mv t0 ?_
    refine G_yes (Eq.trans (@rfl V (V.bool (decide ((a) < (0 : Int))))) (bdF g1)) ?_
    refine R_load_pp (v := (iV (n))) t1 (by first | rfl | simp [ldV]) ?_
    refine G_yes (Eq.trans (@rfl V (V.bool (decide ((a) < (0 : Int))))) (bdF g1)) ?_
    refine R_geq (x := (a)) (y := (n)) (@rfl V (iV (a))) (@rfl V (iV (n))) ?_
    refine R_pickF (Eq.trans (@rfl V (V.bool (decide ((a) < (0 : Int))))) (bdF g1)) (@rfl V (V.bool (decide ((n) ≤ (a))))) ?_
    exact ⟨(Eq.trans (@rfl V (V.bool (decide ((n) ≤ (a))))) (dec_orF g1)), trivial⟩
  intro T H ⟨t10, _⟩
  refine R_mv t10 ?_
  exact R_nil ⟨rfl, trivial⟩
 intro T H ⟨t3, _⟩
 refine W_ret ?_
 refine Ret_1 t3 (fz_bool ?_)
 · first | rfl | omega | simp_all
end Go.Proofs.YtmnjchcoigbngaaGreat


namespace Go.Proofs.YtmnjchcoigbngaaGreat
open Go Go.Proofs
theorem check_pure (w : List Int) (n : Int) : PureC Tryz.prog 48 [(V.sl (List.map cI (w))), (iV (n))] (iV (wchk w n)) := by
 refine pure_of_Wb true 6 Tryz.func48 s48_ok (by kernel_rfl) (by simp [s48]) (by simp) (by simp) fun hB => ?_
 simp only [bnd_map, bnd_int, bnd_bool, bnd_str, bnd_agg, bnd_pp, bnd_nil, bnd_cons, implies_true, and_true, true_and] at hB
 unfold s48
 dsimp only
 refine W_seq_regc (fun T H => T 0 = (V.sl (List.map cI (w))) ∧ T 3 = (V.mp 3 1 0 0) ∧ H 3 = (⟨1, true, false, 3, 1, [[(iV (n))]]⟩ : Blk) ∧ True) ?_ ?_
 ·
  unfold r48_0
  refine R_box (i := 3) (n := 0) (m := 1) (cs := [(iV (n))]) rfl (congrArg Blk.ver rfl) (@rfl V (iV (n))) rfl rfl ?_
  refine R_mv (@rfl V (iV (0 : Int))) ?_
  exact R_nil ⟨rfl, rfl, rfl, trivial⟩
 intro T H ⟨t0, t3, h3, _⟩
 refine W_seq_blockg fun Q1 n1 x1 y1 z1 => ?_
 refine W_seq_regc (fun T H => T 0 = (V.sl (List.map cI (w))) ∧ T 3 = (V.mp 3 1 0 0) ∧ T 5 = (V.bool (decide (¬(1 ≤ ((n)) ∧ ((n)) ≤ 1024)))) ∧ H 3 = (⟨1, true, false, 3, 1, [[(iV (n))]]⟩ : Blk) ∧ True) ?_ ?_
 ·
  unfold r48_1
  refine R_load_mp (v := (iV (n))) t3 h3 (by first | rfl | simp [ldB, ldV, Blk.own, V.one]) ?_
  refine R_call (evcons (@rfl V (iV (n))) evnil) (permitted_pure ((n))) (fzv_mapcanon _ _ (by simp [-List.map_take, -List.map_drop, -List.map_append, -List.map_reverse])) (by simp [-List.map_take, -List.map_drop, -List.map_append, -List.map_reverse]) (Or.inl (by simp [-List.map_take, -List.map_drop, -List.map_append, -List.map_reverse])) ?_
  refine R_not (p := 1 ≤ ((n)) ∧ ((n)) ≤ 1024) (@rfl V (V.bool (decide (1 ≤ ((n)) ∧ ((n)) ≤ 1024)))) ?_
  refine R_mv (@rfl V (V.bool (decide (¬(1 ≤ ((n)) ∧ ((n)) ≤ 1024))))) ?_
  exact R_nil ⟨t0, t3, rfl, h3, trivial⟩
 intro T H ⟨t0, t3, t5, h3, _⟩
 refine W_if (p := ¬(1 ≤ ((n)) ∧ ((n)) ≤ 1024)) t5 (fun c2 => ?_) (fun c2 => ?_)
 ·
  refine W_seq_regc (fun T H => T 4 = (iV (2 : Int)) ∧ H 3 = (⟨1, true, false, 3, 1, [[(iV (n))]]⟩ : Blk) ∧ True) ?_ ?_
  ·
   unfold r48_2
   refine R_mv (@rfl V (iV (2 : Int))) ?_
   exact R_nil ⟨rfl, h3, trivial⟩
  intro T H ⟨t4, h3, _⟩
  refine W_ret ?_
  refine y1 _ _ ?_
  refine Ret_1 t4 (fz_int ?_)
  · rw [wchk, if_pos (by omega)]
 refine W_seq_regc (fun T H => T 0 = (V.sl (List.map cI (w))) ∧ T 3 = (V.mp 3 1 0 0) ∧ T 9 = (V.bool (decide ((1024 : Int) < ((w.length : Nat) : Int)))) ∧ H 3 = (⟨1, true, false, 3, 1, [[(iV (n))]]⟩ : Blk) ∧ True) ?_ ?_
 ·
  unfold r48_3
  refine R_mv t0 ?_
  refine R_len (@rfl V (V.sl (List.map cI (w)))) ?_
  refine R_gtr (x := ((w.length : Nat) : Int)) (y := (1024 : Int)) (@rfl V (iV ((w.length : Nat) : Int))) (@rfl V (iV (1024 : Int))) ?_
  refine R_mv (@rfl V (V.bool (decide ((1024 : Int) < ((w.length : Nat) : Int))))) ?_
  exact R_nil ⟨t0, t3, rfl, h3, trivial⟩
 intro T H ⟨t0, t3, t9, h3, _⟩
 refine W_if (p := (1024 : Int) < ((w.length : Nat) : Int)) t9 (fun c3 => ?_) (fun c3 => ?_)
 ·
  refine W_seq_regc (fun T H => T 4 = (iV (3 : Int)) ∧ H 3 = (⟨1, true, false, 3, 1, [[(iV (n))]]⟩ : Blk) ∧ True) ?_ ?_
  ·
   unfold r48_4
   refine R_mv (@rfl V (iV (3 : Int))) ?_
   exact R_nil ⟨rfl, h3, trivial⟩
  intro T H ⟨t4, h3, _⟩
  refine W_ret ?_
  refine y1 _ _ ?_
  refine Ret_1 t4 (fz_int ?_)
  · rw [wchk, if_neg (by omega), if_pos (by omega)]
 refine W_seq_regc (fun T H => T 13 = (V.bool (decide (0 ≤ fi (fun j => (fun a => decide (a < 0 ∨ n ≤ a)) (nth w j)) 0 w.length))) ∧ H 3 = (⟨1, true, false, 3, 1, [[(iV (n))]]⟩ : Blk) ∧ True) ?_ ?_
 ·
  unfold r48_5
  refine R_mv t0 ?_
  refine R_mkf (evcons t3 evnil) ?_
  refine R_call (evcons (@rfl V (V.sl (List.map cI (w)))) (evcons (@rfl V (V.fn 82 [] [(V.mp 3 1 0 0)])) evnil)) (coni_pure (fun a => decide (a < 0 ∨ n ≤ a)) w 82 ([(V.pp [(iV (n))])]) (by simp) (by simp) (fun k _ => check1_pure (nth w k) n)) (mcons (fzv_canon 6 _ (by simp [-List.map_take, -List.map_drop, -List.map_append, -List.map_reverse])) (mcons (by simp [fzv, Blk.own, h3]) rfl)) (by simp [-List.map_take, -List.map_drop, -List.map_append, -List.map_reverse]) (Or.inr rfl) ?_
  refine R_mv (@rfl V (V.bool (decide (0 ≤ fi (fun j => (fun a => decide (a < 0 ∨ n ≤ a)) (nth w j)) 0 w.length)))) ?_
  exact R_nil ⟨rfl, h3, trivial⟩
 intro T H ⟨t13, h3, _⟩
 refine W_if (p := 0 ≤ fi (fun j => (fun a => decide (a < 0 ∨ n ≤ a)) (nth w j)) 0 w.length) t13 (fun c4 => ?_) (fun c4 => ?_)
 ·
  refine W_seq_regc (fun T H => T 4 = (iV (1 : Int)) ∧ H 3 = (⟨1, true, false, 3, 1, [[(iV (n))]]⟩ : Blk) ∧ True) ?_ ?_
  ·
   unfold r48_6
   refine R_mv (@rfl V (iV (1 : Int))) ?_
   exact R_nil ⟨rfl, h3, trivial⟩
  intro T H ⟨t4, h3, _⟩
  refine W_ret ?_
  refine y1 _ _ ?_
  refine Ret_1 t4 (fz_int ?_)
  · have e : (0 ≤ fi (fun j => (fun a => decide (a < 0 ∨ n ≤ a)) (nth w j)) 0 w.length ↔ fe (wE w n) 0 w.length = 1) ∧ (fe (wE w n) 0 w.length = 0 ∨ fe (wE w n) 0 w.length = 1) := in_fe w n w.length 0
    rw [wchk, if_neg (by omega), if_neg (by omega)]; omega
 refine W_skip ?_
 refine n1 _ _ ?_
 refine .done ?_
 refine W_seq_regc (fun T H => T 4 = (iV (0 : Int)) ∧ H 3 = (⟨1, true, false, 3, 1, [[(iV (n))]]⟩ : Blk) ∧ True) ?_ ?_
 ·
  unfold r48_7
  refine R_mv (@rfl V (iV (0 : Int))) ?_
  exact R_nil ⟨rfl, h3, trivial⟩
 intro T H ⟨t4, h3, _⟩
 refine W_ret ?_
 refine Ret_1 t4 (fz_int ?_)
 · have e : (0 ≤ fi (fun j => (fun a => decide (a < 0 ∨ n ≤ a)) (nth w j)) 0 w.length ↔ fe (wE w n) 0 w.length = 1) ∧ (fe (wE w n) 0 w.length = 0 ∨ fe (wE w n) 0 w.length = 1) := in_fe w n w.length 0
   rw [wchk, if_neg (by omega), if_neg (by omega)]; omega
end Go.Proofs.YtmnjchcoigbngaaGreat


namespace Go.Proofs.YtmnjchcoigbngaaGreat
open Go Go.Proofs
theorem leaf_pure (x : Nd) (hs : x.sf.length ≤ 1048576) (ho : x.ou.length ≤ 1048576) (hk : x.kd.length ≤ 1048576) : PureC Tryz.prog 34 [(V.agg [(V.bool x.lf), (V.sl (List.map cI (x.ac))), (V.sl (List.map cI (x.sf))), (V.sl (List.map cL (x.ou))), (V.sl (List.map cI (x.kd)))])] (iV (lfE x)) := by
 refine pure_of_Wb true 6 Tryz.func34 s34_ok (by kernel_rfl) (by simp [s34]) (by simp) (by simp) fun hB => ?_
 simp only [bnd_map, bnd_int, bnd_bool, bnd_str, bnd_agg, bnd_pp, bnd_nil, bnd_cons, implies_true, and_true, true_and] at hB
 unfold s34
 dsimp only
 refine W_seq_regc (fun T H => T 1 = (V.mp 1 1 0 0) ∧ H 1 = (⟨1, true, false, 68, 5, [[(V.bool x.lf), (V.sl (List.map cI (x.ac))), (V.sl (List.map cI (x.sf))), (V.sl (List.map cL (x.ou))), (V.sl (List.map cI (x.kd)))]]⟩ : Blk) ∧ True) ?_ ?_
 ·
  unfold r34_0
  refine R_box (i := 1) (n := 0) (m := 5) (cs := [(V.bool x.lf), (V.sl (List.map cI (x.ac))), (V.sl (List.map cI (x.sf))), (V.sl (List.map cL (x.ou))), (V.sl (List.map cI (x.kd)))]) rfl (congrArg Blk.ver rfl) (@rfl V (V.agg [(V.bool x.lf), (V.sl (List.map cI (x.ac))), (V.sl (List.map cI (x.sf))), (V.sl (List.map cL (x.ou))), (V.sl (List.map cI (x.kd)))])) rfl rfl ?_
  refine R_mv (@rfl V (iV (0 : Int))) ?_
  exact R_nil ⟨rfl, rfl, trivial⟩
 intro T H ⟨t1, h1, _⟩
 refine W_seq_seq ?_
 refine W_seq_regc (fun T H => T 1 = (V.mp 1 1 0 0) ∧ T 14 = (V.bool (decide ((0 : Int) < ((x.sf.length + x.ou.length + x.kd.length : Nat) : Int)))) ∧ H 1 = (⟨1, true, false, 68, 5, [[(V.bool x.lf), (V.sl (List.map cI (x.ac))), (V.sl (List.map cI (x.sf))), (V.sl (List.map cL (x.ou))), (V.sl (List.map cI (x.kd)))]]⟩ : Blk) ∧ True) ?_ ?_
 ·
  unfold r34_1
  refine R_fld_mp (o' := 2) t1 h1 (by first | rfl | simp [okB, Blk.own]) rfl ?_
  refine R_load_mp (v := (V.sl (List.map cI (x.sf)))) (@rfl V (V.mp 1 1 0 2)) h1 (by first | rfl | simp [ldB, ldV, Blk.own, V.one]) ?_
  refine R_len (@rfl V (V.sl (List.map cI (x.sf)))) ?_
  refine R_fld_mp (o' := 3) t1 h1 (by first | rfl | simp [okB, Blk.own]) rfl ?_
  refine R_load_mp (v := (V.sl (List.map cL (x.ou)))) (@rfl V (V.mp 1 1 0 3)) h1 (by first | rfl | simp [ldB, ldV, Blk.own, V.one]) ?_
  refine R_len (@rfl V (V.sl (List.map cL (x.ou)))) ?_
  refine R_addN (m := x.sf.length) (n := x.ou.length) (@rfl V (iV ((x.sf.length : Nat) : Int))) (@rfl V (iV ((x.ou.length : Nat) : Int))) (by omega) ?_
  refine R_fld_mp (o' := 4) t1 h1 (by first | rfl | simp [okB, Blk.own]) rfl ?_
  refine R_load_mp (v := (V.sl (List.map cI (x.kd)))) (@rfl V (V.mp 1 1 0 4)) h1 (by first | rfl | simp [ldB, ldV, Blk.own, V.one]) ?_
  refine R_len (@rfl V (V.sl (List.map cI (x.kd)))) ?_
  refine R_addN (m := (x.sf.length + x.ou.length)) (n := x.kd.length) (@rfl V (iV ((x.sf.length + x.ou.length : Nat) : Int))) (@rfl V (iV ((x.kd.length : Nat) : Int))) (by omega) ?_
  refine R_gtr (x := ((x.sf.length + x.ou.length + x.kd.length : Nat) : Int)) (y := (0 : Int)) (@rfl V (iV ((x.sf.length + x.ou.length + x.kd.length : Nat) : Int))) (@rfl V (iV (0 : Int))) ?_
  exact R_nil ⟨t1, rfl, h1, trivial⟩
 intro T H ⟨t1, t14, h1, _⟩
 refine W_seq_if (p := (0 : Int) < ((x.sf.length + x.ou.length + x.kd.length : Nat) : Int)) t14 (fun c1 => ?_) (fun c1 => ?_)
 ·
  refine W_seq_seq ?_
  refine W_seq_regc (fun T H => T 2 = (iV (1 : Int)) ∧ H 1 = (⟨1, true, false, 68, 5, [[(V.bool x.lf), (V.sl (List.map cI (x.ac))), (V.sl (List.map cI (x.sf))), (V.sl (List.map cL (x.ou))), (V.sl (List.map cI (x.kd)))]]⟩ : Blk) ∧ True) ?_ ?_
  ·
   unfold r34_2
   refine R_mv (@rfl V (iV (1 : Int))) ?_
   exact R_nil ⟨rfl, h1, trivial⟩
  intro T H ⟨t2, h1, _⟩
  refine W_seq_ret ?_
  refine Ret_1 t2 (fz_int ?_)
  · rw [lfE, if_pos (by omega)]
 refine W_seq_skip ?_
 refine W_seq_regc (fun T H => T 2 = (iV (wchk x.ac ((64 : Int)))) ∧ H 1 = (⟨1, true, false, 68, 5, [[(V.bool x.lf), (V.sl (List.map cI (x.ac))), (V.sl (List.map cI (x.sf))), (V.sl (List.map cL (x.ou))), (V.sl (List.map cI (x.kd)))]]⟩ : Blk) ∧ True) ?_ ?_
 ·
  unfold r34_3
  refine R_fld_mp (o' := 1) t1 h1 (by first | rfl | simp [okB, Blk.own]) rfl ?_
  refine R_load_mp (v := (V.sl (List.map cI (x.ac)))) (@rfl V (V.mp 1 1 0 1)) h1 (by first | rfl | simp [ldB, ldV, Blk.own, V.one]) ?_
  refine R_call (evcons (@rfl V (V.sl (List.map cI (x.ac)))) (evcons (@rfl V (iV (64 : Int))) evnil)) (check_pure x.ac ((64 : Int))) (fzv_mapcanon _ _ (by simp [-List.map_take, -List.map_drop, -List.map_append, -List.map_reverse])) (by simp [-List.map_take, -List.map_drop, -List.map_append, -List.map_reverse]) (Or.inl (by simp [-List.map_take, -List.map_drop, -List.map_append, -List.map_reverse])) ?_
  refine R_mv (@rfl V (iV (wchk x.ac ((64 : Int))))) ?_
  exact R_nil ⟨rfl, h1, trivial⟩
 intro T H ⟨t2, h1, _⟩
 refine W_ret ?_
 refine Ret_1 t2 (fz_int ?_)
 · rw [lfE, if_neg (by omega)]
end Go.Proofs.YtmnjchcoigbngaaGreat


namespace Go.Proofs.YtmnjchcoigbngaaGreat
open Go Go.Proofs
theorem values1_pure (o : Int) : PureC Tryz.prog 89 [(iV (o))] (V.bool (decide (o < 0 ∨ 1048576 < o))) := by
 refine pure_of_Wb true 6 Tryz.func89 s89_ok (by kernel_rfl) (by simp [s89]) (by simp) (by simp) fun hB => ?_
 simp only [bnd_map, bnd_int, bnd_bool, bnd_str, bnd_agg, bnd_pp, bnd_nil, bnd_cons, implies_true, and_true, true_and] at hB
 unfold s89
 dsimp only
 refine W_seq_regc (fun T H => T 0 = (iV (o)) ∧ True) ?_ ?_
 ·
  unfold r89_0
  refine R_mv (@rfl V (V.bool false)) ?_
  exact R_nil ⟨rfl, trivial⟩
 intro T H ⟨t0, _⟩
 refine W_seq_regc (fun T H => T 2 = (V.bool (decide (((o) < (0 : Int)) ∨ ((1048576 : Int) < (o))))) ∧ True) ?_ ?_
 ·
  unfold r89_1
  refine R_mv t0 ?_
  refine R_lss (x := (o)) (y := (0 : Int)) (@rfl V (iV (o))) (@rfl V (iV (0 : Int))) ?_
  refine R_mv (@rfl V (V.bool (decide ((o) < (0 : Int))))) ?_
  refine Ops_seg 3 (fun T H => T 8 = (V.bool (decide (((o) < (0 : Int)) ∨ ((1048576 : Int) < (o))))) ∧ True) ?_ ?_
  ·
   by_cases g1 : (o) < (0 : Int)
   ·
    refine G_no (Eq.trans (@rfl V (V.bool (decide ((o) < (0 : Int))))) (bdT g1)) (by decide) ?_
    refine G_no (Eq.trans (@rfl V (V.bool (decide ((o) < (0 : Int))))) (bdT g1)) (by decide) ?_
    refine R_pickT (Eq.trans (@rfl V (V.bool (decide ((o) < (0 : Int))))) (bdT g1)) (@rfl V (V.bool true)) ?_
    exact ⟨(Eq.trans (@rfl V (V.bool true)) (dec_orT g1)), trivial⟩
   ·
    refine G_yes (Eq.trans (@rfl V (V.bool (decide ((o) < (0 : Int))))) (bdF g1)) ?_
    refine R_mv t0 ?_
    refine G_yes (Eq.trans (@rfl V (V.bool (decide ((o) < (0 : Int))))) (bdF g1)) ?_
    refine R_gtr (x := (o)) (y := (1048576 : Int)) (@rfl V (iV (o))) (@rfl V (iV (1048576 : Int))) ?_
    refine R_pickF (Eq.trans (@rfl V (V.bool (decide ((o) < (0 : Int))))) (bdF g1)) (@rfl V (V.bool (decide ((1048576 : Int) < (o))))) ?_
    exact ⟨(Eq.trans (@rfl V (V.bool (decide ((1048576 : Int) < (o))))) (dec_orF g1)), trivial⟩
  intro T H ⟨t8, _⟩
  refine R_mv t8 ?_
  exact R_nil ⟨rfl, trivial⟩
 intro T H ⟨t2, _⟩
 refine W_ret ?_
 refine Ret_1 t2 (fz_bool ?_)
 · first | rfl | exact decide_eq_decide.2 (by omega)
end Go.Proofs.YtmnjchcoigbngaaGreat


namespace Go.Proofs.YtmnjchcoigbngaaGreat
open Go Go.Proofs
theorem values_pure (outs suffix : List Int) : PureC Tryz.prog 55 [(V.sl (List.map cI (outs))), (V.sl (List.map cI (suffix)))] (iV (vlE outs suffix)) := by
 refine pure_of_Wb true 6 Tryz.func55 s55_ok (by kernel_rfl) (by simp [s55]) (by simp) (by simp) fun hB => ?_
 simp only [bnd_map, bnd_int, bnd_bool, bnd_str, bnd_agg, bnd_pp, bnd_nil, bnd_cons, implies_true, and_true, true_and] at hB
 unfold s55
 dsimp only
 refine W_seq_regc (fun T H => T 0 = (V.sl (List.map cI (outs))) ∧ T 1 = (V.sl (List.map cI (suffix))) ∧ True) ?_ ?_
 ·
  unfold r55_0
  refine R_mv (@rfl V (iV (0 : Int))) ?_
  exact R_nil ⟨rfl, rfl, trivial⟩
 intro T H ⟨t0, t1, _⟩
 refine W_seq_seq ?_
 refine W_seq_regc (fun T H => T 0 = (V.sl (List.map cI (outs))) ∧ T 9 = (V.bool (decide (((outs.length : Nat) : Int) ≠ ((suffix.length : Nat) : Int)))) ∧ True) ?_ ?_
 ·
  unfold r55_1
  refine R_mv t0 ?_
  refine R_len (@rfl V (V.sl (List.map cI (outs)))) ?_
  refine R_mv t1 ?_
  refine R_len (@rfl V (V.sl (List.map cI (suffix)))) ?_
  refine R_neq (x := ((outs.length : Nat) : Int)) (y := ((suffix.length : Nat) : Int)) (@rfl V (iV ((outs.length : Nat) : Int))) (@rfl V (iV ((suffix.length : Nat) : Int))) ?_
  exact R_nil ⟨t0, rfl, trivial⟩
 intro T H ⟨t0, t9, _⟩
 refine W_seq_if (p := ((outs.length : Nat) : Int) ≠ ((suffix.length : Nat) : Int)) t9 (fun c1 => ?_) (fun c1 => ?_)
 ·
  refine W_seq_seq ?_
  refine W_seq_regc (fun T H => T 4 = (iV (1 : Int)) ∧ True) ?_ ?_
  ·
   unfold r55_2
   refine R_mv (@rfl V (iV (1 : Int))) ?_
   exact R_nil ⟨rfl, trivial⟩
  intro T H ⟨t4, _⟩
  refine W_seq_ret ?_
  refine Ret_1 t4 (fz_int ?_)
  · rw [vlE, if_pos (by omega)]
 refine W_seq_skip ?_
 refine W_seq_seq ?_
 refine W_seq_regc (fun T H => T 11 = (V.bool (decide (0 ≤ fi (fun j => (fun a => decide (a < 0 ∨ 1048576 < a)) (nth outs j)) 0 outs.length))) ∧ True) ?_ ?_
 ·
  unfold r55_3
  refine R_mv t0 ?_
  refine R_call (evcons (@rfl V (V.sl (List.map cI (outs)))) (evcons (@rfl V (V.fn 89 [] [])) evnil)) (coni_pure (fun a => decide (a < 0 ∨ 1048576 < a)) outs 89 ([]) (by simp) (by simp) (fun k _ => values1_pure (nth outs k))) (fzv_mapcanon _ _ (by simp [-List.map_take, -List.map_drop, -List.map_append, -List.map_reverse])) (by simp [-List.map_take, -List.map_drop, -List.map_append, -List.map_reverse]) (Or.inl (by simp [-List.map_take, -List.map_drop, -List.map_append, -List.map_reverse])) ?_
  exact R_nil ⟨rfl, trivial⟩
 intro T H ⟨t11, _⟩
 refine W_seq_if (p := 0 ≤ fi (fun j => (fun a => decide (a < 0 ∨ 1048576 < a)) (nth outs j)) 0 outs.length) t11 (fun c2 => ?_) (fun c2 => ?_)
 ·
  refine W_seq_seq ?_
  refine W_seq_regc (fun T H => T 4 = (iV (2 : Int)) ∧ True) ?_ ?_
  ·
   unfold r55_4
   refine R_mv (@rfl V (iV (2 : Int))) ?_
   exact R_nil ⟨rfl, trivial⟩
  intro T H ⟨t4, _⟩
  refine W_seq_ret ?_
  refine Ret_1 t4 (fz_int ?_)
  · have e := ou_fe outs
    rw [vlE, if_neg (by omega)]; omega
 refine W_seq_skip ?_
 refine W_seq_regc (fun T H => T 4 = (iV (0 : Int)) ∧ True) ?_ ?_
 ·
  unfold r55_5
  refine R_mv (@rfl V (iV (0 : Int))) ?_
  exact R_nil ⟨rfl, trivial⟩
 intro T H ⟨t4, _⟩
 refine W_ret ?_
 refine Ret_1 t4 (fz_int ?_)
 · have e := ou_fe outs
   rw [vlE, if_neg (by omega)]; omega
end Go.Proofs.YtmnjchcoigbngaaGreat


namespace Go.Proofs.YtmnjchcoigbngaaGreat
open Go Go.Proofs
theorem isnan_pure (n : Int) : PureC Tryz.prog 118 [(iV (n))] (V.bool false) := by
 refine pure_of_Wb true 6 Tryz.func118 s118_ok (by kernel_rfl) (by simp [s118]) (by simp) (by simp) fun hB => ?_
 simp only [bnd_map, bnd_int, bnd_bool, bnd_str, bnd_agg, bnd_pp, bnd_nil, bnd_cons, implies_true, and_true, true_and] at hB
 unfold s118
 dsimp only
 refine W_seq_regc (fun T H => T 0 = (iV (n)) ∧ True) ?_ ?_
 ·
  unfold r118_0
  refine R_mv (@rfl V (V.bool false)) ?_
  exact R_nil ⟨rfl, trivial⟩
 intro T H ⟨t0, _⟩
 refine W_seq_regc (fun T H => T 2 = (V.bool (decide ((n) ≠ (n)))) ∧ True) ?_ ?_
 ·
  unfold r118_1
  refine R_mv t0 ?_
  refine R_mv t0 ?_
  refine R_neq (x := (n)) (y := (n)) (@rfl V (iV (n))) (@rfl V (iV (n))) ?_
  refine R_mv (@rfl V (V.bool (decide ((n) ≠ (n))))) ?_
  exact R_nil ⟨rfl, trivial⟩
 intro T H ⟨t2, _⟩
 refine W_ret ?_
 refine Ret_1 t2 (fz_bool ?_)
 · simp
end Go.Proofs.YtmnjchcoigbngaaGreat


namespace Go.Proofs.YtmnjchcoigbngaaGreat
open Go Go.Proofs
theorem cmpint_pure (x y : Int) : PureC Tryz.prog 107 [(iV (x)), (iV (y))] (iV (cmpI x y)) := by
 refine pure_of_Wb true 6 Tryz.func107 s107_ok (by kernel_rfl) (by simp [s107]) (by simp) (by simp) fun hB => ?_
 simp only [bnd_map, bnd_int, bnd_bool, bnd_str, bnd_agg, bnd_pp, bnd_nil, bnd_cons, implies_true, and_true, true_and] at hB
 unfold s107
 dsimp only
 refine W_seq_regc (fun T H => T 0 = (iV (x)) ∧ T 1 = (iV (y)) ∧ True) ?_ ?_
 ·
  unfold r107_0
  refine R_mv (@rfl V (iV (0 : Int))) ?_
  exact R_nil ⟨rfl, rfl, trivial⟩
 intro T H ⟨t0, t1, _⟩
 refine W_seq_regc (fun T H => T 0 = (iV (x)) ∧ T 1 = (iV (y)) ∧ T 5 = (V.bool false) ∧ True) ?_ ?_
 ·
  unfold r107_1
  refine R_mv t0 ?_
  refine R_call (evcons (@rfl V (iV (x))) evnil) (isnan_pure ((x))) (fzv_mapcanon _ _ (by simp [-List.map_take, -List.map_drop, -List.map_append, -List.map_reverse])) (by simp [-List.map_take, -List.map_drop, -List.map_append, -List.map_reverse]) (Or.inl (by simp [-List.map_take, -List.map_drop, -List.map_append, -List.map_reverse])) ?_
  refine R_mv (@rfl V (V.bool false)) ?_
  exact R_nil ⟨t0, t1, rfl, trivial⟩
 intro T H ⟨t0, t1, t5, _⟩
 refine W_seq_regc (fun T H => T 0 = (iV (x)) ∧ T 1 = (iV (y)) ∧ T 5 = (V.bool false) ∧ T 6 = (V.bool false) ∧ True) ?_ ?_
 ·
  unfold r107_2
  refine R_mv t1 ?_
  refine R_call (evcons (@rfl V (iV (y))) evnil) (isnan_pure ((y))) (fzv_mapcanon _ _ (by simp [-List.map_take, -List.map_drop, -List.map_append, -List.map_reverse])) (by simp [-List.map_take, -List.map_drop, -List.map_append, -List.map_reverse]) (Or.inl (by simp [-List.map_take, -List.map_drop, -List.map_append, -List.map_reverse])) ?_
  refine R_mv (@rfl V (V.bool false)) ?_
  exact R_nil ⟨t0, t1, t5, rfl, trivial⟩
 intro T H ⟨t0, t1, t5, t6, _⟩
 refine W_seq_seq ?_
 refine W_seq_regc (fun T H => T 0 = (iV (x)) ∧ T 1 = (iV (y)) ∧ T 6 = (V.bool false) ∧ T 11 = (V.bool false) ∧ True) ?_ ?_
 ·
  unfold r107_3
  refine R_mv t5 ?_
  exact R_nil ⟨t0, t1, t6, rfl, trivial⟩
 intro T H ⟨t0, t1, t6, t11, _⟩
 refine W_seq_ifb t11 (fun c1 => ?_) (fun c1 => ?_)
 · cases c1
 refine W_seq_skip ?_
 refine W_seq_seq ?_
 refine W_seq_regc (fun T H => T 0 = (iV (x)) ∧ T 1 = (iV (y)) ∧ T 13 = (V.bool false) ∧ True) ?_ ?_
 ·
  unfold r107_7
  refine R_mv t6 ?_
  exact R_nil ⟨t0, t1, rfl, trivial⟩
 intro T H ⟨t0, t1, t13, _⟩
 refine W_seq_ifb t13 (fun c2 => ?_) (fun c2 => ?_)
 · cases c2
 refine W_seq_skip ?_
 refine W_seq_seq ?_
 refine W_seq_regc (fun T H => T 0 = (iV (x)) ∧ T 1 = (iV (y)) ∧ T 16 = (V.bool (decide ((x) < (y)))) ∧ True) ?_ ?_
 ·
  unfold r107_9
  refine R_mv t0 ?_
  refine R_mv t1 ?_
  refine R_lss (x := (x)) (y := (y)) (@rfl V (iV (x))) (@rfl V (iV (y))) ?_
  exact R_nil ⟨t0, t1, rfl, trivial⟩
 intro T H ⟨t0, t1, t16, _⟩
 refine W_seq_if (p := (x) < (y)) t16 (fun c3 => ?_) (fun c3 => ?_)
 ·
  refine W_seq_seq ?_
  refine W_seq_regc (fun T H => T 4 = (iV (-1 : Int)) ∧ True) ?_ ?_
  ·
   unfold r107_10
   refine R_mv (@rfl V (iV (-1 : Int))) ?_
   exact R_nil ⟨rfl, trivial⟩
  intro T H ⟨t4, _⟩
  refine W_seq_ret ?_
  refine Ret_1 t4 (fz_int ?_)
  · unfold cmpI; repeat (split <;> first | rfl | omega | skip)
 refine W_seq_skip ?_
 refine W_seq_seq ?_
 refine W_seq_regc (fun T H => T 19 = (V.bool (decide ((y) < (x)))) ∧ True) ?_ ?_
 ·
  unfold r107_11
  refine R_mv t0 ?_
  refine R_mv t1 ?_
  refine R_gtr (x := (x)) (y := (y)) (@rfl V (iV (x))) (@rfl V (iV (y))) ?_
  exact R_nil ⟨rfl, trivial⟩
 intro T H ⟨t19, _⟩
 refine W_seq_if (p := (y) < (x)) t19 (fun c4 => ?_) (fun c4 => ?_)
 ·
  refine W_seq_seq ?_
  refine W_seq_regc (fun T H => T 4 = (iV (1 : Int)) ∧ True) ?_ ?_
  ·
   unfold r107_12
   refine R_mv (@rfl V (iV (1 : Int))) ?_
   exact R_nil ⟨rfl, trivial⟩
  intro T H ⟨t4, _⟩
  refine W_seq_ret ?_
  refine Ret_1 t4 (fz_int ?_)
  · unfold cmpI; repeat (split <;> first | rfl | omega | skip)
 refine W_seq_skip ?_
 refine W_seq_regc (fun T H => T 4 = (iV (0 : Int)) ∧ True) ?_ ?_
 ·
  unfold r107_13
  refine R_mv (@rfl V (iV (0 : Int))) ?_
  exact R_nil ⟨rfl, trivial⟩
 intro T H ⟨t4, _⟩
 refine W_ret ?_
 refine Ret_1 t4 (fz_int ?_)
 · unfold cmpI; repeat (split <;> first | rfl | omega | skip)
end Go.Proofs.YtmnjchcoigbngaaGreat


namespace Go.Proofs.YtmnjchcoigbngaaGreat
open Go Go.Proofs
theorem scompare_pure (a b : List Int) : PureC Tryz.prog 97 [(V.sl (List.map cI (a))), (V.sl (List.map cI (b)))] (iV (lexI a b)) := by
 refine pure_of_Wb true 6 Tryz.func97 s97_ok (by kernel_rfl) (by simp [s97]) (by simp) (by simp) fun hB => ?_
 simp only [bnd_map, bnd_int, bnd_bool, bnd_str, bnd_agg, bnd_pp, bnd_nil, bnd_cons, implies_true, and_true, true_and] at hB
 unfold s97
 dsimp only
 refine W_seq_regc (fun T H => T 0 = (V.sl (List.map cI (a))) ∧ T 1 = (V.sl (List.map cI (b))) ∧ True) ?_ ?_
 ·
  unfold r97_0
  refine R_mv (@rfl V (iV (0 : Int))) ?_
  exact R_nil ⟨rfl, rfl, trivial⟩
 intro T H ⟨t0, t1, _⟩
 refine W_seq_seq ?_
 refine W_seq_regc (fun T H => T 0 = (V.sl (List.map cI (a))) ∧ T 1 = (V.sl (List.map cI (b))) ∧ T 9 = (V.sl (List.map cI (a))) ∧ T 10 = (iV ((a.length : Nat) : Int)) ∧ T 11 = (iV (0 : Int)) ∧ True) ?_ ?_
 ·
  unfold r97_1
  refine R_mv t0 ?_
  refine R_len (@rfl V (V.sl (List.map cI (a)))) ?_
  refine R_mv (@rfl V (iV (0 : Int))) ?_
  exact R_nil ⟨t0, t1, rfl, rfl, rfl, trivial⟩
 intro T H ⟨t0, t1, t9, t10, t11, _⟩
 refine W_seq_blockg fun Q1 n1 x1 y1 z1 => ?_
 refine W_loop (fun mm T H => ∃ (k : Nat), mm = a.length - k ∧ T 0 = (V.sl (List.map cI (a))) ∧ T 1 = (V.sl (List.map cI (b))) ∧ T 9 = (V.sl (List.map cI (a))) ∧ T 10 = (iV ((a.length : Nat) : Int)) ∧ T 11 = (iV ((k : Nat) : Int)) ∧ (k ≤ a.length) ∧ (k ≤ cmn a b)) ?_ ?_
 ·
  refine ⟨_, 0, rfl, t0, t1, t9, t10, (Eq.trans t11 (by first | rfl | simp)), ?_, ?_⟩
  · omega
  · exact Nat.zero_le _
 intro mm T H ⟨k, hmm, t0, t1, t9, t10, t11, hk, hc⟩ Q2 p12 p22 p32
 unfold b97_0
 refine W_seq_regc (fun T H => T 0 = (V.sl (List.map cI (a))) ∧ T 1 = (V.sl (List.map cI (b))) ∧ T 9 = (V.sl (List.map cI (a))) ∧ T 10 = (iV ((a.length : Nat) : Int)) ∧ T 11 = (iV ((k : Nat) : Int)) ∧ T 12 = (V.bool (decide (((k : Nat) : Int) < ((a.length : Nat) : Int)))) ∧ True) ?_ ?_
 ·
  unfold r97_2
  refine R_lss (x := ((k : Nat) : Int)) (y := ((a.length : Nat) : Int)) t11 t10 ?_
  exact R_nil ⟨t0, t1, t9, t10, t11, rfl, trivial⟩
 intro T H ⟨t0, t1, t9, t10, t11, t12, _⟩
 refine W_seq_if (p := ((k : Nat) : Int) < ((a.length : Nat) : Int)) t12 (fun c3 => ?_) (fun c3 => ?_)
 ·
  refine W_seq_skip ?_
  refine W_seq_blockg fun Q4 n4 x4 y4 z4 => ?_
  refine W_seq_regc (fun T H => T 0 = (V.sl (List.map cI (a))) ∧ T 1 = (V.sl (List.map cI (b))) ∧ T 5 = (iV ((k : Nat) : Int)) ∧ T 6 = (iV ((nth (a) (k)))) ∧ T 9 = (V.sl (List.map cI (a))) ∧ T 10 = (iV ((a.length : Nat) : Int)) ∧ T 11 = (iV ((k : Nat) : Int)) ∧ True) ?_ ?_
  ·
   unfold r97_3
   refine R_mv t11 ?_
   refine R_idx (i := k) t9 t11 (by omega) rfl ?_
   refine R_load_pp (v := (iV ((nth (a) (k))))) (@rfl V (V.pp [(iV ((nth (a) (k))))])) (by first | rfl | simp [ldV]) ?_
   refine R_mv (@rfl V (iV ((k : Nat) : Int))) ?_
   refine R_mv (@rfl V (iV ((nth (a) (k))))) ?_
   exact R_nil ⟨t0, t1, rfl, rfl, t9, t10, t11, trivial⟩
  intro T H ⟨t0, t1, t5, t6, t9, t10, t11, _⟩
  refine W_seq_seq ?_
  refine W_seq_regc (fun T H => T 0 = (V.sl (List.map cI (a))) ∧ T 1 = (V.sl (List.map cI (b))) ∧ T 5 = (iV ((k : Nat) : Int)) ∧ T 6 = (iV ((nth (a) (k)))) ∧ T 9 = (V.sl (List.map cI (a))) ∧ T 10 = (iV ((a.length : Nat) : Int)) ∧ T 11 = (iV ((k : Nat) : Int)) ∧ T 19 = (V.bool (decide (((b.length : Nat) : Int) ≤ ((k : Nat) : Int)))) ∧ True) ?_ ?_
  ·
   unfold r97_4
   refine R_mv t5 ?_
   refine R_mv t1 ?_
   refine R_len (@rfl V (V.sl (List.map cI (b)))) ?_
   refine R_geq (x := ((k : Nat) : Int)) (y := ((b.length : Nat) : Int)) (@rfl V (iV ((k : Nat) : Int))) (@rfl V (iV ((b.length : Nat) : Int))) ?_
   exact R_nil ⟨t0, t1, t5, t6, t9, t10, t11, rfl, trivial⟩
  intro T H ⟨t0, t1, t5, t6, t9, t10, t11, t19, _⟩
  refine W_seq_if (p := ((b.length : Nat) : Int) ≤ ((k : Nat) : Int)) t19 (fun c5 => ?_) (fun c5 => ?_)
  ·
   refine W_seq_seq ?_
   refine W_seq_regc (fun T H => T 4 = (iV (1 : Int)) ∧ True) ?_ ?_
   ·
    unfold r97_5
    refine R_mv (@rfl V (iV (1 : Int))) ?_
    exact R_nil ⟨rfl, trivial⟩
   intro T H ⟨t4, _⟩
   refine W_seq_ret ?_
   refine y4 _ _ ?_
   refine p22 _ _ ?_
   refine y1 _ _ ?_
   refine Ret_1 t4 (fz_int ?_)
   · have g1 := cmn_l a b
     have g2 := cmn_r a b
     have g3 := cmn_at hc (by omega)
     simp only [lexI, cmpI, g3] at *; repeat (split <;> first | rfl | omega | skip)
  refine W_seq_skip ?_
  refine W_seq_regc (fun T H => T 0 = (V.sl (List.map cI (a))) ∧ T 1 = (V.sl (List.map cI (b))) ∧ T 6 = (iV ((nth (a) (k)))) ∧ T 7 = (iV ((nth (b) (k)))) ∧ T 9 = (V.sl (List.map cI (a))) ∧ T 10 = (iV ((a.length : Nat) : Int)) ∧ T 11 = (iV ((k : Nat) : Int)) ∧ True) ?_ ?_
  ·
   unfold r97_6
   refine R_mv t1 ?_
   refine R_mv t5 ?_
   refine R_idx (i := k) (@rfl V (V.sl (List.map cI (b)))) (@rfl V (iV ((k : Nat) : Int))) (by omega) rfl ?_
   refine R_load_pp (v := (iV ((nth (b) (k))))) (@rfl V (V.pp [(iV ((nth (b) (k))))])) (by first | rfl | simp [ldV]) ?_
   refine R_mv (@rfl V (iV ((nth (b) (k))))) ?_
   exact R_nil ⟨t0, t1, t6, rfl, t9, t10, t11, trivial⟩
  intro T H ⟨t0, t1, t6, t7, t9, t10, t11, _⟩
  refine W_seq_regc (fun T H => T 0 = (V.sl (List.map cI (a))) ∧ T 1 = (V.sl (List.map cI (b))) ∧ T 8 = (iV (cmpI (((nth (a) (k)))) (((nth (b) (k)))))) ∧ T 9 = (V.sl (List.map cI (a))) ∧ T 10 = (iV ((a.length : Nat) : Int)) ∧ T 11 = (iV ((k : Nat) : Int)) ∧ True) ?_ ?_
  ·
   unfold r97_7
   refine R_mv t6 ?_
   refine R_mv t7 ?_
   refine R_call (evcons (@rfl V (iV ((nth (a) (k))))) (evcons (@rfl V (iV ((nth (b) (k))))) evnil)) (cmpint_pure (((nth (a) (k)))) (((nth (b) (k))))) (fzv_mapcanon _ _ (by simp [-List.map_take, -List.map_drop, -List.map_append, -List.map_reverse])) (by simp [-List.map_take, -List.map_drop, -List.map_append, -List.map_reverse]) (Or.inl (by simp [-List.map_take, -List.map_drop, -List.map_append, -List.map_reverse])) ?_
   refine R_mv (@rfl V (iV (cmpI (((nth (a) (k)))) (((nth (b) (k))))))) ?_
   exact R_nil ⟨t0, t1, rfl, t9, t10, t11, trivial⟩
  intro T H ⟨t0, t1, t8, t9, t10, t11, _⟩
  refine W_seq_regc (fun T H => T 0 = (V.sl (List.map cI (a))) ∧ T 1 = (V.sl (List.map cI (b))) ∧ T 8 = (iV (cmpI (((nth (a) (k)))) (((nth (b) (k)))))) ∧ T 9 = (V.sl (List.map cI (a))) ∧ T 10 = (iV ((a.length : Nat) : Int)) ∧ T 11 = (iV ((k : Nat) : Int)) ∧ T 28 = (V.bool (decide ((cmpI (((nth (a) (k)))) (((nth (b) (k))))) ≠ (0 : Int)))) ∧ True) ?_ ?_
  ·
   unfold r97_8
   refine R_mv t8 ?_
   refine R_neq (x := (cmpI (((nth (a) (k)))) (((nth (b) (k)))))) (y := (0 : Int)) (@rfl V (iV (cmpI (((nth (a) (k)))) (((nth (b) (k))))))) (@rfl V (iV (0 : Int))) ?_
   exact R_nil ⟨t0, t1, t8, t9, t10, t11, rfl, trivial⟩
  intro T H ⟨t0, t1, t8, t9, t10, t11, t28, _⟩
  refine W_if (p := (cmpI (((nth (a) (k)))) (((nth (b) (k))))) ≠ (0 : Int)) t28 (fun c6 => ?_) (fun c6 => ?_)
  ·
   have c9 : nth a k ≠ nth b k := fun e => c6 (cmpI_zero.2 e)
   refine W_seq_regc (fun T H => T 4 = (iV (cmpI (((nth (a) (k)))) (((nth (b) (k)))))) ∧ True) ?_ ?_
   ·
    unfold r97_9
    refine R_mv t8 ?_
    refine R_mv (@rfl V (iV (cmpI (((nth (a) (k)))) (((nth (b) (k))))))) ?_
    exact R_nil ⟨rfl, trivial⟩
   intro T H ⟨t4, _⟩
   refine W_ret ?_
   refine y4 _ _ ?_
   refine p22 _ _ ?_
   refine y1 _ _ ?_
   refine Ret_1 t4 (fz_int ?_)
   · have g1 := cmn_l a b
     have g2 := cmn_r a b
     have g3 := cmn_at hc (by omega)
     simp only [lexI, cmpI, g3] at *; repeat (split <;> first | rfl | omega | skip)
  refine W_skip ?_
  refine n4 _ _ ?_
  refine .done ?_
  refine W_regc (fun T H => T 0 = (V.sl (List.map cI (a))) ∧ T 1 = (V.sl (List.map cI (b))) ∧ T 9 = (V.sl (List.map cI (a))) ∧ T 10 = (iV ((a.length : Nat) : Int)) ∧ T 11 = (iV ((k + 1 : Nat) : Int)) ∧ True) ?_ ?_
  ·
   unfold r97_10
   refine R_addN (m := k) (n := 1) t11 (@rfl V (iV ((1 : Nat) : Int))) (by omega) ?_
   refine R_mv (@rfl V (iV ((k + 1 : Nat) : Int))) ?_
   exact R_nil ⟨t0, t1, t9, t10, rfl, trivial⟩
  intro T H ⟨t0, t1, t9, t10, t11, _⟩
  refine p12 _ _ _ ?_ ⟨(k + 1), rfl, t0, t1, t9, t10, (Eq.trans t11 (by first | rfl | simp)), ?_, ?_⟩
  · omega
  · omega
  · exact cmn_next hc (by omega) (by omega) (cmpI_zero.1 (by omega))
 refine W_seq_exit ?_
 refine p32 _ _ _ ?_
 refine x1 _ _ ?_
 refine .done ?_
 refine W_seq_seq ?_
 refine W_seq_regc (fun T H => T 35 = (V.bool (decide (((a.length : Nat) : Int) < ((b.length : Nat) : Int)))) ∧ True) ?_ ?_
 ·
  unfold r97_11
  refine R_mv t0 ?_
  refine R_len (@rfl V (V.sl (List.map cI (a)))) ?_
  refine R_mv t1 ?_
  refine R_len (@rfl V (V.sl (List.map cI (b)))) ?_
  refine R_lss (x := ((a.length : Nat) : Int)) (y := ((b.length : Nat) : Int)) (@rfl V (iV ((a.length : Nat) : Int))) (@rfl V (iV ((b.length : Nat) : Int))) ?_
  exact R_nil ⟨rfl, trivial⟩
 intro T H ⟨t35, _⟩
 refine W_seq_if (p := ((a.length : Nat) : Int) < ((b.length : Nat) : Int)) t35 (fun c7 => ?_) (fun c7 => ?_)
 ·
  refine W_seq_seq ?_
  refine W_seq_regc (fun T H => T 4 = (iV (-1 : Int)) ∧ True) ?_ ?_
  ·
   unfold r97_12
   refine R_mv (@rfl V (iV (-1 : Int))) ?_
   exact R_nil ⟨rfl, trivial⟩
  intro T H ⟨t4, _⟩
  refine W_seq_ret ?_
  refine Ret_1 t4 (fz_int ?_)
  · have g1 := cmn_l a b
    have g2 := cmn_r a b
    have g3 := cmn_at hc (by omega)
    simp only [lexI, cmpI, g3] at *; repeat (split <;> first | rfl | omega | skip)
 refine W_seq_skip ?_
 refine W_seq_regc (fun T H => T 4 = (iV (0 : Int)) ∧ True) ?_ ?_
 ·
  unfold r97_13
  refine R_mv (@rfl V (iV (0 : Int))) ?_
  exact R_nil ⟨rfl, trivial⟩
 intro T H ⟨t4, _⟩
 refine W_ret ?_
 refine Ret_1 t4 (fz_int ?_)
 · have g1 := cmn_l a b
   have g2 := cmn_r a b
   have g3 := cmn_at hc (by omega)
   simp only [lexI, cmpI, g3] at *; repeat (split <;> first | rfl | omega | skip)
end Go.Proofs.YtmnjchcoigbngaaGreat


namespace Go.Proofs.YtmnjchcoigbngaaGreat
open Go Go.Proofs
theorem lex_pure (a b : List Int) : PureC Tryz.prog 66 [(V.sl (List.map cI (a))), (V.sl (List.map cI (b)))] (iV (lexI a b)) := by
 refine pure_of_Wb true 6 Tryz.func66 s66_ok (by kernel_rfl) (by simp [s66]) (by simp) (by simp) fun hB => ?_
 simp only [bnd_map, bnd_int, bnd_bool, bnd_str, bnd_agg, bnd_pp, bnd_nil, bnd_cons, implies_true, and_true, true_and] at hB
 unfold s66
 dsimp only
 refine W_seq_regc (fun T H => T 0 = (V.sl (List.map cI (a))) ∧ T 1 = (V.sl (List.map cI (b))) ∧ True) ?_ ?_
 ·
  unfold r66_0
  refine R_mv (@rfl V (iV (0 : Int))) ?_
  exact R_nil ⟨rfl, rfl, trivial⟩
 intro T H ⟨t0, t1, _⟩
 refine W_seq_regc (fun T H => T 4 = (iV (lexI a b)) ∧ True) ?_ ?_
 ·
  unfold r66_1
  refine R_mv t0 ?_
  refine R_mv t1 ?_
  refine R_call (evcons (@rfl V (V.sl (List.map cI (a)))) (evcons (@rfl V (V.sl (List.map cI (b)))) evnil)) (scompare_pure a b) (fzv_mapcanon _ _ (by simp [-List.map_take, -List.map_drop, -List.map_append, -List.map_reverse])) (by simp [-List.map_take, -List.map_drop, -List.map_append, -List.map_reverse]) (Or.inl (by simp [-List.map_take, -List.map_drop, -List.map_append, -List.map_reverse])) ?_
  refine R_mv (@rfl V (iV (lexI a b))) ?_
  exact R_nil ⟨rfl, trivial⟩
 intro T H ⟨t4, _⟩
 refine W_ret ?_
 refine Ret_1 t4 (fz_canon (by simp) rfl)
end Go.Proofs.YtmnjchcoigbngaaGreat


namespace Go.Proofs.YtmnjchcoigbngaaGreat
open Go Go.Proofs
theorem inner_pure (x : Nd) (n : Nat) (ho : x.ou.length ≤ 1048576) : PureC Tryz.prog 35 [(V.agg [(V.bool x.lf), (V.sl (List.map cI (x.ac))), (V.sl (List.map cI (x.sf))), (V.sl (List.map cL (x.ou))), (V.sl (List.map cI (x.kd)))]), (iV ((n : Nat) : Int))] (iV (inE2 x n)) := by
 refine pure_of_Wb true 6 Tryz.func35 s35_ok (by kernel_rfl) (by simp [s35]) (by simp) (by simp) fun hB => ?_
 simp only [bnd_map, bnd_int, bnd_bool, bnd_str, bnd_agg, bnd_pp, bnd_nil, bnd_cons, implies_true, and_true, true_and] at hB
 unfold s35
 dsimp only
 refine W_seq_regc (fun T H => T 1 = (iV ((n : Nat) : Int)) ∧ T 2 = (V.mp 2 1 0 0) ∧ H 2 = (⟨1, true, false, 68, 5, [[(V.bool x.lf), (V.sl (List.map cI (x.ac))), (V.sl (List.map cI (x.sf))), (V.sl (List.map cL (x.ou))), (V.sl (List.map cI (x.kd)))]]⟩ : Blk) ∧ True) ?_ ?_
 ·
  unfold r35_0
  refine R_box (i := 2) (n := 0) (m := 5) (cs := [(V.bool x.lf), (V.sl (List.map cI (x.ac))), (V.sl (List.map cI (x.sf))), (V.sl (List.map cL (x.ou))), (V.sl (List.map cI (x.kd)))]) rfl (congrArg Blk.ver rfl) (@rfl V (V.agg [(V.bool x.lf), (V.sl (List.map cI (x.ac))), (V.sl (List.map cI (x.sf))), (V.sl (List.map cL (x.ou))), (V.sl (List.map cI (x.kd)))])) rfl rfl ?_
  refine R_mv (@rfl V (iV (0 : Int))) ?_
  exact R_nil ⟨rfl, rfl, rfl, trivial⟩
 intro T H ⟨t1, t2, h2, _⟩
 refine W_seq_blockg fun Q1 n1 x1 y1 z1 => ?_
 refine W_seq_regc (fun T H => T 1 = (iV ((n : Nat) : Int)) ∧ T 2 = (V.mp 2 1 0 0) ∧ T 9 = (V.bool (decide ((0 : Int) < ((x.ac.length : Nat) : Int)))) ∧ H 2 = (⟨1, true, false, 68, 5, [[(V.bool x.lf), (V.sl (List.map cI (x.ac))), (V.sl (List.map cI (x.sf))), (V.sl (List.map cL (x.ou))), (V.sl (List.map cI (x.kd)))]]⟩ : Blk) ∧ True) ?_ ?_
 ·
  unfold r35_1
  refine R_fld_mp (o' := 1) t2 h2 (by first | rfl | simp [okB, Blk.own]) rfl ?_
  refine R_load_mp (v := (V.sl (List.map cI (x.ac)))) (@rfl V (V.mp 2 1 0 1)) h2 (by first | rfl | simp [ldB, ldV, Blk.own, V.one]) ?_
  refine R_len (@rfl V (V.sl (List.map cI (x.ac)))) ?_
  refine R_gtr (x := ((x.ac.length : Nat) : Int)) (y := (0 : Int)) (@rfl V (iV ((x.ac.length : Nat) : Int))) (@rfl V (iV (0 : Int))) ?_
  refine R_mv (@rfl V (V.bool (decide ((0 : Int) < ((x.ac.length : Nat) : Int))))) ?_
  exact R_nil ⟨t1, t2, rfl, h2, trivial⟩
 intro T H ⟨t1, t2, t9, h2, _⟩
 refine W_if (p := (0 : Int) < ((x.ac.length : Nat) : Int)) t9 (fun c2 => ?_) (fun c2 => ?_)
 ·
  refine W_seq_regc (fun T H => T 4 = (iV (1 : Int)) ∧ H 2 = (⟨1, true, false, 68, 5, [[(V.bool x.lf), (V.sl (List.map cI (x.ac))), (V.sl (List.map cI (x.sf))), (V.sl (List.map cL (x.ou))), (V.sl (List.map cI (x.kd)))]]⟩ : Blk) ∧ True) ?_ ?_
  ·
   unfold r35_2
   refine R_mv (@rfl V (iV (1 : Int))) ?_
   exact R_nil ⟨rfl, h2, trivial⟩
  intro T H ⟨t4, h2, _⟩
  refine W_ret ?_
  refine y1 _ _ ?_
  refine Ret_1 t4 (fz_int ?_)
  · rw [inE2, if_pos (by omega)]
 refine W_seq_regc (fun T H => T 1 = (iV ((n : Nat) : Int)) ∧ T 2 = (V.mp 2 1 0 0) ∧ T 14 = (V.bool (decide (((x.sf.length : Nat) : Int) = (0 : Int)))) ∧ H 2 = (⟨1, true, false, 68, 5, [[(V.bool x.lf), (V.sl (List.map cI (x.ac))), (V.sl (List.map cI (x.sf))), (V.sl (List.map cL (x.ou))), (V.sl (List.map cI (x.kd)))]]⟩ : Blk) ∧ True) ?_ ?_
 ·
  unfold r35_3
  refine R_fld_mp (o' := 2) t2 h2 (by first | rfl | simp [okB, Blk.own]) rfl ?_
  refine R_load_mp (v := (V.sl (List.map cI (x.sf)))) (@rfl V (V.mp 2 1 0 2)) h2 (by first | rfl | simp [ldB, ldV, Blk.own, V.one]) ?_
  refine R_len (@rfl V (V.sl (List.map cI (x.sf)))) ?_
  refine R_eql (x := ((x.sf.length : Nat) : Int)) (y := (0 : Int)) (@rfl V (iV ((x.sf.length : Nat) : Int))) (@rfl V (iV (0 : Int))) ?_
  refine R_mv (@rfl V (V.bool (decide (((x.sf.length : Nat) : Int) = (0 : Int))))) ?_
  exact R_nil ⟨t1, t2, rfl, h2, trivial⟩
 intro T H ⟨t1, t2, t14, h2, _⟩
 refine W_if (p := ((x.sf.length : Nat) : Int) = (0 : Int)) t14 (fun c3 => ?_) (fun c3 => ?_)
 ·
  refine W_seq_regc (fun T H => T 4 = (iV (19 : Int)) ∧ H 2 = (⟨1, true, false, 68, 5, [[(V.bool x.lf), (V.sl (List.map cI (x.ac))), (V.sl (List.map cI (x.sf))), (V.sl (List.map cL (x.ou))), (V.sl (List.map cI (x.kd)))]]⟩ : Blk) ∧ True) ?_ ?_
  ·
   unfold r35_4
   refine R_mv (@rfl V (iV (19 : Int))) ?_
   exact R_nil ⟨rfl, h2, trivial⟩
  intro T H ⟨t4, h2, _⟩
  refine W_ret ?_
  refine y1 _ _ ?_
  refine Ret_1 t4 (fz_int ?_)
  · rw [inE2, if_neg (by omega), if_pos (by omega)]
 refine W_skip ?_
 refine n1 _ _ ?_
 refine .done ?_
 refine W_seq_seq ?_
 refine W_seq_regc (fun T H => T 1 = (iV ((n : Nat) : Int)) ∧ T 2 = (V.mp 2 1 0 0) ∧ T 5 = (iV (wchk x.sf ((64 : Int)))) ∧ H 2 = (⟨1, true, false, 68, 5, [[(V.bool x.lf), (V.sl (List.map cI (x.ac))), (V.sl (List.map cI (x.sf))), (V.sl (List.map cL (x.ou))), (V.sl (List.map cI (x.kd)))]]⟩ : Blk) ∧ True) ?_ ?_
 ·
  unfold r35_5
  refine R_fld_mp (o' := 2) t2 h2 (by first | rfl | simp [okB, Blk.own]) rfl ?_
  refine R_load_mp (v := (V.sl (List.map cI (x.sf)))) (@rfl V (V.mp 2 1 0 2)) h2 (by first | rfl | simp [ldB, ldV, Blk.own, V.one]) ?_
  refine R_call (evcons (@rfl V (V.sl (List.map cI (x.sf)))) (evcons (@rfl V (iV (64 : Int))) evnil)) (check_pure x.sf ((64 : Int))) (fzv_mapcanon _ _ (by simp [-List.map_take, -List.map_drop, -List.map_append, -List.map_reverse])) (by simp [-List.map_take, -List.map_drop, -List.map_append, -List.map_reverse]) (Or.inl (by simp [-List.map_take, -List.map_drop, -List.map_append, -List.map_reverse])) ?_
  refine R_mv (@rfl V (iV (wchk x.sf ((64 : Int))))) ?_
  exact R_nil ⟨t1, t2, rfl, h2, trivial⟩
 intro T H ⟨t1, t2, t5, h2, _⟩
 refine W_seq_seq ?_
 refine W_seq_regc (fun T H => T 1 = (iV ((n : Nat) : Int)) ∧ T 2 = (V.mp 2 1 0 0) ∧ T 5 = (iV (wchk x.sf ((64 : Int)))) ∧ T 23 = (V.bool (decide ((wchk x.sf ((64 : Int))) ≠ (0 : Int)))) ∧ H 2 = (⟨1, true, false, 68, 5, [[(V.bool x.lf), (V.sl (List.map cI (x.ac))), (V.sl (List.map cI (x.sf))), (V.sl (List.map cL (x.ou))), (V.sl (List.map cI (x.kd)))]]⟩ : Blk) ∧ True) ?_ ?_
 ·
  unfold r35_6
  refine R_mv t5 ?_
  refine R_neq (x := (wchk x.sf ((64 : Int)))) (y := (0 : Int)) (@rfl V (iV (wchk x.sf ((64 : Int))))) (@rfl V (iV (0 : Int))) ?_
  exact R_nil ⟨t1, t2, t5, rfl, h2, trivial⟩
 intro T H ⟨t1, t2, t5, t23, h2, _⟩
 refine W_seq_if (p := (wchk x.sf ((64 : Int))) ≠ (0 : Int)) t23 (fun c4 => ?_) (fun c4 => ?_)
 ·
  refine W_seq_seq ?_
  refine W_seq_regc (fun T H => T 4 = (iV (wchk x.sf ((64 : Int)))) ∧ H 2 = (⟨1, true, false, 68, 5, [[(V.bool x.lf), (V.sl (List.map cI (x.ac))), (V.sl (List.map cI (x.sf))), (V.sl (List.map cL (x.ou))), (V.sl (List.map cI (x.kd)))]]⟩ : Blk) ∧ True) ?_ ?_
  ·
   unfold r35_7
   refine R_mv t5 ?_
   refine R_mv (@rfl V (iV (wchk x.sf ((64 : Int))))) ?_
   exact R_nil ⟨rfl, h2, trivial⟩
  intro T H ⟨t4, h2, _⟩
  refine W_seq_ret ?_
  refine Ret_1 t4 (fz_int ?_)
  · rw [inE2, if_neg (by omega), if_neg (by omega), if_pos (by omega)]
 refine W_seq_skip ?_
 refine W_seq_seq ?_
 refine W_seq_regc (fun T H => T 1 = (iV ((n : Nat) : Int)) ∧ T 2 = (V.mp 2 1 0 0) ∧ T 31 = (V.bool (decide (((x.ou.length : Nat) : Int) ≠ ((x.kd.length : Nat) : Int)))) ∧ H 2 = (⟨1, true, false, 68, 5, [[(V.bool x.lf), (V.sl (List.map cI (x.ac))), (V.sl (List.map cI (x.sf))), (V.sl (List.map cL (x.ou))), (V.sl (List.map cI (x.kd)))]]⟩ : Blk) ∧ True) ?_ ?_
 ·
  unfold r35_8
  refine R_fld_mp (o' := 3) t2 h2 (by first | rfl | simp [okB, Blk.own]) rfl ?_
  refine R_load_mp (v := (V.sl (List.map cL (x.ou)))) (@rfl V (V.mp 2 1 0 3)) h2 (by first | rfl | simp [ldB, ldV, Blk.own, V.one]) ?_
  refine R_len (@rfl V (V.sl (List.map cL (x.ou)))) ?_
  refine R_fld_mp (o' := 4) t2 h2 (by first | rfl | simp [okB, Blk.own]) rfl ?_
  refine R_load_mp (v := (V.sl (List.map cI (x.kd)))) (@rfl V (V.mp 2 1 0 4)) h2 (by first | rfl | simp [ldB, ldV, Blk.own, V.one]) ?_
  refine R_len (@rfl V (V.sl (List.map cI (x.kd)))) ?_
  refine R_neq (x := ((x.ou.length : Nat) : Int)) (y := ((x.kd.length : Nat) : Int)) (@rfl V (iV ((x.ou.length : Nat) : Int))) (@rfl V (iV ((x.kd.length : Nat) : Int))) ?_
  exact R_nil ⟨t1, t2, rfl, h2, trivial⟩
 intro T H ⟨t1, t2, t31, h2, _⟩
 refine W_seq_if (p := ((x.ou.length : Nat) : Int) ≠ ((x.kd.length : Nat) : Int)) t31 (fun c5 => ?_) (fun c5 => ?_)
 ·
  refine W_seq_seq ?_
  refine W_seq_regc (fun T H => T 4 = (iV (1 : Int)) ∧ H 2 = (⟨1, true, false, 68, 5, [[(V.bool x.lf), (V.sl (List.map cI (x.ac))), (V.sl (List.map cI (x.sf))), (V.sl (List.map cL (x.ou))), (V.sl (List.map cI (x.kd)))]]⟩ : Blk) ∧ True) ?_ ?_
  ·
   unfold r35_9
   refine R_mv (@rfl V (iV (1 : Int))) ?_
   exact R_nil ⟨rfl, h2, trivial⟩
  intro T H ⟨t4, h2, _⟩
  refine W_seq_ret ?_
  refine Ret_1 t4 (fz_int ?_)
  · rw [inE2, if_neg (by omega), if_neg (by omega), if_neg (by omega), if_pos (by omega)]
 refine W_seq_skip ?_
 refine W_seq_seq ?_
 refine W_seq_regc (fun T H => T 1 = (iV ((n : Nat) : Int)) ∧ T 2 = (V.mp 2 1 0 0) ∧ T 33 = (V.sl (List.map cL (x.ou))) ∧ T 34 = (iV ((x.ou.length : Nat) : Int)) ∧ T 35 = (iV (0 : Int)) ∧ H 2 = (⟨1, true, false, 68, 5, [[(V.bool x.lf), (V.sl (List.map cI (x.ac))), (V.sl (List.map cI (x.sf))), (V.sl (List.map cL (x.ou))), (V.sl (List.map cI (x.kd)))]]⟩ : Blk) ∧ True) ?_ ?_
 ·
  unfold r35_10
  refine R_fld_mp (o' := 3) t2 h2 (by first | rfl | simp [okB, Blk.own]) rfl ?_
  refine R_load_mp (v := (V.sl (List.map cL (x.ou)))) (@rfl V (V.mp 2 1 0 3)) h2 (by first | rfl | simp [ldB, ldV, Blk.own, V.one]) ?_
  refine R_len (@rfl V (V.sl (List.map cL (x.ou)))) ?_
  refine R_mv (@rfl V (iV (0 : Int))) ?_
  exact R_nil ⟨t1, t2, rfl, rfl, rfl, h2, trivial⟩
 intro T H ⟨t1, t2, t33, t34, t35, h2, _⟩
 refine W_seq_blockg fun Q6 n6 x6 y6 z6 => ?_
 refine W_loop (fun mm T H => ∃ (k : Nat), mm = x.ou.length - k ∧ T 1 = (iV ((n : Nat) : Int)) ∧ T 2 = (V.mp 2 1 0 0) ∧ T 33 = (V.sl (List.map cL (x.ou))) ∧ T 34 = (iV ((x.ou.length : Nat) : Int)) ∧ T 35 = (iV ((k : Nat) : Int)) ∧ H 2 = (⟨1, true, false, 68, 5, [[(V.bool x.lf), (V.sl (List.map cI (x.ac))), (V.sl (List.map cI (x.sf))), (V.sl (List.map cL (x.ou))), (V.sl (List.map cI (x.kd)))]]⟩ : Blk) ∧ (k ≤ x.ou.length) ∧ (x.ou.length = x.kd.length) ∧ (x.ac.length = 0) ∧ (x.sf.length ≠ 0) ∧ (wchk x.sf 64 = 0) ∧ (fe (chE x n) 0 x.ou.length = fe (chE x n) k (x.ou.length - k))) ?_ ?_
 ·
  refine ⟨_, 0, rfl, t1, t2, t33, t34, (Eq.trans t35 (by first | rfl | simp)), h2, ?_, ?_, ?_, ?_, ?_, ?_⟩
  · omega
  · omega
  · omega
  · omega
  · omega
  · rfl
 intro mm T H ⟨k, hmm, t1, t2, t33, t34, t35, h2, hk, hl, ga, gs, gw, hc⟩ Q7 p17 p27 p37
 unfold b35_0
 refine W_seq_regc (fun T H => T 1 = (iV ((n : Nat) : Int)) ∧ T 2 = (V.mp 2 1 0 0) ∧ T 33 = (V.sl (List.map cL (x.ou))) ∧ T 34 = (iV ((x.ou.length : Nat) : Int)) ∧ T 35 = (iV ((k : Nat) : Int)) ∧ T 36 = (V.bool (decide (((k : Nat) : Int) < ((x.ou.length : Nat) : Int)))) ∧ H 2 = (⟨1, true, false, 68, 5, [[(V.bool x.lf), (V.sl (List.map cI (x.ac))), (V.sl (List.map cI (x.sf))), (V.sl (List.map cL (x.ou))), (V.sl (List.map cI (x.kd)))]]⟩ : Blk) ∧ True) ?_ ?_
 ·
  unfold r35_11
  refine R_lss (x := ((k : Nat) : Int)) (y := ((x.ou.length : Nat) : Int)) t35 t34 ?_
  exact R_nil ⟨t1, t2, t33, t34, t35, rfl, h2, trivial⟩
 intro T H ⟨t1, t2, t33, t34, t35, t36, h2, _⟩
 refine W_seq_if (p := ((k : Nat) : Int) < ((x.ou.length : Nat) : Int)) t36 (fun c8 => ?_) (fun c8 => ?_)
 ·
  refine W_seq_skip ?_
  refine W_seq_blockg fun Q9 n9 x9 y9 z9 => ?_
  refine W_seq_regc (fun T H => T 1 = (iV ((n : Nat) : Int)) ∧ T 2 = (V.mp 2 1 0 0) ∧ T 6 = (iV ((k : Nat) : Int)) ∧ T 7 = (V.sl (List.map cI ((nth (x.ou) (k))))) ∧ T 33 = (V.sl (List.map cL (x.ou))) ∧ T 34 = (iV ((x.ou.length : Nat) : Int)) ∧ T 35 = (iV ((k : Nat) : Int)) ∧ H 2 = (⟨1, true, false, 68, 5, [[(V.bool x.lf), (V.sl (List.map cI (x.ac))), (V.sl (List.map cI (x.sf))), (V.sl (List.map cL (x.ou))), (V.sl (List.map cI (x.kd)))]]⟩ : Blk) ∧ True) ?_ ?_
  ·
   unfold r35_12
   refine R_mv t35 ?_
   refine R_idx (i := k) t33 t35 (by omega) rfl ?_
   refine R_load_pp (v := (V.sl (List.map cI ((nth (x.ou) (k)))))) (@rfl V (V.pp [(V.sl (List.map cI ((nth (x.ou) (k)))))])) (by first | rfl | simp [ldV]) ?_
   refine R_mv (@rfl V (iV ((k : Nat) : Int))) ?_
   refine R_mv (@rfl V (V.sl (List.map cI ((nth (x.ou) (k)))))) ?_
   exact R_nil ⟨t1, t2, rfl, rfl, t33, t34, t35, h2, trivial⟩
  intro T H ⟨t1, t2, t6, t7, t33, t34, t35, h2, _⟩
  refine W_seq_seq ?_
  refine W_seq_regc (fun T H => T 1 = (iV ((n : Nat) : Int)) ∧ T 2 = (V.mp 2 1 0 0) ∧ T 6 = (iV ((k : Nat) : Int)) ∧ T 7 = (V.sl (List.map cI ((nth (x.ou) (k))))) ∧ T 8 = (iV (vlE ((nth (x.ou) (k))) x.sf)) ∧ T 33 = (V.sl (List.map cL (x.ou))) ∧ T 34 = (iV ((x.ou.length : Nat) : Int)) ∧ T 35 = (iV ((k : Nat) : Int)) ∧ H 2 = (⟨1, true, false, 68, 5, [[(V.bool x.lf), (V.sl (List.map cI (x.ac))), (V.sl (List.map cI (x.sf))), (V.sl (List.map cL (x.ou))), (V.sl (List.map cI (x.kd)))]]⟩ : Blk) ∧ True) ?_ ?_
  ·
   unfold r35_13
   refine R_mv t7 ?_
   refine R_fld_mp (o' := 2) t2 h2 (by first | rfl | simp [okB, Blk.own]) rfl ?_
   refine R_load_mp (v := (V.sl (List.map cI (x.sf)))) (@rfl V (V.mp 2 1 0 2)) h2 (by first | rfl | simp [ldB, ldV, Blk.own, V.one]) ?_
   refine R_call (evcons (@rfl V (V.sl (List.map cI ((nth (x.ou) (k)))))) (evcons (@rfl V (V.sl (List.map cI (x.sf)))) evnil)) (values_pure ((nth (x.ou) (k))) x.sf) (fzv_mapcanon _ _ (by simp [-List.map_take, -List.map_drop, -List.map_append, -List.map_reverse])) (by simp [-List.map_take, -List.map_drop, -List.map_append, -List.map_reverse]) (Or.inl (by simp [-List.map_take, -List.map_drop, -List.map_append, -List.map_reverse])) ?_
   refine R_mv (@rfl V (iV (vlE ((nth (x.ou) (k))) x.sf))) ?_
   exact R_nil ⟨t1, t2, t6, t7, rfl, t33, t34, t35, h2, trivial⟩
  intro T H ⟨t1, t2, t6, t7, t8, t33, t34, t35, h2, _⟩
  refine W_seq_seq ?_
  refine W_seq_regc (fun T H => T 1 = (iV ((n : Nat) : Int)) ∧ T 2 = (V.mp 2 1 0 0) ∧ T 6 = (iV ((k : Nat) : Int)) ∧ T 7 = (V.sl (List.map cI ((nth (x.ou) (k))))) ∧ T 8 = (iV (vlE ((nth (x.ou) (k))) x.sf)) ∧ T 33 = (V.sl (List.map cL (x.ou))) ∧ T 34 = (iV ((x.ou.length : Nat) : Int)) ∧ T 35 = (iV ((k : Nat) : Int)) ∧ T 45 = (V.bool (decide ((vlE ((nth (x.ou) (k))) x.sf) ≠ (0 : Int)))) ∧ H 2 = (⟨1, true, false, 68, 5, [[(V.bool x.lf), (V.sl (List.map cI (x.ac))), (V.sl (List.map cI (x.sf))), (V.sl (List.map cL (x.ou))), (V.sl (List.map cI (x.kd)))]]⟩ : Blk) ∧ True) ?_ ?_
  ·
   unfold r35_14
   refine R_mv t8 ?_
   refine R_neq (x := (vlE ((nth (x.ou) (k))) x.sf)) (y := (0 : Int)) (@rfl V (iV (vlE ((nth (x.ou) (k))) x.sf))) (@rfl V (iV (0 : Int))) ?_
   exact R_nil ⟨t1, t2, t6, t7, t8, t33, t34, t35, rfl, h2, trivial⟩
  intro T H ⟨t1, t2, t6, t7, t8, t33, t34, t35, t45, h2, _⟩
  refine W_seq_if (p := (vlE ((nth (x.ou) (k))) x.sf) ≠ (0 : Int)) t45 (fun c10 => ?_) (fun c10 => ?_)
  ·
   refine W_seq_seq ?_
   refine W_seq_regc (fun T H => T 4 = (iV (vlE ((nth (x.ou) (k))) x.sf)) ∧ H 2 = (⟨1, true, false, 68, 5, [[(V.bool x.lf), (V.sl (List.map cI (x.ac))), (V.sl (List.map cI (x.sf))), (V.sl (List.map cL (x.ou))), (V.sl (List.map cI (x.kd)))]]⟩ : Blk) ∧ True) ?_ ?_
   ·
    unfold r35_15
    refine R_mv t8 ?_
    refine R_mv (@rfl V (iV (vlE ((nth (x.ou) (k))) x.sf))) ?_
    exact R_nil ⟨rfl, h2, trivial⟩
   intro T H ⟨t4, h2, _⟩
   refine W_seq_ret ?_
   refine y9 _ _ ?_
   refine p27 _ _ ?_
   refine y6 _ _ ?_
   refine Ret_1 t4 (fz_int ?_)
   · rw [inE2, if_neg (by omega), if_neg (by omega), if_neg (by omega), if_neg (by omega), hc, fe_hit (by rw [chE, if_pos (by omega)]; omega) (by omega), chE, if_pos (by omega)]
  refine W_seq_skip ?_
  refine W_seq_seq ?_
  refine W_seq_regc (fun T H => T 1 = (iV ((n : Nat) : Int)) ∧ T 2 = (V.mp 2 1 0 0) ∧ T 6 = (iV ((k : Nat) : Int)) ∧ T 33 = (V.sl (List.map cL (x.ou))) ∧ T 34 = (iV ((x.ou.length : Nat) : Int)) ∧ T 35 = (iV ((k : Nat) : Int)) ∧ T 59 = (V.bool (decide (((0 : Int) < ((k : Nat) : Int)) ∧ ((0 : Int) ≤ (lexI ((nth (x.ou) (((k : Nat) : Int) - (1 : Int)).toNat)) ((nth (x.ou) (k)))))))) ∧ H 2 = (⟨1, true, false, 68, 5, [[(V.bool x.lf), (V.sl (List.map cI (x.ac))), (V.sl (List.map cI (x.sf))), (V.sl (List.map cL (x.ou))), (V.sl (List.map cI (x.kd)))]]⟩ : Blk) ∧ True) ?_ ?_
  ·
   unfold r35_16
   refine R_mv t6 ?_
   refine R_gtr (x := ((k : Nat) : Int)) (y := (0 : Int)) (@rfl V (iV ((k : Nat) : Int))) (@rfl V (iV (0 : Int))) ?_
   refine R_mv (@rfl V (V.bool (decide ((0 : Int) < ((k : Nat) : Int))))) ?_
   refine Ops_seg 10 (fun T H => T 1 = (iV ((n : Nat) : Int)) ∧ T 2 = (V.mp 2 1 0 0) ∧ T 6 = (iV ((k : Nat) : Int)) ∧ T 33 = (V.sl (List.map cL (x.ou))) ∧ T 34 = (iV ((x.ou.length : Nat) : Int)) ∧ T 35 = (iV ((k : Nat) : Int)) ∧ T 59 = (V.bool (decide (((0 : Int) < ((k : Nat) : Int)) ∧ ((0 : Int) ≤ (lexI ((nth (x.ou) (((k : Nat) : Int) - (1 : Int)).toNat)) ((nth (x.ou) (k)))))))) ∧ H 2 = (⟨1, true, false, 68, 5, [[(V.bool x.lf), (V.sl (List.map cI (x.ac))), (V.sl (List.map cI (x.sf))), (V.sl (List.map cL (x.ou))), (V.sl (List.map cI (x.kd)))]]⟩ : Blk) ∧ True) ?_ ?_
   ·
    by_cases g11 : (0 : Int) < ((k : Nat) : Int)
    ·
     refine G_yes (Eq.trans (@rfl V (V.bool (decide ((0 : Int) < ((k : Nat) : Int))))) (bdT g11)) ?_
     refine R_fld_mp (o' := 3) t2 h2 (by first | rfl | simp [okB, Blk.own]) rfl ?_
     refine G_yes (Eq.trans (@rfl V (V.bool (decide ((0 : Int) < ((k : Nat) : Int))))) (bdT g11)) ?_
     refine R_load_mp (v := (V.sl (List.map cL (x.ou)))) (@rfl V (V.mp 2 1 0 3)) h2 (by first | rfl | simp [ldB, ldV, Blk.own, V.one]) ?_
     refine G_yes (Eq.trans (@rfl V (V.bool (decide ((0 : Int) < ((k : Nat) : Int))))) (bdT g11)) ?_
     refine R_mv t6 ?_
     refine G_yes (Eq.trans (@rfl V (V.bool (decide ((0 : Int) < ((k : Nat) : Int))))) (bdT g11)) ?_
     refine R_sub (x := ((k : Nat) : Int)) (y := (1 : Int)) (@rfl V (iV ((k : Nat) : Int))) (@rfl V (iV (1 : Int))) (by omega) (by omega) ?_
     refine G_yes (Eq.trans (@rfl V (V.bool (decide ((0 : Int) < ((k : Nat) : Int))))) (bdT g11)) ?_
     refine R_idxI (i := (((k : Nat) : Int) - (1 : Int))) (@rfl V (V.sl (List.map cL (x.ou)))) (@rfl V (iV (((k : Nat) : Int) - (1 : Int)))) (by omega) (by omega) rfl ?_
     refine G_yes (Eq.trans (@rfl V (V.bool (decide ((0 : Int) < ((k : Nat) : Int))))) (bdT g11)) ?_
     refine R_load_pp (v := (V.sl (List.map cI ((nth (x.ou) (((k : Nat) : Int) - (1 : Int)).toNat))))) (@rfl V (V.pp [(V.sl (List.map cI ((nth (x.ou) (((k : Nat) : Int) - (1 : Int)).toNat))))])) (by first | rfl | simp [ldV]) ?_
     refine G_yes (Eq.trans (@rfl V (V.bool (decide ((0 : Int) < ((k : Nat) : Int))))) (bdT g11)) ?_
     refine R_mv t7 ?_
     refine G_yes (Eq.trans (@rfl V (V.bool (decide ((0 : Int) < ((k : Nat) : Int))))) (bdT g11)) ?_
     refine R_call (evcons (@rfl V (V.sl (List.map cI ((nth (x.ou) (((k : Nat) : Int) - (1 : Int)).toNat))))) (evcons (@rfl V (V.sl (List.map cI ((nth (x.ou) (k)))))) evnil)) (lex_pure ((nth (x.ou) (((k : Nat) : Int) - (1 : Int)).toNat)) ((nth (x.ou) (k)))) (fzv_mapcanon _ _ (by simp [-List.map_take, -List.map_drop, -List.map_append, -List.map_reverse])) (by simp [-List.map_take, -List.map_drop, -List.map_append, -List.map_reverse]) (Or.inl (by simp [-List.map_take, -List.map_drop, -List.map_append, -List.map_reverse])) ?_
     refine G_yes (Eq.trans (@rfl V (V.bool (decide ((0 : Int) < ((k : Nat) : Int))))) (bdT g11)) ?_
     refine R_geq (x := (lexI ((nth (x.ou) (((k : Nat) : Int) - (1 : Int)).toNat)) ((nth (x.ou) (k))))) (y := (0 : Int)) (@rfl V (iV (lexI ((nth (x.ou) (((k : Nat) : Int) - (1 : Int)).toNat)) ((nth (x.ou) (k)))))) (@rfl V (iV (0 : Int))) ?_
     refine R_pickT (Eq.trans (@rfl V (V.bool (decide ((0 : Int) < ((k : Nat) : Int))))) (bdT g11)) (@rfl V (V.bool (decide ((0 : Int) ≤ (lexI ((nth (x.ou) (((k : Nat) : Int) - (1 : Int)).toNat)) ((nth (x.ou) (k)))))))) ?_
     exact ⟨t1, t2, t6, t33, t34, t35, (Eq.trans (@rfl V (V.bool (decide ((0 : Int) ≤ (lexI ((nth (x.ou) (((k : Nat) : Int) - (1 : Int)).toNat)) ((nth (x.ou) (k)))))))) (dec_andT g11)), h2, trivial⟩
    ·
     refine G_no (Eq.trans (@rfl V (V.bool (decide ((0 : Int) < ((k : Nat) : Int))))) (bdF g11)) (by decide) ?_
     refine G_no (Eq.trans (@rfl V (V.bool (decide ((0 : Int) < ((k : Nat) : Int))))) (bdF g11)) (by decide) ?_
     refine G_no (Eq.trans (@rfl V (V.bool (decide ((0 : Int) < ((k : Nat) : Int))))) (bdF g11)) (by decide) ?_
     refine G_no (Eq.trans (@rfl V (V.bool (decide ((0 : Int) < ((k : Nat) : Int))))) (bdF g11)) (by decide) ?_
     refine G_no (Eq.trans (@rfl V (V.bool (decide ((0 : Int) < ((k : Nat) : Int))))) (bdF g11)) (by decide) ?_
     refine G_no (Eq.trans (@rfl V (V.bool (decide ((0 : Int) < ((k : Nat) : Int))))) (bdF g11)) (by decide) ?_
     refine G_no (Eq.trans (@rfl V (V.bool (decide ((0 : Int) < ((k : Nat) : Int))))) (bdF g11)) (by decide) ?_
     refine G_no (Eq.trans (@rfl V (V.bool (decide ((0 : Int) < ((k : Nat) : Int))))) (bdF g11)) (by decide) ?_
     refine G_no (Eq.trans (@rfl V (V.bool (decide ((0 : Int) < ((k : Nat) : Int))))) (bdF g11)) (by decide) ?_
     refine R_pickF (Eq.trans (@rfl V (V.bool (decide ((0 : Int) < ((k : Nat) : Int))))) (bdF g11)) (@rfl V (V.bool false)) ?_
     exact ⟨t1, t2, t6, t33, t34, t35, (Eq.trans (@rfl V (V.bool false)) (dec_andF g11)), h2, trivial⟩
   intro T H ⟨t1, t2, t6, t33, t34, t35, t59, h2, _⟩
   exact R_nil ⟨t1, t2, t6, t33, t34, t35, t59, h2, trivial⟩
  intro T H ⟨t1, t2, t6, t33, t34, t35, t59, h2, _⟩
  refine W_seq_if (p := ((0 : Int) < ((k : Nat) : Int)) ∧ ((0 : Int) ≤ (lexI ((nth (x.ou) (((k : Nat) : Int) - (1 : Int)).toNat)) ((nth (x.ou) (k)))))) t59 (fun c12 => ?_) (fun c12 => ?_)
  ·
   have d2 : 0 < k ∧ 0 ≤ lexI (nth x.ou (k - 1)) (nth x.ou k) := by have q := c12; rw [show (((k : Nat) : Int) - (1 : Int)).toNat = k - 1 by omega] at q; omega
   refine W_seq_seq ?_
   refine W_seq_regc (fun T H => T 4 = (iV (10 : Int)) ∧ H 2 = (⟨1, true, false, 68, 5, [[(V.bool x.lf), (V.sl (List.map cI (x.ac))), (V.sl (List.map cI (x.sf))), (V.sl (List.map cL (x.ou))), (V.sl (List.map cI (x.kd)))]]⟩ : Blk) ∧ True) ?_ ?_
   ·
    unfold r35_17
    refine R_mv (@rfl V (iV (10 : Int))) ?_
    exact R_nil ⟨rfl, h2, trivial⟩
   intro T H ⟨t4, h2, _⟩
   refine W_seq_ret ?_
   refine y9 _ _ ?_
   refine p27 _ _ ?_
   refine y6 _ _ ?_
   refine Ret_1 t4 (fz_int ?_)
   · rw [inE2, if_neg (by omega), if_neg (by omega), if_neg (by omega), if_neg (by omega), hc, fe_hit (by rw [chE, if_neg (by omega), if_pos d2]; omega) (by omega), chE, if_neg (by omega), if_pos d2]
  have d2 : ¬(0 < k ∧ 0 ≤ lexI (nth x.ou (k - 1)) (nth x.ou k)) := by have q := c12; rw [show (((k : Nat) : Int) - (1 : Int)).toNat = k - 1 by omega] at q; omega
  refine W_seq_skip ?_
  refine W_seq_regc (fun T H => T 1 = (iV ((n : Nat) : Int)) ∧ T 2 = (V.mp 2 1 0 0) ∧ T 33 = (V.sl (List.map cL (x.ou))) ∧ T 34 = (iV ((x.ou.length : Nat) : Int)) ∧ T 35 = (iV ((k : Nat) : Int)) ∧ T 74 = (V.bool (decide ((((nth (x.kd) (k))) < (0 : Int)) ∨ (((n : Nat) : Int) ≤ ((nth (x.kd) (k))))))) ∧ H 2 = (⟨1, true, false, 68, 5, [[(V.bool x.lf), (V.sl (List.map cI (x.ac))), (V.sl (List.map cI (x.sf))), (V.sl (List.map cL (x.ou))), (V.sl (List.map cI (x.kd)))]]⟩ : Blk) ∧ True) ?_ ?_
  ·
   unfold r35_18
   refine R_fld_mp (o' := 4) t2 h2 (by first | rfl | simp [okB, Blk.own]) rfl ?_
   refine R_load_mp (v := (V.sl (List.map cI (x.kd)))) (@rfl V (V.mp 2 1 0 4)) h2 (by first | rfl | simp [ldB, ldV, Blk.own, V.one]) ?_
   refine R_mv t6 ?_
   refine R_idx (i := k) (@rfl V (V.sl (List.map cI (x.kd)))) (@rfl V (iV ((k : Nat) : Int))) (by omega) rfl ?_
   refine R_load_pp (v := (iV ((nth (x.kd) (k))))) (@rfl V (V.pp [(iV ((nth (x.kd) (k))))])) (by first | rfl | simp [ldV]) ?_
   refine R_lss (x := ((nth (x.kd) (k)))) (y := (0 : Int)) (@rfl V (iV ((nth (x.kd) (k))))) (@rfl V (iV (0 : Int))) ?_
   refine R_mv (@rfl V (V.bool (decide (((nth (x.kd) (k))) < (0 : Int))))) ?_
   refine Ops_seg 8 (fun T H => T 1 = (iV ((n : Nat) : Int)) ∧ T 2 = (V.mp 2 1 0 0) ∧ T 33 = (V.sl (List.map cL (x.ou))) ∧ T 34 = (iV ((x.ou.length : Nat) : Int)) ∧ T 35 = (iV ((k : Nat) : Int)) ∧ T 74 = (V.bool (decide ((((nth (x.kd) (k))) < (0 : Int)) ∨ (((n : Nat) : Int) ≤ ((nth (x.kd) (k))))))) ∧ H 2 = (⟨1, true, false, 68, 5, [[(V.bool x.lf), (V.sl (List.map cI (x.ac))), (V.sl (List.map cI (x.sf))), (V.sl (List.map cL (x.ou))), (V.sl (List.map cI (x.kd)))]]⟩ : Blk) ∧ True) ?_ ?_
   ·
    by_cases g13 : ((nth (x.kd) (k))) < (0 : Int)
    ·
     refine G_no (Eq.trans (@rfl V (V.bool (decide (((nth (x.kd) (k))) < (0 : Int))))) (bdT g13)) (by decide) ?_
     refine G_no (Eq.trans (@rfl V (V.bool (decide (((nth (x.kd) (k))) < (0 : Int))))) (bdT g13)) (by decide) ?_
     refine G_no (Eq.trans (@rfl V (V.bool (decide (((nth (x.kd) (k))) < (0 : Int))))) (bdT g13)) (by decide) ?_
     refine G_no (Eq.trans (@rfl V (V.bool (decide (((nth (x.kd) (k))) < (0 : Int))))) (bdT g13)) (by decide) ?_
     refine G_no (Eq.trans (@rfl V (V.bool (decide (((nth (x.kd) (k))) < (0 : Int))))) (bdT g13)) (by decide) ?_
     refine G_no (Eq.trans (@rfl V (V.bool (decide (((nth (x.kd) (k))) < (0 : Int))))) (bdT g13)) (by decide) ?_
     refine G_no (Eq.trans (@rfl V (V.bool (decide (((nth (x.kd) (k))) < (0 : Int))))) (bdT g13)) (by decide) ?_
     refine R_pickT (Eq.trans (@rfl V (V.bool (decide (((nth (x.kd) (k))) < (0 : Int))))) (bdT g13)) (@rfl V (V.bool true)) ?_
     exact ⟨t1, t2, t33, t34, t35, (Eq.trans (@rfl V (V.bool true)) (dec_orT g13)), h2, trivial⟩
    ·
     refine G_yes (Eq.trans (@rfl V (V.bool (decide (((nth (x.kd) (k))) < (0 : Int))))) (bdF g13)) ?_
     refine R_fld_mp (o' := 4) t2 h2 (by first | rfl | simp [okB, Blk.own]) rfl ?_
     refine G_yes (Eq.trans (@rfl V (V.bool (decide (((nth (x.kd) (k))) < (0 : Int))))) (bdF g13)) ?_
     refine R_load_mp (v := (V.sl (List.map cI (x.kd)))) (@rfl V (V.mp 2 1 0 4)) h2 (by first | rfl | simp [ldB, ldV, Blk.own, V.one]) ?_
     refine G_yes (Eq.trans (@rfl V (V.bool (decide (((nth (x.kd) (k))) < (0 : Int))))) (bdF g13)) ?_
     refine R_mv t6 ?_
     refine G_yes (Eq.trans (@rfl V (V.bool (decide (((nth (x.kd) (k))) < (0 : Int))))) (bdF g13)) ?_
     refine R_idx (i := k) (@rfl V (V.sl (List.map cI (x.kd)))) (@rfl V (iV ((k : Nat) : Int))) (by omega) rfl ?_
     refine G_yes (Eq.trans (@rfl V (V.bool (decide (((nth (x.kd) (k))) < (0 : Int))))) (bdF g13)) ?_
     refine R_load_pp (v := (iV ((nth (x.kd) (k))))) (@rfl V (V.pp [(iV ((nth (x.kd) (k))))])) (by first | rfl | simp [ldV]) ?_
     refine G_yes (Eq.trans (@rfl V (V.bool (decide (((nth (x.kd) (k))) < (0 : Int))))) (bdF g13)) ?_
     refine R_mv t1 ?_
     refine G_yes (Eq.trans (@rfl V (V.bool (decide (((nth (x.kd) (k))) < (0 : Int))))) (bdF g13)) ?_
     refine R_geq (x := ((nth (x.kd) (k)))) (y := ((n : Nat) : Int)) (@rfl V (iV ((nth (x.kd) (k))))) (@rfl V (iV ((n : Nat) : Int))) ?_
     refine R_pickF (Eq.trans (@rfl V (V.bool (decide (((nth (x.kd) (k))) < (0 : Int))))) (bdF g13)) (@rfl V (V.bool (decide (((n : Nat) : Int) ≤ ((nth (x.kd) (k))))))) ?_
     exact ⟨t1, t2, t33, t34, t35, (Eq.trans (@rfl V (V.bool (decide (((n : Nat) : Int) ≤ ((nth (x.kd) (k))))))) (dec_orF g13)), h2, trivial⟩
   intro T H ⟨t1, t2, t33, t34, t35, t74, h2, _⟩
   exact R_nil ⟨t1, t2, t33, t34, t35, t74, h2, trivial⟩
  intro T H ⟨t1, t2, t33, t34, t35, t74, h2, _⟩
  refine W_if (p := (((nth (x.kd) (k))) < (0 : Int)) ∨ (((n : Nat) : Int) ≤ ((nth (x.kd) (k))))) t74 (fun c14 => ?_) (fun c14 => ?_)
  ·
   refine W_seq_regc (fun T H => T 4 = (iV (2 : Int)) ∧ H 2 = (⟨1, true, false, 68, 5, [[(V.bool x.lf), (V.sl (List.map cI (x.ac))), (V.sl (List.map cI (x.sf))), (V.sl (List.map cL (x.ou))), (V.sl (List.map cI (x.kd)))]]⟩ : Blk) ∧ True) ?_ ?_
   ·
    unfold r35_19
    refine R_mv (@rfl V (iV (2 : Int))) ?_
    exact R_nil ⟨rfl, h2, trivial⟩
   intro T H ⟨t4, h2, _⟩
   refine W_ret ?_
   refine y9 _ _ ?_
   refine p27 _ _ ?_
   refine y6 _ _ ?_
   refine Ret_1 t4 (fz_int ?_)
   · rw [inE2, if_neg (by omega), if_neg (by omega), if_neg (by omega), if_neg (by omega), hc, fe_hit (by rw [chE, if_neg (by omega), if_neg d2, if_pos (by omega)]; omega) (by omega), chE, if_neg (by omega), if_neg d2, if_pos (by omega)]
  refine W_skip ?_
  refine n9 _ _ ?_
  refine .done ?_
  refine W_regc (fun T H => T 1 = (iV ((n : Nat) : Int)) ∧ T 2 = (V.mp 2 1 0 0) ∧ T 33 = (V.sl (List.map cL (x.ou))) ∧ T 34 = (iV ((x.ou.length : Nat) : Int)) ∧ T 35 = (iV ((k + 1 : Nat) : Int)) ∧ H 2 = (⟨1, true, false, 68, 5, [[(V.bool x.lf), (V.sl (List.map cI (x.ac))), (V.sl (List.map cI (x.sf))), (V.sl (List.map cL (x.ou))), (V.sl (List.map cI (x.kd)))]]⟩ : Blk) ∧ True) ?_ ?_
  ·
   unfold r35_20
   refine R_addN (m := k) (n := 1) t35 (@rfl V (iV ((1 : Nat) : Int))) (by omega) ?_
   refine R_mv (@rfl V (iV ((k + 1 : Nat) : Int))) ?_
   exact R_nil ⟨t1, t2, t33, t34, rfl, h2, trivial⟩
  intro T H ⟨t1, t2, t33, t34, t35, h2, _⟩
  refine p17 _ _ _ ?_ ⟨(k + 1), rfl, t1, t2, t33, t34, (Eq.trans t35 (by first | rfl | simp)), h2, ?_, ?_, ?_, ?_, ?_, ?_⟩
  · omega
  · omega
  · omega
  · omega
  · omega
  · omega
  · rw [hc, fe_skip (by rw [chE, if_neg (by omega), if_neg d2, if_neg (by omega)]) (by omega)]
 refine W_seq_exit ?_
 refine p37 _ _ _ ?_
 refine x6 _ _ ?_
 refine .done ?_
 refine W_seq_regc (fun T H => T 4 = (iV (0 : Int)) ∧ H 2 = (⟨1, true, false, 68, 5, [[(V.bool x.lf), (V.sl (List.map cI (x.ac))), (V.sl (List.map cI (x.sf))), (V.sl (List.map cL (x.ou))), (V.sl (List.map cI (x.kd)))]]⟩ : Blk) ∧ True) ?_ ?_
 ·
  unfold r35_21
  refine R_mv (@rfl V (iV (0 : Int))) ?_
  exact R_nil ⟨rfl, h2, trivial⟩
 intro T H ⟨t4, h2, _⟩
 refine W_ret ?_
 refine Ret_1 t4 (fz_int ?_)
 · rw [inE2, if_neg (by omega), if_neg (by omega), if_neg (by omega), if_neg (by omega), hc, fe_end (by omega)]
end Go.Proofs.YtmnjchcoigbngaaGreat


namespace Go.Proofs.YtmnjchcoigbngaaGreat
open Go Go.Proofs
attribute [local irreducible] mksV
theorem connected_pure (t : Dt) (hk : KI t) (hb : Bd t) : PureC Tryz.prog 36 [(V.agg [(V.sl (List.map cN (t.nd)))])] (V.bool (coB t)) := by
 refine pure_of_Wb true 6 Tryz.func36 s36_ok (by kernel_rfl) (by simp [s36]) (by simp) (by simp) fun hB => ?_
 simp only [bnd_map, bnd_int, bnd_bool, bnd_str, bnd_agg, bnd_pp, bnd_nil, bnd_cons, implies_true, and_true, true_and] at hB
 unfold s36
 dsimp only
 have hp := hk.pos
 have hbn := hb.n
 refine W_seq_regc (fun T H => T 1 = (V.mp 1 1 0 0) ∧ H 1 = (⟨1, true, false, 24, 1, [[(V.sl (List.map cN (t.nd)))]]⟩ : Blk) ∧ H 10 = (⟨0, false, false, 0, 0, []⟩ : Blk) ∧ H 11 = (⟨0, false, false, 0, 0, []⟩ : Blk) ∧ True) ?_ ?_
 ·
  unfold r36_0
  refine R_box (i := 1) (n := 0) (m := 1) (cs := [(V.sl (List.map cN (t.nd)))]) rfl (congrArg Blk.ver rfl) (@rfl V (V.agg [(V.sl (List.map cN (t.nd)))])) rfl rfl ?_
  refine R_mv (@rfl V (V.bool false)) ?_
  exact R_nil ⟨rfl, rfl, rfl, rfl, trivial⟩
 intro T H ⟨t1, h1, h10, h11, _⟩
 refine W_seq_regc (fun T H => T 1 = (V.mp 1 1 0 0) ∧ T 3 = (V.ms 10 1 0 (t.nd.length)) ∧ H 1 = (⟨1, true, false, 24, 1, [[(V.sl (List.map cN (t.nd)))]]⟩ : Blk) ∧ H 10 = (⟨1, true, false, 4, 1, (List.map cB (List.replicate t.nd.length false))⟩ : Blk) ∧ H 11 = (⟨0, false, false, 0, 0, []⟩ : Blk) ∧ True) ?_ ?_
 ·
  unfold r36_1
  refine R_fld_mp (o' := 0) t1 h1 (by first | rfl | simp [okB, Blk.own]) rfl ?_
  refine R_load_mp (v := (V.sl (List.map cN (t.nd)))) (@rfl V (V.mp 1 1 0 0)) h1 (by first | rfl | simp [ldB, ldV, Blk.own, V.one]) ?_
  refine R_len (@rfl V (V.sl (List.map cN (t.nd)))) ?_
  refine R_mksm (i := 10) (n := 0) (m := t.nd.length) (q := t.nd.length) (f := cB) (x := false) rfl (congrArg Blk.ver h10) (@rfl V (iV ((t.nd.length : Nat) : Int))) (@rfl V (iV ((t.nd.length : Nat) : Int))) rfl (by first | omega | (simp only [List.length_replicate]; omega)) (by first | omega | (simp only [List.length_replicate]; omega)) (by first | omega | (simp only [List.length_replicate]; omega)) ?_
  refine R_mv (@rfl V (V.ms 10 1 0 (t.nd.length))) ?_
  exact R_nil ⟨t1, rfl, h1, rfl, h11, trivial⟩
 intro T H ⟨t1, t3, h1, h10, h11, _⟩
 refine W_seq_regc (fun T H => T 1 = (V.mp 1 1 0 0) ∧ T 3 = (V.ms 10 1 0 (t.nd.length)) ∧ T 4 = (V.ms 11 1 0 (1)) ∧ H 1 = (⟨1, true, false, 24, 1, [[(V.sl (List.map cN (t.nd)))]]⟩ : Blk) ∧ H 10 = (⟨1, true, false, 4, 1, (List.map cB (List.replicate t.nd.length false))⟩ : Blk) ∧ H 11 = (⟨1, true, false, 3, 1, [[(iV (0 : Int))]]⟩ : Blk) ∧ True) ?_ ?_
 ·
  unfold r36_2
  refine R_bslice_own (i := 11) (n := 0) (qs := [(0, (iV (0 : Int)))]) (rows := [[(iV (0 : Int))]]) rfl (congrArg Blk.ver h11) (mcons (congrArg (fun v => (0, v)) (@rfl V (iV (0 : Int)))) rfl) rfl ?_
  refine R_mv (@rfl V (V.ms 11 1 0 (1))) ?_
  exact R_nil ⟨t1, t3, rfl, h1, h10, rfl, trivial⟩
 intro T H ⟨t1, t3, t4, h1, h10, h11, _⟩
 refine W_seq_seq ?_
 refine W_seq_regc (fun T H => T 1 = (V.mp 1 1 0 0) ∧ T 3 = (V.ms 10 1 0 (t.nd.length)) ∧ T 4 = (V.ms 11 1 0 (1)) ∧ T 5 = (iV (0 : Int)) ∧ H 1 = (⟨1, true, false, 24, 1, [[(V.sl (List.map cN (t.nd)))]]⟩ : Blk) ∧ H 10 = (⟨1, true, false, 4, 1, (List.map cB (List.replicate t.nd.length false))⟩ : Blk) ∧ H 11 = (⟨1, true, false, 3, 1, [[(iV (0 : Int))]]⟩ : Blk) ∧ True) ?_ ?_
 ·
  unfold r36_3
  refine R_mv (@rfl V (iV (0 : Int))) ?_
  exact R_nil ⟨t1, t3, t4, rfl, h1, h10, h11, trivial⟩
 intro T H ⟨t1, t3, t4, t5, h1, h10, h11, _⟩
 refine W_seq_blockg fun Q1 n1 x1 y1 z1 => ?_
 refine W_loop (fun mm T H => ∃ (k : Nat) (w : Nat) (P : RS), mm = t.nd.length + 1 - k ∧ T 1 = (V.mp 1 1 0 0) ∧ T 3 = (V.ms 10 1 0 (t.nd.length)) ∧ T 4 = (V.ms 11 w 0 (P.1.length)) ∧ T 5 = (iV ((k : Nat) : Int)) ∧ H 1 = (⟨1, true, false, 24, 1, [[(V.sl (List.map cN (t.nd)))]]⟩ : Blk) ∧ H 10 = (⟨1, true, false, 4, 1, (List.map cB (P.2))⟩ : Blk) ∧ H 11 = (⟨w, true, false, 3, 1, (List.map cI (P.1))⟩ : Blk) ∧ (k ≤ P.1.length) ∧ (CI t P) ∧ (coN t (t.nd.length + 1) 0 (co0 t) = coN t (t.nd.length + 1 - k) k P)) ?_ ?_
 ·
  refine ⟨_, 0, 1, (co0 t), rfl, t1, t3, (Eq.trans t4 (by first | rfl | (rw [show (cS t P k).1.length = (qS t P.1 k).length from rfl, r3]; done) | simp)), (Eq.trans t5 (by first | rfl | (rw [show (cS t P k).1.length = (qS t P.1 k).length from rfl, r3]; done) | simp)), h1, (Eq.trans h10 (by first | rfl)), (Eq.trans h11 (by first | rfl)), ?_, ?_, ?_⟩
  · exact Nat.zero_le _
  · exact ci0 hk
  · rfl
 intro mm T H ⟨k, w, P, hmm, t1, t3, t4, t5, h1, h10, h11, hk2, hi, hc⟩ Q2 p12 p22 p32
 unfold b36_0
 have hi1 := hi.l1
 have hi2 := hi.l2
 refine W_seq_seq ?_
 refine W_seq_regc (fun T H => T 1 = (V.mp 1 1 0 0) ∧ T 3 = (V.ms 10 1 0 (t.nd.length)) ∧ T 4 = (V.ms 11 w 0 (P.1.length)) ∧ T 5 = (iV ((k : Nat) : Int)) ∧ T 15 = (V.bool (decide (((k : Nat) : Int) < ((P.1.length : Nat) : Int)))) ∧ H 1 = (⟨1, true, false, 24, 1, [[(V.sl (List.map cN (t.nd)))]]⟩ : Blk) ∧ H 10 = (⟨1, true, false, 4, 1, (List.map cB (P.2))⟩ : Blk) ∧ H 11 = (⟨w, true, false, 3, 1, (List.map cI (P.1))⟩ : Blk) ∧ True) ?_ ?_
 ·
  unfold r36_4
  refine R_mv t5 ?_
  refine R_mv t4 ?_
  refine R_len_ms (@rfl V (V.ms 11 w 0 (P.1.length))) h11 (by first | rfl | simp) ?_
  refine R_lss (x := ((k : Nat) : Int)) (y := ((P.1.length : Nat) : Int)) (@rfl V (iV ((k : Nat) : Int))) (@rfl V (iV ((P.1.length : Nat) : Int))) ?_
  exact R_nil ⟨t1, t3, t4, t5, rfl, h1, h10, h11, trivial⟩
 intro T H ⟨t1, t3, t4, t5, t15, h1, h10, h11, _⟩
 refine W_seq_if (p := ((k : Nat) : Int) < ((P.1.length : Nat) : Int)) t15 (fun c3 => ?_) (fun c3 => ?_)
 ·
  have r1 := hi.rg _ (nth_mem (show k < P.1.length by omega))
  have r2 := hb.kd _ (show (nth P.1 k).toNat < t.nd.length by omega)
  have r3 : (qS t P.1 k).length = P.1.length + (nth t.nd (nth P.1 k).toNat).kd.length := by unfold qS; rw [List.length_append]
  refine W_seq_skip ?_
  refine W_seq_blockg fun Q4 n4 x4 y4 z4 => ?_
  refine W_seq_regc (fun T H => T 1 = (V.mp 1 1 0 0) ∧ T 3 = (V.ms 10 1 0 (t.nd.length)) ∧ T 4 = (V.ms 11 w 0 (P.1.length)) ∧ T 5 = (iV ((k : Nat) : Int)) ∧ T 6 = (iV ((nth (P.1) (k)))) ∧ H 1 = (⟨1, true, false, 24, 1, [[(V.sl (List.map cN (t.nd)))]]⟩ : Blk) ∧ H 10 = (⟨1, true, false, 4, 1, (List.map cB (P.2))⟩ : Blk) ∧ H 11 = (⟨w, true, false, 3, 1, (List.map cI (P.1))⟩ : Blk) ∧ True) ?_ ?_
  ·
   unfold r36_6
   refine R_mv t4 ?_
   refine R_mv t5 ?_
   refine R_idx_ms0 (i := k) (@rfl V (V.ms 11 w 0 (P.1.length))) (@rfl V (iV ((k : Nat) : Int))) h11 (okB_map (by first | omega | (simp only [List.length_replicate]; omega))) rfl (by first | omega | (simp only [List.length_replicate]; omega)) ?_
   refine R_load_mp (v := (iV ((nth (P.1) (k))))) (@rfl V (V.mp 11 w k 0)) h11 (ldB_map (by first | omega | (simp only [List.length_replicate]; omega)) (by first | rfl | simp [ldV, V.one])) ?_
   refine R_mv (@rfl V (iV ((nth (P.1) (k))))) ?_
   exact R_nil ⟨t1, t3, t4, t5, rfl, h1, h10, h11, trivial⟩
  intro T H ⟨t1, t3, t4, t5, t6, h1, h10, h11, _⟩
  refine W_seq_seq ?_
  refine W_seq_regc (fun T H => T 1 = (V.mp 1 1 0 0) ∧ T 3 = (V.ms 10 1 0 (t.nd.length)) ∧ T 4 = (V.ms 11 w 0 (P.1.length)) ∧ T 5 = (iV ((k : Nat) : Int)) ∧ T 6 = (iV ((nth (P.1) (k)))) ∧ T 25 = (V.bool ((nth (P.2) ((((nth (P.1) (k)))).toNat)))) ∧ H 1 = (⟨1, true, false, 24, 1, [[(V.sl (List.map cN (t.nd)))]]⟩ : Blk) ∧ H 10 = (⟨1, true, false, 4, 1, (List.map cB (P.2))⟩ : Blk) ∧ H 11 = (⟨w, true, false, 3, 1, (List.map cI (P.1))⟩ : Blk) ∧ True) ?_ ?_
  ·
   unfold r36_7
   refine R_mv t3 ?_
   refine R_mv t6 ?_
   refine R_idxI_ms0 (i := ((nth (P.1) (k)))) (@rfl V (V.ms 10 1 0 (t.nd.length))) (@rfl V (iV ((nth (P.1) (k))))) h10 (okB_map (by first | omega | (simp only [List.length_replicate]; omega))) rfl (by first | omega | (simp only [List.length_replicate]; omega)) (by first | omega | (simp only [List.length_replicate]; omega)) ?_
   refine R_load_mp (v := (V.bool ((nth (P.2) ((((nth (P.1) (k)))).toNat))))) (@rfl V (V.mp 10 1 ((((nth (P.1) (k)))).toNat) 0)) h10 (ldB_map (by first | omega | (simp only [List.length_replicate]; omega)) (by first | rfl | simp [ldV, V.one])) ?_
   exact R_nil ⟨t1, t3, t4, t5, t6, rfl, h1, h10, h11, trivial⟩
  intro T H ⟨t1, t3, t4, t5, t6, t25, h1, h10, h11, _⟩
  refine W_seq_ifb t25 (fun c5 => ?_) (fun c5 => ?_)
  ·
   have d2 : nth P.2 (nth P.1 k).toNat = true := c5
   refine W_seq_seq ?_
   refine W_seq_regc (fun T H => T 2 = (V.bool false) ∧ H 1 = (⟨1, true, false, 24, 1, [[(V.sl (List.map cN (t.nd)))]]⟩ : Blk) ∧ H 10 = (⟨1, true, false, 4, 1, (List.map cB (P.2))⟩ : Blk) ∧ H 11 = (⟨w, true, false, 3, 1, (List.map cI (P.1))⟩ : Blk) ∧ True) ?_ ?_
   ·
    unfold r36_8
    refine R_mv (@rfl V (V.bool false)) ?_
    exact R_nil ⟨rfl, h1, h10, h11, trivial⟩
   intro T H ⟨t2, h1, h10, h11, _⟩
   refine W_seq_ret ?_
   refine y4 _ _ ?_
   refine p22 _ _ ?_
   refine y1 _ _ ?_
   refine Ret_1 t2 (fz_bool ?_)
   · rw [coB_none (by rw [hc]; exact co_yes (by omega) (by omega) d2)]
  have d2 : nth P.2 (nth P.1 k).toNat = false := by simpa using c5
  refine W_seq_skip ?_
  refine W_seq_regc (fun T H => T 1 = (V.mp 1 1 0 0) ∧ T 3 = (V.ms 10 1 0 (t.nd.length)) ∧ T 4 = (V.ms 11 w 0 (P.1.length)) ∧ T 5 = (iV ((k : Nat) : Int)) ∧ T 6 = (iV ((nth (P.1) (k)))) ∧ H 1 = (⟨1, true, false, 24, 1, [[(V.sl (List.map cN (t.nd)))]]⟩ : Blk) ∧ H 10 = (⟨1, true, false, 4, 1, (List.map cB ((P.2).set ((((nth (P.1) (k)))).toNat) true))⟩ : Blk) ∧ H 11 = (⟨w, true, false, 3, 1, (List.map cI (P.1))⟩ : Blk) ∧ True) ?_ ?_
  ·
   unfold r36_9
   refine R_mv t3 ?_
   refine R_mv t6 ?_
   refine R_idxI_ms0 (i := ((nth (P.1) (k)))) (@rfl V (V.ms 10 1 0 (t.nd.length))) (@rfl V (iV ((nth (P.1) (k))))) h10 (okB_map (by first | omega | (simp only [List.length_replicate]; omega))) rfl (by first | omega | (simp only [List.length_replicate]; omega)) (by first | omega | (simp only [List.length_replicate]; omega)) ?_
   refine R_store (vs := [(V.bool true)]) (B' := (⟨1, true, false, 4, 1, (List.map cB ((P.2).set ((((nth (P.1) (k)))).toNat) true))⟩ : Blk)) (@rfl V (V.mp 10 1 ((((nth (P.1) (k)))).toNat) 0)) (@rfl V (V.bool true)) rfl h10 (stB_map (x := true) (i := ((((nth (P.1) (k)))).toNat)) (by first | omega | (simp only [List.length_replicate]; omega)) rfl rfl rfl rfl) ?_
   exact R_nil ⟨t1, t3, t4, t5, t6, h1, rfl, h11, trivial⟩
  intro T H ⟨t1, t3, t4, t5, t6, h1, h10, h11, _⟩
  refine W_seq_regc (fun T H => T 1 = (V.mp 1 1 0 0) ∧ T 3 = (V.ms 10 1 0 (t.nd.length)) ∧ T 4 = (V.ms 11 (w + 1) 0 (P.1.length + (((nth (t.nd) ((nth (P.1) (k))).toNat)).kd).length)) ∧ T 5 = (iV ((k : Nat) : Int)) ∧ H 1 = (⟨1, true, false, 24, 1, [[(V.sl (List.map cN (t.nd)))]]⟩ : Blk) ∧ H 10 = (⟨1, true, false, 4, 1, (List.map cB ((P.2).set ((((nth (P.1) (k)))).toNat) true))⟩ : Blk) ∧ H 11 = (⟨w + 1, true, false, 3, 1, (List.map cI (P.1 ++ (((nth (t.nd) ((nth (P.1) (k))).toNat)).kd)))⟩ : Blk) ∧ True) ?_ ?_
  ·
   unfold r36_10
   refine R_mv t4 ?_
   refine R_fld_mp (o' := 0) t1 h1 (by first | rfl | simp [okB, Blk.own]) rfl ?_
   refine R_load_mp (v := (V.sl (List.map cN (t.nd)))) (@rfl V (V.mp 1 1 0 0)) h1 (by first | rfl | simp [ldB, ldV, Blk.own, V.one]) ?_
   refine R_mv t6 ?_
   refine R_idxI (i := ((nth (P.1) (k)))) (@rfl V (V.sl (List.map cN (t.nd)))) (@rfl V (iV ((nth (P.1) (k))))) (by first | omega | (simp only [List.length_replicate]; omega)) (by first | omega | (simp only [List.length_replicate]; omega)) rfl ?_
   refine R_fld_pp (cs' := [(V.sl (List.map cI (((nth (t.nd) ((nth (P.1) (k))).toNat)).kd)))]) (@rfl V (V.pp [(V.bool (((nth (t.nd) ((nth (P.1) (k))).toNat)).lf)), (V.sl (List.map cI (((nth (t.nd) ((nth (P.1) (k))).toNat)).ac))), (V.sl (List.map cI (((nth (t.nd) ((nth (P.1) (k))).toNat)).sf))), (V.sl (List.map cL (((nth (t.nd) ((nth (P.1) (k))).toNat)).ou))), (V.sl (List.map cI (((nth (t.nd) ((nth (P.1) (k))).toNat)).kd)))])) rfl ?_
   refine R_load_pp (v := (V.sl (List.map cI (((nth (t.nd) ((nth (P.1) (k))).toNat)).kd)))) (@rfl V (V.pp [(V.sl (List.map cI (((nth (t.nd) ((nth (P.1) (k))).toNat)).kd)))])) (by first | rfl | simp [ldV]) ?_
   refine R_appendS (l := P.1) (m := (((nth (t.nd) ((nth (P.1) (k))).toNat)).kd)) (f := cI) (@rfl V (V.ms 11 w 0 (P.1.length))) h11 (by first | rfl | simp | omega) (@rfl V (V.sl (List.map cI (((nth (t.nd) ((nth (P.1) (k))).toNat)).kd)))) (fun _ => rfl) (fun _ => rfl) (by first | omega | (simp only [List.length_replicate]; omega)) (by first | omega | (simp only [List.length_replicate]; omega)) ?_
   refine R_mv (@rfl V (V.ms 11 (w + 1) 0 (P.1.length + (((nth (t.nd) ((nth (P.1) (k))).toNat)).kd).length))) ?_
   exact R_nil ⟨t1, t3, rfl, t5, h1, h10, rfl, trivial⟩
  intro T H ⟨t1, t3, t4, t5, h1, h10, h11, _⟩
  refine W_seq_regc (fun T H => T 1 = (V.mp 1 1 0 0) ∧ T 3 = (V.ms 10 1 0 (t.nd.length)) ∧ T 4 = (V.ms 11 (w + 1) 0 (P.1.length + (((nth (t.nd) ((nth (P.1) (k))).toNat)).kd).length)) ∧ T 5 = (iV ((k : Nat) : Int)) ∧ T 42 = (V.bool (decide (((t.nd.length : Nat) : Int) < ((P.1.length + (((nth (t.nd) ((nth (P.1) (k))).toNat)).kd).length : Nat) : Int)))) ∧ H 1 = (⟨1, true, false, 24, 1, [[(V.sl (List.map cN (t.nd)))]]⟩ : Blk) ∧ H 10 = (⟨1, true, false, 4, 1, (List.map cB ((P.2).set ((((nth (P.1) (k)))).toNat) true))⟩ : Blk) ∧ H 11 = (⟨w + 1, true, false, 3, 1, (List.map cI (P.1 ++ (((nth (t.nd) ((nth (P.1) (k))).toNat)).kd)))⟩ : Blk) ∧ True) ?_ ?_
  ·
   unfold r36_11
   refine R_mv t4 ?_
   refine R_len_ms (@rfl V (V.ms 11 (w + 1) 0 (P.1.length + (((nth (t.nd) ((nth (P.1) (k))).toNat)).kd).length))) h11 (by first | rfl | simp) ?_
   refine R_fld_mp (o' := 0) t1 h1 (by first | rfl | simp [okB, Blk.own]) rfl ?_
   refine R_load_mp (v := (V.sl (List.map cN (t.nd)))) (@rfl V (V.mp 1 1 0 0)) h1 (by first | rfl | simp [ldB, ldV, Blk.own, V.one]) ?_
   refine R_len (@rfl V (V.sl (List.map cN (t.nd)))) ?_
   refine R_gtr (x := ((P.1.length + (((nth (t.nd) ((nth (P.1) (k))).toNat)).kd).length : Nat) : Int)) (y := ((t.nd.length : Nat) : Int)) (@rfl V (iV ((P.1.length + (((nth (t.nd) ((nth (P.1) (k))).toNat)).kd).length : Nat) : Int))) (@rfl V (iV ((t.nd.length : Nat) : Int))) ?_
   exact R_nil ⟨t1, t3, t4, t5, rfl, h1, h10, h11, trivial⟩
  intro T H ⟨t1, t3, t4, t5, t42, h1, h10, h11, _⟩
  refine W_if (p := ((t.nd.length : Nat) : Int) < ((P.1.length + (((nth (t.nd) ((nth (P.1) (k))).toNat)).kd).length : Nat) : Int)) t42 (fun c6 => ?_) (fun c6 => ?_)
  ·
   have d3 := c6
   refine W_seq_regc (fun T H => T 2 = (V.bool false) ∧ H 1 = (⟨1, true, false, 24, 1, [[(V.sl (List.map cN (t.nd)))]]⟩ : Blk) ∧ H 10 = (⟨1, true, false, 4, 1, (List.map cB ((P.2).set ((((nth (P.1) (k)))).toNat) true))⟩ : Blk) ∧ H 11 = (⟨w + 1, true, false, 3, 1, (List.map cI (P.1 ++ (((nth (t.nd) ((nth (P.1) (k))).toNat)).kd)))⟩ : Blk) ∧ True) ?_ ?_
   ·
    unfold r36_12
    refine R_mv (@rfl V (V.bool false)) ?_
    exact R_nil ⟨rfl, h1, h10, h11, trivial⟩
   intro T H ⟨t2, h1, h10, h11, _⟩
   refine W_ret ?_
   refine y4 _ _ ?_
   refine p22 _ _ ?_
   refine y1 _ _ ?_
   refine Ret_1 t2 (fz_bool ?_)
   · rw [coB_none (by rw [hc]; exact co_big (by omega) (by omega) d2 (by omega))]
  have d3 := c6
  refine W_skip ?_
  refine n4 _ _ ?_
  refine .done ?_
  refine W_regc (fun T H => T 1 = (V.mp 1 1 0 0) ∧ T 3 = (V.ms 10 1 0 (t.nd.length)) ∧ T 4 = (V.ms 11 (w + 1) 0 (P.1.length + (((nth (t.nd) ((nth (P.1) (k))).toNat)).kd).length)) ∧ T 5 = (iV ((k + 1 : Nat) : Int)) ∧ H 1 = (⟨1, true, false, 24, 1, [[(V.sl (List.map cN (t.nd)))]]⟩ : Blk) ∧ H 10 = (⟨1, true, false, 4, 1, (List.map cB ((P.2).set ((((nth (P.1) (k)))).toNat) true))⟩ : Blk) ∧ H 11 = (⟨w + 1, true, false, 3, 1, (List.map cI (P.1 ++ (((nth (t.nd) ((nth (P.1) (k))).toNat)).kd)))⟩ : Blk) ∧ True) ?_ ?_
  ·
   unfold r36_5
   refine R_mv t5 ?_
   refine R_addN (m := k) (n := 1) (@rfl V (iV ((k : Nat) : Int))) (@rfl V (iV ((1 : Nat) : Int))) (by first | omega | (simp only [List.length_replicate]; omega)) ?_
   refine R_mv (@rfl V (iV ((k + 1 : Nat) : Int))) ?_
   exact R_nil ⟨t1, t3, t4, rfl, h1, h10, h11, trivial⟩
  intro T H ⟨t1, t3, t4, t5, h1, h10, h11, _⟩
  refine p12 _ _ _ ?_ ⟨(k + 1), (w + 1), (cS t P k), rfl, t1, t3, (Eq.trans t4 (by first | rfl | (rw [show (cS t P k).1.length = (qS t P.1 k).length from rfl, r3]; done) | simp)), (Eq.trans t5 (by first | rfl | (rw [show (cS t P k).1.length = (qS t P.1 k).length from rfl, r3]; done) | simp)), h1, (Eq.trans h10 (by first | rfl)), (Eq.trans h11 (by first | rfl)), ?_, ?_, ?_⟩
  · omega
  · show k + 1 ≤ (P.1 ++ _).length; rw [List.length_append]; omega
  · exact hi.step hk (by omega) (by omega)
  · rw [hc, co_go (by omega) (by omega) d2 (by omega)]
 refine W_seq_exit ?_
 refine p32 _ _ _ ?_
 refine x1 _ _ ?_
 refine .done ?_
 refine W_seq_regc (fun T H => T 2 = (V.bool (decide (((P.1.length : Nat) : Int) = ((t.nd.length : Nat) : Int)))) ∧ H 1 = (⟨1, true, false, 24, 1, [[(V.sl (List.map cN (t.nd)))]]⟩ : Blk) ∧ H 10 = (⟨1, true, false, 4, 1, (List.map cB (P.2))⟩ : Blk) ∧ H 11 = (⟨w, true, false, 3, 1, (List.map cI (P.1))⟩ : Blk) ∧ True) ?_ ?_
 ·
  unfold r36_13
  refine R_mv t4 ?_
  refine R_len_ms (@rfl V (V.ms 11 w 0 (P.1.length))) h11 (by first | rfl | simp) ?_
  refine R_fld_mp (o' := 0) t1 h1 (by first | rfl | simp [okB, Blk.own]) rfl ?_
  refine R_load_mp (v := (V.sl (List.map cN (t.nd)))) (@rfl V (V.mp 1 1 0 0)) h1 (by first | rfl | simp [ldB, ldV, Blk.own, V.one]) ?_
  refine R_len (@rfl V (V.sl (List.map cN (t.nd)))) ?_
  refine R_eql (x := ((P.1.length : Nat) : Int)) (y := ((t.nd.length : Nat) : Int)) (@rfl V (iV ((P.1.length : Nat) : Int))) (@rfl V (iV ((t.nd.length : Nat) : Int))) ?_
  refine R_mv (@rfl V (V.bool (decide (((P.1.length : Nat) : Int) = ((t.nd.length : Nat) : Int))))) ?_
  exact R_nil ⟨rfl, h1, h10, h11, trivial⟩
 intro T H ⟨t2, h1, h10, h11, _⟩
 refine W_ret ?_
 refine Ret_1 t2 (fz_bool ?_)
 · rw [coB_some (by rw [hc]; exact co_end (by omega) (by omega))]; exact decide_eq_decide.2 (by omega)
end Go.Proofs.YtmnjchcoigbngaaGreat


namespace Go.Proofs.YtmnjchcoigbngaaGreat
open Go Go.Proofs
theorem concat_pure (l : List (List Int)) (hs : (cat l).length ≤ 4294967296) : PureC Tryz.prog 83 [(V.sl (List.map cL (l)))] (V.sl (List.map cI (cat l))) := by
 refine pure_of_Wb true 6 Tryz.func83 s83_ok (by kernel_rfl) (by simp [s83]) (by simp) (by simp) fun hB => ?_
 simp only [bnd_map, bnd_int, bnd_bool, bnd_str, bnd_agg, bnd_pp, bnd_nil, bnd_cons, implies_true, and_true, true_and] at hB
 unfold s83
 dsimp only
 refine W_seq_regc (fun T H => T 0 = (V.sl (List.map cL (l))) ∧ H 900 = (⟨0, false, false, 0, 0, []⟩ : Blk) ∧ True) ?_ ?_
 ·
  unfold r83_0
  refine R_mv (@rfl V V.nilsl) ?_
  exact R_nil ⟨rfl, rfl, trivial⟩
 intro T H ⟨t0, h900, _⟩
 refine W_seq_regc (fun T H => T 0 = (V.sl (List.map cL (l))) ∧ T 3 = (iV (0 : Int)) ∧ H 900 = (⟨0, false, false, 0, 0, []⟩ : Blk) ∧ True) ?_ ?_
 ·
  unfold r83_1
  refine R_mv (@rfl V (iV (0 : Int))) ?_
  exact R_nil ⟨t0, rfl, h900, trivial⟩
 intro T H ⟨t0, t3, h900, _⟩
 refine W_seq_seq ?_
 refine W_seq_regc (fun T H => T 0 = (V.sl (List.map cL (l))) ∧ T 3 = (iV (0 : Int)) ∧ T 9 = (V.sl (List.map cL (l))) ∧ T 10 = (iV ((l.length : Nat) : Int)) ∧ T 11 = (iV (0 : Int)) ∧ H 900 = (⟨0, false, false, 0, 0, []⟩ : Blk) ∧ True) ?_ ?_
 ·
  unfold r83_2
  refine R_mv t0 ?_
  refine R_len (@rfl V (V.sl (List.map cL (l)))) ?_
  refine R_mv (@rfl V (iV (0 : Int))) ?_
  exact R_nil ⟨t0, t3, rfl, rfl, rfl, h900, trivial⟩
 intro T H ⟨t0, t3, t9, t10, t11, h900, _⟩
 refine W_seq_blockg fun Q1 n1 x1 y1 z1 => ?_
 refine W_loop (fun mm T H => ∃ (k : Nat), mm = l.length - k ∧ T 0 = (V.sl (List.map cL (l))) ∧ T 3 = (iV (((cat (l.take k)).length : Nat) : Int)) ∧ T 9 = (V.sl (List.map cL (l))) ∧ T 10 = (iV ((l.length : Nat) : Int)) ∧ T 11 = (iV ((k : Nat) : Int)) ∧ H 900 = (⟨0, false, false, 0, 0, []⟩ : Blk) ∧ (k ≤ l.length)) ?_ ?_
 ·
  refine ⟨_, 0, rfl, t0, (Eq.trans t3 (by first | rfl | (rw [cat_take (by omega), List.length_append]; done) | (rw [cat_take (by omega), List.length_append]; rfl) | simp)), t9, t10, (Eq.trans t11 (by first | rfl | (rw [cat_take (by omega), List.length_append]; done) | (rw [cat_take (by omega), List.length_append]; rfl) | simp)), h900, ?_⟩
  · omega
 intro mm T H ⟨k, hmm, t0, t3, t9, t10, t11, h900, hk⟩ Q2 p12 p22 p32
 unfold b83_0
 refine W_seq_regc (fun T H => T 0 = (V.sl (List.map cL (l))) ∧ T 3 = (iV (((cat (l.take k)).length : Nat) : Int)) ∧ T 9 = (V.sl (List.map cL (l))) ∧ T 10 = (iV ((l.length : Nat) : Int)) ∧ T 11 = (iV ((k : Nat) : Int)) ∧ T 12 = (V.bool (decide (((k : Nat) : Int) < ((l.length : Nat) : Int)))) ∧ H 900 = (⟨0, false, false, 0, 0, []⟩ : Blk) ∧ True) ?_ ?_
 ·
  unfold r83_3
  refine R_lss (x := ((k : Nat) : Int)) (y := ((l.length : Nat) : Int)) t11 t10 ?_
  exact R_nil ⟨t0, t3, t9, t10, t11, rfl, h900, trivial⟩
 intro T H ⟨t0, t3, t9, t10, t11, t12, h900, _⟩
 refine W_seq_if (p := ((k : Nat) : Int) < ((l.length : Nat) : Int)) t12 (fun c3 => ?_) (fun c3 => ?_)
 ·
  have hq := cat_take_le (l := l) (k := k) (by omega)
  refine W_seq_skip ?_
  refine W_seq_blockg fun Q4 n4 x4 y4 z4 => ?_
  refine W_seq_regc (fun T H => T 0 = (V.sl (List.map cL (l))) ∧ T 3 = (iV (((cat (l.take k)).length : Nat) : Int)) ∧ T 5 = (V.sl (List.map cI ((nth (l) (k))))) ∧ T 9 = (V.sl (List.map cL (l))) ∧ T 10 = (iV ((l.length : Nat) : Int)) ∧ T 11 = (iV ((k : Nat) : Int)) ∧ H 900 = (⟨0, false, false, 0, 0, []⟩ : Blk) ∧ True) ?_ ?_
  ·
   unfold r83_4
   refine R_idx (i := k) t9 t11 (by omega) rfl ?_
   refine R_load_pp (v := (V.sl (List.map cI ((nth (l) (k)))))) (@rfl V (V.pp [(V.sl (List.map cI ((nth (l) (k)))))])) (by first | rfl | simp [ldV]) ?_
   refine R_mv (@rfl V (V.sl (List.map cI ((nth (l) (k)))))) ?_
   exact R_nil ⟨t0, t3, rfl, t9, t10, t11, h900, trivial⟩
  intro T H ⟨t0, t3, t5, t9, t10, t11, h900, _⟩
  refine W_seq_regc (fun T H => T 0 = (V.sl (List.map cL (l))) ∧ T 3 = (iV ((((cat (l.take k)).length) + ((nth (l) (k))).length : Nat) : Int)) ∧ T 9 = (V.sl (List.map cL (l))) ∧ T 10 = (iV ((l.length : Nat) : Int)) ∧ T 11 = (iV ((k : Nat) : Int)) ∧ H 900 = (⟨0, false, false, 0, 0, []⟩ : Blk) ∧ True) ?_ ?_
  ·
   unfold r83_5
   refine R_mv t3 ?_
   refine R_mv t5 ?_
   refine R_len (@rfl V (V.sl (List.map cI ((nth (l) (k)))))) ?_
   refine R_addN (m := ((cat (l.take k)).length)) (n := (((nth (l) (k))).length)) (@rfl V (iV (((cat (l.take k)).length : Nat) : Int))) (@rfl V (iV ((((nth (l) (k))).length : Nat) : Int))) (by omega) ?_
   refine R_mv (@rfl V (iV ((((cat (l.take k)).length) + ((nth (l) (k))).length : Nat) : Int))) ?_
   exact R_nil ⟨t0, rfl, t9, t10, t11, h900, trivial⟩
  intro T H ⟨t0, t3, t9, t10, t11, h900, _⟩
  refine W_seq_regc (fun T H => T 0 = (V.sl (List.map cL (l))) ∧ T 3 = (iV ((((cat (l.take k)).length) + ((nth (l) (k))).length : Nat) : Int)) ∧ T 9 = (V.sl (List.map cL (l))) ∧ T 10 = (iV ((l.length : Nat) : Int)) ∧ T 11 = (iV ((k : Nat) : Int)) ∧ T 20 = (V.bool (decide (((((cat (l.take k)).length) + ((nth (l) (k))).length : Nat) : Int) < (0 : Int)))) ∧ H 900 = (⟨0, false, false, 0, 0, []⟩ : Blk) ∧ True) ?_ ?_
  ·
   unfold r83_6
   refine R_mv t3 ?_
   refine R_lss (x := ((((cat (l.take k)).length) + ((nth (l) (k))).length : Nat) : Int)) (y := (0 : Int)) (@rfl V (iV ((((cat (l.take k)).length) + ((nth (l) (k))).length : Nat) : Int))) (@rfl V (iV (0 : Int))) ?_
   exact R_nil ⟨t0, t3, t9, t10, t11, rfl, h900, trivial⟩
  intro T H ⟨t0, t3, t9, t10, t11, t20, h900, _⟩
  refine W_if (p := ((((cat (l.take k)).length) + ((nth (l) (k))).length : Nat) : Int) < (0 : Int)) t20 (fun c5 => ?_) (fun c5 => ?_)
  · exfalso; omega
  refine W_skip ?_
  refine n4 _ _ ?_
  refine .done ?_
  refine W_regc (fun T H => T 0 = (V.sl (List.map cL (l))) ∧ T 3 = (iV ((((cat (l.take k)).length) + ((nth (l) (k))).length : Nat) : Int)) ∧ T 9 = (V.sl (List.map cL (l))) ∧ T 10 = (iV ((l.length : Nat) : Int)) ∧ T 11 = (iV ((k + 1 : Nat) : Int)) ∧ H 900 = (⟨0, false, false, 0, 0, []⟩ : Blk) ∧ True) ?_ ?_
  ·
   unfold r83_8
   refine R_addN (m := k) (n := 1) t11 (@rfl V (iV ((1 : Nat) : Int))) (by omega) ?_
   refine R_mv (@rfl V (iV ((k + 1 : Nat) : Int))) ?_
   exact R_nil ⟨t0, t3, t9, t10, rfl, h900, trivial⟩
  intro T H ⟨t0, t3, t9, t10, t11, h900, _⟩
  refine p12 _ _ _ ?_ ⟨(k + 1), rfl, t0, (Eq.trans t3 (by first | rfl | (rw [cat_take (by omega), List.length_append]; done) | (rw [cat_take (by omega), List.length_append]; rfl) | simp)), t9, t10, (Eq.trans t11 (by first | rfl | (rw [cat_take (by omega), List.length_append]; done) | (rw [cat_take (by omega), List.length_append]; rfl) | simp)), h900, ?_⟩
  · omega
  · omega
 have hk2 : (cat (l.take k)).length = (cat l).length := by rw [show k = l.length by omega, List.take_length]
 refine W_seq_exit ?_
 refine p32 _ _ _ ?_
 refine x1 _ _ ?_
 refine .done ?_
 refine W_seq_regc (fun T H => T 0 = (V.sl (List.map cL (l))) ∧ T 6 = (V.ms 900 (0 + 1) 0 (0)) ∧ H 900 = (⟨0 + 1, true, decide ((cat (l.take k)).length = 0), 3, 1, []⟩ : Blk) ∧ True) ?_ ?_
 ·
  unfold r83_9
  refine R_mv t3 ?_
  refine R_callE (evcons (@rfl V V.nilsl) (evcons (@rfl V (iV (((cat (l.take k)).length : Nat) : Int))) evnil)) (CallOK_growv growLay110 growCall110 growInfo110 (by decide) rfl (n := ((cat (l.take k)).length)) (by omega) (by omega) 900 (congrArg Blk.ver h900)) ?_
  refine R_mv (@rfl V (V.ms 900 (0 + 1) 0 (0))) ?_
  exact R_nil ⟨t0, rfl, rfl, trivial⟩
 intro T H ⟨t0, t6, h900, _⟩
 refine W_seq_seq ?_
 refine W_seq_regc (fun T H => T 6 = (V.ms 900 (0 + 1) 0 (0)) ∧ T 25 = (V.sl (List.map cL (l))) ∧ T 26 = (iV ((l.length : Nat) : Int)) ∧ T 27 = (iV (0 : Int)) ∧ H 900 = (⟨0 + 1, true, decide ((cat (l.take k)).length = 0), 3, 1, []⟩ : Blk) ∧ True) ?_ ?_
 ·
  unfold r83_10
  refine R_mv t0 ?_
  refine R_len (@rfl V (V.sl (List.map cL (l)))) ?_
  refine R_mv (@rfl V (iV (0 : Int))) ?_
  exact R_nil ⟨t6, rfl, rfl, rfl, h900, trivial⟩
 intro T H ⟨t6, t25, t26, t27, h900, _⟩
 refine W_seq_blockg fun Q6 n6 x6 y6 z6 => ?_
 refine W_loop (fun mm T H => ∃ (j : Nat) (w : Nat), mm = l.length - j ∧ T 6 = (V.ms 900 w 0 ((cat (l.take j)).length)) ∧ T 25 = (V.sl (List.map cL (l))) ∧ T 26 = (iV ((l.length : Nat) : Int)) ∧ T 27 = (iV ((j : Nat) : Int)) ∧ H 900 = (⟨w, true, decide ((cat (l.take k)).length = 0), 3, 1, (List.map cI (cat (l.take j)))⟩ : Blk) ∧ (j ≤ l.length)) ?_ ?_
 ·
  refine ⟨_, 0, (0 + 1), rfl, (Eq.trans t6 (by first | rfl | (rw [cat_take (by omega), List.length_append]; done) | (rw [cat_take (by omega), List.length_append]; rfl) | simp)), t25, t26, (Eq.trans t27 (by first | rfl | (rw [cat_take (by omega), List.length_append]; done) | (rw [cat_take (by omega), List.length_append]; rfl) | simp)), (Eq.trans h900 (by first | rfl | (rw [cat_take (by omega)]; done) | (rw [cat_take (by omega)]; rfl))), ?_⟩
  · omega
 intro mm T H ⟨j, w, hmm, t6, t25, t26, t27, h900, hj⟩ Q7 p17 p27 p37
 unfold b83_1
 refine W_seq_regc (fun T H => T 6 = (V.ms 900 w 0 ((cat (l.take j)).length)) ∧ T 25 = (V.sl (List.map cL (l))) ∧ T 26 = (iV ((l.length : Nat) : Int)) ∧ T 27 = (iV ((j : Nat) : Int)) ∧ T 28 = (V.bool (decide (((j : Nat) : Int) < ((l.length : Nat) : Int)))) ∧ H 900 = (⟨w, true, decide ((cat (l.take k)).length = 0), 3, 1, (List.map cI (cat (l.take j)))⟩ : Blk) ∧ True) ?_ ?_
 ·
  unfold r83_11
  refine R_lss (x := ((j : Nat) : Int)) (y := ((l.length : Nat) : Int)) t27 t26 ?_
  exact R_nil ⟨t6, t25, t26, t27, rfl, h900, trivial⟩
 intro T H ⟨t6, t25, t26, t27, t28, h900, _⟩
 refine W_seq_if (p := ((j : Nat) : Int) < ((l.length : Nat) : Int)) t28 (fun c8 => ?_) (fun c8 => ?_)
 ·
  have hq := cat_take_le (l := l) (k := j) (by omega)
  refine W_seq_skip ?_
  refine W_seq_blockg fun Q9 n9 x9 y9 z9 => ?_
  refine W_seq_regc (fun T H => T 6 = (V.ms 900 w 0 ((cat (l.take j)).length)) ∧ T 8 = (V.sl (List.map cI ((nth (l) (j))))) ∧ T 25 = (V.sl (List.map cL (l))) ∧ T 26 = (iV ((l.length : Nat) : Int)) ∧ T 27 = (iV ((j : Nat) : Int)) ∧ H 900 = (⟨w, true, decide ((cat (l.take k)).length = 0), 3, 1, (List.map cI (cat (l.take j)))⟩ : Blk) ∧ True) ?_ ?_
  ·
   unfold r83_12
   refine R_idx (i := j) t25 t27 (by omega) rfl ?_
   refine R_load_pp (v := (V.sl (List.map cI ((nth (l) (j)))))) (@rfl V (V.pp [(V.sl (List.map cI ((nth (l) (j)))))])) (by first | rfl | simp [ldV]) ?_
   refine R_mv (@rfl V (V.sl (List.map cI ((nth (l) (j)))))) ?_
   exact R_nil ⟨t6, rfl, t25, t26, t27, h900, trivial⟩
  intro T H ⟨t6, t8, t25, t26, t27, h900, _⟩
  refine W_regc (fun T H => T 6 = (V.ms 900 (w + 1) 0 (((cat (l.take j)).length) + ((nth (l) (j))).length)) ∧ T 25 = (V.sl (List.map cL (l))) ∧ T 26 = (iV ((l.length : Nat) : Int)) ∧ T 27 = (iV ((j : Nat) : Int)) ∧ H 900 = (⟨w + 1, true, decide ((cat (l.take k)).length = 0), 3, 1, (List.map cI (cat (l.take j) ++ ((nth (l) (j)))))⟩ : Blk) ∧ True) ?_ ?_
  ·
   unfold r83_13
   refine R_mv t6 ?_
   refine R_mv t8 ?_
   refine R_appendS (l := (cat (l.take j))) (m := ((nth (l) (j)))) (f := cI) (@rfl V (V.ms 900 w 0 ((cat (l.take j)).length))) h900 (by first | rfl | simp | omega) (@rfl V (V.sl (List.map cI ((nth (l) (j)))))) (fun _ => rfl) (fun _ => rfl) (by omega) (by omega) ?_
   refine R_mv (@rfl V (V.ms 900 (w + 1) 0 (((cat (l.take j)).length) + ((nth (l) (j))).length))) ?_
   exact R_nil ⟨rfl, t25, t26, t27, rfl, trivial⟩
  intro T H ⟨t6, t25, t26, t27, h900, _⟩
  refine n9 _ _ ?_
  refine .done ?_
  refine W_regc (fun T H => T 6 = (V.ms 900 (w + 1) 0 (((cat (l.take j)).length) + ((nth (l) (j))).length)) ∧ T 25 = (V.sl (List.map cL (l))) ∧ T 26 = (iV ((l.length : Nat) : Int)) ∧ T 27 = (iV ((j + 1 : Nat) : Int)) ∧ H 900 = (⟨w + 1, true, decide ((cat (l.take k)).length = 0), 3, 1, (List.map cI (cat (l.take j) ++ ((nth (l) (j)))))⟩ : Blk) ∧ True) ?_ ?_
  ·
   unfold r83_14
   refine R_addN (m := j) (n := 1) t27 (@rfl V (iV ((1 : Nat) : Int))) (by omega) ?_
   refine R_mv (@rfl V (iV ((j + 1 : Nat) : Int))) ?_
   exact R_nil ⟨t6, t25, t26, rfl, h900, trivial⟩
  intro T H ⟨t6, t25, t26, t27, h900, _⟩
  refine p17 _ _ _ ?_ ⟨(j + 1), (w + 1), rfl, (Eq.trans t6 (by first | rfl | (rw [cat_take (by omega), List.length_append]; done) | (rw [cat_take (by omega), List.length_append]; rfl) | simp)), t25, t26, (Eq.trans t27 (by first | rfl | (rw [cat_take (by omega), List.length_append]; done) | (rw [cat_take (by omega), List.length_append]; rfl) | simp)), (Eq.trans h900 (by first | rfl | (rw [cat_take (by omega)]; done) | (rw [cat_take (by omega)]; rfl))), ?_⟩
  · omega
  · omega
 refine W_seq_exit ?_
 refine p37 _ _ _ ?_
 refine x6 _ _ ?_
 refine .done ?_
 refine W_seq_regc (fun T H => T 2 = (V.ms 900 w 0 ((cat (l.take j)).length)) ∧ H 900 = (⟨w, true, decide ((cat (l.take k)).length = 0), 3, 1, (List.map cI (cat (l.take j)))⟩ : Blk) ∧ True) ?_ ?_
 ·
  unfold r83_15
  refine R_mv t6 ?_
  refine R_mv (@rfl V (V.ms 900 w 0 ((cat (l.take j)).length))) ?_
  exact R_nil ⟨rfl, h900, trivial⟩
 intro T H ⟨t2, h900, _⟩
 refine W_ret ?_
 refine Ret_1 t2 (fz_ms h900 (by first | rfl | simp) (l := (cat (l.take j))) rfl (by first | rfl | simp | omega) (fun _ => by simp) ?_)
 · rw [show j = l.length by omega, List.take_length]
end Go.Proofs.YtmnjchcoigbngaaGreat


namespace Go.Proofs.YtmnjchcoigbngaaGreat
open Go Go.Proofs
theorem pjoin_pure (l : List (List Int)) (hs : (cat l).length ≤ 4294967296) : PureC Tryz.prog 49 [(V.sl (List.map cL (l)))] (V.sl (List.map cI (cat l))) := by
 refine pure_of_Wb true 6 Tryz.func49 s49_ok (by kernel_rfl) (by simp [s49]) (by simp) (by simp) fun hB => ?_
 simp only [bnd_map, bnd_int, bnd_bool, bnd_str, bnd_agg, bnd_pp, bnd_nil, bnd_cons, implies_true, and_true, true_and] at hB
 unfold s49
 dsimp only
 refine W_seq_regc (fun T H => T 0 = (V.sl (List.map cL (l))) ∧ True) ?_ ?_
 ·
  unfold r49_0
  refine R_mv (@rfl V V.nilsl) ?_
  exact R_nil ⟨rfl, trivial⟩
 intro T H ⟨t0, _⟩
 refine W_seq_regc (fun T H => T 2 = (V.sl (List.map cI (cat l))) ∧ True) ?_ ?_
 ·
  unfold r49_1
  refine R_mv t0 ?_
  refine R_call (evcons (@rfl V (V.sl (List.map cL (l)))) evnil) (concat_pure l hs) (fzv_mapcanon _ _ (by simp [-List.map_take, -List.map_drop, -List.map_append, -List.map_reverse])) (by simp [-List.map_take, -List.map_drop, -List.map_append, -List.map_reverse]) (Or.inl (by simp [-List.map_take, -List.map_drop, -List.map_append, -List.map_reverse])) ?_
  refine R_mv (@rfl V (V.sl (List.map cI (cat l)))) ?_
  exact R_nil ⟨rfl, trivial⟩
 intro T H ⟨t2, _⟩
 refine W_ret ?_
 refine Ret_1 t2 (fz_canon (by simp) rfl)
end Go.Proofs.YtmnjchcoigbngaaGreat


namespace Go.Proofs.YtmnjchcoigbngaaGreat
open Go Go.Proofs
theorem access_pure (t : Dt) (hb : Bd t) : PureC Tryz.prog 37 [(V.agg [(V.sl (List.map cN (t.nd)))])] (V.sl (List.map cL (acL t.nd))) := by
 refine pure_of_Wb true 6 Tryz.func37 s37_ok (by kernel_rfl) (by simp [s37]) (by simp) (by simp) fun hB => ?_
 simp only [bnd_map, bnd_int, bnd_bool, bnd_str, bnd_agg, bnd_pp, bnd_nil, bnd_cons, implies_true, and_true, true_and] at hB
 unfold s37
 dsimp only
 have hbn := hb.n
 refine W_seq_regc (fun T H => T 1 = (V.mp 1 1 0 0) ∧ H 1 = (⟨1, true, false, 24, 1, [[(V.sl (List.map cN (t.nd)))]]⟩ : Blk) ∧ H 3 = (⟨0, false, false, 0, 0, []⟩ : Blk) ∧ H 5 = (⟨0, false, false, 0, 0, []⟩ : Blk) ∧ True) ?_ ?_
 ·
  unfold r37_0
  refine R_box (i := 1) (n := 0) (m := 1) (cs := [(V.sl (List.map cN (t.nd)))]) rfl (congrArg Blk.ver rfl) (@rfl V (V.agg [(V.sl (List.map cN (t.nd)))])) rfl rfl ?_
  refine R_mv (@rfl V V.nilsl) ?_
  exact R_nil ⟨rfl, rfl, rfl, rfl, trivial⟩
 intro T H ⟨t1, h1, h3, h5, _⟩
 refine W_seq_regc (fun T H => T 1 = (V.mp 1 1 0 0) ∧ T 3 = (V.ms 3 1 0 (0)) ∧ H 1 = (⟨1, true, false, 24, 1, [[(V.sl (List.map cN (t.nd)))]]⟩ : Blk) ∧ H 3 = (⟨1, true, true, 38, 1, []⟩ : Blk) ∧ H 5 = (⟨0, false, false, 0, 0, []⟩ : Blk) ∧ True) ?_ ?_
 ·
  unfold r37_1
  refine R_lazy (i := 3) (n := 0) rfl (congrArg Blk.ver h3) ?_
  exact R_nil ⟨t1, rfl, h1, rfl, h5, trivial⟩
 intro T H ⟨t1, t3, h1, h3, h5, _⟩
 refine W_seq_seq ?_
 refine W_seq_regc (fun T H => T 3 = (V.ms 3 1 0 (0)) ∧ T 7 = (V.sl (List.map cN (t.nd))) ∧ T 8 = (iV ((t.nd.length : Nat) : Int)) ∧ T 9 = (iV (0 : Int)) ∧ H 1 = (⟨1, true, false, 24, 1, [[(V.sl (List.map cN (t.nd)))]]⟩ : Blk) ∧ H 3 = (⟨1, true, true, 38, 1, []⟩ : Blk) ∧ H 5 = (⟨0, false, false, 0, 0, []⟩ : Blk) ∧ True) ?_ ?_
 ·
  unfold r37_2
  refine R_fld_mp (o' := 0) t1 h1 (by first | rfl | simp [okB, Blk.own]) rfl ?_
  refine R_load_mp (v := (V.sl (List.map cN (t.nd)))) (@rfl V (V.mp 1 1 0 0)) h1 (by first | rfl | simp [ldB, ldV, Blk.own, V.one]) ?_
  refine R_len (@rfl V (V.sl (List.map cN (t.nd)))) ?_
  refine R_mv (@rfl V (iV (0 : Int))) ?_
  exact R_nil ⟨t3, rfl, rfl, rfl, h1, h3, h5, trivial⟩
 intro T H ⟨t3, t7, t8, t9, h1, h3, h5, _⟩
 refine W_seq_blockg fun Q1 n1 x1 y1 z1 => ?_
 refine W_loop (fun mm T H => ∃ (k : Nat) (v : Nat) (v5 : Nat), mm = t.nd.length - k ∧ T 3 = (V.ms 3 v 0 ((acL (t.nd.take k)).length)) ∧ T 7 = (V.sl (List.map cN (t.nd))) ∧ T 8 = (iV ((t.nd.length : Nat) : Int)) ∧ T 9 = (iV ((k : Nat) : Int)) ∧ H 1 = (⟨1, true, false, 24, 1, [[(V.sl (List.map cN (t.nd)))]]⟩ : Blk) ∧ H 3 = (⟨v, true, true, 38, 1, (List.map cL (acL (t.nd.take k)))⟩ : Blk) ∧ (H 5).ver = v5 ∧ (k ≤ t.nd.length)) ?_ ?_
 ·
  refine ⟨_, 0, 1, 0, rfl, (Eq.trans t3 (by first | rfl | (rw [acL_take (by omega), if_pos (by assumption), List.length_append]; rfl) | (rw [acL_take (by omega), if_neg (by assumption), List.append_nil]; done) | simp)), t7, t8, (Eq.trans t9 (by first | rfl | (rw [acL_take (by omega), if_pos (by assumption), List.length_append]; rfl) | (rw [acL_take (by omega), if_neg (by assumption), List.append_nil]; done) | simp)), h1, (Eq.trans h3 (by first | rfl | (rw [acL_take (by omega), if_pos (by assumption)]; simp [cat]; done) | (rw [acL_take (by omega), if_neg (by assumption), List.append_nil]; done) | simp)), (congrArg Blk.ver h5), ?_⟩
  · omega
 intro mm T H ⟨k, v, v5, hmm, t3, t7, t8, t9, h1, h3, h5, hk⟩ Q2 p12 p22 p32
 unfold b37_0
 have q1 := acL_len (t.nd.take k)
 have q2 : (t.nd.take k).length ≤ k := by simp; omega
 refine W_seq_regc (fun T H => T 3 = (V.ms 3 v 0 ((acL (t.nd.take k)).length)) ∧ T 7 = (V.sl (List.map cN (t.nd))) ∧ T 8 = (iV ((t.nd.length : Nat) : Int)) ∧ T 9 = (iV ((k : Nat) : Int)) ∧ T 10 = (V.bool (decide (((k : Nat) : Int) < ((t.nd.length : Nat) : Int)))) ∧ H 1 = (⟨1, true, false, 24, 1, [[(V.sl (List.map cN (t.nd)))]]⟩ : Blk) ∧ H 3 = (⟨v, true, true, 38, 1, (List.map cL (acL (t.nd.take k)))⟩ : Blk) ∧ (H 5).ver = v5 ∧ True) ?_ ?_
 ·
  unfold r37_3
  refine R_lss (x := ((k : Nat) : Int)) (y := ((t.nd.length : Nat) : Int)) t9 t8 ?_
  exact R_nil ⟨t3, t7, t8, t9, rfl, h1, h3, h5, trivial⟩
 intro T H ⟨t3, t7, t8, t9, t10, h1, h3, h5, _⟩
 refine W_seq_if (p := ((k : Nat) : Int) < ((t.nd.length : Nat) : Int)) t10 (fun c3 => ?_) (fun c3 => ?_)
 ·
  have r1 := hb.ac k (by omega)
  refine W_seq_skip ?_
  refine W_seq_blockg fun Q4 n4 x4 y4 z4 => ?_
  refine W_seq_regc (fun T H => T 3 = (V.ms 3 v 0 ((acL (t.nd.take k)).length)) ∧ T 5 = (V.mp 5 (v5 + 1) 0 0) ∧ T 7 = (V.sl (List.map cN (t.nd))) ∧ T 8 = (iV ((t.nd.length : Nat) : Int)) ∧ T 9 = (iV ((k : Nat) : Int)) ∧ H 1 = (⟨1, true, false, 24, 1, [[(V.sl (List.map cN (t.nd)))]]⟩ : Blk) ∧ H 3 = (⟨v, true, true, 38, 1, (List.map cL (acL (t.nd.take k)))⟩ : Blk) ∧ H 5 = (⟨v5 + 1, true, false, 68, 5, [[(V.bool (((nth (t.nd) (k))).lf)), (V.sl (List.map cI (((nth (t.nd) (k))).ac))), (V.sl (List.map cI (((nth (t.nd) (k))).sf))), (V.sl (List.map cL (((nth (t.nd) (k))).ou))), (V.sl (List.map cI (((nth (t.nd) (k))).kd)))]]⟩ : Blk) ∧ True) ?_ ?_
  ·
   unfold r37_4
   refine R_idx (i := k) t7 t9 (by omega) rfl ?_
   refine R_load_pp (v := (V.agg [(V.bool (((nth (t.nd) (k))).lf)), (V.sl (List.map cI (((nth (t.nd) (k))).ac))), (V.sl (List.map cI (((nth (t.nd) (k))).sf))), (V.sl (List.map cL (((nth (t.nd) (k))).ou))), (V.sl (List.map cI (((nth (t.nd) (k))).kd)))])) (@rfl V (V.pp [(V.bool (((nth (t.nd) (k))).lf)), (V.sl (List.map cI (((nth (t.nd) (k))).ac))), (V.sl (List.map cI (((nth (t.nd) (k))).sf))), (V.sl (List.map cL (((nth (t.nd) (k))).ou))), (V.sl (List.map cI (((nth (t.nd) (k))).kd)))])) (by first | rfl | simp [ldV]) ?_
   refine R_alloc (i := 5) (n := v5) (m := 5) rfl h5 rfl ?_
   refine R_store (vs := [(V.bool (((nth (t.nd) (k))).lf)), (V.sl (List.map cI (((nth (t.nd) (k))).ac))), (V.sl (List.map cI (((nth (t.nd) (k))).sf))), (V.sl (List.map cL (((nth (t.nd) (k))).ou))), (V.sl (List.map cI (((nth (t.nd) (k))).kd)))]) (B' := (⟨v5 + 1, true, false, 68, 5, [[(V.bool (((nth (t.nd) (k))).lf)), (V.sl (List.map cI (((nth (t.nd) (k))).ac))), (V.sl (List.map cI (((nth (t.nd) (k))).sf))), (V.sl (List.map cL (((nth (t.nd) (k))).ou))), (V.sl (List.map cI (((nth (t.nd) (k))).kd)))]]⟩ : Blk)) (@rfl V (V.mp 5 (v5 + 1) 0 0)) (@rfl V (V.agg [(V.bool (((nth (t.nd) (k))).lf)), (V.sl (List.map cI (((nth (t.nd) (k))).ac))), (V.sl (List.map cI (((nth (t.nd) (k))).sf))), (V.sl (List.map cL (((nth (t.nd) (k))).ou))), (V.sl (List.map cI (((nth (t.nd) (k))).kd)))])) rfl (@rfl Blk (⟨v5 + 1, true, false, 68, 5, [[(V.bool false), V.nilsl, V.nilsl, V.nilsl, V.nilsl]]⟩ : Blk)) (by first | rfl | simp [stB, okB, Blk.own, putAt, V.one]) ?_
   exact R_nil ⟨t3, rfl, t7, t8, t9, h1, h3, rfl, trivial⟩
  intro T H ⟨t3, t5, t7, t8, t9, h1, h3, h5, _⟩
  refine W_seq_regc (fun T H => T 3 = (V.ms 3 v 0 ((acL (t.nd.take k)).length)) ∧ T 5 = (V.mp 5 (v5 + 1) 0 0) ∧ T 7 = (V.sl (List.map cN (t.nd))) ∧ T 8 = (iV ((t.nd.length : Nat) : Int)) ∧ T 9 = (iV ((k : Nat) : Int)) ∧ T 14 = (V.bool (((nth (t.nd) (k))).lf)) ∧ H 1 = (⟨1, true, false, 24, 1, [[(V.sl (List.map cN (t.nd)))]]⟩ : Blk) ∧ H 3 = (⟨v, true, true, 38, 1, (List.map cL (acL (t.nd.take k)))⟩ : Blk) ∧ H 5 = (⟨v5 + 1, true, false, 68, 5, [[(V.bool (((nth (t.nd) (k))).lf)), (V.sl (List.map cI (((nth (t.nd) (k))).ac))), (V.sl (List.map cI (((nth (t.nd) (k))).sf))), (V.sl (List.map cL (((nth (t.nd) (k))).ou))), (V.sl (List.map cI (((nth (t.nd) (k))).kd)))]]⟩ : Blk) ∧ True) ?_ ?_
  ·
   unfold r37_5
   refine R_fld_mp (o' := 0) t5 h5 (by first | rfl | simp [okB, Blk.own]) rfl ?_
   refine R_load_mp (v := (V.bool (((nth (t.nd) (k))).lf))) (@rfl V (V.mp 5 (v5 + 1) 0 0)) h5 (by first | rfl | simp [ldB, ldV, Blk.own, V.one]) ?_
   exact R_nil ⟨t3, t5, t7, t8, t9, rfl, h1, h3, h5, trivial⟩
  intro T H ⟨t3, t5, t7, t8, t9, t14, h1, h3, h5, _⟩
  refine W_ifb t14 (fun c5 => ?_) (fun c5 => ?_)
  ·
   have d1 : (nth t.nd k).lf = true := c5
   refine W_regc (fun T H => T 3 = (V.ms 3 (v + 1) 0 (((acL (t.nd.take k)).length) + 1)) ∧ T 7 = (V.sl (List.map cN (t.nd))) ∧ T 8 = (iV ((t.nd.length : Nat) : Int)) ∧ T 9 = (iV ((k : Nat) : Int)) ∧ H 1 = (⟨1, true, false, 24, 1, [[(V.sl (List.map cN (t.nd)))]]⟩ : Blk) ∧ H 3 = (⟨v + 1, true, true, 38, 1, (List.map cL (acL (t.nd.take k) ++ [cat ([((nth (t.nd) (k))).ac])]))⟩ : Blk) ∧ H 5 = (⟨v5 + 1, true, false, 68, 5, [[(V.bool (((nth (t.nd) (k))).lf)), (V.sl (List.map cI (((nth (t.nd) (k))).ac))), (V.sl (List.map cI (((nth (t.nd) (k))).sf))), (V.sl (List.map cL (((nth (t.nd) (k))).ou))), (V.sl (List.map cI (((nth (t.nd) (k))).kd)))]]⟩ : Blk) ∧ True) ?_ ?_
   ·
    unfold r37_6
    refine R_mv t3 ?_
    refine R_fld_mp (o' := 1) t5 h5 (by first | rfl | simp [okB, Blk.own]) rfl ?_
    refine R_load_mp (v := (V.sl (List.map cI (((nth (t.nd) (k))).ac)))) (@rfl V (V.mp 5 (v5 + 1) 0 1)) h5 (by first | rfl | simp [ldB, ldV, Blk.own, V.one]) ?_
    refine R_bslice (qs := [(0, (V.sl (List.map cI (((nth (t.nd) (k))).ac))))]) (rows := [[(V.sl (List.map cI (((nth (t.nd) (k))).ac)))]]) (mcons (congrArg (fun v => (0, v)) (@rfl V (V.sl (List.map cI (((nth (t.nd) (k))).ac))))) rfl) rfl ?_
    refine R_call (evcons (@rfl V (V.sl [[(V.sl (List.map cI (((nth (t.nd) (k))).ac)))]])) evnil) (pjoin_pure ([((nth (t.nd) (k))).ac]) (by simp [cat]; omega)) (fzv_mapcanon _ _ (by simp [-List.map_take, -List.map_drop, -List.map_append, -List.map_reverse])) (by simp [-List.map_take, -List.map_drop, -List.map_append, -List.map_reverse]) (Or.inl (by simp [-List.map_take, -List.map_drop, -List.map_append, -List.map_reverse])) ?_
    refine R_bslice (qs := [(0, (V.sl (List.map cI (cat ([((nth (t.nd) (k))).ac])))))]) (rows := [[(V.sl (List.map cI (cat ([((nth (t.nd) (k))).ac]))))]]) (mcons (congrArg (fun v => (0, v)) (@rfl V (V.sl (List.map cI (cat ([((nth (t.nd) (k))).ac])))))) rfl) rfl ?_
    refine R_append1 (l := (acL (t.nd.take k))) (f := cL) (x := (cat ([((nth (t.nd) (k))).ac]))) (@rfl V (V.ms 3 v 0 ((acL (t.nd.take k)).length))) h3 (by first | rfl | simp | omega) (@rfl V (V.sl [[(V.sl (List.map cI (cat ([((nth (t.nd) (k))).ac]))))]])) rfl rfl (by omega) (by omega) ?_
    refine R_mv (@rfl V (V.ms 3 (v + 1) 0 (((acL (t.nd.take k)).length) + 1))) ?_
    exact R_nil ⟨rfl, t7, t8, t9, h1, rfl, h5, trivial⟩
   intro T H ⟨t3, t7, t8, t9, h1, h3, h5, _⟩
   refine n4 _ _ ?_
   refine .done ?_
   refine W_regc (fun T H => T 3 = (V.ms 3 (v + 1) 0 (((acL (t.nd.take k)).length) + 1)) ∧ T 7 = (V.sl (List.map cN (t.nd))) ∧ T 8 = (iV ((t.nd.length : Nat) : Int)) ∧ T 9 = (iV ((k + 1 : Nat) : Int)) ∧ H 1 = (⟨1, true, false, 24, 1, [[(V.sl (List.map cN (t.nd)))]]⟩ : Blk) ∧ H 3 = (⟨v + 1, true, true, 38, 1, (List.map cL (acL (t.nd.take k) ++ [cat ([((nth (t.nd) (k))).ac])]))⟩ : Blk) ∧ H 5 = (⟨v5 + 1, true, false, 68, 5, [[(V.bool (((nth (t.nd) (k))).lf)), (V.sl (List.map cI (((nth (t.nd) (k))).ac))), (V.sl (List.map cI (((nth (t.nd) (k))).sf))), (V.sl (List.map cL (((nth (t.nd) (k))).ou))), (V.sl (List.map cI (((nth (t.nd) (k))).kd)))]]⟩ : Blk) ∧ True) ?_ ?_
   ·
    unfold r37_7
    refine R_addN (m := k) (n := 1) t9 (@rfl V (iV ((1 : Nat) : Int))) (by omega) ?_
    refine R_mv (@rfl V (iV ((k + 1 : Nat) : Int))) ?_
    exact R_nil ⟨t3, t7, t8, rfl, h1, h3, h5, trivial⟩
   intro T H ⟨t3, t7, t8, t9, h1, h3, h5, _⟩
   refine p12 _ _ _ ?_ ⟨(k + 1), (v + 1), (v5 + 1), rfl, (Eq.trans t3 (by first | rfl | (rw [acL_take (by omega), if_pos (by assumption), List.length_append]; rfl) | (rw [acL_take (by omega), if_neg (by assumption), List.append_nil]; done) | simp)), t7, t8, (Eq.trans t9 (by first | rfl | (rw [acL_take (by omega), if_pos (by assumption), List.length_append]; rfl) | (rw [acL_take (by omega), if_neg (by assumption), List.append_nil]; done) | simp)), h1, (Eq.trans h3 (by first | rfl | (rw [acL_take (by omega), if_pos (by assumption)]; simp [cat]; done) | (rw [acL_take (by omega), if_neg (by assumption), List.append_nil]; done) | simp)), (congrArg Blk.ver h5), ?_⟩
   · omega
   · omega
  have d1 : ¬(nth t.nd k).lf = true := by simpa using c5
  refine W_skip ?_
  refine n4 _ _ ?_
  refine .done ?_
  refine W_regc (fun T H => T 3 = (V.ms 3 v 0 ((acL (t.nd.take k)).length)) ∧ T 7 = (V.sl (List.map cN (t.nd))) ∧ T 8 = (iV ((t.nd.length : Nat) : Int)) ∧ T 9 = (iV ((k + 1 : Nat) : Int)) ∧ H 1 = (⟨1, true, false, 24, 1, [[(V.sl (List.map cN (t.nd)))]]⟩ : Blk) ∧ H 3 = (⟨v, true, true, 38, 1, (List.map cL (acL (t.nd.take k)))⟩ : Blk) ∧ H 5 = (⟨v5 + 1, true, false, 68, 5, [[(V.bool (((nth (t.nd) (k))).lf)), (V.sl (List.map cI (((nth (t.nd) (k))).ac))), (V.sl (List.map cI (((nth (t.nd) (k))).sf))), (V.sl (List.map cL (((nth (t.nd) (k))).ou))), (V.sl (List.map cI (((nth (t.nd) (k))).kd)))]]⟩ : Blk) ∧ True) ?_ ?_
  ·
   unfold r37_7
   refine R_addN (m := k) (n := 1) t9 (@rfl V (iV ((1 : Nat) : Int))) (by omega) ?_
   refine R_mv (@rfl V (iV ((k + 1 : Nat) : Int))) ?_
   exact R_nil ⟨t3, t7, t8, rfl, h1, h3, h5, trivial⟩
  intro T H ⟨t3, t7, t8, t9, h1, h3, h5, _⟩
  refine p12 _ _ _ ?_ ⟨(k + 1), v, (v5 + 1), rfl, (Eq.trans t3 (by first | rfl | (rw [acL_take (by omega), if_pos (by assumption), List.length_append]; rfl) | (rw [acL_take (by omega), if_neg (by assumption), List.append_nil]; done) | simp)), t7, t8, (Eq.trans t9 (by first | rfl | (rw [acL_take (by omega), if_pos (by assumption), List.length_append]; rfl) | (rw [acL_take (by omega), if_neg (by assumption), List.append_nil]; done) | simp)), h1, (Eq.trans h3 (by first | rfl | (rw [acL_take (by omega), if_pos (by assumption)]; simp [cat]; done) | (rw [acL_take (by omega), if_neg (by assumption), List.append_nil]; done) | simp)), (congrArg Blk.ver h5), ?_⟩
  · omega
  · omega
 refine W_seq_exit ?_
 refine p32 _ _ _ ?_
 refine x1 _ _ ?_
 refine .done ?_
 refine W_seq_regc (fun T H => T 2 = (V.ms 3 v 0 ((acL (t.nd.take k)).length)) ∧ H 1 = (⟨1, true, false, 24, 1, [[(V.sl (List.map cN (t.nd)))]]⟩ : Blk) ∧ H 3 = (⟨v, true, true, 38, 1, (List.map cL (acL (t.nd.take k)))⟩ : Blk) ∧ (H 5).ver = v5 ∧ True) ?_ ?_
 ·
  unfold r37_8
  refine R_mv t3 ?_
  refine R_mv (@rfl V (V.ms 3 v 0 ((acL (t.nd.take k)).length))) ?_
  exact R_nil ⟨rfl, h1, h3, h5, trivial⟩
 intro T H ⟨t2, h1, h3, h5, _⟩
 refine W_ret ?_
 refine Ret_1 t2 (fz_ms h3 (by first | rfl | simp) (l := (acL (t.nd.take k))) rfl (by first | rfl | simp | omega) (fun _ => by simp) ?_)
 · rw [show k = t.nd.length by omega, List.take_length]
end Go.Proofs.YtmnjchcoigbngaaGreat


namespace Go.Proofs.YtmnjchcoigbngaaGreat
open Go Go.Proofs
theorem cmpor_pure (l : List Int) (hl : l.length < 4294967296) : PureC Tryz.prog 106 [(V.sl (List.map cI (l)))] (iV (orI l)) := by
 refine pure_of_Wb true 6 Tryz.func106 s106_ok (by kernel_rfl) (by simp [s106]) (by simp) (by simp) fun hB => ?_
 simp only [bnd_map, bnd_int, bnd_bool, bnd_str, bnd_agg, bnd_pp, bnd_nil, bnd_cons, implies_true, and_true, true_and] at hB
 unfold s106
 dsimp only
 refine W_seq_regc (fun T H => T 0 = (V.sl (List.map cI (l))) ∧ True) ?_ ?_
 ·
  unfold r106_0
  refine R_mv (@rfl V (iV (0 : Int))) ?_
  exact R_nil ⟨rfl, trivial⟩
 intro T H ⟨t0, _⟩
 refine W_seq_regc (fun T H => T 0 = (V.sl (List.map cI (l))) ∧ T 3 = (iV (0 : Int)) ∧ True) ?_ ?_
 ·
  unfold r106_1
  refine R_mv (@rfl V (iV (0 : Int))) ?_
  exact R_nil ⟨t0, rfl, trivial⟩
 intro T H ⟨t0, t3, _⟩
 refine W_seq_seq ?_
 refine W_seq_regc (fun T H => T 3 = (iV (0 : Int)) ∧ T 6 = (V.sl (List.map cI (l))) ∧ T 7 = (iV ((l.length : Nat) : Int)) ∧ T 8 = (iV (0 : Int)) ∧ True) ?_ ?_
 ·
  unfold r106_2
  refine R_mv t0 ?_
  refine R_len (@rfl V (V.sl (List.map cI (l)))) ?_
  refine R_mv (@rfl V (iV (0 : Int))) ?_
  exact R_nil ⟨t3, rfl, rfl, rfl, trivial⟩
 intro T H ⟨t3, t6, t7, t8, _⟩
 refine W_seq_blockg fun Q1 n1 x1 y1 z1 => ?_
 refine W_loop (fun mm T H => ∃ (k : Nat), mm = l.length - k ∧ T 3 = (iV (0 : Int)) ∧ T 6 = (V.sl (List.map cI (l))) ∧ T 7 = (iV ((l.length : Nat) : Int)) ∧ T 8 = (iV ((k : Nat) : Int)) ∧ (k ≤ l.length) ∧ (orI l = orI (l.drop k))) ?_ ?_
 ·
  refine ⟨_, 0, rfl, t3, t6, t7, (Eq.trans t8 (by first | rfl | simp)), ?_, ?_⟩
  · omega
  · rfl
 intro mm T H ⟨k, hmm, t3, t6, t7, t8, hk, hc⟩ Q2 p12 p22 p32
 unfold b106_0
 refine W_seq_regc (fun T H => T 3 = (iV (0 : Int)) ∧ T 6 = (V.sl (List.map cI (l))) ∧ T 7 = (iV ((l.length : Nat) : Int)) ∧ T 8 = (iV ((k : Nat) : Int)) ∧ T 9 = (V.bool (decide (((k : Nat) : Int) < ((l.length : Nat) : Int)))) ∧ True) ?_ ?_
 ·
  unfold r106_3
  refine R_lss (x := ((k : Nat) : Int)) (y := ((l.length : Nat) : Int)) t8 t7 ?_
  exact R_nil ⟨t3, t6, t7, t8, rfl, trivial⟩
 intro T H ⟨t3, t6, t7, t8, t9, _⟩
 refine W_seq_if (p := ((k : Nat) : Int) < ((l.length : Nat) : Int)) t9 (fun c3 => ?_) (fun c3 => ?_)
 ·
  refine W_seq_skip ?_
  refine W_seq_blockg fun Q4 n4 x4 y4 z4 => ?_
  refine W_seq_regc (fun T H => T 3 = (iV (0 : Int)) ∧ T 5 = (iV ((nth (l) (k)))) ∧ T 6 = (V.sl (List.map cI (l))) ∧ T 7 = (iV ((l.length : Nat) : Int)) ∧ T 8 = (iV ((k : Nat) : Int)) ∧ True) ?_ ?_
  ·
   unfold r106_4
   refine R_idx (i := k) t6 t8 (by omega) rfl ?_
   refine R_load_pp (v := (iV ((nth (l) (k))))) (@rfl V (V.pp [(iV ((nth (l) (k))))])) (by first | rfl | simp [ldV]) ?_
   refine R_mv (@rfl V (iV ((nth (l) (k))))) ?_
   exact R_nil ⟨t3, rfl, t6, t7, t8, trivial⟩
  intro T H ⟨t3, t5, t6, t7, t8, _⟩
  refine W_seq_regc (fun T H => T 3 = (iV (0 : Int)) ∧ T 5 = (iV ((nth (l) (k)))) ∧ T 6 = (V.sl (List.map cI (l))) ∧ T 7 = (iV ((l.length : Nat) : Int)) ∧ T 8 = (iV ((k : Nat) : Int)) ∧ T 14 = (V.bool (decide (((nth (l) (k))) ≠ (0 : Int)))) ∧ True) ?_ ?_
  ·
   unfold r106_5
   refine R_mv t5 ?_
   refine R_mv t3 ?_
   refine R_neq (x := ((nth (l) (k)))) (y := (0 : Int)) (@rfl V (iV ((nth (l) (k))))) (@rfl V (iV (0 : Int))) ?_
   exact R_nil ⟨t3, t5, t6, t7, t8, rfl, trivial⟩
  intro T H ⟨t3, t5, t6, t7, t8, t14, _⟩
  refine W_if (p := ((nth (l) (k))) ≠ (0 : Int)) t14 (fun c5 => ?_) (fun c5 => ?_)
  ·
   refine W_seq_regc (fun T H => T 2 = (iV ((nth (l) (k)))) ∧ True) ?_ ?_
   ·
    unfold r106_6
    refine R_mv t5 ?_
    refine R_mv (@rfl V (iV ((nth (l) (k))))) ?_
    exact R_nil ⟨rfl, trivial⟩
   intro T H ⟨t2, _⟩
   refine W_ret ?_
   refine y4 _ _ ?_
   refine p22 _ _ ?_
   refine y1 _ _ ?_
   refine Ret_1 t2 (fz_int ?_)
   · rw [hc, orI_drop (by omega), if_neg (by omega)]
  refine W_skip ?_
  refine n4 _ _ ?_
  refine .done ?_
  refine W_regc (fun T H => T 3 = (iV (0 : Int)) ∧ T 6 = (V.sl (List.map cI (l))) ∧ T 7 = (iV ((l.length : Nat) : Int)) ∧ T 8 = (iV ((k + 1 : Nat) : Int)) ∧ True) ?_ ?_
  ·
   unfold r106_7
   refine R_addN (m := k) (n := 1) t8 (@rfl V (iV ((1 : Nat) : Int))) (by omega) ?_
   refine R_mv (@rfl V (iV ((k + 1 : Nat) : Int))) ?_
   exact R_nil ⟨t3, t6, t7, rfl, trivial⟩
  intro T H ⟨t3, t6, t7, t8, _⟩
  refine p12 _ _ _ ?_ ⟨(k + 1), rfl, t3, t6, t7, (Eq.trans t8 (by first | rfl | simp)), ?_, ?_⟩
  · omega
  · omega
  · rw [hc, orI_drop (by omega), if_pos (by omega)]
 refine W_seq_exit ?_
 refine p32 _ _ _ ?_
 refine x1 _ _ ?_
 refine .done ?_
 refine W_seq_regc (fun T H => T 2 = (iV (0 : Int)) ∧ True) ?_ ?_
 ·
  unfold r106_8
  refine R_mv t3 ?_
  refine R_mv (@rfl V (iV (0 : Int))) ?_
  exact R_nil ⟨rfl, trivial⟩
 intro T H ⟨t2, _⟩
 refine W_ret ?_
 refine Ret_1 t2 (fz_int ?_)
 · rw [hc, List.drop_of_length_le (by omega)]; rfl
end Go.Proofs.YtmnjchcoigbngaaGreat


