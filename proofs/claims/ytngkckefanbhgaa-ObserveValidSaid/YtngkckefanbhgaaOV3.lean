/- Contracts of the functions that the law OV reaches, and the law itself, for every input; no condition. -/
import Derived.KernelRfl
import Derived.Test.YtngkckefanbhgaaProg
import Derived.Shelf.Spec.SlicesInsertGrow
import Derived.Test.YtngkckefanbhgaaRows
import Derived.Test.YtngkckefanbhgaaOV2
set_option linter.unusedSimpArgs false
set_option linter.unusedVariables false
namespace Go.Proofs.Ytngkckefanbhgaa
open Go Go.Proofs

def r132_0 : List SO := [
  ⟨none, some 10, .mv (.c (.int .i64 0))⟩,
  ⟨none, some 11, .mv (.c (.bool false))⟩]
def r132_1 : List SO := [
  ⟨none, some 14, .mv (.t 0)⟩,
  ⟨none, some 15, .mv (.t 1)⟩,
  ⟨none, some 16, .mv (.t 0)⟩,
  ⟨none, some 17, .mv (.t 3)⟩,
  ⟨none, some 18, .mv (.t 0)⟩,
  ⟨none, some 19, .mv (.t 3)⟩,
  ⟨none, some 20, .idx 2 (.t 18) (.t 19)⟩,
  ⟨none, some 21, .load true 2 (.t 20)⟩,
  ⟨none, some 22, .mv (.t 0)⟩,
  ⟨none, some 23, .mv (.t 1)⟩,
  ⟨none, some 24, .idx 2 (.t 22) (.t 23)⟩,
  ⟨none, some 25, .load true 2 (.t 24)⟩,
  ⟨none, some 26, .idx 2 (.t 14) (.t 15)⟩,
  ⟨none, none, .store 2 (.t 26) (.t 21)⟩,
  ⟨none, some 27, .idx 2 (.t 16) (.t 17)⟩,
  ⟨none, none, .store 2 (.t 27) (.t 25)⟩]
def r132_2 : List SO := [
  ⟨none, some 28, .mv (.t 1)⟩,
  ⟨none, some 29, .bin .add (.t 28) (.c (.int .i64 1))⟩,
  ⟨none, some 30, .mv (.t 2)⟩,
  ⟨none, some 31, .bin .sub (.t 30) (.c (.int .i64 1))⟩,
  ⟨none, some 12, .mv (.t 29)⟩,
  ⟨none, some 13, .mv (.t 31)⟩]
def r132_3 : List SO := [
  ⟨none, some 32, .mv (.t 12)⟩,
  ⟨none, some 33, .mv (.t 13)⟩,
  ⟨none, some 34, .bin .leq (.t 32) (.t 33)⟩,
  ⟨none, some 35, .mv (.t 34)⟩,
  ⟨some (35, true), some 36, .mv (.t 4)⟩,
  ⟨some (35, true), some 37, .mv (.t 0)⟩,
  ⟨some (35, true), some 38, .mv (.t 12)⟩,
  ⟨some (35, true), some 39, .idx 2 (.t 37) (.t 38)⟩,
  ⟨some (35, true), some 40, .load true 2 (.t 39)⟩,
  ⟨some (35, true), some 41, .mv (.t 0)⟩,
  ⟨some (35, true), some 42, .mv (.t 1)⟩,
  ⟨some (35, true), some 43, .idx 2 (.t 41) (.t 42)⟩,
  ⟨some (35, true), some 44, .load true 2 (.t 43)⟩,
  ⟨some (35, true), some 45, .callv false (.t 36) [.t 40, .t 44]⟩,
  ⟨some (35, true), some 46, .bin .lss (.t 45) (.c (.int .i64 0))⟩,
  ⟨none, some 47, .pick (.t 35) (.t 46) (.c (.bool false))⟩]
def r132_4 : List SO := [
  ⟨none, some 48, .mv (.t 12)⟩,
  ⟨none, some 49, .bin .add (.t 48) (.c (.int .i64 1))⟩,
  ⟨none, some 12, .mv (.t 49)⟩]
def b132_0 : SC := .seq (.seq (.reg r132_3) (.cond (.t 47) (.skip) (.exit 0))) (.block 1 (.reg r132_4))
def r132_5 : List SO := [
  ⟨none, some 50, .mv (.t 12)⟩,
  ⟨none, some 51, .mv (.t 13)⟩,
  ⟨none, some 52, .bin .leq (.t 50) (.t 51)⟩,
  ⟨none, some 53, .mv (.t 52)⟩,
  ⟨some (53, true), some 54, .mv (.t 4)⟩,
  ⟨some (53, true), some 55, .mv (.t 0)⟩,
  ⟨some (53, true), some 56, .mv (.t 13)⟩,
  ⟨some (53, true), some 57, .idx 2 (.t 55) (.t 56)⟩,
  ⟨some (53, true), some 58, .load true 2 (.t 57)⟩,
  ⟨some (53, true), some 59, .mv (.t 0)⟩,
  ⟨some (53, true), some 60, .mv (.t 1)⟩,
  ⟨some (53, true), some 61, .idx 2 (.t 59) (.t 60)⟩,
  ⟨some (53, true), some 62, .load true 2 (.t 61)⟩,
  ⟨some (53, true), some 63, .callv false (.t 54) [.t 58, .t 62]⟩,
  ⟨some (53, true), some 64, .bin .lss (.t 63) (.c (.int .i64 0))⟩,
  ⟨some (53, true), some 65, .un .not (.t 64)⟩,
  ⟨none, some 66, .pick (.t 53) (.t 65) (.c (.bool false))⟩]
def r132_6 : List SO := [
  ⟨none, some 67, .mv (.t 13)⟩,
  ⟨none, some 68, .bin .sub (.t 67) (.c (.int .i64 1))⟩,
  ⟨none, some 13, .mv (.t 68)⟩]
def b132_1 : SC := .seq (.seq (.reg r132_5) (.cond (.t 66) (.skip) (.exit 2))) (.block 3 (.reg r132_6))
def r132_7 : List SO := [
  ⟨none, some 69, .mv (.t 12)⟩,
  ⟨none, some 70, .mv (.t 13)⟩,
  ⟨none, some 71, .bin .gtr (.t 69) (.t 70)⟩]
def r132_8 : List SO := [
  ⟨none, some 72, .mv (.t 0)⟩,
  ⟨none, some 73, .mv (.t 13)⟩,
  ⟨none, some 74, .mv (.t 0)⟩,
  ⟨none, some 75, .mv (.t 1)⟩,
  ⟨none, some 76, .mv (.t 0)⟩,
  ⟨none, some 77, .mv (.t 1)⟩,
  ⟨none, some 78, .idx 2 (.t 76) (.t 77)⟩,
  ⟨none, some 79, .load true 2 (.t 78)⟩,
  ⟨none, some 80, .mv (.t 0)⟩,
  ⟨none, some 81, .mv (.t 13)⟩,
  ⟨none, some 82, .idx 2 (.t 80) (.t 81)⟩,
  ⟨none, some 83, .load true 2 (.t 82)⟩,
  ⟨none, some 84, .idx 2 (.t 72) (.t 73)⟩,
  ⟨none, none, .store 2 (.t 84) (.t 79)⟩,
  ⟨none, some 85, .idx 2 (.t 74) (.t 75)⟩,
  ⟨none, none, .store 2 (.t 85) (.t 83)⟩]
def r132_9 : List SO := [
  ⟨none, some 86, .mv (.t 13)⟩,
  ⟨none, some 10, .mv (.t 86)⟩,
  ⟨none, some 11, .mv (.c (.bool true))⟩]
def r132_10 : List SO := [
  ⟨none, some 87, .mv (.t 0)⟩,
  ⟨none, some 88, .mv (.t 12)⟩,
  ⟨none, some 89, .mv (.t 0)⟩,
  ⟨none, some 90, .mv (.t 13)⟩,
  ⟨none, some 91, .mv (.t 0)⟩,
  ⟨none, some 92, .mv (.t 13)⟩,
  ⟨none, some 93, .idx 2 (.t 91) (.t 92)⟩,
  ⟨none, some 94, .load true 2 (.t 93)⟩,
  ⟨none, some 95, .mv (.t 0)⟩,
  ⟨none, some 96, .mv (.t 12)⟩,
  ⟨none, some 97, .idx 2 (.t 95) (.t 96)⟩,
  ⟨none, some 98, .load true 2 (.t 97)⟩,
  ⟨none, some 99, .idx 2 (.t 87) (.t 88)⟩,
  ⟨none, none, .store 2 (.t 99) (.t 94)⟩,
  ⟨none, some 100, .idx 2 (.t 89) (.t 90)⟩,
  ⟨none, none, .store 2 (.t 100) (.t 98)⟩]
def r132_11 : List SO := [
  ⟨none, some 101, .mv (.t 12)⟩,
  ⟨none, some 102, .bin .add (.t 101) (.c (.int .i64 1))⟩,
  ⟨none, some 12, .mv (.t 102)⟩]
def r132_12 : List SO := [
  ⟨none, some 103, .mv (.t 13)⟩,
  ⟨none, some 104, .bin .sub (.t 103) (.c (.int .i64 1))⟩,
  ⟨none, some 13, .mv (.t 104)⟩]
def r132_13 : List SO := [
  ⟨none, some 105, .mv (.t 12)⟩,
  ⟨none, some 106, .mv (.t 13)⟩,
  ⟨none, some 107, .bin .leq (.t 105) (.t 106)⟩,
  ⟨none, some 108, .mv (.t 107)⟩,
  ⟨some (108, true), some 109, .mv (.t 4)⟩,
  ⟨some (108, true), some 110, .mv (.t 0)⟩,
  ⟨some (108, true), some 111, .mv (.t 12)⟩,
  ⟨some (108, true), some 112, .idx 2 (.t 110) (.t 111)⟩,
  ⟨some (108, true), some 113, .load true 2 (.t 112)⟩,
  ⟨some (108, true), some 114, .mv (.t 0)⟩,
  ⟨some (108, true), some 115, .mv (.t 1)⟩,
  ⟨some (108, true), some 116, .idx 2 (.t 114) (.t 115)⟩,
  ⟨some (108, true), some 117, .load true 2 (.t 116)⟩,
  ⟨some (108, true), some 118, .callv false (.t 109) [.t 113, .t 117]⟩,
  ⟨some (108, true), some 119, .bin .lss (.t 118) (.c (.int .i64 0))⟩,
  ⟨none, some 120, .pick (.t 108) (.t 119) (.c (.bool false))⟩]
def r132_14 : List SO := [
  ⟨none, some 121, .mv (.t 12)⟩,
  ⟨none, some 122, .bin .add (.t 121) (.c (.int .i64 1))⟩,
  ⟨none, some 12, .mv (.t 122)⟩]
def b132_3 : SC := .seq (.seq (.reg r132_13) (.cond (.t 120) (.skip) (.exit 6))) (.block 7 (.reg r132_14))
def r132_15 : List SO := [
  ⟨none, some 123, .mv (.t 12)⟩,
  ⟨none, some 124, .mv (.t 13)⟩,
  ⟨none, some 125, .bin .leq (.t 123) (.t 124)⟩,
  ⟨none, some 126, .mv (.t 125)⟩,
  ⟨some (126, true), some 127, .mv (.t 4)⟩,
  ⟨some (126, true), some 128, .mv (.t 0)⟩,
  ⟨some (126, true), some 129, .mv (.t 13)⟩,
  ⟨some (126, true), some 130, .idx 2 (.t 128) (.t 129)⟩,
  ⟨some (126, true), some 131, .load true 2 (.t 130)⟩,
  ⟨some (126, true), some 132, .mv (.t 0)⟩,
  ⟨some (126, true), some 133, .mv (.t 1)⟩,
  ⟨some (126, true), some 134, .idx 2 (.t 132) (.t 133)⟩,
  ⟨some (126, true), some 135, .load true 2 (.t 134)⟩,
  ⟨some (126, true), some 136, .callv false (.t 127) [.t 131, .t 135]⟩,
  ⟨some (126, true), some 137, .bin .lss (.t 136) (.c (.int .i64 0))⟩,
  ⟨some (126, true), some 138, .un .not (.t 137)⟩,
  ⟨none, some 139, .pick (.t 126) (.t 138) (.c (.bool false))⟩]
def r132_16 : List SO := [
  ⟨none, some 140, .mv (.t 13)⟩,
  ⟨none, some 141, .bin .sub (.t 140) (.c (.int .i64 1))⟩,
  ⟨none, some 13, .mv (.t 141)⟩]
def b132_4 : SC := .seq (.seq (.reg r132_15) (.cond (.t 139) (.skip) (.exit 8))) (.block 9 (.reg r132_16))
def r132_17 : List SO := [
  ⟨none, some 142, .mv (.t 12)⟩,
  ⟨none, some 143, .mv (.t 13)⟩,
  ⟨none, some 144, .bin .gtr (.t 142) (.t 143)⟩]
def r132_18 : List SO := [
  ⟨none, some 145, .mv (.t 0)⟩,
  ⟨none, some 146, .mv (.t 12)⟩,
  ⟨none, some 147, .mv (.t 0)⟩,
  ⟨none, some 148, .mv (.t 13)⟩,
  ⟨none, some 149, .mv (.t 0)⟩,
  ⟨none, some 150, .mv (.t 13)⟩,
  ⟨none, some 151, .idx 2 (.t 149) (.t 150)⟩,
  ⟨none, some 152, .load true 2 (.t 151)⟩,
  ⟨none, some 153, .mv (.t 0)⟩,
  ⟨none, some 154, .mv (.t 12)⟩,
  ⟨none, some 155, .idx 2 (.t 153) (.t 154)⟩,
  ⟨none, some 156, .load true 2 (.t 155)⟩,
  ⟨none, some 157, .idx 2 (.t 145) (.t 146)⟩,
  ⟨none, none, .store 2 (.t 157) (.t 152)⟩,
  ⟨none, some 158, .idx 2 (.t 147) (.t 148)⟩,
  ⟨none, none, .store 2 (.t 158) (.t 156)⟩]
def r132_19 : List SO := [
  ⟨none, some 159, .mv (.t 12)⟩,
  ⟨none, some 160, .bin .add (.t 159) (.c (.int .i64 1))⟩,
  ⟨none, some 12, .mv (.t 160)⟩]
def r132_20 : List SO := [
  ⟨none, some 161, .mv (.t 13)⟩,
  ⟨none, some 162, .bin .sub (.t 161) (.c (.int .i64 1))⟩,
  ⟨none, some 13, .mv (.t 162)⟩]
def b132_2 : SC := .block 5 (.seq (.block 6 (.loop b132_3)) (.seq (.block 8 (.loop b132_4)) (.seq (.seq (.reg r132_17) (.cond (.t 144) (.exit 4) (.skip))) (.seq (.reg r132_18) (.seq (.reg r132_19) (.reg r132_20))))))
def r132_21 : List SO := [
  ⟨none, some 163, .mv (.t 0)⟩,
  ⟨none, some 164, .mv (.t 13)⟩,
  ⟨none, some 165, .mv (.t 0)⟩,
  ⟨none, some 166, .mv (.t 1)⟩,
  ⟨none, some 167, .mv (.t 0)⟩,
  ⟨none, some 168, .mv (.t 1)⟩,
  ⟨none, some 169, .idx 2 (.t 167) (.t 168)⟩,
  ⟨none, some 170, .load true 2 (.t 169)⟩,
  ⟨none, some 171, .mv (.t 0)⟩,
  ⟨none, some 172, .mv (.t 13)⟩,
  ⟨none, some 173, .idx 2 (.t 171) (.t 172)⟩,
  ⟨none, some 174, .load true 2 (.t 173)⟩,
  ⟨none, some 175, .idx 2 (.t 163) (.t 164)⟩,
  ⟨none, none, .store 2 (.t 175) (.t 170)⟩,
  ⟨none, some 176, .idx 2 (.t 165) (.t 166)⟩,
  ⟨none, none, .store 2 (.t 176) (.t 174)⟩]
def r132_22 : List SO := [
  ⟨none, some 177, .mv (.t 13)⟩,
  ⟨none, some 10, .mv (.t 177)⟩,
  ⟨none, some 11, .mv (.c (.bool false))⟩]
def s132 : SF := ⟨178, [.tmp 10, .tmp 11], .seq (.reg r132_0) (.seq (.reg r132_1) (.seq (.reg r132_2) (.seq (.block 0 (.loop b132_0)) (.seq (.block 2 (.loop b132_1)) (.seq (.seq (.reg r132_7) (.cond (.t 71) (.seq (.reg r132_8) (.seq (.reg r132_9) (.ret))) (.skip))) (.seq (.reg r132_10) (.seq (.reg r132_11) (.seq (.reg r132_12) (.seq (.block 4 (.loop b132_2)) (.seq (.reg r132_21) (.seq (.reg r132_22) (.ret))))))))))))⟩
theorem s132_ok : slimF Try.prog ⟨[94, 102, 103, 108, 109, 116, 119, 121, 125], []⟩ Try.f132 = some s132 := by kernel_rfl

end Go.Proofs.Ytngkckefanbhgaa

namespace Go.Proofs.Ytngkckefanbhgaa
open Go Go.Proofs

def r133_0 : List SO := [
  ⟨none, some 2, .mv (.c (.int .i64 0))⟩]
def r133_1 : List SO := [
  ⟨none, some 3, .mv (.t 0)⟩,
  ⟨none, some 4, .bin .geq (.t 3) (.c (.int .u32 65536))⟩]
def r133_2 : List SO := [
  ⟨none, some 5, .mv (.t 0)⟩,
  ⟨none, some 6, .bin .shr (.t 5) (.c (.int .u64 16))⟩,
  ⟨none, some 0, .mv (.t 6)⟩]
def r133_3 : List SO := [
  ⟨none, some 2, .mv (.c (.int .i64 16))⟩]
def r133_4 : List SO := [
  ⟨none, some 7, .mv (.t 0)⟩,
  ⟨none, some 8, .bin .geq (.t 7) (.c (.int .u32 256))⟩]
def r133_5 : List SO := [
  ⟨none, some 9, .mv (.t 0)⟩,
  ⟨none, some 10, .bin .shr (.t 9) (.c (.int .u64 8))⟩,
  ⟨none, some 0, .mv (.t 10)⟩]
def r133_6 : List SO := [
  ⟨none, some 11, .mv (.t 2)⟩,
  ⟨none, some 12, .bin .add (.t 11) (.c (.int .i64 8))⟩,
  ⟨none, some 2, .mv (.t 12)⟩]
def r133_7 : List SO := [
  ⟨none, some 13, .mv (.t 2)⟩,
  ⟨none, some 14, .mv (.t 0)⟩,
  ⟨none, some 15, .conv .u8 (.t 14)⟩,
  ⟨none, some 16, .sidx (.c (.str [0, 1, 2, 2, 3, 3, 3, 3, 4, 4, 4, 4, 4, 4, 4, 4, 5, 5, 5, 5, 5, 5, 5, 5, 5, 5, 5, 5, 5, 5, 5, 5, 6, 6, 6, 6, 6, 6, 6, 6, 6, 6, 6, 6, 6, 6, 6, 6, 6, 6, 6, 6, 6, 6, 6, 6, 6, 6, 6, 6, 6, 6, 6, 6, 7, 7, 7, 7, 7, 7, 7, 7, 7, 7, 7, 7, 7, 7, 7, 7, 7, 7, 7, 7, 7, 7, 7, 7, 7, 7, 7, 7, 7, 7, 7, 7, 7, 7, 7, 7, 7, 7, 7, 7, 7, 7, 7, 7, 7, 7, 7, 7, 7, 7, 7, 7, 7, 7, 7, 7, 7, 7, 7, 7, 7, 7, 7, 7, 8, 8, 8, 8, 8, 8, 8, 8, 8, 8, 8, 8, 8, 8, 8, 8, 8, 8, 8, 8, 8, 8, 8, 8, 8, 8, 8, 8, 8, 8, 8, 8, 8, 8, 8, 8, 8, 8, 8, 8, 8, 8, 8, 8, 8, 8, 8, 8, 8, 8, 8, 8, 8, 8, 8, 8, 8, 8, 8, 8, 8, 8, 8, 8, 8, 8, 8, 8, 8, 8, 8, 8, 8, 8, 8, 8, 8, 8, 8, 8, 8, 8, 8, 8, 8, 8, 8, 8, 8, 8, 8, 8, 8, 8, 8, 8, 8, 8, 8, 8, 8, 8, 8, 8, 8, 8, 8, 8, 8, 8, 8, 8, 8, 8, 8, 8, 8, 8, 8, 8, 8, 8, 8, 8, 8, 8, 8, 8])) (.t 15)⟩,
  ⟨none, some 17, .conv .i64 (.t 16)⟩,
  ⟨none, some 18, .bin .add (.t 13) (.t 17)⟩,
  ⟨none, some 2, .mv (.t 18)⟩]
def s133 : SF := ⟨19, [.tmp 2], .seq (.reg r133_0) (.seq (.seq (.reg r133_1) (.cond (.t 4) (.seq (.reg r133_2) (.reg r133_3)) (.skip))) (.seq (.seq (.reg r133_4) (.cond (.t 8) (.seq (.reg r133_5) (.reg r133_6)) (.skip))) (.seq (.reg r133_7) (.ret))))⟩
theorem s133_ok : slimF Try.prog ⟨[94, 102, 103, 108, 109, 116, 119, 121, 125], []⟩ Try.f133 = some s133 := by kernel_rfl

end Go.Proofs.Ytngkckefanbhgaa

namespace Go.Proofs.Ytngkckefanbhgaa
open Go Go.Proofs

def r134_0 : List SO := [
  ⟨none, some 2, .mv (.c (.int .i64 0))⟩]
def r134_1 : List SO := [
  ⟨none, some 3, .mv (.t 0)⟩,
  ⟨none, some 4, .bin .geq (.t 3) (.c (.int .u64 4294967296))⟩]
def r134_2 : List SO := [
  ⟨none, some 5, .mv (.t 0)⟩,
  ⟨none, some 6, .bin .shr (.t 5) (.c (.int .u64 32))⟩,
  ⟨none, some 0, .mv (.t 6)⟩]
def r134_3 : List SO := [
  ⟨none, some 2, .mv (.c (.int .i64 32))⟩]
def r134_4 : List SO := [
  ⟨none, some 7, .mv (.t 0)⟩,
  ⟨none, some 8, .bin .geq (.t 7) (.c (.int .u64 65536))⟩]
def r134_5 : List SO := [
  ⟨none, some 9, .mv (.t 0)⟩,
  ⟨none, some 10, .bin .shr (.t 9) (.c (.int .u64 16))⟩,
  ⟨none, some 0, .mv (.t 10)⟩]
def r134_6 : List SO := [
  ⟨none, some 11, .mv (.t 2)⟩,
  ⟨none, some 12, .bin .add (.t 11) (.c (.int .i64 16))⟩,
  ⟨none, some 2, .mv (.t 12)⟩]
def r134_7 : List SO := [
  ⟨none, some 13, .mv (.t 0)⟩,
  ⟨none, some 14, .bin .geq (.t 13) (.c (.int .u64 256))⟩]
def r134_8 : List SO := [
  ⟨none, some 15, .mv (.t 0)⟩,
  ⟨none, some 16, .bin .shr (.t 15) (.c (.int .u64 8))⟩,
  ⟨none, some 0, .mv (.t 16)⟩]
def r134_9 : List SO := [
  ⟨none, some 17, .mv (.t 2)⟩,
  ⟨none, some 18, .bin .add (.t 17) (.c (.int .i64 8))⟩,
  ⟨none, some 2, .mv (.t 18)⟩]
def r134_10 : List SO := [
  ⟨none, some 19, .mv (.t 2)⟩,
  ⟨none, some 20, .mv (.t 0)⟩,
  ⟨none, some 21, .conv .u8 (.t 20)⟩,
  ⟨none, some 22, .sidx (.c (.str [0, 1, 2, 2, 3, 3, 3, 3, 4, 4, 4, 4, 4, 4, 4, 4, 5, 5, 5, 5, 5, 5, 5, 5, 5, 5, 5, 5, 5, 5, 5, 5, 6, 6, 6, 6, 6, 6, 6, 6, 6, 6, 6, 6, 6, 6, 6, 6, 6, 6, 6, 6, 6, 6, 6, 6, 6, 6, 6, 6, 6, 6, 6, 6, 7, 7, 7, 7, 7, 7, 7, 7, 7, 7, 7, 7, 7, 7, 7, 7, 7, 7, 7, 7, 7, 7, 7, 7, 7, 7, 7, 7, 7, 7, 7, 7, 7, 7, 7, 7, 7, 7, 7, 7, 7, 7, 7, 7, 7, 7, 7, 7, 7, 7, 7, 7, 7, 7, 7, 7, 7, 7, 7, 7, 7, 7, 7, 7, 8, 8, 8, 8, 8, 8, 8, 8, 8, 8, 8, 8, 8, 8, 8, 8, 8, 8, 8, 8, 8, 8, 8, 8, 8, 8, 8, 8, 8, 8, 8, 8, 8, 8, 8, 8, 8, 8, 8, 8, 8, 8, 8, 8, 8, 8, 8, 8, 8, 8, 8, 8, 8, 8, 8, 8, 8, 8, 8, 8, 8, 8, 8, 8, 8, 8, 8, 8, 8, 8, 8, 8, 8, 8, 8, 8, 8, 8, 8, 8, 8, 8, 8, 8, 8, 8, 8, 8, 8, 8, 8, 8, 8, 8, 8, 8, 8, 8, 8, 8, 8, 8, 8, 8, 8, 8, 8, 8, 8, 8, 8, 8, 8, 8, 8, 8, 8, 8, 8, 8, 8, 8, 8, 8, 8, 8, 8, 8])) (.t 21)⟩,
  ⟨none, some 23, .conv .i64 (.t 22)⟩,
  ⟨none, some 24, .bin .add (.t 19) (.t 23)⟩,
  ⟨none, some 2, .mv (.t 24)⟩]
def s134 : SF := ⟨25, [.tmp 2], .seq (.reg r134_0) (.seq (.seq (.reg r134_1) (.cond (.t 4) (.seq (.reg r134_2) (.reg r134_3)) (.skip))) (.seq (.seq (.reg r134_4) (.cond (.t 8) (.seq (.reg r134_5) (.reg r134_6)) (.skip))) (.seq (.seq (.reg r134_7) (.cond (.t 14) (.seq (.reg r134_8) (.reg r134_9)) (.skip))) (.seq (.reg r134_10) (.ret)))))⟩
theorem s134_ok : slimF Try.prog ⟨[94, 102, 103, 108, 109, 116, 119, 121, 125], []⟩ Try.f134 = some s134 := by kernel_rfl

end Go.Proofs.Ytngkckefanbhgaa

namespace Go.Proofs.Ytngkckefanbhgaa
open Go Go.Proofs

def r136_0 : List SO := [
  ⟨none, some 12, .mv (.t 1)⟩,
  ⟨none, some 10, .mv (.t 12)⟩]
def r136_1 : List SO := [
  ⟨none, some 13, .mv (.t 10)⟩,
  ⟨none, some 14, .bin .mul (.c (.int .i64 2)) (.t 13)⟩,
  ⟨none, some 15, .bin .add (.t 14) (.c (.int .i64 1))⟩,
  ⟨none, some 11, .mv (.t 15)⟩]
def r136_2 : List SO := [
  ⟨none, some 16, .mv (.t 11)⟩,
  ⟨none, some 17, .mv (.t 2)⟩,
  ⟨none, some 18, .bin .geq (.t 16) (.t 17)⟩]
def r136_3 : List SO := [
  ⟨none, some 19, .mv (.t 11)⟩,
  ⟨none, some 20, .bin .add (.t 19) (.c (.int .i64 1))⟩,
  ⟨none, some 21, .mv (.t 2)⟩,
  ⟨none, some 22, .bin .lss (.t 20) (.t 21)⟩,
  ⟨none, some 23, .mv (.t 22)⟩,
  ⟨some (23, true), some 24, .mv (.t 4)⟩,
  ⟨some (23, true), some 25, .mv (.t 0)⟩,
  ⟨some (23, true), some 26, .mv (.t 3)⟩,
  ⟨some (23, true), some 27, .mv (.t 11)⟩,
  ⟨some (23, true), some 28, .bin .add (.t 26) (.t 27)⟩,
  ⟨some (23, true), some 29, .idx 2 (.t 25) (.t 28)⟩,
  ⟨some (23, true), some 30, .load true 2 (.t 29)⟩,
  ⟨some (23, true), some 31, .mv (.t 0)⟩,
  ⟨some (23, true), some 32, .mv (.t 3)⟩,
  ⟨some (23, true), some 33, .mv (.t 11)⟩,
  ⟨some (23, true), some 34, .bin .add (.t 32) (.t 33)⟩,
  ⟨some (23, true), some 35, .bin .add (.t 34) (.c (.int .i64 1))⟩,
  ⟨some (23, true), some 36, .idx 2 (.t 31) (.t 35)⟩,
  ⟨some (23, true), some 37, .load true 2 (.t 36)⟩,
  ⟨some (23, true), some 38, .callv false (.t 24) [.t 30, .t 37]⟩,
  ⟨some (23, true), some 39, .bin .lss (.t 38) (.c (.int .i64 0))⟩,
  ⟨none, some 40, .pick (.t 23) (.t 39) (.c (.bool false))⟩]
def r136_4 : List SO := [
  ⟨none, some 41, .mv (.t 11)⟩,
  ⟨none, some 42, .bin .add (.t 41) (.c (.int .i64 1))⟩,
  ⟨none, some 11, .mv (.t 42)⟩]
def r136_5 : List SO := [
  ⟨none, some 43, .mv (.t 4)⟩,
  ⟨none, some 44, .mv (.t 0)⟩,
  ⟨none, some 45, .mv (.t 3)⟩,
  ⟨none, some 46, .mv (.t 10)⟩,
  ⟨none, some 47, .bin .add (.t 45) (.t 46)⟩,
  ⟨none, some 48, .idx 2 (.t 44) (.t 47)⟩,
  ⟨none, some 49, .load true 2 (.t 48)⟩,
  ⟨none, some 50, .mv (.t 0)⟩,
  ⟨none, some 51, .mv (.t 3)⟩,
  ⟨none, some 52, .mv (.t 11)⟩,
  ⟨none, some 53, .bin .add (.t 51) (.t 52)⟩,
  ⟨none, some 54, .idx 2 (.t 50) (.t 53)⟩,
  ⟨none, some 55, .load true 2 (.t 54)⟩,
  ⟨none, some 56, .callv false (.t 43) [.t 49, .t 55]⟩,
  ⟨none, some 57, .bin .lss (.t 56) (.c (.int .i64 0))⟩,
  ⟨none, some 58, .un .not (.t 57)⟩]
def r136_6 : List SO := [
  ⟨none, some 59, .mv (.t 0)⟩,
  ⟨none, some 60, .mv (.t 3)⟩,
  ⟨none, some 61, .mv (.t 10)⟩,
  ⟨none, some 62, .bin .add (.t 60) (.t 61)⟩,
  ⟨none, some 63, .mv (.t 0)⟩,
  ⟨none, some 64, .mv (.t 3)⟩,
  ⟨none, some 65, .mv (.t 11)⟩,
  ⟨none, some 66, .bin .add (.t 64) (.t 65)⟩,
  ⟨none, some 67, .mv (.t 0)⟩,
  ⟨none, some 68, .mv (.t 3)⟩,
  ⟨none, some 69, .mv (.t 11)⟩,
  ⟨none, some 70, .bin .add (.t 68) (.t 69)⟩,
  ⟨none, some 71, .idx 2 (.t 67) (.t 70)⟩,
  ⟨none, some 72, .load true 2 (.t 71)⟩,
  ⟨none, some 73, .mv (.t 0)⟩,
  ⟨none, some 74, .mv (.t 3)⟩,
  ⟨none, some 75, .mv (.t 10)⟩,
  ⟨none, some 76, .bin .add (.t 74) (.t 75)⟩,
  ⟨none, some 77, .idx 2 (.t 73) (.t 76)⟩,
  ⟨none, some 78, .load true 2 (.t 77)⟩,
  ⟨none, some 79, .idx 2 (.t 59) (.t 62)⟩,
  ⟨none, none, .store 2 (.t 79) (.t 72)⟩,
  ⟨none, some 80, .idx 2 (.t 63) (.t 66)⟩,
  ⟨none, none, .store 2 (.t 80) (.t 78)⟩]
def r136_7 : List SO := [
  ⟨none, some 81, .mv (.t 11)⟩,
  ⟨none, some 10, .mv (.t 81)⟩]
def b136_0 : SC := .block 1 (.seq (.reg r136_1) (.seq (.seq (.reg r136_2) (.cond (.t 18) (.exit 0) (.skip))) (.seq (.seq (.reg r136_3) (.cond (.t 40) (.reg r136_4) (.skip))) (.seq (.seq (.reg r136_5) (.cond (.t 58) (.ret) (.skip))) (.seq (.reg r136_6) (.reg r136_7))))))
def s136 : SF := ⟨82, [], .seq (.reg r136_0) (.block 0 (.loop b136_0))⟩
theorem s136_ok : slimF Try.prog ⟨[94, 102, 103, 108, 109, 116, 119, 121, 125], []⟩ Try.f136 = some s136 := by kernel_rfl

end Go.Proofs.Ytngkckefanbhgaa

namespace Go.Proofs.Ytngkckefanbhgaa
open Go Go.Proofs

def r137_0 : List SO := [
  ⟨none, some 2, .mv (.c (.int .u64 0))⟩]
def r137_1 : List SO := [
  ⟨none, some 3, .mv (.t 0)⟩,
  ⟨none, some 4, .conv .u64 (.t 3)⟩,
  ⟨none, some 5, .call false 122 [.t 4]⟩,
  ⟨none, some 6, .bin .shl (.c (.int .u64 1)) (.t 5)⟩,
  ⟨none, some 2, .mv (.t 6)⟩]
def s137 : SF := ⟨7, [.tmp 2], .seq (.reg r137_0) (.seq (.reg r137_1) (.ret))⟩
theorem s137_ok : slimF Try.prog ⟨[94, 102, 103, 108, 109, 116, 119, 121, 125], []⟩ Try.f137 = some s137 := by kernel_rfl

end Go.Proofs.Ytngkckefanbhgaa

namespace Go.Proofs.Ytngkckefanbhgaa
open Go Go.Proofs

def r138_0 : List SO := [
  ⟨none, some 2, .mv (.c (.int .u64 0))⟩]
def r138_1 : List SO := [
  ⟨none, some 3, .mv (.t 0)⟩,
  ⟨none, some 4, .nilck (.t 3)⟩,
  ⟨none, some 5, .load false 1 (.t 4)⟩,
  ⟨none, some 6, .mv (.t 0)⟩,
  ⟨none, some 7, .nilck (.t 6)⟩,
  ⟨none, some 8, .load false 1 (.t 7)⟩,
  ⟨none, some 9, .bin .shl (.t 8) (.c (.int .u64 13))⟩,
  ⟨none, some 10, .bin .xor (.t 5) (.t 9)⟩,
  ⟨none, some 11, .nilck (.t 3)⟩,
  ⟨none, none, .store 1 (.t 11) (.t 10)⟩]
def r138_2 : List SO := [
  ⟨none, some 12, .mv (.t 0)⟩,
  ⟨none, some 13, .nilck (.t 12)⟩,
  ⟨none, some 14, .load false 1 (.t 13)⟩,
  ⟨none, some 15, .mv (.t 0)⟩,
  ⟨none, some 16, .nilck (.t 15)⟩,
  ⟨none, some 17, .load false 1 (.t 16)⟩,
  ⟨none, some 18, .bin .shr (.t 17) (.c (.int .u64 7))⟩,
  ⟨none, some 19, .bin .xor (.t 14) (.t 18)⟩,
  ⟨none, some 20, .nilck (.t 12)⟩,
  ⟨none, none, .store 1 (.t 20) (.t 19)⟩]
def r138_3 : List SO := [
  ⟨none, some 21, .mv (.t 0)⟩,
  ⟨none, some 22, .nilck (.t 21)⟩,
  ⟨none, some 23, .load false 1 (.t 22)⟩,
  ⟨none, some 24, .mv (.t 0)⟩,
  ⟨none, some 25, .nilck (.t 24)⟩,
  ⟨none, some 26, .load false 1 (.t 25)⟩,
  ⟨none, some 27, .bin .shl (.t 26) (.c (.int .u64 17))⟩,
  ⟨none, some 28, .bin .xor (.t 23) (.t 27)⟩,
  ⟨none, some 29, .nilck (.t 21)⟩,
  ⟨none, none, .store 1 (.t 29) (.t 28)⟩]
def r138_4 : List SO := [
  ⟨none, some 30, .mv (.t 0)⟩,
  ⟨none, some 31, .nilck (.t 30)⟩,
  ⟨none, some 32, .load false 1 (.t 31)⟩,
  ⟨none, some 2, .mv (.t 32)⟩]
def s138 : SF := ⟨33, [.tmp 2], .seq (.reg r138_0) (.seq (.reg r138_1) (.seq (.reg r138_2) (.seq (.reg r138_3) (.seq (.reg r138_4) (.ret)))))⟩
theorem s138_ok : slimF Try.prog ⟨[94, 102, 103, 108, 109, 116, 119, 121, 125], []⟩ Try.f138 = some s138 := by kernel_rfl

end Go.Proofs.Ytngkckefanbhgaa

namespace Go.Proofs.Ytngkckefanbhgaa
open Go Go.Proofs

def r139_0 : List SO := [
  ⟨none, some 8, .mv (.c (.int .i64 0))⟩]
def r139_1 : List SO := [
  ⟨none, some 9, .mv (.t 0)⟩,
  ⟨none, some 10, .mv (.t 1)⟩,
  ⟨none, some 11, .bin .sub (.t 10) (.c (.int .i64 1))⟩,
  ⟨none, some 12, .mv (.t 1)⟩,
  ⟨none, some 13, .mv (.t 1)⟩,
  ⟨none, some 14, .bin .add (.t 13) (.c (.int .i64 1))⟩,
  ⟨none, some 15, .mv (.t 2)⟩,
  ⟨none, some 16, .mv (.t 3)⟩,
  ⟨none, some 17, .call false 140 [.t 9, .t 11, .t 12, .t 14, .t 15, .t 16]⟩,
  ⟨none, some 8, .mv (.t 17)⟩]
def s139 : SF := ⟨18, [.tmp 8], .seq (.reg r139_0) (.seq (.reg r139_1) (.ret))⟩
theorem s139_ok : slimF Try.prog ⟨[94, 102, 103, 108, 109, 116, 119, 121, 125], []⟩ Try.f139 = some s139 := by kernel_rfl

end Go.Proofs.Ytngkckefanbhgaa

namespace Go.Proofs.Ytngkckefanbhgaa
open Go Go.Proofs

def r140_0 : List SO := [
  ⟨none, some 12, .mv (.c (.int .i64 0))⟩]
def r140_1 : List SO := [
  ⟨none, some 14, .mv (.t 0)⟩,
  ⟨none, some 15, .mv (.t 1)⟩,
  ⟨none, some 16, .mv (.t 2)⟩,
  ⟨none, some 17, .mv (.t 4)⟩,
  ⟨none, some 18, .mv (.t 5)⟩,
  ⟨none, some 19, .call false 142 [.t 14, .t 15, .t 16, .t 17, .t 18]⟩,
  ⟨none, some 13, .mv (.t 19)⟩,
  ⟨none, some 20, .ext (.t 13) 0⟩,
  ⟨none, some 21, .ext (.t 13) 1⟩,
  ⟨none, some 1, .mv (.t 20)⟩,
  ⟨none, some 2, .mv (.t 21)⟩]
def r140_2 : List SO := [
  ⟨none, some 23, .mv (.t 0)⟩,
  ⟨none, some 24, .mv (.t 2)⟩,
  ⟨none, some 25, .mv (.t 3)⟩,
  ⟨none, some 26, .mv (.t 4)⟩,
  ⟨none, some 27, .mv (.t 5)⟩,
  ⟨none, some 28, .call false 142 [.t 23, .t 24, .t 25, .t 26, .t 27]⟩,
  ⟨none, some 22, .mv (.t 28)⟩,
  ⟨none, some 29, .ext (.t 22) 0⟩,
  ⟨none, some 30, .ext (.t 22) 1⟩,
  ⟨none, some 2, .mv (.t 29)⟩,
  ⟨none, some 3, .mv (.t 30)⟩]
def r140_3 : List SO := [
  ⟨none, some 32, .mv (.t 0)⟩,
  ⟨none, some 33, .mv (.t 1)⟩,
  ⟨none, some 34, .mv (.t 2)⟩,
  ⟨none, some 35, .mv (.t 4)⟩,
  ⟨none, some 36, .mv (.t 5)⟩,
  ⟨none, some 37, .call false 142 [.t 32, .t 33, .t 34, .t 35, .t 36]⟩,
  ⟨none, some 31, .mv (.t 37)⟩,
  ⟨none, some 38, .ext (.t 31) 0⟩,
  ⟨none, some 39, .ext (.t 31) 1⟩,
  ⟨none, some 1, .mv (.t 38)⟩,
  ⟨none, some 2, .mv (.t 39)⟩]
def r140_4 : List SO := [
  ⟨none, some 40, .mv (.t 2)⟩,
  ⟨none, some 12, .mv (.t 40)⟩]
def s140 : SF := ⟨41, [.tmp 12], .seq (.reg r140_0) (.seq (.reg r140_1) (.seq (.reg r140_2) (.seq (.reg r140_3) (.seq (.reg r140_4) (.ret)))))⟩
theorem s140_ok : slimF Try.prog ⟨[94, 102, 103, 108, 109, 116, 119, 121, 125], []⟩ Try.f140 = some s140 := by kernel_rfl

end Go.Proofs.Ytngkckefanbhgaa

namespace Go.Proofs.Ytngkckefanbhgaa
open Go Go.Proofs

def r142_0 : List SO := [
  ⟨none, some 10, .mv (.c (.int .i64 0))⟩,
  ⟨none, some 11, .mv (.c (.int .i64 0))⟩]
def r142_1 : List SO := [
  ⟨none, some 12, .mv (.t 4)⟩,
  ⟨none, some 13, .mv (.t 0)⟩,
  ⟨none, some 14, .mv (.t 2)⟩,
  ⟨none, some 15, .idx 2 (.t 13) (.t 14)⟩,
  ⟨none, some 16, .load true 2 (.t 15)⟩,
  ⟨none, some 17, .mv (.t 0)⟩,
  ⟨none, some 18, .mv (.t 1)⟩,
  ⟨none, some 19, .idx 2 (.t 17) (.t 18)⟩,
  ⟨none, some 20, .load true 2 (.t 19)⟩,
  ⟨none, some 21, .callv false (.t 12) [.t 16, .t 20]⟩,
  ⟨none, some 22, .bin .lss (.t 21) (.c (.int .i64 0))⟩]
def r142_2 : List SO := [
  ⟨none, some 23, .mv (.t 3)⟩,
  ⟨none, some 24, .nilck (.t 23)⟩,
  ⟨none, some 25, .load false 1 (.t 24)⟩,
  ⟨none, some 26, .bin .add (.t 25) (.c (.int .i64 1))⟩,
  ⟨none, some 27, .nilck (.t 23)⟩,
  ⟨none, none, .store 1 (.t 27) (.t 26)⟩]
def r142_3 : List SO := [
  ⟨none, some 28, .mv (.t 2)⟩,
  ⟨none, some 29, .mv (.t 1)⟩,
  ⟨none, some 10, .mv (.t 28)⟩,
  ⟨none, some 11, .mv (.t 29)⟩]
def r142_4 : List SO := [
  ⟨none, some 30, .mv (.t 1)⟩,
  ⟨none, some 31, .mv (.t 2)⟩,
  ⟨none, some 10, .mv (.t 30)⟩,
  ⟨none, some 11, .mv (.t 31)⟩]
def s142 : SF := ⟨32, [.tmp 10, .tmp 11], .seq (.reg r142_0) (.seq (.seq (.reg r142_1) (.cond (.t 22) (.seq (.reg r142_2) (.seq (.reg r142_3) (.ret))) (.skip))) (.seq (.reg r142_4) (.ret)))⟩
theorem s142_ok : slimF Try.prog ⟨[94, 102, 103, 108, 109, 116, 119, 121, 125], []⟩ Try.f142 = some s142 := by kernel_rfl

end Go.Proofs.Ytngkckefanbhgaa

/-
  slices.Insert at elements of k cells: the library's text, walked.
-/
namespace Go.Proofs.Ytngkckefanbhgaa
open Go Go.Proofs Go.Shelf Go.RowKit Go.Lib

/-- What lies at a laying of slices.Insert of elements of k cells. -/
structure InsLay (P : Program) (ρ : Ren) (n1 : String) (k bytes : Nat) (z : Value) : Prop where
  mixed : P.follows .mixedOrders = true
  f22 : P.funcs[ρ.f 22]? = some { Body2.n22 ρ with name := n1 }
  ov : ∀ args w, (callFunc (ρ.f 29) args).run P w = ((Extern.SlicesOverlaps.overlaps #[(ρ.t 24), (ρ.t 24)] #[(ρ.t 4)] args).run P w).andThen fun v w' => .ok (.value v) w'
  t0 : P.underlying (ρ.t 0) = some (TypeDesc.tuple #[])
  a0 : ∀ w, (isAgg (ρ.t 0)).run P w = .ok false w
  z0 : ∀ w, (Go.sizeOf (ρ.t 0)).run P w = .ok 1 w
  v0 : ∀ w, (zeroValue (ρ.t 0)).run P w = .ok (Value.tuple #[]) w
  t3 : P.underlying (ρ.t 3) = some (TypeDesc.int IntKind.i64)
  a3 : ∀ w, (isAgg (ρ.t 3)).run P w = .ok false w
  z3 : ∀ w, (Go.sizeOf (ρ.t 3)).run P w = .ok 1 w
  v3 : ∀ w, (zeroValue (ρ.t 3)).run P w = .ok (Value.int IntKind.i64 0) w
  t4 : P.underlying (ρ.t 4) = some (TypeDesc.bool)
  a4 : ∀ w, (isAgg (ρ.t 4)).run P w = .ok false w
  z4 : ∀ w, (Go.sizeOf (ρ.t 4)).run P w = .ok 1 w
  v4 : ∀ w, (zeroValue (ρ.t 4)).run P w = .ok (Value.bool false) w
  z9 : ∀ w, (Go.sizeOf (ρ.t 9)).run P w = .ok k w
  t24 : P.underlying (ρ.t 24) = some (TypeDesc.slice (ρ.t 9))
  a24 : ∀ w, (isAgg (ρ.t 24)).run P w = .ok false w
  z24 : ∀ w, (Go.sizeOf (ρ.t 24)).run P w = .ok 1 w
  v24 : ∀ w, (zeroValue (ρ.t 24)).run P w = .ok (Value.slice none 0 0) w
  i9 : (P.info? (ρ.t 9)).map (fun i => (i.zero, i.size, i.bytes)) = some (some z, k, bytes)
  hk : 0 < k
  hz : z.cells.size = k

variable {P : Program} {ρ : Ren} {n1 : String} {k bytes : Nat} {z : Value}

theorem run_copy_rowk (w : World) (dT sT ty elem : TypeId) (g o dLen dCap : Nat) (a : Addr) (sLen sCap : Nat) (cur : Array Value) (t : TypeId) (cs : List Value) (k : Nat)
    (hu : P.underlying dT = some (.slice elem)) (hs : (P.info? elem).map (·.size) = some k)
    (hg : w.heap[g]? = some (.cells cur t (0, 0))) (hn : cs.length = Nat.min sLen dLen * k)
    (hsrc : ∀ j v, cs[j]? = some v → w.cell? (a.add j) = some v) (hfit : o + cs.length ≤ cur.size) (h1 : ∀ v ∈ cs, v.oneCell' = true) :
    (Builtin.copy_ #[dT, sT] ty #[.slice (some ⟨g, o, none⟩) dLen dCap, .slice (some a) sLen sCap]).run P w =
      .ok (goInt (Nat.min sLen dLen)) (w.setRow g (cur.toList.take o ++ cs ++ cur.toList.drop (o + cs.length)).toArray) := by
  have hl := run_loadCells_list (P := P) w a cs hsrc
  have hst := run_storeCells_at P g o t cs 0 cur w hg (by simpa using hfit) h1
  cases hq : P.info? elem with
  | none => simp [hq] at hs
  | some i =>
    have hi : i.size = k := by simpa [hq] using hs
    simp [Builtin.copy_, run_underlying hu, Builtin.lenOf, Builtin.firstCells, sizeOf, typeInfo, hq, hi, ← hn, hl, hst]

/-- The cells of a row, from the place o on. -/
def put (cc : Array Value) (o : Nat) (cs : List Value) : Array Value := (cc.toList.take o ++ cs ++ cc.toList.drop (o + cs.length)).toArray

set_option maxHeartbeats 4000000 in
set_option maxRecDepth 100000 in
theorem ins_shift (L : InsLay P ρ n1 k bytes z) (b n c i vb vc : Nat) (cc cv : Array Value) (tb tv : TypeId) (w : World) (hi : i < n) (hroom : n + 1 ≤ c) (hc63 : c ≤ 9223372036854775807) (hvb : vb ≠ b)
    (hb : w.heap[b]? = some (.cells cc tb (0, 0))) (hv : w.heap[vb]? = some (.cells cv tv (0, 0))) (hcc : c * k = cc.size) (hcv : k ≤ cv.size) (vs : List Value) (hvs : vs = cv.toList.take k)
    (h1c : ∀ v ∈ cc.toList.take (n * k), v.oneCell' = true) (h1v : ∀ v ∈ vs, v.oneCell' = true) :
    Calls P (ρ.f 22) #[.slice (some ⟨b, 0, none⟩) n c, .int .i64 i, .slice (some ⟨vb, 0, none⟩) 1 vc] w fun e w' =>
      e = .returned (.slice (some ⟨b, 0, none⟩) (n + 1) c) ∧ w' = w.drew.setRow b (put (put cc ((i + 1) * k) ((cc.toList.take (n * k)).drop (i * k))) (i * k) vs) := by
  have hk := L.hk
  have hvl : vs.length = k := by rw [hvs, List.length_take, Array.length_toList]; omega
  have t0 := L.t0; have a0 := L.a0; have z0 := L.z0; have v0 := L.v0; have t3 := L.t3; have a3 := L.a3; have z3 := L.z3; have v3 := L.v3; have t4 := L.t4; have a4 := L.a4; have z4 := L.z4; have v4 := L.v4; have z9 := L.z9; have t24 := L.t24; have a24 := L.a24; have z24 := L.z24; have v24 := L.v24
  have u0 := run_underlying L.t0; have u3 := run_underlying L.t3; have u4 := run_underlying L.t4; have u24 := run_underlying L.t24
  have hz2 : ¬ ((i : Int) = (n : Int)) := by omega
  have hsz : (P.info? (ρ.t 9)).map (·.size) = some k := by
    obtain ⟨i0, hi0, h0, h1, h2⟩ := info_parts L.i9
    rw [hi0]; simp [h1]
  have hov : ∀ lb cb, (callFunc (ρ.f 29) #[.slice (some ⟨vb, 0, none⟩) 1 vc, .slice (some ⟨b, (i + 1) * k, none⟩) lb cb]).run P w = .ok (.value (.bool false)) w := fun lb cb => by
    rw [L.ov,
      Lib.run_overlaps_apart w (ρ.t 24) (ρ.t 4) (ρ.t 9) L.t24 k L.z9 ⟨vb, 0, none⟩ ⟨b, (i + 1) * k, none⟩ 1 vc lb cb hvb tv tb cv.size cc.size (by simp [World.shape?, hv]) (by simp [World.shape?, hb]) (by rw [← hcc]; have : 0 < c * k := Nat.mul_pos (by omega) hk; omega) (by simp [World.frozen?, hv]) (by simp [World.frozen?, hv])]
    rfl
  have mixed := L.mixed
  have hw1 : IntKind.i64.wrap ((i : Int) + 1) = (i : Int) + 1 := by rw [IntKind.wrap_i64]; omega
  have hb1 : (0 : Int) ≤ (i : Int) + 1 := by omega
  have hin : i ≤ n := by omega
  have htn : ((i : Int) + 1).toNat = i + 1 := by omega
  have hb2 : ¬ (c = i + 1) := by omega
  have hb3 : (i : Int) ≤ (n : Int) + 1 := by omega
  have hb4 : ¬ (c = i) := by omega
  have hnk : n * k ≤ cc.size := by rw [← hcc]; exact Nat.mul_le_mul_right k (by omega)
  have hn1k : (n + 1) * k ≤ cc.size := by rw [← hcc]; exact Nat.mul_le_mul_right k (by omega)
  have hik : i * k ≤ n * k := Nat.mul_le_mul_right k hin
  obtain ⟨ds, hds⟩ : ∃ ds, ds = (cc.toList.take (n * k)).drop (i * k) := ⟨_, rfl⟩
  have hdl : ds.length = (n - i) * k := by rw [hds, List.length_drop, List.length_take, Array.length_toList, Nat.min_eq_left hnk, Nat.sub_mul]
  rw [← hds]
  have e1 : Nat.min (n + 1 - i) (n - i) = n - i := by simp only [Nat.min_def]; split <;> omega
  have e2 : (i + 1) * k + (n - i) * k = (n + 1) * k := by rw [← Nat.add_mul]; congr 1; omega
  have hcp1 : ∀ ty dc sc, (Builtin.copy_ #[(ρ.t 24), (ρ.t 24)] ty #[.slice (some ⟨b, (i + 1) * k, none⟩) (n - i) dc, .slice (some ⟨b, i * k, none⟩) (n + 1 - i) sc]).run P w.drew = .ok (goInt (n - i : Nat)) (w.drew.setRow b (put cc ((i + 1) * k) ds)) := fun ty dc sc => by
    have h := run_copy_rowk (P := P) w.drew (ρ.t 24) (ρ.t 24) ty (ρ.t 9) b ((i + 1) * k) (n - i) dc ⟨b, i * k, none⟩ (n + 1 - i) sc cc tb ds k L.t24 hsz hb (by rw [hdl, e1])
      (fun j v hj => by
        rw [Addr.add_lit]
        have hj' := hj
        rw [hds, List.getElem?_drop, List.getElem?_take] at hj
        split at hj
        · rw [Array.getElem?_toList] at hj
          simp [World.cell?, show w.drew.heap[b]? = _ from hb, hj]
        · cases hj) (by rw [hdl, e2]; exact hn1k) (fun v hv => h1c v (List.mem_of_mem_drop (hds ▸ hv)))
    rw [e1] at h
    exact h
  have hps : (put cc ((i + 1) * k) ds).size = cc.size := by
    simp only [put, List.size_toArray, List.length_append, List.length_take, List.length_drop, Array.length_toList, hdl, e2]
    omega
  obtain ⟨W1, hW1⟩ : ∃ W1, W1 = w.drew.setRow b (put cc ((i + 1) * k) ds) := ⟨_, rfl⟩
  have hB1 : W1.heap[b]? = some (.cells (put cc ((i + 1) * k) ds) tb (0, 0)) := by rw [hW1]; exact setRow_heap w.drew b cc _ tb _ hb
  have hV1 : W1.heap[vb]? = some (.cells cv tv (0, 0)) := by rw [hW1, setRow_other w.drew b vb _ hvb]; exact hv
  have hcp2 : ∀ ty dc, (Builtin.copy_ #[(ρ.t 24), (ρ.t 24)] ty #[.slice (some ⟨b, i * k, none⟩) (n + 1 - i) dc, .slice (some ⟨vb, 0, none⟩) 1 vc]).run P W1 = .ok (goInt (1 : Nat)) (W1.setRow b (put (put cc ((i + 1) * k) ds) (i * k) vs)) := fun ty dc => by
    have e3 : Nat.min 1 (n + 1 - i) = 1 := by simp only [Nat.min_def]; split <;> omega
    have h := run_copy_rowk (P := P) W1 (ρ.t 24) (ρ.t 24) ty (ρ.t 9) b (i * k) (n + 1 - i) dc ⟨vb, 0, none⟩ 1 vc _ tb vs k L.t24 hsz hB1 (by rw [e3, hvl, Nat.one_mul])
      (fun j v hj => by
        rw [Addr.add_lit]
        rw [hvs, List.getElem?_take] at hj
        split at hj
        · rw [Array.getElem?_toList] at hj
          simp [World.cell?, hV1, hj]
        · cases hj) (by rw [hps, hvl]; have : (i + 1) * k ≤ (n + 1) * k := Nat.mul_le_mul_right k (by omega); rw [Nat.add_mul, Nat.one_mul] at this; omega) h1v
    rw [e3] at h
    exact h
  have hfin : W1.setRow b (put (put cc ((i + 1) * k) ds) (i * k) vs) = w.drew.setRow b (put (put cc ((i + 1) * k) ds) (i * k) vs) := by rw [hW1, setRow_setRow]
  rw [← hW1] at hcp1
  clear hW1 hds e1 e2 hvs
  go_enter L.f22, Body2.n22_ntmps ρ
  go_wp2_with (simp only [hov])
  go_region_law_o (refine step_copy_runI rfl _ _ (ρ.t 24) (ρ.t 24) rfl _ _ (by simp [Act.eval, Act.put]) (by simp [Act.eval, Act.put]) (hcp1 _ _ _) ?_)
  go_wp2_with (at_builtin; refine wpList_copy_runI _ rfl _ _ (ρ.t 24) (ρ.t 24) rfl _ _ rfl rfl (hcp2 _ _) ?_)
  go_ret
  first | exact ⟨rfl, rfl⟩ | exact ⟨rfl, hfin⟩

theorem alloc_setRow (w : World) (a b : Array Value) (e : TypeId) : (w.alloc (.cells a e)).setRow w.heap.size b = w.alloc (.cells b e) := by
  have h : (w.alloc (.cells a e)).heap[w.heap.size]? = some (.cells a e (0, 0)) := heap_push_eq _ _
  unfold World.setRow World.alloc
  congr 1
  refine Array.ext_getElem? fun j => ?_
  rw [Array.getElem?_modify]
  split
  · rename_i hj
    subst hj
    simp [Obj.cells]
  · rename_i hj
    simp only [Array.getElem?_push]
    rw [if_neg (fun x => hj x.symm), if_neg (fun x => hj x.symm)]

set_option maxHeartbeats 4000000 in
set_option maxRecDepth 100000 in
theorem ins_grow (L : InsLay P ρ n1 k bytes z) (b n c i vb vc : Nat) (cc cv : Array Value) (tb tv : TypeId) (w : World) (hi : i < n) (hnc : n ≤ c) (hroom : c < n + 1) (hc63 : c < 9223372036854775807) (hbig : (n + 1) * bytes ≤ 140737488355328)
    (hb : w.heap[b]? = some (.cells cc tb (0, 0))) (hv : w.heap[vb]? = some (.cells cv tv (0, 0))) (hcc : c * k = cc.size) (hcv : k ≤ cv.size) (vs : List Value) (hvs : vs = cv.toList.take k)
    (h1c : ∀ v ∈ cc.toList.take (n * k), v.oneCell' = true) (h1v : ∀ v ∈ vs, v.oneCell' = true) :
    Calls P (ρ.f 22) #[.slice (some ⟨b, 0, none⟩) n c, .int .i64 i, .slice (some ⟨vb, 0, none⟩) 1 vc] w fun e w' =>
      ∃ G R, R.size = G * k ∧ n + 1 ≤ G ∧ G ≤ maxLen ∧ e = .returned (.slice (some ⟨w.heap.size, 0, none⟩) (n + 1) G) ∧ w' = w.drew.drew.alloc (.cells (put (put R (i * k) vs) ((i + 1) * k) ((cc.toList.take (n * k)).drop (i * k))) (ρ.t 9)) ∧ R.toList.take (i * k) = cc.toList.take (i * k) := by
  have hk := L.hk; have hzl := L.hz
  have hvl : vs.length = k := by rw [hvs, List.length_take, Array.length_toList]; omega
  have t0 := L.t0; have a0 := L.a0; have z0 := L.z0; have v0 := L.v0; have t3 := L.t3; have a3 := L.a3; have z3 := L.z3; have v3 := L.v3; have t4 := L.t4; have a4 := L.a4; have z4 := L.z4; have v4 := L.v4; have z9 := L.z9; have t24 := L.t24; have a24 := L.a24; have z24 := L.z24; have v24 := L.v24
  have u0 := run_underlying L.t0; have u3 := run_underlying L.t3; have u4 := run_underlying L.t4; have u24 := run_underlying L.t24
  have mixed := L.mixed
  obtain ⟨i0, hi0, hz0, hzs, hzb⟩ := info_parts L.i9
  have hz2 : ¬ ((i : Int) = (n : Int)) := by omega
  have hz3 : (c : Int) < (n : Int) + 1 := by omega
  have hsz : (P.info? (ρ.t 9)).map (·.size) = some k := by rw [hi0]; simp [hzs]
  have hbw : b < w.heap.size := (Array.getElem?_eq_some_iff.1 hb).1
  have hvw : vb < w.heap.size := (Array.getElem?_eq_some_iff.1 hv).1
  have hkk : (n : Int) + 1 - (i : Int) = ((n + 1 - i : Nat) : Int) := by omega
  have hik : i + (n + 1 - i) = n + 1 := by omega
  have hnk : n * k ≤ cc.size := by rw [← hcc]; exact Nat.mul_le_mul_right k (by omega)
  have hikn : i * k ≤ n * k := Nat.mul_le_mul_right k (by omega)
  have hold : (Builtin.firstCells i0.size i (.slice (some ⟨b, 0, none⟩) i c)).run P w.drew = .ok (cc.toList.take (i * k)).toArray w.drew := by
    rw [hzs]
    exact run_firstCells_some w.drew k i ⟨b, 0, none⟩ i c (cc.toList.take (i * k)) (by rw [List.length_take, Array.length_toList]; omega) (fun j v hj => by
      rw [Addr.add_lit]
      rw [List.getElem?_take] at hj
      split at hj
      · rw [Array.getElem?_toList] at hj
        simp [World.cell?, show w.drew.heap[b]? = _ from hb, hj]
      · cases hj)
  have hrz : ∀ ty, (Builtin.append_ #[(ρ.t 24), (ρ.t 3)] ty #[.slice (some ⟨b, 0, none⟩) i c, .int .i64 ((n : Int) + 1 - (i : Int))]).run P w =
      .ok (.slice (some ⟨w.heap.size, 0, none⟩) (n + 1) (grownCap w (n + 1) c (ρ.t 9))) (w.drew.alloc (.cells ((cc.toList.take (i * k)).toArray ++ Builtin.zeroCells z.cells (n + 1 - i) ++ Builtin.zeroCells z.cells (grownCap w (n + 1) c (ρ.t 9) - (n + 1))) (ρ.t 9))) := fun ty => by
    have h := Lib.run_append_grow_zeros w (ρ.t 24) (ρ.t 3) ty (ρ.t 9) i0 _ .i64 .i64 L.t24 L.t3 hi0 hz0 (some ⟨b, 0, none⟩) i c _ hold (n + 1 - i) (by omega) (by omega) (by omega) (by omega) (by rw [hzb]; have : (n + 1 - i) * bytes ≤ (n + 1) * bytes := Nat.mul_le_mul_right _ (by omega); omega) (by rw [hzb, hik]; exact growslice_fits hroom hbig)
    rw [hik] at h
    rw [hkk]
    exact h
  have hGn : n + 1 ≤ grownCap w (n + 1) c (ρ.t 9) := grownCap_ge w _ _ _
  have hGm : grownCap w (n + 1) c (ρ.t 9) ≤ maxLen := grownCap_le_maxLen w (n + 1) c (ρ.t 9) (by unfold maxLen; omega)
  obtain ⟨G, hG⟩ : ∃ G, G = grownCap w (n + 1) c (ρ.t 9) := ⟨_, rfl⟩
  rw [← hG] at hGn hGm
  obtain ⟨ROW, hROW⟩ : ∃ ROW : Array Value, ROW = (cc.toList.take (i * k)).toArray ++ Builtin.zeroCells z.cells (n + 1 - i) ++ Builtin.zeroCells z.cells (G - (n + 1)) := ⟨_, rfl⟩
  rw [← hG] at hrz
  rw [← hROW] at hrz
  have hRl : ROW.size = G * k := by
    rw [hROW]
    simp only [Array.size_append, List.size_toArray, List.length_take, Array.length_toList, size_zeroCells, hzl, Nat.min_eq_left (show i * k ≤ cc.size by omega), ← Nat.add_mul]
    congr 1; omega
  have hRt : ROW.toList.take (i * k) = cc.toList.take (i * k) := by
    rw [hROW]
    simp only [Array.toList_append, List.append_assoc]
    rw [List.take_append_of_le_length (by simp; omega), List.take_take, Nat.min_self]
  have hG63 : G ≤ 9223372036854775807 := by unfold maxLen at hGm; omega
  have hGi : ¬ (G = i) := by omega
  have hGim : ¬ (G = i + 1) := by omega
  have hci : ¬ (c = i) := by omega
  have hn1G : (n + 1) * k ≤ G * k := Nat.mul_le_mul_right k hGn
  obtain ⟨ds, hds⟩ : ∃ ds, ds = (cc.toList.take (n * k)).drop (i * k) := ⟨_, rfl⟩
  have hdl : ds.length = (n - i) * k := by rw [hds, List.length_drop, List.length_take, Array.length_toList, Nat.min_eq_left hnk, Nat.sub_mul]
  rw [← hds]
  have e1 : Nat.min (n - i) (n - i) = n - i := Nat.min_self _
  have e2 : (i + 1) * k + (n - i) * k = (n + 1) * k := by rw [← Nat.add_mul]; congr 1; omega
  have e4 : i * k + k ≤ (n + 1) * k := by have : (i + 1) * k ≤ (n + 1) * k := Nat.mul_le_mul_right k (by omega); rw [Nat.add_mul, Nat.one_mul] at this; exact this
  obtain ⟨W1, hW1⟩ : ∃ W1, W1 = w.drew.alloc (.cells ROW (ρ.t 9)) := ⟨_, rfl⟩
  have hcpA : ∀ (W : World), W.heap = W1.heap → ∀ ty dc, (Builtin.copy_ #[(ρ.t 24), (ρ.t 24)] ty #[.slice (some ⟨w.heap.size, i * k, none⟩) (n + 1 - i) dc, .slice (some ⟨vb, 0, none⟩) 1 vc]).run P W = .ok (goInt (1 : Nat)) (W.setRow w.heap.size (put ROW (i * k) vs)) := fun W hW ty dc => by
    have e3 : Nat.min 1 (n + 1 - i) = 1 := by simp only [Nat.min_def]; split <;> omega
    have hN : W.heap[w.heap.size]? = some (.cells ROW (ρ.t 9) (0, 0)) := by rw [hW, hW1]; exact heap_push_eq w.drew _
    have hV : W.heap[vb]? = some (.cells cv tv (0, 0)) := by rw [hW, hW1, heap_push_lt w.drew _ hvw]; exact hv
    have h := run_copy_rowk (P := P) W (ρ.t 24) (ρ.t 24) ty (ρ.t 9) w.heap.size (i * k) (n + 1 - i) dc ⟨vb, 0, none⟩ 1 vc ROW (ρ.t 9) vs k L.t24 hsz hN (by rw [e3, hvl, Nat.one_mul])
      (fun j v hj => by
        rw [Addr.add_lit]
        rw [hvs, List.getElem?_take] at hj
        split at hj
        · rw [Array.getElem?_toList] at hj
          simp [World.cell?, hV, hj]
        · cases hj) (by rw [hRl, hvl]; omega) h1v
    rw [e3] at h
    exact h
  have hps : (put ROW (i * k) vs).size = ROW.size := by
    simp only [put, List.size_toArray, List.length_append, List.length_take, List.length_drop, Array.length_toList, hvl]
    omega
  have hcpB : ∀ (W : World), W.heap = (W1.setRow w.heap.size (put ROW (i * k) vs)).heap → ∀ ty dc sc, (Builtin.copy_ #[(ρ.t 24), (ρ.t 24)] ty #[.slice (some ⟨w.heap.size, (i + 1) * k, none⟩) (n - i) dc, .slice (some ⟨b, i * k, none⟩) (n - i) sc]).run P W = .ok (goInt (n - i : Nat)) (W.setRow w.heap.size (put (put ROW (i * k) vs) ((i + 1) * k) ds)) := fun W hW ty dc sc => by
    have hN : W.heap[w.heap.size]? = some (.cells (put ROW (i * k) vs) (ρ.t 9) (0, 0)) := by
      rw [hW, hW1]; exact setRow_heap _ _ ROW _ (ρ.t 9) _ (heap_push_eq w.drew _)
    have hB : W.heap[b]? = some (.cells cc tb (0, 0)) := by
      rw [hW, hW1, setRow_other _ _ b _ (by omega), heap_push_lt w.drew _ hbw]; exact hb
    have h := run_copy_rowk (P := P) W (ρ.t 24) (ρ.t 24) ty (ρ.t 9) w.heap.size ((i + 1) * k) (n - i) dc ⟨b, i * k, none⟩ (n - i) sc _ (ρ.t 9) ds k L.t24 hsz hN (by rw [hdl, e1])
      (fun j v hj => by
        rw [Addr.add_lit]
        rw [hds, List.getElem?_drop, List.getElem?_take] at hj
        split at hj
        · rw [Array.getElem?_toList] at hj
          simp [World.cell?, hB, hj]
        · cases hj) (by rw [hdl, e2, hps, hRl]; exact hn1G) (fun v hv => h1c v (List.mem_of_mem_drop (hds ▸ hv)))
    rw [e1] at h
    exact h
  subst hW1
  have hw1 : IntKind.i64.wrap ((i : Int) + 1) = (i : Int) + 1 := by rw [IntKind.wrap_i64]; omega
  have hb1 : (0 : Int) ≤ (i : Int) + 1 := by omega
  have hin : i ≤ n := by omega
  have htn : ((i : Int) + 1).toNat = i + 1 := by omega
  have hb3 : (i : Int) ≤ (n : Int) := by omega
  have hE1 : ((w.alloc (.cells ROW (ρ.t 9))).drew).heap = (w.drew.alloc (.cells ROW (ρ.t 9))).heap := rfl
  have hF1 : (((w.alloc (.cells ROW (ρ.t 9))).drew.setRow w.heap.size (put ROW (i * k) vs)).drew).heap = ((w.drew.alloc (.cells ROW (ρ.t 9))).setRow w.heap.size (put ROW (i * k) vs)).heap := rfl
  have hcall : Calls P (ρ.f 22) #[.slice (some ⟨b, 0, none⟩) n c, .int .i64 i, .slice (some ⟨vb, 0, none⟩) 1 vc] w fun e w' => e = .returned (.slice (some ⟨w.heap.size, 0, none⟩) (n + 1) G) ∧ w' = (((w.alloc (.cells ROW (ρ.t 9))).drew.setRow w.heap.size (put ROW (i * k) vs)).drew).setRow w.heap.size (put (put ROW (i * k) vs) ((i + 1) * k) ds) := by
    clear hkk hik hold hROW hG hRl hds e1 e2 e4 hRt hvs
    go_enter L.f22, Body2.n22_ntmps ρ
    go_wp2_with (first
      | (at_builtin; refine Lib.wpList_append_run _ rfl _ _ _ _ rfl _ _ rfl rfl _ _ (hrz _) ?_)
      | (at_builtin; refine wpList_copy_runI _ rfl _ _ (ρ.t 24) (ρ.t 24) rfl _ _ rfl rfl (hcpA _ hE1 _ _) ?_)
      | (at_builtin; refine wpList_copy_runI _ rfl _ _ (ρ.t 24) (ρ.t 24) rfl _ _ rfl rfl (hcpB _ hF1 _ _ _) ?_))
    go_region_law_o (refine step_copy_runI rfl _ _ (ρ.t 24) (ρ.t 24) rfl (.slice (some ⟨w.heap.size, (i + 1) * k, none⟩) (n - i) (G - (i + 1))) (.slice (some ⟨b, i * k, none⟩) (n - i) (c - i)) (by simp [Act.eval, Act.put]) (by simp [Act.eval, Act.put]) (hcpB _ hF1 (ρ.t 3) (G - (i + 1)) (c - i)) ?_)
    go_wp2
    go_ret
    exact ⟨rfl, rfl⟩
  refine hcall.mono fun e w' h => ?_
  obtain ⟨rfl, rfl⟩ := h
  refine ⟨G, ROW, hRl, hGn, hGm, rfl, ?_, hRt⟩
  have q := alloc_setRow w ROW (put ROW (i * k) vs) (ρ.t 9)
  have q2 := alloc_setRow w (put ROW (i * k) vs) (put (put ROW (i * k) vs) ((i + 1) * k) ds) (ρ.t 9)
  have q3 : (((w.alloc (.cells ROW (ρ.t 9))).drew.setRow w.heap.size (put ROW (i * k) vs)).drew).setRow w.heap.size (put (put ROW (i * k) vs) ((i + 1) * k) ds) = ((((w.alloc (.cells ROW (ρ.t 9))).setRow w.heap.size (put ROW (i * k) vs))).setRow w.heap.size (put (put ROW (i * k) vs) ((i + 1) * k) ds)).drew.drew := rfl
  rw [q3, q, q2]
  rfl

set_option maxHeartbeats 4000000 in
set_option maxRecDepth 100000 in
theorem ins_end (L : InsLay P ρ n1 k bytes z) (b n c vb vc : Nat) (w w' : World) (v : Value) (hnc : n ≤ c)
    (hr : ∀ ty, (Builtin.append_ #[(ρ.t 24), (ρ.t 24)] ty #[.slice (some ⟨b, 0, none⟩) n c, .slice (some ⟨vb, 0, none⟩) 1 vc]).run P w = .ok v w') :
    Calls P (ρ.f 22) #[.slice (some ⟨b, 0, none⟩) n c, .int .i64 n, .slice (some ⟨vb, 0, none⟩) 1 vc] w fun e u => e = .returned v ∧ u = w' := by
  have hk := L.hk
  have t0 := L.t0; have a0 := L.a0; have z0 := L.z0; have v0 := L.v0; have t3 := L.t3; have a3 := L.a3; have z3 := L.z3; have v3 := L.v3; have t4 := L.t4; have a4 := L.a4; have z4 := L.z4; have v4 := L.v4; have z9 := L.z9; have t24 := L.t24; have a24 := L.a24; have z24 := L.z24; have v24 := L.v24
  have u0 := run_underlying L.t0; have u3 := run_underlying L.t3; have u4 := run_underlying L.t4; have u24 := run_underlying L.t24
  have mixed := L.mixed
  go_enter L.f22, Body2.n22_ntmps ρ
  go_wp2_with (at_builtin; refine Lib.wpList_append_run _ rfl _ _ _ _ rfl _ _ rfl rfl _ _ (hr _) ?_)
  all_goals (go_ret; exact ⟨rfl, rfl⟩)
end Go.Proofs.Ytngkckefanbhgaa

/-
  slices.Insert over memory of the caller's own.
-/
namespace Go.Proofs.Ytngkckefanbhgaa
open Go Go.Proofs Go.Shelf Go.Lib

theorem put_get {cc : Array Value} {o : Nat} {cs : List Value} (h : o + cs.length ≤ cc.size) (q : Nat) : (put cc o cs)[q]? = if o ≤ q ∧ q < o + cs.length then cs[q - o]? else cc[q]? := by
  unfold put
  rw [seg_get h]

theorem put_size {cc : Array Value} {o : Nat} {cs : List Value} (h : o + cs.length ≤ cc.size) : (put cc o cs).size = cc.size := by
  simp only [put, List.size_toArray, List.length_append, List.length_take, List.length_drop, Array.length_toList]
  omega

theorem ins_rows {x : Cx} {rows : List (List V)} {row : List V} {k i : Nat} {cc cv F : Array Value} (hsz : ∀ r ∈ rows, r.length = k) (hsz1 : row.length = k) (hi : i ≤ rows.length)
    (hr : ∀ (r : Nat) (row : List V) (j : Nat) (v : V), rows[r]? = some row → row[j]? = some v → R x v (cc.getD (r * k + j) undef))
    (hv : ∀ (j : Nat) (v : V), row[j]? = some v → R x v (cv.getD j undef))
    (ha : ∀ q, q < i * k → F[q]? = cc[q]?) (hb : ∀ q, q < k → F[i * k + q]? = cv[q]?) (hc : ∀ q, q < (rows.length - i) * k → F[(i + 1) * k + q]? = cc[i * k + q]?) :
    ∀ (r : Nat) (row' : List V) (j : Nat) (v : V), (rows.take i ++ row :: rows.drop i)[r]? = some row' → row'[j]? = some v → R x v (F.getD (r * k + j) undef) := by
  intro r row' j v h1 h2
  have hlt : (rows.take i).length = i := by rw [List.length_take]; omega
  rw [List.getElem?_append] at h1
  split at h1
  · rename_i hlt'
    rw [hlt] at hlt'
    rw [List.getElem?_take, if_pos hlt'] at h1
    have hjk : j < k := by rw [← hsz _ (List.mem_of_getElem? h1)]; exact (List.getElem?_eq_some_iff.1 h2).1
    have : r * k + j < i * k := by
      have : (r + 1) * k ≤ i * k := Nat.mul_le_mul_right k hlt'
      rw [Nat.add_mul, Nat.one_mul] at this; omega
    rw [Array.getD_eq_getD_getElem?, ha _ this, ← Array.getD_eq_getD_getElem?]
    exact hr r row' j v h1 h2
  · rename_i hge
    rw [hlt] at h1 hge
    by_cases he : r = i
    · subst he
      rw [Nat.sub_self] at h1
      simp only [List.getElem?_cons_zero, Option.some.injEq] at h1
      subst h1
      have hjk : j < k := by rw [← hsz1]; exact (List.getElem?_eq_some_iff.1 h2).1
      rw [Array.getD_eq_getD_getElem?, hb _ hjk, ← Array.getD_eq_getD_getElem?]
      exact hv j v h2
    · obtain ⟨q, hq⟩ : ∃ q, r - i = q + 1 := ⟨r - i - 1, by omega⟩
      rw [hq, List.getElem?_cons_succ, List.getElem?_drop] at h1
      have hjk : j < k := by rw [← hsz _ (List.mem_of_getElem? h1)]; exact (List.getElem?_eq_some_iff.1 h2).1
      have hql := (List.getElem?_eq_some_iff.1 h1).1
      have hlt2 : q * k + j < (rows.length - i) * k := by
        have : (q + 1) * k ≤ (rows.length - i) * k := Nat.mul_le_mul_right k (by omega)
        rw [Nat.add_mul, Nat.one_mul] at this; omega
      have e1 : r * k + j = (i + 1) * k + (q * k + j) := by rw [← Nat.add_assoc, ← Nat.add_mul]; congr 2; omega
      have e2 : i * k + (q * k + j) = (i + q) * k + j := by rw [Nat.add_mul]; omega
      rw [e1, Array.getD_eq_getD_getElem?, hc _ hlt2, ← Array.getD_eq_getD_getElem?, e2]
      exact hr _ row' j v h1 h2

section
variable {P : Program} {ρ : Ren} {n1 : String} {k bytes : Nat} {z : Value}

theorem ins_full (L : InsLay P ρ n1 k bytes z) {zz : List V} (hzz : zeroOf P (ρ.t 9) = some zz) (hzl : zz.length = k) {x : Cx} (hx : Inv x) {id id2 ver ver2 ty2 i : Nat} {rows : List (List V)} {row : List V} {c0 c2 : Value}
    (hH : x.H id = ⟨ver, true, false, ρ.t 9, k, rows⟩) (hH2 : x.H id2 = ⟨ver2, true, false, ty2, k, [row]⟩) (hne : id ≠ id2) (hi : i ≤ rows.length)
    (hf : fitRows k rows = true) (hf1 : fitRows k [row] = true) (hb : (rows.length + 1) * bytes ≤ 140737488355328) (hm : rows.length + 1 ≤ 9223372036854775807)
    (r0 : R x (.ms id ver 0 rows.length) c0) (r2 : R x (.ms id2 ver2 0 1) c2) :
    Calls P (ρ.f 22) #[c0, .int .i64 i, c2] x.w fun e w' => ∃ c y, e = .returned c ∧ y.w = w' ∧ y.H = upd x.H id ⟨ver + 1, true, false, ρ.t 9, k, rows.take i ++ row :: rows.drop i⟩ ∧ Inv y ∧ R y (.ms id (ver + 1) 0 (rows.length + 1)) c ∧ Frame x y := by
  have hk := L.hk
  have ho : (x.H id).own = true := by rw [hH]; rfl
  have ho2 : (x.H id2).own = true := by rw [hH2]; rfl
  obtain ⟨hsz, hone⟩ := fitRows_spec hf
  obtain ⟨hsz1, hone1⟩ := fitRows_spec hf1
  have r0' := r0; have r2' := r2
  cases r0 with
  | ms _ _ _ _ b n cap hv hh =>
  cases r2 with
  | ms _ _ _ _ b2 m2 cap2 hv2 hh2 =>
  obtain ⟨e1, e2, e3, e4, e5, e6⟩ := hh (by rw [hH]) (by rw [hH])
  obtain ⟨d1, d2, d3, d4, d5, d6⟩ := hh2 (by rw [hH2]) (by rw [hH2])
  obtain ⟨e7, e8⟩ := e5 ho
  obtain ⟨d7, d8⟩ := d5 ho2
  obtain ⟨cc, b1, bb2, bb3, bb4⟩ := hx.blk id ho
  obtain ⟨cv, v1, vv2, vv3, vv4⟩ := hx.blk id2 ho2
  have hrs : rowSize x.w (x.σ id) = cc.size := by unfold rowSize; rw [b1]
  have hrs2 : rowSize x.w (x.σ id2) = cv.size := by unfold rowSize; rw [v1]
  rw [hrs, hH] at e8
  rw [hrs2, hH2] at d8
  rw [hH] at e7 b1 bb3 bb4
  rw [hH2] at d7 v1 vv3 vv4
  simp only [Nat.zero_mul, Nat.zero_add] at e7 d7 e8 d8
  simp only at b1 bb3 bb4 v1 vv3 vv4
  subst e1; subst d1; subst e7; subst d7
  have hvb : x.σ id2 ≠ x.σ id := fun e => hne (hx.inj id id2 ho ho2 e.symm)
  have hcv : k ≤ cv.size := by simpa using vv3
  have hsz1' : row.length = k := hsz1 row (by simp)
  have hrow : ∀ (j : Nat) (v : V), row[j]? = some v → R x v (cv.getD j undef) := fun j v hj => by
    have := vv4 0 row j v rfl hj
    simpa using this
  have h1c : ∀ v ∈ cc.toList.take (rows.length * k), v.oneCell' = true := fun v hv => by
    obtain ⟨q, hq⟩ := List.getElem?_of_mem hv
    rw [List.getElem?_take] at hq
    split at hq
    · rename_i hlt
      obtain ⟨rw', u, h5, h6, h7⟩ := CRR_cell hsz hlt
      have h8 := bb4 _ _ _ _ h5 h6
      rw [h7, Array.getD_eq_getD_getElem?, ← Array.getElem?_toList, hq] at h8
      exact h8.one (hone _ (List.mem_of_getElem? h5) _ (List.mem_of_getElem? h6))
    · cases hq
  obtain ⟨vs, hvs⟩ : ∃ vs, vs = cv.toList.take k := ⟨_, rfl⟩
  have hvl : vs.length = k := by rw [hvs, List.length_take, Array.length_toList]; omega
  have hvg : ∀ q, q < k → vs[q]? = cv[q]? := fun q hq => by rw [hvs, List.getElem?_take, if_pos hq, Array.getElem?_toList]
  have h1v : ∀ v ∈ vs, v.oneCell' = true := fun v hv => by
    obtain ⟨q, hq⟩ := List.getElem?_of_mem hv
    have hlt : q < k := by rw [← hvl]; exact (List.getElem?_eq_some_iff.1 hq).1
    have hu : ∃ u, row[q]? = some u := ⟨_, List.getElem?_eq_getElem (by rw [hsz1']; exact hlt)⟩
    obtain ⟨u, hu⟩ := hu
    have h8 := hrow q u hu
    rw [Array.getD_eq_getD_getElem?, ← hvg q hlt, hq] at h8
    exact h8.one (hone1 row (by simp) u (List.mem_of_getElem? hu))
  obtain ⟨n, hn⟩ : ∃ n, n = rows.length := ⟨_, rfl⟩
  have hnew : ∀ r ∈ rows.take i ++ row :: rows.drop i, r.length = k := fun r hr => by
    rcases List.mem_append.1 hr with hr | hr
    · exact hsz r (List.mem_of_mem_take hr)
    · rcases List.mem_cons.1 hr with hr | hr
      · rw [hr]; exact hsz1'
      · exact hsz r (List.mem_of_mem_drop hr)
  have hnewl : (rows.take i ++ row :: rows.drop i).length = rows.length + 1 := by simp; omega
  by_cases hend : i = rows.length
  · obtain ⟨i0, hi0, hz0, hzs, hzb⟩ := info_parts L.i9
    obtain ⟨y, c, hr, y1, y2, y3, y4⟩ := append_run (P := P) (esz := k) (bytes := bytes) (new := [row]) hx L.t24 hi0 hzz hzs hzb hzl (by omega) (i := id) (ver := ver) (len := rows.length) (u := .ms id2 ver2 0 1) (by rw [hH]) (by rw [hH]) (by rw [hH]) (by rw [hH]) (by rw [hH])
      (by simp [rowsOf, hH2]) hf1 hb hm r0' r2' 0
    rw [hend]
    refine (ins_end L (x.σ id) rows.length cap (x.σ id2) cap2 x.w y.w c e2 fun ty => hr).mono fun e w' h => ?_
    obtain ⟨rfl, rfl⟩ := h
    refine ⟨c, y, rfl, rfl, ?_, y2, y4, y3⟩
    rw [y1, hH]
    simp
  have hlt : i < rows.length := by omega
  have hnk : rows.length * k ≤ cc.size := by rw [← e8]; exact Nat.mul_le_mul_right k e2
  have hik : i * k ≤ rows.length * k := Nat.mul_le_mul_right k hi
  obtain ⟨ds, hds⟩ : ∃ ds, ds = (cc.toList.take (rows.length * k)).drop (i * k) := ⟨_, rfl⟩
  have hdl : ds.length = (rows.length - i) * k := by rw [hds, List.length_drop, List.length_take, Array.length_toList (xs := cc), Nat.min_eq_left hnk, Nat.sub_mul]
  have hdg : ∀ q, q < (rows.length - i) * k → ds[q]? = cc[i * k + q]? := fun q hq => by
    rw [hds, List.getElem?_drop, List.getElem?_take, if_pos (by rw [Nat.sub_mul] at hq; omega), Array.getElem?_toList]
  have e9 : (i + 1) * k + (rows.length - i) * k = (rows.length + 1) * k := by rw [← Nat.add_mul]; congr 1; omega
  have e10 : (i + 1) * k = i * k + k := by rw [Nat.add_mul, Nat.one_mul]
  by_cases hroom : rows.length + 1 ≤ cap
  · have hn1k : (rows.length + 1) * k ≤ cc.size := by rw [← e8]; exact Nat.mul_le_mul_right k hroom
    refine (ins_shift L (x.σ id) rows.length cap i (x.σ id2) cap2 cc cv _ _ x.w hlt hroom (by unfold maxLen at e3; omega) hvb b1 v1 e8 hcv vs hvs h1c h1v).mono fun e w' h => ?_
    obtain ⟨rfl, rfl⟩ := h
    rw [← hds]
    have hs1 : (put cc ((i + 1) * k) ds).size = cc.size := put_size (by rw [hdl, e9]; exact hn1k)
    have hfit2 : i * k + vs.length ≤ (put cc ((i + 1) * k) ds).size := by rw [hs1, hvl]; omega
    obtain ⟨dI, dF⟩ := step_draw hx (x.w.drawn + 1) (Nat.le_succ _)
    obtain ⟨hI, hF⟩ := step_set dI id ho cc (put (put cc ((i + 1) * k) ds) (i * k) vs) (by rw [hH]; exact b1) (by rw [put_size hfit2, hs1]) (ver + 1) (rows.take i ++ row :: rows.drop i) (by simp only [hH]; omega) (by simp only [hH]; omega) (by simp only [hH]; rfl)
      (by simp only [hH]; exact hnew) (by simp only [hH]; rw [hnewl]; exact hn1k) (by
        simp only [hH]
        refine ins_rows hsz hsz1' hi (fun r row j v h5 h6 => (bb4 r row j v h5 h6).frame hx dF) (fun j v h5 => (hrow j v h5).frame hx dF) (fun q hq => ?_) (fun q hq => ?_) (fun q hq => ?_)
        · rw [put_get hfit2, if_neg (by omega), put_get (by rw [hdl, e9]; exact hn1k), if_neg (by omega)]
        · rw [put_get hfit2, if_pos (by omega), Nat.add_sub_cancel_left]; exact hvg q hq
        · rw [put_get hfit2, if_neg (by omega), put_get (by rw [hdl, e9]; exact hn1k), if_pos (by rw [hdl]; omega), Nat.add_sub_cancel_left]; exact hdg q hq)
    refine ⟨_, _, rfl, ?_, ?_, hI, ?_, dF.trans hF⟩
    · rfl
    · simp only [hH]
    · refine .ms _ _ _ _ _ _ _ (by simp [upd_same]) fun _ _ => ?_
      simp only [upd_same, hH]
      refine ⟨trivial, hroom, e3, by rw [hnewl]; omega, fun _ => ⟨by simp, ?_⟩, fun h => by simp [Blk.own] at h⟩
      have : rowSize (({ x.w with drawn := x.w.drawn + 1 } : World).setRow (x.σ id) (put (put cc ((i + 1) * k) ds) (i * k) vs)) (x.σ id) = cc.size := by
        have q := setRow_heap ({ x.w with drawn := x.w.drawn + 1 } : World) (x.σ id) cc (put (put cc ((i + 1) * k) ds) (i * k) vs) _ _ b1
        unfold rowSize
        rw [q]
        show (put (put cc ((i + 1) * k) ds) (i * k) vs).size = cc.size
        rw [put_size hfit2, hs1]
      rw [this, Nat.zero_add]; exact e8
  · refine (ins_grow L (x.σ id) rows.length cap i (x.σ id2) cap2 cc cv _ _ x.w hlt e2 (by omega) (by omega) hb b1 v1 e8 hcv vs hvs h1c h1v).mono fun e w' h => ?_
    obtain ⟨G, Rw, g1, g2, g3, rfl, rfl, g4⟩ := h
    rw [← hds]
    have hGk : (rows.length + 1) * k ≤ Rw.size := by rw [g1]; exact Nat.mul_le_mul_right k g2
    have hfit1 : i * k + vs.length ≤ Rw.size := by rw [hvl]; omega
    have hs1 : (put Rw (i * k) vs).size = Rw.size := put_size hfit1
    have hfit2 : (i + 1) * k + ds.length ≤ (put Rw (i * k) vs).size := by rw [hs1, hdl, e9]; exact hGk
    obtain ⟨dI, dF⟩ := step_draw hx (x.w.drawn + 2) (by omega)
    obtain ⟨hI, hF⟩ := step_own dI id (put (put Rw (i * k) vs) ((i + 1) * k) ds) false (ρ.t 9) k (rows.take i ++ row :: rows.drop i) hnew (by rw [hnewl, put_size hfit2, hs1]; exact hGk) (by
        refine ins_rows hsz hsz1' hi (fun r row j v h5 h6 => (bb4 r row j v h5 h6).frame hx dF) (fun j v h5 => (hrow j v h5).frame hx dF) (fun q hq => ?_) (fun q hq => ?_) (fun q hq => ?_)
        · rw [put_get hfit2, if_neg (by omega), put_get hfit1, if_neg (by omega)]
          have := congrArg (fun l => l[q]?) g4
          simp only [List.getElem?_take, if_pos hq, Array.getElem?_toList] at this
          exact this
        · rw [put_get hfit2, if_neg (by omega), put_get hfit1, if_pos (by omega), Nat.add_sub_cancel_left]; exact hvg q hq
        · rw [put_get hfit2, if_pos (by rw [hdl]; omega), Nat.add_sub_cancel_left]; exact hdg q hq)
    refine ⟨_, _, rfl, ?_, ?_, hI, ?_, dF.trans hF⟩
    · rfl
    · simp only [hH]
    · refine .ms _ _ _ _ _ _ _ (by simp [upd_same, hH]) fun _ _ => ?_
      simp only [upd_same, hH]
      refine ⟨trivial, g2, g3, by rw [hnewl]; omega, fun _ => ⟨by simp, ?_⟩, fun h => by simp [Blk.own] at h⟩
      rw [rowSize_new, put_size hfit2, hs1, g1, Nat.zero_add]

/-- slices.Insert of one element into memory of the caller's own. -/
theorem CallOK_insert (L : InsLay P ρ n1 k bytes z) (hcf : callable P (ρ.f 22)) {zz : List V} (hzz : zeroOf P (ρ.t 9) = some zz) (hzl : zz.length = k) {id id2 ver ver2 ty2 i n : Nat} {rows : List (List V)} {row : List V} {H : Heap}
    (hH : H id = ⟨ver, true, false, ρ.t 9, k, rows⟩) (hH2 : H id2 = ⟨ver2, true, false, ty2, k, [row]⟩) (hne : id ≠ id2) (hn : n ≤ rows.length) (hi : i ≤ n)
    (hf : fitRows k (rows.take n) = true) (hf1 : fitRows k [row] = true) (hb : (n + 1) * bytes ≤ 140737488355328) (hm : n + 1 ≤ 9223372036854775807) :
    CallOK P (ρ.f 22) [.ms id ver 0 n, iV i, .ms id2 ver2 0 1] H (.ms id (ver + 2) 0 (n + 1)) (upd H id ⟨ver + 2, true, false, ρ.t 9, k, (rows.take n).take i ++ row :: (rows.take n).drop i⟩) := by
  refine ⟨hcf, fun x cs hxH hx hr => ?_⟩
  subst hxH
  obtain ⟨c0, c1, c2, rfl⟩ : ∃ c0 c1 c2, cs = [c0, c1, c2] := by
    have := hr.1
    match cs with
    | [a, b, c] => exact ⟨a, b, c, rfl⟩
    | [] => simp at this
    | [_] => simp at this
    | [_, _] => simp at this
    | _ :: _ :: _ :: _ :: _ => simp at this
  have r0 : R x (.ms id ver 0 n) c0 := hr.2 0 _ rfl
  have r1 : R x (iV i) c1 := hr.2 1 _ rfl
  have r2 : R x (.ms id2 ver2 0 1) c2 := hr.2 2 _ rfl
  have hc1 : c1 = .int .i64 i := by
    unfold iV at r1
    cases r1; rfl
  subst hc1
  have ho : (x.H id).own = true := by rw [hH]; rfl
  obtain ⟨cc, b1, bb2, bb3, bb4⟩ := hx.blk id ho
  have hlen : (rows.take n).length = n := by rw [List.length_take]; omega
  obtain ⟨hI, hF⟩ := step_set hx id ho cc cc b1 rfl (ver + 1) (rows.take n) (by rw [hH]; exact Nat.le_succ _) (by rw [hH]; simp) (by rw [hH]; rfl) (fun r h => bb2 r (by rw [hH]; exact List.mem_of_mem_take h))
    (by rw [hlen]; refine Nat.le_trans (Nat.mul_le_mul_right _ ?_) bb3; rw [hH]; exact hn) (fun r row j v h1 h2 => by
      rw [List.getElem?_take] at h1
      split at h1
      · exact bb4 r row j v (by rw [hH]; exact h1) h2
      · cases h1)
  have hw : x.w.setRow (x.σ id) cc = x.w := setRow_self x.w _ cc _ _ b1
  rw [hw] at hI hF
  have q0 : R { x with H := upd x.H id ⟨ver + 1, true, (x.H id).lz, (x.H id).ty, (x.H id).sz, rows.take n⟩ } (.ms id (ver + 1) 0 (rows.take n).length) c0 := by
    cases r0 with
    | ms _ _ _ _ b m cap hv hh =>
    obtain ⟨e1, e2, e3, e4, e5, e6⟩ := hh (by rw [hH]) (by rw [hH])
    obtain ⟨e7, e8⟩ := e5 ho
    refine .ms _ _ _ _ _ _ _ (by simp [upd_same]) fun _ _ => ?_
    simp only [upd_same, hlen]
    exact ⟨e1, e2, e3, by omega, fun _ => ⟨e7, e8⟩, fun h => by rw [hH] at h; simp [Blk.own] at h⟩
  have h := ins_full L hzz hzl hI (id := id) (id2 := id2) (ver := ver + 1) (ver2 := ver2) (ty2 := ty2) (i := i) (rows := rows.take n) (row := row) (by simp [upd_same, hH]) (by simp only [upd_ne _ _ (Ne.symm hne)]; exact hH2) hne (by rw [hlen]; exact hi) hf hf1 (by rw [hlen]; exact hb) (by rw [hlen]; exact hm) q0 (r2.frame hx hF)
  refine h.mono fun e w' h => ?_
  obtain ⟨c, y, rfl, h1, h2, h3, h4, h5⟩ := h
  refine ⟨c, y, rfl, h1, ?_, h3, ?_, hF.trans h5⟩
  · rw [h2]
    funext j
    by_cases e : j = id
    · subst e; simp only [upd_same]
    · simp only [upd_ne _ _ e]
  · rw [hlen] at h4; exact h4
end
end Go.Proofs.Ytngkckefanbhgaa

/-
  slices.Insert as a function that is not executed but known by its contract.
-/
namespace Go.Proofs.Ytngkckefanbhgaa
open Go Go.Proofs Go.Shelf Go.Lib

/-- What slices.Insert of one element does. -/
def insP (f ty k bytes : Nat) : Prim := fun g args H =>
  if g = f then match args with
    | [.ms id ver 0 n, .int .i64 i, .ms id2 ver2 0 1] => match H id2 with
      | ⟨v2, true, false, _, k2, [row]⟩ => match H id with
        | ⟨v1, true, false, ty1, k1, rows⟩ =>
          if v1 = ver ∧ v2 = ver2 ∧ k1 = k ∧ k2 = k ∧ ty1 = ty ∧ id ≠ id2 ∧ n ≤ rows.length ∧ i.toNat ≤ n ∧ 0 ≤ i ∧ (n + 1) * bytes ≤ 140737488355328 ∧ n + 1 ≤ 9223372036854775807 then
            if fitRows k (rows.take n) && fitRows k [row] then
              some (.ms id (ver + 2) 0 (n + 1), upd H id ⟨ver + 2, true, false, ty, k, (rows.take n).take i.toNat ++ row :: (rows.take n).drop i.toNat⟩)
            else none
          else none
        | _ => none
      | _ => none
    | _ => none
  else none

theorem insP_ok {P : Program} {ρ : Ren} {n1 : String} {k bytes : Nat} {z : Value} (L : InsLay P ρ n1 k bytes z) (hcf : callable P (ρ.f 22)) {zz : List V} (hzz : zeroOf P (ρ.t 9) = some zz) (hzl : zz.length = k) : PrimOK P (insP (ρ.f 22) (ρ.t 9) k bytes) := by
  intro g args H v H' h
  unfold insP at h
  split at h
  · rename_i hg
    subst hg
    split at h
    · rename_i id ver n i id2 ver2
      split at h
      · rename_i v2 ty2 k2 row h2
        split at h
        · rename_i v1 ty1 k1 rows h1
          split at h
          · rename_i hc
            obtain ⟨rfl, rfl, rfl, rfl, rfl, c1, c2, c3, c4, c5, c6⟩ := hc
            split at h
            · rename_i hf
              simp only [Bool.and_eq_true] at hf
              cases h
              have := CallOK_insert L hcf hzz hzl (i := i.toNat) h1 h2 c1 c2 c3 hf.1 hf.2 c5 c6
              unfold iV at this
              rw [Int.toNat_of_nonneg c4] at this
              exact this
            · cases h
          · cases h
        · cases h
      · cases h
    · cases h
  · cases h

end Go.Proofs.Ytngkckefanbhgaa

/-
  slices.Insert, laid at function 119.
-/
namespace Go.Proofs.Ytngkckefanbhgaa
open Go Go.Proofs Go.Shelf

def insRen119 : Go.Shelf.Ren := ⟨fun | 22 => 119 | 29 => 123 | 30 => 124 | n => n, fun | 24 => 32 | 9 => 63 | n => n, fun n => n⟩
theorem insLay119 : InsLay Try.prog insRen119 Try.f119.name 2 48 (.agg #[.slice none 0 0, .slice none 0 0]) := {
  mixed := by kernel_rfl
  f22 := Try.func119.trans (congrArg some (by kernel_rfl))
  ov := fun args w => run_callFunc_extern Try.func123 (by kernel_rfl) (by kernel_rfl) (by kernel_rfl) (by kernel_rfl) args w
  t0 := Try.underlying0, a0 := Try.isAgg0, z0 := Try.sizeOf0, v0 := Try.zeroValue0
  t3 := Try.underlying3, a3 := Try.isAgg3, z3 := Try.sizeOf3, v3 := Try.zeroValue3
  t4 := Try.underlying4, a4 := Try.isAgg4, z4 := Try.sizeOf4, v4 := Try.zeroValue4
  z9 := Try.sizeOf63
  t24 := Try.underlying32, a24 := Try.isAgg32, z24 := Try.sizeOf32, v24 := Try.zeroValue32
  i9 := by kernel_rfl
  hk := by decide
  hz := by kernel_rfl }
theorem insCall119 : callable Try.prog 119 := ⟨_, Try.func119, by kernel_rfl, by kernel_rfl⟩
def insPrim119 : Prim := insP 119 63 2 48
theorem insPrim119_ok : PrimOK Try.prog insPrim119 := insP_ok insLay119 insCall119 (zz := [.nilsl, .nilsl]) (by kernel_rfl) rfl
end Go.Proofs.Ytngkckefanbhgaa

namespace Go.Proofs.Ytngkckefanbhgaa
open Go Go.Proofs

def tab39 : List (Nat × XF) := [(25, ⟨s25, []⟩), (34, ⟨s34, []⟩), (36, ⟨s36, []⟩), (39, ⟨s39, []⟩), (41, ⟨s41, []⟩), (43, ⟨s43, []⟩), (45, ⟨s45, []⟩), (50, ⟨s50, []⟩), (63, ⟨s63, []⟩), (66, ⟨s66, []⟩), (69, ⟨s69, []⟩), (73, ⟨s73, []⟩), (74, ⟨s74, []⟩), (75, ⟨s75, []⟩), (76, ⟨s76, []⟩), (77, ⟨s77, []⟩), (78, ⟨s78, []⟩), (79, ⟨s79, []⟩), (80, ⟨s80, []⟩), (81, ⟨s81, []⟩), (82, ⟨s82, []⟩), (83, ⟨s83, []⟩), (84, ⟨s84, []⟩), (99, ⟨s99, []⟩), (100, ⟨s100, []⟩), (101, ⟨s101, []⟩), (102, ⟨s102, []⟩), (103, ⟨s103, []⟩), (104, ⟨s104, []⟩), (105, ⟨s105, []⟩), (106, ⟨s106, []⟩), (107, ⟨s107, []⟩), (108, ⟨s108, []⟩), (109, ⟨s109, []⟩), (110, ⟨s110, []⟩), (111, ⟨s111, []⟩), (114, ⟨s114, []⟩), (115, ⟨s115, []⟩), (116, ⟨s116, []⟩), (117, ⟨s117, []⟩), (118, ⟨s118, []⟩), (120, ⟨s120, []⟩), (121, ⟨s121, []⟩), (122, ⟨s122, []⟩), (125, ⟨s125, []⟩), (126, ⟨s126, []⟩), (127, ⟨s127, []⟩), (128, ⟨s128, []⟩), (129, ⟨s129, []⟩), (130, ⟨s130, []⟩), (131, ⟨s131, []⟩), (132, ⟨s132, []⟩), (133, ⟨s133, []⟩), (134, ⟨s134, []⟩), (136, ⟨s136, []⟩), (137, ⟨s137, []⟩), (138, ⟨s138, []⟩), (139, ⟨s139, []⟩), (140, ⟨s140, []⟩), (142, ⟨s142, []⟩)]
theorem tab39_ok : ∀ p ∈ tab39, Good1 Try.prog p := by
  intro p hp
  simp only [tab39, List.mem_cons, List.not_mem_nil, or_false] at hp
  rcases hp with rfl | rfl | rfl | rfl | rfl | rfl | rfl | rfl | rfl | rfl | rfl | rfl | rfl | rfl | rfl | rfl | rfl | rfl | rfl | rfl | rfl | rfl | rfl | rfl | rfl | rfl | rfl | rfl | rfl | rfl | rfl | rfl | rfl | rfl | rfl | rfl | rfl | rfl | rfl | rfl | rfl | rfl | rfl | rfl | rfl | rfl | rfl | rfl | rfl | rfl | rfl | rfl | rfl | rfl | rfl | rfl | rfl | rfl | rfl | rfl
  · exact ⟨_, _, Try.func25, s25_ok, by kernel_rfl⟩
  · exact ⟨_, _, Try.func34, s34_ok, by kernel_rfl⟩
  · exact ⟨_, _, Try.func36, s36_ok, by kernel_rfl⟩
  · exact ⟨_, _, Try.func39, s39_ok, by kernel_rfl⟩
  · exact ⟨_, _, Try.func41, s41_ok, by kernel_rfl⟩
  · exact ⟨_, _, Try.func43, s43_ok, by kernel_rfl⟩
  · exact ⟨_, _, Try.func45, s45_ok, by kernel_rfl⟩
  · exact ⟨_, _, Try.func50, s50_ok, by kernel_rfl⟩
  · exact ⟨_, _, Try.func63, s63_ok, by kernel_rfl⟩
  · exact ⟨_, _, Try.func66, s66_ok, by kernel_rfl⟩
  · exact ⟨_, _, Try.func69, s69_ok, by kernel_rfl⟩
  · exact ⟨_, _, Try.func73, s73_ok, by kernel_rfl⟩
  · exact ⟨_, _, Try.func74, s74_ok, by kernel_rfl⟩
  · exact ⟨_, _, Try.func75, s75_ok, by kernel_rfl⟩
  · exact ⟨_, _, Try.func76, s76_ok, by kernel_rfl⟩
  · exact ⟨_, _, Try.func77, s77_ok, by kernel_rfl⟩
  · exact ⟨_, _, Try.func78, s78_ok, by kernel_rfl⟩
  · exact ⟨_, _, Try.func79, s79_ok, by kernel_rfl⟩
  · exact ⟨_, _, Try.func80, s80_ok, by kernel_rfl⟩
  · exact ⟨_, _, Try.func81, s81_ok, by kernel_rfl⟩
  · exact ⟨_, _, Try.func82, s82_ok, by kernel_rfl⟩
  · exact ⟨_, _, Try.func83, s83_ok, by kernel_rfl⟩
  · exact ⟨_, _, Try.func84, s84_ok, by kernel_rfl⟩
  · exact ⟨_, _, Try.func99, s99_ok, by kernel_rfl⟩
  · exact ⟨_, _, Try.func100, s100_ok, by kernel_rfl⟩
  · exact ⟨_, _, Try.func101, s101_ok, by kernel_rfl⟩
  · exact ⟨_, _, Try.func102, s102_ok, by kernel_rfl⟩
  · exact ⟨_, _, Try.func103, s103_ok, by kernel_rfl⟩
  · exact ⟨_, _, Try.func104, s104_ok, by kernel_rfl⟩
  · exact ⟨_, _, Try.func105, s105_ok, by kernel_rfl⟩
  · exact ⟨_, _, Try.func106, s106_ok, by kernel_rfl⟩
  · exact ⟨_, _, Try.func107, s107_ok, by kernel_rfl⟩
  · exact ⟨_, _, Try.func108, s108_ok, by kernel_rfl⟩
  · exact ⟨_, _, Try.func109, s109_ok, by kernel_rfl⟩
  · exact ⟨_, _, Try.func110, s110_ok, by kernel_rfl⟩
  · exact ⟨_, _, Try.func111, s111_ok, by kernel_rfl⟩
  · exact ⟨_, _, Try.func114, s114_ok, by kernel_rfl⟩
  · exact ⟨_, _, Try.func115, s115_ok, by kernel_rfl⟩
  · exact ⟨_, _, Try.func116, s116_ok, by kernel_rfl⟩
  · exact ⟨_, _, Try.func117, s117_ok, by kernel_rfl⟩
  · exact ⟨_, _, Try.func118, s118_ok, by kernel_rfl⟩
  · exact ⟨_, _, Try.func120, s120_ok, by kernel_rfl⟩
  · exact ⟨_, _, Try.func121, s121_ok, by kernel_rfl⟩
  · exact ⟨_, _, Try.func122, s122_ok, by kernel_rfl⟩
  · exact ⟨_, _, Try.func125, s125_ok, by kernel_rfl⟩
  · exact ⟨_, _, Try.func126, s126_ok, by kernel_rfl⟩
  · exact ⟨_, _, Try.func127, s127_ok, by kernel_rfl⟩
  · exact ⟨_, _, Try.func128, s128_ok, by kernel_rfl⟩
  · exact ⟨_, _, Try.func129, s129_ok, by kernel_rfl⟩
  · exact ⟨_, _, Try.func130, s130_ok, by kernel_rfl⟩
  · exact ⟨_, _, Try.func131, s131_ok, by kernel_rfl⟩
  · exact ⟨_, _, Try.func132, s132_ok, by kernel_rfl⟩
  · exact ⟨_, _, Try.func133, s133_ok, by kernel_rfl⟩
  · exact ⟨_, _, Try.func134, s134_ok, by kernel_rfl⟩
  · exact ⟨_, _, Try.func136, s136_ok, by kernel_rfl⟩
  · exact ⟨_, _, Try.func137, s137_ok, by kernel_rfl⟩
  · exact ⟨_, _, Try.func138, s138_ok, by kernel_rfl⟩
  · exact ⟨_, _, Try.func139, s139_ok, by kernel_rfl⟩
  · exact ⟨_, _, Try.func140, s140_ok, by kernel_rfl⟩
  · exact ⟨_, _, Try.func142, s142_ok, by kernel_rfl⟩
theorem aw_learnerlaw16_awake_pure : PureC Try.prog 39 [] (.bool true) := pure_of_runQ insPrim119_ok (Good_of tab39_ok) 400 rfl (by kernel_rfl)

end Go.Proofs.Ytngkckefanbhgaa

namespace Go.Proofs.Ytngkckefanbhgaa
open Go Go.Proofs

def r47_0 : List SO := [
  ⟨none, some 2, .box 34 2 (.t 0)⟩,
  ⟨none, some 3, .box 34 2 (.t 1)⟩,
  ⟨none, some 4, .mv (.c (.bool false))⟩]
def r47_1 : List SO := [
  ⟨none, some 5, .fld 0 (.t 2)⟩,
  ⟨none, some 6, .load false 1 (.t 5)⟩,
  ⟨none, some 7, .fld 0 (.t 3)⟩,
  ⟨none, some 8, .load false 1 (.t 7)⟩,
  ⟨none, some 9, .bin .eql (.t 6) (.t 8)⟩,
  ⟨none, some 10, .mv (.t 9)⟩,
  ⟨some (10, true), some 11, .fld 1 (.t 2)⟩,
  ⟨some (10, true), some 12, .load false 1 (.t 11)⟩,
  ⟨some (10, true), some 13, .fld 1 (.t 3)⟩,
  ⟨some (10, true), some 14, .load false 1 (.t 13)⟩,
  ⟨some (10, true), some 15, .call false 87 [.t 12, .t 14]⟩,
  ⟨none, some 16, .pick (.t 10) (.t 15) (.c (.bool false))⟩,
  ⟨none, some 4, .mv (.t 16)⟩]
def s47 : SF := ⟨17, [.tmp 4], .seq (.reg r47_0) (.seq (.reg r47_1) (.ret))⟩
theorem s47_ok : slimF Try.prog ⟨[94, 102, 103, 108, 109, 116, 119, 121, 125], []⟩ Try.f47 = some s47 := by kernel_rfl

end Go.Proofs.Ytngkckefanbhgaa

namespace Go.Proofs.Ytngkckefanbhgaa
open Go Go.Proofs

def r87_0 : List SO := [
  ⟨none, some 4, .mv (.c (.bool false))⟩]
def r87_1 : List SO := [
  ⟨none, some 6, .mv (.t 0)⟩,
  ⟨none, some 7, .len (.t 6)⟩,
  ⟨none, some 8, .mv (.t 1)⟩,
  ⟨none, some 9, .len (.t 8)⟩,
  ⟨none, some 10, .bin .neq (.t 7) (.t 9)⟩]
def r87_2 : List SO := [
  ⟨none, some 4, .mv (.c (.bool false))⟩]
def r87_3 : List SO := [
  ⟨none, some 5, .mv (.c (.int .i64 0))⟩]
def r87_4 : List SO := [
  ⟨none, some 11, .mv (.t 5)⟩,
  ⟨none, some 12, .mv (.t 0)⟩,
  ⟨none, some 13, .len (.t 12)⟩,
  ⟨none, some 14, .bin .lss (.t 11) (.t 13)⟩]
def r87_6 : List SO := [
  ⟨none, some 17, .mv (.t 0)⟩,
  ⟨none, some 18, .mv (.t 5)⟩,
  ⟨none, some 19, .idx 2 (.t 17) (.t 18)⟩,
  ⟨none, some 20, .fld 0 (.t 19)⟩,
  ⟨none, some 21, .load false 1 (.t 20)⟩,
  ⟨none, some 22, .mv (.t 1)⟩,
  ⟨none, some 23, .mv (.t 5)⟩,
  ⟨none, some 24, .idx 2 (.t 22) (.t 23)⟩,
  ⟨none, some 25, .fld 0 (.t 24)⟩,
  ⟨none, some 26, .load false 1 (.t 25)⟩,
  ⟨none, some 27, .call false 25 [.t 21, .t 26]⟩,
  ⟨none, some 28, .un .not (.t 27)⟩,
  ⟨none, some 29, .mv (.t 28)⟩,
  ⟨some (29, false), some 30, .mv (.t 0)⟩,
  ⟨some (29, false), some 31, .mv (.t 5)⟩,
  ⟨some (29, false), some 32, .idx 2 (.t 30) (.t 31)⟩,
  ⟨some (29, false), some 33, .fld 1 (.t 32)⟩,
  ⟨some (29, false), some 34, .load false 1 (.t 33)⟩,
  ⟨some (29, false), some 35, .mv (.t 1)⟩,
  ⟨some (29, false), some 36, .mv (.t 5)⟩,
  ⟨some (29, false), some 37, .idx 2 (.t 35) (.t 36)⟩,
  ⟨some (29, false), some 38, .fld 1 (.t 37)⟩,
  ⟨some (29, false), some 39, .load false 1 (.t 38)⟩,
  ⟨some (29, false), some 40, .call false 25 [.t 34, .t 39]⟩,
  ⟨some (29, false), some 41, .un .not (.t 40)⟩,
  ⟨none, some 42, .pick (.t 29) (.c (.bool true)) (.t 41)⟩]
def r87_7 : List SO := [
  ⟨none, some 4, .mv (.c (.bool false))⟩]
def r87_5 : List SO := [
  ⟨none, some 15, .mv (.t 5)⟩,
  ⟨none, some 16, .bin .add (.t 15) (.c (.int .i64 1))⟩,
  ⟨none, some 5, .mv (.t 16)⟩]
def b87_0 : SC := .seq (.seq (.reg r87_4) (.cond (.t 14) (.skip) (.exit 0))) (.seq (.block 1 (.seq (.reg r87_6) (.cond (.t 42) (.seq (.reg r87_7) (.ret)) (.skip)))) (.reg r87_5))
def r87_8 : List SO := [
  ⟨none, some 4, .mv (.c (.bool true))⟩]
def s87 : SF := ⟨43, [.tmp 4], .seq (.reg r87_0) (.seq (.seq (.reg r87_1) (.cond (.t 10) (.seq (.reg r87_2) (.ret)) (.skip))) (.seq (.seq (.reg r87_3) (.block 0 (.loop b87_0))) (.seq (.reg r87_8) (.ret))))⟩
theorem s87_ok : slimF Try.prog ⟨[94, 102, 103, 108, 109, 116, 119, 121, 125], []⟩ Try.f87 = some s87 := by kernel_rfl

end Go.Proofs.Ytngkckefanbhgaa

namespace Go.Proofs.Ytngkckefanbhgaa
open Go Go.Proofs

theorem ints_pure (a b : List Int) : PureC Try.prog 25 [(V.sl (List.map cI (a))), (V.sl (List.map cI (b)))] (V.bool (decide (a = b))) := by
 refine pure_of_Wb true 6 Try.func25 s25_ok (by kernel_rfl) (by simp [s25]) (by simp) (by simp) fun hB => ?_
 simp only [bnd_map, bnd_int, bnd_bool, bnd_str, bnd_agg, bnd_pp, bnd_nil, bnd_cons, implies_true, and_true, true_and] at hB
 unfold s25
 dsimp only
 refine W_seq_regc (fun T H => T 0 = (V.sl (List.map cI (a))) ∧ T 1 = (V.sl (List.map cI (b))) ∧ True) ?_ ?_
 ·
  unfold r25_0
  refine R_mv (@rfl V (V.bool false)) ?_
  exact R_nil ⟨rfl, rfl, trivial⟩
 intro T H ⟨t0, t1, _⟩
 refine W_seq_seq ?_
 refine W_seq_regc (fun T H => T 0 = (V.sl (List.map cI (a))) ∧ T 1 = (V.sl (List.map cI (b))) ∧ T 10 = (V.bool (decide (((a.length : Nat) : Int) ≠ ((b.length : Nat) : Int)))) ∧ True) ?_ ?_
 ·
  unfold r25_1
  refine R_mv t0 ?_
  refine R_len (@rfl V (V.sl (List.map cI (a)))) ?_
  refine R_mv t1 ?_
  refine R_len (@rfl V (V.sl (List.map cI (b)))) ?_
  refine R_neq (x := ((a.length : Nat) : Int)) (y := ((b.length : Nat) : Int)) (@rfl V (iV ((a.length : Nat) : Int))) (@rfl V (iV ((b.length : Nat) : Int))) ?_
  exact R_nil ⟨t0, t1, rfl, trivial⟩
 intro T H ⟨t0, t1, t10, _⟩
 refine W_seq_if (p := ((a.length : Nat) : Int) ≠ ((b.length : Nat) : Int)) t10 (fun c1 => ?_) (fun c1 => ?_)
 ·
  refine W_seq_seq ?_
  refine W_seq_regc (fun T H => T 4 = (V.bool false) ∧ True) ?_ ?_
  ·
   unfold r25_2
   refine R_mv (@rfl V (V.bool false)) ?_
   exact R_nil ⟨rfl, trivial⟩
  intro T H ⟨t4, _⟩
  refine W_seq_ret ?_
  refine Ret_1 t4 (fz_bool ?_)
  · exact (decide_eq_false (fun e => by subst e; omega)).symm
 refine W_seq_skip ?_
 refine W_seq_seq ?_
 refine W_seq_regc (fun T H => T 0 = (V.sl (List.map cI (a))) ∧ T 1 = (V.sl (List.map cI (b))) ∧ T 5 = (iV (0 : Int)) ∧ True) ?_ ?_
 ·
  unfold r25_3
  refine R_mv (@rfl V (iV (0 : Int))) ?_
  exact R_nil ⟨t0, t1, rfl, trivial⟩
 intro T H ⟨t0, t1, t5, _⟩
 refine W_seq_blockg fun Q2 n2 x2 y2 z2 => ?_
 refine W_loop (fun mm T H => ∃ (k : Nat), mm = a.length - k ∧ T 0 = (V.sl (List.map cI (a))) ∧ T 1 = (V.sl (List.map cI (b))) ∧ T 5 = (iV ((k : Nat) : Int)) ∧ (k ≤ a.length) ∧ (a.length = b.length) ∧ (∀ j, j < k → nth a j = nth b j)) ?_ ?_
 ·
  refine ⟨_, 0, rfl, t0, t1, (Eq.trans t5 (by first | rfl | simp)), ?_, ?_, ?_⟩
  · omega
  · omega
  · intro j hj; omega
 intro mm T H ⟨k, hmm, t0, t1, t5, hk, hl, hc⟩ Q3 p13 p23 p33
 unfold b25_0
 refine W_seq_seq ?_
 refine W_seq_regc (fun T H => T 0 = (V.sl (List.map cI (a))) ∧ T 1 = (V.sl (List.map cI (b))) ∧ T 5 = (iV ((k : Nat) : Int)) ∧ T 14 = (V.bool (decide (((k : Nat) : Int) < ((a.length : Nat) : Int)))) ∧ True) ?_ ?_
 ·
  unfold r25_4
  refine R_mv t5 ?_
  refine R_mv t0 ?_
  refine R_len (@rfl V (V.sl (List.map cI (a)))) ?_
  refine R_lss (x := ((k : Nat) : Int)) (y := ((a.length : Nat) : Int)) (@rfl V (iV ((k : Nat) : Int))) (@rfl V (iV ((a.length : Nat) : Int))) ?_
  exact R_nil ⟨t0, t1, t5, rfl, trivial⟩
 intro T H ⟨t0, t1, t5, t14, _⟩
 refine W_seq_if (p := ((k : Nat) : Int) < ((a.length : Nat) : Int)) t14 (fun c4 => ?_) (fun c4 => ?_)
 ·
  refine W_seq_skip ?_
  refine W_seq_blockg fun Q5 n5 x5 y5 z5 => ?_
  refine W_seq_regc (fun T H => T 0 = (V.sl (List.map cI (a))) ∧ T 1 = (V.sl (List.map cI (b))) ∧ T 5 = (iV ((k : Nat) : Int)) ∧ T 25 = (V.bool (decide (((nth (a) (k))) ≠ ((nth (b) (k)))))) ∧ True) ?_ ?_
  ·
   unfold r25_6
   refine R_mv t0 ?_
   refine R_mv t5 ?_
   refine R_idx (i := k) (@rfl V (V.sl (List.map cI (a)))) (@rfl V (iV ((k : Nat) : Int))) (by omega) rfl ?_
   refine R_load_pp (v := (iV ((nth (a) (k))))) (@rfl V (V.pp [(iV ((nth (a) (k))))])) (by first | rfl | simp [ldV]) ?_
   refine R_mv t1 ?_
   refine R_mv t5 ?_
   refine R_idx (i := k) (@rfl V (V.sl (List.map cI (b)))) (@rfl V (iV ((k : Nat) : Int))) (by omega) rfl ?_
   refine R_load_pp (v := (iV ((nth (b) (k))))) (@rfl V (V.pp [(iV ((nth (b) (k))))])) (by first | rfl | simp [ldV]) ?_
   refine R_neq (x := ((nth (a) (k)))) (y := ((nth (b) (k)))) (@rfl V (iV ((nth (a) (k))))) (@rfl V (iV ((nth (b) (k))))) ?_
   exact R_nil ⟨t0, t1, t5, rfl, trivial⟩
  intro T H ⟨t0, t1, t5, t25, _⟩
  refine W_if (p := ((nth (a) (k))) ≠ ((nth (b) (k)))) t25 (fun c6 => ?_) (fun c6 => ?_)
  ·
   refine W_seq_regc (fun T H => T 4 = (V.bool false) ∧ True) ?_ ?_
   ·
    unfold r25_7
    refine R_mv (@rfl V (V.bool false)) ?_
    exact R_nil ⟨rfl, trivial⟩
   intro T H ⟨t4, _⟩
   refine W_ret ?_
   refine y5 _ _ ?_
   refine p23 _ _ ?_
   refine y2 _ _ ?_
   refine Ret_1 t4 (fz_bool ?_)
   · exact (decide_eq_false (fun e => by subst e; omega)).symm
  refine W_skip ?_
  refine n5 _ _ ?_
  refine .done ?_
  refine W_regc (fun T H => T 0 = (V.sl (List.map cI (a))) ∧ T 1 = (V.sl (List.map cI (b))) ∧ T 5 = (iV ((k + 1 : Nat) : Int)) ∧ True) ?_ ?_
  ·
   unfold r25_5
   refine R_mv t5 ?_
   refine R_addN (m := k) (n := 1) (@rfl V (iV ((k : Nat) : Int))) (@rfl V (iV ((1 : Nat) : Int))) (by omega) ?_
   refine R_mv (@rfl V (iV ((k + 1 : Nat) : Int))) ?_
   exact R_nil ⟨t0, t1, rfl, trivial⟩
  intro T H ⟨t0, t1, t5, _⟩
  refine p13 _ _ _ ?_ ⟨(k + 1), rfl, t0, t1, (Eq.trans t5 (by first | rfl | simp)), ?_, ?_, ?_⟩
  · omega
  · omega
  · omega
  · intro j hj
    by_cases e : j = k
    · subst e; omega
    · exact hc j (by omega)
 refine W_seq_exit ?_
 refine p33 _ _ _ ?_
 refine x2 _ _ ?_
 refine .done ?_
 refine W_seq_regc (fun T H => T 4 = (V.bool true) ∧ True) ?_ ?_
 ·
  unfold r25_8
  refine R_mv (@rfl V (V.bool true)) ?_
  exact R_nil ⟨rfl, trivial⟩
 intro T H ⟨t4, _⟩
 refine W_ret ?_
 refine Ret_1 t4 (fz_bool ?_)
 · exact (decide_eq_true (nth_ext hl fun j hj => hc j (by omega))).symm

end Go.Proofs.Ytngkckefanbhgaa

/-
  Equality of traces and observations.
-/
namespace Go.Proofs.Ytngkckefanbhgaa
theorem Tr.eq_iff {a b : Tr} : a = b ↔ a.ni = b.ni ∧ a.no = b.no := by cases a; cases b; simp
theorem Ob.eq_iff {a b : Ob} : a = b ↔ a.i = b.i ∧ a.tr = b.tr := by cases a; cases b; simp
instance : DecidableEq Tr := fun _ _ => decidable_of_iff _ Tr.eq_iff.symm
instance : DecidableEq Ob := fun _ _ => decidable_of_iff _ Ob.eq_iff.symm
end Go.Proofs.Ytngkckefanbhgaa

namespace Go.Proofs.Ytngkckefanbhgaa
open Go Go.Proofs

theorem rst_pure (a b : List Tr) : PureC Try.prog 87 [(V.sl (List.map cT (a))), (V.sl (List.map cT (b)))] (V.bool (decide (a = b))) := by
 refine pure_of_Wb true 6 Try.func87 s87_ok (by kernel_rfl) (by simp [s87]) (by simp) (by simp) fun hB => ?_
 simp only [bnd_map, bnd_int, bnd_bool, bnd_str, bnd_agg, bnd_pp, bnd_nil, bnd_cons, implies_true, and_true, true_and] at hB
 unfold s87
 dsimp only
 refine W_seq_regc (fun T H => T 0 = (V.sl (List.map cT (a))) ∧ T 1 = (V.sl (List.map cT (b))) ∧ True) ?_ ?_
 ·
  unfold r87_0
  refine R_mv (@rfl V (V.bool false)) ?_
  exact R_nil ⟨rfl, rfl, trivial⟩
 intro T H ⟨t0, t1, _⟩
 refine W_seq_seq ?_
 refine W_seq_regc (fun T H => T 0 = (V.sl (List.map cT (a))) ∧ T 1 = (V.sl (List.map cT (b))) ∧ T 10 = (V.bool (decide (((a.length : Nat) : Int) ≠ ((b.length : Nat) : Int)))) ∧ True) ?_ ?_
 ·
  unfold r87_1
  refine R_mv t0 ?_
  refine R_len (@rfl V (V.sl (List.map cT (a)))) ?_
  refine R_mv t1 ?_
  refine R_len (@rfl V (V.sl (List.map cT (b)))) ?_
  refine R_neq (x := ((a.length : Nat) : Int)) (y := ((b.length : Nat) : Int)) (@rfl V (iV ((a.length : Nat) : Int))) (@rfl V (iV ((b.length : Nat) : Int))) ?_
  exact R_nil ⟨t0, t1, rfl, trivial⟩
 intro T H ⟨t0, t1, t10, _⟩
 refine W_seq_if (p := ((a.length : Nat) : Int) ≠ ((b.length : Nat) : Int)) t10 (fun c1 => ?_) (fun c1 => ?_)
 ·
  refine W_seq_seq ?_
  refine W_seq_regc (fun T H => T 4 = (V.bool false) ∧ True) ?_ ?_
  ·
   unfold r87_2
   refine R_mv (@rfl V (V.bool false)) ?_
   exact R_nil ⟨rfl, trivial⟩
  intro T H ⟨t4, _⟩
  refine W_seq_ret ?_
  refine Ret_1 t4 (fz_bool ?_)
  · exact (decide_eq_false (fun e => by subst e; omega)).symm
 refine W_seq_skip ?_
 refine W_seq_seq ?_
 refine W_seq_regc (fun T H => T 0 = (V.sl (List.map cT (a))) ∧ T 1 = (V.sl (List.map cT (b))) ∧ T 5 = (iV (0 : Int)) ∧ True) ?_ ?_
 ·
  unfold r87_3
  refine R_mv (@rfl V (iV (0 : Int))) ?_
  exact R_nil ⟨t0, t1, rfl, trivial⟩
 intro T H ⟨t0, t1, t5, _⟩
 refine W_seq_blockg fun Q2 n2 x2 y2 z2 => ?_
 refine W_loop (fun mm T H => ∃ (k : Nat), mm = a.length - k ∧ T 0 = (V.sl (List.map cT (a))) ∧ T 1 = (V.sl (List.map cT (b))) ∧ T 5 = (iV ((k : Nat) : Int)) ∧ (k ≤ a.length) ∧ (a.length = b.length) ∧ (∀ j, j < k → nth a j = nth b j)) ?_ ?_
 ·
  refine ⟨_, 0, rfl, t0, t1, (Eq.trans t5 (by first | rfl | simp)), ?_, ?_, ?_⟩
  · omega
  · omega
  · intro j hj; omega
 intro mm T H ⟨k, hmm, t0, t1, t5, hk, hl, hc⟩ Q3 p13 p23 p33
 unfold b87_0
 refine W_seq_seq ?_
 refine W_seq_regc (fun T H => T 0 = (V.sl (List.map cT (a))) ∧ T 1 = (V.sl (List.map cT (b))) ∧ T 5 = (iV ((k : Nat) : Int)) ∧ T 14 = (V.bool (decide (((k : Nat) : Int) < ((a.length : Nat) : Int)))) ∧ True) ?_ ?_
 ·
  unfold r87_4
  refine R_mv t5 ?_
  refine R_mv t0 ?_
  refine R_len (@rfl V (V.sl (List.map cT (a)))) ?_
  refine R_lss (x := ((k : Nat) : Int)) (y := ((a.length : Nat) : Int)) (@rfl V (iV ((k : Nat) : Int))) (@rfl V (iV ((a.length : Nat) : Int))) ?_
  exact R_nil ⟨t0, t1, t5, rfl, trivial⟩
 intro T H ⟨t0, t1, t5, t14, _⟩
 refine W_seq_if (p := ((k : Nat) : Int) < ((a.length : Nat) : Int)) t14 (fun c4 => ?_) (fun c4 => ?_)
 ·
  refine W_seq_skip ?_
  refine W_seq_blockg fun Q5 n5 x5 y5 z5 => ?_
  refine W_seq_regc (fun T H => T 0 = (V.sl (List.map cT (a))) ∧ T 1 = (V.sl (List.map cT (b))) ∧ T 5 = (iV ((k : Nat) : Int)) ∧ T 42 = (V.bool (decide ((¬(((nth (a) (k)).ni) = ((nth (b) (k)).ni))) ∨ (¬(((nth (a) (k)).no) = ((nth (b) (k)).no)))))) ∧ True) ?_ ?_
  ·
   unfold r87_6
   refine R_mv t0 ?_
   refine R_mv t5 ?_
   refine R_idx (i := k) (@rfl V (V.sl (List.map cT (a)))) (@rfl V (iV ((k : Nat) : Int))) (by omega) rfl ?_
   refine R_fld_pp (cs' := [(V.sl (List.map cI ((nth (a) (k)).ni))), (V.sl (List.map cI ((nth (a) (k)).no)))]) (@rfl V (V.pp [(V.sl (List.map cI ((nth (a) (k)).ni))), (V.sl (List.map cI ((nth (a) (k)).no)))])) rfl ?_
   refine R_load_pp (v := (V.sl (List.map cI ((nth (a) (k)).ni)))) (@rfl V (V.pp [(V.sl (List.map cI ((nth (a) (k)).ni))), (V.sl (List.map cI ((nth (a) (k)).no)))])) (by first | rfl | simp [ldV]) ?_
   refine R_mv t1 ?_
   refine R_mv t5 ?_
   refine R_idx (i := k) (@rfl V (V.sl (List.map cT (b)))) (@rfl V (iV ((k : Nat) : Int))) (by omega) rfl ?_
   refine R_fld_pp (cs' := [(V.sl (List.map cI ((nth (b) (k)).ni))), (V.sl (List.map cI ((nth (b) (k)).no)))]) (@rfl V (V.pp [(V.sl (List.map cI ((nth (b) (k)).ni))), (V.sl (List.map cI ((nth (b) (k)).no)))])) rfl ?_
   refine R_load_pp (v := (V.sl (List.map cI ((nth (b) (k)).ni)))) (@rfl V (V.pp [(V.sl (List.map cI ((nth (b) (k)).ni))), (V.sl (List.map cI ((nth (b) (k)).no)))])) (by first | rfl | simp [ldV]) ?_
   refine R_call (evcons (@rfl V (V.sl (List.map cI ((nth (a) (k)).ni)))) (evcons (@rfl V (V.sl (List.map cI ((nth (b) (k)).ni)))) evnil)) (ints_pure ((nth (a) (k)).ni) ((nth (b) (k)).ni)) (fzv_mapcanon _ _ (by simp [-List.map_take, -List.map_drop, -List.map_append, -List.map_reverse])) (by simp [-List.map_take, -List.map_drop, -List.map_append, -List.map_reverse]) (Or.inl (by simp [-List.map_take, -List.map_drop, -List.map_append, -List.map_reverse])) ?_
   refine R_not (p := ((nth (a) (k)).ni) = ((nth (b) (k)).ni)) (@rfl V (V.bool (decide (((nth (a) (k)).ni) = ((nth (b) (k)).ni))))) ?_
   refine R_mv (@rfl V (V.bool (decide (¬(((nth (a) (k)).ni) = ((nth (b) (k)).ni)))))) ?_
   refine Ops_seg 13 (fun T H => T 0 = (V.sl (List.map cT (a))) ∧ T 1 = (V.sl (List.map cT (b))) ∧ T 5 = (iV ((k : Nat) : Int)) ∧ T 42 = (V.bool (decide ((¬(((nth (a) (k)).ni) = ((nth (b) (k)).ni))) ∨ (¬(((nth (a) (k)).no) = ((nth (b) (k)).no)))))) ∧ True) ?_ ?_
   ·
    by_cases g6 : ¬(((nth (a) (k)).ni) = ((nth (b) (k)).ni))
    ·
     refine G_no (Eq.trans (@rfl V (V.bool (decide (¬(((nth (a) (k)).ni) = ((nth (b) (k)).ni)))))) (bdT g6)) (by decide) ?_
     refine G_no (Eq.trans (@rfl V (V.bool (decide (¬(((nth (a) (k)).ni) = ((nth (b) (k)).ni)))))) (bdT g6)) (by decide) ?_
     refine G_no (Eq.trans (@rfl V (V.bool (decide (¬(((nth (a) (k)).ni) = ((nth (b) (k)).ni)))))) (bdT g6)) (by decide) ?_
     refine G_no (Eq.trans (@rfl V (V.bool (decide (¬(((nth (a) (k)).ni) = ((nth (b) (k)).ni)))))) (bdT g6)) (by decide) ?_
     refine G_no (Eq.trans (@rfl V (V.bool (decide (¬(((nth (a) (k)).ni) = ((nth (b) (k)).ni)))))) (bdT g6)) (by decide) ?_
     refine G_no (Eq.trans (@rfl V (V.bool (decide (¬(((nth (a) (k)).ni) = ((nth (b) (k)).ni)))))) (bdT g6)) (by decide) ?_
     refine G_no (Eq.trans (@rfl V (V.bool (decide (¬(((nth (a) (k)).ni) = ((nth (b) (k)).ni)))))) (bdT g6)) (by decide) ?_
     refine G_no (Eq.trans (@rfl V (V.bool (decide (¬(((nth (a) (k)).ni) = ((nth (b) (k)).ni)))))) (bdT g6)) (by decide) ?_
     refine G_no (Eq.trans (@rfl V (V.bool (decide (¬(((nth (a) (k)).ni) = ((nth (b) (k)).ni)))))) (bdT g6)) (by decide) ?_
     refine G_no (Eq.trans (@rfl V (V.bool (decide (¬(((nth (a) (k)).ni) = ((nth (b) (k)).ni)))))) (bdT g6)) (by decide) ?_
     refine G_no (Eq.trans (@rfl V (V.bool (decide (¬(((nth (a) (k)).ni) = ((nth (b) (k)).ni)))))) (bdT g6)) (by decide) ?_
     refine G_no (Eq.trans (@rfl V (V.bool (decide (¬(((nth (a) (k)).ni) = ((nth (b) (k)).ni)))))) (bdT g6)) (by decide) ?_
     refine R_pickT (Eq.trans (@rfl V (V.bool (decide (¬(((nth (a) (k)).ni) = ((nth (b) (k)).ni)))))) (bdT g6)) (@rfl V (V.bool true)) ?_
     exact ⟨t0, t1, t5, (Eq.trans (@rfl V (V.bool true)) (dec_orT g6)), trivial⟩
    ·
     refine G_yes (Eq.trans (@rfl V (V.bool (decide (¬(((nth (a) (k)).ni) = ((nth (b) (k)).ni)))))) (bdF g6)) ?_
     refine R_mv t0 ?_
     refine G_yes (Eq.trans (@rfl V (V.bool (decide (¬(((nth (a) (k)).ni) = ((nth (b) (k)).ni)))))) (bdF g6)) ?_
     refine R_mv t5 ?_
     refine G_yes (Eq.trans (@rfl V (V.bool (decide (¬(((nth (a) (k)).ni) = ((nth (b) (k)).ni)))))) (bdF g6)) ?_
     refine R_idx (i := k) (@rfl V (V.sl (List.map cT (a)))) (@rfl V (iV ((k : Nat) : Int))) (by omega) rfl ?_
     refine G_yes (Eq.trans (@rfl V (V.bool (decide (¬(((nth (a) (k)).ni) = ((nth (b) (k)).ni)))))) (bdF g6)) ?_
     refine R_fld_pp (cs' := [(V.sl (List.map cI ((nth (a) (k)).no)))]) (@rfl V (V.pp [(V.sl (List.map cI ((nth (a) (k)).ni))), (V.sl (List.map cI ((nth (a) (k)).no)))])) rfl ?_
     refine G_yes (Eq.trans (@rfl V (V.bool (decide (¬(((nth (a) (k)).ni) = ((nth (b) (k)).ni)))))) (bdF g6)) ?_
     refine R_load_pp (v := (V.sl (List.map cI ((nth (a) (k)).no)))) (@rfl V (V.pp [(V.sl (List.map cI ((nth (a) (k)).no)))])) (by first | rfl | simp [ldV]) ?_
     refine G_yes (Eq.trans (@rfl V (V.bool (decide (¬(((nth (a) (k)).ni) = ((nth (b) (k)).ni)))))) (bdF g6)) ?_
     refine R_mv t1 ?_
     refine G_yes (Eq.trans (@rfl V (V.bool (decide (¬(((nth (a) (k)).ni) = ((nth (b) (k)).ni)))))) (bdF g6)) ?_
     refine R_mv t5 ?_
     refine G_yes (Eq.trans (@rfl V (V.bool (decide (¬(((nth (a) (k)).ni) = ((nth (b) (k)).ni)))))) (bdF g6)) ?_
     refine R_idx (i := k) (@rfl V (V.sl (List.map cT (b)))) (@rfl V (iV ((k : Nat) : Int))) (by omega) rfl ?_
     refine G_yes (Eq.trans (@rfl V (V.bool (decide (¬(((nth (a) (k)).ni) = ((nth (b) (k)).ni)))))) (bdF g6)) ?_
     refine R_fld_pp (cs' := [(V.sl (List.map cI ((nth (b) (k)).no)))]) (@rfl V (V.pp [(V.sl (List.map cI ((nth (b) (k)).ni))), (V.sl (List.map cI ((nth (b) (k)).no)))])) rfl ?_
     refine G_yes (Eq.trans (@rfl V (V.bool (decide (¬(((nth (a) (k)).ni) = ((nth (b) (k)).ni)))))) (bdF g6)) ?_
     refine R_load_pp (v := (V.sl (List.map cI ((nth (b) (k)).no)))) (@rfl V (V.pp [(V.sl (List.map cI ((nth (b) (k)).no)))])) (by first | rfl | simp [ldV]) ?_
     refine G_yes (Eq.trans (@rfl V (V.bool (decide (¬(((nth (a) (k)).ni) = ((nth (b) (k)).ni)))))) (bdF g6)) ?_
     refine R_call (evcons (@rfl V (V.sl (List.map cI ((nth (a) (k)).no)))) (evcons (@rfl V (V.sl (List.map cI ((nth (b) (k)).no)))) evnil)) (ints_pure ((nth (a) (k)).no) ((nth (b) (k)).no)) (fzv_mapcanon _ _ (by simp [-List.map_take, -List.map_drop, -List.map_append, -List.map_reverse])) (by simp [-List.map_take, -List.map_drop, -List.map_append, -List.map_reverse]) (Or.inl (by simp [-List.map_take, -List.map_drop, -List.map_append, -List.map_reverse])) ?_
     refine G_yes (Eq.trans (@rfl V (V.bool (decide (¬(((nth (a) (k)).ni) = ((nth (b) (k)).ni)))))) (bdF g6)) ?_
     refine R_not (p := ((nth (a) (k)).no) = ((nth (b) (k)).no)) (@rfl V (V.bool (decide (((nth (a) (k)).no) = ((nth (b) (k)).no))))) ?_
     refine R_pickF (Eq.trans (@rfl V (V.bool (decide (¬(((nth (a) (k)).ni) = ((nth (b) (k)).ni)))))) (bdF g6)) (@rfl V (V.bool (decide (¬(((nth (a) (k)).no) = ((nth (b) (k)).no)))))) ?_
     exact ⟨t0, t1, t5, (Eq.trans (@rfl V (V.bool (decide (¬(((nth (a) (k)).no) = ((nth (b) (k)).no)))))) (dec_orF g6)), trivial⟩
   intro T H ⟨t0, t1, t5, t42, _⟩
   exact R_nil ⟨t0, t1, t5, t42, trivial⟩
  intro T H ⟨t0, t1, t5, t42, _⟩
  refine W_if (p := (¬(((nth (a) (k)).ni) = ((nth (b) (k)).ni))) ∨ (¬(((nth (a) (k)).no) = ((nth (b) (k)).no)))) t42 (fun c7 => ?_) (fun c7 => ?_)
  ·
   have d1 : nth a k ≠ nth b k := fun e => by rw [e] at c7; simp at c7
   refine W_seq_regc (fun T H => T 4 = (V.bool false) ∧ True) ?_ ?_
   ·
    unfold r87_7
    refine R_mv (@rfl V (V.bool false)) ?_
    exact R_nil ⟨rfl, trivial⟩
   intro T H ⟨t4, _⟩
   refine W_ret ?_
   refine y5 _ _ ?_
   refine p23 _ _ ?_
   refine y2 _ _ ?_
   refine Ret_1 t4 (fz_bool ?_)
   · exact (decide_eq_false (fun e => d1 (by subst e; rfl))).symm
  have d1 : nth a k = nth b k := Tr.eq_iff.2 (by simpa using c7)
  refine W_skip ?_
  refine n5 _ _ ?_
  refine .done ?_
  refine W_regc (fun T H => T 0 = (V.sl (List.map cT (a))) ∧ T 1 = (V.sl (List.map cT (b))) ∧ T 5 = (iV ((k + 1 : Nat) : Int)) ∧ True) ?_ ?_
  ·
   unfold r87_5
   refine R_mv t5 ?_
   refine R_addN (m := k) (n := 1) (@rfl V (iV ((k : Nat) : Int))) (@rfl V (iV ((1 : Nat) : Int))) (by omega) ?_
   refine R_mv (@rfl V (iV ((k + 1 : Nat) : Int))) ?_
   exact R_nil ⟨t0, t1, rfl, trivial⟩
  intro T H ⟨t0, t1, t5, _⟩
  refine p13 _ _ _ ?_ ⟨(k + 1), rfl, t0, t1, (Eq.trans t5 (by first | rfl | simp)), ?_, ?_, ?_⟩
  · omega
  · omega
  · omega
  · intro j hj
    by_cases e : j = k
    · subst e; exact d1
    · exact hc j (by omega)
 refine W_seq_exit ?_
 refine p33 _ _ _ ?_
 refine x2 _ _ ?_
 refine .done ?_
 refine W_seq_regc (fun T H => T 4 = (V.bool true) ∧ True) ?_ ?_
 ·
  unfold r87_8
  refine R_mv (@rfl V (V.bool true)) ?_
  exact R_nil ⟨rfl, trivial⟩
 intro T H ⟨t4, _⟩
 refine W_ret ?_
 refine Ret_1 t4 (fz_bool ?_)
 · exact (decide_eq_true (nth_ext hl fun j hj => hc j (by omega))).symm

end Go.Proofs.Ytngkckefanbhgaa

namespace Go.Proofs.Ytngkckefanbhgaa
open Go Go.Proofs

theorem rsame_pure (a b : Ob) : PureC Try.prog 47 [(V.agg [(iV (a.i)), (V.sl (List.map cT (a.tr)))]), (V.agg [(iV (b.i)), (V.sl (List.map cT (b.tr)))])] (V.bool (decide (a = b))) := by
 refine pure_of_Wb true 6 Try.func47 s47_ok (by kernel_rfl) (by simp [s47]) (by simp) (by simp) fun hB => ?_
 simp only [bnd_map, bnd_int, bnd_bool, bnd_str, bnd_agg, bnd_pp, bnd_nil, bnd_cons, implies_true, and_true, true_and] at hB
 unfold s47
 dsimp only
 refine W_seq_regc (fun T H => T 2 = (V.mp 2 1 0 0) ∧ T 3 = (V.mp 3 1 0 0) ∧ H 2 = (⟨1, true, false, 34, 2, [[(iV (a.i)), (V.sl (List.map cT (a.tr)))]]⟩ : Blk) ∧ H 3 = (⟨1, true, false, 34, 2, [[(iV (b.i)), (V.sl (List.map cT (b.tr)))]]⟩ : Blk) ∧ True) ?_ ?_
 ·
  unfold r47_0
  refine R_box (i := 2) (n := 0) (m := 2) (cs := [(iV (a.i)), (V.sl (List.map cT (a.tr)))]) rfl (congrArg Blk.ver rfl) (@rfl V (V.agg [(iV (a.i)), (V.sl (List.map cT (a.tr)))])) rfl rfl ?_
  refine R_box (i := 3) (n := 0) (m := 2) (cs := [(iV (b.i)), (V.sl (List.map cT (b.tr)))]) rfl (congrArg Blk.ver rfl) (@rfl V (V.agg [(iV (b.i)), (V.sl (List.map cT (b.tr)))])) rfl rfl ?_
  refine R_mv (@rfl V (V.bool false)) ?_
  exact R_nil ⟨rfl, rfl, rfl, rfl, trivial⟩
 intro T H ⟨t2, t3, h2, h3, _⟩
 refine W_seq_regc (fun T H => T 4 = (V.bool (decide (((a.i) = (b.i)) ∧ (a.tr = b.tr)))) ∧ H 2 = (⟨1, true, false, 34, 2, [[(iV (a.i)), (V.sl (List.map cT (a.tr)))]]⟩ : Blk) ∧ H 3 = (⟨1, true, false, 34, 2, [[(iV (b.i)), (V.sl (List.map cT (b.tr)))]]⟩ : Blk) ∧ True) ?_ ?_
 ·
  unfold r47_1
  refine R_fld_mp (o' := 0) t2 h2 (by first | rfl | simp [okB, Blk.own]) rfl ?_
  refine R_load_mp (v := (iV (a.i))) (@rfl V (V.mp 2 1 0 0)) h2 (by first | rfl | simp [ldB, ldV, Blk.own, V.one]) ?_
  refine R_fld_mp (o' := 0) t3 h3 (by first | rfl | simp [okB, Blk.own]) rfl ?_
  refine R_load_mp (v := (iV (b.i))) (@rfl V (V.mp 3 1 0 0)) h3 (by first | rfl | simp [ldB, ldV, Blk.own, V.one]) ?_
  refine R_eql (x := (a.i)) (y := (b.i)) (@rfl V (iV (a.i))) (@rfl V (iV (b.i))) ?_
  refine R_mv (@rfl V (V.bool (decide ((a.i) = (b.i))))) ?_
  refine Ops_seg 6 (fun T H => T 16 = (V.bool (decide (((a.i) = (b.i)) ∧ (a.tr = b.tr)))) ∧ H 2 = (⟨1, true, false, 34, 2, [[(iV (a.i)), (V.sl (List.map cT (a.tr)))]]⟩ : Blk) ∧ H 3 = (⟨1, true, false, 34, 2, [[(iV (b.i)), (V.sl (List.map cT (b.tr)))]]⟩ : Blk) ∧ True) ?_ ?_
  ·
   by_cases g1 : (a.i) = (b.i)
   ·
    refine G_yes (Eq.trans (@rfl V (V.bool (decide ((a.i) = (b.i))))) (bdT g1)) ?_
    refine R_fld_mp (o' := 1) t2 h2 (by first | rfl | simp [okB, Blk.own]) rfl ?_
    refine G_yes (Eq.trans (@rfl V (V.bool (decide ((a.i) = (b.i))))) (bdT g1)) ?_
    refine R_load_mp (v := (V.sl (List.map cT (a.tr)))) (@rfl V (V.mp 2 1 0 1)) h2 (by first | rfl | simp [ldB, ldV, Blk.own, V.one]) ?_
    refine G_yes (Eq.trans (@rfl V (V.bool (decide ((a.i) = (b.i))))) (bdT g1)) ?_
    refine R_fld_mp (o' := 1) t3 h3 (by first | rfl | simp [okB, Blk.own]) rfl ?_
    refine G_yes (Eq.trans (@rfl V (V.bool (decide ((a.i) = (b.i))))) (bdT g1)) ?_
    refine R_load_mp (v := (V.sl (List.map cT (b.tr)))) (@rfl V (V.mp 3 1 0 1)) h3 (by first | rfl | simp [ldB, ldV, Blk.own, V.one]) ?_
    refine G_yes (Eq.trans (@rfl V (V.bool (decide ((a.i) = (b.i))))) (bdT g1)) ?_
    refine R_call (evcons (@rfl V (V.sl (List.map cT (a.tr)))) (evcons (@rfl V (V.sl (List.map cT (b.tr)))) evnil)) (rst_pure a.tr b.tr) (fzv_mapcanon _ _ (by simp [-List.map_take, -List.map_drop, -List.map_append, -List.map_reverse])) (by simp [-List.map_take, -List.map_drop, -List.map_append, -List.map_reverse]) (Or.inl (by simp [-List.map_take, -List.map_drop, -List.map_append, -List.map_reverse])) ?_
    refine R_pickT (Eq.trans (@rfl V (V.bool (decide ((a.i) = (b.i))))) (bdT g1)) (@rfl V (V.bool (decide (a.tr = b.tr)))) ?_
    exact ⟨(Eq.trans (@rfl V (V.bool (decide (a.tr = b.tr)))) (dec_andT g1)), h2, h3, trivial⟩
   ·
    refine G_no (Eq.trans (@rfl V (V.bool (decide ((a.i) = (b.i))))) (bdF g1)) (by decide) ?_
    refine G_no (Eq.trans (@rfl V (V.bool (decide ((a.i) = (b.i))))) (bdF g1)) (by decide) ?_
    refine G_no (Eq.trans (@rfl V (V.bool (decide ((a.i) = (b.i))))) (bdF g1)) (by decide) ?_
    refine G_no (Eq.trans (@rfl V (V.bool (decide ((a.i) = (b.i))))) (bdF g1)) (by decide) ?_
    refine G_no (Eq.trans (@rfl V (V.bool (decide ((a.i) = (b.i))))) (bdF g1)) (by decide) ?_
    refine R_pickF (Eq.trans (@rfl V (V.bool (decide ((a.i) = (b.i))))) (bdF g1)) (@rfl V (V.bool false)) ?_
    exact ⟨(Eq.trans (@rfl V (V.bool false)) (dec_andF g1)), h2, h3, trivial⟩
  intro T H ⟨t16, h2, h3, _⟩
  refine R_mv t16 ?_
  exact R_nil ⟨rfl, h2, h3, trivial⟩
 intro T H ⟨t4, h2, h3, _⟩
 refine W_ret ?_
 refine Ret_1 t4 (fz_bool ?_)
 · exact decide_eq_decide.2 Ob.eq_iff.symm

end Go.Proofs.Ytngkckefanbhgaa

namespace Go.Proofs.Ytngkckefanbhgaa
open Go Go.Proofs

theorem onew_pure (n : Int) : PureC Try.prog 50 [(iV (n))] (V.tup [(V.agg [(iV ((if n < 1 ∨ 64 < n then 0 else n : Int))), (V.sl (List.map cT ([])))]), (iV ((if n < 1 ∨ 64 < n then 2 else 0 : Int)))]) := by
 refine pure_of_Wb true 6 Try.func50 s50_ok (by kernel_rfl) (by simp [s50]) (by simp) (by simp) fun hB => ?_
 simp only [bnd_map, bnd_int, bnd_bool, bnd_str, bnd_agg, bnd_pp, bnd_nil, bnd_cons, implies_true, and_true, true_and] at hB
 unfold s50
 dsimp only
 refine W_seq_regc (fun T H => T 0 = (iV (n)) ∧ T 2 = (V.mp 2 1 0 0) ∧ H 2 = (⟨1, true, false, 34, 2, [[(iV (0 : Int)), V.nilsl]]⟩ : Blk) ∧ True) ?_ ?_
 ·
  unfold r50_0
  refine R_alloc (i := 2) (n := 0) (m := 2) rfl (congrArg Blk.ver rfl) rfl ?_
  refine R_mv (@rfl V (iV (0 : Int))) ?_
  exact R_nil ⟨rfl, rfl, rfl, trivial⟩
 intro T H ⟨t0, t2, h2, _⟩
 refine W_seq_seq ?_
 refine W_seq_regc (fun T H => T 0 = (iV (n)) ∧ T 2 = (V.mp 2 1 0 0) ∧ T 9 = (V.bool (decide (((n) < (1 : Int)) ∨ ((64 : Int) < (n))))) ∧ H 2 = (⟨1, true, false, 34, 2, [[(iV (0 : Int)), V.nilsl]]⟩ : Blk) ∧ True) ?_ ?_
 ·
  unfold r50_1
  refine R_mv t0 ?_
  refine R_lss (x := (n)) (y := (1 : Int)) (@rfl V (iV (n))) (@rfl V (iV (1 : Int))) ?_
  refine R_mv (@rfl V (V.bool (decide ((n) < (1 : Int))))) ?_
  refine Ops_seg 3 (fun T H => T 0 = (iV (n)) ∧ T 2 = (V.mp 2 1 0 0) ∧ T 9 = (V.bool (decide (((n) < (1 : Int)) ∨ ((64 : Int) < (n))))) ∧ H 2 = (⟨1, true, false, 34, 2, [[(iV (0 : Int)), V.nilsl]]⟩ : Blk) ∧ True) ?_ ?_
  ·
   by_cases g1 : (n) < (1 : Int)
   ·
    refine G_no (Eq.trans (@rfl V (V.bool (decide ((n) < (1 : Int))))) (bdT g1)) (by decide) ?_
    refine G_no (Eq.trans (@rfl V (V.bool (decide ((n) < (1 : Int))))) (bdT g1)) (by decide) ?_
    refine R_pickT (Eq.trans (@rfl V (V.bool (decide ((n) < (1 : Int))))) (bdT g1)) (@rfl V (V.bool true)) ?_
    exact ⟨t0, t2, (Eq.trans (@rfl V (V.bool true)) (dec_orT g1)), h2, trivial⟩
   ·
    refine G_yes (Eq.trans (@rfl V (V.bool (decide ((n) < (1 : Int))))) (bdF g1)) ?_
    refine R_mv t0 ?_
    refine G_yes (Eq.trans (@rfl V (V.bool (decide ((n) < (1 : Int))))) (bdF g1)) ?_
    refine R_gtr (x := (n)) (y := (64 : Int)) (@rfl V (iV (n))) (@rfl V (iV (64 : Int))) ?_
    refine R_pickF (Eq.trans (@rfl V (V.bool (decide ((n) < (1 : Int))))) (bdF g1)) (@rfl V (V.bool (decide ((64 : Int) < (n))))) ?_
    exact ⟨t0, t2, (Eq.trans (@rfl V (V.bool (decide ((64 : Int) < (n))))) (dec_orF g1)), h2, trivial⟩
  intro T H ⟨t0, t2, t9, h2, _⟩
  exact R_nil ⟨t0, t2, t9, h2, trivial⟩
 intro T H ⟨t0, t2, t9, h2, _⟩
 refine W_seq_if (p := ((n) < (1 : Int)) ∨ ((64 : Int) < (n))) t9 (fun c2 => ?_) (fun c2 => ?_)
 ·
  refine W_seq_seq ?_
  refine W_seq_regc (fun T H => T 2 = (V.mp 2 1 0 0) ∧ T 3 = (iV (2 : Int)) ∧ H 2 = (⟨1, true, false, 34, 2, [[(iV (0 : Int)), V.nilsl]]⟩ : Blk) ∧ True) ?_ ?_
  ·
   unfold r50_2
   refine R_build (qs := []) (cs := [(iV (0 : Int)), V.nilsl]) rfl rfl ?_
   refine R_store (vs := [(iV (0 : Int)), V.nilsl]) (B' := (⟨1, true, false, 34, 2, [[(iV (0 : Int)), V.nilsl]]⟩ : Blk)) t2 (@rfl V (V.agg [(iV (0 : Int)), V.nilsl])) rfl h2 (by first | rfl | simp [stB, okB, Blk.own, putAt, V.one]) ?_
   refine R_mv (@rfl V (iV (2 : Int))) ?_
   exact R_nil ⟨t2, rfl, rfl, trivial⟩
  intro T H ⟨t2, t3, h2, _⟩
  refine W_seq_ret ?_
  refine RetC_2 (resV_c (u := (V.agg [(iV (0 : Int)), V.nilsl])) t2 h2 (by first | rfl | simp [ldB, ldV, Blk.own, V.one])) (resV_t t3) (fz_agg2 (fz_int ?_) (fz_nil ?_)) (fz_int ?_)
  · rw [if_pos (by omega)]
  · rfl
  · rw [if_pos (by omega)]
 refine W_seq_skip ?_
 refine W_seq_regc (fun T H => T 2 = (V.mp 2 1 0 0) ∧ T 3 = (iV (0 : Int)) ∧ H 2 = (⟨1, true, false, 34, 2, [[(iV (n)), V.nilsl]]⟩ : Blk) ∧ True) ?_ ?_
 ·
  unfold r50_3
  refine R_mv t0 ?_
  refine R_build (qs := [(0, 1, (iV (n)))]) (cs := [(iV (n)), V.nilsl]) (mcons (congrArg (fun v => (0, 1, v)) (@rfl V (iV (n)))) rfl) rfl ?_
  refine R_store (vs := [(iV (n)), V.nilsl]) (B' := (⟨1, true, false, 34, 2, [[(iV (n)), V.nilsl]]⟩ : Blk)) t2 (@rfl V (V.agg [(iV (n)), V.nilsl])) rfl h2 (by first | rfl | simp [stB, okB, Blk.own, putAt, V.one]) ?_
  refine R_mv (@rfl V (iV (0 : Int))) ?_
  exact R_nil ⟨t2, rfl, rfl, trivial⟩
 intro T H ⟨t2, t3, h2, _⟩
 refine W_ret ?_
 refine RetC_2 (resV_c (u := (V.agg [(iV (n)), V.nilsl])) t2 h2 (by first | rfl | simp [ldB, ldV, Blk.own, V.one])) (resV_t t3) (fz_agg2 (fz_int ?_) (fz_nil ?_)) (fz_int ?_)
 · rw [if_neg (by omega)]
 · rfl
 · rw [if_neg (by omega)]

end Go.Proofs.Ytngkckefanbhgaa

namespace Go.Proofs.Ytngkckefanbhgaa
open Go Go.Proofs

def r51_0 : List SO := [
  ⟨none, some 2, .alloc 34 [.int .i64 0, .nilsl]⟩,
  ⟨none, some 3, .mv (.c (.int .i64 0))⟩]
def r51_1 : List SO := [
  ⟨none, some 4, .mv (.t 0)⟩,
  ⟨none, some 5, .bin .lss (.t 4) (.c (.int .i64 1))⟩,
  ⟨none, some 6, .mv (.t 5)⟩,
  ⟨some (6, false), some 7, .mv (.t 0)⟩,
  ⟨some (6, false), some 8, .bin .gtr (.t 7) (.c (.int .i64 64))⟩,
  ⟨none, some 9, .pick (.t 6) (.c (.bool true)) (.t 8)⟩]
def r51_2 : List SO := [
  ⟨none, some 10, .build [.int .i64 0, .nilsl] []⟩,
  ⟨none, none, .store 2 (.t 2) (.t 10)⟩,
  ⟨none, some 3, .mv (.c (.int .i64 2))⟩]
def r51_3 : List SO := [
  ⟨none, some 11, .mv (.t 0)⟩,
  ⟨none, some 12, .build [.int .i64 0, .nilsl] [(0, 1, .t 11)]⟩,
  ⟨none, none, .store 2 (.t 2) (.t 12)⟩,
  ⟨none, some 3, .mv (.c (.int .i64 0))⟩]
def s51 : SF := ⟨13, [.cell 2 true 2, .tmp 3], .seq (.reg r51_0) (.seq (.seq (.reg r51_1) (.cond (.t 9) (.seq (.reg r51_2) (.ret)) (.skip))) (.seq (.reg r51_3) (.ret)))⟩
theorem s51_ok : slimF Try.prog ⟨[94, 102, 103, 108, 109, 116, 119, 121, 125], []⟩ Try.f51 = some s51 := by kernel_rfl

end Go.Proofs.Ytngkckefanbhgaa

namespace Go.Proofs.Ytngkckefanbhgaa
open Go Go.Proofs

theorem rnew_pure (n : Int) : PureC Try.prog 51 [(iV (n))] (V.tup [(V.agg [(iV ((if n < 1 ∨ 64 < n then 0 else n : Int))), (V.sl (List.map cT ([])))]), (iV ((if n < 1 ∨ 64 < n then 2 else 0 : Int)))]) := by
 refine pure_of_Wb true 6 Try.func51 s51_ok (by kernel_rfl) (by simp [s51]) (by simp) (by simp) fun hB => ?_
 simp only [bnd_map, bnd_int, bnd_bool, bnd_str, bnd_agg, bnd_pp, bnd_nil, bnd_cons, implies_true, and_true, true_and] at hB
 unfold s51
 dsimp only
 refine W_seq_regc (fun T H => T 0 = (iV (n)) ∧ T 2 = (V.mp 2 1 0 0) ∧ H 2 = (⟨1, true, false, 34, 2, [[(iV (0 : Int)), V.nilsl]]⟩ : Blk) ∧ True) ?_ ?_
 ·
  unfold r51_0
  refine R_alloc (i := 2) (n := 0) (m := 2) rfl (congrArg Blk.ver rfl) rfl ?_
  refine R_mv (@rfl V (iV (0 : Int))) ?_
  exact R_nil ⟨rfl, rfl, rfl, trivial⟩
 intro T H ⟨t0, t2, h2, _⟩
 refine W_seq_seq ?_
 refine W_seq_regc (fun T H => T 0 = (iV (n)) ∧ T 2 = (V.mp 2 1 0 0) ∧ T 9 = (V.bool (decide (((n) < (1 : Int)) ∨ ((64 : Int) < (n))))) ∧ H 2 = (⟨1, true, false, 34, 2, [[(iV (0 : Int)), V.nilsl]]⟩ : Blk) ∧ True) ?_ ?_
 ·
  unfold r51_1
  refine R_mv t0 ?_
  refine R_lss (x := (n)) (y := (1 : Int)) (@rfl V (iV (n))) (@rfl V (iV (1 : Int))) ?_
  refine R_mv (@rfl V (V.bool (decide ((n) < (1 : Int))))) ?_
  refine Ops_seg 3 (fun T H => T 0 = (iV (n)) ∧ T 2 = (V.mp 2 1 0 0) ∧ T 9 = (V.bool (decide (((n) < (1 : Int)) ∨ ((64 : Int) < (n))))) ∧ H 2 = (⟨1, true, false, 34, 2, [[(iV (0 : Int)), V.nilsl]]⟩ : Blk) ∧ True) ?_ ?_
  ·
   by_cases g1 : (n) < (1 : Int)
   ·
    refine G_no (Eq.trans (@rfl V (V.bool (decide ((n) < (1 : Int))))) (bdT g1)) (by decide) ?_
    refine G_no (Eq.trans (@rfl V (V.bool (decide ((n) < (1 : Int))))) (bdT g1)) (by decide) ?_
    refine R_pickT (Eq.trans (@rfl V (V.bool (decide ((n) < (1 : Int))))) (bdT g1)) (@rfl V (V.bool true)) ?_
    exact ⟨t0, t2, (Eq.trans (@rfl V (V.bool true)) (dec_orT g1)), h2, trivial⟩
   ·
    refine G_yes (Eq.trans (@rfl V (V.bool (decide ((n) < (1 : Int))))) (bdF g1)) ?_
    refine R_mv t0 ?_
    refine G_yes (Eq.trans (@rfl V (V.bool (decide ((n) < (1 : Int))))) (bdF g1)) ?_
    refine R_gtr (x := (n)) (y := (64 : Int)) (@rfl V (iV (n))) (@rfl V (iV (64 : Int))) ?_
    refine R_pickF (Eq.trans (@rfl V (V.bool (decide ((n) < (1 : Int))))) (bdF g1)) (@rfl V (V.bool (decide ((64 : Int) < (n))))) ?_
    exact ⟨t0, t2, (Eq.trans (@rfl V (V.bool (decide ((64 : Int) < (n))))) (dec_orF g1)), h2, trivial⟩
  intro T H ⟨t0, t2, t9, h2, _⟩
  exact R_nil ⟨t0, t2, t9, h2, trivial⟩
 intro T H ⟨t0, t2, t9, h2, _⟩
 refine W_seq_if (p := ((n) < (1 : Int)) ∨ ((64 : Int) < (n))) t9 (fun c2 => ?_) (fun c2 => ?_)
 ·
  refine W_seq_seq ?_
  refine W_seq_regc (fun T H => T 2 = (V.mp 2 1 0 0) ∧ T 3 = (iV (2 : Int)) ∧ H 2 = (⟨1, true, false, 34, 2, [[(iV (0 : Int)), V.nilsl]]⟩ : Blk) ∧ True) ?_ ?_
  ·
   unfold r51_2
   refine R_build (qs := []) (cs := [(iV (0 : Int)), V.nilsl]) rfl rfl ?_
   refine R_store (vs := [(iV (0 : Int)), V.nilsl]) (B' := (⟨1, true, false, 34, 2, [[(iV (0 : Int)), V.nilsl]]⟩ : Blk)) t2 (@rfl V (V.agg [(iV (0 : Int)), V.nilsl])) rfl h2 (by first | rfl | simp [stB, okB, Blk.own, putAt, V.one]) ?_
   refine R_mv (@rfl V (iV (2 : Int))) ?_
   exact R_nil ⟨t2, rfl, rfl, trivial⟩
  intro T H ⟨t2, t3, h2, _⟩
  refine W_seq_ret ?_
  refine RetC_2 (resV_c (u := (V.agg [(iV (0 : Int)), V.nilsl])) t2 h2 (by first | rfl | simp [ldB, ldV, Blk.own, V.one])) (resV_t t3) (fz_agg2 (fz_int ?_) (fz_nil ?_)) (fz_int ?_)
  · rw [if_pos (by omega)]
  · rfl
  · rw [if_pos (by omega)]
 refine W_seq_skip ?_
 refine W_seq_regc (fun T H => T 2 = (V.mp 2 1 0 0) ∧ T 3 = (iV (0 : Int)) ∧ H 2 = (⟨1, true, false, 34, 2, [[(iV (n)), V.nilsl]]⟩ : Blk) ∧ True) ?_ ?_
 ·
  unfold r51_3
  refine R_mv t0 ?_
  refine R_build (qs := [(0, 1, (iV (n)))]) (cs := [(iV (n)), V.nilsl]) (mcons (congrArg (fun v => (0, 1, v)) (@rfl V (iV (n)))) rfl) rfl ?_
  refine R_store (vs := [(iV (n)), V.nilsl]) (B' := (⟨1, true, false, 34, 2, [[(iV (n)), V.nilsl]]⟩ : Blk)) t2 (@rfl V (V.agg [(iV (n)), V.nilsl])) rfl h2 (by first | rfl | simp [stB, okB, Blk.own, putAt, V.one]) ?_
  refine R_mv (@rfl V (iV (0 : Int))) ?_
  exact R_nil ⟨t2, rfl, rfl, trivial⟩
 intro T H ⟨t2, t3, h2, _⟩
 refine W_ret ?_
 refine RetC_2 (resV_c (u := (V.agg [(iV (n)), V.nilsl])) t2 h2 (by first | rfl | simp [ldB, ldV, Blk.own, V.one])) (resV_t t3) (fz_agg2 (fz_int ?_) (fz_nil ?_)) (fz_int ?_)
 · rw [if_neg (by omega)]
 · rfl
 · rw [if_neg (by omega)]

end Go.Proofs.Ytngkckefanbhgaa

namespace Go.Proofs.Ytngkckefanbhgaa
open Go Go.Proofs

def r52_0 : List SO := [
  ⟨none, some 2, .box 34 2 (.t 0)⟩,
  ⟨none, some 3, .box 34 2 (.t 1)⟩,
  ⟨none, some 4, .mv (.c (.bool false))⟩]
def r52_1 : List SO := [
  ⟨none, some 5, .fld 0 (.t 2)⟩,
  ⟨none, some 6, .load false 1 (.t 5)⟩,
  ⟨none, some 7, .fld 0 (.t 3)⟩,
  ⟨none, some 8, .load false 1 (.t 7)⟩,
  ⟨none, some 9, .bin .eql (.t 6) (.t 8)⟩,
  ⟨none, some 10, .mv (.t 9)⟩,
  ⟨some (10, true), some 11, .fld 1 (.t 2)⟩,
  ⟨some (10, true), some 12, .load false 1 (.t 11)⟩,
  ⟨some (10, true), some 13, .fld 1 (.t 3)⟩,
  ⟨some (10, true), some 14, .load false 1 (.t 13)⟩,
  ⟨some (10, true), some 15, .call false 89 [.t 12, .t 14, .c (.fn 90 [] [])]⟩,
  ⟨none, some 16, .pick (.t 10) (.t 15) (.c (.bool false))⟩,
  ⟨none, some 4, .mv (.t 16)⟩]
def s52 : SF := ⟨17, [.tmp 4], .seq (.reg r52_0) (.seq (.reg r52_1) (.ret))⟩
theorem s52_ok : slimF Try.prog ⟨[94, 102, 103, 108, 109, 116, 119, 121, 125], []⟩ Try.f52 = some s52 := by kernel_rfl

end Go.Proofs.Ytngkckefanbhgaa

namespace Go.Proofs.Ytngkckefanbhgaa
open Go Go.Proofs

def r89_0 : List SO := [
  ⟨none, some 6, .mv (.c (.bool false))⟩]
def r89_1 : List SO := [
  ⟨none, some 10, .mv (.t 0)⟩,
  ⟨none, some 11, .len (.t 10)⟩,
  ⟨none, some 12, .mv (.t 1)⟩,
  ⟨none, some 13, .len (.t 12)⟩,
  ⟨none, some 14, .bin .neq (.t 11) (.t 13)⟩]
def r89_2 : List SO := [
  ⟨none, some 6, .mv (.c (.bool false))⟩]
def r89_3 : List SO := [
  ⟨none, some 15, .mv (.t 0)⟩,
  ⟨none, some 16, .len (.t 15)⟩,
  ⟨none, some 17, .mv (.c (.int .i64 0))⟩]
def r89_4 : List SO := [
  ⟨none, some 18, .bin .lss (.t 17) (.t 16)⟩]
def r89_5 : List SO := [
  ⟨none, some 19, .mv (.t 17)⟩,
  ⟨none, some 20, .idx 2 (.t 15) (.t 17)⟩,
  ⟨none, some 21, .load true 2 (.t 20)⟩,
  ⟨none, some 8, .alloc 63 [.nilsl, .nilsl]⟩,
  ⟨none, some 7, .mv (.t 19)⟩,
  ⟨none, none, .store 2 (.t 8) (.t 21)⟩]
def r89_6 : List SO := [
  ⟨none, some 22, .mv (.t 1)⟩,
  ⟨none, some 23, .mv (.t 7)⟩,
  ⟨none, some 24, .idx 2 (.t 22) (.t 23)⟩,
  ⟨none, some 25, .load true 2 (.t 24)⟩,
  ⟨none, some 9, .alloc 63 [.nilsl, .nilsl]⟩,
  ⟨none, none, .store 2 (.t 9) (.t 25)⟩]
def r89_7 : List SO := [
  ⟨none, some 26, .mv (.t 2)⟩,
  ⟨none, some 27, .load true 2 (.t 8)⟩,
  ⟨none, some 28, .load true 2 (.t 9)⟩,
  ⟨none, some 29, .callv false (.t 26) [.t 27, .t 28]⟩,
  ⟨none, some 30, .un .not (.t 29)⟩]
def r89_8 : List SO := [
  ⟨none, some 6, .mv (.c (.bool false))⟩]
def r89_9 : List SO := [
  ⟨none, some 31, .bin .add (.t 17) (.c (.int .i64 1))⟩,
  ⟨none, some 17, .mv (.t 31)⟩]
def b89_0 : SC := .seq (.reg r89_4) (.seq (.cond (.t 18) (.skip) (.exit 0)) (.seq (.block 1 (.seq (.reg r89_5) (.seq (.reg r89_6) (.seq (.reg r89_7) (.cond (.t 30) (.seq (.reg r89_8) (.ret)) (.skip)))))) (.reg r89_9)))
def r89_10 : List SO := [
  ⟨none, some 6, .mv (.c (.bool true))⟩]
def s89 : SF := ⟨32, [.tmp 6], .seq (.reg r89_0) (.seq (.seq (.reg r89_1) (.cond (.t 14) (.seq (.reg r89_2) (.ret)) (.skip))) (.seq (.seq (.reg r89_3) (.block 0 (.loop b89_0))) (.seq (.reg r89_10) (.ret))))⟩
theorem s89_ok : slimF Try.prog ⟨[94, 102, 103, 108, 109, 116, 119, 121, 125], []⟩ Try.f89 = some s89 := by kernel_rfl

end Go.Proofs.Ytngkckefanbhgaa

namespace Go.Proofs.Ytngkckefanbhgaa
open Go Go.Proofs

def r90_0 : List SO := [
  ⟨none, some 2, .box 63 2 (.t 0)⟩,
  ⟨none, some 3, .box 63 2 (.t 1)⟩,
  ⟨none, some 4, .mv (.c (.bool false))⟩]
def r90_1 : List SO := [
  ⟨none, some 5, .fld 0 (.t 2)⟩,
  ⟨none, some 6, .load false 1 (.t 5)⟩,
  ⟨none, some 7, .fld 0 (.t 3)⟩,
  ⟨none, some 8, .load false 1 (.t 7)⟩,
  ⟨none, some 9, .call false 91 [.t 6, .t 8]⟩,
  ⟨none, some 10, .mv (.t 9)⟩,
  ⟨some (10, true), some 11, .fld 1 (.t 2)⟩,
  ⟨some (10, true), some 12, .load false 1 (.t 11)⟩,
  ⟨some (10, true), some 13, .fld 1 (.t 3)⟩,
  ⟨some (10, true), some 14, .load false 1 (.t 13)⟩,
  ⟨some (10, true), some 15, .call false 91 [.t 12, .t 14]⟩,
  ⟨none, some 16, .pick (.t 10) (.t 15) (.c (.bool false))⟩,
  ⟨none, some 4, .mv (.t 16)⟩]
def s90 : SF := ⟨17, [.tmp 4], .seq (.reg r90_0) (.seq (.reg r90_1) (.ret))⟩
theorem s90_ok : slimF Try.prog ⟨[94, 102, 103, 108, 109, 116, 119, 121, 125], []⟩ Try.f90 = some s90 := by kernel_rfl

end Go.Proofs.Ytngkckefanbhgaa

namespace Go.Proofs.Ytngkckefanbhgaa
open Go Go.Proofs

def r91_0 : List SO := [
  ⟨none, some 4, .mv (.c (.bool false))⟩]
def r91_1 : List SO := [
  ⟨none, some 6, .mv (.t 0)⟩,
  ⟨none, some 7, .len (.t 6)⟩,
  ⟨none, some 8, .mv (.t 1)⟩,
  ⟨none, some 9, .len (.t 8)⟩,
  ⟨none, some 10, .bin .neq (.t 7) (.t 9)⟩]
def r91_2 : List SO := [
  ⟨none, some 4, .mv (.c (.bool false))⟩]
def r91_3 : List SO := [
  ⟨none, some 11, .mv (.t 0)⟩,
  ⟨none, some 12, .len (.t 11)⟩,
  ⟨none, some 13, .mv (.c (.int .i64 0))⟩]
def r91_4 : List SO := [
  ⟨none, some 14, .bin .lss (.t 13) (.t 12)⟩]
def r91_5 : List SO := [
  ⟨none, some 15, .mv (.t 13)⟩,
  ⟨none, some 5, .mv (.t 15)⟩]
def r91_6 : List SO := [
  ⟨none, some 16, .mv (.t 0)⟩,
  ⟨none, some 17, .mv (.t 5)⟩,
  ⟨none, some 18, .idx 1 (.t 16) (.t 17)⟩,
  ⟨none, some 19, .load false 1 (.t 18)⟩,
  ⟨none, some 20, .mv (.t 1)⟩,
  ⟨none, some 21, .mv (.t 5)⟩,
  ⟨none, some 22, .idx 1 (.t 20) (.t 21)⟩,
  ⟨none, some 23, .load false 1 (.t 22)⟩,
  ⟨none, some 24, .bin .neq (.t 19) (.t 23)⟩]
def r91_7 : List SO := [
  ⟨none, some 4, .mv (.c (.bool false))⟩]
def r91_8 : List SO := [
  ⟨none, some 25, .bin .add (.t 13) (.c (.int .i64 1))⟩,
  ⟨none, some 13, .mv (.t 25)⟩]
def b91_0 : SC := .seq (.reg r91_4) (.seq (.cond (.t 14) (.skip) (.exit 0)) (.seq (.block 1 (.seq (.reg r91_5) (.seq (.reg r91_6) (.cond (.t 24) (.seq (.reg r91_7) (.ret)) (.skip))))) (.reg r91_8)))
def r91_9 : List SO := [
  ⟨none, some 4, .mv (.c (.bool true))⟩]
def s91 : SF := ⟨26, [.tmp 4], .seq (.reg r91_0) (.seq (.seq (.reg r91_1) (.cond (.t 10) (.seq (.reg r91_2) (.ret)) (.skip))) (.seq (.seq (.reg r91_3) (.block 0 (.loop b91_0))) (.seq (.reg r91_9) (.ret))))⟩
theorem s91_ok : slimF Try.prog ⟨[94, 102, 103, 108, 109, 116, 119, 121, 125], []⟩ Try.f91 = some s91 := by kernel_rfl

end Go.Proofs.Ytngkckefanbhgaa

namespace Go.Proofs.Ytngkckefanbhgaa
open Go Go.Proofs

theorem sequal_pure (a b : List Int) : PureC Try.prog 91 [(V.sl (List.map cI (a))), (V.sl (List.map cI (b)))] (V.bool (decide (a = b))) := by
 refine pure_of_Wb true 6 Try.func91 s91_ok (by kernel_rfl) (by simp [s91]) (by simp) (by simp) fun hB => ?_
 simp only [bnd_map, bnd_int, bnd_bool, bnd_str, bnd_agg, bnd_pp, bnd_nil, bnd_cons, implies_true, and_true, true_and] at hB
 unfold s91
 dsimp only
 refine W_seq_regc (fun T H => T 0 = (V.sl (List.map cI (a))) ∧ T 1 = (V.sl (List.map cI (b))) ∧ True) ?_ ?_
 ·
  unfold r91_0
  refine R_mv (@rfl V (V.bool false)) ?_
  exact R_nil ⟨rfl, rfl, trivial⟩
 intro T H ⟨t0, t1, _⟩
 refine W_seq_seq ?_
 refine W_seq_regc (fun T H => T 0 = (V.sl (List.map cI (a))) ∧ T 1 = (V.sl (List.map cI (b))) ∧ T 10 = (V.bool (decide (((a.length : Nat) : Int) ≠ ((b.length : Nat) : Int)))) ∧ True) ?_ ?_
 ·
  unfold r91_1
  refine R_mv t0 ?_
  refine R_len (@rfl V (V.sl (List.map cI (a)))) ?_
  refine R_mv t1 ?_
  refine R_len (@rfl V (V.sl (List.map cI (b)))) ?_
  refine R_neq (x := ((a.length : Nat) : Int)) (y := ((b.length : Nat) : Int)) (@rfl V (iV ((a.length : Nat) : Int))) (@rfl V (iV ((b.length : Nat) : Int))) ?_
  exact R_nil ⟨t0, t1, rfl, trivial⟩
 intro T H ⟨t0, t1, t10, _⟩
 refine W_seq_if (p := ((a.length : Nat) : Int) ≠ ((b.length : Nat) : Int)) t10 (fun c1 => ?_) (fun c1 => ?_)
 ·
  refine W_seq_seq ?_
  refine W_seq_regc (fun T H => T 4 = (V.bool false) ∧ True) ?_ ?_
  ·
   unfold r91_2
   refine R_mv (@rfl V (V.bool false)) ?_
   exact R_nil ⟨rfl, trivial⟩
  intro T H ⟨t4, _⟩
  refine W_seq_ret ?_
  refine Ret_1 t4 (fz_bool ?_)
  · exact (decide_eq_false (fun e => by subst e; omega)).symm
 refine W_seq_skip ?_
 refine W_seq_seq ?_
 refine W_seq_regc (fun T H => T 0 = (V.sl (List.map cI (a))) ∧ T 1 = (V.sl (List.map cI (b))) ∧ T 12 = (iV ((a.length : Nat) : Int)) ∧ T 13 = (iV (0 : Int)) ∧ True) ?_ ?_
 ·
  unfold r91_3
  refine R_mv t0 ?_
  refine R_len (@rfl V (V.sl (List.map cI (a)))) ?_
  refine R_mv (@rfl V (iV (0 : Int))) ?_
  exact R_nil ⟨t0, t1, rfl, rfl, trivial⟩
 intro T H ⟨t0, t1, t12, t13, _⟩
 refine W_seq_blockg fun Q2 n2 x2 y2 z2 => ?_
 refine W_loop (fun mm T H => ∃ (k : Nat), mm = a.length - k ∧ T 0 = (V.sl (List.map cI (a))) ∧ T 1 = (V.sl (List.map cI (b))) ∧ T 12 = (iV ((a.length : Nat) : Int)) ∧ T 13 = (iV ((k : Nat) : Int)) ∧ (k ≤ a.length) ∧ (a.length = b.length) ∧ (∀ j, j < k → nth a j = nth b j)) ?_ ?_
 ·
  refine ⟨_, 0, rfl, t0, t1, t12, (Eq.trans t13 (by first | rfl | simp)), ?_, ?_, ?_⟩
  · omega
  · omega
  · intro j hj; omega
 intro mm T H ⟨k, hmm, t0, t1, t12, t13, hk, hl, hc⟩ Q3 p13 p23 p33
 unfold b91_0
 refine W_seq_regc (fun T H => T 0 = (V.sl (List.map cI (a))) ∧ T 1 = (V.sl (List.map cI (b))) ∧ T 12 = (iV ((a.length : Nat) : Int)) ∧ T 13 = (iV ((k : Nat) : Int)) ∧ T 14 = (V.bool (decide (((k : Nat) : Int) < ((a.length : Nat) : Int)))) ∧ True) ?_ ?_
 ·
  unfold r91_4
  refine R_lss (x := ((k : Nat) : Int)) (y := ((a.length : Nat) : Int)) t13 t12 ?_
  exact R_nil ⟨t0, t1, t12, t13, rfl, trivial⟩
 intro T H ⟨t0, t1, t12, t13, t14, _⟩
 refine W_seq_if (p := ((k : Nat) : Int) < ((a.length : Nat) : Int)) t14 (fun c4 => ?_) (fun c4 => ?_)
 ·
  refine W_seq_skip ?_
  refine W_seq_blockg fun Q5 n5 x5 y5 z5 => ?_
  refine W_seq_regc (fun T H => T 0 = (V.sl (List.map cI (a))) ∧ T 1 = (V.sl (List.map cI (b))) ∧ T 5 = (iV ((k : Nat) : Int)) ∧ T 12 = (iV ((a.length : Nat) : Int)) ∧ T 13 = (iV ((k : Nat) : Int)) ∧ True) ?_ ?_
  ·
   unfold r91_5
   refine R_mv t13 ?_
   refine R_mv (@rfl V (iV ((k : Nat) : Int))) ?_
   exact R_nil ⟨t0, t1, rfl, t12, t13, trivial⟩
  intro T H ⟨t0, t1, t5, t12, t13, _⟩
  refine W_seq_regc (fun T H => T 0 = (V.sl (List.map cI (a))) ∧ T 1 = (V.sl (List.map cI (b))) ∧ T 12 = (iV ((a.length : Nat) : Int)) ∧ T 13 = (iV ((k : Nat) : Int)) ∧ T 24 = (V.bool (decide (((nth (a) (k))) ≠ ((nth (b) (k)))))) ∧ True) ?_ ?_
  ·
   unfold r91_6
   refine R_mv t0 ?_
   refine R_mv t5 ?_
   refine R_idx (i := k) (@rfl V (V.sl (List.map cI (a)))) (@rfl V (iV ((k : Nat) : Int))) (by omega) rfl ?_
   refine R_load_pp (v := (iV ((nth (a) (k))))) (@rfl V (V.pp [(iV ((nth (a) (k))))])) (by first | rfl | simp [ldV]) ?_
   refine R_mv t1 ?_
   refine R_mv t5 ?_
   refine R_idx (i := k) (@rfl V (V.sl (List.map cI (b)))) (@rfl V (iV ((k : Nat) : Int))) (by omega) rfl ?_
   refine R_load_pp (v := (iV ((nth (b) (k))))) (@rfl V (V.pp [(iV ((nth (b) (k))))])) (by first | rfl | simp [ldV]) ?_
   refine R_neq (x := ((nth (a) (k)))) (y := ((nth (b) (k)))) (@rfl V (iV ((nth (a) (k))))) (@rfl V (iV ((nth (b) (k))))) ?_
   exact R_nil ⟨t0, t1, t12, t13, rfl, trivial⟩
  intro T H ⟨t0, t1, t12, t13, t24, _⟩
  refine W_if (p := ((nth (a) (k))) ≠ ((nth (b) (k)))) t24 (fun c6 => ?_) (fun c6 => ?_)
  ·
   refine W_seq_regc (fun T H => T 4 = (V.bool false) ∧ True) ?_ ?_
   ·
    unfold r91_7
    refine R_mv (@rfl V (V.bool false)) ?_
    exact R_nil ⟨rfl, trivial⟩
   intro T H ⟨t4, _⟩
   refine W_ret ?_
   refine y5 _ _ ?_
   refine p23 _ _ ?_
   refine y2 _ _ ?_
   refine Ret_1 t4 (fz_bool ?_)
   · exact (decide_eq_false (fun e => by subst e; omega)).symm
  refine W_skip ?_
  refine n5 _ _ ?_
  refine .done ?_
  refine W_regc (fun T H => T 0 = (V.sl (List.map cI (a))) ∧ T 1 = (V.sl (List.map cI (b))) ∧ T 12 = (iV ((a.length : Nat) : Int)) ∧ T 13 = (iV ((k + 1 : Nat) : Int)) ∧ True) ?_ ?_
  ·
   unfold r91_8
   refine R_addN (m := k) (n := 1) t13 (@rfl V (iV ((1 : Nat) : Int))) (by omega) ?_
   refine R_mv (@rfl V (iV ((k + 1 : Nat) : Int))) ?_
   exact R_nil ⟨t0, t1, t12, rfl, trivial⟩
  intro T H ⟨t0, t1, t12, t13, _⟩
  refine p13 _ _ _ ?_ ⟨(k + 1), rfl, t0, t1, t12, (Eq.trans t13 (by first | rfl | simp)), ?_, ?_, ?_⟩
  · omega
  · omega
  · omega
  · intro j hj
    by_cases e : j = k
    · subst e; omega
    · exact hc j (by omega)
 refine W_seq_exit ?_
 refine p33 _ _ _ ?_
 refine x2 _ _ ?_
 refine .done ?_
 refine W_seq_regc (fun T H => T 4 = (V.bool true) ∧ True) ?_ ?_
 ·
  unfold r91_9
  refine R_mv (@rfl V (V.bool true)) ?_
  exact R_nil ⟨rfl, trivial⟩
 intro T H ⟨t4, _⟩
 refine W_ret ?_
 refine Ret_1 t4 (fz_bool ?_)
 · exact (decide_eq_true (nth_ext hl fun j hj => hc j (by omega))).symm

end Go.Proofs.Ytngkckefanbhgaa

namespace Go.Proofs.Ytngkckefanbhgaa
open Go Go.Proofs

theorem same1_pure (a b : Tr) : PureC Try.prog 90 [(V.agg [(V.sl (List.map cI (a.ni))), (V.sl (List.map cI (a.no)))]), (V.agg [(V.sl (List.map cI (b.ni))), (V.sl (List.map cI (b.no)))])] (V.bool (decide (a = b))) := by
 refine pure_of_Wb true 6 Try.func90 s90_ok (by kernel_rfl) (by simp [s90]) (by simp) (by simp) fun hB => ?_
 simp only [bnd_map, bnd_int, bnd_bool, bnd_str, bnd_agg, bnd_pp, bnd_nil, bnd_cons, implies_true, and_true, true_and] at hB
 unfold s90
 dsimp only
 refine W_seq_regc (fun T H => T 2 = (V.mp 2 1 0 0) ∧ T 3 = (V.mp 3 1 0 0) ∧ H 2 = (⟨1, true, false, 63, 2, [[(V.sl (List.map cI (a.ni))), (V.sl (List.map cI (a.no)))]]⟩ : Blk) ∧ H 3 = (⟨1, true, false, 63, 2, [[(V.sl (List.map cI (b.ni))), (V.sl (List.map cI (b.no)))]]⟩ : Blk) ∧ True) ?_ ?_
 ·
  unfold r90_0
  refine R_box (i := 2) (n := 0) (m := 2) (cs := [(V.sl (List.map cI (a.ni))), (V.sl (List.map cI (a.no)))]) rfl (congrArg Blk.ver rfl) (@rfl V (V.agg [(V.sl (List.map cI (a.ni))), (V.sl (List.map cI (a.no)))])) rfl rfl ?_
  refine R_box (i := 3) (n := 0) (m := 2) (cs := [(V.sl (List.map cI (b.ni))), (V.sl (List.map cI (b.no)))]) rfl (congrArg Blk.ver rfl) (@rfl V (V.agg [(V.sl (List.map cI (b.ni))), (V.sl (List.map cI (b.no)))])) rfl rfl ?_
  refine R_mv (@rfl V (V.bool false)) ?_
  exact R_nil ⟨rfl, rfl, rfl, rfl, trivial⟩
 intro T H ⟨t2, t3, h2, h3, _⟩
 refine W_seq_regc (fun T H => T 4 = (V.bool (decide ((a.ni = b.ni) ∧ (a.no = b.no)))) ∧ H 2 = (⟨1, true, false, 63, 2, [[(V.sl (List.map cI (a.ni))), (V.sl (List.map cI (a.no)))]]⟩ : Blk) ∧ H 3 = (⟨1, true, false, 63, 2, [[(V.sl (List.map cI (b.ni))), (V.sl (List.map cI (b.no)))]]⟩ : Blk) ∧ True) ?_ ?_
 ·
  unfold r90_1
  refine R_fld_mp (o' := 0) t2 h2 (by first | rfl | simp [okB, Blk.own]) rfl ?_
  refine R_load_mp (v := (V.sl (List.map cI (a.ni)))) (@rfl V (V.mp 2 1 0 0)) h2 (by first | rfl | simp [ldB, ldV, Blk.own, V.one]) ?_
  refine R_fld_mp (o' := 0) t3 h3 (by first | rfl | simp [okB, Blk.own]) rfl ?_
  refine R_load_mp (v := (V.sl (List.map cI (b.ni)))) (@rfl V (V.mp 3 1 0 0)) h3 (by first | rfl | simp [ldB, ldV, Blk.own, V.one]) ?_
  refine R_call (evcons (@rfl V (V.sl (List.map cI (a.ni)))) (evcons (@rfl V (V.sl (List.map cI (b.ni)))) evnil)) (sequal_pure a.ni b.ni) (fzv_mapcanon _ _ (by simp [-List.map_take, -List.map_drop, -List.map_append, -List.map_reverse])) (by simp [-List.map_take, -List.map_drop, -List.map_append, -List.map_reverse]) (Or.inl (by simp [-List.map_take, -List.map_drop, -List.map_append, -List.map_reverse])) ?_
  refine R_mv (@rfl V (V.bool (decide (a.ni = b.ni)))) ?_
  refine Ops_seg 6 (fun T H => T 16 = (V.bool (decide ((a.ni = b.ni) ∧ (a.no = b.no)))) ∧ H 2 = (⟨1, true, false, 63, 2, [[(V.sl (List.map cI (a.ni))), (V.sl (List.map cI (a.no)))]]⟩ : Blk) ∧ H 3 = (⟨1, true, false, 63, 2, [[(V.sl (List.map cI (b.ni))), (V.sl (List.map cI (b.no)))]]⟩ : Blk) ∧ True) ?_ ?_
  ·
   by_cases g1 : a.ni = b.ni
   ·
    refine G_yes (Eq.trans (@rfl V (V.bool (decide (a.ni = b.ni)))) (bdT g1)) ?_
    refine R_fld_mp (o' := 1) t2 h2 (by first | rfl | simp [okB, Blk.own]) rfl ?_
    refine G_yes (Eq.trans (@rfl V (V.bool (decide (a.ni = b.ni)))) (bdT g1)) ?_
    refine R_load_mp (v := (V.sl (List.map cI (a.no)))) (@rfl V (V.mp 2 1 0 1)) h2 (by first | rfl | simp [ldB, ldV, Blk.own, V.one]) ?_
    refine G_yes (Eq.trans (@rfl V (V.bool (decide (a.ni = b.ni)))) (bdT g1)) ?_
    refine R_fld_mp (o' := 1) t3 h3 (by first | rfl | simp [okB, Blk.own]) rfl ?_
    refine G_yes (Eq.trans (@rfl V (V.bool (decide (a.ni = b.ni)))) (bdT g1)) ?_
    refine R_load_mp (v := (V.sl (List.map cI (b.no)))) (@rfl V (V.mp 3 1 0 1)) h3 (by first | rfl | simp [ldB, ldV, Blk.own, V.one]) ?_
    refine G_yes (Eq.trans (@rfl V (V.bool (decide (a.ni = b.ni)))) (bdT g1)) ?_
    refine R_call (evcons (@rfl V (V.sl (List.map cI (a.no)))) (evcons (@rfl V (V.sl (List.map cI (b.no)))) evnil)) (sequal_pure a.no b.no) (fzv_mapcanon _ _ (by simp [-List.map_take, -List.map_drop, -List.map_append, -List.map_reverse])) (by simp [-List.map_take, -List.map_drop, -List.map_append, -List.map_reverse]) (Or.inl (by simp [-List.map_take, -List.map_drop, -List.map_append, -List.map_reverse])) ?_
    refine R_pickT (Eq.trans (@rfl V (V.bool (decide (a.ni = b.ni)))) (bdT g1)) (@rfl V (V.bool (decide (a.no = b.no)))) ?_
    exact ⟨(Eq.trans (@rfl V (V.bool (decide (a.no = b.no)))) (dec_andT g1)), h2, h3, trivial⟩
   ·
    refine G_no (Eq.trans (@rfl V (V.bool (decide (a.ni = b.ni)))) (bdF g1)) (by decide) ?_
    refine G_no (Eq.trans (@rfl V (V.bool (decide (a.ni = b.ni)))) (bdF g1)) (by decide) ?_
    refine G_no (Eq.trans (@rfl V (V.bool (decide (a.ni = b.ni)))) (bdF g1)) (by decide) ?_
    refine G_no (Eq.trans (@rfl V (V.bool (decide (a.ni = b.ni)))) (bdF g1)) (by decide) ?_
    refine G_no (Eq.trans (@rfl V (V.bool (decide (a.ni = b.ni)))) (bdF g1)) (by decide) ?_
    refine R_pickF (Eq.trans (@rfl V (V.bool (decide (a.ni = b.ni)))) (bdF g1)) (@rfl V (V.bool false)) ?_
    exact ⟨(Eq.trans (@rfl V (V.bool false)) (dec_andF g1)), h2, h3, trivial⟩
  intro T H ⟨t16, h2, h3, _⟩
  refine R_mv t16 ?_
  exact R_nil ⟨rfl, h2, h3, trivial⟩
 intro T H ⟨t4, h2, h3, _⟩
 refine W_ret ?_
 refine Ret_1 t4 (fz_bool ?_)
 · exact decide_eq_decide.2 Tr.eq_iff.symm

end Go.Proofs.Ytngkckefanbhgaa

namespace Go.Proofs.Ytngkckefanbhgaa
open Go Go.Proofs

theorem eqf_pure (a b : List Tr) : PureC Try.prog 89 [(V.sl (List.map cT (a))), (V.sl (List.map cT (b))), (V.fn 90 [] [])] (V.bool (decide (a = b))) := by
 refine pure_of_Wb true 6 Try.func89 s89_ok (by kernel_rfl) (by simp [s89]) (by simp) (by simp) fun hB => ?_
 simp only [bnd_map, bnd_int, bnd_bool, bnd_str, bnd_agg, bnd_pp, bnd_nil, bnd_cons, implies_true, and_true, true_and] at hB
 unfold s89
 dsimp only
 refine W_seq_regc (fun T H => T 0 = (V.sl (List.map cT (a))) ∧ T 1 = (V.sl (List.map cT (b))) ∧ T 2 = (V.fn 90 [] []) ∧ H 8 = (⟨0, false, false, 0, 0, []⟩ : Blk) ∧ H 9 = (⟨0, false, false, 0, 0, []⟩ : Blk) ∧ True) ?_ ?_
 ·
  unfold r89_0
  refine R_mv (@rfl V (V.bool false)) ?_
  exact R_nil ⟨rfl, rfl, rfl, rfl, rfl, trivial⟩
 intro T H ⟨t0, t1, t2, h8, h9, _⟩
 refine W_seq_seq ?_
 refine W_seq_regc (fun T H => T 0 = (V.sl (List.map cT (a))) ∧ T 1 = (V.sl (List.map cT (b))) ∧ T 2 = (V.fn 90 [] []) ∧ T 14 = (V.bool (decide (((a.length : Nat) : Int) ≠ ((b.length : Nat) : Int)))) ∧ H 8 = (⟨0, false, false, 0, 0, []⟩ : Blk) ∧ H 9 = (⟨0, false, false, 0, 0, []⟩ : Blk) ∧ True) ?_ ?_
 ·
  unfold r89_1
  refine R_mv t0 ?_
  refine R_len (@rfl V (V.sl (List.map cT (a)))) ?_
  refine R_mv t1 ?_
  refine R_len (@rfl V (V.sl (List.map cT (b)))) ?_
  refine R_neq (x := ((a.length : Nat) : Int)) (y := ((b.length : Nat) : Int)) (@rfl V (iV ((a.length : Nat) : Int))) (@rfl V (iV ((b.length : Nat) : Int))) ?_
  exact R_nil ⟨t0, t1, t2, rfl, h8, h9, trivial⟩
 intro T H ⟨t0, t1, t2, t14, h8, h9, _⟩
 refine W_seq_if (p := ((a.length : Nat) : Int) ≠ ((b.length : Nat) : Int)) t14 (fun c1 => ?_) (fun c1 => ?_)
 ·
  refine W_seq_seq ?_
  refine W_seq_regc (fun T H => T 6 = (V.bool false) ∧ H 8 = (⟨0, false, false, 0, 0, []⟩ : Blk) ∧ H 9 = (⟨0, false, false, 0, 0, []⟩ : Blk) ∧ True) ?_ ?_
  ·
   unfold r89_2
   refine R_mv (@rfl V (V.bool false)) ?_
   exact R_nil ⟨rfl, h8, h9, trivial⟩
  intro T H ⟨t6, h8, h9, _⟩
  refine W_seq_ret ?_
  refine Ret_1 t6 (fz_bool ?_)
  · exact (decide_eq_false (fun e => by subst e; omega)).symm
 refine W_seq_skip ?_
 refine W_seq_seq ?_
 refine W_seq_regc (fun T H => T 1 = (V.sl (List.map cT (b))) ∧ T 2 = (V.fn 90 [] []) ∧ T 15 = (V.sl (List.map cT (a))) ∧ T 16 = (iV ((a.length : Nat) : Int)) ∧ T 17 = (iV (0 : Int)) ∧ H 8 = (⟨0, false, false, 0, 0, []⟩ : Blk) ∧ H 9 = (⟨0, false, false, 0, 0, []⟩ : Blk) ∧ True) ?_ ?_
 ·
  unfold r89_3
  refine R_mv t0 ?_
  refine R_len (@rfl V (V.sl (List.map cT (a)))) ?_
  refine R_mv (@rfl V (iV (0 : Int))) ?_
  exact R_nil ⟨t1, t2, rfl, rfl, rfl, h8, h9, trivial⟩
 intro T H ⟨t1, t2, t15, t16, t17, h8, h9, _⟩
 refine W_seq_blockg fun Q2 n2 x2 y2 z2 => ?_
 refine W_loop (fun mm T H => ∃ (k : Nat) (v8 : Nat) (v9 : Nat), mm = a.length - k ∧ T 1 = (V.sl (List.map cT (b))) ∧ T 2 = (V.fn 90 [] []) ∧ T 15 = (V.sl (List.map cT (a))) ∧ T 16 = (iV ((a.length : Nat) : Int)) ∧ T 17 = (iV ((k : Nat) : Int)) ∧ (H 8).ver = v8 ∧ (H 9).ver = v9 ∧ (k ≤ a.length) ∧ (a.length = b.length) ∧ (∀ j, j < k → nth a j = nth b j)) ?_ ?_
 ·
  refine ⟨_, 0, 0, 0, rfl, t1, t2, t15, t16, (Eq.trans t17 (by first | rfl | simp)), (congrArg Blk.ver h8), (congrArg Blk.ver h9), ?_, ?_, ?_⟩
  · omega
  · omega
  · intro j hj; omega
 intro mm T H ⟨k, v8, v9, hmm, t1, t2, t15, t16, t17, h8, h9, hk, hl, hc⟩ Q3 p13 p23 p33
 unfold b89_0
 refine W_seq_regc (fun T H => T 1 = (V.sl (List.map cT (b))) ∧ T 2 = (V.fn 90 [] []) ∧ T 15 = (V.sl (List.map cT (a))) ∧ T 16 = (iV ((a.length : Nat) : Int)) ∧ T 17 = (iV ((k : Nat) : Int)) ∧ T 18 = (V.bool (decide (((k : Nat) : Int) < ((a.length : Nat) : Int)))) ∧ (H 8).ver = v8 ∧ (H 9).ver = v9 ∧ True) ?_ ?_
 ·
  unfold r89_4
  refine R_lss (x := ((k : Nat) : Int)) (y := ((a.length : Nat) : Int)) t17 t16 ?_
  exact R_nil ⟨t1, t2, t15, t16, t17, rfl, h8, h9, trivial⟩
 intro T H ⟨t1, t2, t15, t16, t17, t18, h8, h9, _⟩
 refine W_seq_if (p := ((k : Nat) : Int) < ((a.length : Nat) : Int)) t18 (fun c4 => ?_) (fun c4 => ?_)
 ·
  refine W_seq_skip ?_
  refine W_seq_blockg fun Q5 n5 x5 y5 z5 => ?_
  refine W_seq_regc (fun T H => T 1 = (V.sl (List.map cT (b))) ∧ T 2 = (V.fn 90 [] []) ∧ T 7 = (iV ((k : Nat) : Int)) ∧ T 8 = (V.mp 8 (v8 + 1) 0 0) ∧ T 15 = (V.sl (List.map cT (a))) ∧ T 16 = (iV ((a.length : Nat) : Int)) ∧ T 17 = (iV ((k : Nat) : Int)) ∧ H 8 = (⟨v8 + 1, true, false, 63, 2, [[(V.sl (List.map cI ((nth (a) (k)).ni))), (V.sl (List.map cI ((nth (a) (k)).no)))]]⟩ : Blk) ∧ (H 9).ver = v9 ∧ True) ?_ ?_
  ·
   unfold r89_5
   refine R_mv t17 ?_
   refine R_idx (i := k) t15 t17 (by omega) rfl ?_
   refine R_load_pp (v := (V.agg [(V.sl (List.map cI ((nth (a) (k)).ni))), (V.sl (List.map cI ((nth (a) (k)).no)))])) (@rfl V (V.pp [(V.sl (List.map cI ((nth (a) (k)).ni))), (V.sl (List.map cI ((nth (a) (k)).no)))])) (by first | rfl | simp [ldV]) ?_
   refine R_alloc (i := 8) (n := v8) (m := 2) rfl h8 rfl ?_
   refine R_mv (@rfl V (iV ((k : Nat) : Int))) ?_
   refine R_store (vs := [(V.sl (List.map cI ((nth (a) (k)).ni))), (V.sl (List.map cI ((nth (a) (k)).no)))]) (B' := (⟨v8 + 1, true, false, 63, 2, [[(V.sl (List.map cI ((nth (a) (k)).ni))), (V.sl (List.map cI ((nth (a) (k)).no)))]]⟩ : Blk)) (@rfl V (V.mp 8 (v8 + 1) 0 0)) (@rfl V (V.agg [(V.sl (List.map cI ((nth (a) (k)).ni))), (V.sl (List.map cI ((nth (a) (k)).no)))])) rfl (@rfl Blk (⟨v8 + 1, true, false, 63, 2, [[V.nilsl, V.nilsl]]⟩ : Blk)) (by first | rfl | simp [stB, okB, Blk.own, putAt, V.one]) ?_
   exact R_nil ⟨t1, t2, rfl, rfl, t15, t16, t17, rfl, h9, trivial⟩
  intro T H ⟨t1, t2, t7, t8, t15, t16, t17, h8, h9, _⟩
  refine W_seq_regc (fun T H => T 1 = (V.sl (List.map cT (b))) ∧ T 2 = (V.fn 90 [] []) ∧ T 8 = (V.mp 8 (v8 + 1) 0 0) ∧ T 9 = (V.mp 9 (v9 + 1) 0 0) ∧ T 15 = (V.sl (List.map cT (a))) ∧ T 16 = (iV ((a.length : Nat) : Int)) ∧ T 17 = (iV ((k : Nat) : Int)) ∧ H 8 = (⟨v8 + 1, true, false, 63, 2, [[(V.sl (List.map cI ((nth (a) (k)).ni))), (V.sl (List.map cI ((nth (a) (k)).no)))]]⟩ : Blk) ∧ H 9 = (⟨v9 + 1, true, false, 63, 2, [[(V.sl (List.map cI ((nth (b) (k)).ni))), (V.sl (List.map cI ((nth (b) (k)).no)))]]⟩ : Blk) ∧ True) ?_ ?_
  ·
   unfold r89_6
   refine R_mv t1 ?_
   refine R_mv t7 ?_
   refine R_idx (i := k) (@rfl V (V.sl (List.map cT (b)))) (@rfl V (iV ((k : Nat) : Int))) (by omega) rfl ?_
   refine R_load_pp (v := (V.agg [(V.sl (List.map cI ((nth (b) (k)).ni))), (V.sl (List.map cI ((nth (b) (k)).no)))])) (@rfl V (V.pp [(V.sl (List.map cI ((nth (b) (k)).ni))), (V.sl (List.map cI ((nth (b) (k)).no)))])) (by first | rfl | simp [ldV]) ?_
   refine R_alloc (i := 9) (n := v9) (m := 2) rfl h9 rfl ?_
   refine R_store (vs := [(V.sl (List.map cI ((nth (b) (k)).ni))), (V.sl (List.map cI ((nth (b) (k)).no)))]) (B' := (⟨v9 + 1, true, false, 63, 2, [[(V.sl (List.map cI ((nth (b) (k)).ni))), (V.sl (List.map cI ((nth (b) (k)).no)))]]⟩ : Blk)) (@rfl V (V.mp 9 (v9 + 1) 0 0)) (@rfl V (V.agg [(V.sl (List.map cI ((nth (b) (k)).ni))), (V.sl (List.map cI ((nth (b) (k)).no)))])) rfl (@rfl Blk (⟨v9 + 1, true, false, 63, 2, [[V.nilsl, V.nilsl]]⟩ : Blk)) (by first | rfl | simp [stB, okB, Blk.own, putAt, V.one]) ?_
   exact R_nil ⟨t1, t2, t8, rfl, t15, t16, t17, h8, rfl, trivial⟩
  intro T H ⟨t1, t2, t8, t9, t15, t16, t17, h8, h9, _⟩
  refine W_seq_regc (fun T H => T 1 = (V.sl (List.map cT (b))) ∧ T 2 = (V.fn 90 [] []) ∧ T 15 = (V.sl (List.map cT (a))) ∧ T 16 = (iV ((a.length : Nat) : Int)) ∧ T 17 = (iV ((k : Nat) : Int)) ∧ T 30 = (V.bool (decide (¬(((nth (a) (k))) = ((nth (b) (k))))))) ∧ H 8 = (⟨v8 + 1, true, false, 63, 2, [[(V.sl (List.map cI ((nth (a) (k)).ni))), (V.sl (List.map cI ((nth (a) (k)).no)))]]⟩ : Blk) ∧ H 9 = (⟨v9 + 1, true, false, 63, 2, [[(V.sl (List.map cI ((nth (b) (k)).ni))), (V.sl (List.map cI ((nth (b) (k)).no)))]]⟩ : Blk) ∧ True) ?_ ?_
  ·
   unfold r89_7
   refine R_mv t2 ?_
   refine R_load_mp (v := (V.agg [(V.sl (List.map cI ((nth (a) (k)).ni))), (V.sl (List.map cI ((nth (a) (k)).no)))])) t8 h8 (by first | rfl | simp [ldB, ldV, Blk.own, V.one]) ?_
   refine R_load_mp (v := (V.agg [(V.sl (List.map cI ((nth (b) (k)).ni))), (V.sl (List.map cI ((nth (b) (k)).no)))])) t9 h9 (by first | rfl | simp [ldB, ldV, Blk.own, V.one]) ?_
   refine R_callv (@rfl V (V.fn 90 [] [])) (evcons (@rfl V (V.agg [(V.sl (List.map cI ((nth (a) (k)).ni))), (V.sl (List.map cI ((nth (a) (k)).no)))])) (evcons (@rfl V (V.agg [(V.sl (List.map cI ((nth (b) (k)).ni))), (V.sl (List.map cI ((nth (b) (k)).no)))])) evnil)) (same1_pure ((nth (a) (k))) ((nth (b) (k)))) (fzv_mapcanon _ _ (by simp [-List.map_take, -List.map_drop, -List.map_append, -List.map_reverse])) (by simp [-List.map_take, -List.map_drop, -List.map_append, -List.map_reverse]) (Or.inl (by simp [-List.map_take, -List.map_drop, -List.map_append, -List.map_reverse])) ?_
   refine R_not (p := ((nth (a) (k))) = ((nth (b) (k)))) (@rfl V (V.bool (decide (((nth (a) (k))) = ((nth (b) (k))))))) ?_
   exact R_nil ⟨t1, t2, t15, t16, t17, rfl, h8, h9, trivial⟩
  intro T H ⟨t1, t2, t15, t16, t17, t30, h8, h9, _⟩
  refine W_if (p := ¬(((nth (a) (k))) = ((nth (b) (k))))) t30 (fun c6 => ?_) (fun c6 => ?_)
  ·
   have d1 := c6
   refine W_seq_regc (fun T H => T 6 = (V.bool false) ∧ H 8 = (⟨v8 + 1, true, false, 63, 2, [[(V.sl (List.map cI ((nth (a) (k)).ni))), (V.sl (List.map cI ((nth (a) (k)).no)))]]⟩ : Blk) ∧ H 9 = (⟨v9 + 1, true, false, 63, 2, [[(V.sl (List.map cI ((nth (b) (k)).ni))), (V.sl (List.map cI ((nth (b) (k)).no)))]]⟩ : Blk) ∧ True) ?_ ?_
   ·
    unfold r89_8
    refine R_mv (@rfl V (V.bool false)) ?_
    exact R_nil ⟨rfl, h8, h9, trivial⟩
   intro T H ⟨t6, h8, h9, _⟩
   refine W_ret ?_
   refine y5 _ _ ?_
   refine p23 _ _ ?_
   refine y2 _ _ ?_
   refine Ret_1 t6 (fz_bool ?_)
   · exact (decide_eq_false (fun e => d1 (by subst e; rfl))).symm
  have d1 := Decidable.not_not.1 c6
  refine W_skip ?_
  refine n5 _ _ ?_
  refine .done ?_
  refine W_regc (fun T H => T 1 = (V.sl (List.map cT (b))) ∧ T 2 = (V.fn 90 [] []) ∧ T 15 = (V.sl (List.map cT (a))) ∧ T 16 = (iV ((a.length : Nat) : Int)) ∧ T 17 = (iV ((k + 1 : Nat) : Int)) ∧ H 8 = (⟨v8 + 1, true, false, 63, 2, [[(V.sl (List.map cI ((nth (a) (k)).ni))), (V.sl (List.map cI ((nth (a) (k)).no)))]]⟩ : Blk) ∧ H 9 = (⟨v9 + 1, true, false, 63, 2, [[(V.sl (List.map cI ((nth (b) (k)).ni))), (V.sl (List.map cI ((nth (b) (k)).no)))]]⟩ : Blk) ∧ True) ?_ ?_
  ·
   unfold r89_9
   refine R_addN (m := k) (n := 1) t17 (@rfl V (iV ((1 : Nat) : Int))) (by omega) ?_
   refine R_mv (@rfl V (iV ((k + 1 : Nat) : Int))) ?_
   exact R_nil ⟨t1, t2, t15, t16, rfl, h8, h9, trivial⟩
  intro T H ⟨t1, t2, t15, t16, t17, h8, h9, _⟩
  refine p13 _ _ _ ?_ ⟨(k + 1), (v8 + 1), (v9 + 1), rfl, t1, t2, t15, t16, (Eq.trans t17 (by first | rfl | simp)), (congrArg Blk.ver h8), (congrArg Blk.ver h9), ?_, ?_, ?_⟩
  · omega
  · omega
  · omega
  · intro j hj
    by_cases e : j = k
    · subst e; exact d1
    · exact hc j (by omega)
 refine W_seq_exit ?_
 refine p33 _ _ _ ?_
 refine x2 _ _ ?_
 refine .done ?_
 refine W_seq_regc (fun T H => T 6 = (V.bool true) ∧ (H 8).ver = v8 ∧ (H 9).ver = v9 ∧ True) ?_ ?_
 ·
  unfold r89_10
  refine R_mv (@rfl V (V.bool true)) ?_
  exact R_nil ⟨rfl, h8, h9, trivial⟩
 intro T H ⟨t6, h8, h9, _⟩
 refine W_ret ?_
 refine Ret_1 t6 (fz_bool ?_)
 · exact (decide_eq_true (nth_ext hl fun j hj => hc j (by omega))).symm

end Go.Proofs.Ytngkckefanbhgaa

namespace Go.Proofs.Ytngkckefanbhgaa
open Go Go.Proofs

theorem osame_pure (a b : Ob) : PureC Try.prog 52 [(V.agg [(iV (a.i)), (V.sl (List.map cT (a.tr)))]), (V.agg [(iV (b.i)), (V.sl (List.map cT (b.tr)))])] (V.bool (decide (a = b))) := by
 refine pure_of_Wb true 6 Try.func52 s52_ok (by kernel_rfl) (by simp [s52]) (by simp) (by simp) fun hB => ?_
 simp only [bnd_map, bnd_int, bnd_bool, bnd_str, bnd_agg, bnd_pp, bnd_nil, bnd_cons, implies_true, and_true, true_and] at hB
 unfold s52
 dsimp only
 refine W_seq_regc (fun T H => T 2 = (V.mp 2 1 0 0) ∧ T 3 = (V.mp 3 1 0 0) ∧ H 2 = (⟨1, true, false, 34, 2, [[(iV (a.i)), (V.sl (List.map cT (a.tr)))]]⟩ : Blk) ∧ H 3 = (⟨1, true, false, 34, 2, [[(iV (b.i)), (V.sl (List.map cT (b.tr)))]]⟩ : Blk) ∧ True) ?_ ?_
 ·
  unfold r52_0
  refine R_box (i := 2) (n := 0) (m := 2) (cs := [(iV (a.i)), (V.sl (List.map cT (a.tr)))]) rfl (congrArg Blk.ver rfl) (@rfl V (V.agg [(iV (a.i)), (V.sl (List.map cT (a.tr)))])) rfl rfl ?_
  refine R_box (i := 3) (n := 0) (m := 2) (cs := [(iV (b.i)), (V.sl (List.map cT (b.tr)))]) rfl (congrArg Blk.ver rfl) (@rfl V (V.agg [(iV (b.i)), (V.sl (List.map cT (b.tr)))])) rfl rfl ?_
  refine R_mv (@rfl V (V.bool false)) ?_
  exact R_nil ⟨rfl, rfl, rfl, rfl, trivial⟩
 intro T H ⟨t2, t3, h2, h3, _⟩
 refine W_seq_regc (fun T H => T 4 = (V.bool (decide (((a.i) = (b.i)) ∧ (a.tr = b.tr)))) ∧ H 2 = (⟨1, true, false, 34, 2, [[(iV (a.i)), (V.sl (List.map cT (a.tr)))]]⟩ : Blk) ∧ H 3 = (⟨1, true, false, 34, 2, [[(iV (b.i)), (V.sl (List.map cT (b.tr)))]]⟩ : Blk) ∧ True) ?_ ?_
 ·
  unfold r52_1
  refine R_fld_mp (o' := 0) t2 h2 (by first | rfl | simp [okB, Blk.own]) rfl ?_
  refine R_load_mp (v := (iV (a.i))) (@rfl V (V.mp 2 1 0 0)) h2 (by first | rfl | simp [ldB, ldV, Blk.own, V.one]) ?_
  refine R_fld_mp (o' := 0) t3 h3 (by first | rfl | simp [okB, Blk.own]) rfl ?_
  refine R_load_mp (v := (iV (b.i))) (@rfl V (V.mp 3 1 0 0)) h3 (by first | rfl | simp [ldB, ldV, Blk.own, V.one]) ?_
  refine R_eql (x := (a.i)) (y := (b.i)) (@rfl V (iV (a.i))) (@rfl V (iV (b.i))) ?_
  refine R_mv (@rfl V (V.bool (decide ((a.i) = (b.i))))) ?_
  refine Ops_seg 6 (fun T H => T 16 = (V.bool (decide (((a.i) = (b.i)) ∧ (a.tr = b.tr)))) ∧ H 2 = (⟨1, true, false, 34, 2, [[(iV (a.i)), (V.sl (List.map cT (a.tr)))]]⟩ : Blk) ∧ H 3 = (⟨1, true, false, 34, 2, [[(iV (b.i)), (V.sl (List.map cT (b.tr)))]]⟩ : Blk) ∧ True) ?_ ?_
  ·
   by_cases g1 : (a.i) = (b.i)
   ·
    refine G_yes (Eq.trans (@rfl V (V.bool (decide ((a.i) = (b.i))))) (bdT g1)) ?_
    refine R_fld_mp (o' := 1) t2 h2 (by first | rfl | simp [okB, Blk.own]) rfl ?_
    refine G_yes (Eq.trans (@rfl V (V.bool (decide ((a.i) = (b.i))))) (bdT g1)) ?_
    refine R_load_mp (v := (V.sl (List.map cT (a.tr)))) (@rfl V (V.mp 2 1 0 1)) h2 (by first | rfl | simp [ldB, ldV, Blk.own, V.one]) ?_
    refine G_yes (Eq.trans (@rfl V (V.bool (decide ((a.i) = (b.i))))) (bdT g1)) ?_
    refine R_fld_mp (o' := 1) t3 h3 (by first | rfl | simp [okB, Blk.own]) rfl ?_
    refine G_yes (Eq.trans (@rfl V (V.bool (decide ((a.i) = (b.i))))) (bdT g1)) ?_
    refine R_load_mp (v := (V.sl (List.map cT (b.tr)))) (@rfl V (V.mp 3 1 0 1)) h3 (by first | rfl | simp [ldB, ldV, Blk.own, V.one]) ?_
    refine G_yes (Eq.trans (@rfl V (V.bool (decide ((a.i) = (b.i))))) (bdT g1)) ?_
    refine R_call (evcons (@rfl V (V.sl (List.map cT (a.tr)))) (evcons (@rfl V (V.sl (List.map cT (b.tr)))) (evcons (@rfl V (V.fn 90 [] [])) evnil))) (eqf_pure a.tr b.tr) (fzv_mapcanon _ _ (by simp [-List.map_take, -List.map_drop, -List.map_append, -List.map_reverse])) (by simp [-List.map_take, -List.map_drop, -List.map_append, -List.map_reverse]) (Or.inl (by simp [-List.map_take, -List.map_drop, -List.map_append, -List.map_reverse])) ?_
    refine R_pickT (Eq.trans (@rfl V (V.bool (decide ((a.i) = (b.i))))) (bdT g1)) (@rfl V (V.bool (decide (a.tr = b.tr)))) ?_
    exact ⟨(Eq.trans (@rfl V (V.bool (decide (a.tr = b.tr)))) (dec_andT g1)), h2, h3, trivial⟩
   ·
    refine G_no (Eq.trans (@rfl V (V.bool (decide ((a.i) = (b.i))))) (bdF g1)) (by decide) ?_
    refine G_no (Eq.trans (@rfl V (V.bool (decide ((a.i) = (b.i))))) (bdF g1)) (by decide) ?_
    refine G_no (Eq.trans (@rfl V (V.bool (decide ((a.i) = (b.i))))) (bdF g1)) (by decide) ?_
    refine G_no (Eq.trans (@rfl V (V.bool (decide ((a.i) = (b.i))))) (bdF g1)) (by decide) ?_
    refine G_no (Eq.trans (@rfl V (V.bool (decide ((a.i) = (b.i))))) (bdF g1)) (by decide) ?_
    refine R_pickF (Eq.trans (@rfl V (V.bool (decide ((a.i) = (b.i))))) (bdF g1)) (@rfl V (V.bool false)) ?_
    exact ⟨(Eq.trans (@rfl V (V.bool false)) (dec_andF g1)), h2, h3, trivial⟩
  intro T H ⟨t16, h2, h3, _⟩
  refine R_mv t16 ?_
  exact R_nil ⟨rfl, h2, h3, trivial⟩
 intro T H ⟨t4, h2, h3, _⟩
 refine W_ret ?_
 refine Ret_1 t4 (fz_bool ?_)
 · exact decide_eq_decide.2 Ob.eq_iff.symm

end Go.Proofs.Ytngkckefanbhgaa

namespace Go.Proofs.Ytngkckefanbhgaa
open Go Go.Proofs

theorem law11_pure (a b : Ob) (n : Int) : PureC Try.prog 11 [(V.agg [(iV (a.i)), (V.sl (List.map cT (a.tr)))]), (V.agg [(iV (b.i)), (V.sl (List.map cT (b.tr)))]), (iV (n))] (V.bool true) := by
 refine pure_of_Wb true 6 Try.func11 s11_ok (by kernel_rfl) (by simp [s11]) (by simp) (by simp) fun hB => ?_
 simp only [bnd_map, bnd_int, bnd_bool, bnd_str, bnd_agg, bnd_pp, bnd_nil, bnd_cons, implies_true, and_true, true_and] at hB
 unfold s11
 dsimp only
 refine W_seq_regc (fun T H => T 2 = (iV (n)) ∧ T 3 = (V.mp 3 1 0 0) ∧ T 4 = (V.mp 4 1 0 0) ∧ H 3 = (⟨1, true, false, 34, 2, [[(iV (a.i)), (V.sl (List.map cT (a.tr)))]]⟩ : Blk) ∧ H 4 = (⟨1, true, false, 34, 2, [[(iV (b.i)), (V.sl (List.map cT (b.tr)))]]⟩ : Blk) ∧ H 7 = (⟨0, false, false, 0, 0, []⟩ : Blk) ∧ H 9 = (⟨0, false, false, 0, 0, []⟩ : Blk) ∧ True) ?_ ?_
 ·
  unfold r11_0
  refine R_box (i := 3) (n := 0) (m := 2) (cs := [(iV (a.i)), (V.sl (List.map cT (a.tr)))]) rfl (congrArg Blk.ver rfl) (@rfl V (V.agg [(iV (a.i)), (V.sl (List.map cT (a.tr)))])) rfl rfl ?_
  refine R_box (i := 4) (n := 0) (m := 2) (cs := [(iV (b.i)), (V.sl (List.map cT (b.tr)))]) rfl (congrArg Blk.ver rfl) (@rfl V (V.agg [(iV (b.i)), (V.sl (List.map cT (b.tr)))])) rfl rfl ?_
  refine R_mv (@rfl V (V.bool false)) ?_
  exact R_nil ⟨rfl, rfl, rfl, rfl, rfl, rfl, rfl, trivial⟩
 intro T H ⟨t2, t3, t4, h3, h4, h7, h9, _⟩
 refine W_seq_seq ?_
 refine W_seq_regc (fun T H => T 2 = (iV (n)) ∧ T 3 = (V.mp 3 1 0 0) ∧ T 4 = (V.mp 4 1 0 0) ∧ T 16 = (V.bool (decide ((ogr a) ∨ (ogr b)))) ∧ H 3 = (⟨1, true, false, 34, 2, [[(iV (a.i)), (V.sl (List.map cT (a.tr)))]]⟩ : Blk) ∧ H 4 = (⟨1, true, false, 34, 2, [[(iV (b.i)), (V.sl (List.map cT (b.tr)))]]⟩ : Blk) ∧ H 7 = (⟨0, false, false, 0, 0, []⟩ : Blk) ∧ H 9 = (⟨0, false, false, 0, 0, []⟩ : Blk) ∧ True) ?_ ?_
 ·
  unfold r11_1
  refine R_load_mp (v := (V.agg [(iV (a.i)), (V.sl (List.map cT (a.tr)))])) t3 h3 (by first | rfl | simp [ldB, ldV, Blk.own, V.one]) ?_
  refine R_call (evcons (@rfl V (V.agg [(iV (a.i)), (V.sl (List.map cT (a.tr)))])) evnil) (great16_pure a) (fzv_mapcanon _ _ (by simp [-List.map_take, -List.map_drop, -List.map_append, -List.map_reverse])) (by simp [-List.map_take, -List.map_drop, -List.map_append, -List.map_reverse]) (Or.inl (by simp [-List.map_take, -List.map_drop, -List.map_append, -List.map_reverse])) ?_
  refine R_mv (@rfl V (V.bool (decide (ogr a)))) ?_
  refine Ops_seg 3 (fun T H => T 2 = (iV (n)) ∧ T 3 = (V.mp 3 1 0 0) ∧ T 4 = (V.mp 4 1 0 0) ∧ T 16 = (V.bool (decide ((ogr a) ∨ (ogr b)))) ∧ H 3 = (⟨1, true, false, 34, 2, [[(iV (a.i)), (V.sl (List.map cT (a.tr)))]]⟩ : Blk) ∧ H 4 = (⟨1, true, false, 34, 2, [[(iV (b.i)), (V.sl (List.map cT (b.tr)))]]⟩ : Blk) ∧ H 7 = (⟨0, false, false, 0, 0, []⟩ : Blk) ∧ H 9 = (⟨0, false, false, 0, 0, []⟩ : Blk) ∧ True) ?_ ?_
  ·
   by_cases g1 : ogr a
   ·
    refine G_no (Eq.trans (@rfl V (V.bool (decide (ogr a)))) (bdT g1)) (by decide) ?_
    refine G_no (Eq.trans (@rfl V (V.bool (decide (ogr a)))) (bdT g1)) (by decide) ?_
    refine R_pickT (Eq.trans (@rfl V (V.bool (decide (ogr a)))) (bdT g1)) (@rfl V (V.bool true)) ?_
    exact ⟨t2, t3, t4, (Eq.trans (@rfl V (V.bool true)) (dec_orT g1)), h3, h4, h7, h9, trivial⟩
   ·
    refine G_yes (Eq.trans (@rfl V (V.bool (decide (ogr a)))) (bdF g1)) ?_
    refine R_load_mp (v := (V.agg [(iV (b.i)), (V.sl (List.map cT (b.tr)))])) t4 h4 (by first | rfl | simp [ldB, ldV, Blk.own, V.one]) ?_
    refine G_yes (Eq.trans (@rfl V (V.bool (decide (ogr a)))) (bdF g1)) ?_
    refine R_call (evcons (@rfl V (V.agg [(iV (b.i)), (V.sl (List.map cT (b.tr)))])) evnil) (great16_pure b) (fzv_mapcanon _ _ (by simp [-List.map_take, -List.map_drop, -List.map_append, -List.map_reverse])) (by simp [-List.map_take, -List.map_drop, -List.map_append, -List.map_reverse]) (Or.inl (by simp [-List.map_take, -List.map_drop, -List.map_append, -List.map_reverse])) ?_
    refine R_pickF (Eq.trans (@rfl V (V.bool (decide (ogr a)))) (bdF g1)) (@rfl V (V.bool (decide (ogr b)))) ?_
    exact ⟨t2, t3, t4, (Eq.trans (@rfl V (V.bool (decide (ogr b)))) (dec_orF g1)), h3, h4, h7, h9, trivial⟩
  intro T H ⟨t2, t3, t4, t16, h3, h4, h7, h9, _⟩
  exact R_nil ⟨t2, t3, t4, t16, h3, h4, h7, h9, trivial⟩
 intro T H ⟨t2, t3, t4, t16, h3, h4, h7, h9, _⟩
 refine W_seq_if (p := (ogr a) ∨ (ogr b)) t16 (fun c2 => ?_) (fun c2 => ?_)
 ·
  refine W_seq_seq ?_
  refine W_seq_regc (fun T H => T 6 = (V.bool true) ∧ H 3 = (⟨1, true, false, 34, 2, [[(iV (a.i)), (V.sl (List.map cT (a.tr)))]]⟩ : Blk) ∧ H 4 = (⟨1, true, false, 34, 2, [[(iV (b.i)), (V.sl (List.map cT (b.tr)))]]⟩ : Blk) ∧ H 7 = (⟨0, false, false, 0, 0, []⟩ : Blk) ∧ H 9 = (⟨0, false, false, 0, 0, []⟩ : Blk) ∧ True) ?_ ?_
  ·
   unfold r11_2
   refine R_call evnil (aw_learnerlaw16_awake_pure) (fzv_mapcanon _ _ (by simp [-List.map_take, -List.map_drop, -List.map_append, -List.map_reverse])) (by simp [-List.map_take, -List.map_drop, -List.map_append, -List.map_reverse]) (Or.inl (by simp [-List.map_take, -List.map_drop, -List.map_append, -List.map_reverse])) ?_
   refine R_mv (@rfl V (V.bool true)) ?_
   exact R_nil ⟨rfl, h3, h4, h7, h9, trivial⟩
  intro T H ⟨t6, h3, h4, h7, h9, _⟩
  refine W_seq_ret ?_
  refine Ret_1 t6 (fz_canon (by simp) rfl)
 refine W_seq_skip ?_
 refine W_seq_regc (fun T H => T 2 = (iV (n)) ∧ T 3 = (V.mp 3 1 0 0) ∧ T 4 = (V.mp 4 1 0 0) ∧ T 7 = (V.mp 7 1 0 0) ∧ T 8 = (iV ((if ((n)) < 1 ∨ 64 < ((n)) then 2 else 0 : Int))) ∧ H 3 = (⟨1, true, false, 34, 2, [[(iV (a.i)), (V.sl (List.map cT (a.tr)))]]⟩ : Blk) ∧ H 4 = (⟨1, true, false, 34, 2, [[(iV (b.i)), (V.sl (List.map cT (b.tr)))]]⟩ : Blk) ∧ H 7 = (⟨1, true, false, 34, 2, [[(iV ((if ((n)) < 1 ∨ 64 < ((n)) then 0 else ((n)) : Int))), (V.sl (List.map cT ([])))]]⟩ : Blk) ∧ H 9 = (⟨0, false, false, 0, 0, []⟩ : Blk) ∧ True) ?_ ?_
 ·
  unfold r11_3
  refine R_mv t2 ?_
  refine R_call (evcons (@rfl V (iV (n))) evnil) (onew_pure ((n))) (fzv_mapcanon _ _ (by simp [-List.map_take, -List.map_drop, -List.map_append, -List.map_reverse])) (by simp [-List.map_take, -List.map_drop, -List.map_append, -List.map_reverse]) (Or.inl (by simp [-List.map_take, -List.map_drop, -List.map_append, -List.map_reverse])) ?_
  refine R_mv (@rfl V (V.tup [(V.agg [(iV ((if ((n)) < 1 ∨ 64 < ((n)) then 0 else ((n)) : Int))), (V.sl (List.map cT ([])))]), (iV ((if ((n)) < 1 ∨ 64 < ((n)) then 2 else 0 : Int)))])) ?_
  refine R_ext (v := (V.agg [(iV ((if ((n)) < 1 ∨ 64 < ((n)) then 0 else ((n)) : Int))), (V.sl (List.map cT ([])))])) (@rfl V (V.tup [(V.agg [(iV ((if ((n)) < 1 ∨ 64 < ((n)) then 0 else ((n)) : Int))), (V.sl (List.map cT ([])))]), (iV ((if ((n)) < 1 ∨ 64 < ((n)) then 2 else 0 : Int)))])) rfl ?_
  refine R_ext (v := (iV ((if ((n)) < 1 ∨ 64 < ((n)) then 2 else 0 : Int)))) (@rfl V (V.tup [(V.agg [(iV ((if ((n)) < 1 ∨ 64 < ((n)) then 0 else ((n)) : Int))), (V.sl (List.map cT ([])))]), (iV ((if ((n)) < 1 ∨ 64 < ((n)) then 2 else 0 : Int)))])) rfl ?_
  refine R_alloc (i := 7) (n := 0) (m := 2) rfl (congrArg Blk.ver h7) rfl ?_
  refine R_store (vs := [(iV ((if ((n)) < 1 ∨ 64 < ((n)) then 0 else ((n)) : Int))), (V.sl (List.map cT ([])))]) (B' := (⟨1, true, false, 34, 2, [[(iV ((if ((n)) < 1 ∨ 64 < ((n)) then 0 else ((n)) : Int))), (V.sl (List.map cT ([])))]]⟩ : Blk)) (@rfl V (V.mp 7 1 0 0)) (@rfl V (V.agg [(iV ((if ((n)) < 1 ∨ 64 < ((n)) then 0 else ((n)) : Int))), (V.sl (List.map cT ([])))])) rfl (@rfl Blk (⟨1, true, false, 34, 2, [[(iV (0 : Int)), V.nilsl]]⟩ : Blk)) (by first | rfl | simp [stB, okB, Blk.own, putAt, V.one]) ?_
  refine R_mv (@rfl V (iV ((if ((n)) < 1 ∨ 64 < ((n)) then 2 else 0 : Int)))) ?_
  exact R_nil ⟨t2, t3, t4, rfl, rfl, h3, h4, rfl, h9, trivial⟩
 intro T H ⟨t2, t3, t4, t7, t8, h3, h4, h7, h9, _⟩
 refine W_seq_regc (fun T H => T 3 = (V.mp 3 1 0 0) ∧ T 4 = (V.mp 4 1 0 0) ∧ T 7 = (V.mp 7 1 0 0) ∧ T 8 = (iV ((if ((n)) < 1 ∨ 64 < ((n)) then 2 else 0 : Int))) ∧ T 9 = (V.mp 9 1 0 0) ∧ T 10 = (iV ((if ((n)) < 1 ∨ 64 < ((n)) then 2 else 0 : Int))) ∧ H 3 = (⟨1, true, false, 34, 2, [[(iV (a.i)), (V.sl (List.map cT (a.tr)))]]⟩ : Blk) ∧ H 4 = (⟨1, true, false, 34, 2, [[(iV (b.i)), (V.sl (List.map cT (b.tr)))]]⟩ : Blk) ∧ H 7 = (⟨1, true, false, 34, 2, [[(iV ((if ((n)) < 1 ∨ 64 < ((n)) then 0 else ((n)) : Int))), (V.sl (List.map cT ([])))]]⟩ : Blk) ∧ H 9 = (⟨1, true, false, 34, 2, [[(iV ((if ((n)) < 1 ∨ 64 < ((n)) then 0 else ((n)) : Int))), (V.sl (List.map cT ([])))]]⟩ : Blk) ∧ True) ?_ ?_
 ·
  unfold r11_4
  refine R_mv t2 ?_
  refine R_call (evcons (@rfl V (iV (n))) evnil) (rnew_pure ((n))) (fzv_mapcanon _ _ (by simp [-List.map_take, -List.map_drop, -List.map_append, -List.map_reverse])) (by simp [-List.map_take, -List.map_drop, -List.map_append, -List.map_reverse]) (Or.inl (by simp [-List.map_take, -List.map_drop, -List.map_append, -List.map_reverse])) ?_
  refine R_mv (@rfl V (V.tup [(V.agg [(iV ((if ((n)) < 1 ∨ 64 < ((n)) then 0 else ((n)) : Int))), (V.sl (List.map cT ([])))]), (iV ((if ((n)) < 1 ∨ 64 < ((n)) then 2 else 0 : Int)))])) ?_
  refine R_ext (v := (V.agg [(iV ((if ((n)) < 1 ∨ 64 < ((n)) then 0 else ((n)) : Int))), (V.sl (List.map cT ([])))])) (@rfl V (V.tup [(V.agg [(iV ((if ((n)) < 1 ∨ 64 < ((n)) then 0 else ((n)) : Int))), (V.sl (List.map cT ([])))]), (iV ((if ((n)) < 1 ∨ 64 < ((n)) then 2 else 0 : Int)))])) rfl ?_
  refine R_ext (v := (iV ((if ((n)) < 1 ∨ 64 < ((n)) then 2 else 0 : Int)))) (@rfl V (V.tup [(V.agg [(iV ((if ((n)) < 1 ∨ 64 < ((n)) then 0 else ((n)) : Int))), (V.sl (List.map cT ([])))]), (iV ((if ((n)) < 1 ∨ 64 < ((n)) then 2 else 0 : Int)))])) rfl ?_
  refine R_alloc (i := 9) (n := 0) (m := 2) rfl (congrArg Blk.ver h9) rfl ?_
  refine R_store (vs := [(iV ((if ((n)) < 1 ∨ 64 < ((n)) then 0 else ((n)) : Int))), (V.sl (List.map cT ([])))]) (B' := (⟨1, true, false, 34, 2, [[(iV ((if ((n)) < 1 ∨ 64 < ((n)) then 0 else ((n)) : Int))), (V.sl (List.map cT ([])))]]⟩ : Blk)) (@rfl V (V.mp 9 1 0 0)) (@rfl V (V.agg [(iV ((if ((n)) < 1 ∨ 64 < ((n)) then 0 else ((n)) : Int))), (V.sl (List.map cT ([])))])) rfl (@rfl Blk (⟨1, true, false, 34, 2, [[(iV (0 : Int)), V.nilsl]]⟩ : Blk)) (by first | rfl | simp [stB, okB, Blk.own, putAt, V.one]) ?_
  refine R_mv (@rfl V (iV ((if ((n)) < 1 ∨ 64 < ((n)) then 2 else 0 : Int)))) ?_
  exact R_nil ⟨t3, t4, t7, t8, rfl, rfl, h3, h4, h7, rfl, trivial⟩
 intro T H ⟨t3, t4, t7, t8, t9, t10, h3, h4, h7, h9, _⟩
 refine W_seq_regc (fun T H => T 6 = (V.bool ((((((((((decide ((oval a) = (oval a)) && ((decide (a = b) == decide (a = b))))) && decide (a = a))) && decide ((⟨(((if ((n)) < 1 ∨ 64 < ((n)) then 0 else ((n)) : Int))), ([])⟩ : Ob) = (⟨(((if ((n)) < 1 ∨ 64 < ((n)) then 0 else ((n)) : Int))), ([])⟩ : Ob)))) && decide (((if ((n)) < 1 ∨ 64 < ((n)) then 2 else 0 : Int)) = ((if ((n)) < 1 ∨ 64 < ((n)) then 2 else 0 : Int))))) || false))) ∧ H 3 = (⟨1, true, false, 34, 2, [[(iV (a.i)), (V.sl (List.map cT (a.tr)))]]⟩ : Blk) ∧ H 4 = (⟨1, true, false, 34, 2, [[(iV (b.i)), (V.sl (List.map cT (b.tr)))]]⟩ : Blk) ∧ H 7 = (⟨1, true, false, 34, 2, [[(iV ((if ((n)) < 1 ∨ 64 < ((n)) then 0 else ((n)) : Int))), (V.sl (List.map cT ([])))]]⟩ : Blk) ∧ H 9 = (⟨1, true, false, 34, 2, [[(iV ((if ((n)) < 1 ∨ 64 < ((n)) then 0 else ((n)) : Int))), (V.sl (List.map cT ([])))]]⟩ : Blk) ∧ True) ?_ ?_
 ·
  unfold r11_5
  refine R_load_mp (v := (V.agg [(iV (a.i)), (V.sl (List.map cT (a.tr)))])) t3 h3 (by first | rfl | simp [ldB, ldV, Blk.own, V.one]) ?_
  refine R_call (evcons (@rfl V (V.agg [(iV (a.i)), (V.sl (List.map cT (a.tr)))])) evnil) (oval_pure a) (fzv_mapcanon _ _ (by simp [-List.map_take, -List.map_drop, -List.map_append, -List.map_reverse])) (by simp [-List.map_take, -List.map_drop, -List.map_append, -List.map_reverse]) (Or.inl (by simp [-List.map_take, -List.map_drop, -List.map_append, -List.map_reverse])) ?_
  refine R_load_mp (v := (V.agg [(iV (a.i)), (V.sl (List.map cT (a.tr)))])) t3 h3 (by first | rfl | simp [ldB, ldV, Blk.own, V.one]) ?_
  refine R_call (evcons (@rfl V (V.agg [(iV (a.i)), (V.sl (List.map cT (a.tr)))])) evnil) (roval_pure a) (fzv_mapcanon _ _ (by simp [-List.map_take, -List.map_drop, -List.map_append, -List.map_reverse])) (by simp [-List.map_take, -List.map_drop, -List.map_append, -List.map_reverse]) (Or.inl (by simp [-List.map_take, -List.map_drop, -List.map_append, -List.map_reverse])) ?_
  refine R_eql (x := (oval a)) (y := (oval a)) (@rfl V (iV (oval a))) (@rfl V (iV (oval a))) ?_
  refine R_mv (@rfl V (V.bool (decide ((oval a) = (oval a))))) ?_
  refine Ops_seg 8 (fun T H => T 3 = (V.mp 3 1 0 0) ∧ T 7 = (V.mp 7 1 0 0) ∧ T 8 = (iV ((if ((n)) < 1 ∨ 64 < ((n)) then 2 else 0 : Int))) ∧ T 9 = (V.mp 9 1 0 0) ∧ T 10 = (iV ((if ((n)) < 1 ∨ 64 < ((n)) then 2 else 0 : Int))) ∧ T 41 = (V.bool ((decide ((oval a) = (oval a)) && ((decide (a = b) == decide (a = b)))))) ∧ H 3 = (⟨1, true, false, 34, 2, [[(iV (a.i)), (V.sl (List.map cT (a.tr)))]]⟩ : Blk) ∧ H 4 = (⟨1, true, false, 34, 2, [[(iV (b.i)), (V.sl (List.map cT (b.tr)))]]⟩ : Blk) ∧ H 7 = (⟨1, true, false, 34, 2, [[(iV ((if ((n)) < 1 ∨ 64 < ((n)) then 0 else ((n)) : Int))), (V.sl (List.map cT ([])))]]⟩ : Blk) ∧ H 9 = (⟨1, true, false, 34, 2, [[(iV ((if ((n)) < 1 ∨ 64 < ((n)) then 0 else ((n)) : Int))), (V.sl (List.map cT ([])))]]⟩ : Blk) ∧ True) ?_ ?_
  ·
   by_cases g3 : (oval a) = (oval a)
   ·
    refine G_yes (Eq.trans (@rfl V (V.bool (decide ((oval a) = (oval a))))) (bdT g3)) ?_
    refine R_load_mp (v := (V.agg [(iV (a.i)), (V.sl (List.map cT (a.tr)))])) t3 h3 (by first | rfl | simp [ldB, ldV, Blk.own, V.one]) ?_
    refine G_yes (Eq.trans (@rfl V (V.bool (decide ((oval a) = (oval a))))) (bdT g3)) ?_
    refine R_load_mp (v := (V.agg [(iV (b.i)), (V.sl (List.map cT (b.tr)))])) t4 h4 (by first | rfl | simp [ldB, ldV, Blk.own, V.one]) ?_
    refine G_yes (Eq.trans (@rfl V (V.bool (decide ((oval a) = (oval a))))) (bdT g3)) ?_
    refine R_call (evcons (@rfl V (V.agg [(iV (a.i)), (V.sl (List.map cT (a.tr)))])) (evcons (@rfl V (V.agg [(iV (b.i)), (V.sl (List.map cT (b.tr)))])) evnil)) (osame_pure a b) (fzv_mapcanon _ _ (by simp [-List.map_take, -List.map_drop, -List.map_append, -List.map_reverse])) (by simp [-List.map_take, -List.map_drop, -List.map_append, -List.map_reverse]) (Or.inl (by simp [-List.map_take, -List.map_drop, -List.map_append, -List.map_reverse])) ?_
    refine G_yes (Eq.trans (@rfl V (V.bool (decide ((oval a) = (oval a))))) (bdT g3)) ?_
    refine R_load_mp (v := (V.agg [(iV (a.i)), (V.sl (List.map cT (a.tr)))])) t3 h3 (by first | rfl | simp [ldB, ldV, Blk.own, V.one]) ?_
    refine G_yes (Eq.trans (@rfl V (V.bool (decide ((oval a) = (oval a))))) (bdT g3)) ?_
    refine R_load_mp (v := (V.agg [(iV (b.i)), (V.sl (List.map cT (b.tr)))])) t4 h4 (by first | rfl | simp [ldB, ldV, Blk.own, V.one]) ?_
    refine G_yes (Eq.trans (@rfl V (V.bool (decide ((oval a) = (oval a))))) (bdT g3)) ?_
    refine R_call (evcons (@rfl V (V.agg [(iV (a.i)), (V.sl (List.map cT (a.tr)))])) (evcons (@rfl V (V.agg [(iV (b.i)), (V.sl (List.map cT (b.tr)))])) evnil)) (rsame_pure a b) (fzv_mapcanon _ _ (by simp [-List.map_take, -List.map_drop, -List.map_append, -List.map_reverse])) (by simp [-List.map_take, -List.map_drop, -List.map_append, -List.map_reverse]) (Or.inl (by simp [-List.map_take, -List.map_drop, -List.map_append, -List.map_reverse])) ?_
    refine G_yes (Eq.trans (@rfl V (V.bool (decide ((oval a) = (oval a))))) (bdT g3)) ?_
    refine R_beql (x := decide (a = b)) (y := decide (a = b)) (@rfl V (V.bool (decide (a = b)))) (@rfl V (V.bool (decide (a = b)))) ?_
    refine R_pickT (Eq.trans (@rfl V (V.bool (decide ((oval a) = (oval a))))) (bdT g3)) (@rfl V (V.bool ((decide (a = b) == decide (a = b))))) ?_
    exact ⟨t3, t7, t8, t9, t10, (Eq.trans (@rfl V (V.bool ((decide (a = b) == decide (a = b))))) (dbandT g3)), h3, h4, h7, h9, trivial⟩
   ·
    refine G_no (Eq.trans (@rfl V (V.bool (decide ((oval a) = (oval a))))) (bdF g3)) (by decide) ?_
    refine G_no (Eq.trans (@rfl V (V.bool (decide ((oval a) = (oval a))))) (bdF g3)) (by decide) ?_
    refine G_no (Eq.trans (@rfl V (V.bool (decide ((oval a) = (oval a))))) (bdF g3)) (by decide) ?_
    refine G_no (Eq.trans (@rfl V (V.bool (decide ((oval a) = (oval a))))) (bdF g3)) (by decide) ?_
    refine G_no (Eq.trans (@rfl V (V.bool (decide ((oval a) = (oval a))))) (bdF g3)) (by decide) ?_
    refine G_no (Eq.trans (@rfl V (V.bool (decide ((oval a) = (oval a))))) (bdF g3)) (by decide) ?_
    refine G_no (Eq.trans (@rfl V (V.bool (decide ((oval a) = (oval a))))) (bdF g3)) (by decide) ?_
    refine R_pickF (Eq.trans (@rfl V (V.bool (decide ((oval a) = (oval a))))) (bdF g3)) (@rfl V (V.bool false)) ?_
    exact ⟨t3, t7, t8, t9, t10, (Eq.trans (@rfl V (V.bool false)) (dbandF g3)), h3, h4, h7, h9, trivial⟩
  intro T H ⟨t3, t7, t8, t9, t10, t41, h3, h4, h7, h9, _⟩
  refine R_mv t41 ?_
  refine Ops_seg 4 (fun T H => T 7 = (V.mp 7 1 0 0) ∧ T 8 = (iV ((if ((n)) < 1 ∨ 64 < ((n)) then 2 else 0 : Int))) ∧ T 9 = (V.mp 9 1 0 0) ∧ T 10 = (iV ((if ((n)) < 1 ∨ 64 < ((n)) then 2 else 0 : Int))) ∧ T 46 = (V.bool ((((decide ((oval a) = (oval a)) && ((decide (a = b) == decide (a = b))))) && decide (a = a)))) ∧ H 3 = (⟨1, true, false, 34, 2, [[(iV (a.i)), (V.sl (List.map cT (a.tr)))]]⟩ : Blk) ∧ H 4 = (⟨1, true, false, 34, 2, [[(iV (b.i)), (V.sl (List.map cT (b.tr)))]]⟩ : Blk) ∧ H 7 = (⟨1, true, false, 34, 2, [[(iV ((if ((n)) < 1 ∨ 64 < ((n)) then 0 else ((n)) : Int))), (V.sl (List.map cT ([])))]]⟩ : Blk) ∧ H 9 = (⟨1, true, false, 34, 2, [[(iV ((if ((n)) < 1 ∨ 64 < ((n)) then 0 else ((n)) : Int))), (V.sl (List.map cT ([])))]]⟩ : Blk) ∧ True) ?_ ?_
  ·
   by_cases g4 : ((decide ((oval a) = (oval a)) && ((decide (a = b) == decide (a = b))))) = true
   ·
    refine G_yes (Eq.trans (@rfl V (V.bool ((decide ((oval a) = (oval a)) && ((decide (a = b) == decide (a = b))))))) (bbT g4)) ?_
    refine R_load_mp (v := (V.agg [(iV (a.i)), (V.sl (List.map cT (a.tr)))])) t3 h3 (by first | rfl | simp [ldB, ldV, Blk.own, V.one]) ?_
    refine G_yes (Eq.trans (@rfl V (V.bool ((decide ((oval a) = (oval a)) && ((decide (a = b) == decide (a = b))))))) (bbT g4)) ?_
    refine R_load_mp (v := (V.agg [(iV (a.i)), (V.sl (List.map cT (a.tr)))])) t3 h3 (by first | rfl | simp [ldB, ldV, Blk.own, V.one]) ?_
    refine G_yes (Eq.trans (@rfl V (V.bool ((decide ((oval a) = (oval a)) && ((decide (a = b) == decide (a = b))))))) (bbT g4)) ?_
    refine R_call (evcons (@rfl V (V.agg [(iV (a.i)), (V.sl (List.map cT (a.tr)))])) (evcons (@rfl V (V.agg [(iV (a.i)), (V.sl (List.map cT (a.tr)))])) evnil)) (osame_pure a a) (fzv_mapcanon _ _ (by simp [-List.map_take, -List.map_drop, -List.map_append, -List.map_reverse])) (by simp [-List.map_take, -List.map_drop, -List.map_append, -List.map_reverse]) (Or.inl (by simp [-List.map_take, -List.map_drop, -List.map_append, -List.map_reverse])) ?_
    refine R_pickT (Eq.trans (@rfl V (V.bool ((decide ((oval a) = (oval a)) && ((decide (a = b) == decide (a = b))))))) (bbT g4)) (@rfl V (V.bool (decide (a = a)))) ?_
    exact ⟨t7, t8, t9, t10, (Eq.trans (@rfl V (V.bool (decide (a = a)))) (bandT g4)), h3, h4, h7, h9, trivial⟩
   ·
    refine G_no (Eq.trans (@rfl V (V.bool ((decide ((oval a) = (oval a)) && ((decide (a = b) == decide (a = b))))))) (bbF g4)) (by decide) ?_
    refine G_no (Eq.trans (@rfl V (V.bool ((decide ((oval a) = (oval a)) && ((decide (a = b) == decide (a = b))))))) (bbF g4)) (by decide) ?_
    refine G_no (Eq.trans (@rfl V (V.bool ((decide ((oval a) = (oval a)) && ((decide (a = b) == decide (a = b))))))) (bbF g4)) (by decide) ?_
    refine R_pickF (Eq.trans (@rfl V (V.bool ((decide ((oval a) = (oval a)) && ((decide (a = b) == decide (a = b))))))) (bbF g4)) (@rfl V (V.bool false)) ?_
    exact ⟨t7, t8, t9, t10, (Eq.trans (@rfl V (V.bool false)) (bandF g4)), h3, h4, h7, h9, trivial⟩
  intro T H ⟨t7, t8, t9, t10, t46, h3, h4, h7, h9, _⟩
  refine R_mv t46 ?_
  refine Ops_seg 4 (fun T H => T 8 = (iV ((if ((n)) < 1 ∨ 64 < ((n)) then 2 else 0 : Int))) ∧ T 10 = (iV ((if ((n)) < 1 ∨ 64 < ((n)) then 2 else 0 : Int))) ∧ T 51 = (V.bool ((((((decide ((oval a) = (oval a)) && ((decide (a = b) == decide (a = b))))) && decide (a = a))) && decide ((⟨(((if ((n)) < 1 ∨ 64 < ((n)) then 0 else ((n)) : Int))), ([])⟩ : Ob) = (⟨(((if ((n)) < 1 ∨ 64 < ((n)) then 0 else ((n)) : Int))), ([])⟩ : Ob))))) ∧ H 3 = (⟨1, true, false, 34, 2, [[(iV (a.i)), (V.sl (List.map cT (a.tr)))]]⟩ : Blk) ∧ H 4 = (⟨1, true, false, 34, 2, [[(iV (b.i)), (V.sl (List.map cT (b.tr)))]]⟩ : Blk) ∧ H 7 = (⟨1, true, false, 34, 2, [[(iV ((if ((n)) < 1 ∨ 64 < ((n)) then 0 else ((n)) : Int))), (V.sl (List.map cT ([])))]]⟩ : Blk) ∧ H 9 = (⟨1, true, false, 34, 2, [[(iV ((if ((n)) < 1 ∨ 64 < ((n)) then 0 else ((n)) : Int))), (V.sl (List.map cT ([])))]]⟩ : Blk) ∧ True) ?_ ?_
  ·
   by_cases g5 : ((((decide ((oval a) = (oval a)) && ((decide (a = b) == decide (a = b))))) && decide (a = a))) = true
   ·
    refine G_yes (Eq.trans (@rfl V (V.bool ((((decide ((oval a) = (oval a)) && ((decide (a = b) == decide (a = b))))) && decide (a = a))))) (bbT g5)) ?_
    refine R_load_mp (v := (V.agg [(iV ((if ((n)) < 1 ∨ 64 < ((n)) then 0 else ((n)) : Int))), (V.sl (List.map cT ([])))])) t7 h7 (by first | rfl | simp [ldB, ldV, Blk.own, V.one]) ?_
    refine G_yes (Eq.trans (@rfl V (V.bool ((((decide ((oval a) = (oval a)) && ((decide (a = b) == decide (a = b))))) && decide (a = a))))) (bbT g5)) ?_
    refine R_load_mp (v := (V.agg [(iV ((if ((n)) < 1 ∨ 64 < ((n)) then 0 else ((n)) : Int))), (V.sl (List.map cT ([])))])) t9 h9 (by first | rfl | simp [ldB, ldV, Blk.own, V.one]) ?_
    refine G_yes (Eq.trans (@rfl V (V.bool ((((decide ((oval a) = (oval a)) && ((decide (a = b) == decide (a = b))))) && decide (a = a))))) (bbT g5)) ?_
    refine R_call (evcons (@rfl V (V.agg [(iV ((if ((n)) < 1 ∨ 64 < ((n)) then 0 else ((n)) : Int))), (V.sl (List.map cT ([])))])) (evcons (@rfl V (V.agg [(iV ((if ((n)) < 1 ∨ 64 < ((n)) then 0 else ((n)) : Int))), (V.sl (List.map cT ([])))])) evnil)) (rsame_pure (⟨(((if ((n)) < 1 ∨ 64 < ((n)) then 0 else ((n)) : Int))), ([])⟩ : Ob) (⟨(((if ((n)) < 1 ∨ 64 < ((n)) then 0 else ((n)) : Int))), ([])⟩ : Ob)) (fzv_mapcanon _ _ (by simp [-List.map_take, -List.map_drop, -List.map_append, -List.map_reverse])) (by simp [-List.map_take, -List.map_drop, -List.map_append, -List.map_reverse]) (Or.inl (by simp [-List.map_take, -List.map_drop, -List.map_append, -List.map_reverse])) ?_
    refine R_pickT (Eq.trans (@rfl V (V.bool ((((decide ((oval a) = (oval a)) && ((decide (a = b) == decide (a = b))))) && decide (a = a))))) (bbT g5)) (@rfl V (V.bool (decide ((⟨(((if ((n)) < 1 ∨ 64 < ((n)) then 0 else ((n)) : Int))), ([])⟩ : Ob) = (⟨(((if ((n)) < 1 ∨ 64 < ((n)) then 0 else ((n)) : Int))), ([])⟩ : Ob))))) ?_
    exact ⟨t8, t10, (Eq.trans (@rfl V (V.bool (decide ((⟨(((if ((n)) < 1 ∨ 64 < ((n)) then 0 else ((n)) : Int))), ([])⟩ : Ob) = (⟨(((if ((n)) < 1 ∨ 64 < ((n)) then 0 else ((n)) : Int))), ([])⟩ : Ob))))) (bandT g5)), h3, h4, h7, h9, trivial⟩
   ·
    refine G_no (Eq.trans (@rfl V (V.bool ((((decide ((oval a) = (oval a)) && ((decide (a = b) == decide (a = b))))) && decide (a = a))))) (bbF g5)) (by decide) ?_
    refine G_no (Eq.trans (@rfl V (V.bool ((((decide ((oval a) = (oval a)) && ((decide (a = b) == decide (a = b))))) && decide (a = a))))) (bbF g5)) (by decide) ?_
    refine G_no (Eq.trans (@rfl V (V.bool ((((decide ((oval a) = (oval a)) && ((decide (a = b) == decide (a = b))))) && decide (a = a))))) (bbF g5)) (by decide) ?_
    refine R_pickF (Eq.trans (@rfl V (V.bool ((((decide ((oval a) = (oval a)) && ((decide (a = b) == decide (a = b))))) && decide (a = a))))) (bbF g5)) (@rfl V (V.bool false)) ?_
    exact ⟨t8, t10, (Eq.trans (@rfl V (V.bool false)) (bandF g5)), h3, h4, h7, h9, trivial⟩
  intro T H ⟨t8, t10, t51, h3, h4, h7, h9, _⟩
  refine R_mv t51 ?_
  refine Ops_seg 4 (fun T H => T 56 = (V.bool ((((((((decide ((oval a) = (oval a)) && ((decide (a = b) == decide (a = b))))) && decide (a = a))) && decide ((⟨(((if ((n)) < 1 ∨ 64 < ((n)) then 0 else ((n)) : Int))), ([])⟩ : Ob) = (⟨(((if ((n)) < 1 ∨ 64 < ((n)) then 0 else ((n)) : Int))), ([])⟩ : Ob)))) && decide (((if ((n)) < 1 ∨ 64 < ((n)) then 2 else 0 : Int)) = ((if ((n)) < 1 ∨ 64 < ((n)) then 2 else 0 : Int)))))) ∧ H 3 = (⟨1, true, false, 34, 2, [[(iV (a.i)), (V.sl (List.map cT (a.tr)))]]⟩ : Blk) ∧ H 4 = (⟨1, true, false, 34, 2, [[(iV (b.i)), (V.sl (List.map cT (b.tr)))]]⟩ : Blk) ∧ H 7 = (⟨1, true, false, 34, 2, [[(iV ((if ((n)) < 1 ∨ 64 < ((n)) then 0 else ((n)) : Int))), (V.sl (List.map cT ([])))]]⟩ : Blk) ∧ H 9 = (⟨1, true, false, 34, 2, [[(iV ((if ((n)) < 1 ∨ 64 < ((n)) then 0 else ((n)) : Int))), (V.sl (List.map cT ([])))]]⟩ : Blk) ∧ True) ?_ ?_
  ·
   by_cases g6 : ((((((decide ((oval a) = (oval a)) && ((decide (a = b) == decide (a = b))))) && decide (a = a))) && decide ((⟨(((if ((n)) < 1 ∨ 64 < ((n)) then 0 else ((n)) : Int))), ([])⟩ : Ob) = (⟨(((if ((n)) < 1 ∨ 64 < ((n)) then 0 else ((n)) : Int))), ([])⟩ : Ob)))) = true
   ·
    refine G_yes (Eq.trans (@rfl V (V.bool ((((((decide ((oval a) = (oval a)) && ((decide (a = b) == decide (a = b))))) && decide (a = a))) && decide ((⟨(((if ((n)) < 1 ∨ 64 < ((n)) then 0 else ((n)) : Int))), ([])⟩ : Ob) = (⟨(((if ((n)) < 1 ∨ 64 < ((n)) then 0 else ((n)) : Int))), ([])⟩ : Ob)))))) (bbT g6)) ?_
    refine R_mv t8 ?_
    refine G_yes (Eq.trans (@rfl V (V.bool ((((((decide ((oval a) = (oval a)) && ((decide (a = b) == decide (a = b))))) && decide (a = a))) && decide ((⟨(((if ((n)) < 1 ∨ 64 < ((n)) then 0 else ((n)) : Int))), ([])⟩ : Ob) = (⟨(((if ((n)) < 1 ∨ 64 < ((n)) then 0 else ((n)) : Int))), ([])⟩ : Ob)))))) (bbT g6)) ?_
    refine R_mv t10 ?_
    refine G_yes (Eq.trans (@rfl V (V.bool ((((((decide ((oval a) = (oval a)) && ((decide (a = b) == decide (a = b))))) && decide (a = a))) && decide ((⟨(((if ((n)) < 1 ∨ 64 < ((n)) then 0 else ((n)) : Int))), ([])⟩ : Ob) = (⟨(((if ((n)) < 1 ∨ 64 < ((n)) then 0 else ((n)) : Int))), ([])⟩ : Ob)))))) (bbT g6)) ?_
    refine R_eql (x := ((if ((n)) < 1 ∨ 64 < ((n)) then 2 else 0 : Int))) (y := ((if ((n)) < 1 ∨ 64 < ((n)) then 2 else 0 : Int))) (@rfl V (iV ((if ((n)) < 1 ∨ 64 < ((n)) then 2 else 0 : Int)))) (@rfl V (iV ((if ((n)) < 1 ∨ 64 < ((n)) then 2 else 0 : Int)))) ?_
    refine R_pickT (Eq.trans (@rfl V (V.bool ((((((decide ((oval a) = (oval a)) && ((decide (a = b) == decide (a = b))))) && decide (a = a))) && decide ((⟨(((if ((n)) < 1 ∨ 64 < ((n)) then 0 else ((n)) : Int))), ([])⟩ : Ob) = (⟨(((if ((n)) < 1 ∨ 64 < ((n)) then 0 else ((n)) : Int))), ([])⟩ : Ob)))))) (bbT g6)) (@rfl V (V.bool (decide (((if ((n)) < 1 ∨ 64 < ((n)) then 2 else 0 : Int)) = ((if ((n)) < 1 ∨ 64 < ((n)) then 2 else 0 : Int)))))) ?_
    exact ⟨(Eq.trans (@rfl V (V.bool (decide (((if ((n)) < 1 ∨ 64 < ((n)) then 2 else 0 : Int)) = ((if ((n)) < 1 ∨ 64 < ((n)) then 2 else 0 : Int)))))) (bandT g6)), h3, h4, h7, h9, trivial⟩
   ·
    refine G_no (Eq.trans (@rfl V (V.bool ((((((decide ((oval a) = (oval a)) && ((decide (a = b) == decide (a = b))))) && decide (a = a))) && decide ((⟨(((if ((n)) < 1 ∨ 64 < ((n)) then 0 else ((n)) : Int))), ([])⟩ : Ob) = (⟨(((if ((n)) < 1 ∨ 64 < ((n)) then 0 else ((n)) : Int))), ([])⟩ : Ob)))))) (bbF g6)) (by decide) ?_
    refine G_no (Eq.trans (@rfl V (V.bool ((((((decide ((oval a) = (oval a)) && ((decide (a = b) == decide (a = b))))) && decide (a = a))) && decide ((⟨(((if ((n)) < 1 ∨ 64 < ((n)) then 0 else ((n)) : Int))), ([])⟩ : Ob) = (⟨(((if ((n)) < 1 ∨ 64 < ((n)) then 0 else ((n)) : Int))), ([])⟩ : Ob)))))) (bbF g6)) (by decide) ?_
    refine G_no (Eq.trans (@rfl V (V.bool ((((((decide ((oval a) = (oval a)) && ((decide (a = b) == decide (a = b))))) && decide (a = a))) && decide ((⟨(((if ((n)) < 1 ∨ 64 < ((n)) then 0 else ((n)) : Int))), ([])⟩ : Ob) = (⟨(((if ((n)) < 1 ∨ 64 < ((n)) then 0 else ((n)) : Int))), ([])⟩ : Ob)))))) (bbF g6)) (by decide) ?_
    refine R_pickF (Eq.trans (@rfl V (V.bool ((((((decide ((oval a) = (oval a)) && ((decide (a = b) == decide (a = b))))) && decide (a = a))) && decide ((⟨(((if ((n)) < 1 ∨ 64 < ((n)) then 0 else ((n)) : Int))), ([])⟩ : Ob) = (⟨(((if ((n)) < 1 ∨ 64 < ((n)) then 0 else ((n)) : Int))), ([])⟩ : Ob)))))) (bbF g6)) (@rfl V (V.bool false)) ?_
    exact ⟨(Eq.trans (@rfl V (V.bool false)) (bandF g6)), h3, h4, h7, h9, trivial⟩
  intro T H ⟨t56, h3, h4, h7, h9, _⟩
  refine R_mv t56 ?_
  refine Ops_seg 2 (fun T H => T 59 = (V.bool ((((((((((decide ((oval a) = (oval a)) && ((decide (a = b) == decide (a = b))))) && decide (a = a))) && decide ((⟨(((if ((n)) < 1 ∨ 64 < ((n)) then 0 else ((n)) : Int))), ([])⟩ : Ob) = (⟨(((if ((n)) < 1 ∨ 64 < ((n)) then 0 else ((n)) : Int))), ([])⟩ : Ob)))) && decide (((if ((n)) < 1 ∨ 64 < ((n)) then 2 else 0 : Int)) = ((if ((n)) < 1 ∨ 64 < ((n)) then 2 else 0 : Int))))) || false))) ∧ H 3 = (⟨1, true, false, 34, 2, [[(iV (a.i)), (V.sl (List.map cT (a.tr)))]]⟩ : Blk) ∧ H 4 = (⟨1, true, false, 34, 2, [[(iV (b.i)), (V.sl (List.map cT (b.tr)))]]⟩ : Blk) ∧ H 7 = (⟨1, true, false, 34, 2, [[(iV ((if ((n)) < 1 ∨ 64 < ((n)) then 0 else ((n)) : Int))), (V.sl (List.map cT ([])))]]⟩ : Blk) ∧ H 9 = (⟨1, true, false, 34, 2, [[(iV ((if ((n)) < 1 ∨ 64 < ((n)) then 0 else ((n)) : Int))), (V.sl (List.map cT ([])))]]⟩ : Blk) ∧ True) ?_ ?_
  ·
   by_cases g7 : ((((((((decide ((oval a) = (oval a)) && ((decide (a = b) == decide (a = b))))) && decide (a = a))) && decide ((⟨(((if ((n)) < 1 ∨ 64 < ((n)) then 0 else ((n)) : Int))), ([])⟩ : Ob) = (⟨(((if ((n)) < 1 ∨ 64 < ((n)) then 0 else ((n)) : Int))), ([])⟩ : Ob)))) && decide (((if ((n)) < 1 ∨ 64 < ((n)) then 2 else 0 : Int)) = ((if ((n)) < 1 ∨ 64 < ((n)) then 2 else 0 : Int))))) = true
   ·
    refine G_yes (Eq.trans (@rfl V (V.bool ((((((((decide ((oval a) = (oval a)) && ((decide (a = b) == decide (a = b))))) && decide (a = a))) && decide ((⟨(((if ((n)) < 1 ∨ 64 < ((n)) then 0 else ((n)) : Int))), ([])⟩ : Ob) = (⟨(((if ((n)) < 1 ∨ 64 < ((n)) then 0 else ((n)) : Int))), ([])⟩ : Ob)))) && decide (((if ((n)) < 1 ∨ 64 < ((n)) then 2 else 0 : Int)) = ((if ((n)) < 1 ∨ 64 < ((n)) then 2 else 0 : Int))))))) (bbT g7)) ?_
    refine R_call evnil (aw_learnerlaw16_awake_pure) (fzv_mapcanon _ _ (by simp [-List.map_take, -List.map_drop, -List.map_append, -List.map_reverse])) (by simp [-List.map_take, -List.map_drop, -List.map_append, -List.map_reverse]) (Or.inl (by simp [-List.map_take, -List.map_drop, -List.map_append, -List.map_reverse])) ?_
    refine R_pickT (Eq.trans (@rfl V (V.bool ((((((((decide ((oval a) = (oval a)) && ((decide (a = b) == decide (a = b))))) && decide (a = a))) && decide ((⟨(((if ((n)) < 1 ∨ 64 < ((n)) then 0 else ((n)) : Int))), ([])⟩ : Ob) = (⟨(((if ((n)) < 1 ∨ 64 < ((n)) then 0 else ((n)) : Int))), ([])⟩ : Ob)))) && decide (((if ((n)) < 1 ∨ 64 < ((n)) then 2 else 0 : Int)) = ((if ((n)) < 1 ∨ 64 < ((n)) then 2 else 0 : Int))))))) (bbT g7)) (@rfl V (V.bool true)) ?_
    exact ⟨(Eq.trans (@rfl V (V.bool true)) (borT g7)), h3, h4, h7, h9, trivial⟩
   ·
    refine G_no (Eq.trans (@rfl V (V.bool ((((((((decide ((oval a) = (oval a)) && ((decide (a = b) == decide (a = b))))) && decide (a = a))) && decide ((⟨(((if ((n)) < 1 ∨ 64 < ((n)) then 0 else ((n)) : Int))), ([])⟩ : Ob) = (⟨(((if ((n)) < 1 ∨ 64 < ((n)) then 0 else ((n)) : Int))), ([])⟩ : Ob)))) && decide (((if ((n)) < 1 ∨ 64 < ((n)) then 2 else 0 : Int)) = ((if ((n)) < 1 ∨ 64 < ((n)) then 2 else 0 : Int))))))) (bbF g7)) (by decide) ?_
    refine R_pickF (Eq.trans (@rfl V (V.bool ((((((((decide ((oval a) = (oval a)) && ((decide (a = b) == decide (a = b))))) && decide (a = a))) && decide ((⟨(((if ((n)) < 1 ∨ 64 < ((n)) then 0 else ((n)) : Int))), ([])⟩ : Ob) = (⟨(((if ((n)) < 1 ∨ 64 < ((n)) then 0 else ((n)) : Int))), ([])⟩ : Ob)))) && decide (((if ((n)) < 1 ∨ 64 < ((n)) then 2 else 0 : Int)) = ((if ((n)) < 1 ∨ 64 < ((n)) then 2 else 0 : Int))))))) (bbF g7)) (@rfl V (V.bool false)) ?_
    exact ⟨(Eq.trans (@rfl V (V.bool false)) (borF g7)), h3, h4, h7, h9, trivial⟩
  intro T H ⟨t59, h3, h4, h7, h9, _⟩
  refine R_mv t59 ?_
  exact R_nil ⟨rfl, h3, h4, h7, h9, trivial⟩
 intro T H ⟨t6, h3, h4, h7, h9, _⟩
 refine W_ret ?_
 refine Ret_1 t6 (fz_bool ?_)
 · simp

end Go.Proofs.Ytngkckefanbhgaa

namespace Go.Proofs.Ytngkckefanbhgaa
open Go Go.Proofs Go.Proofs.Ytngkckefanbhgaa Go.ChangeShapes Go.WideShapes Go.ChangeAt Go.RowKit

structure UT (P : Program) : Prop where
  u3 : P.underlying 3 = some (.int .i64)
  u32 : P.underlying 32 = some (.slice 63)
  u35 : P.underlying 35 = some (.slice 3)
  u63 : ∃ f0 f1 : Field, P.underlying 63 = some (.struct #[f0, f1]) ∧ f0.type = 35 ∧ f1.type = 35
  u34 : ∃ f0 f1 : Field, P.underlying 34 = some (.struct #[f0, f1]) ∧ f0.type = 3 ∧ f1.type = 32
theorem sh3 {P : Program} (U : UT P) (n : Nat) (vs : List V) (h : Shp P (n + 1) 3 vs) : ∃ a : Int, vs = cI a := shp_int U.u3 h

theorem sh35 {P : Program} (U : UT P) (n : Nat) (vs : List V) (h : Shp P (n + 2) 35 vs) : ∃ a : List Int, vs = cL a := shp_slice (f := cI) U.u35 (fun vs h => sh3 U n vs h) h

theorem sh63 {P : Program} (U : UT P) (n : Nat) (vs : List V) (h : Shp P (n + 3) 63 vs) : ∃ a : Tr, vs = cT a := by
  obtain ⟨f0, f1, hu, k0, k1⟩ := U.u63
  have h0 := shp_step hu h
  obtain ⟨x0, u0, e0, h1⟩ := shpL_cons (c := cL) (fun vs h => sh35 U (n + 0) vs (by rw [k0] at h; exact h)) h0
  obtain ⟨x1, u1, e1, h2⟩ := shpL_cons (c := cL) (fun vs h => sh35 U (n + 0) vs (by rw [k1] at h; exact h)) h1
  have e2 := shpL_nil h2
  exact ⟨⟨x0, x1⟩, by rw [e0, e1, e2]; rfl⟩

theorem sh32 {P : Program} (U : UT P) (n : Nat) (vs : List V) (h : Shp P (n + 4) 32 vs) : ∃ a : List Tr, vs = (fun l => [V.sl (List.map cT l)]) a := shp_slice (f := cT) U.u32 (fun vs h => sh63 U n vs h) h

theorem sh34 {P : Program} (U : UT P) (n : Nat) (vs : List V) (h : Shp P (n + 5) 34 vs) : ∃ a : Ob, vs = oC a := by
  obtain ⟨f0, f1, hu, k0, k1⟩ := U.u34
  have h0 := shp_step hu h
  obtain ⟨x0, u0, e0, h1⟩ := shpL_cons (c := cI) (fun vs h => sh3 U (n + 3) vs (by rw [k0] at h; exact h)) h0
  obtain ⟨x1, u1, e1, h2⟩ := shpL_cons (c := (fun l => [V.sl (List.map cT l)])) (fun vs h => sh32 U (n + 0) vs (by rw [k1] at h; exact h)) h1
  have e2 := shpL_nil h2
  exact ⟨⟨x0, x1⟩, by rw [e0, e1, e2]; rfl⟩

theorem ut : UT Try.prog := ⟨by kernel_rfl, by kernel_rfl, by kernel_rfl, ⟨_, _, Try.underlying63, rfl, rfl⟩, ⟨_, _, Try.underlying34, rfl, rfl⟩⟩
theorem args11 {P : Program} (U : UT P) {us : List V} (h : ShpA P 6 [34, 34, 3] us) : ∃ (d0 : Ob) (d1 : Ob) (d2 : Int), us = [V.agg (oC d0), V.agg (oC d1), V.int .i64 d2] := by
  obtain ⟨a0, b0, e0, h0, h⟩ := shpA_cons h
  obtain ⟨d0, g0⟩ := sh34 U 1 a0 h0
  have q0 : packV P 34 a0 = V.agg (oC d0) := by obtain ⟨_, _, hu, _⟩ := U.u34; rw [g0]; exact pack_struct hu _
  obtain ⟨a1, b1, e1, h1, h⟩ := shpA_cons h
  obtain ⟨d1, g1⟩ := sh34 U 1 a1 h1
  have q1 : packV P 34 a1 = V.agg (oC d1) := by obtain ⟨_, _, hu, _⟩ := U.u34; rw [g1]; exact pack_struct hu _
  obtain ⟨a2, b2, e2, h2, h⟩ := shpA_cons h
  obtain ⟨d2, g2⟩ := sh3 U 5 a2 h2
  have q2 : packV P 3 a2 = V.int .i64 d2 := by rw [g2]; exact pack_other (fun fs h => by rw [U.u3] at h; cases h)
  have e3 := shpA_nil h
  exact ⟨d0, d1, d2, by rw [e0, q0, e1, q1, e2, q2, e3]⟩
theorem own11 : ownKnob Try.prog.godebug = none := by kernel_rfl

set_option maxRecDepth 100000 in
theorem lifted11 (os : Os) (started : os.Started) (H : Type) (enc : TypeId × Value → H) :
    ReturnsInHanded {} Try.checked os 11 .any (Rows.observeValidSpec.pre6 enc Try.prog Try.f11 Rows.observeValidRow.domain false) (Rows.observeValidSpec.post enc Try.prog Try.f11 false true false false) := by
  refine returnsInHanded_of_change (C := Try.checked) own11 started (by kernel_rfl) Try.func11
    (ChangeSpec.witness6 (enc := enc) (C := Try.checked) false ⟨#[], #[.agg #[.int .i64 0, .slice none 0 0], .agg #[.int .i64 0, .slice none 0 0], .int .i64 0], []⟩ 8 (by kernel_rfl) (by kernel_rfl) (by kernel_rfl) (by kernel_rfl)) ?_
  intro W base args ds gs before hval0 hW hcnd _
  refine law_post (n := 6) (tb := 4) (by kernel_rfl) (by kernel_rfl) (by kernel_rfl) (fun t ht => ?_) rfl ?_ (fun us hu => ?_) hval0 hW
  · have h : t ∈ [34, 34, 3] := ht
    simp only [List.mem_cons, List.not_mem_nil, or_false] at h
    rcases h with rfl | rfl | rfl
    · exact ⟨by kernel_rfl, by kernel_rfl, of_decide_eq_true (by kernel_rfl)⟩
    · exact ⟨by kernel_rfl, by kernel_rfl, of_decide_eq_true (by kernel_rfl)⟩
    · exact ⟨by kernel_rfl, by kernel_rfl, of_decide_eq_true (by kernel_rfl)⟩
  · obtain ⟨p, q, hA, hV, rfl, hfz, hnd⟩ := hW
    obtain ⟨rfl, rfl⟩ := trodVars_none hV
    change DataW.TrodAll enc Try.prog W 0 (fun _ => true) true [34, 34, 3] args.toList ds p at hA
    obtain ⟨v0, vs0, y0, ds0, pa0, pb0, hv0, rfl, rfl, _, hA⟩ := trodAll_cons hA
    obtain ⟨v1, vs1, y1, ds1, pa1, pb1, hv1, rfl, rfl, _, hA⟩ := trodAll_cons hA
    obtain ⟨v2, vs2, y2, ds2, pa2, pb2, hv2, rfl, rfl, _, hA⟩ := trodAll_cons hA
    obtain ⟨_, rfl, rfl⟩ := trodAll_nil hA
    rfl
  · obtain ⟨d0, d1, d2, rfl⟩ := args11 ut hu
    exact law11_pure d0 d1 d2

theorem proved11 : Rows.ObserveValidSaid :=
  OpenClaim.holds_of_wide 11 Try.f11 rfl rfl rfl rfl rfl rfl rfl ⟨rfl, rfl, rfl, rfl, rfl⟩ rfl rfl rfl rfl rfl (by kernel_rfl) Try.func11 (by kernel_rfl)
    (of_decide_eq_true (by kernel_rfl)) (by unfold Func.isWrapper; first | (rw [if_pos (by decide +kernel)]; kernel_rfl) | (rw [if_neg (by decide +kernel)]; exact ⟨rfl, rfl⟩))
    (fun os started H enc _ => lifted11 os started H enc)
end Go.Proofs.Ytngkckefanbhgaa

