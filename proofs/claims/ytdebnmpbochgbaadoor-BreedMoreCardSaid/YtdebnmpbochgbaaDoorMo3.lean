/- That the law BreedMore holds of every input (the tied card BreedMoreCardSaid), where the two listed tables lie as the program's text lays them. (Part 3 of this claim's texts.) -/
import Derived.Test.YtdebnmpbochgbaaDoorMo2
set_option linter.unusedSimpArgs false
set_option linter.unusedVariables false
set_option linter.unnecessarySimpa false
section
/- The texts in Gc of functions of the program (made by a program of ours, wip/tools/gcgen.py). -/
namespace Gc
/- droveway/breed.Shows -/
def T.breed_Shows.r0 : List ROp := [⟨some 6, none, .op (.mov (.c (.bool false)))⟩, ⟨some 7, none, .op (.mov (.c (.int .i64 0)))⟩]
def T.breed_Shows.r1 : List ROp := [⟨some 11, none, .op (.mov (.t 0))⟩, ⟨some 12, none, .op (.mov (.t 1))⟩, ⟨some 13, none, .op (.buildSlice none 1 [.str []] 1 [(0, 1, .t 12)])⟩, ⟨some 14, none, .call false (.fn 29) [.t 11, .t 13]⟩, ⟨some 10, none, .op (.mov (.t 14))⟩, ⟨some 15, none, .op (.extract (.t 10) 0)⟩, ⟨some 16, none, .op (.extract (.t 10) 1)⟩, ⟨some 8, none, .op (.box none (.c .nils))⟩, ⟨none, none, .op (.store 1 (.t 8) (.t 15))⟩, ⟨some 9, none, .op (.mov (.t 16))⟩]
def T.breed_Shows.r2 : List ROp := [⟨some 17, none, .op (.mov (.t 9))⟩, ⟨some 18, none, .op (.bin .plain .eql (.t 17) (.c (.int .i64 0)))⟩]
def T.breed_Shows.r3 : List ROp := [⟨some 19, none, .op (.mov (.t 0))⟩, ⟨some 20, none, .op (.mov (.t 2))⟩, ⟨some 21, none, .call false (.fn 30) [.t 19, .t 20]⟩, ⟨some 9, none, .op (.mov (.t 21))⟩]
def T.breed_Shows.c4 : Code := .cond (.t 18) (.region T.breed_Shows.r3 [0, 18, 19, 20, 21] 0 false) .skip
def T.breed_Shows.c3 : Code := .seq (.region T.breed_Shows.r2 [17] 0 false) T.breed_Shows.c4
def T.breed_Shows.r4 : List ROp := [⟨some 22, none, .op (.mov (.t 9))⟩, ⟨some 23, none, .op (.bin .plain .neq (.t 22) (.c (.int .i64 0)))⟩]
def T.breed_Shows.r5 : List ROp := [⟨some 24, none, .op (.mov (.t 9))⟩, ⟨some 6, none, .op (.mov (.c (.bool false)))⟩, ⟨some 7, none, .op (.mov (.t 24))⟩]
def T.breed_Shows.c8 : Code := .seq (.region T.breed_Shows.r5 [2, 8, 9, 23, 24] 0 false) .ret
def T.breed_Shows.c7 : Code := .cond (.t 23) T.breed_Shows.c8 .skip
def T.breed_Shows.c6 : Code := .seq (.region T.breed_Shows.r4 [0, 18, 22] 0 false) T.breed_Shows.c7
def T.breed_Shows.r6 : List ROp := [⟨some 25, none, .op (.mov (.t 2))⟩, ⟨some 26, none, .op (.mkFn 32 [.t 8])⟩, ⟨some 27, none, .call false (.fn 31) [.t 25, .t 26]⟩, ⟨some 28, none, .op (.un .not (.t 27))⟩, ⟨some 6, none, .op (.mov (.t 28))⟩, ⟨some 7, none, .op (.mov (.c (.int .i64 0)))⟩]
def T.breed_Shows.c9 : Code := .seq (.region T.breed_Shows.r6 [2, 8, 9, 23, 25, 26, 27, 28] 0 false) .ret
def T.breed_Shows.c5 : Code := .seq T.breed_Shows.c6 T.breed_Shows.c9
def T.breed_Shows.c2 : Code := .seq T.breed_Shows.c3 T.breed_Shows.c5
def T.breed_Shows.c1 : Code := .seq (.region T.breed_Shows.r1 [1, 10, 11, 12, 13, 14, 15, 16] 0 false) T.breed_Shows.c2
def T.breed_Shows.c0 : Code := .seq (.region T.breed_Shows.r0 [6, 7] 0 false) T.breed_Shows.c1
def T.breed_Shows : Fun := ⟨T.breed_Shows.c0, [.tmp 6, .tmp 7]⟩
/- droveway/breed.Build -/
def T.breed_Build.r0 : List ROp := [⟨some 4, none, .op (.mov (.c (.str [])))⟩, ⟨some 5, none, .op (.mov (.c (.int .i64 0)))⟩]
def T.breed_Build.r1 : List ROp := [⟨some 8, none, .op (.mov (.t 0))⟩, ⟨some 9, none, .op (.mov (.t 1))⟩, ⟨some 10, none, .call false (.fn 36) [.t 8, .t 9]⟩, ⟨some 6, none, .op (.mov (.t 10))⟩]
def T.breed_Build.r2 : List ROp := [⟨some 11, none, .op (.mov (.t 6))⟩, ⟨some 12, none, .op (.bin .plain .neq (.t 11) (.c (.int .i64 0)))⟩]
def T.breed_Build.r3 : List ROp := [⟨some 13, none, .op (.mov (.t 6))⟩, ⟨some 4, none, .op (.mov (.c (.str [])))⟩, ⟨some 5, none, .op (.mov (.t 13))⟩]
def T.breed_Build.c5 : Code := .seq (.region T.breed_Build.r3 [0, 1, 6, 12, 13] 0 false) .ret
def T.breed_Build.c4 : Code := .cond (.t 12) T.breed_Build.c5 .skip
def T.breed_Build.c3 : Code := .seq (.region T.breed_Build.r2 [11] 0 false) T.breed_Build.c4
def T.breed_Build.c2 : Code := .seq (.region T.breed_Build.r1 [8, 9, 10] 0 false) T.breed_Build.c3
def T.breed_Build.r4 : List ROp := [⟨some 14, none, .op (.mov (.t 1))⟩, ⟨some 15, none, .op (.mov (.t 0))⟩, ⟨some 16, none, .op (.bin .plain .shl (.c (.int .i64 1)) (.t 15))⟩, ⟨some 17, none, .op (.bin .plain .sub (.t 16) (.c (.int .i64 1)))⟩, ⟨some 18, none, .call false (.fn 37) [.t 14, .t 17]⟩, ⟨some 7, none, .op (.mov (.t 18))⟩]
def T.breed_Build.r5 : List ROp := [⟨some 19, none, .op (.mov (.t 7))⟩, ⟨some 20, none, .op (.bin .iface .neq (.t 19) (.c .nili))⟩]
def T.breed_Build.r6 : List ROp := [⟨some 21, none, .op (.mov (.t 7))⟩, ⟨some 22, none, .call false (.inv (.t 21) 0) []⟩, ⟨some 4, none, .op (.mov (.t 22))⟩, ⟨some 5, none, .op (.mov (.c (.int .i64 0)))⟩]
def T.breed_Build.c10 : Code := .seq (.region T.breed_Build.r6 [7, 20, 21, 22] 0 false) .ret
def T.breed_Build.c9 : Code := .cond (.t 20) T.breed_Build.c10 .skip
def T.breed_Build.c8 : Code := .seq (.region T.breed_Build.r5 [19] 0 false) T.breed_Build.c9
def T.breed_Build.c7 : Code := .seq (.region T.breed_Build.r4 [0, 1, 6, 12, 14, 15, 16, 17, 18] 0 false) T.breed_Build.c8
def T.breed_Build.r7 : List ROp := [⟨some 4, none, .op (.mov (.c (.str [])))⟩, ⟨some 5, none, .op (.mov (.c (.int .i64 10)))⟩]
def T.breed_Build.c11 : Code := .seq (.region T.breed_Build.r7 [7, 20] 0 false) .ret
def T.breed_Build.c6 : Code := .seq T.breed_Build.c7 T.breed_Build.c11
def T.breed_Build.c1 : Code := .seq T.breed_Build.c2 T.breed_Build.c6
def T.breed_Build.c0 : Code := .seq (.region T.breed_Build.r0 [4, 5] 0 false) T.breed_Build.c1
def T.breed_Build : Fun := ⟨T.breed_Build.c0, [.tmp 4, .tmp 5]⟩
/- droveway/breed.Knot -/
def T.breed_Knot.r0 : List ROp := [⟨some 4, none, .op (.mov (.c (.int .i64 0)))⟩, ⟨some 5, none, .op (.mov (.c (.int .i64 0)))⟩]
def T.breed_Knot.r1 : List ROp := [⟨some 8, none, .op (.mov (.t 0))⟩, ⟨some 9, none, .op (.mov (.t 1))⟩, ⟨some 10, none, .call false (.fn 36) [.t 8, .t 9]⟩, ⟨some 6, none, .op (.mov (.t 10))⟩]
def T.breed_Knot.r2 : List ROp := [⟨some 11, none, .op (.mov (.t 6))⟩, ⟨some 12, none, .op (.bin .plain .neq (.t 11) (.c (.int .i64 0)))⟩]
def T.breed_Knot.r3 : List ROp := [⟨some 13, none, .op (.mov (.t 6))⟩, ⟨some 4, none, .op (.mov (.c (.int .i64 0)))⟩, ⟨some 5, none, .op (.mov (.t 13))⟩]
def T.breed_Knot.c5 : Code := .seq (.region T.breed_Knot.r3 [0, 1, 6, 12, 13] 0 false) .ret
def T.breed_Knot.c4 : Code := .cond (.t 12) T.breed_Knot.c5 .skip
def T.breed_Knot.c3 : Code := .seq (.region T.breed_Knot.r2 [11] 0 false) T.breed_Knot.c4
def T.breed_Knot.c2 : Code := .seq (.region T.breed_Knot.r1 [8, 9, 10] 0 false) T.breed_Knot.c3
def T.breed_Knot.r4 : List ROp := [⟨some 14, none, .op (.mov (.t 0))⟩, ⟨some 15, none, .op (.bin .plain .shl (.c (.int .i64 1)) (.t 14))⟩, ⟨some 16, none, .op (.mov (.c (.int .i64 0)))⟩]
def T.breed_Knot.r5 : List ROp := [⟨some 17, none, .op (.bin .plain .lss (.t 16) (.t 15))⟩]
def T.breed_Knot.c12 : Code := .cond (.t 17) .skip (.exit 0)
def T.breed_Knot.r6 : List ROp := [⟨some 18, none, .op (.mov (.t 16))⟩, ⟨some 7, none, .op (.mov (.t 18))⟩]
def T.breed_Knot.r7 : List ROp := [⟨some 19, none, .op (.mov (.t 7))⟩, ⟨some 20, none, .op (.conv .u64 (.t 19))⟩, ⟨some 21, none, .call false (.fn 38) [.t 20]⟩, ⟨some 22, none, .op (.bin .plain .gtr (.t 21) (.c (.int .i64 2)))⟩, ⟨some 23, none, .op (.mov (.t 22))⟩, ⟨some 24, some (23, true), .op (.mov (.t 1))⟩, ⟨some 25, some (23, true), .op (.mov (.t 7))⟩, ⟨some 26, some (23, true), .call false (.fn 39) [.t 24, .t 25]⟩, ⟨some 27, some (23, true), .op (.len false (.t 26))⟩, ⟨some 28, some (23, true), .op (.bin .plain .eql (.t 27) (.c (.int .i64 1)))⟩, ⟨some 29, none, .op (.pick (.t 23) (.t 28) (.c (.bool false)))⟩]
def T.breed_Knot.r8 : List ROp := [⟨some 30, none, .op (.mov (.t 7))⟩, ⟨some 4, none, .op (.mov (.t 30))⟩, ⟨some 5, none, .op (.mov (.c (.int .i64 0)))⟩]
def T.breed_Knot.c18 : Code := .seq (.region T.breed_Knot.r8 [1, 7, 15, 16, 29, 30] 0 false) .ret
def T.breed_Knot.c17 : Code := .cond (.t 29) T.breed_Knot.c18 .skip
def T.breed_Knot.c16 : Code := .seq (.region T.breed_Knot.r7 [19, 20, 21, 22, 23, 24, 25, 26, 27, 28] 0 false) T.breed_Knot.c17
def T.breed_Knot.c15 : Code := .seq (.region T.breed_Knot.r6 [17, 18] 0 false) T.breed_Knot.c16
def T.breed_Knot.c14 : Code := .block 1 T.breed_Knot.c15
def T.breed_Knot.r9 : List ROp := [⟨some 31, none, .op (.bin .plain .add (.t 16) (.c (.int .i64 1)))⟩, ⟨some 16, none, .op (.mov (.t 31))⟩]
def T.breed_Knot.c13 : Code := .seq T.breed_Knot.c14 (.region T.breed_Knot.r9 [7, 29, 31] 0 false)
def T.breed_Knot.c11 : Code := .seq T.breed_Knot.c12 T.breed_Knot.c13
def T.breed_Knot.c10 : Code := .seq (.region T.breed_Knot.r5 [] 0 false) T.breed_Knot.c11
def T.breed_Knot.c9 : Code := .loop T.breed_Knot.c10
def T.breed_Knot.c8 : Code := .block 0 T.breed_Knot.c9
def T.breed_Knot.c7 : Code := .seq (.region T.breed_Knot.r4 [0, 6, 12, 14] 0 false) T.breed_Knot.c8
def T.breed_Knot.r10 : List ROp := [⟨some 4, none, .op (.mov (.c (.int .i64 0)))⟩, ⟨some 5, none, .op (.mov (.c (.int .i64 10)))⟩]
def T.breed_Knot.c19 : Code := .seq (.region T.breed_Knot.r10 [1, 15, 16, 17] 0 false) .ret
def T.breed_Knot.c6 : Code := .seq T.breed_Knot.c7 T.breed_Knot.c19
def T.breed_Knot.c1 : Code := .seq T.breed_Knot.c2 T.breed_Knot.c6
def T.breed_Knot.c0 : Code := .seq (.region T.breed_Knot.r0 [4, 5] 0 false) T.breed_Knot.c1
def T.breed_Knot : Fun := ⟨T.breed_Knot.c0, [.tmp 4, .tmp 5]⟩
/- droveway/breed.IsTree -/
/- droveway/breed.Joined -/
/- droveway/breed.Triples -/
/- droveway/breed.Count -/
def T.breed_Count.r0 : List ROp := [⟨some 2, none, .op (.mov (.c (.int .i64 0)))⟩, ⟨some 3, none, .op (.mov (.c (.int .i64 0)))⟩]
def T.breed_Count.r1 : List ROp := [⟨some 12, none, .op (.mov (.t 0))⟩, ⟨some 13, none, .call false (.fn 40) [.t 12]⟩, ⟨some 14, none, .op (.un .not (.t 13))⟩]
def T.breed_Count.r2 : List ROp := [⟨some 2, none, .op (.mov (.c (.int .i64 0)))⟩, ⟨some 3, none, .op (.mov (.c (.int .i64 2)))⟩]
def T.breed_Count.c4 : Code := .seq (.region T.breed_Count.r2 [0, 14] 0 false) .ret
def T.breed_Count.c3 : Code := .cond (.t 14) T.breed_Count.c4 .skip
def T.breed_Count.c2 : Code := .seq (.region T.breed_Count.r1 [12, 13] 0 false) T.breed_Count.c3
def T.breed_Count.r3 : List ROp := [⟨some 15, none, .op (.buildSlice none 1 [.int .i64 0] 1 [(0, 1, .c (.int .i64 1))])⟩, ⟨some 4, none, .op (.mov (.t 15))⟩]
def T.breed_Count.r4 : List ROp := [⟨some 5, none, .op (.mov (.c (.int .i64 2)))⟩]
def T.breed_Count.r5 : List ROp := [⟨some 16, none, .op (.mov (.t 5))⟩, ⟨some 17, none, .op (.mov (.t 0))⟩, ⟨some 18, none, .op (.bin .plain .leq (.t 16) (.t 17))⟩]
def T.breed_Count.c12 : Code := .cond (.t 18) .skip (.exit 0)
def T.breed_Count.c11 : Code := .seq (.region T.breed_Count.r5 [16, 17] 0 false) T.breed_Count.c12
def T.breed_Count.r6 : List ROp := [⟨some 21, none, .op (.mov (.t 5))⟩, ⟨some 22, none, .op (.makeSlice [.int .i64 0] 8 (.t 21) (.t 21))⟩, ⟨some 6, none, .op (.mov (.t 22))⟩]
def T.breed_Count.r7 : List ROp := [⟨some 23, none, .op (.mov (.t 4))⟩, ⟨some 24, none, .op (.len false (.t 23))⟩, ⟨some 25, none, .op (.mov (.c (.int .i64 0)))⟩]
def T.breed_Count.r8 : List ROp := [⟨some 26, none, .op (.bin .plain .lss (.t 25) (.t 24))⟩]
def T.breed_Count.c22 : Code := .cond (.t 26) .skip (.exit 2)
def T.breed_Count.r9 : List ROp := [⟨some 27, none, .op (.mov (.t 25))⟩, ⟨some 28, none, .op (.indexAddr 1 (.t 23) (.t 25))⟩, ⟨some 29, none, .op (.load false 1 (.t 28))⟩, ⟨some 7, none, .op (.mov (.t 27))⟩, ⟨some 8, none, .op (.mov (.t 29))⟩]
def T.breed_Count.r10 : List ROp := [⟨some 30, none, .op (.mov (.t 7))⟩, ⟨some 31, none, .op (.bin .plain .gtr (.t 30) (.c (.int .i64 0)))⟩]
def T.breed_Count.r11 : List ROp := [⟨some 32, none, .op (.mov (.t 6))⟩, ⟨some 33, none, .op (.mov (.t 7))⟩, ⟨some 34, none, .op (.indexAddr 1 (.t 32) (.t 33))⟩, ⟨some 35, none, .op (.load false 1 (.t 34))⟩, ⟨some 36, none, .op (.mov (.t 7))⟩, ⟨some 37, none, .op (.mov (.t 8))⟩, ⟨some 38, none, .op (.bin .plain .mul (.t 36) (.t 37))⟩, ⟨some 39, none, .op (.bin .plain .add (.t 35) (.t 38))⟩, ⟨some 40, none, .op (.indexAddr 1 (.t 32) (.t 33))⟩, ⟨none, none, .op (.store 1 (.t 40) (.t 39))⟩]
def T.breed_Count.c28 : Code := .cond (.t 31) (.region T.breed_Count.r11 [31, 32, 33, 34, 35, 36, 37, 38, 39, 40] 0 false) .skip
def T.breed_Count.c27 : Code := .seq (.region T.breed_Count.r10 [30] 0 false) T.breed_Count.c28
def T.breed_Count.r12 : List ROp := [⟨some 41, none, .op (.mov (.t 6))⟩, ⟨some 42, none, .op (.mov (.t 7))⟩, ⟨some 43, none, .op (.bin .plain .add (.t 42) (.c (.int .i64 1)))⟩, ⟨some 44, none, .op (.indexAddr 1 (.t 41) (.t 43))⟩, ⟨some 45, none, .op (.load false 1 (.t 44))⟩, ⟨some 46, none, .op (.mov (.t 5))⟩, ⟨some 47, none, .op (.bin .plain .sub (.t 46) (.c (.int .i64 1)))⟩, ⟨some 48, none, .op (.mov (.t 7))⟩, ⟨some 49, none, .op (.bin .plain .add (.t 47) (.t 48))⟩, ⟨some 50, none, .op (.mov (.t 8))⟩, ⟨some 51, none, .op (.bin .plain .mul (.t 49) (.t 50))⟩, ⟨some 52, none, .op (.bin .plain .add (.t 45) (.t 51))⟩, ⟨some 53, none, .op (.indexAddr 1 (.t 41) (.t 43))⟩, ⟨none, none, .op (.store 1 (.t 53) (.t 52))⟩]
def T.breed_Count.c26 : Code := .seq T.breed_Count.c27 (.region T.breed_Count.r12 [7, 8, 31, 41, 42, 43, 44, 45, 46, 47, 48, 49, 50, 51, 52, 53] 0 false)
def T.breed_Count.c25 : Code := .seq (.region T.breed_Count.r9 [26, 27, 28, 29] 0 false) T.breed_Count.c26
def T.breed_Count.c24 : Code := .block 3 T.breed_Count.c25
def T.breed_Count.r13 : List ROp := [⟨some 54, none, .op (.bin .plain .add (.t 25) (.c (.int .i64 1)))⟩, ⟨some 25, none, .op (.mov (.t 54))⟩]
def T.breed_Count.c23 : Code := .seq T.breed_Count.c24 (.region T.breed_Count.r13 [54] 0 false)
def T.breed_Count.c21 : Code := .seq T.breed_Count.c22 T.breed_Count.c23
def T.breed_Count.c20 : Code := .seq (.region T.breed_Count.r8 [] 0 false) T.breed_Count.c21
def T.breed_Count.c19 : Code := .loop T.breed_Count.c20
def T.breed_Count.c18 : Code := .block 2 T.breed_Count.c19
def T.breed_Count.c17 : Code := .seq (.region T.breed_Count.r7 [4] 0 false) T.breed_Count.c18
def T.breed_Count.r14 : List ROp := [⟨some 55, none, .op (.mov (.t 6))⟩, ⟨some 4, none, .op (.mov (.t 55))⟩]
def T.breed_Count.c16 : Code := .seq T.breed_Count.c17 (.region T.breed_Count.r14 [6, 23, 24, 25, 26, 55] 0 false)
def T.breed_Count.c15 : Code := .seq (.region T.breed_Count.r6 [18, 21, 22] 0 false) T.breed_Count.c16
def T.breed_Count.c14 : Code := .block 1 T.breed_Count.c15
def T.breed_Count.r15 : List ROp := [⟨some 19, none, .op (.mov (.t 5))⟩, ⟨some 20, none, .op (.bin .plain .add (.t 19) (.c (.int .i64 1)))⟩, ⟨some 5, none, .op (.mov (.t 20))⟩]
def T.breed_Count.c13 : Code := .seq T.breed_Count.c14 (.region T.breed_Count.r15 [19, 20] 0 false)
def T.breed_Count.c10 : Code := .seq T.breed_Count.c11 T.breed_Count.c13
def T.breed_Count.c9 : Code := .loop T.breed_Count.c10
def T.breed_Count.c8 : Code := .block 0 T.breed_Count.c9
def T.breed_Count.c7 : Code := .seq (.region T.breed_Count.r4 [] 0 false) T.breed_Count.c8
def T.breed_Count.r16 : List ROp := [⟨some 9, none, .op (.mov (.c (.int .i64 0)))⟩]
def T.breed_Count.r17 : List ROp := [⟨some 56, none, .op (.mov (.t 4))⟩, ⟨some 57, none, .op (.len false (.t 56))⟩, ⟨some 58, none, .op (.mov (.c (.int .i64 0)))⟩]
def T.breed_Count.r18 : List ROp := [⟨some 59, none, .op (.bin .plain .lss (.t 58) (.t 57))⟩]
def T.breed_Count.c36 : Code := .cond (.t 59) .skip (.exit 4)
def T.breed_Count.r19 : List ROp := [⟨some 60, none, .op (.indexAddr 1 (.t 56) (.t 58))⟩, ⟨some 61, none, .op (.load false 1 (.t 60))⟩, ⟨some 11, none, .op (.mov (.t 61))⟩]
def T.breed_Count.r20 : List ROp := [⟨some 62, none, .op (.mov (.t 9))⟩, ⟨some 63, none, .op (.mov (.t 11))⟩, ⟨some 64, none, .op (.bin .plain .add (.t 62) (.t 63))⟩, ⟨some 9, none, .op (.mov (.t 64))⟩]
def T.breed_Count.c39 : Code := .seq (.region T.breed_Count.r19 [59, 60, 61] 0 false) (.region T.breed_Count.r20 [11, 62, 63, 64] 0 false)
def T.breed_Count.c38 : Code := .block 5 T.breed_Count.c39
def T.breed_Count.r21 : List ROp := [⟨some 65, none, .op (.bin .plain .add (.t 58) (.c (.int .i64 1)))⟩, ⟨some 58, none, .op (.mov (.t 65))⟩]
def T.breed_Count.c37 : Code := .seq T.breed_Count.c38 (.region T.breed_Count.r21 [65] 0 false)
def T.breed_Count.c35 : Code := .seq T.breed_Count.c36 T.breed_Count.c37
def T.breed_Count.c34 : Code := .seq (.region T.breed_Count.r18 [] 0 false) T.breed_Count.c35
def T.breed_Count.c33 : Code := .loop T.breed_Count.c34
def T.breed_Count.c32 : Code := .block 4 T.breed_Count.c33
def T.breed_Count.c31 : Code := .seq (.region T.breed_Count.r17 [4] 0 false) T.breed_Count.c32
def T.breed_Count.r22 : List ROp := [⟨some 66, none, .op (.mov (.t 9))⟩, ⟨some 2, none, .op (.mov (.t 66))⟩, ⟨some 3, none, .op (.mov (.c (.int .i64 0)))⟩]
def T.breed_Count.c40 : Code := .seq (.region T.breed_Count.r22 [9, 56, 57, 58, 59, 66] 0 false) .ret
def T.breed_Count.c30 : Code := .seq T.breed_Count.c31 T.breed_Count.c40
def T.breed_Count.c29 : Code := .seq (.region T.breed_Count.r16 [0, 5, 18] 0 false) T.breed_Count.c30
def T.breed_Count.c6 : Code := .seq T.breed_Count.c7 T.breed_Count.c29
def T.breed_Count.c5 : Code := .seq (.region T.breed_Count.r3 [14, 15] 0 false) T.breed_Count.c6
def T.breed_Count.c1 : Code := .seq T.breed_Count.c2 T.breed_Count.c5
def T.breed_Count.c0 : Code := .seq (.region T.breed_Count.r0 [2, 3] 0 false) T.breed_Count.c1
def T.breed_Count : Fun := ⟨T.breed_Count.c0, [.tmp 2, .tmp 3]⟩
/- droveway/breed.Closure -/
/- droveway/breed.Kept -/
def T.breed_Kept.r0 : List ROp := [⟨some 6, none, .op (.mov (.c (.str [])))⟩, ⟨some 7, none, .op (.mov (.c (.int .i64 0)))⟩]
def T.breed_Kept.r1 : List ROp := [⟨some 11, none, .op (.mov (.t 0))⟩, ⟨some 12, none, .op (.mov (.t 1))⟩, ⟨some 13, none, .op (.buildSlice none 1 [.str []] 1 [(0, 1, .t 12)])⟩, ⟨some 14, none, .call false (.fn 29) [.t 11, .t 13]⟩, ⟨some 10, none, .op (.mov (.t 14))⟩, ⟨some 15, none, .op (.extract (.t 10) 0)⟩, ⟨some 16, none, .op (.extract (.t 10) 1)⟩, ⟨some 8, none, .op (.mov (.t 15))⟩, ⟨some 9, none, .op (.mov (.t 16))⟩]
def T.breed_Kept.r2 : List ROp := [⟨some 18, none, .op (.mov (.t 9))⟩, ⟨some 19, none, .op (.bin .plain .neq (.t 18) (.c (.int .i64 0)))⟩, ⟨some 17, none, .op (.mov (.t 19))⟩]
def T.breed_Kept.r3 : List ROp := [⟨some 20, none, .op (.mov (.t 9))⟩, ⟨some 6, none, .op (.mov (.c (.str [])))⟩, ⟨some 7, none, .op (.mov (.t 20))⟩]
def T.breed_Kept.c6 : Code := .seq (.region T.breed_Kept.r3 [0, 2, 8, 9, 17, 20] 0 false) .ret
def T.breed_Kept.r4 : List ROp := [⟨some 22, none, .op (.mov (.t 2))⟩, ⟨some 23, none, .op (.bin .plain .lss (.t 22) (.c (.int .i64 1)))⟩, ⟨some 24, none, .op (.mov (.t 23))⟩, ⟨some 25, some (24, false), .op (.mov (.t 2))⟩, ⟨some 26, some (24, false), .op (.mov (.t 0))⟩, ⟨some 27, some (24, false), .op (.bin .plain .shl (.c (.int .i64 1)) (.t 26))⟩, ⟨some 28, some (24, false), .op (.bin .plain .geq (.t 25) (.t 27))⟩, ⟨some 29, none, .op (.pick (.t 24) (.c (.bool true)) (.t 28))⟩, ⟨some 21, none, .op (.mov (.t 29))⟩]
def T.breed_Kept.r5 : List ROp := [⟨some 6, none, .op (.mov (.c (.str [])))⟩, ⟨some 7, none, .op (.mov (.c (.int .i64 2)))⟩]
def T.breed_Kept.c9 : Code := .seq (.region T.breed_Kept.r5 [2, 8, 21] 0 false) .ret
def T.breed_Kept.c8 : Code := .cond (.t 21) T.breed_Kept.c9 .skip
def T.breed_Kept.c7 : Code := .seq (.region T.breed_Kept.r4 [0, 9, 17, 22, 23, 24, 25, 26, 27, 28, 29] 0 false) T.breed_Kept.c8
def T.breed_Kept.c5 : Code := .cond (.t 17) T.breed_Kept.c6 T.breed_Kept.c7
def T.breed_Kept.c4 : Code := .seq (.region T.breed_Kept.r2 [18, 19] 0 false) T.breed_Kept.c5
def T.breed_Kept.c3 : Code := .block 0 T.breed_Kept.c4
def T.breed_Kept.r6 : List ROp := [⟨some 30, none, .op (.mov (.t 8))⟩, ⟨some 31, none, .op (.indexAddr 1 (.t 30) (.c (.int .i64 0)))⟩, ⟨some 32, none, .op (.load false 1 (.t 31))⟩, ⟨some 33, none, .op (.mov (.t 2))⟩, ⟨some 34, none, .call false (.fn 49) [.t 32, .t 33]⟩, ⟨some 35, none, .call false (.inv (.t 34) 0) []⟩, ⟨some 6, none, .op (.mov (.t 35))⟩, ⟨some 7, none, .op (.mov (.c (.int .i64 0)))⟩]
def T.breed_Kept.c10 : Code := .seq (.region T.breed_Kept.r6 [2, 8, 21, 30, 31, 32, 33, 34, 35] 0 false) .ret
def T.breed_Kept.c2 : Code := .seq T.breed_Kept.c3 T.breed_Kept.c10
def T.breed_Kept.c1 : Code := .seq (.region T.breed_Kept.r1 [1, 10, 11, 12, 13, 14, 15, 16] 0 false) T.breed_Kept.c2
def T.breed_Kept.c0 : Code := .seq (.region T.breed_Kept.r0 [6, 7] 0 false) T.breed_Kept.c1
def T.breed_Kept : Fun := ⟨T.breed_Kept.c0, [.tmp 6, .tmp 7]⟩
/- droveway/breed.Agree -/
/- droveway/breed.Family -/
def T.breed_Family.r0 : List ROp := [⟨some 8, none, .op (.mov (.c (.int .i64 0)))⟩, ⟨some 9, none, .op (.mov (.c (.int .i64 0)))⟩]
def T.breed_Family.r1 : List ROp := [⟨some 13, none, .op (.mov (.t 0))⟩, ⟨some 14, none, .op (.mov (.t 1))⟩, ⟨some 15, none, .op (.buildSlice none 1 [.str []] 1 [(0, 1, .t 14)])⟩, ⟨some 16, none, .call false (.fn 29) [.t 13, .t 15]⟩, ⟨some 12, none, .op (.mov (.t 16))⟩, ⟨some 17, none, .op (.extract (.t 12) 0)⟩, ⟨some 18, none, .op (.extract (.t 12) 1)⟩, ⟨some 10, none, .op (.mov (.t 17))⟩, ⟨some 11, none, .op (.mov (.t 18))⟩]
def T.breed_Family.r2 : List ROp := [⟨some 20, none, .op (.mov (.t 11))⟩, ⟨some 21, none, .op (.bin .plain .neq (.t 20) (.c (.int .i64 0)))⟩, ⟨some 19, none, .op (.mov (.t 21))⟩]
def T.breed_Family.r3 : List ROp := [⟨some 22, none, .op (.mov (.t 11))⟩, ⟨some 8, none, .op (.mov (.c (.int .i64 0)))⟩, ⟨some 9, none, .op (.mov (.t 22))⟩]
def T.breed_Family.c6 : Code := .seq (.region T.breed_Family.r3 [0, 2, 3, 10, 11, 19, 22] 0 false) .ret
def T.breed_Family.r4 : List ROp := [⟨some 24, none, .op (.mov (.t 2))⟩, ⟨some 25, none, .op (.mov (.t 3))⟩, ⟨some 26, none, .op (.minmax false [.t 24, .t 25])⟩, ⟨some 27, none, .op (.bin .plain .lss (.t 26) (.c (.int .i64 0)))⟩, ⟨some 28, none, .op (.mov (.t 27))⟩, ⟨some 29, some (28, false), .op (.mov (.t 2))⟩, ⟨some 30, some (28, false), .op (.mov (.t 3))⟩, ⟨some 31, some (28, false), .op (.minmax true [.t 29, .t 30])⟩, ⟨some 32, some (28, false), .op (.mov (.t 0))⟩, ⟨some 33, some (28, false), .op (.bin .plain .geq (.t 31) (.t 32))⟩, ⟨some 34, none, .op (.pick (.t 28) (.c (.bool true)) (.t 33))⟩, ⟨some 23, none, .op (.mov (.t 34))⟩]
def T.breed_Family.r5 : List ROp := [⟨some 8, none, .op (.mov (.c (.int .i64 0)))⟩, ⟨some 9, none, .op (.mov (.c (.int .i64 2)))⟩]
def T.breed_Family.c9 : Code := .seq (.region T.breed_Family.r5 [2, 3, 10, 23] 0 false) .ret
def T.breed_Family.c8 : Code := .cond (.t 23) T.breed_Family.c9 .skip
def T.breed_Family.c7 : Code := .seq (.region T.breed_Family.r4 [0, 11, 19, 24, 25, 26, 27, 28, 29, 30, 31, 32, 33, 34] 0 false) T.breed_Family.c8
def T.breed_Family.c5 : Code := .cond (.t 19) T.breed_Family.c6 T.breed_Family.c7
def T.breed_Family.c4 : Code := .seq (.region T.breed_Family.r2 [20, 21] 0 false) T.breed_Family.c5
def T.breed_Family.c3 : Code := .block 0 T.breed_Family.c4
def T.breed_Family.r6 : List ROp := [⟨some 35, none, .op (.mov (.t 10))⟩, ⟨some 36, none, .op (.indexAddr 1 (.t 35) (.c (.int .i64 0)))⟩, ⟨some 38, none, .op (.mov (.t 2))⟩, ⟨some 39, none, .op (.bin .plain .shl (.c (.int .i64 1)) (.t 38))⟩, ⟨some 40, none, .op (.mov (.t 3))⟩, ⟨some 41, none, .op (.bin .plain .shl (.c (.int .i64 1)) (.t 40))⟩, ⟨some 42, none, .op (.bin .plain .or (.t 39) (.t 41))⟩, ⟨some 37, none, .op (.load false 1 (.t 36))⟩, ⟨some 43, none, .call false (.fn 50) [.t 37, .t 42]⟩, ⟨some 8, none, .op (.mov (.t 43))⟩, ⟨some 9, none, .op (.mov (.c (.int .i64 0)))⟩]
def T.breed_Family.c10 : Code := .seq (.region T.breed_Family.r6 [2, 3, 10, 23, 35, 36, 37, 38, 39, 40, 41, 42, 43] 0 true) .ret
def T.breed_Family.c2 : Code := .seq T.breed_Family.c3 T.breed_Family.c10
def T.breed_Family.c1 : Code := .seq (.region T.breed_Family.r1 [1, 12, 13, 14, 15, 16, 17, 18] 0 false) T.breed_Family.c2
def T.breed_Family.c0 : Code := .seq (.region T.breed_Family.r0 [8, 9] 0 false) T.breed_Family.c1
def T.breed_Family : Fun := ⟨T.breed_Family.c0, [.tmp 8, .tmp 9]⟩
/- droveway/breed.read -/
def T.breed_read.r0 : List ROp := [⟨some 4, none, .op (.mov (.c .nils))⟩, ⟨some 5, none, .op (.mov (.c (.int .i64 0)))⟩]
def T.breed_read.r1 : List ROp := [⟨some 10, none, .op (.mov (.t 0))⟩, ⟨some 11, none, .call false (.fn 40) [.t 10]⟩, ⟨some 12, none, .op (.un .not (.t 11))⟩]
def T.breed_read.r2 : List ROp := [⟨some 4, none, .op (.mov (.c .nils))⟩, ⟨some 5, none, .op (.mov (.c (.int .i64 2)))⟩]
def T.breed_read.c4 : Code := .seq (.region T.breed_read.r2 [0, 1, 12] 0 false) .ret
def T.breed_read.c3 : Code := .cond (.t 12) T.breed_read.c4 .skip
def T.breed_read.c2 : Code := .seq (.region T.breed_read.r1 [10, 11] 0 false) T.breed_read.c3
def T.breed_read.r3 : List ROp := [⟨some 6, none, .op (.mov (.c .nils))⟩]
def T.breed_read.r4 : List ROp := [⟨some 13, none, .op (.mov (.t 1))⟩, ⟨some 14, none, .op (.len false (.t 13))⟩, ⟨some 15, none, .op (.mov (.c (.int .i64 0)))⟩]
def T.breed_read.r5 : List ROp := [⟨some 16, none, .op (.bin .plain .lss (.t 15) (.t 14))⟩]
def T.breed_read.c12 : Code := .cond (.t 16) .skip (.exit 0)
def T.breed_read.r6 : List ROp := [⟨some 17, none, .op (.indexAddr 1 (.t 13) (.t 15))⟩, ⟨some 18, none, .op (.load false 1 (.t 17))⟩, ⟨some 8, none, .op (.mov (.t 18))⟩]
def T.breed_read.r7 : List ROp := [⟨some 19, none, .op (.mov (.t 0))⟩, ⟨some 20, none, .op (.mov (.t 8))⟩, ⟨some 21, none, .call false (.fn 41) [.t 19, .t 20]⟩, ⟨some 9, none, .op (.mov (.t 21))⟩]
def T.breed_read.r8 : List ROp := [⟨some 22, none, .op (.mov (.t 9))⟩, ⟨some 23, none, .op (.bin .iface .eql (.t 22) (.c .nili))⟩]
def T.breed_read.r9 : List ROp := [⟨some 4, none, .op (.mov (.c .nils))⟩, ⟨some 5, none, .op (.mov (.c (.int .i64 5)))⟩]
def T.breed_read.c20 : Code := .seq (.region T.breed_read.r9 [0, 6, 9, 13, 14, 15, 23] 0 false) .ret
def T.breed_read.c19 : Code := .cond (.t 23) T.breed_read.c20 .skip
def T.breed_read.c18 : Code := .seq (.region T.breed_read.r8 [22] 0 false) T.breed_read.c19
def T.breed_read.r10 : List ROp := [⟨some 24, none, .op (.mov (.t 6))⟩, ⟨some 25, none, .op (.mov (.t 9))⟩, ⟨some 26, none, .op (.buildSlice none 1 [.nili] 1 [(0, 1, .t 25)])⟩, ⟨some 27, none, .op (.append none 1 16 (.t 24) (.t 26))⟩, ⟨some 6, none, .op (.mov (.t 27))⟩]
def T.breed_read.c17 : Code := .seq T.breed_read.c18 (.region T.breed_read.r10 [9, 23, 24, 25, 26, 27] 0 false)
def T.breed_read.c16 : Code := .seq (.region T.breed_read.r7 [8, 19, 20, 21] 0 false) T.breed_read.c17
def T.breed_read.c15 : Code := .seq (.region T.breed_read.r6 [16, 17, 18] 0 false) T.breed_read.c16
def T.breed_read.c14 : Code := .block 1 T.breed_read.c15
def T.breed_read.r11 : List ROp := [⟨some 28, none, .op (.bin .plain .add (.t 15) (.c (.int .i64 1)))⟩, ⟨some 15, none, .op (.mov (.t 28))⟩]
def T.breed_read.c13 : Code := .seq T.breed_read.c14 (.region T.breed_read.r11 [28] 0 false)
def T.breed_read.c11 : Code := .seq T.breed_read.c12 T.breed_read.c13
def T.breed_read.c10 : Code := .seq (.region T.breed_read.r5 [] 0 false) T.breed_read.c11
def T.breed_read.c9 : Code := .loop T.breed_read.c10
def T.breed_read.c8 : Code := .block 0 T.breed_read.c9
def T.breed_read.c7 : Code := .seq (.region T.breed_read.r4 [1] 0 false) T.breed_read.c8
def T.breed_read.r12 : List ROp := [⟨some 29, none, .op (.mov (.t 6))⟩, ⟨some 4, none, .op (.mov (.t 29))⟩, ⟨some 5, none, .op (.mov (.c (.int .i64 0)))⟩]
def T.breed_read.c21 : Code := .seq (.region T.breed_read.r12 [0, 6, 13, 14, 15, 16, 29] 0 false) .ret
def T.breed_read.c6 : Code := .seq T.breed_read.c7 T.breed_read.c21
def T.breed_read.c5 : Code := .seq (.region T.breed_read.r3 [12] 0 false) T.breed_read.c6
def T.breed_read.c1 : Code := .seq T.breed_read.c2 T.breed_read.c5
def T.breed_read.c0 : Code := .seq (.region T.breed_read.r0 [4, 5] 0 false) T.breed_read.c1
def T.breed_read : Fun := ⟨T.breed_read.c0, [.tmp 4, .tmp 5]⟩
/- droveway/breed.remembered -/
def T.breed_remembered.r0 : List ROp := [⟨some 4, none, .op (.mov (.c (.int .i64 0)))⟩]
def T.breed_remembered.r1 : List ROp := [⟨some 7, none, .op (.mov (.t 1))⟩, ⟨some 8, none, .op (.len false (.t 7))⟩, ⟨some 9, none, .op (.bin .plain .gtr (.t 8) (.c (.int .i64 60)))⟩]
def T.breed_remembered.r2 : List ROp := [⟨some 4, none, .op (.mov (.c (.int .i64 3)))⟩]
def T.breed_remembered.c4 : Code := .seq (.region T.breed_remembered.r2 [0, 1, 9] 0 false) .ret
def T.breed_remembered.c3 : Code := .cond (.t 9) T.breed_remembered.c4 .skip
def T.breed_remembered.c2 : Code := .seq (.region T.breed_remembered.r1 [7, 8] 0 false) T.breed_remembered.c3
def T.breed_remembered.r3 : List ROp := [⟨some 10, none, .op (.mov (.t 1))⟩, ⟨some 11, none, .op (.len false (.t 10))⟩, ⟨some 12, none, .op (.mov (.c (.int .i64 0)))⟩]
def T.breed_remembered.r4 : List ROp := [⟨some 13, none, .op (.bin .plain .lss (.t 12) (.t 11))⟩]
def T.breed_remembered.c11 : Code := .cond (.t 13) .skip (.exit 0)
def T.breed_remembered.r5 : List ROp := [⟨some 14, none, .op (.indexAddr 3 (.t 10) (.t 12))⟩, ⟨some 15, none, .op (.load true 3 (.t 14))⟩, ⟨some 6, none, .op (.box none (.c (.agg [.int .i64 0, .int .i64 0, .int .i64 0])))⟩, ⟨none, none, .op (.store 3 (.t 6) (.t 15))⟩]
def T.breed_remembered.r6 : List ROp := [⟨some 16, none, .op (.fieldAddr 0 (.t 6))⟩, ⟨some 17, none, .op (.load false 1 (.t 16))⟩, ⟨some 18, none, .op (.bin .plain .lss (.t 17) (.c (.int .i64 0)))⟩, ⟨some 19, none, .op (.mov (.t 18))⟩, ⟨some 20, some (19, false), .op (.fieldAddr 0 (.t 6))⟩, ⟨some 21, some (19, false), .op (.load false 1 (.t 20))⟩, ⟨some 22, some (19, false), .op (.fieldAddr 1 (.t 6))⟩, ⟨some 23, some (19, false), .op (.load false 1 (.t 22))⟩, ⟨some 24, some (19, false), .op (.bin .plain .geq (.t 21) (.t 23))⟩, ⟨some 25, none, .op (.pick (.t 19) (.c (.bool true)) (.t 24))⟩, ⟨some 26, none, .op (.mov (.t 25))⟩, ⟨some 27, some (26, false), .op (.fieldAddr 1 (.t 6))⟩, ⟨some 28, some (26, false), .op (.load false 1 (.t 27))⟩, ⟨some 29, some (26, false), .op (.mov (.t 0))⟩, ⟨some 30, some (26, false), .op (.bin .plain .geq (.t 28) (.t 29))⟩, ⟨some 31, none, .op (.pick (.t 26) (.c (.bool true)) (.t 30))⟩, ⟨some 32, none, .op (.mov (.t 31))⟩, ⟨some 33, some (32, false), .op (.fieldAddr 2 (.t 6))⟩, ⟨some 34, some (32, false), .op (.load false 1 (.t 33))⟩, ⟨some 35, some (32, false), .op (.bin .plain .lss (.t 34) (.c (.int .i64 0)))⟩, ⟨some 36, none, .op (.pick (.t 32) (.c (.bool true)) (.t 35))⟩, ⟨some 37, none, .op (.mov (.t 36))⟩, ⟨some 38, some (37, false), .op (.fieldAddr 2 (.t 6))⟩, ⟨some 39, some (37, false), .op (.load false 1 (.t 38))⟩, ⟨some 40, some (37, false), .op (.mov (.t 0))⟩, ⟨some 41, some (37, false), .op (.bin .plain .geq (.t 39) (.t 40))⟩, ⟨some 42, none, .op (.pick (.t 37) (.c (.bool true)) (.t 41))⟩, ⟨some 43, none, .op (.mov (.t 42))⟩, ⟨some 44, some (43, false), .op (.fieldAddr 2 (.t 6))⟩, ⟨some 45, some (43, false), .op (.load false 1 (.t 44))⟩, ⟨some 46, some (43, false), .op (.fieldAddr 0 (.t 6))⟩, ⟨some 47, some (43, false), .op (.load false 1 (.t 46))⟩, ⟨some 48, some (43, false), .op (.bin .plain .eql (.t 45) (.t 47))⟩, ⟨some 49, none, .op (.pick (.t 43) (.c (.bool true)) (.t 48))⟩, ⟨some 50, none, .op (.mov (.t 49))⟩, ⟨some 51, some (50, false), .op (.fieldAddr 2 (.t 6))⟩, ⟨some 52, some (50, false), .op (.load false 1 (.t 51))⟩, ⟨some 53, some (50, false), .op (.fieldAddr 1 (.t 6))⟩, ⟨some 54, some (50, false), .op (.load false 1 (.t 53))⟩, ⟨some 55, some (50, false), .op (.bin .plain .eql (.t 52) (.t 54))⟩, ⟨some 56, none, .op (.pick (.t 50) (.c (.bool true)) (.t 55))⟩]
def T.breed_remembered.r7 : List ROp := [⟨some 4, none, .op (.mov (.c (.int .i64 2)))⟩]
def T.breed_remembered.c17 : Code := .seq (.region T.breed_remembered.r7 [0, 10, 11, 12, 56] 0 false) .ret
def T.breed_remembered.c16 : Code := .cond (.t 56) T.breed_remembered.c17 .skip
def T.breed_remembered.c15 : Code := .seq (.region T.breed_remembered.r6 [6, 16, 17, 18, 19, 20, 21, 22, 23, 24, 25, 26, 27, 28, 29, 30, 31, 32, 33, 34, 35, 36, 37, 38, 39, 40, 41, 42, 43, 44, 45, 46, 47, 48, 49, 50, 51, 52, 53, 54, 55] 0 false) T.breed_remembered.c16
def T.breed_remembered.c14 : Code := .seq (.region T.breed_remembered.r5 [13, 14, 15] 0 false) T.breed_remembered.c15
def T.breed_remembered.c13 : Code := .block 1 T.breed_remembered.c14
def T.breed_remembered.r8 : List ROp := [⟨some 57, none, .op (.bin .plain .add (.t 12) (.c (.int .i64 1)))⟩, ⟨some 12, none, .op (.mov (.t 57))⟩]
def T.breed_remembered.c12 : Code := .seq T.breed_remembered.c13 (.region T.breed_remembered.r8 [56, 57] 0 false)
def T.breed_remembered.c10 : Code := .seq T.breed_remembered.c11 T.breed_remembered.c12
def T.breed_remembered.c9 : Code := .seq (.region T.breed_remembered.r4 [] 0 false) T.breed_remembered.c10
def T.breed_remembered.c8 : Code := .loop T.breed_remembered.c9
def T.breed_remembered.c7 : Code := .block 0 T.breed_remembered.c8
def T.breed_remembered.c6 : Code := .seq (.region T.breed_remembered.r3 [1, 9] 0 false) T.breed_remembered.c7
def T.breed_remembered.r9 : List ROp := [⟨some 4, none, .op (.mov (.c (.int .i64 0)))⟩]
def T.breed_remembered.c18 : Code := .seq (.region T.breed_remembered.r9 [0, 10, 11, 12, 13] 0 false) .ret
def T.breed_remembered.c5 : Code := .seq T.breed_remembered.c6 T.breed_remembered.c18
def T.breed_remembered.c1 : Code := .seq T.breed_remembered.c2 T.breed_remembered.c5
def T.breed_remembered.c0 : Code := .seq (.region T.breed_remembered.r0 [4] 0 false) T.breed_remembered.c1
def T.breed_remembered : Fun := ⟨T.breed_remembered.c0, [.tmp 4]⟩
/- droveway/breed.Shows$1 -/
def T.breed_Shows_1.r0 : List ROp := [⟨some 2, none, .op (.box none (.t 0))⟩, ⟨some 3, none, .op (.mov (.c (.bool false)))⟩]
def T.breed_Shows_1.r1 : List ROp := [⟨some 4, none, .op (.load false 1 (.t 1))⟩, ⟨some 5, none, .op (.indexAddr 1 (.t 4) (.c (.int .i64 0)))⟩, ⟨some 6, none, .op (.load false 1 (.t 5))⟩, ⟨some 7, none, .op (.load true 3 (.t 2))⟩, ⟨some 8, none, .call false (.fn 33) [.t 6, .t 7]⟩, ⟨some 9, none, .op (.un .not (.t 8))⟩, ⟨some 3, none, .op (.mov (.t 9))⟩]
def T.breed_Shows_1.c1 : Code := .seq (.region T.breed_Shows_1.r1 [1, 2, 4, 5, 6, 7, 8, 9] 0 true) .ret
def T.breed_Shows_1.c0 : Code := .seq (.region T.breed_Shows_1.r0 [0, 3] 0 false) T.breed_Shows_1.c1
def T.breed_Shows_1 : Fun := ⟨T.breed_Shows_1.c0, [.tmp 3]⟩
/- droveway/breed.shows -/
def T.breed_shows.r0 : List ROp := [⟨some 3, none, .op (.box none (.t 1))⟩, ⟨some 4, none, .op (.mov (.c (.bool false)))⟩]
def T.breed_shows.r1 : List ROp := [⟨some 5, none, .op (.mov (.t 0))⟩, ⟨some 6, none, .op (.fieldAddr 0 (.t 3))⟩, ⟨some 9, none, .op (.fieldAddr 1 (.t 3))⟩, ⟨some 14, none, .op (.fieldAddr 2 (.t 3))⟩, ⟨some 7, none, .op (.load false 1 (.t 6))⟩, ⟨some 8, none, .op (.bin .plain .shl (.c (.int .i64 1)) (.t 7))⟩, ⟨some 10, none, .op (.load false 1 (.t 9))⟩, ⟨some 11, none, .op (.bin .plain .shl (.c (.int .i64 1)) (.t 10))⟩, ⟨some 12, none, .op (.bin .plain .or (.t 8) (.t 11))⟩, ⟨some 15, none, .op (.load false 1 (.t 14))⟩, ⟨some 13, none, .call true (.fn 50) [.t 5, .t 12]⟩, ⟨some 16, none, .op (.bin .plain .shr (.t 13) (.t 15))⟩, ⟨some 17, none, .op (.bin .plain .and (.t 16) (.c (.int .i64 1)))⟩, ⟨some 18, none, .op (.bin .plain .eql (.t 17) (.c (.int .i64 0)))⟩, ⟨some 4, none, .op (.mov (.t 18))⟩]
def T.breed_shows.c1 : Code := .seq (.region T.breed_shows.r1 [0, 3, 5, 6, 7, 8, 9, 10, 11, 12, 13, 14, 15, 16, 17, 18] 0 true) .ret
def T.breed_shows.c0 : Code := .seq (.region T.breed_shows.r0 [1, 4] 0 false) T.breed_shows.c1
def T.breed_shows : Fun := ⟨T.breed_shows.c0, [.tmp 4]⟩
/- droveway/breed.asked -/
def T.breed_asked.r0 : List ROp := [⟨some 4, none, .op (.mov (.c (.int .i64 0)))⟩]
def T.breed_asked.r1 : List ROp := [⟨some 5, none, .op (.mov (.t 0))⟩, ⟨some 6, none, .call false (.fn 40) [.t 5]⟩, ⟨some 7, none, .op (.un .not (.t 6))⟩]
def T.breed_asked.r2 : List ROp := [⟨some 4, none, .op (.mov (.c (.int .i64 2)))⟩]
def T.breed_asked.c4 : Code := .seq (.region T.breed_asked.r2 [0, 1, 7] 0 false) .ret
def T.breed_asked.c3 : Code := .cond (.t 7) T.breed_asked.c4 .skip
def T.breed_asked.c2 : Code := .seq (.region T.breed_asked.r1 [5, 6] 0 false) T.breed_asked.c3
def T.breed_asked.r3 : List ROp := [⟨some 8, none, .op (.mov (.t 0))⟩, ⟨some 9, none, .op (.mov (.t 1))⟩, ⟨some 10, none, .call false (.fn 30) [.t 8, .t 9]⟩, ⟨some 4, none, .op (.mov (.t 10))⟩]
def T.breed_asked.c5 : Code := .seq (.region T.breed_asked.r3 [0, 1, 7, 8, 9, 10] 0 false) .ret
def T.breed_asked.c1 : Code := .seq T.breed_asked.c2 T.breed_asked.c5
def T.breed_asked.c0 : Code := .seq (.region T.breed_asked.r0 [4] 0 false) T.breed_asked.c1
def T.breed_asked : Fun := ⟨T.breed_asked.c0, [.tmp 4]⟩
/- droveway/breed.build -/
def T.breed_build.r0 : List ROp := [⟨some 4, none, .op (.mov (.c .nili))⟩]
def T.breed_build.r1 : List ROp := [⟨some 10, none, .op (.mov (.t 1))⟩, ⟨some 11, none, .op (.mov (.t 1))⟩, ⟨some 12, none, .op (.bin .plain .sub (.t 11) (.c (.int .i64 1)))⟩, ⟨some 13, none, .op (.bin .plain .and (.t 10) (.t 12))⟩, ⟨some 14, none, .op (.bin .plain .eql (.t 13) (.c (.int .i64 0)))⟩]
def T.breed_build.r2 : List ROp := [⟨some 15, none, .op (.mov (.t 1))⟩, ⟨some 16, none, .op (.build [.int .i64 0] [(0, 1, .t 15)])⟩, ⟨some 17, none, .op (.mkIface 0 (.t 16))⟩, ⟨some 4, none, .op (.mov (.t 17))⟩]
def T.breed_build.c4 : Code := .seq (.region T.breed_build.r2 [0, 1, 14, 15, 16, 17] 0 false) .ret
def T.breed_build.c3 : Code := .cond (.t 14) T.breed_build.c4 .skip
def T.breed_build.c2 : Code := .seq (.region T.breed_build.r1 [10, 11, 12, 13] 0 false) T.breed_build.c3
def T.breed_build.r3 : List ROp := [⟨some 18, none, .op (.mov (.t 0))⟩, ⟨some 19, none, .op (.mov (.t 1))⟩, ⟨some 20, none, .call false (.fn 39) [.t 18, .t 19]⟩, ⟨some 5, none, .op (.mov (.t 20))⟩]
def T.breed_build.r4 : List ROp := [⟨some 21, none, .op (.mov (.t 5))⟩, ⟨some 22, none, .op (.len false (.t 21))⟩, ⟨some 23, none, .op (.bin .plain .eql (.t 22) (.c (.int .i64 1)))⟩]
def T.breed_build.r5 : List ROp := [⟨some 4, none, .op (.mov (.c .nili))⟩]
def T.breed_build.c9 : Code := .seq (.region T.breed_build.r5 [0, 5, 23] 0 false) .ret
def T.breed_build.c8 : Code := .cond (.t 23) T.breed_build.c9 .skip
def T.breed_build.c7 : Code := .seq (.region T.breed_build.r4 [21, 22] 0 false) T.breed_build.c8
def T.breed_build.r6 : List ROp := [⟨some 6, none, .op (.mov (.c .nils))⟩]
def T.breed_build.r7 : List ROp := [⟨some 24, none, .op (.mov (.t 5))⟩, ⟨some 25, none, .op (.len false (.t 24))⟩, ⟨some 26, none, .op (.mov (.c (.int .i64 0)))⟩]
def T.breed_build.r8 : List ROp := [⟨some 27, none, .op (.bin .plain .lss (.t 26) (.t 25))⟩]
def T.breed_build.c17 : Code := .cond (.t 27) .skip (.exit 0)
def T.breed_build.r9 : List ROp := [⟨some 28, none, .op (.indexAddr 1 (.t 24) (.t 26))⟩, ⟨some 29, none, .op (.load false 1 (.t 28))⟩, ⟨some 8, none, .op (.mov (.t 29))⟩]
def T.breed_build.r10 : List ROp := [⟨some 30, none, .op (.mov (.t 0))⟩, ⟨some 31, none, .op (.mov (.t 8))⟩, ⟨some 32, none, .call false (.fn 37) [.t 30, .t 31]⟩, ⟨some 9, none, .op (.mov (.t 32))⟩]
def T.breed_build.r11 : List ROp := [⟨some 33, none, .op (.mov (.t 9))⟩, ⟨some 34, none, .op (.bin .iface .eql (.t 33) (.c .nili))⟩]
def T.breed_build.r12 : List ROp := [⟨some 4, none, .op (.mov (.c .nili))⟩]
def T.breed_build.c25 : Code := .seq (.region T.breed_build.r12 [0, 6, 9, 24, 25, 26, 34] 0 false) .ret
def T.breed_build.c24 : Code := .cond (.t 34) T.breed_build.c25 .skip
def T.breed_build.c23 : Code := .seq (.region T.breed_build.r11 [33] 0 false) T.breed_build.c24
def T.breed_build.r13 : List ROp := [⟨some 35, none, .op (.mov (.t 6))⟩, ⟨some 36, none, .op (.mov (.t 9))⟩, ⟨some 37, none, .op (.buildSlice none 1 [.nili] 1 [(0, 1, .t 36)])⟩, ⟨some 38, none, .op (.append none 1 16 (.t 35) (.t 37))⟩, ⟨some 6, none, .op (.mov (.t 38))⟩]
def T.breed_build.c22 : Code := .seq T.breed_build.c23 (.region T.breed_build.r13 [9, 34, 35, 36, 37, 38] 0 false)
def T.breed_build.c21 : Code := .seq (.region T.breed_build.r10 [8, 30, 31, 32] 0 false) T.breed_build.c22
def T.breed_build.c20 : Code := .seq (.region T.breed_build.r9 [27, 28, 29] 0 false) T.breed_build.c21
def T.breed_build.c19 : Code := .block 1 T.breed_build.c20
def T.breed_build.r14 : List ROp := [⟨some 39, none, .op (.bin .plain .add (.t 26) (.c (.int .i64 1)))⟩, ⟨some 26, none, .op (.mov (.t 39))⟩]
def T.breed_build.c18 : Code := .seq T.breed_build.c19 (.region T.breed_build.r14 [39] 0 false)
def T.breed_build.c16 : Code := .seq T.breed_build.c17 T.breed_build.c18
def T.breed_build.c15 : Code := .seq (.region T.breed_build.r8 [] 0 false) T.breed_build.c16
def T.breed_build.c14 : Code := .loop T.breed_build.c15
def T.breed_build.c13 : Code := .block 0 T.breed_build.c14
def T.breed_build.c12 : Code := .seq (.region T.breed_build.r7 [5] 0 false) T.breed_build.c13
def T.breed_build.r15 : List ROp := [⟨some 40, none, .op (.mov (.t 6))⟩, ⟨some 41, none, .call false (.fn 53) [.t 40]⟩, ⟨some 4, none, .op (.mov (.t 41))⟩]
def T.breed_build.c26 : Code := .seq (.region T.breed_build.r15 [0, 6, 24, 25, 26, 27, 40, 41] 0 false) .ret
def T.breed_build.c11 : Code := .seq T.breed_build.c12 T.breed_build.c26
def T.breed_build.c10 : Code := .seq (.region T.breed_build.r6 [23] 0 false) T.breed_build.c11
def T.breed_build.c6 : Code := .seq T.breed_build.c7 T.breed_build.c10
def T.breed_build.c5 : Code := .seq (.region T.breed_build.r3 [1, 14, 18, 19, 20] 0 false) T.breed_build.c6
def T.breed_build.c1 : Code := .seq T.breed_build.c2 T.breed_build.c5
def T.breed_build.c0 : Code := .seq (.region T.breed_build.r0 [4] 0 false) T.breed_build.c1
def T.breed_build : Fun := ⟨T.breed_build.c0, [.tmp 4]⟩
/- droveway/breed.joined -/
def T.breed_joined.r0 : List ROp := [⟨some 4, none, .op (.mov (.c .nils))⟩]
def T.breed_joined.r1 : List ROp := [⟨some 5, none, .op (.mov (.c .nils))⟩]
def T.breed_joined.r2 : List ROp := [⟨some 12, none, .op (.mov (.t 1))⟩, ⟨some 6, none, .op (.mov (.t 12))⟩]
def T.breed_joined.r3 : List ROp := [⟨some 13, none, .op (.mov (.t 6))⟩, ⟨some 14, none, .op (.bin .plain .gtr (.t 13) (.c (.int .i64 0)))⟩]
def T.breed_joined.c8 : Code := .cond (.t 14) .skip (.exit 0)
def T.breed_joined.c7 : Code := .seq (.region T.breed_joined.r3 [13] 0 false) T.breed_joined.c8
def T.breed_joined.r4 : List ROp := [⟨some 15, none, .op (.mov (.t 6))⟩, ⟨some 16, none, .op (.mov (.t 6))⟩, ⟨some 17, none, .op (.un .neg (.t 16))⟩, ⟨some 18, none, .op (.bin .plain .and (.t 15) (.t 17))⟩, ⟨some 7, none, .op (.mov (.t 18))⟩]
def T.breed_joined.r5 : List ROp := [⟨some 8, none, .op (.mov (.c (.bool true)))⟩]
def T.breed_joined.r6 : List ROp := [⟨some 19, none, .op (.mov (.t 8))⟩]
def T.breed_joined.c17 : Code := .cond (.t 19) .skip (.exit 2)
def T.breed_joined.c16 : Code := .seq (.region T.breed_joined.r6 [8, 20, 21, 22, 23] 0 false) T.breed_joined.c17
def T.breed_joined.r7 : List ROp := [⟨some 8, none, .op (.mov (.c (.bool false)))⟩]
def T.breed_joined.r8 : List ROp := [⟨some 20, none, .op (.mov (.t 0))⟩, ⟨some 21, none, .op (.len false (.t 20))⟩, ⟨some 22, none, .op (.mov (.c (.int .i64 0)))⟩]
def T.breed_joined.r9 : List ROp := [⟨some 23, none, .op (.bin .plain .lss (.t 22) (.t 21))⟩]
def T.breed_joined.c25 : Code := .cond (.t 23) .skip (.exit 4)
def T.breed_joined.r10 : List ROp := [⟨some 24, none, .op (.indexAddr 3 (.t 20) (.t 22))⟩, ⟨some 25, none, .op (.load true 3 (.t 24))⟩, ⟨some 10, none, .op (.box none (.c (.agg [.int .i64 0, .int .i64 0, .int .i64 0])))⟩, ⟨none, none, .op (.store 3 (.t 10) (.t 25))⟩]
def T.breed_joined.r11 : List ROp := [⟨some 26, none, .op (.fieldAddr 0 (.t 10))⟩, ⟨some 29, none, .op (.fieldAddr 1 (.t 10))⟩, ⟨some 27, none, .op (.load false 1 (.t 26))⟩, ⟨some 28, none, .op (.bin .plain .shl (.c (.int .i64 1)) (.t 27))⟩, ⟨some 30, none, .op (.load false 1 (.t 29))⟩, ⟨some 31, none, .op (.bin .plain .shl (.c (.int .i64 1)) (.t 30))⟩, ⟨some 32, none, .op (.bin .plain .or (.t 28) (.t 31))⟩, ⟨some 11, none, .op (.mov (.t 32))⟩]
def T.breed_joined.r12 : List ROp := [⟨some 33, none, .op (.mov (.t 11))⟩, ⟨some 34, none, .op (.fieldAddr 2 (.t 10))⟩, ⟨some 35, none, .op (.load false 1 (.t 34))⟩, ⟨some 36, none, .op (.bin .plain .shl (.c (.int .i64 1)) (.t 35))⟩, ⟨some 37, none, .op (.bin .plain .or (.t 33) (.t 36))⟩, ⟨some 38, none, .op (.mov (.t 1))⟩, ⟨some 39, none, .op (.bin .plain .andNot (.t 37) (.t 38))⟩, ⟨some 40, none, .op (.bin .plain .eql (.t 39) (.c (.int .i64 0)))⟩, ⟨some 41, none, .op (.mov (.t 40))⟩, ⟨some 42, some (41, true), .op (.mov (.t 11))⟩, ⟨some 43, some (41, true), .op (.mov (.t 7))⟩, ⟨some 44, some (41, true), .op (.bin .plain .and (.t 42) (.t 43))⟩, ⟨some 45, some (41, true), .op (.bin .plain .neq (.t 44) (.c (.int .i64 0)))⟩, ⟨some 46, none, .op (.pick (.t 41) (.t 45) (.c (.bool false)))⟩, ⟨some 47, none, .op (.mov (.t 46))⟩, ⟨some 48, some (47, true), .op (.mov (.t 11))⟩, ⟨some 49, some (47, true), .op (.mov (.t 7))⟩, ⟨some 50, some (47, true), .op (.bin .plain .andNot (.t 48) (.t 49))⟩, ⟨some 51, some (47, true), .op (.bin .plain .neq (.t 50) (.c (.int .i64 0)))⟩, ⟨some 52, none, .op (.pick (.t 47) (.t 51) (.c (.bool false)))⟩]
def T.breed_joined.r13 : List ROp := [⟨some 53, none, .op (.mov (.t 7))⟩, ⟨some 54, none, .op (.mov (.t 11))⟩, ⟨some 55, none, .op (.bin .plain .or (.t 53) (.t 54))⟩, ⟨some 7, none, .op (.mov (.t 55))⟩]
def T.breed_joined.r14 : List ROp := [⟨some 8, none, .op (.mov (.c (.bool true)))⟩]
def T.breed_joined.c32 : Code := .seq (.region T.breed_joined.r13 [8, 11, 52, 53, 54, 55] 0 false) (.region T.breed_joined.r14 [] 0 false)
def T.breed_joined.c31 : Code := .cond (.t 52) T.breed_joined.c32 .skip
def T.breed_joined.c30 : Code := .seq (.region T.breed_joined.r12 [10, 33, 34, 35, 36, 37, 38, 39, 40, 41, 42, 43, 44, 45, 46, 47, 48, 49, 50, 51] 0 false) T.breed_joined.c31
def T.breed_joined.c29 : Code := .seq (.region T.breed_joined.r11 [26, 27, 28, 29, 30, 31, 32] 0 true) T.breed_joined.c30
def T.breed_joined.c28 : Code := .seq (.region T.breed_joined.r10 [23, 24, 25] 0 false) T.breed_joined.c29
def T.breed_joined.c27 : Code := .block 5 T.breed_joined.c28
def T.breed_joined.r15 : List ROp := [⟨some 56, none, .op (.bin .plain .add (.t 22) (.c (.int .i64 1)))⟩, ⟨some 22, none, .op (.mov (.t 56))⟩]
def T.breed_joined.c26 : Code := .seq T.breed_joined.c27 (.region T.breed_joined.r15 [11, 52, 56] 0 false)
def T.breed_joined.c24 : Code := .seq T.breed_joined.c25 T.breed_joined.c26
def T.breed_joined.c23 : Code := .seq (.region T.breed_joined.r9 [] 0 false) T.breed_joined.c24
def T.breed_joined.c22 : Code := .loop T.breed_joined.c23
def T.breed_joined.c21 : Code := .block 4 T.breed_joined.c22
def T.breed_joined.c20 : Code := .seq (.region T.breed_joined.r8 [] 0 false) T.breed_joined.c21
def T.breed_joined.c19 : Code := .seq (.region T.breed_joined.r7 [19] 0 false) T.breed_joined.c20
def T.breed_joined.c18 : Code := .block 3 T.breed_joined.c19
def T.breed_joined.c15 : Code := .seq T.breed_joined.c16 T.breed_joined.c18
def T.breed_joined.c14 : Code := .loop T.breed_joined.c15
def T.breed_joined.c13 : Code := .block 2 T.breed_joined.c14
def T.breed_joined.c12 : Code := .seq (.region T.breed_joined.r5 [] 0 false) T.breed_joined.c13
def T.breed_joined.r16 : List ROp := [⟨some 57, none, .op (.mov (.t 5))⟩, ⟨some 58, none, .op (.mov (.t 7))⟩, ⟨some 59, none, .op (.buildSlice none 1 [.int .i64 0] 1 [(0, 1, .t 58)])⟩, ⟨some 60, none, .op (.append none 1 8 (.t 57) (.t 59))⟩, ⟨some 5, none, .op (.mov (.t 60))⟩]
def T.breed_joined.r17 : List ROp := [⟨some 61, none, .op (.mov (.t 6))⟩, ⟨some 62, none, .op (.mov (.t 7))⟩, ⟨some 63, none, .op (.bin .plain .andNot (.t 61) (.t 62))⟩, ⟨some 6, none, .op (.mov (.t 63))⟩]
def T.breed_joined.c33 : Code := .seq (.region T.breed_joined.r16 [19, 57, 58, 59, 60] 0 false) (.region T.breed_joined.r17 [7, 61, 62, 63] 0 false)
def T.breed_joined.c11 : Code := .seq T.breed_joined.c12 T.breed_joined.c33
def T.breed_joined.c10 : Code := .seq (.region T.breed_joined.r4 [14, 15, 16, 17, 18] 0 false) T.breed_joined.c11
def T.breed_joined.c9 : Code := .block 1 T.breed_joined.c10
def T.breed_joined.c6 : Code := .seq T.breed_joined.c7 T.breed_joined.c9
def T.breed_joined.c5 : Code := .loop T.breed_joined.c6
def T.breed_joined.c4 : Code := .block 0 T.breed_joined.c5
def T.breed_joined.c3 : Code := .seq (.region T.breed_joined.r2 [12] 0 false) T.breed_joined.c4
def T.breed_joined.r18 : List ROp := [⟨some 64, none, .op (.mov (.t 5))⟩, ⟨some 65, none, .call false (.fn 56) [.t 64]⟩]
def T.breed_joined.r19 : List ROp := [⟨some 66, none, .op (.mov (.t 5))⟩, ⟨some 4, none, .op (.mov (.t 66))⟩]
def T.breed_joined.c35 : Code := .seq (.region T.breed_joined.r19 [5, 66] 0 false) .ret
def T.breed_joined.c34 : Code := .seq (.region T.breed_joined.r18 [0, 1, 6, 14, 64, 65] 0 false) T.breed_joined.c35
def T.breed_joined.c2 : Code := .seq T.breed_joined.c3 T.breed_joined.c34
def T.breed_joined.c1 : Code := .seq (.region T.breed_joined.r1 [] 0 false) T.breed_joined.c2
def T.breed_joined.c0 : Code := .seq (.region T.breed_joined.r0 [4] 0 false) T.breed_joined.c1
def T.breed_joined : Fun := ⟨T.breed_joined.c0, [.tmp 4]⟩
/- droveway/breed.herd -/
def T.breed_herd.r0 : List ROp := [⟨some 2, none, .op (.mov (.c (.bool false)))⟩]
def T.breed_herd.r1 : List ROp := [⟨some 3, none, .op (.mov (.t 0))⟩, ⟨some 4, none, .op (.bin .plain .geq (.t 3) (.c (.int .i64 1)))⟩, ⟨some 5, none, .op (.mov (.t 4))⟩, ⟨some 6, some (5, true), .op (.mov (.t 0))⟩, ⟨some 7, some (5, true), .op (.bin .plain .leq (.t 6) (.c (.int .i64 8)))⟩, ⟨some 8, none, .op (.pick (.t 5) (.t 7) (.c (.bool false)))⟩, ⟨some 2, none, .op (.mov (.t 8))⟩]
def T.breed_herd.c1 : Code := .seq (.region T.breed_herd.r1 [0, 3, 4, 5, 6, 7, 8] 0 false) .ret
def T.breed_herd.c0 : Code := .seq (.region T.breed_herd.r0 [2] 0 false) T.breed_herd.c1
def T.breed_herd : Fun := ⟨T.breed_herd.c0, [.tmp 2]⟩
/- droveway/breed.parse -/
def T.breed_parse.r0 : List ROp := [⟨some 4, none, .op (.mov (.c .nili))⟩]
def T.breed_parse.r1 : List ROp := [⟨some 7, none, .op (.mov (.t 1))⟩, ⟨some 8, none, .op (.build [.str [], .bool false] [(0, 1, .t 7), (1, 1, .c (.bool true))])⟩, ⟨some 5, none, .op (.box none (.c (.agg [.str [], .bool false])))⟩, ⟨none, none, .op (.store 2 (.t 5) (.t 8))⟩]
def T.breed_parse.r2 : List ROp := [⟨some 9, none, .call false (.fn 57) [.t 5]⟩, ⟨some 6, none, .op (.mov (.t 9))⟩]
def T.breed_parse.r3 : List ROp := [⟨some 10, none, .op (.fieldAddr 1 (.t 5))⟩, ⟨some 11, none, .op (.load false 1 (.t 10))⟩, ⟨some 12, none, .op (.un .not (.t 11))⟩, ⟨some 13, none, .op (.mov (.t 12))⟩, ⟨some 14, some (13, false), .op (.mov (.t 6))⟩, ⟨some 15, some (13, false), .op (.bin .iface .eql (.t 14) (.c .nili))⟩, ⟨some 16, none, .op (.pick (.t 13) (.c (.bool true)) (.t 15))⟩, ⟨some 17, none, .op (.mov (.t 16))⟩, ⟨some 18, some (17, false), .op (.fieldAddr 0 (.t 5))⟩, ⟨some 19, some (17, false), .op (.load false 1 (.t 18))⟩, ⟨some 20, some (17, false), .op (.bin .plain .neq (.t 19) (.c (.str [])))⟩, ⟨some 21, none, .op (.pick (.t 17) (.c (.bool true)) (.t 20))⟩, ⟨some 22, none, .op (.mov (.t 21))⟩, ⟨some 23, some (22, false), .op (.mov (.t 6))⟩, ⟨some 25, some (22, false), .op (.mov (.t 0))⟩, ⟨some 26, some (22, false), .op (.bin .plain .shl (.c (.int .i64 1)) (.t 25))⟩, ⟨some 27, some (22, false), .op (.bin .plain .sub (.t 26) (.c (.int .i64 1)))⟩, ⟨some 24, some (22, false), .call false (.inv (.t 23) 1) []⟩, ⟨some 28, some (22, false), .op (.bin .plain .neq (.t 24) (.t 27))⟩, ⟨some 29, none, .op (.pick (.t 22) (.c (.bool true)) (.t 28))⟩]
def T.breed_parse.r4 : List ROp := [⟨some 4, none, .op (.mov (.c .nili))⟩]
def T.breed_parse.c6 : Code := .seq (.region T.breed_parse.r4 [6, 29] 0 false) .ret
def T.breed_parse.c5 : Code := .cond (.t 29) T.breed_parse.c6 .skip
def T.breed_parse.c4 : Code := .seq (.region T.breed_parse.r3 [0, 5, 10, 11, 12, 13, 14, 15, 16, 17, 18, 19, 20, 21, 22, 23, 24, 25, 26, 27, 28] 0 true) T.breed_parse.c5
def T.breed_parse.r5 : List ROp := [⟨some 30, none, .op (.mov (.t 6))⟩, ⟨some 4, none, .op (.mov (.t 30))⟩]
def T.breed_parse.c7 : Code := .seq (.region T.breed_parse.r5 [6, 29, 30] 0 false) .ret
def T.breed_parse.c3 : Code := .seq T.breed_parse.c4 T.breed_parse.c7
def T.breed_parse.c2 : Code := .seq (.region T.breed_parse.r2 [9] 0 false) T.breed_parse.c3
def T.breed_parse.c1 : Code := .seq (.region T.breed_parse.r1 [1, 7, 8] 0 false) T.breed_parse.c2
def T.breed_parse.c0 : Code := .seq (.region T.breed_parse.r0 [4] 0 false) T.breed_parse.c1
def T.breed_parse : Fun := ⟨T.breed_parse.c0, [.tmp 4]⟩
/- droveway/breed.all -/
/- droveway/breed.Triples$1 -/
/- droveway/breed.Closure$1 -/
/- droveway/breed.with -/
/- droveway/breed.kept -/
def T.breed_kept.r0 : List ROp := [⟨some 4, none, .op (.mov (.c .nili))⟩]
def T.breed_kept.r1 : List ROp := [⟨some 10, none, .op (.mov (.t 0))⟩]
def T.breed_kept.r2 : List ROp := [⟨some 11, none, .op (.assert 1 (.agg [.int .i64 0, .nils]) (.t 10) true)⟩, ⟨some 12, none, .op (.extract (.t 11) 1)⟩, ⟨some 13, none, .op (.extract (.t 11) 0)⟩]
def T.breed_kept.r3 : List ROp := [⟨some 5, none, .op (.box none (.c (.agg [.int .i64 0, .nils])))⟩, ⟨none, none, .op (.store 2 (.t 5) (.t 13))⟩]
def T.breed_kept.r4 : List ROp := [⟨some 6, none, .op (.mov (.c .nils))⟩]
def T.breed_kept.r5 : List ROp := [⟨some 14, none, .op (.fieldAddr 1 (.t 5))⟩, ⟨some 15, none, .op (.load false 1 (.t 14))⟩, ⟨some 16, none, .op (.len false (.t 15))⟩, ⟨some 17, none, .op (.mov (.c (.int .i64 0)))⟩]
def T.breed_kept.r6 : List ROp := [⟨some 18, none, .op (.bin .plain .lss (.t 17) (.t 16))⟩]
def T.breed_kept.c14 : Code := .cond (.t 18) .skip (.exit 1)
def T.breed_kept.r7 : List ROp := [⟨some 19, none, .op (.indexAddr 1 (.t 15) (.t 17))⟩, ⟨some 20, none, .op (.load false 1 (.t 19))⟩, ⟨some 8, none, .op (.mov (.t 20))⟩]
def T.breed_kept.r8 : List ROp := [⟨some 21, none, .op (.mov (.t 8))⟩, ⟨some 22, none, .op (.mov (.t 1))⟩, ⟨some 23, none, .call false (.fn 49) [.t 21, .t 22]⟩, ⟨some 9, none, .op (.mov (.t 23))⟩]
def T.breed_kept.r9 : List ROp := [⟨some 24, none, .op (.mov (.t 9))⟩, ⟨some 25, none, .op (.bin .iface .neq (.t 24) (.c .nili))⟩]
def T.breed_kept.r10 : List ROp := [⟨some 26, none, .op (.mov (.t 6))⟩, ⟨some 27, none, .op (.mov (.t 9))⟩, ⟨some 28, none, .op (.buildSlice none 1 [.nili] 1 [(0, 1, .t 27)])⟩, ⟨some 29, none, .op (.append none 1 16 (.t 26) (.t 28))⟩, ⟨some 6, none, .op (.mov (.t 29))⟩]
def T.breed_kept.c20 : Code := .cond (.t 25) (.region T.breed_kept.r10 [9, 25, 26, 27, 28, 29] 0 false) .skip
def T.breed_kept.c19 : Code := .seq (.region T.breed_kept.r9 [24] 0 false) T.breed_kept.c20
def T.breed_kept.c18 : Code := .seq (.region T.breed_kept.r8 [8, 21, 22, 23] 0 false) T.breed_kept.c19
def T.breed_kept.c17 : Code := .seq (.region T.breed_kept.r7 [18, 19, 20] 0 false) T.breed_kept.c18
def T.breed_kept.c16 : Code := .block 2 T.breed_kept.c17
def T.breed_kept.r11 : List ROp := [⟨some 30, none, .op (.bin .plain .add (.t 17) (.c (.int .i64 1)))⟩, ⟨some 17, none, .op (.mov (.t 30))⟩]
def T.breed_kept.c15 : Code := .seq T.breed_kept.c16 (.region T.breed_kept.r11 [9, 25, 30] 0 false)
def T.breed_kept.c13 : Code := .seq T.breed_kept.c14 T.breed_kept.c15
def T.breed_kept.c12 : Code := .seq (.region T.breed_kept.r6 [] 0 false) T.breed_kept.c13
def T.breed_kept.c11 : Code := .loop T.breed_kept.c12
def T.breed_kept.c10 : Code := .block 1 T.breed_kept.c11
def T.breed_kept.c9 : Code := .seq (.region T.breed_kept.r5 [5, 14] 0 false) T.breed_kept.c10
def T.breed_kept.r12 : List ROp := [⟨some 31, none, .op (.mov (.t 6))⟩, ⟨some 32, none, .op (.bin .slice .eql (.t 31) (.c .nils))⟩]
def T.breed_kept.r13 : List ROp := [⟨some 4, none, .op (.mov (.c .nili))⟩]
def T.breed_kept.c24 : Code := .seq (.region T.breed_kept.r13 [6, 32] 0 false) .ret
def T.breed_kept.c23 : Code := .cond (.t 32) T.breed_kept.c24 .skip
def T.breed_kept.c22 : Code := .seq (.region T.breed_kept.r12 [1, 15, 16, 17, 18, 31] 0 false) T.breed_kept.c23
def T.breed_kept.r14 : List ROp := [⟨some 33, none, .op (.mov (.t 6))⟩, ⟨some 34, none, .call false (.fn 53) [.t 33]⟩, ⟨some 4, none, .op (.mov (.t 34))⟩]
def T.breed_kept.c25 : Code := .seq (.region T.breed_kept.r14 [6, 32, 33, 34] 0 false) .ret
def T.breed_kept.c21 : Code := .seq T.breed_kept.c22 T.breed_kept.c25
def T.breed_kept.c8 : Code := .seq T.breed_kept.c9 T.breed_kept.c21
def T.breed_kept.c7 : Code := .seq (.region T.breed_kept.r4 [] 0 false) T.breed_kept.c8
def T.breed_kept.c6 : Code := .seq (.region T.breed_kept.r3 [0, 12, 13] 0 false) T.breed_kept.c7
def T.breed_kept.c5 : Code := .cond (.t 12) T.breed_kept.c6 .skip
def T.breed_kept.c4 : Code := .seq (.region T.breed_kept.r2 [10, 11] 0 false) T.breed_kept.c5
def T.breed_kept.c3 : Code := .block 0 T.breed_kept.c4
def T.breed_kept.c2 : Code := .seq (.region T.breed_kept.r1 [] 0 false) T.breed_kept.c3
def T.breed_kept.r15 : List ROp := [⟨some 35, none, .op (.mov (.t 0))⟩, ⟨some 36, none, .call false (.inv (.t 35) 1) []⟩, ⟨some 37, none, .op (.mov (.t 1))⟩, ⟨some 38, none, .op (.bin .plain .and (.t 36) (.t 37))⟩, ⟨some 39, none, .op (.bin .plain .eql (.t 38) (.c (.int .i64 0)))⟩]
def T.breed_kept.r16 : List ROp := [⟨some 4, none, .op (.mov (.c .nili))⟩]
def T.breed_kept.c29 : Code := .seq (.region T.breed_kept.r16 [0, 39] 0 false) .ret
def T.breed_kept.c28 : Code := .cond (.t 39) T.breed_kept.c29 .skip
def T.breed_kept.c27 : Code := .seq (.region T.breed_kept.r15 [1, 12, 13, 35, 36, 37, 38] 0 false) T.breed_kept.c28
def T.breed_kept.r17 : List ROp := [⟨some 40, none, .op (.mov (.t 0))⟩, ⟨some 4, none, .op (.mov (.t 40))⟩]
def T.breed_kept.c30 : Code := .seq (.region T.breed_kept.r17 [0, 39, 40] 0 false) .ret
def T.breed_kept.c26 : Code := .seq T.breed_kept.c27 T.breed_kept.c30
def T.breed_kept.c1 : Code := .seq T.breed_kept.c2 T.breed_kept.c26
def T.breed_kept.c0 : Code := .seq (.region T.breed_kept.r0 [4] 0 false) T.breed_kept.c1
def T.breed_kept : Fun := ⟨T.breed_kept.c0, [.tmp 4]⟩
/- droveway/breed.common -/
def T.breed_common.r0 : List ROp := [⟨some 4, none, .op (.mov (.c (.int .i64 0)))⟩]
def T.breed_common.r1 : List ROp := [⟨some 8, none, .op (.mov (.t 0))⟩]
def T.breed_common.r2 : List ROp := [⟨some 9, none, .op (.assert 1 (.agg [.int .i64 0, .nils]) (.t 8) true)⟩, ⟨some 10, none, .op (.extract (.t 9) 1)⟩, ⟨some 11, none, .op (.extract (.t 9) 0)⟩]
def T.breed_common.r3 : List ROp := [⟨some 5, none, .op (.box none (.c (.agg [.int .i64 0, .nils])))⟩, ⟨none, none, .op (.store 2 (.t 5) (.t 11))⟩]
def T.breed_common.r4 : List ROp := [⟨some 12, none, .op (.fieldAddr 1 (.t 5))⟩, ⟨some 13, none, .op (.load false 1 (.t 12))⟩, ⟨some 14, none, .op (.len false (.t 13))⟩, ⟨some 15, none, .op (.mov (.c (.int .i64 0)))⟩]
def T.breed_common.r5 : List ROp := [⟨some 16, none, .op (.bin .plain .lss (.t 15) (.t 14))⟩]
def T.breed_common.c12 : Code := .cond (.t 16) .skip (.exit 1)
def T.breed_common.r6 : List ROp := [⟨some 17, none, .op (.indexAddr 1 (.t 13) (.t 15))⟩, ⟨some 18, none, .op (.load false 1 (.t 17))⟩, ⟨some 7, none, .op (.mov (.t 18))⟩]
def T.breed_common.r7 : List ROp := [⟨some 19, none, .op (.mov (.t 1))⟩, ⟨some 20, none, .op (.mov (.t 7))⟩, ⟨some 21, none, .call false (.inv (.t 20) 1) []⟩, ⟨some 22, none, .op (.bin .plain .andNot (.t 19) (.t 21))⟩, ⟨some 23, none, .op (.bin .plain .eql (.t 22) (.c (.int .i64 0)))⟩]
def T.breed_common.r8 : List ROp := [⟨some 24, none, .op (.mov (.t 7))⟩, ⟨some 25, none, .op (.mov (.t 1))⟩, ⟨some 26, none, .call false (.fn 50) [.t 24, .t 25]⟩, ⟨some 4, none, .op (.mov (.t 26))⟩]
def T.breed_common.c18 : Code := .seq (.region T.breed_common.r8 [0, 1, 7, 13, 14, 15, 23, 24, 25, 26] 0 false) .ret
def T.breed_common.c17 : Code := .cond (.t 23) T.breed_common.c18 .skip
def T.breed_common.c16 : Code := .seq (.region T.breed_common.r7 [19, 20, 21, 22] 0 false) T.breed_common.c17
def T.breed_common.c15 : Code := .seq (.region T.breed_common.r6 [16, 17, 18] 0 false) T.breed_common.c16
def T.breed_common.c14 : Code := .block 2 T.breed_common.c15
def T.breed_common.r9 : List ROp := [⟨some 27, none, .op (.bin .plain .add (.t 15) (.c (.int .i64 1)))⟩, ⟨some 15, none, .op (.mov (.t 27))⟩]
def T.breed_common.c13 : Code := .seq T.breed_common.c14 (.region T.breed_common.r9 [7, 23, 27] 0 false)
def T.breed_common.c11 : Code := .seq T.breed_common.c12 T.breed_common.c13
def T.breed_common.c10 : Code := .seq (.region T.breed_common.r5 [] 0 false) T.breed_common.c11
def T.breed_common.c9 : Code := .loop T.breed_common.c10
def T.breed_common.c8 : Code := .block 1 T.breed_common.c9
def T.breed_common.c7 : Code := .seq (.region T.breed_common.r4 [5, 12] 0 false) T.breed_common.c8
def T.breed_common.c6 : Code := .seq (.region T.breed_common.r3 [10, 11] 0 false) T.breed_common.c7
def T.breed_common.c5 : Code := .cond (.t 10) T.breed_common.c6 .skip
def T.breed_common.c4 : Code := .seq (.region T.breed_common.r2 [8, 9] 0 false) T.breed_common.c5
def T.breed_common.c3 : Code := .block 0 T.breed_common.c4
def T.breed_common.c2 : Code := .seq (.region T.breed_common.r1 [] 0 false) T.breed_common.c3
def T.breed_common.r10 : List ROp := [⟨some 28, none, .op (.mov (.t 0))⟩, ⟨some 29, none, .call false (.inv (.t 28) 1) []⟩, ⟨some 4, none, .op (.mov (.t 29))⟩]
def T.breed_common.c19 : Code := .seq (.region T.breed_common.r10 [0, 1, 10, 11, 13, 14, 15, 16, 28, 29] 0 false) .ret
def T.breed_common.c1 : Code := .seq T.breed_common.c2 T.breed_common.c19
def T.breed_common.c0 : Code := .seq (.region T.breed_common.r0 [4] 0 false) T.breed_common.c1
def T.breed_common : Fun := ⟨T.breed_common.c0, [.tmp 4]⟩
/- droveway/breed.of -/
def T.breed_of.r0 : List ROp := [⟨some 2, none, .op (.mov (.c .nili))⟩]
def T.breed_of.r1 : List ROp := [⟨some 6, none, .op (.mov (.t 0))⟩, ⟨some 7, none, .op (.len false (.t 6))⟩, ⟨some 8, none, .op (.bin .plain .eql (.t 7) (.c (.int .i64 1)))⟩]
def T.breed_of.r2 : List ROp := [⟨some 9, none, .op (.mov (.t 0))⟩, ⟨some 10, none, .op (.indexAddr 1 (.t 9) (.c (.int .i64 0)))⟩, ⟨some 11, none, .op (.load false 1 (.t 10))⟩, ⟨some 2, none, .op (.mov (.t 11))⟩]
def T.breed_of.c4 : Code := .seq (.region T.breed_of.r2 [0, 8, 9, 10, 11] 0 false) .ret
def T.breed_of.c3 : Code := .cond (.t 8) T.breed_of.c4 .skip
def T.breed_of.c2 : Code := .seq (.region T.breed_of.r1 [6, 7] 0 false) T.breed_of.c3
def T.breed_of.r3 : List ROp := [⟨some 12, none, .op (.mov (.t 0))⟩, ⟨some 13, none, .call false (.fn 60) [.t 12, .c (.fn 61 [])]⟩]
def T.breed_of.r4 : List ROp := [⟨some 14, none, .op (.mov (.t 0))⟩, ⟨some 15, none, .op (.build [.int .i64 0, .nils] [(1, 1, .t 14)])⟩, ⟨some 3, none, .op (.box none (.c (.agg [.int .i64 0, .nils])))⟩, ⟨none, none, .op (.store 2 (.t 3) (.t 15))⟩]
def T.breed_of.r5 : List ROp := [⟨some 16, none, .op (.mov (.t 0))⟩, ⟨some 17, none, .op (.len false (.t 16))⟩, ⟨some 18, none, .op (.mov (.c (.int .i64 0)))⟩]
def T.breed_of.r6 : List ROp := [⟨some 19, none, .op (.bin .plain .lss (.t 18) (.t 17))⟩]
def T.breed_of.c13 : Code := .cond (.t 19) .skip (.exit 0)
def T.breed_of.r7 : List ROp := [⟨some 20, none, .op (.indexAddr 1 (.t 16) (.t 18))⟩, ⟨some 21, none, .op (.load false 1 (.t 20))⟩, ⟨some 5, none, .op (.mov (.t 21))⟩]
def T.breed_of.r8 : List ROp := [⟨some 22, none, .op (.fieldAddr 0 (.t 3))⟩, ⟨some 24, none, .op (.mov (.t 5))⟩, ⟨some 23, none, .op (.load false 1 (.t 22))⟩, ⟨some 25, none, .call true (.inv (.t 24) 1) []⟩, ⟨some 26, none, .op (.bin .plain .or (.t 23) (.t 25))⟩, ⟨some 27, none, .op (.fieldAddr 0 (.t 3))⟩, ⟨none, none, .op (.store 1 (.t 27) (.t 26))⟩]
def T.breed_of.c16 : Code := .seq (.region T.breed_of.r7 [19, 20, 21] 0 false) (.region T.breed_of.r8 [5, 22, 23, 24, 25, 26, 27] 0 true)
def T.breed_of.c15 : Code := .block 1 T.breed_of.c16
def T.breed_of.r9 : List ROp := [⟨some 28, none, .op (.bin .plain .add (.t 18) (.c (.int .i64 1)))⟩, ⟨some 18, none, .op (.mov (.t 28))⟩]
def T.breed_of.c14 : Code := .seq T.breed_of.c15 (.region T.breed_of.r9 [28] 0 false)
def T.breed_of.c12 : Code := .seq T.breed_of.c13 T.breed_of.c14
def T.breed_of.c11 : Code := .seq (.region T.breed_of.r6 [] 0 false) T.breed_of.c12
def T.breed_of.c10 : Code := .loop T.breed_of.c11
def T.breed_of.c9 : Code := .block 0 T.breed_of.c10
def T.breed_of.c8 : Code := .seq (.region T.breed_of.r5 [0] 0 false) T.breed_of.c9
def T.breed_of.r10 : List ROp := [⟨some 29, none, .op (.load true 2 (.t 3))⟩, ⟨some 30, none, .op (.mkIface 1 (.t 29))⟩, ⟨some 2, none, .op (.mov (.t 30))⟩]
def T.breed_of.c17 : Code := .seq (.region T.breed_of.r10 [3, 16, 17, 18, 19, 29, 30] 0 false) .ret
def T.breed_of.c7 : Code := .seq T.breed_of.c8 T.breed_of.c17
def T.breed_of.c6 : Code := .seq (.region T.breed_of.r4 [14, 15] 0 false) T.breed_of.c7
def T.breed_of.c5 : Code := .seq (.region T.breed_of.r3 [8, 12, 13] 0 false) T.breed_of.c6
def T.breed_of.c1 : Code := .seq T.breed_of.c2 T.breed_of.c5
def T.breed_of.c0 : Code := .seq (.region T.breed_of.r0 [2] 0 false) T.breed_of.c1
def T.breed_of : Fun := ⟨T.breed_of.c0, [.tmp 2]⟩
/- (*droveway/breed.reader).tree -/
def T.breed_reader_tree.r0 : List ROp := [⟨some 2, none, .op (.mov (.c .nili))⟩]
def T.breed_reader_tree.r1 : List ROp := [⟨some 7, none, .op (.mov (.t 0))⟩, ⟨some 8, none, .call false (.fn 65) [.t 7]⟩, ⟨some 3, none, .op (.mov (.t 8))⟩]
def T.breed_reader_tree.r2 : List ROp := [⟨some 9, none, .op (.mov (.t 3))⟩, ⟨some 10, none, .op (.bin .plain .geq (.t 9) (.c (.int .u8 48)))⟩, ⟨some 11, none, .op (.mov (.t 10))⟩, ⟨some 12, some (11, true), .op (.mov (.t 3))⟩, ⟨some 13, some (11, true), .op (.bin .plain .leq (.t 12) (.c (.int .u8 55)))⟩, ⟨some 14, none, .op (.pick (.t 11) (.t 13) (.c (.bool false)))⟩]
def T.breed_reader_tree.r3 : List ROp := [⟨some 15, none, .op (.mov (.t 3))⟩, ⟨some 16, none, .op (.bin .plain .sub (.t 15) (.c (.int .u8 48)))⟩, ⟨some 17, none, .op (.bin .plain .shl (.c (.int .i64 1)) (.t 16))⟩, ⟨some 18, none, .op (.build [.int .i64 0] [(0, 1, .t 17)])⟩, ⟨some 19, none, .op (.mkIface 0 (.t 18))⟩, ⟨some 2, none, .op (.mov (.t 19))⟩]
def T.breed_reader_tree.c5 : Code := .seq (.region T.breed_reader_tree.r3 [0, 3, 14, 15, 16, 17, 18, 19] 0 false) .ret
def T.breed_reader_tree.c4 : Code := .cond (.t 14) T.breed_reader_tree.c5 .skip
def T.breed_reader_tree.c3 : Code := .seq (.region T.breed_reader_tree.r2 [9, 10, 11, 12, 13] 0 false) T.breed_reader_tree.c4
def T.breed_reader_tree.r4 : List ROp := [⟨some 4, none, .op (.mov (.c .nils))⟩]
def T.breed_reader_tree.r5 : List ROp := [⟨some 5, none, .op (.mov (.c (.int .i64 0)))⟩]
def T.breed_reader_tree.r6 : List ROp := [⟨some 20, none, .op (.mov (.t 0))⟩, ⟨some 21, none, .op (.mov (.t 0))⟩, ⟨some 22, none, .op (.nilchk (.t 21))⟩, ⟨some 23, none, .op (.fieldAddr 1 (.t 22))⟩, ⟨some 24, none, .op (.load false 1 (.t 23))⟩, ⟨some 25, none, .op (.mov (.t 24))⟩, ⟨some 26, some (25, true), .op (.mov (.t 3))⟩, ⟨some 27, some (25, true), .op (.bin .plain .eql (.t 26) (.c (.int .u8 40)))⟩, ⟨some 28, none, .op (.pick (.t 25) (.t 27) (.c (.bool false)))⟩, ⟨some 29, none, .op (.nilchk (.t 20))⟩, ⟨some 30, none, .op (.fieldAddr 1 (.t 29))⟩, ⟨none, none, .op (.store 1 (.t 30) (.t 28))⟩]
def T.breed_reader_tree.r7 : List ROp := [⟨some 31, none, .op (.mov (.t 0))⟩, ⟨some 32, none, .op (.nilchk (.t 31))⟩, ⟨some 33, none, .op (.fieldAddr 1 (.t 32))⟩, ⟨some 34, none, .op (.load false 1 (.t 33))⟩]
def T.breed_reader_tree.c14 : Code := .cond (.t 34) .skip (.exit 0)
def T.breed_reader_tree.c13 : Code := .seq (.region T.breed_reader_tree.r7 [31, 32, 33, 99] 0 false) T.breed_reader_tree.c14
def T.breed_reader_tree.r8 : List ROp := [⟨some 35, none, .op (.mov (.t 0))⟩, ⟨some 36, none, .call false (.fn 57) [.t 35]⟩, ⟨some 6, none, .op (.mov (.t 36))⟩]
def T.breed_reader_tree.r9 : List ROp := [⟨some 37, none, .op (.mov (.t 6))⟩, ⟨some 38, none, .op (.bin .iface .eql (.t 37) (.c .nili))⟩]
def T.breed_reader_tree.c19 : Code := .cond (.t 38) (.exit 0) .skip
def T.breed_reader_tree.c18 : Code := .seq (.region T.breed_reader_tree.r9 [37] 0 false) T.breed_reader_tree.c19
def T.breed_reader_tree.r10 : List ROp := [⟨some 39, none, .op (.mov (.t 0))⟩, ⟨some 40, none, .op (.mov (.t 0))⟩, ⟨some 41, none, .op (.nilchk (.t 40))⟩, ⟨some 42, none, .op (.fieldAddr 1 (.t 41))⟩, ⟨some 43, none, .op (.load false 1 (.t 42))⟩, ⟨some 44, none, .op (.mov (.t 43))⟩, ⟨some 45, some (44, true), .op (.mov (.t 6))⟩, ⟨some 46, some (44, true), .call false (.inv (.t 45) 1) []⟩, ⟨some 47, some (44, true), .op (.mov (.t 5))⟩, ⟨some 48, some (44, true), .op (.bin .plain .and (.t 46) (.t 47))⟩, ⟨some 49, some (44, true), .op (.bin .plain .eql (.t 48) (.c (.int .i64 0)))⟩, ⟨some 50, none, .op (.pick (.t 44) (.t 49) (.c (.bool false)))⟩, ⟨some 51, none, .op (.mov (.t 50))⟩, ⟨some 52, some (51, true), .op (.mov (.t 4))⟩, ⟨some 53, some (51, true), .op (.len false (.t 52))⟩, ⟨some 54, some (51, true), .op (.bin .plain .eql (.t 53) (.c (.int .i64 0)))⟩, ⟨some 55, some (51, true), .op (.mov (.t 54))⟩, ⟨some 56, some (55, false), .op (.mov (.t 4))⟩, ⟨some 57, some (55, false), .op (.mov (.t 4))⟩, ⟨some 58, some (55, false), .op (.len false (.t 57))⟩, ⟨some 59, some (55, false), .op (.bin .plain .sub (.t 58) (.c (.int .i64 1)))⟩, ⟨some 60, some (55, false), .op (.indexAddr 1 (.t 56) (.t 59))⟩, ⟨some 61, some (55, false), .op (.load false 1 (.t 60))⟩, ⟨some 62, some (55, false), .call false (.fn 62) [.t 61]⟩, ⟨some 63, some (55, false), .op (.mov (.t 6))⟩, ⟨some 64, some (55, false), .call false (.fn 62) [.t 63]⟩, ⟨some 65, some (55, false), .op (.bin .plain .lss (.t 62) (.t 64))⟩, ⟨some 66, some (51, true), .op (.pick (.t 55) (.c (.bool true)) (.t 65))⟩, ⟨some 67, none, .op (.pick (.t 51) (.t 66) (.c (.bool false)))⟩, ⟨some 68, none, .op (.nilchk (.t 39))⟩, ⟨some 69, none, .op (.fieldAddr 1 (.t 68))⟩, ⟨none, none, .op (.store 1 (.t 69) (.t 67))⟩]
def T.breed_reader_tree.r11 : List ROp := [⟨some 70, none, .op (.mov (.t 5))⟩, ⟨some 71, none, .op (.mov (.t 6))⟩, ⟨some 72, none, .call false (.inv (.t 71) 1) []⟩, ⟨some 73, none, .op (.bin .plain .or (.t 70) (.t 72))⟩, ⟨some 5, none, .op (.mov (.t 73))⟩]
def T.breed_reader_tree.r12 : List ROp := [⟨some 74, none, .op (.mov (.t 4))⟩, ⟨some 75, none, .op (.mov (.t 6))⟩, ⟨some 76, none, .op (.buildSlice none 1 [.nili] 1 [(0, 1, .t 75)])⟩, ⟨some 77, none, .op (.append none 1 16 (.t 74) (.t 76))⟩, ⟨some 4, none, .op (.mov (.t 77))⟩]
def T.breed_reader_tree.r13 : List ROp := [⟨some 78, none, .op (.mov (.t 0))⟩, ⟨some 79, none, .call false (.fn 65) [.t 78]⟩]
def T.breed_reader_tree.r14 : List ROp := [⟨some 84, none, .op (.bin .plain .eql (.t 79) (.c (.int .u8 41)))⟩, ⟨some 83, none, .op (.mov (.t 84))⟩]
def T.breed_reader_tree.r15 : List ROp := [⟨some 85, none, .op (.mov (.t 0))⟩, ⟨some 86, none, .op (.mov (.t 0))⟩, ⟨some 87, none, .op (.nilchk (.t 86))⟩, ⟨some 88, none, .op (.fieldAddr 1 (.t 87))⟩, ⟨some 89, none, .op (.load false 1 (.t 88))⟩, ⟨some 90, none, .op (.mov (.t 89))⟩, ⟨some 91, some (90, true), .op (.mov (.t 4))⟩, ⟨some 92, some (90, true), .op (.len false (.t 91))⟩, ⟨some 93, some (90, true), .op (.bin .plain .gtr (.t 92) (.c (.int .i64 1)))⟩, ⟨some 94, none, .op (.pick (.t 90) (.t 93) (.c (.bool false)))⟩, ⟨some 95, none, .op (.nilchk (.t 85))⟩, ⟨some 96, none, .op (.fieldAddr 1 (.t 95))⟩, ⟨none, none, .op (.store 1 (.t 96) (.t 94))⟩]
def T.breed_reader_tree.r16 : List ROp := [⟨some 97, none, .op (.mov (.t 4))⟩, ⟨some 98, none, .call false (.fn 53) [.t 97]⟩, ⟨some 2, none, .op (.mov (.t 98))⟩]
def T.breed_reader_tree.c28 : Code := .seq (.region T.breed_reader_tree.r16 [4, 97, 98] 0 false) .ret
def T.breed_reader_tree.c27 : Code := .seq (.region T.breed_reader_tree.r15 [0, 5, 79, 83, 85, 86, 87, 88, 89, 90, 91, 92, 93, 94, 95, 96] 0 false) T.breed_reader_tree.c28
def T.breed_reader_tree.r17 : List ROp := [⟨some 100, none, .op (.bin .plain .eql (.t 79) (.c (.int .u8 44)))⟩, ⟨some 99, none, .op (.mov (.t 100))⟩]
def T.breed_reader_tree.r18 : List ROp := [⟨some 80, none, .op (.mov (.t 0))⟩, ⟨some 81, none, .op (.nilchk (.t 80))⟩, ⟨some 82, none, .op (.fieldAddr 1 (.t 81))⟩, ⟨none, none, .op (.store 1 (.t 82) (.c (.bool false)))⟩]
def T.breed_reader_tree.c30 : Code := .cond (.t 99) .skip (.region T.breed_reader_tree.r18 [80, 81, 82, 99] 0 false)
def T.breed_reader_tree.c29 : Code := .seq (.region T.breed_reader_tree.r17 [79, 83, 100] 0 false) T.breed_reader_tree.c30
def T.breed_reader_tree.c26 : Code := .cond (.t 83) T.breed_reader_tree.c27 T.breed_reader_tree.c29
def T.breed_reader_tree.c25 : Code := .seq (.region T.breed_reader_tree.r14 [84] 0 false) T.breed_reader_tree.c26
def T.breed_reader_tree.c24 : Code := .block 2 T.breed_reader_tree.c25
def T.breed_reader_tree.c23 : Code := .seq (.region T.breed_reader_tree.r13 [78] 0 false) T.breed_reader_tree.c24
def T.breed_reader_tree.c22 : Code := .seq (.region T.breed_reader_tree.r12 [6, 74, 75, 76, 77] 0 false) T.breed_reader_tree.c23
def T.breed_reader_tree.c21 : Code := .seq (.region T.breed_reader_tree.r11 [70, 71, 72, 73] 0 false) T.breed_reader_tree.c22
def T.breed_reader_tree.c20 : Code := .seq (.region T.breed_reader_tree.r10 [38, 39, 40, 41, 42, 43, 44, 45, 46, 47, 48, 49, 50, 51, 52, 53, 54, 55, 56, 57, 58, 59, 60, 61, 62, 63, 64, 65, 66, 67, 68, 69] 0 false) T.breed_reader_tree.c21
def T.breed_reader_tree.c17 : Code := .seq T.breed_reader_tree.c18 T.breed_reader_tree.c20
def T.breed_reader_tree.c16 : Code := .seq (.region T.breed_reader_tree.r8 [34, 35, 36] 0 false) T.breed_reader_tree.c17
def T.breed_reader_tree.c15 : Code := .block 1 T.breed_reader_tree.c16
def T.breed_reader_tree.c12 : Code := .seq T.breed_reader_tree.c13 T.breed_reader_tree.c15
def T.breed_reader_tree.c11 : Code := .loop T.breed_reader_tree.c12
def T.breed_reader_tree.c10 : Code := .block 0 T.breed_reader_tree.c11
def T.breed_reader_tree.c9 : Code := .seq (.region T.breed_reader_tree.r6 [3, 20, 21, 22, 23, 24, 25, 26, 27, 28, 29, 30] 0 false) T.breed_reader_tree.c10
def T.breed_reader_tree.r19 : List ROp := [⟨some 2, none, .op (.mov (.c .nili))⟩]
def T.breed_reader_tree.c31 : Code := .seq (.region T.breed_reader_tree.r19 [0, 4, 5, 6, 34, 38] 0 false) .ret
def T.breed_reader_tree.c8 : Code := .seq T.breed_reader_tree.c9 T.breed_reader_tree.c31
def T.breed_reader_tree.c7 : Code := .seq (.region T.breed_reader_tree.r5 [] 0 false) T.breed_reader_tree.c8
def T.breed_reader_tree.c6 : Code := .seq (.region T.breed_reader_tree.r4 [14] 0 false) T.breed_reader_tree.c7
def T.breed_reader_tree.c2 : Code := .seq T.breed_reader_tree.c3 T.breed_reader_tree.c6
def T.breed_reader_tree.c1 : Code := .seq (.region T.breed_reader_tree.r1 [7, 8] 0 false) T.breed_reader_tree.c2
def T.breed_reader_tree.c0 : Code := .seq (.region T.breed_reader_tree.r0 [2] 0 false) T.breed_reader_tree.c1
def T.breed_reader_tree : Fun := ⟨T.breed_reader_tree.c0, [.tmp 2]⟩
/- droveway/breed.of$1 -/
def T.breed_of_1.r0 : List ROp := [⟨some 4, none, .op (.mov (.c (.int .i64 0)))⟩]
def T.breed_of_1.r1 : List ROp := [⟨some 5, none, .op (.mov (.t 0))⟩, ⟨some 6, none, .call false (.fn 62) [.t 5]⟩, ⟨some 7, none, .op (.mov (.t 1))⟩, ⟨some 8, none, .call false (.fn 62) [.t 7]⟩, ⟨some 9, none, .op (.bin .plain .sub (.t 6) (.t 8))⟩, ⟨some 4, none, .op (.mov (.t 9))⟩]
def T.breed_of_1.c1 : Code := .seq (.region T.breed_of_1.r1 [0, 1, 5, 6, 7, 8, 9] 0 false) .ret
def T.breed_of_1.c0 : Code := .seq (.region T.breed_of_1.r0 [4] 0 false) T.breed_of_1.c1
def T.breed_of_1 : Fun := ⟨T.breed_of_1.c0, [.tmp 4]⟩
/- droveway/breed.first -/
def T.breed_first.r0 : List ROp := [⟨some 2, none, .op (.mov (.c (.int .i64 0)))⟩]
def T.breed_first.r1 : List ROp := [⟨some 3, none, .op (.mov (.t 0))⟩, ⟨some 4, none, .call false (.inv (.t 3) 1) []⟩, ⟨some 5, none, .op (.conv .u64 (.t 4))⟩, ⟨some 6, none, .call false (.fn 68) [.t 5]⟩, ⟨some 2, none, .op (.mov (.t 6))⟩]
def T.breed_first.c1 : Code := .seq (.region T.breed_first.r1 [0, 3, 4, 5, 6] 0 false) .ret
def T.breed_first.c0 : Code := .seq (.region T.breed_first.r0 [2] 0 false) T.breed_first.c1
def T.breed_first : Fun := ⟨T.breed_first.c0, [.tmp 2]⟩
/- (*droveway/breed.reader).take -/
def T.breed_reader_take.r0 : List ROp := [⟨some 2, none, .op (.mov (.c (.int .u8 0)))⟩]
def T.breed_reader_take.r1 : List ROp := [⟨some 4, none, .op (.mov (.t 0))⟩, ⟨some 5, none, .op (.nilchk (.t 4))⟩, ⟨some 6, none, .op (.fieldAddr 0 (.t 5))⟩, ⟨some 7, none, .op (.load false 1 (.t 6))⟩, ⟨some 8, none, .op (.bin .plain .eql (.t 7) (.c (.str [])))⟩]
def T.breed_reader_take.r2 : List ROp := [⟨some 9, none, .op (.mov (.t 0))⟩, ⟨some 10, none, .op (.nilchk (.t 9))⟩, ⟨some 11, none, .op (.fieldAddr 1 (.t 10))⟩, ⟨none, none, .op (.store 1 (.t 11) (.c (.bool false)))⟩]
def T.breed_reader_take.r3 : List ROp := [⟨some 2, none, .op (.mov (.c (.int .u8 0)))⟩]
def T.breed_reader_take.c5 : Code := .seq (.region T.breed_reader_take.r3 [] 0 false) .ret
def T.breed_reader_take.c4 : Code := .seq (.region T.breed_reader_take.r2 [0, 8, 9, 10, 11] 0 false) T.breed_reader_take.c5
def T.breed_reader_take.c3 : Code := .cond (.t 8) T.breed_reader_take.c4 .skip
def T.breed_reader_take.c2 : Code := .seq (.region T.breed_reader_take.r1 [4, 5, 6, 7] 0 false) T.breed_reader_take.c3
def T.breed_reader_take.r4 : List ROp := [⟨some 12, none, .op (.mov (.t 0))⟩, ⟨some 13, none, .op (.nilchk (.t 12))⟩, ⟨some 14, none, .op (.fieldAddr 0 (.t 13))⟩, ⟨some 15, none, .op (.load false 1 (.t 14))⟩, ⟨some 16, none, .op (.strIndex (.t 15) (.c (.int .i64 0)))⟩, ⟨some 3, none, .op (.mov (.t 16))⟩]
def T.breed_reader_take.r5 : List ROp := [⟨some 17, none, .op (.mov (.t 0))⟩, ⟨some 18, none, .op (.mov (.t 0))⟩, ⟨some 19, none, .op (.nilchk (.t 18))⟩, ⟨some 20, none, .op (.fieldAddr 0 (.t 19))⟩, ⟨some 21, none, .op (.load false 1 (.t 20))⟩, ⟨some 22, none, .op (.strSlc (.t 21) (some (.c (.int .i64 1))) none)⟩, ⟨some 23, none, .op (.nilchk (.t 17))⟩, ⟨some 24, none, .op (.fieldAddr 0 (.t 23))⟩, ⟨none, none, .op (.store 1 (.t 24) (.t 22))⟩]
def T.breed_reader_take.r6 : List ROp := [⟨some 25, none, .op (.mov (.t 3))⟩, ⟨some 2, none, .op (.mov (.t 25))⟩]
def T.breed_reader_take.c8 : Code := .seq (.region T.breed_reader_take.r6 [3, 25] 0 false) .ret
def T.breed_reader_take.c7 : Code := .seq (.region T.breed_reader_take.r5 [0, 17, 18, 19, 20, 21, 22, 23, 24] 0 false) T.breed_reader_take.c8
def T.breed_reader_take.c6 : Code := .seq (.region T.breed_reader_take.r4 [8, 12, 13, 14, 15, 16] 0 false) T.breed_reader_take.c7
def T.breed_reader_take.c1 : Code := .seq T.breed_reader_take.c2 T.breed_reader_take.c6
def T.breed_reader_take.c0 : Code := .seq (.region T.breed_reader_take.r0 [2] 0 false) T.breed_reader_take.c1
def T.breed_reader_take : Fun := ⟨T.breed_reader_take.c0, [.tmp 2]⟩
/- (droveway/breed.set).beasts -/
def T.breed_set_beasts.r0 : List ROp := [⟨some 2, none, .op (.mov (.c (.int .i64 0)))⟩]
def T.breed_set_beasts.r1 : List ROp := [⟨some 3, none, .op (.mov (.t 0))⟩, ⟨some 2, none, .op (.mov (.t 3))⟩]
def T.breed_set_beasts.c1 : Code := .seq (.region T.breed_set_beasts.r1 [0, 3] 0 false) .ret
def T.breed_set_beasts.c0 : Code := .seq (.region T.breed_set_beasts.r0 [2] 0 false) T.breed_set_beasts.c1
def T.breed_set_beasts : Fun := ⟨T.breed_set_beasts.c0, [.tmp 2]⟩
/- (droveway/breed.beast).text -/
def T.breed_beast_text.r0 : List ROp := [⟨some 1, none, .op (.box none (.t 0))⟩, ⟨some 2, none, .op (.mov (.c (.str [])))⟩]
def T.breed_beast_text.r1 : List ROp := [⟨some 3, none, .op (.fieldAddr 0 (.t 1))⟩, ⟨some 4, none, .op (.load false 1 (.t 3))⟩, ⟨some 5, none, .op (.conv .u64 (.t 4))⟩, ⟨some 6, none, .call false (.fn 68) [.t 5]⟩, ⟨some 7, none, .call false (.fn 78) [.t 6]⟩, ⟨some 2, none, .op (.mov (.t 7))⟩]
def T.breed_beast_text.c1 : Code := .seq (.region T.breed_beast_text.r1 [1, 3, 4, 5, 6, 7] 0 false) .ret
def T.breed_beast_text.c0 : Code := .seq (.region T.breed_beast_text.r0 [0, 2] 0 false) T.breed_beast_text.c1
def T.breed_beast_text : Fun := ⟨T.breed_beast_text.c0, [.tmp 2]⟩
/- (droveway/breed.family).text -/
def T.breed_family_text.r0 : List ROp := [⟨some 1, none, .op (.box none (.t 0))⟩, ⟨some 2, none, .op (.mov (.c (.str [])))⟩]
def T.breed_family_text.r1 : List ROp := [⟨some 3, none, .op (.mov (.c .nils))⟩]
def T.breed_family_text.r2 : List ROp := [⟨some 6, none, .op (.fieldAddr 1 (.t 1))⟩, ⟨some 7, none, .op (.load false 1 (.t 6))⟩, ⟨some 8, none, .op (.len false (.t 7))⟩, ⟨some 9, none, .op (.mov (.c (.int .i64 0)))⟩]
def T.breed_family_text.r3 : List ROp := [⟨some 10, none, .op (.bin .plain .lss (.t 9) (.t 8))⟩]
def T.breed_family_text.c8 : Code := .cond (.t 10) .skip (.exit 0)
def T.breed_family_text.r4 : List ROp := [⟨some 11, none, .op (.indexAddr 1 (.t 7) (.t 9))⟩, ⟨some 12, none, .op (.load false 1 (.t 11))⟩, ⟨some 5, none, .op (.mov (.t 12))⟩]
def T.breed_family_text.r5 : List ROp := [⟨some 13, none, .op (.mov (.t 3))⟩, ⟨some 14, none, .op (.mov (.t 5))⟩, ⟨some 15, none, .call false (.inv (.t 14) 0) []⟩, ⟨some 16, none, .op (.buildSlice none 1 [.str []] 1 [(0, 1, .t 15)])⟩, ⟨some 17, none, .op (.append none 1 16 (.t 13) (.t 16))⟩, ⟨some 3, none, .op (.mov (.t 17))⟩]
def T.breed_family_text.c11 : Code := .seq (.region T.breed_family_text.r4 [10, 11, 12] 0 false) (.region T.breed_family_text.r5 [5, 13, 14, 15, 16, 17] 0 false)
def T.breed_family_text.c10 : Code := .block 1 T.breed_family_text.c11
def T.breed_family_text.r6 : List ROp := [⟨some 18, none, .op (.bin .plain .add (.t 9) (.c (.int .i64 1)))⟩, ⟨some 9, none, .op (.mov (.t 18))⟩]
def T.breed_family_text.c9 : Code := .seq T.breed_family_text.c10 (.region T.breed_family_text.r6 [18] 0 false)
def T.breed_family_text.c7 : Code := .seq T.breed_family_text.c8 T.breed_family_text.c9
def T.breed_family_text.c6 : Code := .seq (.region T.breed_family_text.r3 [] 0 false) T.breed_family_text.c7
def T.breed_family_text.c5 : Code := .loop T.breed_family_text.c6
def T.breed_family_text.c4 : Code := .block 0 T.breed_family_text.c5
def T.breed_family_text.c3 : Code := .seq (.region T.breed_family_text.r2 [1, 6] 0 false) T.breed_family_text.c4
def T.breed_family_text.r7 : List ROp := [⟨some 19, none, .op (.mov (.t 3))⟩, ⟨some 20, none, .call false (.fn 83) [.t 19, .c (.str [44])]⟩, ⟨some 21, none, .op (.bin .plain .add (.c (.str [40])) (.t 20))⟩, ⟨some 22, none, .op (.bin .plain .add (.t 21) (.c (.str [41])))⟩, ⟨some 2, none, .op (.mov (.t 22))⟩]
def T.breed_family_text.c12 : Code := .seq (.region T.breed_family_text.r7 [3, 7, 8, 9, 10, 19, 20, 21, 22] 0 false) .ret
def T.breed_family_text.c2 : Code := .seq T.breed_family_text.c3 T.breed_family_text.c12
def T.breed_family_text.c1 : Code := .seq (.region T.breed_family_text.r1 [] 0 false) T.breed_family_text.c2
def T.breed_family_text.c0 : Code := .seq (.region T.breed_family_text.r0 [0, 2] 0 false) T.breed_family_text.c1
def T.breed_family_text : Fun := ⟨T.breed_family_text.c0, [.tmp 2]⟩
end Gc
end
section
/- The texts in Gc of functions of the program (made by a program of ours, wip/tools/gcgen.py). -/
namespace Gc
/- droveway/drovewayref05.Shows -/
/- droveway/drovewayref05.List -/
def T.ref05_List.r0 : List ROp := [⟨some 4, none, .op (.mov (.c (.int .i64 0)))⟩]
def T.ref05_List.r1 : List ROp := [⟨some 6, none, .op (.mov (.t 1))⟩, ⟨some 7, none, .op (.len false (.t 6))⟩, ⟨some 8, none, .op (.bin .plain .gtr (.t 7) (.c (.int .i64 60)))⟩]
def T.ref05_List.r2 : List ROp := [⟨some 4, none, .op (.mov (.c (.int .i64 3)))⟩]
def T.ref05_List.c4 : Code := .seq (.region T.ref05_List.r2 [0, 1, 8] 0 false) .ret
def T.ref05_List.c3 : Code := .cond (.t 8) T.ref05_List.c4 .skip
def T.ref05_List.c2 : Code := .seq (.region T.ref05_List.r1 [6, 7] 0 false) T.ref05_List.c3
def T.ref05_List.r3 : List ROp := [⟨some 5, none, .op (.mov (.c (.int .i64 0)))⟩]
def T.ref05_List.r4 : List ROp := [⟨some 9, none, .op (.mov (.t 5))⟩, ⟨some 10, none, .op (.mov (.t 1))⟩, ⟨some 11, none, .op (.len false (.t 10))⟩, ⟨some 12, none, .op (.bin .plain .lss (.t 9) (.t 11))⟩]
def T.ref05_List.c11 : Code := .cond (.t 12) .skip (.exit 0)
def T.ref05_List.c10 : Code := .seq (.region T.ref05_List.r4 [9, 10, 11] 0 false) T.ref05_List.c11
def T.ref05_List.r5 : List ROp := [⟨some 15, none, .op (.mov (.t 0))⟩, ⟨some 16, none, .op (.mov (.t 1))⟩, ⟨some 17, none, .op (.mov (.t 5))⟩, ⟨some 18, none, .op (.indexAddr 3 (.t 16) (.t 17))⟩, ⟨some 19, none, .op (.load true 3 (.t 18))⟩, ⟨some 20, none, .call false (.fn 13) [.t 15, .t 19]⟩, ⟨some 21, none, .op (.un .not (.t 20))⟩]
def T.ref05_List.r6 : List ROp := [⟨some 4, none, .op (.mov (.c (.int .i64 2)))⟩]
def T.ref05_List.c16 : Code := .seq (.region T.ref05_List.r6 [0, 1, 5, 21] 0 false) .ret
def T.ref05_List.c15 : Code := .cond (.t 21) T.ref05_List.c16 .skip
def T.ref05_List.c14 : Code := .seq (.region T.ref05_List.r5 [12, 15, 16, 17, 18, 19, 20] 0 false) T.ref05_List.c15
def T.ref05_List.c13 : Code := .block 1 T.ref05_List.c14
def T.ref05_List.r7 : List ROp := [⟨some 13, none, .op (.mov (.t 5))⟩, ⟨some 14, none, .op (.bin .plain .add (.t 13) (.c (.int .i64 1)))⟩, ⟨some 5, none, .op (.mov (.t 14))⟩]
def T.ref05_List.c12 : Code := .seq T.ref05_List.c13 (.region T.ref05_List.r7 [13, 14, 21] 0 false)
def T.ref05_List.c9 : Code := .seq T.ref05_List.c10 T.ref05_List.c12
def T.ref05_List.c8 : Code := .loop T.ref05_List.c9
def T.ref05_List.c7 : Code := .block 0 T.ref05_List.c8
def T.ref05_List.c6 : Code := .seq (.region T.ref05_List.r3 [8] 0 false) T.ref05_List.c7
def T.ref05_List.r8 : List ROp := [⟨some 4, none, .op (.mov (.c (.int .i64 0)))⟩]
def T.ref05_List.c17 : Code := .seq (.region T.ref05_List.r8 [0, 1, 5, 12] 0 false) .ret
def T.ref05_List.c5 : Code := .seq T.ref05_List.c6 T.ref05_List.c17
def T.ref05_List.c1 : Code := .seq T.ref05_List.c2 T.ref05_List.c5
def T.ref05_List.c0 : Code := .seq (.region T.ref05_List.r0 [4] 0 false) T.ref05_List.c1
def T.ref05_List : Fun := ⟨T.ref05_List.c0, [.tmp 4]⟩
/- droveway/drovewayref05.IsTriple -/
def T.ref05_IsTriple.r0 : List ROp := [⟨some 3, none, .op (.box none (.t 1))⟩, ⟨some 4, none, .op (.mov (.c (.bool false)))⟩]
def T.ref05_IsTriple.r1 : List ROp := [⟨some 5, none, .op (.fieldAddr 0 (.t 3))⟩, ⟨some 6, none, .op (.load false 1 (.t 5))⟩, ⟨some 7, none, .op (.bin .plain .geq (.t 6) (.c (.int .i64 0)))⟩, ⟨some 8, none, .op (.mov (.t 7))⟩, ⟨some 9, some (8, true), .op (.fieldAddr 0 (.t 3))⟩, ⟨some 10, some (8, true), .op (.load false 1 (.t 9))⟩, ⟨some 11, some (8, true), .op (.fieldAddr 1 (.t 3))⟩, ⟨some 12, some (8, true), .op (.load false 1 (.t 11))⟩, ⟨some 13, some (8, true), .op (.bin .plain .lss (.t 10) (.t 12))⟩, ⟨some 14, none, .op (.pick (.t 8) (.t 13) (.c (.bool false)))⟩, ⟨some 15, none, .op (.mov (.t 14))⟩, ⟨some 16, some (15, true), .op (.fieldAddr 1 (.t 3))⟩, ⟨some 17, some (15, true), .op (.load false 1 (.t 16))⟩, ⟨some 18, some (15, true), .op (.mov (.t 0))⟩, ⟨some 19, some (15, true), .op (.bin .plain .lss (.t 17) (.t 18))⟩, ⟨some 20, none, .op (.pick (.t 15) (.t 19) (.c (.bool false)))⟩, ⟨some 21, none, .op (.mov (.t 20))⟩, ⟨some 22, some (21, true), .op (.fieldAddr 2 (.t 3))⟩, ⟨some 23, some (21, true), .op (.load false 1 (.t 22))⟩, ⟨some 24, some (21, true), .op (.bin .plain .geq (.t 23) (.c (.int .i64 0)))⟩, ⟨some 25, none, .op (.pick (.t 21) (.t 24) (.c (.bool false)))⟩, ⟨some 26, none, .op (.mov (.t 25))⟩, ⟨some 27, some (26, true), .op (.fieldAddr 2 (.t 3))⟩, ⟨some 28, some (26, true), .op (.load false 1 (.t 27))⟩, ⟨some 29, some (26, true), .op (.mov (.t 0))⟩, ⟨some 30, some (26, true), .op (.bin .plain .lss (.t 28) (.t 29))⟩, ⟨some 31, none, .op (.pick (.t 26) (.t 30) (.c (.bool false)))⟩, ⟨some 32, none, .op (.mov (.t 31))⟩, ⟨some 33, some (32, true), .op (.fieldAddr 2 (.t 3))⟩, ⟨some 34, some (32, true), .op (.load false 1 (.t 33))⟩, ⟨some 35, some (32, true), .op (.fieldAddr 0 (.t 3))⟩, ⟨some 36, some (32, true), .op (.load false 1 (.t 35))⟩, ⟨some 37, some (32, true), .op (.bin .plain .neq (.t 34) (.t 36))⟩, ⟨some 38, none, .op (.pick (.t 32) (.t 37) (.c (.bool false)))⟩, ⟨some 39, none, .op (.mov (.t 38))⟩, ⟨some 40, some (39, true), .op (.fieldAddr 2 (.t 3))⟩, ⟨some 41, some (39, true), .op (.load false 1 (.t 40))⟩, ⟨some 42, some (39, true), .op (.fieldAddr 1 (.t 3))⟩, ⟨some 43, some (39, true), .op (.load false 1 (.t 42))⟩, ⟨some 44, some (39, true), .op (.bin .plain .neq (.t 41) (.t 43))⟩, ⟨some 45, none, .op (.pick (.t 39) (.t 44) (.c (.bool false)))⟩, ⟨some 4, none, .op (.mov (.t 45))⟩]
def T.ref05_IsTriple.c1 : Code := .seq (.region T.ref05_IsTriple.r1 [0, 3, 5, 6, 7, 8, 9, 10, 11, 12, 13, 14, 15, 16, 17, 18, 19, 20, 21, 22, 23, 24, 25, 26, 27, 28, 29, 30, 31, 32, 33, 34, 35, 36, 37, 38, 39, 40, 41, 42, 43, 44, 45] 0 false) .ret
def T.ref05_IsTriple.c0 : Code := .seq (.region T.ref05_IsTriple.r0 [1, 4] 0 false) T.ref05_IsTriple.c1
def T.ref05_IsTriple : Fun := ⟨T.ref05_IsTriple.c0, [.tmp 4]⟩
/- droveway/drovewayref05.IsTree -/
/- droveway/drovewayref05.Others -/
/- droveway/drovewayref05.Trees -/
/- droveway/drovewayref05.All -/
/- droveway/drovewayref05.asked -/
/- droveway/drovewayref05.shows -/
/- droveway/drovewayref05.tree -/
/- droveway/drovewayref05.added -/
/- droveway/drovewayref05.family -/
/- droveway/drovewayref05.read -/
/- droveway/drovewayref05.kept -/
/- droveway/drovewayref05.least -/
/- droveway/drovewayref05.Family -/
/- droveway/drovewayref05.Triples -/
/- droveway/drovewayref05.Closure -/
/- droveway/drovewayref05.Build -/
/- droveway/drovewayref05.build -/
/- droveway/drovewayref05.with -/
/- droveway/drovewayref05.given -/
/- droveway/drovewayref05.parts -/
end Gc
end
section
/- The texts in Gc of functions of the program (made by a program of ours, wip/tools/gcgen.py). -/
namespace Gc
/- droveway/drovewaylaw05.BreedShows -/
def T.law05_BreedShows.r0 : List ROp := [⟨some 6, none, .op (.mov (.c (.bool false)))⟩]
def T.law05_BreedShows.r1 : List ROp := [⟨some 12, none, .op (.mov (.t 2))⟩, ⟨some 13, none, .op (.mov (.t 1))⟩, ⟨some 14, none, .call false (.fn 7) [.t 12, .t 13]⟩, ⟨some 15, none, .op (.un .not (.t 14))⟩]
def T.law05_BreedShows.r2 : List ROp := [⟨some 16, none, .call false (.fn 8) []⟩, ⟨some 6, none, .op (.mov (.t 16))⟩]
def T.law05_BreedShows.c4 : Code := .seq (.region T.law05_BreedShows.r2 [0, 1, 2, 15, 16] 0 false) .ret
def T.law05_BreedShows.c3 : Code := .cond (.t 15) T.law05_BreedShows.c4 .skip
def T.law05_BreedShows.c2 : Code := .seq (.region T.law05_BreedShows.r1 [12, 13, 14] 0 false) T.law05_BreedShows.c3
def T.law05_BreedShows.r3 : List ROp := [⟨some 17, none, .op (.buildSlice none 3 [] 0 [])⟩, ⟨some 18, none, .op (.mov (.t 2))⟩, ⟨some 19, none, .op (.append none 3 24 (.t 17) (.t 18))⟩, ⟨some 7, none, .op (.mov (.t 19))⟩]
def T.law05_BreedShows.r4 : List ROp := [⟨some 21, none, .op (.mov (.t 0))⟩, ⟨some 22, none, .op (.mov (.t 1))⟩, ⟨some 23, none, .op (.mov (.t 7))⟩, ⟨some 24, none, .call false (.fn 9) [.t 21, .t 22, .t 23]⟩, ⟨some 20, none, .op (.mov (.t 24))⟩, ⟨some 25, none, .op (.extract (.t 20) 0)⟩, ⟨some 26, none, .op (.extract (.t 20) 1)⟩, ⟨some 8, none, .op (.mov (.t 25))⟩, ⟨some 9, none, .op (.mov (.t 26))⟩]
def T.law05_BreedShows.r5 : List ROp := [⟨some 28, none, .op (.mov (.t 0))⟩, ⟨some 29, none, .op (.mov (.t 1))⟩, ⟨some 30, none, .op (.mov (.t 2))⟩, ⟨some 31, none, .call false (.fn 10) [.t 28, .t 29, .t 30]⟩, ⟨some 27, none, .op (.mov (.t 31))⟩, ⟨some 32, none, .op (.extract (.t 27) 0)⟩, ⟨some 33, none, .op (.extract (.t 27) 1)⟩, ⟨some 10, none, .op (.mov (.t 32))⟩, ⟨some 11, none, .op (.mov (.t 33))⟩]
def T.law05_BreedShows.r6 : List ROp := [⟨some 34, none, .op (.mov (.t 8))⟩, ⟨some 35, none, .op (.mov (.t 10))⟩, ⟨some 36, none, .op (.bin .bool .eql (.t 34) (.t 35))⟩, ⟨some 37, none, .op (.mov (.t 36))⟩, ⟨some 38, some (37, true), .op (.mov (.t 9))⟩, ⟨some 39, some (37, true), .op (.mov (.t 11))⟩, ⟨some 40, some (37, true), .op (.bin .plain .eql (.t 38) (.t 39))⟩, ⟨some 41, none, .op (.pick (.t 37) (.t 40) (.c (.bool false)))⟩, ⟨some 42, none, .op (.mov (.t 41))⟩, ⟨some 43, some (42, true), .op (.mov (.t 7))⟩, ⟨some 44, some (42, true), .op (.mov (.t 2))⟩, ⟨some 45, some (42, true), .call false (.fn 11) [.t 43, .t 44]⟩, ⟨some 46, none, .op (.pick (.t 42) (.t 45) (.c (.bool false)))⟩, ⟨some 47, none, .op (.mov (.t 46))⟩, ⟨some 48, some (47, true), .call false (.fn 8) []⟩, ⟨some 49, none, .op (.pick (.t 47) (.t 48) (.c (.bool false)))⟩, ⟨some 6, none, .op (.mov (.t 49))⟩]
def T.law05_BreedShows.c8 : Code := .seq (.region T.law05_BreedShows.r6 [2, 7, 8, 9, 10, 11, 34, 35, 36, 37, 38, 39, 40, 41, 42, 43, 44, 45, 46, 47, 48, 49] 0 false) .ret
def T.law05_BreedShows.c7 : Code := .seq (.region T.law05_BreedShows.r5 [0, 1, 27, 28, 29, 30, 31, 32, 33] 0 false) T.law05_BreedShows.c8
def T.law05_BreedShows.c6 : Code := .seq (.region T.law05_BreedShows.r4 [20, 21, 22, 23, 24, 25, 26] 0 false) T.law05_BreedShows.c7
def T.law05_BreedShows.c5 : Code := .seq (.region T.law05_BreedShows.r3 [15, 17, 18, 19] 0 false) T.law05_BreedShows.c6
def T.law05_BreedShows.c1 : Code := .seq T.law05_BreedShows.c2 T.law05_BreedShows.c5
def T.law05_BreedShows.c0 : Code := .seq (.region T.law05_BreedShows.r0 [6] 0 false) T.law05_BreedShows.c1
def T.law05_BreedShows : Fun := ⟨T.law05_BreedShows.c0, [.tmp 6]⟩
/- droveway/drovewaylaw05.BreedMore -/
def T.law05_BreedMore.r0 : List ROp := [⟨some 6, none, .op (.box none (.t 2))⟩, ⟨some 8, none, .op (.mov (.c (.bool false)))⟩]
def T.law05_BreedMore.r1 : List ROp := [⟨some 22, none, .op (.mov (.t 1))⟩, ⟨some 23, none, .op (.len false (.t 22))⟩, ⟨some 24, none, .op (.bin .plain .geq (.t 23) (.c (.int .i64 60)))⟩, ⟨some 25, none, .op (.mov (.t 24))⟩, ⟨some 26, some (25, false), .op (.mov (.t 3))⟩, ⟨some 27, some (25, false), .call false (.fn 7) [.c .nils, .t 26]⟩, ⟨some 28, some (25, false), .op (.un .not (.t 27))⟩, ⟨some 29, none, .op (.pick (.t 25) (.c (.bool true)) (.t 28))⟩, ⟨some 30, none, .op (.mov (.t 29))⟩, ⟨some 31, some (30, false), .op (.mov (.t 0))⟩, ⟨some 32, some (30, false), .op (.bin .plain .lss (.t 31) (.c (.int .i64 1)))⟩, ⟨some 33, none, .op (.pick (.t 30) (.c (.bool true)) (.t 32))⟩, ⟨some 34, none, .op (.mov (.t 33))⟩, ⟨some 35, some (34, false), .op (.mov (.t 0))⟩, ⟨some 36, some (34, false), .op (.bin .plain .gtr (.t 35) (.c (.int .i64 8)))⟩, ⟨some 37, none, .op (.pick (.t 34) (.c (.bool true)) (.t 36))⟩, ⟨some 38, none, .op (.mov (.t 37))⟩, ⟨some 39, some (38, false), .op (.mov (.t 0))⟩, ⟨some 40, some (38, false), .op (.mov (.t 1))⟩, ⟨some 41, some (38, false), .call false (.fn 12) [.t 39, .t 40]⟩, ⟨some 42, some (38, false), .op (.bin .plain .neq (.t 41) (.c (.int .i64 0)))⟩, ⟨some 43, none, .op (.pick (.t 38) (.c (.bool true)) (.t 42))⟩, ⟨some 44, none, .op (.mov (.t 43))⟩, ⟨some 45, some (44, false), .op (.mov (.t 0))⟩, ⟨some 46, some (44, false), .op (.load true 3 (.t 6))⟩, ⟨some 47, some (44, false), .call false (.fn 13) [.t 45, .t 46]⟩, ⟨some 48, some (44, false), .op (.un .not (.t 47))⟩, ⟨some 49, none, .op (.pick (.t 44) (.c (.bool true)) (.t 48))⟩]
def T.law05_BreedMore.r2 : List ROp := [⟨some 50, none, .call false (.fn 8) []⟩, ⟨some 8, none, .op (.mov (.t 50))⟩]
def T.law05_BreedMore.c4 : Code := .seq (.region T.law05_BreedMore.r2 [0, 1, 3, 6, 49, 50] 0 false) .ret
def T.law05_BreedMore.c3 : Code := .cond (.t 49) T.law05_BreedMore.c4 .skip
def T.law05_BreedMore.c2 : Code := .seq (.region T.law05_BreedMore.r1 [22, 23, 24, 25, 26, 27, 28, 29, 30, 31, 32, 33, 34, 35, 36, 37, 38, 39, 40, 41, 42, 43, 44, 45, 46, 47, 48] 0 false) T.law05_BreedMore.c3
def T.law05_BreedMore.r3 : List ROp := [⟨some 52, none, .op (.mov (.t 1))⟩, ⟨some 54, none, .op (.load true 3 (.t 6))⟩, ⟨some 51, none, .op (.buildSlice (some 0) 3 [] 0 [])⟩, ⟨some 53, none, .op (.append (some 1) 3 24 (.t 51) (.t 52))⟩, ⟨some 55, none, .op (.buildSlice (some 2) 3 [.int .i64 0, .int .i64 0, .int .i64 0] 1 [(0, 3, .t 54)])⟩, ⟨some 56, none, .op (.append none 3 24 (.t 53) (.t 55))⟩, ⟨some 9, none, .op (.mov (.t 56))⟩]
def T.law05_BreedMore.r4 : List ROp := [⟨some 58, none, .op (.mov (.t 0))⟩, ⟨some 59, none, .op (.mov (.t 1))⟩, ⟨some 60, none, .call false (.fn 14) [.t 58, .t 59]⟩, ⟨some 57, none, .op (.mov (.t 60))⟩, ⟨some 61, none, .op (.extract (.t 57) 0)⟩, ⟨some 62, none, .op (.extract (.t 57) 1)⟩, ⟨some 10, none, .op (.mov (.t 61))⟩, ⟨some 11, none, .op (.mov (.t 62))⟩]
def T.law05_BreedMore.r5 : List ROp := [⟨some 64, none, .op (.mov (.t 0))⟩, ⟨some 65, none, .op (.mov (.t 9))⟩, ⟨some 66, none, .call false (.fn 14) [.t 64, .t 65]⟩, ⟨some 63, none, .op (.mov (.t 66))⟩, ⟨some 67, none, .op (.extract (.t 63) 0)⟩, ⟨some 68, none, .op (.extract (.t 63) 1)⟩, ⟨some 12, none, .op (.mov (.t 67))⟩, ⟨some 13, none, .op (.mov (.t 68))⟩]
def T.law05_BreedMore.r6 : List ROp := [⟨some 69, none, .op (.mov (.t 13))⟩, ⟨some 70, none, .op (.bin .plain .eql (.t 69) (.c (.int .i64 0)))⟩]
def T.law05_BreedMore.r7 : List ROp := [⟨some 72, none, .op (.mov (.t 0))⟩, ⟨some 73, none, .op (.mov (.t 12))⟩, ⟨some 74, none, .op (.mov (.t 1))⟩, ⟨some 75, none, .call false (.fn 9) [.t 72, .t 73, .t 74]⟩, ⟨some 71, none, .op (.mov (.t 75))⟩, ⟨some 76, none, .op (.extract (.t 71) 0)⟩, ⟨some 77, none, .op (.extract (.t 71) 1)⟩, ⟨some 14, none, .op (.mov (.t 76))⟩, ⟨some 15, none, .op (.mov (.t 77))⟩]
def T.law05_BreedMore.r8 : List ROp := [⟨some 78, none, .op (.mov (.t 11))⟩, ⟨some 79, none, .op (.bin .plain .neq (.t 78) (.c (.int .i64 0)))⟩, ⟨some 80, none, .op (.mov (.t 79))⟩, ⟨some 81, some (80, false), .op (.mov (.t 15))⟩, ⟨some 82, some (80, false), .op (.bin .plain .neq (.t 81) (.c (.int .i64 0)))⟩, ⟨some 83, none, .op (.pick (.t 80) (.c (.bool true)) (.t 82))⟩, ⟨some 84, none, .op (.mov (.t 83))⟩, ⟨some 85, some (84, false), .op (.mov (.t 14))⟩, ⟨some 86, some (84, false), .op (.un .not (.t 85))⟩, ⟨some 87, none, .op (.pick (.t 84) (.c (.bool true)) (.t 86))⟩]
def T.law05_BreedMore.r9 : List ROp := [⟨some 8, none, .op (.mov (.c (.bool false)))⟩]
def T.law05_BreedMore.c14 : Code := .seq (.region T.law05_BreedMore.r9 [0, 1, 3, 6, 9, 10, 11, 13, 87] 0 false) .ret
def T.law05_BreedMore.c13 : Code := .cond (.t 87) T.law05_BreedMore.c14 .skip
def T.law05_BreedMore.c12 : Code := .seq (.region T.law05_BreedMore.r8 [14, 15, 78, 79, 80, 81, 82, 83, 84, 85, 86] 0 false) T.law05_BreedMore.c13
def T.law05_BreedMore.c11 : Code := .seq (.region T.law05_BreedMore.r7 [12, 70, 71, 72, 73, 74, 75, 76, 77] 0 false) T.law05_BreedMore.c12
def T.law05_BreedMore.c10 : Code := .cond (.t 70) T.law05_BreedMore.c11 .skip
def T.law05_BreedMore.c9 : Code := .seq (.region T.law05_BreedMore.r6 [69] 0 false) T.law05_BreedMore.c10
def T.law05_BreedMore.r10 : List ROp := [⟨some 88, none, .op (.mov (.t 11))⟩, ⟨some 89, none, .op (.bin .plain .eql (.t 88) (.c (.int .i64 0)))⟩]
def T.law05_BreedMore.r11 : List ROp := [⟨some 91, none, .op (.mov (.t 0))⟩, ⟨some 92, none, .op (.mov (.t 10))⟩, ⟨some 93, none, .op (.load true 3 (.t 6))⟩, ⟨some 94, none, .op (.buildSlice none 3 [.int .i64 0, .int .i64 0, .int .i64 0] 1 [(0, 3, .t 93)])⟩, ⟨some 95, none, .call false (.fn 9) [.t 91, .t 92, .t 94]⟩, ⟨some 90, none, .op (.mov (.t 95))⟩, ⟨some 96, none, .op (.extract (.t 90) 0)⟩, ⟨some 97, none, .op (.extract (.t 90) 1)⟩, ⟨some 16, none, .op (.mov (.t 96))⟩, ⟨some 17, none, .op (.mov (.t 97))⟩]
def T.law05_BreedMore.r12 : List ROp := [⟨some 98, none, .op (.mov (.t 17))⟩, ⟨some 99, none, .op (.bin .plain .neq (.t 98) (.c (.int .i64 0)))⟩, ⟨some 100, none, .op (.mov (.t 99))⟩, ⟨some 101, some (100, false), .op (.mov (.t 16))⟩, ⟨some 102, some (100, false), .op (.mov (.t 101))⟩, ⟨some 103, some (102, true), .op (.mov (.t 13))⟩, ⟨some 104, some (102, true), .op (.bin .plain .neq (.t 103) (.c (.int .i64 0)))⟩, ⟨some 105, some (100, false), .op (.pick (.t 102) (.t 104) (.c (.bool false)))⟩, ⟨some 106, none, .op (.pick (.t 100) (.c (.bool true)) (.t 105))⟩]
def T.law05_BreedMore.r13 : List ROp := [⟨some 8, none, .op (.mov (.c (.bool false)))⟩]
def T.law05_BreedMore.c21 : Code := .seq (.region T.law05_BreedMore.r13 [0, 1, 3, 9, 106] 0 false) .ret
def T.law05_BreedMore.c20 : Code := .cond (.t 106) T.law05_BreedMore.c21 .skip
def T.law05_BreedMore.c19 : Code := .seq (.region T.law05_BreedMore.r12 [13, 16, 17, 98, 99, 100, 101, 102, 103, 104, 105] 0 false) T.law05_BreedMore.c20
def T.law05_BreedMore.c18 : Code := .seq (.region T.law05_BreedMore.r11 [6, 10, 89, 90, 91, 92, 93, 94, 95, 96, 97] 0 false) T.law05_BreedMore.c19
def T.law05_BreedMore.c17 : Code := .cond (.t 89) T.law05_BreedMore.c18 .skip
def T.law05_BreedMore.c16 : Code := .seq (.region T.law05_BreedMore.r10 [11, 12, 70, 87, 88] 0 false) T.law05_BreedMore.c17
def T.law05_BreedMore.r14 : List ROp := [⟨some 108, none, .op (.mov (.t 0))⟩, ⟨some 109, none, .op (.mov (.t 3))⟩, ⟨some 110, none, .op (.mov (.t 9))⟩, ⟨some 111, none, .call false (.fn 9) [.t 108, .t 109, .t 110]⟩, ⟨some 107, none, .op (.mov (.t 111))⟩, ⟨some 112, none, .op (.extract (.t 107) 0)⟩, ⟨some 113, none, .op (.extract (.t 107) 1)⟩, ⟨some 18, none, .op (.mov (.t 112))⟩, ⟨some 19, none, .op (.mov (.t 113))⟩]
def T.law05_BreedMore.r15 : List ROp := [⟨some 115, none, .op (.mov (.t 0))⟩, ⟨some 116, none, .op (.mov (.t 3))⟩, ⟨some 117, none, .op (.mov (.t 1))⟩, ⟨some 118, none, .call false (.fn 9) [.t 115, .t 116, .t 117]⟩, ⟨some 114, none, .op (.mov (.t 118))⟩, ⟨some 119, none, .op (.extract (.t 114) 0)⟩, ⟨some 120, none, .op (.extract (.t 114) 1)⟩, ⟨some 20, none, .op (.mov (.t 119))⟩, ⟨some 21, none, .op (.mov (.t 120))⟩]
def T.law05_BreedMore.r16 : List ROp := [⟨some 121, none, .op (.mov (.t 19))⟩, ⟨some 122, none, .op (.mov (.t 21))⟩, ⟨some 123, none, .op (.bin .plain .eql (.t 121) (.t 122))⟩, ⟨some 124, none, .op (.mov (.t 123))⟩, ⟨some 125, some (124, true), .op (.mov (.t 18))⟩, ⟨some 126, some (124, true), .op (.un .not (.t 125))⟩, ⟨some 127, some (124, true), .op (.mov (.t 126))⟩, ⟨some 128, some (127, false), .op (.mov (.t 20))⟩, ⟨some 129, some (124, true), .op (.pick (.t 127) (.c (.bool true)) (.t 128))⟩, ⟨some 130, none, .op (.pick (.t 124) (.t 129) (.c (.bool false)))⟩, ⟨some 131, none, .op (.mov (.t 130))⟩, ⟨some 132, some (131, true), .call false (.fn 8) []⟩, ⟨some 133, none, .op (.pick (.t 131) (.t 132) (.c (.bool false)))⟩, ⟨some 8, none, .op (.mov (.t 133))⟩]
def T.law05_BreedMore.c24 : Code := .seq (.region T.law05_BreedMore.r16 [18, 19, 20, 21, 121, 122, 123, 124, 125, 126, 127, 128, 129, 130, 131, 132, 133] 0 false) .ret
def T.law05_BreedMore.c23 : Code := .seq (.region T.law05_BreedMore.r15 [0, 1, 3, 114, 115, 116, 117, 118, 119, 120] 0 false) T.law05_BreedMore.c24
def T.law05_BreedMore.c22 : Code := .seq (.region T.law05_BreedMore.r14 [6, 9, 10, 13, 89, 106, 107, 108, 109, 110, 111, 112, 113] 0 false) T.law05_BreedMore.c23
def T.law05_BreedMore.c15 : Code := .seq T.law05_BreedMore.c16 T.law05_BreedMore.c22
def T.law05_BreedMore.c8 : Code := .seq T.law05_BreedMore.c9 T.law05_BreedMore.c15
def T.law05_BreedMore.c7 : Code := .seq (.region T.law05_BreedMore.r5 [63, 64, 65, 66, 67, 68] 0 false) T.law05_BreedMore.c8
def T.law05_BreedMore.c6 : Code := .seq (.region T.law05_BreedMore.r4 [57, 58, 59, 60, 61, 62] 0 false) T.law05_BreedMore.c7
def T.law05_BreedMore.c5 : Code := .seq (.region T.law05_BreedMore.r3 [49, 51, 52, 53, 54, 55, 56] 3 true) T.law05_BreedMore.c6
def T.law05_BreedMore.c1 : Code := .seq T.law05_BreedMore.c2 T.law05_BreedMore.c5
def T.law05_BreedMore.c0 : Code := .seq (.region T.law05_BreedMore.r0 [2, 8] 0 false) T.law05_BreedMore.c1
def T.law05_BreedMore : Fun := ⟨T.law05_BreedMore.c0, [.tmp 8]⟩
/- droveway/drovewaylaw05.BreedAho -/
/- droveway/drovewaylaw05.BreedBack -/
/- droveway/drovewaylaw05.BreedCounted -/
/- droveway/drovewaylaw05.BreedClosure -/
/- droveway/drovewaylaw05.BreedKept -/
/- droveway/drovewaylaw05.few -/
def T.law05_few.r0 : List ROp := [⟨some 4, none, .op (.mov (.c (.bool false)))⟩]
def T.law05_few.r1 : List ROp := [⟨some 5, none, .op (.mov (.t 0))⟩, ⟨some 6, none, .op (.len false (.t 5))⟩, ⟨some 7, none, .op (.bin .plain .leq (.t 6) (.c (.int .i64 100)))⟩, ⟨some 8, none, .op (.mov (.t 7))⟩, ⟨some 9, some (8, true), .op (.mov (.t 1))⟩, ⟨some 10, some (8, true), .op (.len true (.t 9))⟩, ⟨some 11, some (8, true), .op (.bin .plain .leq (.t 10) (.c (.int .i64 100)))⟩, ⟨some 12, none, .op (.pick (.t 8) (.t 11) (.c (.bool false)))⟩, ⟨some 4, none, .op (.mov (.t 12))⟩]
def T.law05_few.c1 : Code := .seq (.region T.law05_few.r1 [0, 1, 5, 6, 7, 8, 9, 10, 11, 12] 0 false) .ret
def T.law05_few.c0 : Code := .seq (.region T.law05_few.r0 [4] 0 false) T.law05_few.c1
def T.law05_few : Fun := ⟨T.law05_few.c0, [.tmp 4]⟩
/- droveway/drovewaylaw05.alive -/
def T.law05_alive.r0 : List ROp := [⟨some 0, none, .op (.mov (.c (.bool false)))⟩]
def T.law05_alive.r1 : List ROp := [⟨some 12, none, .op (.build [.int .i64 0, .int .i64 0, .int .i64 0] [(0, 1, .c (.int .i64 0)), (1, 1, .c (.int .i64 1)), (2, 1, .c (.int .i64 2))])⟩, ⟨some 13, none, .op (.build [.int .i64 0, .int .i64 0, .int .i64 0] [(0, 1, .c (.int .i64 1)), (1, 1, .c (.int .i64 2)), (2, 1, .c (.int .i64 3))])⟩, ⟨some 14, none, .op (.buildSlice none 3 [.int .i64 0, .int .i64 0, .int .i64 0, .int .i64 0, .int .i64 0, .int .i64 0] 2 [(0, 3, .t 12), (3, 3, .t 13)])⟩, ⟨some 15, none, .call false (.fn 14) [.c (.int .i64 4), .t 14]⟩, ⟨some 11, none, .op (.mov (.t 15))⟩, ⟨some 16, none, .op (.extract (.t 11) 0)⟩, ⟨some 17, none, .op (.extract (.t 11) 1)⟩, ⟨some 1, none, .op (.mov (.t 16))⟩, ⟨some 2, none, .op (.mov (.t 17))⟩]
def T.law05_alive.r2 : List ROp := [⟨some 19, none, .op (.build [.int .i64 0, .int .i64 0, .int .i64 0] [(0, 1, .c (.int .i64 0)), (1, 1, .c (.int .i64 1)), (2, 1, .c (.int .i64 2))])⟩, ⟨some 20, none, .op (.build [.int .i64 0, .int .i64 0, .int .i64 0] [(0, 1, .c (.int .i64 1)), (1, 1, .c (.int .i64 2)), (2, 1, .c (.int .i64 0))])⟩, ⟨some 21, none, .op (.buildSlice none 3 [.int .i64 0, .int .i64 0, .int .i64 0, .int .i64 0, .int .i64 0, .int .i64 0] 2 [(0, 3, .t 19), (3, 3, .t 20)])⟩, ⟨some 22, none, .call false (.fn 15) [.c (.int .i64 3), .t 21]⟩, ⟨some 18, none, .op (.mov (.t 22))⟩, ⟨some 23, none, .op (.extract (.t 18) 0)⟩, ⟨some 24, none, .op (.extract (.t 18) 1)⟩, ⟨some 3, none, .op (.mov (.t 23))⟩, ⟨some 4, none, .op (.mov (.t 24))⟩]
def T.law05_alive.r3 : List ROp := [⟨some 26, none, .call false (.fn 22) [.c (.int .i64 5)]⟩, ⟨some 25, none, .op (.mov (.t 26))⟩, ⟨some 27, none, .op (.extract (.t 25) 0)⟩, ⟨some 28, none, .op (.extract (.t 25) 1)⟩, ⟨some 5, none, .op (.mov (.t 27))⟩, ⟨some 6, none, .op (.mov (.t 28))⟩]
def T.law05_alive.r4 : List ROp := [⟨some 30, none, .call false (.fn 26) [.c (.int .i64 4), .c (.str [40, 40, 40, 48, 44, 49, 41, 44, 50, 41, 44, 51, 41]), .c (.int .i64 13)]⟩, ⟨some 29, none, .op (.mov (.t 30))⟩, ⟨some 31, none, .op (.extract (.t 29) 0)⟩, ⟨some 32, none, .op (.extract (.t 29) 1)⟩, ⟨some 7, none, .op (.mov (.t 31))⟩, ⟨some 8, none, .op (.mov (.t 32))⟩]
def T.law05_alive.r5 : List ROp := [⟨some 34, none, .call false (.fn 28) [.c (.int .i64 3), .c (.str [40, 40, 48, 44, 49, 41, 44, 50, 41]), .c (.int .i64 0), .c (.int .i64 1)]⟩, ⟨some 33, none, .op (.mov (.t 34))⟩, ⟨some 35, none, .op (.extract (.t 33) 0)⟩, ⟨some 36, none, .op (.extract (.t 33) 1)⟩, ⟨some 9, none, .op (.mov (.t 35))⟩, ⟨some 10, none, .op (.mov (.t 36))⟩]
def T.law05_alive.r6 : List ROp := [⟨some 37, none, .op (.mov (.t 2))⟩, ⟨some 38, none, .op (.bin .plain .eql (.t 37) (.c (.int .i64 0)))⟩, ⟨some 39, none, .op (.mov (.t 38))⟩, ⟨some 40, some (39, true), .op (.mov (.t 1))⟩, ⟨some 41, some (39, true), .op (.bin .plain .eql (.t 40) (.c (.str [40, 40, 40, 48, 44, 49, 41, 44, 50, 41, 44, 51, 41])))⟩, ⟨some 42, none, .op (.pick (.t 39) (.t 41) (.c (.bool false)))⟩, ⟨some 43, none, .op (.mov (.t 42))⟩, ⟨some 44, some (43, true), .op (.mov (.t 4))⟩, ⟨some 45, some (43, true), .op (.bin .plain .eql (.t 44) (.c (.int .i64 0)))⟩, ⟨some 46, none, .op (.pick (.t 43) (.t 45) (.c (.bool false)))⟩, ⟨some 47, none, .op (.mov (.t 46))⟩, ⟨some 48, some (47, true), .op (.mov (.t 3))⟩, ⟨some 49, some (47, true), .op (.bin .plain .eql (.t 48) (.c (.int .i64 7)))⟩, ⟨some 50, none, .op (.pick (.t 47) (.t 49) (.c (.bool false)))⟩, ⟨some 51, none, .op (.mov (.t 50))⟩, ⟨some 52, some (51, true), .op (.mov (.t 6))⟩, ⟨some 53, some (51, true), .op (.bin .plain .eql (.t 52) (.c (.int .i64 0)))⟩, ⟨some 54, none, .op (.pick (.t 51) (.t 53) (.c (.bool false)))⟩, ⟨some 55, none, .op (.mov (.t 54))⟩, ⟨some 56, some (55, true), .op (.mov (.t 5))⟩, ⟨some 57, some (55, true), .op (.bin .plain .eql (.t 56) (.c (.int .i64 236)))⟩, ⟨some 58, none, .op (.pick (.t 55) (.t 57) (.c (.bool false)))⟩, ⟨some 59, none, .op (.mov (.t 58))⟩, ⟨some 60, some (59, true), .op (.mov (.t 8))⟩, ⟨some 61, some (59, true), .op (.bin .plain .eql (.t 60) (.c (.int .i64 0)))⟩, ⟨some 62, none, .op (.pick (.t 59) (.t 61) (.c (.bool false)))⟩, ⟨some 63, none, .op (.mov (.t 62))⟩, ⟨some 64, some (63, true), .op (.mov (.t 7))⟩, ⟨some 65, some (63, true), .op (.bin .plain .eql (.t 64) (.c (.str [40, 40, 48, 44, 50, 41, 44, 51, 41])))⟩, ⟨some 66, none, .op (.pick (.t 63) (.t 65) (.c (.bool false)))⟩, ⟨some 67, none, .op (.mov (.t 66))⟩, ⟨some 68, some (67, true), .op (.mov (.t 10))⟩, ⟨some 69, some (67, true), .op (.bin .plain .eql (.t 68) (.c (.int .i64 0)))⟩, ⟨some 70, none, .op (.pick (.t 67) (.t 69) (.c (.bool false)))⟩, ⟨some 71, none, .op (.mov (.t 70))⟩, ⟨some 72, some (71, true), .op (.mov (.t 9))⟩, ⟨some 73, some (71, true), .op (.bin .plain .eql (.t 72) (.c (.int .i64 3)))⟩, ⟨some 74, none, .op (.pick (.t 71) (.t 73) (.c (.bool false)))⟩, ⟨some 0, none, .op (.mov (.t 74))⟩]
def T.law05_alive.c6 : Code := .seq (.region T.law05_alive.r6 [1, 2, 3, 4, 5, 6, 7, 8, 9, 10, 37, 38, 39, 40, 41, 42, 43, 44, 45, 46, 47, 48, 49, 50, 51, 52, 53, 54, 55, 56, 57, 58, 59, 60, 61, 62, 63, 64, 65, 66, 67, 68, 69, 70, 71, 72, 73, 74] 0 false) .ret
def T.law05_alive.c5 : Code := .seq (.region T.law05_alive.r5 [33, 34, 35, 36] 0 false) T.law05_alive.c6
def T.law05_alive.c4 : Code := .seq (.region T.law05_alive.r4 [29, 30, 31, 32] 0 false) T.law05_alive.c5
def T.law05_alive.c3 : Code := .seq (.region T.law05_alive.r3 [25, 26, 27, 28] 0 false) T.law05_alive.c4
def T.law05_alive.c2 : Code := .seq (.region T.law05_alive.r2 [18, 19, 20, 21, 22, 23, 24] 0 false) T.law05_alive.c3
def T.law05_alive.c1 : Code := .seq (.region T.law05_alive.r1 [11, 12, 13, 14, 15, 16, 17] 0 false) T.law05_alive.c2
def T.law05_alive.c0 : Code := .seq (.region T.law05_alive.r0 [0] 0 false) T.law05_alive.c1
def T.law05_alive : Fun := ⟨T.law05_alive.c0, [.tmp 0]⟩
/- droveway/drovewaylaw05.same -/
/- droveway/drovewaylaw05.in -/
/- droveway/drovewaylaw05.BreedTrees -/
/- droveway/drovewaylaw05.BreedCloses -/
/- droveway/drovewaylaw05.BreedImplied -/
end Gc
end
section
/- The functions' numbers in Gc, and their texts by their numbers (made by a program of ours, wip/tools/gcgen.py). -/
namespace Gc
abbrev F.law05_BreedShows : Nat := 0
abbrev F.law05_BreedMore : Nat := 1
abbrev F.law05_few : Nat := 7
abbrev F.law05_alive : Nat := 8
abbrev F.breed_Shows : Nat := 9
abbrev F.ref05_List : Nat := 12
abbrev F.ref05_IsTriple : Nat := 13
abbrev F.breed_Build : Nat := 14
abbrev F.breed_Knot : Nat := 15
abbrev F.breed_Count : Nat := 22
abbrev F.breed_Kept : Nat := 26
abbrev F.breed_Family : Nat := 28
abbrev F.breed_read : Nat := 29
abbrev F.breed_remembered : Nat := 30
abbrev F.slices_ContainsFunc_Triple : Nat := 31
abbrev F.breed_Shows_1 : Nat := 32
abbrev F.breed_shows : Nat := 33
abbrev F.breed_asked : Nat := 36
abbrev F.breed_build : Nat := 37
abbrev F.bits_OnesCount : Nat := 38
abbrev F.breed_joined : Nat := 39
abbrev F.breed_herd : Nat := 40
abbrev F.breed_parse : Nat := 41
abbrev F.breed_kept : Nat := 49
abbrev F.breed_common : Nat := 50
abbrev F.slices_IndexFunc_Triple : Nat := 51
abbrev F.breed_of : Nat := 53
abbrev F.bits_OnesCount32 : Nat := 54
abbrev F.bits_OnesCount64 : Nat := 55
abbrev F.slices_Sort_int : Nat := 56
abbrev F.breed_reader_tree : Nat := 57
abbrev F.slices_SortFunc_tree : Nat := 60
abbrev F.breed_of_1 : Nat := 61
abbrev F.breed_first : Nat := 62
abbrev F.slices_pdqsortOrdered_int : Nat := 63
abbrev F.bits_Len : Nat := 64
abbrev F.breed_reader_take : Nat := 65
abbrev F.slices_pdqsortCmpFunc_tree : Nat := 67
abbrev F.bits_TrailingZeros : Nat := 68
abbrev F.slices_insertionSortOrdered_int : Nat := 69
abbrev F.cmp_Less_int : Nat := 70
abbrev F.bits_Len32 : Nat := 71
abbrev F.bits_Len64 : Nat := 72
abbrev F.slices_insertionSortCmpFunc_tree : Nat := 73
abbrev F.bits_TrailingZeros32 : Nat := 74
abbrev F.bits_TrailingZeros64 : Nat := 75
abbrev F.breed_set_beasts : Nat := 76
abbrev F.breed_beast_text : Nat := 77
abbrev F.strconv_Itoa : Nat := 78
abbrev F.istrconv_Itoa : Nat := 79
abbrev F.istrconv_FormatInt : Nat := 80
abbrev F.istrconv_small : Nat := 81
abbrev F.breed_family_text : Nat := 82
abbrev F.strings_Join : Nat := 83
abbrev F.cmp_isNaN_int : Nat := 84
abbrev Ty.breed_beast : Nat := 0
abbrev Ty.breed_family : Nat := 1
abbrev M.breed_text : Nat := 0
abbrev M.breed_beasts : Nat := 1
def tab05 : List (Nat × Fun) := [(0, T.law05_BreedShows), (1, T.law05_BreedMore), (7, T.law05_few), (8, T.law05_alive), (9, T.breed_Shows), (12, T.ref05_List), (13, T.ref05_IsTriple), (14, T.breed_Build), (15, T.breed_Knot), (22, T.breed_Count), (26, T.breed_Kept), (28, T.breed_Family), (29, T.breed_read), (30, T.breed_remembered), (31, T.slices_ContainsFunc_Triple), (32, T.breed_Shows_1), (33, T.breed_shows), (36, T.breed_asked), (37, T.breed_build), (38, T.bits_OnesCount), (39, T.breed_joined), (40, T.breed_herd), (41, T.breed_parse), (49, T.breed_kept), (50, T.breed_common), (51, T.slices_IndexFunc_Triple), (53, T.breed_of), (54, T.bits_OnesCount32), (55, T.bits_OnesCount64), (56, T.slices_Sort_int), (57, T.breed_reader_tree), (60, T.slices_SortFunc_tree), (61, T.breed_of_1), (62, T.breed_first), (63, T.slices_pdqsortOrdered_int), (64, T.bits_Len), (65, T.breed_reader_take), (67, T.slices_pdqsortCmpFunc_tree), (68, T.bits_TrailingZeros), (69, T.slices_insertionSortOrdered_int), (70, T.cmp_Less_int), (71, T.bits_Len32), (72, T.bits_Len64), (73, T.slices_insertionSortCmpFunc_tree), (74, T.bits_TrailingZeros32), (75, T.bits_TrailingZeros64), (76, T.breed_set_beasts), (77, T.breed_beast_text), (78, T.strconv_Itoa), (79, T.istrconv_Itoa), (80, T.istrconv_FormatInt), (81, T.istrconv_small), (82, T.breed_family_text), (84, T.cmp_isNaN_int)]
/-! ### What is told of functions without a text here -/
def asStrs : List Val → Option (List (List UInt8))
  | [] => some []
  | .str s :: r => (asStrs r).map (s :: ·)
  | _ => none
def Val.isStr : Val → Bool
  | .str _ => true
  | _ => false
def joinV (h : Heap) : List Val → Option Val
  | [v, .str sep] =>
    if v.isStr = true then none else
    match spread h 1 v with
    | some (_, cs) => (asStrs cs).bind fun l => if (joinBytes sep l).length ≤ 1000000 ∧ l.length ≤ 1000000 then some (.str (joinBytes sep l)) else none
    | none => none
  | _ => none
def tab32 : List Nat := [0, 1, 28, 2, 29, 14, 24, 3, 30, 22, 20, 15, 25, 17, 4, 8, 31, 27, 13, 23, 21, 19, 16, 7, 26, 12, 18, 6, 11, 5, 10, 9]
def tab64 : List Nat := [0, 1, 56, 2, 57, 49, 28, 3, 61, 58, 42, 50, 38, 29, 17, 4, 62, 47, 59, 36, 45, 43, 51, 22, 53, 39, 33, 30, 24, 18, 12, 5, 63, 55, 48, 27, 60, 41, 37, 16, 46, 35, 44, 21, 52, 32, 23, 11, 54, 26, 40, 15, 34, 20, 31, 10, 25, 14, 19, 9, 13, 8, 7, 6]
def bytesOf (l : List Nat) : List Val := l.map fun (n : Nat) => Val.int .u8 (n : Int)
def isBytes : List Val → List Nat → Bool
  | [], [] => true
  | .int .u8 n :: r, m :: l => n == (m : Int) && isBytes r l
  | _, _ => false
def tabOk (h : Heap) (k : Nat) (l : List Nat) : Bool :=
  match h.get k with
  | some b => isBytes b.cells l
  | none => false
def told05 (f : Nat) (args : List Val) (h : Heap) : Option Val :=
  if f = F.strings_Join then joinV h args
  else if f = F.law05_alive then (if args.isEmpty && (tabOk h 0 tab32 && tabOk h 1 tab64) then some (.bool true) else none)
  else none
def meth05 : List ((Nat × Nat) × (Nat × Option (Bool × Nat × Nat))) :=
  [((Ty.breed_beast, M.breed_text), (F.breed_beast_text, none)), ((Ty.breed_beast, M.breed_beasts), (F.breed_set_beasts, some (false, 0, 1))),
   ((Ty.breed_family, M.breed_text), (F.breed_family_text, none)), ((Ty.breed_family, M.breed_beasts), (F.breed_set_beasts, some (false, 0, 1)))]
def tabs05 : Tabs := ⟨tab05, meth05, told05⟩
end Gc
end
section
/- Contracts of the simple functions: the reader's take, sets, numbers. -/
set_option linter.unusedVariables false
set_option linter.unusedSimpArgs false
namespace Gc
variable {E : Env} {base : Nat} {h : Heap}
theorem Env.Has.fn {l : List Nat} {f : Nat} {fn : Fun} (hE : E.Has tabs05 l) (hf : f ∈ l) (ht : tab05.lookup f = some fn) : E.code f = some fn := (hE f hf).1.trans ht
theorem Env.Has.nt {l : List Nat} {f : Nat} (hE : E.Has tabs05 l) (hf : f ∈ l) (h1 : f ≠ F.strings_Join) (h2 : f ≠ F.law05_alive) (args : List Val) (h : Heap) : E.told f args h = none := by
  rw [(hE f hf).2.1]
  simp only [tabs05, told05, if_neg h1, if_neg h2]
/-- A contract begins: the function's text. -/
theorem c_begin {l : List Nat} {f : Nat} {fn : Fun} {args : List Val} {P : Val → Heap → Prop} (hE : E.Has tabs05 l) (hf : f ∈ l) (ht : tab05.lookup f = some fn) (h1 : f ≠ F.strings_Join) (h2 : f ≠ F.law05_alive)
    (g : At E base fn.body [] (Frame.enterFrom 0 args) h fun x fr' h' => (x = .norm ∨ x = .ret) ∧ ∃ vs, resultVals fr' h' fn.results = some vs ∧ P (tuple vs) h') : CallV E base f args h P :=
  c_fn (hE.nt hf h1 h2 _ _) (hE.fn hf ht) g
theorem take_empty {l : List Nat} (hE : E.Has tabs05 l) (hf : F.breed_reader_take ∈ l) {rb : Nat} {ok : Bool} (hb : base ≤ rb) (hr : h.get rb = some ⟨[.str [], .bool ok], true, 0⟩) :
    CallV E base F.breed_reader_take [.ptr rb 0] h fun v h' => v = .int .u8 0 ∧ h' = h.set rb (some ⟨[.str [], .bool false], true, 0⟩) := by
  refine c_begin hE hf rfl (by decide) (by decide) ?_
  simp only [T.breed_reader_take, Frame.enterFrom, Nat.zero_add, Nat.reduceAdd]
  have l1 : h.load false 1 rb 0 = some (.str []) := load_one hr rfl
  have s1 : h.store base rb 1 [.bool false] = some _ := store_one hr hb rfl (by simp) rfl
  repeat' (first | (apply o_op; (solve | (conv => lhs; simp (disch := omega) only [zev, pickV_bool, zva, ↓reduceIte, Nat.reduceEqDiff, l1, s1, beq_self_eq_true, Val.cells, List.length_singleton, Option.map_some])); (solve | (conv => lhs; simp only [zfr, Nat.reduceEqDiff, Nat.reduceLT, ↓reduceIte]))) | (apply o_yes; (solve | (conv => lhs; simp only [zva, ↓reduceIte, Nat.reduceEqDiff, l1, s1, beq_self_eq_true, Val.cells, List.length_singleton, Option.map_some])); (solve | rfl)) | (apply o_no; (solve | (conv => lhs; simp only [zva, ↓reduceIte, Nat.reduceEqDiff, l1, s1, beq_self_eq_true, Val.cells, List.length_singleton, Option.map_some])); (solve | decide); (solve | (conv => lhs; simp only [zfr, Nat.reduceEqDiff, Nat.reduceLT, ↓reduceIte]))) | (apply o_end; (solve | (conv => lhs; simp only [zdr, inl, Nat.reduceEqDiff, or_false, or_true, ↓reduceIte]))) | apply g_seq | apply g_region | apply g_next | apply g_block | apply g_out | (apply g_true; (solve | (conv => lhs; simp only [zva, ↓reduceIte, Nat.reduceEqDiff, l1, s1, beq_self_eq_true, Val.cells, List.length_singleton, Option.map_some]))) | (apply g_false; (solve | (conv => lhs; simp only [zva, ↓reduceIte, Nat.reduceEqDiff, l1, s1, beq_self_eq_true, Val.cells, List.length_singleton, Option.map_some]))) | apply g_here | apply g_exit | apply g_retc | apply g_retb | apply g_ret)
  exact ⟨.inr rfl, _, rfl, rfl, rfl⟩
theorem take_cons {l : List Nat} (hE : E.Has tabs05 l) (hf : F.breed_reader_take ∈ l) {rb : Nat} {ok : Bool} {c : UInt8} {s : List UInt8} (hb : base ≤ rb) (hr : h.get rb = some ⟨[.str (c :: s), .bool ok], true, 0⟩) :
    CallV E base F.breed_reader_take [.ptr rb 0] h fun v h' => v = .int .u8 c.toNat ∧ h' = h.set rb (some ⟨[.str s, .bool ok], true, 0⟩) := by
  refine c_begin hE hf rfl (by decide) (by decide) ?_
  simp only [T.breed_reader_take, Frame.enterFrom, Nat.zero_add, Nat.reduceAdd]
  have l1 : h.load false 1 rb 0 = some (.str (c :: s)) := load_one hr rfl
  have s1 : h.store base rb 0 [.str s] = some _ := store_one hr hb rfl (by simp) rfl
  have e1 : (c :: s == []) = false := rfl
  have e2 : strIndexV h (.str (c :: s)) (.int .i64 0) = some (.int .u8 c.toNat, h) := strIndexV_str (by decide) rfl
  have e3 : boundV (.int .i64 1) = some (some 1) := rfl
  have e4 : strSlcV h (some (some 1)) (some none) (.str (c :: s)) = some (.str s, h) := strSlcV_from (by simp)
  repeat' (first | (apply o_op; (solve | (conv => lhs; simp (disch := omega) only [zev, pickV_bool, zva, ↓reduceIte, Nat.reduceEqDiff, l1, e1, e2, e3, e4, s1, Val.cells, List.length_singleton, Option.map_some])); (solve | (conv => lhs; simp only [zfr, Nat.reduceEqDiff, Nat.reduceLT, ↓reduceIte]))) | (apply o_yes; (solve | (conv => lhs; simp only [zva, ↓reduceIte, Nat.reduceEqDiff, l1, e1, e2, e3, e4, s1, Val.cells, List.length_singleton, Option.map_some])); (solve | rfl)) | (apply o_no; (solve | (conv => lhs; simp only [zva, ↓reduceIte, Nat.reduceEqDiff, l1, e1, e2, e3, e4, s1, Val.cells, List.length_singleton, Option.map_some])); (solve | decide); (solve | (conv => lhs; simp only [zfr, Nat.reduceEqDiff, Nat.reduceLT, ↓reduceIte]))) | (apply o_end; (solve | (conv => lhs; simp only [zdr, inl, Nat.reduceEqDiff, or_false, or_true, ↓reduceIte]))) | apply g_seq | apply g_region | apply g_next | apply g_block | apply g_out | (apply g_true; (solve | (conv => lhs; simp only [zva, ↓reduceIte, Nat.reduceEqDiff, l1, e1, e2, e3, e4, s1, Val.cells, List.length_singleton, Option.map_some]))) | (apply g_false; (solve | (conv => lhs; simp only [zva, ↓reduceIte, Nat.reduceEqDiff, l1, e1, e2, e3, e4, s1, Val.cells, List.length_singleton, Option.map_some]))) | apply g_here | apply g_exit | apply g_retc | apply g_retb | apply g_ret)
  exact ⟨.inr rfl, _, rfl, rfl, rfl⟩
theorem herd_run {l : List Nat} (hE : E.Has tabs05 l) (hf : F.breed_herd ∈ l) {n : Int} :
    CallV E base F.breed_herd [.int .i64 n] h fun v h' => v = .bool (decide (1 ≤ n ∧ n ≤ 8)) ∧ h' = h := by
  refine c_begin hE hf rfl (by decide) (by decide) ?_
  simp only [T.breed_herd, Frame.enterFrom, Nat.zero_add, Nat.reduceAdd]
  by_cases h1 : n ≥ 1
  · have d1 : decide (n ≥ 1) = true := decide_eq_true h1
    repeat' (first | (apply o_op; (solve | (conv => lhs; simp (disch := omega) only [zev, pickV_bool, zva, ↓reduceIte, Nat.reduceEqDiff, d1])); (solve | (conv => lhs; simp only [zfr, Nat.reduceEqDiff, Nat.reduceLT, ↓reduceIte]))) | (apply o_yes; (solve | (conv => lhs; simp only [zva, ↓reduceIte, Nat.reduceEqDiff, d1])); (solve | rfl)) | (apply o_no; (solve | (conv => lhs; simp only [zva, ↓reduceIte, Nat.reduceEqDiff, d1])); (solve | decide); (solve | (conv => lhs; simp only [zfr, Nat.reduceEqDiff, Nat.reduceLT, ↓reduceIte]))) | (apply o_end; (solve | (conv => lhs; simp only [zdr, inl, Nat.reduceEqDiff, or_false, or_true, ↓reduceIte]))) | apply g_seq | apply g_region | apply g_next | apply g_block | apply g_out | (apply g_true; (solve | (conv => lhs; simp only [zva, ↓reduceIte, Nat.reduceEqDiff, d1]))) | (apply g_false; (solve | (conv => lhs; simp only [zva, ↓reduceIte, Nat.reduceEqDiff, d1]))) | apply g_here | apply g_exit | apply g_retc | apply g_retb | apply g_ret)
    exact ⟨.inr rfl, _, rfl, by simp [tuple, Frame.get]; omega, rfl⟩
  · have d1 : decide (n ≥ 1) = false := decide_eq_false h1
    repeat' (first | (apply o_op; (solve | (conv => lhs; simp (disch := omega) only [zev, pickV_bool, zva, ↓reduceIte, Nat.reduceEqDiff, d1, Bool.false_eq_true])); (solve | (conv => lhs; simp only [zfr, Nat.reduceEqDiff, Nat.reduceLT, ↓reduceIte]))) | (apply o_yes; (solve | (conv => lhs; simp only [zva, ↓reduceIte, Nat.reduceEqDiff, d1, Bool.false_eq_true])); (solve | rfl)) | (apply o_no; (solve | (conv => lhs; simp only [zva, ↓reduceIte, Nat.reduceEqDiff, d1, Bool.false_eq_true])); (solve | decide); (solve | (conv => lhs; simp only [zfr, Nat.reduceEqDiff, Nat.reduceLT, ↓reduceIte]))) | (apply o_end; (solve | (conv => lhs; simp only [zdr, inl, Nat.reduceEqDiff, or_false, or_true, ↓reduceIte]))) | apply g_seq | apply g_region | apply g_next | apply g_block | apply g_out | (apply g_true; (solve | (conv => lhs; simp only [zva, ↓reduceIte, Nat.reduceEqDiff, d1, Bool.false_eq_true]))) | (apply g_false; (solve | (conv => lhs; simp only [zva, ↓reduceIte, Nat.reduceEqDiff, d1, Bool.false_eq_true]))) | apply g_here | apply g_exit | apply g_retc | apply g_retb | apply g_ret)
    exact ⟨.inr rfl, _, rfl, by simp [tuple, Frame.get]; omega, rfl⟩
theorem beasts_run {l : List Nat} (hE : E.Has tabs05 l) (hf : F.breed_set_beasts ∈ l) {n : Int} :
    CallV E base F.breed_set_beasts [.int .i64 n] h fun v h' => v = .int .i64 n ∧ h' = h := by
  refine c_begin hE hf rfl (by decide) (by decide) ?_
  simp only [T.breed_set_beasts, Frame.enterFrom, Nat.zero_add, Nat.reduceAdd]
  repeat' (first | (apply o_op; (solve | (conv => lhs; simp (disch := omega) only [zev, pickV_bool, zva, ↓reduceIte, Nat.reduceEqDiff])); (solve | (conv => lhs; simp only [zfr, Nat.reduceEqDiff, Nat.reduceLT, ↓reduceIte]))) | (apply o_yes; (solve | (conv => lhs; simp only [zva, ↓reduceIte, Nat.reduceEqDiff])); (solve | rfl)) | (apply o_no; (solve | (conv => lhs; simp only [zva, ↓reduceIte, Nat.reduceEqDiff])); (solve | decide); (solve | (conv => lhs; simp only [zfr, Nat.reduceEqDiff, Nat.reduceLT, ↓reduceIte]))) | (apply o_end; (solve | (conv => lhs; simp only [zdr, inl, Nat.reduceEqDiff, or_false, or_true, ↓reduceIte]))) | apply g_seq | apply g_region | apply g_next | apply g_block | apply g_out | (apply g_true; (solve | (conv => lhs; simp only [zva, ↓reduceIte, Nat.reduceEqDiff]))) | (apply g_false; (solve | (conv => lhs; simp only [zva, ↓reduceIte, Nat.reduceEqDiff]))) | apply g_here | apply g_exit | apply g_retc | apply g_retb | apply g_ret)
  exact ⟨.inr rfl, _, rfl, rfl, rfl⟩
end Gc
end
section
/- Contracts: the numbers of trailing zeros, and of ones, of small sets. -/
set_option linter.unusedVariables false
set_option linter.unusedSimpArgs false
namespace Gc
variable {E : Env} {base : Nat} {h : Heap}
/-- The two tables lie where the texts look for them. -/
structure Tables (h : Heap) : Prop where
  t32 : ∃ b, h.get 0 = some b ∧ b.cells = bytesOf tab32
  t64 : ∃ b, h.get 1 = some b ∧ b.cells = bytesOf tab64
/-- The least beast of a set, as the library finds it. -/
def low64 (x : Int) : Int := ((bitsOp .and .u64 x (Go.IntKind.wrap .u64 (0 - x))).getD 0)
def idx64 (x : Int) : Int := (Go.IntKind.wrap .u64 (low64 x * 285870213051353865)).fdiv (2 ^ 58)
theorem tz_table : ∀ x : Fin 256, x.val ≠ 0 → 0 ≤ idx64 (x.val : Int) ∧ idx64 (x.val : Int) < 64 ∧ tab64[(idx64 (x.val : Int)).toNat]? = some (least x.val) := by decide +kernel
theorem tz64_run {l : List Nat} (hE : E.Has tabs05 l) (hf : F.bits_TrailingZeros64 ∈ l) (tb : Tables h) {x : Nat} (hx : x ≠ 0) (hx2 : x < 256) :
    CallV E base F.bits_TrailingZeros64 [.int .u64 x] h fun v h' => v = .int .i64 (least x) ∧ h' = h := by
  refine c_begin hE hf rfl (by decide) (by decide) ?_
  simp only [T.bits_TrailingZeros64, Frame.enterFrom, Nat.zero_add, Nat.reduceAdd]
  obtain ⟨i1, i2, i3⟩ := tz_table ⟨x, hx2⟩ hx
  simp only at i1 i2 i3
  obtain ⟨b, hb, hbc⟩ := tb.t64
  have e1 : ((x : Int) == 0) = false := by simp; omega
  have e2 : bitsOp .and .u64 (x : Int) (Go.IntKind.wrap .u64 (0 - (x : Int))) = some (low64 x) := rfl
  have e3 : binOp .plain .shr (.int .u64 (Go.IntKind.wrap .u64 (low64 x * 285870213051353865))) (.int .u64 58) = some (.int .u64 (idx64 x)) := b_shr (by decide)
  have e4 : indexArrAddrV h 64 1 (.ptr 1 0) (.int .u64 (idx64 x)) = some (.ptr 1 (idx64 x).toNat, h) := by
    rw [indexArrAddrV_ptr ⟨i1, i2⟩]; simp
  have e5 : h.load false 1 1 (idx64 x).toNat = some (.int .u8 (least x)) := load_one hb (by rw [hbc]; simp [bytesOf, i3])
  have e6 : Go.IntKind.wrap .i64 (least x : Int) = least x := by
    have : ∀ x : Fin 256, Go.IntKind.wrap .i64 (least x.val : Int) = least x.val := by decide +kernel
    exact this ⟨x, hx2⟩
  repeat' (first | (apply o_op; (solve | (conv => lhs; simp (disch := omega) only [zev, pickV_bool, zva, ↓reduceIte, Nat.reduceEqDiff, e1, e2, e3, e4, e5, e6, b_and, Option.map_some])); (solve | (conv => lhs; simp only [zfr, Nat.reduceEqDiff, Nat.reduceLT, ↓reduceIte]))) | (apply o_yes; (solve | (conv => lhs; simp only [zva, ↓reduceIte, Nat.reduceEqDiff, e1, e2, e3, e4, e5, e6, b_and, Option.map_some])); (solve | rfl)) | (apply o_no; (solve | (conv => lhs; simp only [zva, ↓reduceIte, Nat.reduceEqDiff, e1, e2, e3, e4, e5, e6, b_and, Option.map_some])); (solve | decide); (solve | (conv => lhs; simp only [zfr, Nat.reduceEqDiff, Nat.reduceLT, ↓reduceIte]))) | (apply o_end; (solve | (conv => lhs; simp only [zdr, inl, Nat.reduceEqDiff, or_false, or_true, ↓reduceIte]))) | apply g_seq | apply g_region | apply g_next | apply g_block | apply g_out | (apply g_true; (solve | (conv => lhs; simp only [zva, ↓reduceIte, Nat.reduceEqDiff, e1, e2, e3, e4, e5, e6, b_and, Option.map_some]))) | (apply g_false; (solve | (conv => lhs; simp only [zva, ↓reduceIte, Nat.reduceEqDiff, e1, e2, e3, e4, e5, e6, b_and, Option.map_some]))) | apply g_here | apply g_exit | apply g_retc | apply g_retb | apply g_ret)
  exact ⟨.inr rfl, _, rfl, rfl, rfl⟩
theorem tz_run {l : List Nat} (hE : E.Has tabs05 l) (hf : ∀ f ∈ [F.bits_TrailingZeros, F.bits_TrailingZeros64], f ∈ l) (tb : Tables h) {x : Nat} (hx : x ≠ 0) (hx2 : x < 256) :
    CallV E base F.bits_TrailingZeros [.int .u64 x] h fun v h' => v = .int .i64 (least x) ∧ h' = h := by
  refine c_begin hE (hf _ (by simp)) rfl (by decide) (by decide) ?_
  simp only [T.bits_TrailingZeros, Frame.enterFrom, Nat.zero_add, Nat.reduceAdd]
  repeat' (first | (apply o_op; (solve | (conv => lhs; simp (disch := omega) only [zev, pickV_bool, zva, ↓reduceIte, Nat.reduceEqDiff])); (solve | (conv => lhs; simp only [zfr, Nat.reduceEqDiff, Nat.reduceLT, ↓reduceIte]))) | (apply o_yes; (solve | (conv => lhs; simp only [zva, ↓reduceIte, Nat.reduceEqDiff])); (solve | rfl)) | (apply o_no; (solve | (conv => lhs; simp only [zva, ↓reduceIte, Nat.reduceEqDiff])); (solve | decide); (solve | (conv => lhs; simp only [zfr, Nat.reduceEqDiff, Nat.reduceLT, ↓reduceIte]))) | (apply o_end; (solve | (conv => lhs; simp only [zdr, inl, Nat.reduceEqDiff, or_false, or_true, ↓reduceIte]))) | apply g_seq | apply g_region | apply g_next | apply g_block | apply g_out | (apply g_true; (solve | (conv => lhs; simp only [zva, ↓reduceIte, Nat.reduceEqDiff]))) | (apply g_false; (solve | (conv => lhs; simp only [zva, ↓reduceIte, Nat.reduceEqDiff]))) | apply g_here | apply g_exit | apply g_retc | apply g_retb | apply g_ret)
  (apply o_call; (solve | (conv => lhs; simp only [Callee.find, List.map_cons, List.map_nil, List.cons_append, List.nil_append, zva, ↓reduceIte, Nat.reduceEqDiff])))
  · exact tz64_run hE (hf _ (by simp)) tb hx hx2
  rintro _ _ ⟨rfl, rfl⟩
  (conv => arg 8; simp only [zfr, Nat.reduceEqDiff, Nat.reduceLT, ↓reduceIte])
  repeat' (first | (apply o_op; (solve | (conv => lhs; simp (disch := omega) only [zev, pickV_bool, zva, ↓reduceIte, Nat.reduceEqDiff])); (solve | (conv => lhs; simp only [zfr, Nat.reduceEqDiff, Nat.reduceLT, ↓reduceIte]))) | (apply o_yes; (solve | (conv => lhs; simp only [zva, ↓reduceIte, Nat.reduceEqDiff])); (solve | rfl)) | (apply o_no; (solve | (conv => lhs; simp only [zva, ↓reduceIte, Nat.reduceEqDiff])); (solve | decide); (solve | (conv => lhs; simp only [zfr, Nat.reduceEqDiff, Nat.reduceLT, ↓reduceIte]))) | (apply o_end; (solve | (conv => lhs; simp only [zdr, inl, Nat.reduceEqDiff, or_false, or_true, ↓reduceIte]))) | apply g_seq | apply g_region | apply g_next | apply g_block | apply g_out | (apply g_true; (solve | (conv => lhs; simp only [zva, ↓reduceIte, Nat.reduceEqDiff]))) | (apply g_false; (solve | (conv => lhs; simp only [zva, ↓reduceIte, Nat.reduceEqDiff]))) | apply g_here | apply g_exit | apply g_retc | apply g_retb | apply g_ret)
  exact ⟨.inr rfl, _, rfl, rfl, rfl⟩
end Gc
end
section
/- Trees of the program in the heap; contracts: the set and the least beast of a tree. -/
set_option linter.unusedVariables false
set_option linter.unusedSimpArgs false
namespace Gc
mutual
/-- A value is a tree, in blocks of which P speaks. -/
def TreeAt (P : Nat → Prop) (h : Heap) : Tr → Val → Prop
  | .leaf s, v => v = .iface Ty.breed_beast (.agg [.int .i64 s])
  | .node s l, v => ∃ k o c vs, v = .iface Ty.breed_family (.agg [.int .i64 s, .slice k o l.length c]) ∧ P k ∧ spread h 1 (.slice k o l.length c) = some (l.length, vs) ∧ TreesAt P h l vs
def TreesAt (P : Nat → Prop) (h : Heap) : List Tr → List Val → Prop
  | [], vs => vs = []
  | t :: l, vs => ∃ v r, vs = v :: r ∧ TreeAt P h t v ∧ TreesAt P h l r
end
mutual
theorem TreeAt.keep {P Q : Nat → Prop} {h h' : Heap} (hk : ∀ k, P k → h'.get k = h.get k) (hq : ∀ k, P k → Q k) : ∀ (t : Tr) (v : Val), TreeAt P h t v → TreeAt Q h' t v
  | .leaf s, v, e => by simpa [TreeAt] using e
  | .node s l, v, e => by
    simp only [TreeAt] at e ⊢
    obtain ⟨k, o, c, vs, e1, e2, e3, e4⟩ := e
    exact ⟨k, o, c, vs, e1, hq k e2, spread_keep (P := P) e3 (.inr e2) hk, TreesAt.keep hk hq l vs e4⟩
theorem TreesAt.keep {P Q : Nat → Prop} {h h' : Heap} (hk : ∀ k, P k → h'.get k = h.get k) (hq : ∀ k, P k → Q k) : ∀ (l : List Tr) (vs : List Val), TreesAt P h l vs → TreesAt Q h' l vs
  | [], vs, e => by simpa [TreesAt] using e
  | t :: l, vs, e => by
    simp only [TreesAt] at e ⊢
    obtain ⟨v, r, e1, e2, e3⟩ := e
    exact ⟨v, r, e1, TreeAt.keep hk hq t v e2, TreesAt.keep hk hq l r e3⟩
end
theorem TreesAt.length {P : Nat → Prop} {h : Heap} : ∀ {l : List Tr} {vs : List Val}, TreesAt P h l vs → vs.length = l.length
  | [], vs, e => by simp only [TreesAt] at e; simp [e]
  | t :: l, vs, e => by
    simp only [TreesAt] at e
    obtain ⟨v, r, rfl, _, e⟩ := e
    simp [e.length]
theorem TreesAt.get {P : Nat → Prop} {h : Heap} : ∀ {l : List Tr} {vs : List Val}, TreesAt P h l vs → ∀ {i : Nat} {t : Tr}, l[i]? = some t → ∃ v, vs[i]? = some v ∧ TreeAt P h t v
  | [], vs, e, i, t, ht => by simp at ht
  | t :: l, vs, e, i, u, ht => by
    simp only [TreesAt] at e
    obtain ⟨v, r, rfl, e1, e⟩ := e
    cases i with
    | zero => simp at ht; subst ht; exact ⟨v, rfl, e1⟩
    | succ i => simpa using e.get (i := i) (by simpa using ht)
theorem TreeAt.iface {P : Nat → Prop} {h : Heap} {t : Tr} {v : Val} (e : TreeAt P h t v) : ∃ ty cs, v = .iface ty (.agg (.int .i64 t.set :: cs)) ∧ (ty = Ty.breed_beast ∨ ty = Ty.breed_family) := by
  cases t with
  | leaf s => simp only [TreeAt] at e; exact ⟨_, _, e, .inl rfl⟩
  | node s l => simp only [TreeAt] at e; obtain ⟨k, o, c, vs, e1, _⟩ := e; exact ⟨_, _, e1, .inr rfl⟩
variable {E : Env} {base kept : Nat} {h : Heap}
/-- The set of a tree, by its method. -/
theorem o_beasts {l : List Nat} (hE : E.Has tabs05 l) (hf : F.breed_set_beasts ∈ l) {P : Nat → Prop} {t : Tr} {v : Val} {x : Opd} {fr fr' : Frame} {d : Option Nat} {prot dr : Bool} {dl : List Nat} {os : List ROp} {k : List Item} {R : Post}
    (hx : x.ev fr = v) (ht : TreeAt P h t v) (f : fr.dst d (.int .i64 t.set) = fr') (g : AtOps E base kept dr dl os k fr' h R) : AtOps E base kept dr dl (⟨d, none, .call prot (.inv x M.breed_beasts) []⟩ :: os) k fr h R := by
  subst f
  obtain ⟨ty, cs, rfl, hty⟩ := ht.iface
  have hm : E.method ty M.breed_beasts = some (F.breed_set_beasts, some (false, 0, 1)) := by
    rcases hty with rfl | rfl
    · exact (hE _ hf).2.2 _ _ _ rfl
    · exact (hE _ hf).2.2 _ _ _ rfl
  refine o_call (f := F.breed_set_beasts) (vs := [.int .i64 t.set]) ?_ (beasts_run hE hf) ?_
  · simp only [Callee.find, hx, hm, part, List.map_nil]
    simp [Val.ofCells]
  · rintro _ _ ⟨rfl, rfl⟩
    exact g
theorem first_run {l : List Nat} (hE : E.Has tabs05 l) (hf : ∀ f ∈ [F.breed_first, F.breed_set_beasts, F.bits_TrailingZeros, F.bits_TrailingZeros64], f ∈ l) (tb : Tables h) {P : Nat → Prop} {t : Tr} {v : Val} (ht : TreeAt P h t v) (h0 : t.set ≠ 0) (h1 : t.set < 256) :
    CallV E base F.breed_first [v] h fun r h' => r = .int .i64 (first t) ∧ h' = h := by
  refine c_begin hE (hf _ (by simp)) rfl (by decide) (by decide) ?_
  simp only [T.breed_first, Frame.enterFrom, Nat.zero_add, Nat.reduceAdd]
  repeat' (first | (apply o_op; (solve | (conv => lhs; simp (disch := omega) only [zev, pickV_bool, zva, ↓reduceIte, Nat.reduceEqDiff])); (solve | (conv => lhs; simp only [zfr, Nat.reduceEqDiff, Nat.reduceLT, ↓reduceIte]))) | (apply o_yes; (solve | (conv => lhs; simp only [zva, ↓reduceIte, Nat.reduceEqDiff])); (solve | rfl)) | (apply o_no; (solve | (conv => lhs; simp only [zva, ↓reduceIte, Nat.reduceEqDiff])); (solve | decide); (solve | (conv => lhs; simp only [zfr, Nat.reduceEqDiff, Nat.reduceLT, ↓reduceIte]))) | (apply o_end; (solve | (conv => lhs; simp only [zdr, inl, Nat.reduceEqDiff, or_false, or_true, ↓reduceIte]))) | apply g_seq | apply g_region | apply g_next | apply g_block | apply g_out | (apply g_true; (solve | (conv => lhs; simp only [zva, ↓reduceIte, Nat.reduceEqDiff]))) | (apply g_false; (solve | (conv => lhs; simp only [zva, ↓reduceIte, Nat.reduceEqDiff]))) | apply g_here | apply g_exit | apply g_retc | apply g_retb | apply g_ret)
  refine o_beasts hE (hf _ (by simp)) (by simp only [zva, ↓reduceIte, Nat.reduceEqDiff]) ht rfl ?_
  (conv => arg 8; simp only [zfr, Nat.reduceEqDiff, Nat.reduceLT, ↓reduceIte])
  have e1 : Go.IntKind.wrap .u64 (t.set : Int) = t.set := _root_.Go.IntWalk.u64_in _ (by omega)
  repeat' (first | (apply o_op; (solve | (conv => lhs; simp (disch := omega) only [zev, pickV_bool, zva, ↓reduceIte, Nat.reduceEqDiff, e1])); (solve | (conv => lhs; simp only [zfr, Nat.reduceEqDiff, Nat.reduceLT, ↓reduceIte]))) | (apply o_yes; (solve | (conv => lhs; simp only [zva, ↓reduceIte, Nat.reduceEqDiff, e1])); (solve | rfl)) | (apply o_no; (solve | (conv => lhs; simp only [zva, ↓reduceIte, Nat.reduceEqDiff, e1])); (solve | decide); (solve | (conv => lhs; simp only [zfr, Nat.reduceEqDiff, Nat.reduceLT, ↓reduceIte]))) | (apply o_end; (solve | (conv => lhs; simp only [zdr, inl, Nat.reduceEqDiff, or_false, or_true, ↓reduceIte]))) | apply g_seq | apply g_region | apply g_next | apply g_block | apply g_out | (apply g_true; (solve | (conv => lhs; simp only [zva, ↓reduceIte, Nat.reduceEqDiff, e1]))) | (apply g_false; (solve | (conv => lhs; simp only [zva, ↓reduceIte, Nat.reduceEqDiff, e1]))) | apply g_here | apply g_exit | apply g_retc | apply g_retb | apply g_ret)
  (apply o_call; (solve | (conv => lhs; simp only [Callee.find, List.map_cons, List.map_nil, List.cons_append, List.nil_append, zva, ↓reduceIte, Nat.reduceEqDiff])))
  · exact tz_run hE (fun f hf' => hf f (by simp at hf' ⊢; omega)) tb h0 h1
  rintro _ _ ⟨rfl, rfl⟩
  (conv => arg 8; simp only [zfr, Nat.reduceEqDiff, Nat.reduceLT, ↓reduceIte])
  repeat' (first | (apply o_op; (solve | (conv => lhs; simp (disch := omega) only [zev, pickV_bool, zva, ↓reduceIte, Nat.reduceEqDiff])); (solve | (conv => lhs; simp only [zfr, Nat.reduceEqDiff, Nat.reduceLT, ↓reduceIte]))) | (apply o_yes; (solve | (conv => lhs; simp only [zva, ↓reduceIte, Nat.reduceEqDiff])); (solve | rfl)) | (apply o_no; (solve | (conv => lhs; simp only [zva, ↓reduceIte, Nat.reduceEqDiff])); (solve | decide); (solve | (conv => lhs; simp only [zfr, Nat.reduceEqDiff, Nat.reduceLT, ↓reduceIte]))) | (apply o_end; (solve | (conv => lhs; simp only [zdr, inl, Nat.reduceEqDiff, or_false, or_true, ↓reduceIte]))) | apply g_seq | apply g_region | apply g_next | apply g_block | apply g_out | (apply g_true; (solve | (conv => lhs; simp only [zva, ↓reduceIte, Nat.reduceEqDiff]))) | (apply g_false; (solve | (conv => lhs; simp only [zva, ↓reduceIte, Nat.reduceEqDiff]))) | apply g_here | apply g_exit | apply g_retc | apply g_retb | apply g_ret)
  exact ⟨.inr rfl, _, rfl, rfl, rfl⟩
end Gc
end
section
/- Contracts: the digit of a small number. -/
set_option linter.unusedVariables false
set_option linter.unusedSimpArgs false
namespace Gc
variable {E : Env} {base : Nat} {h : Heap}
theorem small_run {l : List Nat} (hE : E.Has tabs05 l) (hf : F.istrconv_small ∈ l) {i : Nat} (hi : i < 8) :
    CallV E base F.istrconv_small [.int .i64 i] h fun v h' => v = .str [digit i] ∧ h' = h := by
  refine c_begin hE hf rfl (by decide) (by decide) ?_
  simp only [T.istrconv_small, Frame.enterFrom, Nat.zero_add, Nat.reduceAdd]
  have d1 : decide ((i : Int) < 10) = true := decide_eq_true (by omega)
  have b1 : boundV (.int .i64 (i : Int)) = some (some i) := by rw [boundV_int (by omega)]; simp
  have b2 : boundV (.int .i64 ((i : Int) + 1)) = some (some (i + 1)) := by rw [boundV_int (by omega)]; congr 2
  have s1 : strSlcV h (some (some i)) (some (some (i + 1))) (.str [48, 49, 50, 51, 52, 53, 54, 55, 56, 57, 97, 98, 99, 100, 101, 102, 103, 104, 105, 106, 107, 108, 109, 110, 111, 112, 113, 114, 115, 116, 117, 118, 119, 120, 121, 122]) = some (.str [digit i], h) := by
    rw [strSlcV_mid (by omega) (by simp; omega)]
    congr 3
    have : ∀ i : Fin 8, List.drop i.val (List.take (i.val + 1) ([48, 49, 50, 51, 52, 53, 54, 55, 56, 57, 97, 98, 99, 100, 101, 102, 103, 104, 105, 106, 107, 108, 109, 110, 111, 112, 113, 114, 115, 116, 117, 118, 119, 120, 121, 122] : List UInt8)) = [digit i.val] := by decide +kernel
    exact this ⟨i, hi⟩
  repeat' (first | (apply o_op; (solve | (conv => lhs; simp (disch := omega) only [zev, pickV_bool, zva, ↓reduceIte, Nat.reduceEqDiff, d1, b1, b2, s1])); (solve | (conv => lhs; simp only [zfr, Nat.reduceEqDiff, Nat.reduceLT, ↓reduceIte]))) | (apply o_yes; (solve | (conv => lhs; simp only [zva, ↓reduceIte, Nat.reduceEqDiff, d1, b1, b2, s1])); (solve | rfl)) | (apply o_no; (solve | (conv => lhs; simp only [zva, ↓reduceIte, Nat.reduceEqDiff, d1, b1, b2, s1])); (solve | decide); (solve | (conv => lhs; simp only [zfr, Nat.reduceEqDiff, Nat.reduceLT, ↓reduceIte]))) | (apply o_end; (solve | (conv => lhs; simp only [zdr, inl, Nat.reduceEqDiff, or_false, or_true, ↓reduceIte]))) | apply g_seq | apply g_region | apply g_next | apply g_block | apply g_out | (apply g_true; (solve | (conv => lhs; simp only [zva, ↓reduceIte, Nat.reduceEqDiff, d1, b1, b2, s1]))) | (apply g_false; (solve | (conv => lhs; simp only [zva, ↓reduceIte, Nat.reduceEqDiff, d1, b1, b2, s1]))) | apply g_here | apply g_exit | apply g_retc | apply g_retb | apply g_ret)
  exact ⟨.inr rfl, _, rfl, rfl, rfl⟩
theorem formatInt_run {l : List Nat} (hE : E.Has tabs05 l) (hf : ∀ f ∈ [F.istrconv_FormatInt, F.istrconv_small], f ∈ l) {i : Nat} (hi : i < 8) :
    CallV E base F.istrconv_FormatInt [.int .i64 i, .int .i64 10] h fun v h' => v = .str [digit i] ∧ h' = h := by
  refine c_begin hE (hf _ (by simp)) rfl (by decide) (by decide) ?_
  simp only [T.istrconv_FormatInt, Frame.enterFrom, Nat.zero_add, Nat.reduceAdd]
  have e1 : ((10 : Int) == 10) = true := rfl
  have d1 : decide ((0 : Int) ≤ (i : Int)) = true := decide_eq_true (by omega)
  have d2 : decide ((i : Int) < 100) = true := decide_eq_true (by omega)
  repeat' (first | (apply o_op; (solve | (conv => lhs; simp (disch := omega) only [zev, pickV_bool, zva, ↓reduceIte, Nat.reduceEqDiff, e1, d1, d2])); (solve | (conv => lhs; simp only [zfr, Nat.reduceEqDiff, Nat.reduceLT, ↓reduceIte]))) | (apply o_yes; (solve | (conv => lhs; simp only [zva, ↓reduceIte, Nat.reduceEqDiff, e1, d1, d2])); (solve | rfl)) | (apply o_no; (solve | (conv => lhs; simp only [zva, ↓reduceIte, Nat.reduceEqDiff, e1, d1, d2])); (solve | decide); (solve | (conv => lhs; simp only [zfr, Nat.reduceEqDiff, Nat.reduceLT, ↓reduceIte]))) | (apply o_end; (solve | (conv => lhs; simp only [zdr, inl, Nat.reduceEqDiff, or_false, or_true, ↓reduceIte]))) | apply g_seq | apply g_region | apply g_next | apply g_block | apply g_out | (apply g_true; (solve | (conv => lhs; simp only [zva, ↓reduceIte, Nat.reduceEqDiff, e1, d1, d2]))) | (apply g_false; (solve | (conv => lhs; simp only [zva, ↓reduceIte, Nat.reduceEqDiff, e1, d1, d2]))) | apply g_here | apply g_exit | apply g_retc | apply g_retb | apply g_ret)
  (apply o_call; (solve | (conv => lhs; simp only [Callee.find, List.map_cons, List.map_nil, List.cons_append, List.nil_append, zva, ↓reduceIte, Nat.reduceEqDiff])))
  · exact small_run hE (hf _ (by simp)) hi
  rintro _ _ ⟨rfl, rfl⟩
  (conv => arg 8; simp only [zfr, Nat.reduceEqDiff, Nat.reduceLT, ↓reduceIte])
  repeat' (first | (apply o_op; (solve | (conv => lhs; simp (disch := omega) only [zev, pickV_bool, zva, ↓reduceIte, Nat.reduceEqDiff])); (solve | (conv => lhs; simp only [zfr, Nat.reduceEqDiff, Nat.reduceLT, ↓reduceIte]))) | (apply o_yes; (solve | (conv => lhs; simp only [zva, ↓reduceIte, Nat.reduceEqDiff])); (solve | rfl)) | (apply o_no; (solve | (conv => lhs; simp only [zva, ↓reduceIte, Nat.reduceEqDiff])); (solve | decide); (solve | (conv => lhs; simp only [zfr, Nat.reduceEqDiff, Nat.reduceLT, ↓reduceIte]))) | (apply o_end; (solve | (conv => lhs; simp only [zdr, inl, Nat.reduceEqDiff, or_false, or_true, ↓reduceIte]))) | apply g_seq | apply g_region | apply g_next | apply g_block | apply g_out | (apply g_true; (solve | (conv => lhs; simp only [zva, ↓reduceIte, Nat.reduceEqDiff]))) | (apply g_false; (solve | (conv => lhs; simp only [zva, ↓reduceIte, Nat.reduceEqDiff]))) | apply g_here | apply g_exit | apply g_retc | apply g_retb | apply g_ret)
  exact ⟨.inr rfl, _, rfl, rfl, rfl⟩
theorem itoa2_run {l : List Nat} (hE : E.Has tabs05 l) (hf : ∀ f ∈ [F.istrconv_Itoa, F.istrconv_FormatInt, F.istrconv_small], f ∈ l) {i : Nat} (hi : i < 8) :
    CallV E base F.istrconv_Itoa [.int .i64 i] h fun v h' => v = .str [digit i] ∧ h' = h := by
  refine c_begin hE (hf _ (by simp)) rfl (by decide) (by decide) ?_
  simp only [T.istrconv_Itoa, Frame.enterFrom, Nat.zero_add, Nat.reduceAdd]
  repeat' (first | (apply o_op; (solve | (conv => lhs; simp (disch := omega) only [zev, pickV_bool, zva, ↓reduceIte, Nat.reduceEqDiff])); (solve | (conv => lhs; simp only [zfr, Nat.reduceEqDiff, Nat.reduceLT, ↓reduceIte]))) | (apply o_yes; (solve | (conv => lhs; simp only [zva, ↓reduceIte, Nat.reduceEqDiff])); (solve | rfl)) | (apply o_no; (solve | (conv => lhs; simp only [zva, ↓reduceIte, Nat.reduceEqDiff])); (solve | decide); (solve | (conv => lhs; simp only [zfr, Nat.reduceEqDiff, Nat.reduceLT, ↓reduceIte]))) | (apply o_end; (solve | (conv => lhs; simp only [zdr, inl, Nat.reduceEqDiff, or_false, or_true, ↓reduceIte]))) | apply g_seq | apply g_region | apply g_next | apply g_block | apply g_out | (apply g_true; (solve | (conv => lhs; simp only [zva, ↓reduceIte, Nat.reduceEqDiff]))) | (apply g_false; (solve | (conv => lhs; simp only [zva, ↓reduceIte, Nat.reduceEqDiff]))) | apply g_here | apply g_exit | apply g_retc | apply g_retb | apply g_ret)
  (apply o_call; (solve | (conv => lhs; simp only [Callee.find, List.map_cons, List.map_nil, List.cons_append, List.nil_append, zva, ↓reduceIte, Nat.reduceEqDiff])))
  · exact formatInt_run hE (fun f hf' => hf f (by simp at hf' ⊢; omega)) hi
  rintro _ _ ⟨rfl, rfl⟩
  (conv => arg 8; simp only [zfr, Nat.reduceEqDiff, Nat.reduceLT, ↓reduceIte])
  repeat' (first | (apply o_op; (solve | (conv => lhs; simp (disch := omega) only [zev, pickV_bool, zva, ↓reduceIte, Nat.reduceEqDiff])); (solve | (conv => lhs; simp only [zfr, Nat.reduceEqDiff, Nat.reduceLT, ↓reduceIte]))) | (apply o_yes; (solve | (conv => lhs; simp only [zva, ↓reduceIte, Nat.reduceEqDiff])); (solve | rfl)) | (apply o_no; (solve | (conv => lhs; simp only [zva, ↓reduceIte, Nat.reduceEqDiff])); (solve | decide); (solve | (conv => lhs; simp only [zfr, Nat.reduceEqDiff, Nat.reduceLT, ↓reduceIte]))) | (apply o_end; (solve | (conv => lhs; simp only [zdr, inl, Nat.reduceEqDiff, or_false, or_true, ↓reduceIte]))) | apply g_seq | apply g_region | apply g_next | apply g_block | apply g_out | (apply g_true; (solve | (conv => lhs; simp only [zva, ↓reduceIte, Nat.reduceEqDiff]))) | (apply g_false; (solve | (conv => lhs; simp only [zva, ↓reduceIte, Nat.reduceEqDiff]))) | apply g_here | apply g_exit | apply g_retc | apply g_retb | apply g_ret)
  exact ⟨.inr rfl, _, rfl, rfl, rfl⟩
theorem itoa_run {l : List Nat} (hE : E.Has tabs05 l) (hf : ∀ f ∈ [F.strconv_Itoa, F.istrconv_Itoa, F.istrconv_FormatInt, F.istrconv_small], f ∈ l) {i : Nat} (hi : i < 8) :
    CallV E base F.strconv_Itoa [.int .i64 i] h fun v h' => v = .str [digit i] ∧ h' = h := by
  refine c_begin hE (hf _ (by simp)) rfl (by decide) (by decide) ?_
  simp only [T.strconv_Itoa, Frame.enterFrom, Nat.zero_add, Nat.reduceAdd]
  repeat' (first | (apply o_op; (solve | (conv => lhs; simp (disch := omega) only [zev, pickV_bool, zva, ↓reduceIte, Nat.reduceEqDiff])); (solve | (conv => lhs; simp only [zfr, Nat.reduceEqDiff, Nat.reduceLT, ↓reduceIte]))) | (apply o_yes; (solve | (conv => lhs; simp only [zva, ↓reduceIte, Nat.reduceEqDiff])); (solve | rfl)) | (apply o_no; (solve | (conv => lhs; simp only [zva, ↓reduceIte, Nat.reduceEqDiff])); (solve | decide); (solve | (conv => lhs; simp only [zfr, Nat.reduceEqDiff, Nat.reduceLT, ↓reduceIte]))) | (apply o_end; (solve | (conv => lhs; simp only [zdr, inl, Nat.reduceEqDiff, or_false, or_true, ↓reduceIte]))) | apply g_seq | apply g_region | apply g_next | apply g_block | apply g_out | (apply g_true; (solve | (conv => lhs; simp only [zva, ↓reduceIte, Nat.reduceEqDiff]))) | (apply g_false; (solve | (conv => lhs; simp only [zva, ↓reduceIte, Nat.reduceEqDiff]))) | apply g_here | apply g_exit | apply g_retc | apply g_retb | apply g_ret)
  (apply o_call; (solve | (conv => lhs; simp only [Callee.find, List.map_cons, List.map_nil, List.cons_append, List.nil_append, zva, ↓reduceIte, Nat.reduceEqDiff])))
  · exact itoa2_run hE (fun f hf' => hf f (by simp at hf' ⊢; omega)) hi
  rintro _ _ ⟨rfl, rfl⟩
  (conv => arg 8; simp only [zfr, Nat.reduceEqDiff, Nat.reduceLT, ↓reduceIte])
  repeat' (first | (apply o_op; (solve | (conv => lhs; simp (disch := omega) only [zev, pickV_bool, zva, ↓reduceIte, Nat.reduceEqDiff])); (solve | (conv => lhs; simp only [zfr, Nat.reduceEqDiff, Nat.reduceLT, ↓reduceIte]))) | (apply o_yes; (solve | (conv => lhs; simp only [zva, ↓reduceIte, Nat.reduceEqDiff])); (solve | rfl)) | (apply o_no; (solve | (conv => lhs; simp only [zva, ↓reduceIte, Nat.reduceEqDiff])); (solve | decide); (solve | (conv => lhs; simp only [zfr, Nat.reduceEqDiff, Nat.reduceLT, ↓reduceIte]))) | (apply o_end; (solve | (conv => lhs; simp only [zdr, inl, Nat.reduceEqDiff, or_false, or_true, ↓reduceIte]))) | apply g_seq | apply g_region | apply g_next | apply g_block | apply g_out | (apply g_true; (solve | (conv => lhs; simp only [zva, ↓reduceIte, Nat.reduceEqDiff]))) | (apply g_false; (solve | (conv => lhs; simp only [zva, ↓reduceIte, Nat.reduceEqDiff]))) | apply g_here | apply g_exit | apply g_retc | apply g_retb | apply g_ret)
  exact ⟨.inr rfl, _, rfl, rfl, rfl⟩
end Gc
end
section
/- Contracts: the text of a tree. -/
set_option linter.unusedVariables false
set_option linter.unusedSimpArgs false
namespace Gc
variable {E : Env} {base kept : Nat} {h : Heap}
def needText : List Nat := [F.breed_beast_text, F.breed_family_text, F.strings_Join, F.strconv_Itoa, F.istrconv_Itoa, F.istrconv_FormatInt, F.istrconv_small, F.bits_TrailingZeros, F.bits_TrailingZeros64]
theorem least_lt : ∀ {x : Nat}, x < 256 → least x < 8 := by
  have : ∀ x : Fin 256, least x.val < 8 := by decide +kernel
  intro x hx
  exact this ⟨x, hx⟩
theorem beastText_run {l : List Nat} (hE : E.Has tabs05 l) (hf : ∀ f ∈ needText, f ∈ l) (w : h.Wf) (tb : Tables h) {s : Nat} (h0 : s ≠ 0) (h1 : s < 256) :
    CallV E h.size F.breed_beast_text [.agg [.int .i64 s]] h fun v h' => v = .str [digit (least s)] ∧ Keep (· < h.size) h h' ∧ h'.Wf ∧ h.size ≤ h'.size := by
  refine c_begin hE (hf _ (by decide)) rfl (by decide) (by decide) ?_
  simp only [T.breed_beast_text, Frame.enterFrom, Nat.zero_add, Nat.reduceAdd]
  have x1 : boxV h h.size none (.agg [.int .i64 s]) = some (.ptr h.size 0, h.push (some ⟨[.int .i64 s], true, 0⟩)) := boxV_new rfl
  have l1 : (h.push (some ⟨[.int .i64 s], true, 0⟩)).load false 1 h.size 0 = some (.int .i64 s) := load_one get_push_self rfl
  have hk : Keep (· < h.size) h (h.push (some ⟨[.int .i64 s], true, 0⟩)) := keep_push fun k hk => hk
  have tb' : Tables (h.push (some ⟨[.int .i64 s], true, 0⟩)) := by
    obtain ⟨⟨b, hb, hb'⟩, ⟨c, hc, hc'⟩⟩ := tb
    exact ⟨⟨b, by rw [hk _ (w.lt hb)]; exact hb, hb'⟩, ⟨c, by rw [hk _ (w.lt hc)]; exact hc, hc'⟩⟩
  repeat' (first | (apply o_op; (solve | (conv => lhs; simp (disch := omega) only [zev, pickV_bool, zva, ↓reduceIte, Nat.reduceEqDiff, x1, l1, Option.map_none])); (solve | (conv => lhs; simp only [zfr, Nat.reduceEqDiff, Nat.reduceLT, ↓reduceIte]))) | (apply o_yes; (solve | (conv => lhs; simp only [zva, ↓reduceIte, Nat.reduceEqDiff, x1, l1, Option.map_none])); (solve | rfl)) | (apply o_no; (solve | (conv => lhs; simp only [zva, ↓reduceIte, Nat.reduceEqDiff, x1, l1, Option.map_none])); (solve | decide); (solve | (conv => lhs; simp only [zfr, Nat.reduceEqDiff, Nat.reduceLT, ↓reduceIte]))) | (apply o_end; (solve | (conv => lhs; simp only [zdr, inl, Nat.reduceEqDiff, or_false, or_true, ↓reduceIte]))) | apply g_seq | apply g_region | apply g_next | apply g_block | apply g_out | (apply g_true; (solve | (conv => lhs; simp only [zva, ↓reduceIte, Nat.reduceEqDiff, x1, l1, Option.map_none]))) | (apply g_false; (solve | (conv => lhs; simp only [zva, ↓reduceIte, Nat.reduceEqDiff, x1, l1, Option.map_none]))) | apply g_here | apply g_exit | apply g_retc | apply g_retb | apply g_ret)
  (apply o_call; (solve | (conv => lhs; simp only [Callee.find, List.map_cons, List.map_nil, List.cons_append, List.nil_append, zva, ↓reduceIte, Nat.reduceEqDiff])))
  · exact tz_run hE (fun f hf' => hf f (by simp [needText] at hf' ⊢; omega)) tb' h0 h1
  rintro _ _ ⟨rfl, rfl⟩
  (conv => arg 8; simp only [zfr, Nat.reduceEqDiff, Nat.reduceLT, ↓reduceIte])
  (apply o_call; (solve | (conv => lhs; simp only [Callee.find, List.map_cons, List.map_nil, List.cons_append, List.nil_append, zva, ↓reduceIte, Nat.reduceEqDiff])))
  · exact itoa_run hE (fun f hf' => hf f (by simp [needText] at hf' ⊢; omega)) (least_lt h1)
  rintro _ _ ⟨rfl, rfl⟩
  (conv => arg 8; simp only [zfr, Nat.reduceEqDiff, Nat.reduceLT, ↓reduceIte])
  repeat' (first | (apply o_op; (solve | (conv => lhs; simp (disch := omega) only [zev, pickV_bool, zva, ↓reduceIte, Nat.reduceEqDiff])); (solve | (conv => lhs; simp only [zfr, Nat.reduceEqDiff, Nat.reduceLT, ↓reduceIte]))) | (apply o_yes; (solve | (conv => lhs; simp only [zva, ↓reduceIte, Nat.reduceEqDiff])); (solve | rfl)) | (apply o_no; (solve | (conv => lhs; simp only [zva, ↓reduceIte, Nat.reduceEqDiff])); (solve | decide); (solve | (conv => lhs; simp only [zfr, Nat.reduceEqDiff, Nat.reduceLT, ↓reduceIte]))) | (apply o_end; (solve | (conv => lhs; simp only [zdr, inl, Nat.reduceEqDiff, or_false, or_true, ↓reduceIte]))) | apply g_seq | apply g_region | apply g_next | apply g_block | apply g_out | (apply g_true; (solve | (conv => lhs; simp only [zva, ↓reduceIte, Nat.reduceEqDiff]))) | (apply g_false; (solve | (conv => lhs; simp only [zva, ↓reduceIte, Nat.reduceEqDiff]))) | apply g_here | apply g_exit | apply g_retc | apply g_retb | apply g_ret)
  exact ⟨.inr rfl, _, rfl, rfl, hk, wf_push w _, by simp⟩
end Gc
end
section
/- Contracts: the text of every tree. -/
set_option linter.unusedVariables false
set_option linter.unusedSimpArgs false
namespace Gc
variable {E : Env} {base kept : Nat} {h : Heap}
theorem Tables.keep {h h' : Heap} (tb : Tables h) (w : h.Wf) (hk : Keep (· < h.size) h h') : Tables h' := by
  obtain ⟨⟨b, hb, hb'⟩, ⟨c, hc, hc'⟩⟩ := tb
  exact ⟨⟨b, by rw [hk _ (w.lt hb)]; exact hb, hb'⟩, ⟨c, by rw [hk _ (w.lt hc)]; exact hc, hc'⟩⟩
/-- The sets of a tree's beasts are sets of one beast among eight; the texts are not too long. -/
inductive Tr.Ok : Tr → Prop where
  | leaf {s : Nat} (h0 : s ≠ 0) (h1 : s < 256) : Tr.Ok (.leaf s)
  | node {s : Nat} {l : List Tr} (hl : ∀ t ∈ l, Tr.Ok t) (hlen : (joinBytes [44] (Tr.texts l)).length ≤ 1000) (hn : l.length ≤ 8) : Tr.Ok (.node s l)
/-- What a call that only makes new blocks leaves. -/
def Left' (h h' : Heap) : Prop := Keep (· < h.size) h h' ∧ h'.Wf ∧ h.size ≤ h'.size
theorem Left'.refl {h : Heap} (w : h.Wf) : Left' h h := ⟨Keep.refl, w, Nat.le_refl _⟩
theorem Left'.trans {h h' h'' : Heap} (a : Left' h h') (b : Left' h' h'') : Left' h h'' :=
  ⟨fun k hk => (b.1 k (Nat.lt_of_lt_of_le hk a.2.2)).trans (a.1 k hk), b.2.1, Nat.le_trans a.2.2 b.2.2⟩
theorem left_push {h : Heap} (w : h.Wf) (b : Option Blk) : Left' h (h.push b) := ⟨keep_push fun k hk => hk, wf_push w _, by simp⟩
theorem texts_map : ∀ l : List Tr, Tr.texts l = l.map Tr.text
  | [] => rfl
  | a :: l => by simp [Tr.texts, texts_map l]
theorem texts_length {l : List Tr} : (Tr.texts l).length = l.length := by rw [texts_map]; simp
theorem asStrs_map : ∀ {l : List (List UInt8)}, asStrs (l.map .str) = some l
  | [] => rfl
  | a :: l => by simp [asStrs, asStrs_map (l := l)]
def TextOk (E : Env) (t : Tr) : Prop := ∀ (h : Heap) (v : Val) (P : Nat → Prop), h.Wf → Tables h → TreeAt P h t v → (∀ k, P k → k < h.size) → ∃ f args ty x, v = .iface ty x ∧ E.method ty M.breed_text = some (f, none) ∧ args = [x] ∧
  CallV E h.size f args h fun r h' => r = .str t.text ∧ Left' h h'
/-- The text of a tree, by its method. -/
theorem o_text {t : Tr} (ok : TextOk E t) {P : Nat → Prop} {v : Val} {x : Opd} {fr : Frame} {d : Option Nat} {prot dr : Bool} {dl : List Nat} {os : List ROp} {k : List Item} {R : Post} (w : h.Wf) (hb : base ≤ h.size) (tb : Tables h)
    (hx : x.ev fr = v) (ht : TreeAt P h t v) (hP : ∀ k, P k → k < h.size) (g : ∀ h', Left' h h' → AtOps E base kept dr dl os k (fr.dst d (.str t.text)) h' R) : AtOps E base kept dr dl (⟨d, none, .call prot (.inv x M.breed_text) []⟩ :: os) k fr h R := by
  obtain ⟨f, args, ty, y, rfl, hm, rfl, hc⟩ := ok h v P w tb ht hP
  refine o_pure (f := f) (vs := [y]) w hb ?_ hc ?_
  · simp only [Callee.find, hx, hm, List.map_nil]
  · rintro _ h' _ ⟨rfl, hl⟩
    exact g h' hl
theorem familyText_run {l : List Nat} (hE : E.Has tabs05 l) (hf : ∀ f ∈ needText, f ∈ l) (w : h.Wf) (tb : Tables h) {s : Nat} {ts : List Tr} {k o : Nat} {c : Option Nat} {vs : List Val} {P : Nat → Prop}
    (hs : spread h 1 (.slice k o ts.length c) = some (ts.length, vs)) (hk : P k) (ht : TreesAt P h ts vs) (hP : ∀ k, P k → k < h.size) (ok : ∀ t ∈ ts, TextOk E t) (hlen : (joinBytes [44] (Tr.texts ts)).length ≤ 1000) (hn : ts.length ≤ 8) :
    CallV E h.size F.breed_family_text [.agg [.int .i64 s, .slice k o ts.length c]] h fun v h' => v = .str (Tr.node s ts).text ∧ Left' h h' := by
  refine c_begin hE (hf _ (by decide)) rfl (by decide) (by decide) ?_
  simp only [T.breed_family_text, Frame.enterFrom, Nat.zero_add, Nat.reduceAdd]
  have x1 : boxV h h.size none (.agg [.int .i64 s, .slice k o ts.length c]) = some (.ptr h.size 0, h.push (some ⟨[.int .i64 s, .slice k o ts.length c], true, 0⟩)) := boxV_new rfl
  generalize hh1 : h.push (some ⟨[.int .i64 s, .slice k o ts.length c], true, 0⟩) = h1 at x1
  have l1 : h1.load false 1 h.size 1 = some (.slice k o ts.length c) := by subst hh1; exact load_one get_push_self rfl
  have L1 : Left' h h1 := by subst hh1; exact left_push w _
  repeat' (first | (apply o_op; (solve | (conv => lhs; simp (disch := omega) only [zev, pickV_bool, zva, ↓reduceIte, Nat.reduceEqDiff, x1, l1, Option.map_none])); (solve | (conv => lhs; simp only [zfr, Nat.reduceEqDiff, Nat.reduceLT, ↓reduceIte]))) | (apply o_yes; (solve | (conv => lhs; simp only [zva, ↓reduceIte, Nat.reduceEqDiff, x1, l1, Option.map_none])); (solve | rfl)) | (apply o_no; (solve | (conv => lhs; simp only [zva, ↓reduceIte, Nat.reduceEqDiff, x1, l1, Option.map_none])); (solve | decide); (solve | (conv => lhs; simp only [zfr, Nat.reduceEqDiff, Nat.reduceLT, ↓reduceIte]))) | (apply o_end; (solve | (conv => lhs; simp only [zdr, inl, Nat.reduceEqDiff, or_false, or_true, ↓reduceIte]))) | apply g_seq | apply g_region | apply g_next | apply g_block | apply g_out | (apply g_true; (solve | (conv => lhs; simp only [zva, ↓reduceIte, Nat.reduceEqDiff, x1, l1, Option.map_none]))) | (apply g_false; (solve | (conv => lhs; simp only [zva, ↓reduceIte, Nat.reduceEqDiff, x1, l1, Option.map_none]))) | apply g_here | apply g_exit | apply g_retc | apply g_retb | apply g_ret)
  have hks : ∀ h', Left' h h' → spread h' 1 (.slice k o ts.length c) = some (ts.length, vs) ∧ TreesAt P h' ts vs := fun h' L => ⟨spread_keep hs (.inr hk) (L.1.sub hP), TreesAt.keep (fun k p => L.1 k (hP k p)) (fun _ p => p) ts vs ht⟩
  refine loop_ind (fun m fr h2 => ∃ i av, i + m = ts.length ∧ fr = [(3, av), (7, .slice k o ts.length c), (8, .int .i64 (ts.length : Int)), (9, .int .i64 (i : Int))] ∧ Left' h h2 ∧ Acc h.size h2 1 av i (((Tr.texts ts).take i).map .str)) ?_ ts.length _ _
    ⟨0, .nils, by omega, rfl, L1, Acc.nil⟩
  rintro m fr h2 ⟨i, av, him, rfl, L2, ha⟩ ih
  obtain ⟨s2, t2⟩ := hks h2 L2
  by_cases hi : i < ts.length
  · have d1 : decide ((i : Int) < (ts.length : Int)) = true := decide_eq_true (by omega)
    obtain ⟨k', o', c', hv, e1, e2⟩ := spread_elem (ki := .i64) (fun s => by simp) s2 hi
    cases hv
    have hti : ts[i]? = some ts[i] := List.getElem?_eq_getElem hi
    obtain ⟨v, hv, tv⟩ := t2.get hti
    have e3 : h2.load false 1 k (o + i * 1) = some v := by
      rw [e2 false 1 (Nat.le_refl _)]
      have : (vs.drop (i * 1)).take 1 = [v] := by
        obtain ⟨hl, hv⟩ := List.getElem?_eq_some_iff.1 hv
        rw [Nat.mul_one, List.drop_eq_getElem_cons hl, hv]
        rfl
      rw [this]
      rfl
    repeat' (first | (apply o_op; (solve | (conv => lhs; simp (disch := omega) only [zev, pickV_bool, zva, ↓reduceIte, Nat.reduceEqDiff, d1, e1, e3])); (solve | (conv => lhs; simp only [zfr, Nat.reduceEqDiff, Nat.reduceLT, ↓reduceIte]))) | (apply o_yes; (solve | (conv => lhs; simp only [zva, ↓reduceIte, Nat.reduceEqDiff, d1, e1, e3])); (solve | rfl)) | (apply o_no; (solve | (conv => lhs; simp only [zva, ↓reduceIte, Nat.reduceEqDiff, d1, e1, e3])); (solve | decide); (solve | (conv => lhs; simp only [zfr, Nat.reduceEqDiff, Nat.reduceLT, ↓reduceIte]))) | (apply o_end; (solve | (conv => lhs; simp only [zdr, inl, Nat.reduceEqDiff, or_false, or_true, ↓reduceIte]))) | apply g_seq | apply g_region | apply g_next | apply g_block | apply g_out | (apply g_true; (solve | (conv => lhs; simp only [zva, ↓reduceIte, Nat.reduceEqDiff, d1, e1, e3]))) | (apply g_false; (solve | (conv => lhs; simp only [zva, ↓reduceIte, Nat.reduceEqDiff, d1, e1, e3]))) | apply g_here | apply g_exit | apply g_retc | apply g_retb | apply g_ret)
    refine o_text (ok _ (List.getElem_mem hi)) L2.2.1 L2.2.2 (tb.keep w L2.1) (by simp only [zva, ↓reduceIte, Nat.reduceEqDiff]) tv (fun k p => Nat.lt_of_lt_of_le (hP k p) L2.2.2) fun h3 L3 => ?_
    (conv => arg 8; simp only [zfr, Nat.reduceEqDiff, Nat.reduceLT, ↓reduceIte])
    have L4 := L2.trans L3
    have ha3 : Acc h.size h3 1 av i _ := ha.keep L3.1 L2.2.1
    have x2 : buildSliceV h3 h.size none 1 1 (fill [.str []] [(0, 1, .str ts[i].text)]) = some (.slice h3.size 0 1 (some 1), h3.push (some ⟨[.str ts[i].text], true, 1⟩)) := buildSliceV_new rfl
    have L5 := L4.trans (left_push L4.2.1 (some ⟨[.str ts[i].text], true, 1⟩))
    have ha4 : Acc h.size (h3.push (some ⟨[.str ts[i].text], true, 1⟩)) 1 av i _ := ha3.keep (fun k hk => get_push_lt hk) L4.2.1
    have sx : spread (h3.push (some ⟨[.str ts[i].text], true, 1⟩)) 1 (.slice h3.size 0 1 (some 1)) = some (1, [.str ts[i].text]) := spread_slice get_push_self (by simp)
    obtain ⟨h5, k5, a1, a2, a3, a4, a5, a6⟩ := append_acc (bytes := 16) L5.2.1 L5.2.2 ha4 sx (by omega) (by omega) (by omega) rfl (by unfold maxRoom; omega)
    repeat' (first | (apply o_op; (solve | (conv => lhs; simp (disch := omega) only [zev, pickV_bool, zva, ↓reduceIte, Nat.reduceEqDiff, x2, a1, Option.map_none])); (solve | (conv => lhs; simp only [zfr, Nat.reduceEqDiff, Nat.reduceLT, ↓reduceIte]))) | (apply o_yes; (solve | (conv => lhs; simp only [zva, ↓reduceIte, Nat.reduceEqDiff, x2, a1, Option.map_none])); (solve | rfl)) | (apply o_no; (solve | (conv => lhs; simp only [zva, ↓reduceIte, Nat.reduceEqDiff, x2, a1, Option.map_none])); (solve | decide); (solve | (conv => lhs; simp only [zfr, Nat.reduceEqDiff, Nat.reduceLT, ↓reduceIte]))) | (apply o_end; (solve | (conv => lhs; simp only [zdr, inl, Nat.reduceEqDiff, or_false, or_true, ↓reduceIte]))) | apply g_seq | apply g_region | apply g_next | apply g_block | apply g_out | (apply g_true; (solve | (conv => lhs; simp only [zva, ↓reduceIte, Nat.reduceEqDiff, x2, a1, Option.map_none]))) | (apply g_false; (solve | (conv => lhs; simp only [zva, ↓reduceIte, Nat.reduceEqDiff, x2, a1, Option.map_none]))) | apply g_here | apply g_exit | apply g_retc | apply g_retb | apply g_ret)
    refine ih (m - 1) _ _ (by omega) ⟨i + 1, .slice k5 0 (i + 1) none, by omega, by simp, ⟨fun j hj => ?_, a3, by have := L5.2.2; omega⟩, ?_⟩
    · have hap : Val.apart j av := by
        obtain ⟨_, _, ⟨rfl, _⟩ | ⟨q, rfl, hq, _⟩⟩ := ha
        · trivial
        · simp only [Val.apart]; omega
      rw [a6 j (Nat.lt_of_lt_of_le hj L5.2.2) hap, L5.1 j hj]
    · have : (Tr.texts ts).take (i + 1) = (Tr.texts ts).take i ++ [ts[i].text] := by
        rw [List.take_add_one]
        have : (Tr.texts ts)[i]? = some ts[i].text := by
          have : ∀ l : List Tr, Tr.texts l = l.map Tr.text := by
            intro l
            induction l with
            | nil => rfl
            | cons a l ih => simp [Tr.texts, ih]
          rw [this]
          simp [hti]
        rw [this]; rfl
      rw [this]
      simpa using a2
  · have d1 : decide ((i : Int) < (ts.length : Int)) = false := decide_eq_false (by omega)
    repeat' (first | (apply o_op; (solve | (conv => lhs; simp (disch := omega) only [zev, pickV_bool, zva, ↓reduceIte, Nat.reduceEqDiff, d1])); (solve | (conv => lhs; simp only [zfr, Nat.reduceEqDiff, Nat.reduceLT, ↓reduceIte]))) | (apply o_yes; (solve | (conv => lhs; simp only [zva, ↓reduceIte, Nat.reduceEqDiff, d1])); (solve | rfl)) | (apply o_no; (solve | (conv => lhs; simp only [zva, ↓reduceIte, Nat.reduceEqDiff, d1])); (solve | decide); (solve | (conv => lhs; simp only [zfr, Nat.reduceEqDiff, Nat.reduceLT, ↓reduceIte]))) | (apply o_end; (solve | (conv => lhs; simp only [zdr, inl, Nat.reduceEqDiff, or_false, or_true, ↓reduceIte]))) | apply g_seq | apply g_region | apply g_next | apply g_block | apply g_out | (apply g_true; (solve | (conv => lhs; simp only [zva, ↓reduceIte, Nat.reduceEqDiff, d1]))) | (apply g_false; (solve | (conv => lhs; simp only [zva, ↓reduceIte, Nat.reduceEqDiff, d1]))) | apply g_here | apply g_exit | apply g_retc | apply g_retb | apply g_ret)
    have hi' : i = ts.length := by omega
    subst hi'
    have htl : (Tr.texts ts).take ts.length = Tr.texts ts := List.take_of_length_le (by rw [texts_length]; exact Nat.le_refl _)
    rw [htl] at ha
    have hj : CallV E h.size F.strings_Join [av, .str [44]] h2 fun v h' => v = .str (joinBytes [44] (Tr.texts ts)) ∧ h' = h2 := by
      refine c_told ?_ ⟨rfl, rfl⟩
      rw [(hE _ (hf _ (by decide))).2.1]
      have hns : av.isStr = false := by
        obtain ⟨_, _, ⟨rfl, _⟩ | ⟨k, rfl, _⟩⟩ := ha <;> rfl
      simp only [tabs05, told05, if_true, joinV, hns, Bool.false_eq_true, if_false, ha.spread, asStrs_map, Option.bind_some]
      rw [if_pos ⟨by omega, by rw [texts_length]; omega⟩]
    (apply o_call; (solve | (conv => lhs; simp only [Callee.find, List.map_cons, List.map_nil, List.cons_append, List.nil_append, zva, ↓reduceIte, Nat.reduceEqDiff])))
    · exact hj
    rintro _ _ ⟨rfl, rfl⟩
    (conv => arg 8; simp only [zfr, Nat.reduceEqDiff, Nat.reduceLT, ↓reduceIte])
    have e1 : binOp .plain .add (.str [40]) (.str (joinBytes [44] (Tr.texts ts))) = some (.str ([40] ++ joinBytes [44] (Tr.texts ts))) := b_sadd (by simp [maxRoom]; omega)
    have e2 : binOp .plain .add (.str ([40] ++ joinBytes [44] (Tr.texts ts))) (.str [41]) = some (.str ([40] ++ joinBytes [44] (Tr.texts ts) ++ [41])) := b_sadd (by simp [maxRoom]; omega)
    repeat' (first | (apply o_op; (solve | (conv => lhs; simp (disch := omega) only [zev, pickV_bool, zva, ↓reduceIte, Nat.reduceEqDiff, e1, e2])); (solve | (conv => lhs; simp only [zfr, Nat.reduceEqDiff, Nat.reduceLT, ↓reduceIte]))) | (apply o_yes; (solve | (conv => lhs; simp only [zva, ↓reduceIte, Nat.reduceEqDiff, e1, e2])); (solve | rfl)) | (apply o_no; (solve | (conv => lhs; simp only [zva, ↓reduceIte, Nat.reduceEqDiff, e1, e2])); (solve | decide); (solve | (conv => lhs; simp only [zfr, Nat.reduceEqDiff, Nat.reduceLT, ↓reduceIte]))) | (apply o_end; (solve | (conv => lhs; simp only [zdr, inl, Nat.reduceEqDiff, or_false, or_true, ↓reduceIte]))) | apply g_seq | apply g_region | apply g_next | apply g_block | apply g_out | (apply g_true; (solve | (conv => lhs; simp only [zva, ↓reduceIte, Nat.reduceEqDiff, e1, e2]))) | (apply g_false; (solve | (conv => lhs; simp only [zva, ↓reduceIte, Nat.reduceEqDiff, e1, e2]))) | apply g_here | apply g_exit | apply g_retc | apply g_retb | apply g_ret)
    exact ⟨.inr rfl, _, rfl, by simp [tuple, Frame.get, Tr.text], L2⟩
end Gc
end
section
/- Contracts: the text of every tree, by recursion. -/
set_option linter.unusedVariables false
set_option linter.unusedSimpArgs false
namespace Gc
variable {E : Env}
theorem textOk {l : List Nat} (hE : E.Has tabs05 l) (hf : ∀ f ∈ needText, f ∈ l) {t : Tr} (ok : t.Ok) : TextOk E t := by
  induction ok with
  | @leaf s h0 h1 =>
    intro h v P w tb ht hP
    simp only [TreeAt] at ht
    refine ⟨_, _, _, _, ht, (hE _ (hf F.breed_beast_text (by decide))).2.2 _ _ _ rfl, rfl, ?_⟩
    exact (beastText_run hE hf w tb h0 h1).mono fun r h' p => ⟨by rw [p.1]; rfl, p.2⟩
  | @node s ts hl hlen hn ih =>
    intro h v P w tb ht hP
    simp only [TreeAt] at ht
    obtain ⟨k, o, c, vs, hv, hk, hs, hts⟩ := ht
    refine ⟨_, _, _, _, hv, (hE _ (hf F.breed_family_text (by decide))).2.2 _ _ _ rfl, rfl, ?_⟩
    exact familyText_run hE hf w tb hs hk hts hP ih hlen hn
end Gc
end
section
/- More rules: operations under a condition; slices that are left alone; whole numbers as sets. -/
set_option linter.unusedVariables false
set_option linter.unusedSimpArgs false
namespace Gc
open _root_.Go (IntKind BinOp UnOp)
section
variable {E : Env} {base kept : Nat} {k : List Item} {fr fr' : Frame} {h h' : Heap} {R : Post} {dr : Bool} {d : List Nat} {os : List ROp}
/-- An operation under a condition of which nothing is known; where it holds, the operation changes no memory. -/
theorem o_if {t : Option Nat} {p : Op} {i : Nat} {b b' : Bool} {v : Val} (hb : fr.get i = .bool b') (e : b' = b → p.eval base kept fr h = some (v, h)) (f : fr.dst t (if b' = b then v else skipped) = fr') (g : AtOps E base kept dr d os k fr' h R) : AtOps E base kept dr d (⟨t, some (i, b), .op p⟩ :: os) k fr h R := by
  by_cases c : b' = b
  · rw [if_pos c] at f
    exact o_yes hb c (o_op (e c) f g)
  · rw [if_neg c] at f
    exact o_no hb c f g
theorem ty_bf : (Ty.breed_beast = 1) = False := eq_false (by decide)
theorem ty_fb : (Ty.breed_family = 0) = False := eq_false (by decide)
theorem pickV_true {x y : Val} : pickV h x y (.bool true) = some (x, h) := rfl
theorem pickV_false {x y : Val} : pickV h x y (.bool false) = some (y, h) := rfl
theorem pickV_and {q b : Bool} {u : Val} : pickV h (if b = true then .bool q else u) (.bool false) (.bool b) = some (.bool (b && q), h) := by cases b <;> rfl
theorem pickV_or {q b : Bool} {u : Val} : pickV h (.bool true) (if b = false then .bool q else u) (.bool b) = some (.bool (b || q), h) := by cases b <;> rfl
end
/-! ### Slices that are left alone -/
theorem spread_blk {h : Heap} {esz k o n m : Nat} {c : Option Nat} {cs : List Val} (w : h.Wf) (e : spread h esz (.slice k o n c) = some (m, cs)) : n = 0 ∨ k < h.size := by
  by_cases h0 : n = 0
  · exact .inl h0
  · simp only [spread, if_neg h0] at e
    cases hk : h.get k with
    | none => simp [hk] at e
    | some b => exact .inr (w.lt hk)
theorem spread_blkIn {h : Heap} {esz m : Nat} {v : Val} {cs : List Val} (w : h.Wf) (e : spread h esz v = some (m, cs)) : v.blkIn (· < h.size) := by
  cases v <;> try trivial
  exact spread_blk w e
theorem spread_left {h h' : Heap} {esz m : Nat} {v : Val} {cs : List Val} (w : h.Wf) (e : spread h esz v = some (m, cs)) (L : Left' h h') : spread h' esz v = some (m, cs) :=
  spread_keep e (spread_blkIn w e) L.1
/-- Lists of triples of whole numbers. -/
abbrev I3 := Int × Int × Int
def cell3 (t : I3) : List Val := [.int .i64 t.1, .int .i64 t.2.1, .int .i64 t.2.2]
def cells3 : List I3 → List Val
  | [] => []
  | t :: l => cell3 t ++ cells3 l
theorem cells3_length : ∀ {l : List I3}, (cells3 l).length = l.length * 3
  | [] => rfl
  | t :: l => by simp [cells3, cells3_length (l := l), cell3]; omega
theorem cells3_one : ∀ {l : List I3}, (cells3 l).all Val.one = true
  | [] => rfl
  | t :: l => by simp only [cells3, List.all_append, cells3_one (l := l)]; simp [cell3, Val.one]
theorem cells3_append : ∀ {l m : List I3}, cells3 (l ++ m) = cells3 l ++ cells3 m
  | [], m => by simp [cells3]
  | t :: l, m => by simp [cells3, cells3_append (l := l)]
theorem cells3_get : ∀ {l : List I3} {i : Nat} (hi : i < l.length), ((cells3 l).drop (i * 3)).take 3 = cell3 l[i]
  | [], i, hi => by simp at hi
  | t :: l, 0, hi => by simp [cells3, cell3]
  | t :: l, i + 1, hi => by
    have := cells3_get (l := l) (i := i) (by simpa using hi)
    have e : (i + 1) * 3 = 3 + i * 3 := by omega
    rw [e, ← List.drop_drop]
    simp only [List.getElem_cons_succ]
    rw [← this]
    rfl
/-- A slice holds triples. -/
def TriplesAt (h : Heap) (v : Val) (l : List I3) : Prop := (∀ s, v ≠ .str s) ∧ spread h 3 v = some (l.length, cells3 l)
theorem TriplesAt.left {h h' : Heap} {v : Val} {l : List I3} (t : TriplesAt h v l) (w : h.Wf) (L : Left' h h') : TriplesAt h' v l := ⟨t.1, spread_left w t.2 L⟩
theorem spread_len {h : Heap} {esz m : Nat} {v : Val} {cs : List Val} (hs : ∀ s, v ≠ .str s) (e : spread h esz v = some (m, cs)) : lenV h false v = some (.int .i64 (m : Int), h) := by
  cases v with
  | nils =>
    simp only [spread, Option.some.injEq, Prod.mk.injEq] at e
    rw [← e.1]; rfl
  | slice k o n c =>
    have : n = m := by
      simp only [spread] at e
      split at e
      · simp only [Option.some.injEq, Prod.mk.injEq] at e; omega
      · cases hk : h.get k with
        | none => simp [hk] at e
        | some b =>
          simp only [hk] at e
          split at e
          · simp only [Option.some.injEq, Prod.mk.injEq] at e; exact e.1
          · cases e
    subst this
    rfl
  | str s => exact absurd rfl (hs s)
  | _ => simp [spread] at e
theorem TriplesAt.len {h : Heap} {v : Val} {l : List I3} (t : TriplesAt h v l) : lenV h false v = some (.int .i64 (l.length : Int), h) := spread_len t.1 t.2
/-- An element of a list of triples: where it lies. -/
theorem TriplesAt.elem {h : Heap} {v : Val} {l : List I3} (t : TriplesAt h v l) {i : Nat} (hi : i < l.length) : ∃ p, indexAddrV h 3 v (.int .i64 (i : Int)) = some (p, h) ∧ loadV h true 3 p = some (.agg (cell3 l[i]), h) := by
  obtain ⟨k, o, c, rfl, e1, e2⟩ := spread_elem (ki := .i64) t.1 t.2 hi
  refine ⟨_, e1, ?_⟩
  rw [loadV_ptr, e2 true 3 (Nat.le_refl _), cells3_get hi]
  rfl
/-! ### Whole numbers as sets -/
theorem bv_nat {x : Nat} (hx : x < 2 ^ 63) : (BitVec.ofInt 64 (x : Int)).toNat = x := by
  rw [BitVec.ofInt_natCast, BitVec.toNat_ofNat, Nat.mod_eq_of_lt (by omega)]
theorem bits_and {x y : Nat} (hx : x < 2 ^ 63) (hy : y < 2 ^ 63) : bitsOp .and .i64 (x : Int) (y : Int) = some ((x &&& y : Nat) : Int) := by
  have h1 : x &&& y ≤ x := Nat.and_le_left
  show some (IntKind.i64.wrap ((BitVec.ofInt 64 (x : Int) &&& BitVec.ofInt 64 (y : Int)).toNat : Int)) = _
  rw [BitVec.toNat_and, bv_nat hx, bv_nat hy, _root_.Go.IntWalk.i64_in _ (by omega)]
theorem bits_or {x y : Nat} (hx : x < 2 ^ 63) (hy : y < 2 ^ 63) : bitsOp .or .i64 (x : Int) (y : Int) = some ((x ||| y : Nat) : Int) := by
  have h1 : x ||| y < 2 ^ 63 := Nat.or_lt_two_pow hx hy
  show some (IntKind.i64.wrap ((BitVec.ofInt 64 (x : Int) ||| BitVec.ofInt 64 (y : Int)).toNat : Int)) = _
  rw [BitVec.toNat_or, bv_nat hx, bv_nat hy, _root_.Go.IntWalk.i64_in _ (by omega)]
theorem diff_le {x y : Nat} : diff x y ≤ x := Nat.and_le_left
theorem bits_andNot {x y : Nat} (hx : x < 2 ^ 63) (hy : y < 2 ^ 63) : bitsOp .andNot .i64 (x : Int) (y : Int) = some ((diff x y : Nat) : Int) := by
  have h1 : x &&& (2 ^ 64 - 1 - y) = diff x y := by
    refine bits_ext fun i => ?_
    rw [bit_and, bit_diff, show 2 ^ 64 - 1 - y = 2 ^ 64 - (y + 1) by omega, Nat.testBit_two_pow_sub_succ (by omega)]
    constructor
    · rintro ⟨a, b⟩
      simp only [Bool.and_eq_true, Bool.not_eq_true', decide_eq_true_eq] at b
      exact ⟨a, b.2⟩
    · rintro ⟨a, b⟩
      refine ⟨a, ?_⟩
      simp only [Bool.and_eq_true, Bool.not_eq_true', decide_eq_true_eq]
      refine ⟨?_, b⟩
      refine Classical.byContradiction fun hn => ?_
      rw [Nat.testBit_lt_two_pow (Nat.lt_of_lt_of_le hx (Nat.pow_le_pow_right (by omega) (by omega)))] at a
      cases a
  have h2 := diff_le (x := x) (y := y)
  show some (IntKind.i64.wrap ((BitVec.ofInt 64 (x : Int) &&& ~~~(BitVec.ofInt 64 (y : Int))).toNat : Int)) = _
  rw [BitVec.toNat_and, BitVec.toNat_not, bv_nat hx, bv_nat hy, h1, _root_.Go.IntWalk.i64_in _ (by omega)]
theorem b_andN {x y : Nat} (hx : x < 2 ^ 63) (hy : y < 2 ^ 63) : binOp .plain .and (.int .i64 (x : Int)) (.int .i64 (y : Int)) = some (.int .i64 ((x &&& y : Nat) : Int)) := by rw [b_and, bits_and hx hy]; rfl
theorem b_orN {x y : Nat} (hx : x < 2 ^ 63) (hy : y < 2 ^ 63) : binOp .plain .or (.int .i64 (x : Int)) (.int .i64 (y : Int)) = some (.int .i64 ((x ||| y : Nat) : Int)) := by rw [b_or, bits_or hx hy]; rfl
theorem b_andNotN {x y : Nat} (hx : x < 2 ^ 63) (hy : y < 2 ^ 63) : binOp .plain .andNot (.int .i64 (x : Int)) (.int .i64 (y : Int)) = some (.int .i64 ((diff x y : Nat) : Int)) := by rw [b_andNot, bits_andNot hx hy]; rfl
theorem b_shl1 {a : Nat} (ha : a < 63) {k' : IntKind} : binOp .plain .shl (.int .i64 1) (.int k' (a : Int)) = some (.int .i64 ((2 ^ a : Nat) : Int)) := by
  rw [b_shl (by omega)]
  simp only [Int.toNat_natCast, IntKind.bits, Nat.min_eq_left (show a ≤ 64 by omega), Option.some.injEq, Val.int.injEq, true_and, Int.one_mul]
  have : 2 ^ a < 2 ^ 63 := Nat.pow_lt_pow_right (by omega) ha
  have e : ((2 : Int) ^ a) = ((2 ^ a : Nat) : Int) := by simp
  rw [e]
  generalize 2 ^ a = q at this ⊢
  exact _root_.Go.IntWalk.i64_in _ (by omega)
theorem b_shrN {x a : Nat} (ha : a < 64) {k' : IntKind} : binOp .plain .shr (.int .i64 (x : Int)) (.int k' (a : Int)) = some (.int .i64 ((x >>> a : Nat) : Int)) := by
  rw [b_shr (by omega)]
  simp only [Int.toNat_natCast, IntKind.bits, Nat.min_eq_left (show a ≤ 64 by omega), Option.some.injEq, Val.int.injEq, true_and]
  rw [Nat.shiftRight_eq_div_pow, Int.fdiv_eq_ediv_of_nonneg _ (Int.le_of_lt (Int.pow_pos (by decide)))]
  simp
theorem b_and1 {x : Nat} (hx : x < 2 ^ 63) : binOp .plain .and (.int .i64 (x : Int)) (.int .i64 1) = some (.int .i64 ((x &&& 1 : Nat) : Int)) := b_andN (y := 1) hx (by omega)
theorem b_rem2 {x : Int} : binOp .plain .rem (.int .i64 x) (.int .i64 2) = some (.int .i64 (x.tmod 2)) := b_rem (by decide)
theorem bit_shr {x a : Nat} : ((((x >>> a) &&& 1 : Nat) : Int) == 0) = !x.testBit a := by
  rw [Nat.testBit, Nat.and_comm]
  cases hx : (1 &&& x >>> a) with
  | zero => simp
  | succ n => simp; omega
theorem bit_shr2 {x a : Nat} : (((x >>> a : Nat) : Int).tmod 2 == 0) = !x.testBit a := by
  have e : ((x >>> a : Nat) : Int).tmod 2 = ((x >>> a % 2 : Nat) : Int) := by rw [Int.tmod_eq_emod_of_nonneg (Int.natCast_nonneg _)]; simp
  rw [e, Nat.testBit, Nat.and_comm, Nat.and_one_is_mod]
  rcases Nat.mod_two_eq_zero_or_one (x >>> a) with h | h <;> simp [h]
/-! ### A value in a block of its own -/
section
variable {h : Heap} {base : Nat} {rw : Bool} {e : Nat} {a b c a' b' c' : Val} {r : List Val}
theorem load_push0 : (h.push (some ⟨a :: r, rw, e⟩)).load false 1 h.size 0 = some a := load_one get_push_self rfl
theorem load_push1 : (h.push (some ⟨a :: b :: r, rw, e⟩)).load false 1 h.size 1 = some b := load_one get_push_self rfl
theorem load_push2 : (h.push (some ⟨a :: b :: c :: r, rw, e⟩)).load false 1 h.size 2 = some c := load_one get_push_self rfl
theorem load_pushA2 : (h.push (some ⟨[a, b], rw, e⟩)).load true 2 h.size 0 = some (.agg [a, b]) := load_agg get_push_self (by simp) rfl
theorem load_pushA3 : (h.push (some ⟨[a, b, c], rw, e⟩)).load true 3 h.size 0 = some (.agg [a, b, c]) := load_agg get_push_self (by simp) rfl
theorem set_push {b b' : Option Blk} : (h.push b).set h.size b' = h.push b' := by simp [Heap.push, Heap.set]
theorem store_pushN {cs ds : List Val} (hb : base ≤ h.size) (hl : ds.length = cs.length) (ho : ds.all Val.one = true) : (h.push (some ⟨cs, true, e⟩)).store base h.size 0 ds = some (h.push (some ⟨ds, true, e⟩)) := by
  rw [store_cells get_push_self hb rfl (by simp [hl]) ho, set_push]
  congr 3
  simp only [splice, List.take_zero, List.nil_append, Nat.zero_add]
  rw [List.drop_of_length_le (by omega), List.append_nil]
theorem store_push3 (hb : base ≤ h.size) (ho : [a', b', c'].all Val.one = true) : (h.push (some ⟨[a, b, c], true, e⟩)).store base h.size 0 [a', b', c'] = some (h.push (some ⟨[a', b', c'], true, e⟩)) := store_pushN hb rfl ho
theorem store_push2 (hb : base ≤ h.size) (ho : [a', b'].all Val.one = true) : (h.push (some ⟨[a, b], true, e⟩)).store base h.size 0 [a', b'] = some (h.push (some ⟨[a', b'], true, e⟩)) := store_pushN hb rfl ho
theorem store_push1 (hb : base ≤ h.size) (ho : [a'].all Val.one = true) : (h.push (some ⟨[a], true, e⟩)).store base h.size 0 [a'] = some (h.push (some ⟨[a'], true, e⟩)) := store_pushN hb rfl ho
theorem store_pushF0 (hb : base ≤ h.size) (ho : [a'].all Val.one = true) : (h.push (some ⟨a :: r, true, e⟩)).store base h.size 0 [a'] = some (h.push (some ⟨a' :: r, true, e⟩)) := by
  rw [store_one get_push_self hb rfl (by simp) (by simpa using ho), set_push]; rfl
theorem store_pushF1 (hb : base ≤ h.size) (ho : [b'].all Val.one = true) : (h.push (some ⟨a :: b :: r, true, e⟩)).store base h.size 1 [b'] = some (h.push (some ⟨a :: b' :: r, true, e⟩)) := by
  rw [store_one get_push_self hb rfl (by simp) (by simpa using ho), set_push]; rfl
theorem cells_int {k : IntKind} {n : Int} : (Val.int k n).cells = [.int k n] := rfl
theorem cells_bool {p : Bool} : (Val.bool p).cells = [.bool p] := rfl
theorem cells_agg {cs : List Val} : (Val.agg cs).cells = cs := rfl
theorem cells_nils : Val.nils.cells = [.nils] := rfl
theorem cells_slice {k o n : Nat} {c : Option Nat} : (Val.slice k o n c).cells = [.slice k o n c] := rfl
end
theorem zex : type_of% @pickV_true ∧ type_of% @pickV_false ∧ type_of% @load_push0 ∧ type_of% @load_push1 ∧ type_of% @load_push2 ∧ type_of% @load_pushA2 ∧ type_of% @load_pushA3 ∧ type_of% @store_push3 ∧ type_of% @store_push2 ∧ type_of% @store_push1 ∧ type_of% @store_pushF0 ∧ type_of% @store_pushF1 ∧ type_of% @cells_int ∧ type_of% @cells_bool ∧ type_of% @cells_agg ∧ type_of% @cells_nils ∧ type_of% @cells_slice ∧ type_of% @boxV_new ∧ type_of% @pickV_and ∧ type_of% @pickV_or ∧ type_of% @bit_shr ∧ type_of% @b_shl1 ∧ type_of% @b_shrN ∧ type_of% @b_andN ∧ type_of% @b_orN ∧ type_of% @b_andNotN ∧ type_of% @b_and1 ∧ type_of% @b_rem2 ∧ type_of% @bit_shr2 ∧ type_of% @ty_bf ∧ type_of% @ty_fb ∧ type_of% @Nat.add_zero := ⟨@pickV_true, @pickV_false, @load_push0, @load_push1, @load_push2, @load_pushA2, @load_pushA3, @store_push3, @store_push2, @store_push1, @store_pushF0, @store_pushF1, @cells_int, @cells_bool, @cells_agg, @cells_nils, @cells_slice, @boxV_new, @pickV_and, @pickV_or, @bit_shr, @b_shl1, @b_shrN, @b_andN, @b_orN, @b_andNotN, @b_and1, @b_rem2, @bit_shr2, @ty_bf, @ty_fb, @Nat.add_zero⟩
end Gc
end
section
/- Contracts: the errors of triples. -/
set_option linter.unusedVariables false
set_option linter.unusedSimpArgs false
namespace Gc
variable {E : Env} {base kept : Nat} {h : Heap}
/-- Is it a triple of n beasts? -/
def isTriple (n : Int) (t : I3) : Bool := decide (0 ≤ t.1) && decide (t.1 < t.2.1) && decide (t.2.1 < n) && decide (0 ≤ t.2.2) && decide (t.2.2 < n) && (t.2.2 != t.1) && (t.2.2 != t.2.1)
/-- The error of triples. -/
def listErr (n : Int) (l : List I3) : Int := if l.length > 60 then 3 else if l.all (isTriple n) then 0 else 2
theorem remembered_run {l : List Nat} (hE : E.Has tabs05 l) (hf : F.breed_remembered ∈ l) (w : h.Wf) {n : Int} {v : Val} {ts : List I3} (ht : TriplesAt h v ts) (hlen : ts.length < 2 ^ 60) :
    CallV E h.size F.breed_remembered [.int .i64 n, v] h fun r h' => r = .int .i64 (listErr n ts) ∧ Left' h h' := by
  refine c_begin hE hf rfl (by decide) (by decide) ?_
  simp only [T.breed_remembered, Frame.enterFrom, Nat.zero_add, Nat.reduceAdd]
  have e1 := ht.len
  by_cases hl : ts.length > 60
  · have d1 : decide ((ts.length : Int) > 60) = true := decide_eq_true (by omega)
    repeat' (first | (apply o_op; (solve | (conv => lhs; simp (disch := first | omega | (simp only [Val.cells, List.all_cons, List.all_nil, Val.one, Bool.and_self])) only [zev, zex, Val.one, List.length_cons, List.length_nil, Nat.reduceAdd, Option.map_some, Option.map_none, List.map_cons, List.map_nil, zva, ↓reduceIte, Nat.reduceEqDiff, e1, d1])); (solve | (conv => lhs; simp only [zfr, Nat.reduceEqDiff, Nat.reduceLT, ↓reduceIte]))) | (apply o_yes; (solve | (conv => lhs; simp only [zva, ↓reduceIte, Nat.reduceEqDiff, e1, d1])); (solve | rfl)) | (apply o_no; (solve | (conv => lhs; simp only [zva, ↓reduceIte, Nat.reduceEqDiff, e1, d1])); (solve | decide); (solve | (conv => lhs; simp only [zfr, Nat.reduceEqDiff, Nat.reduceLT, ↓reduceIte]))) | (apply o_not; (solve | (conv => lhs; simp only [zva, ↓reduceIte, Nat.reduceEqDiff])); (solve | (conv => lhs; simp only [zfr, Nat.reduceEqDiff, Nat.reduceLT, ↓reduceIte]))) | (apply o_if; (solve | (conv => lhs; simp only [zva, ↓reduceIte, Nat.reduceEqDiff])); (solve | (intro hbb; conv => lhs; simp (disch := first | omega | (simp only [Val.cells, List.all_cons, List.all_nil, Val.one, Bool.and_self])) only [zev, zex, Val.one, List.length_cons, List.length_nil, Nat.reduceAdd, Option.map_some, Option.map_none, List.map_cons, List.map_nil, zva, ↓reduceIte, Nat.reduceEqDiff, hbb, e1, d1])); (solve | (conv => lhs; simp only [zfr, Nat.reduceEqDiff, Nat.reduceLT, ↓reduceIte]))) | (apply o_end; (solve | (conv => lhs; simp only [zdr, inl, Nat.reduceEqDiff, or_false, or_true, ↓reduceIte]))) | apply g_seq | apply g_region | apply g_next | apply g_block | apply g_out | (apply g_true; (solve | (conv => lhs; simp only [zva, ↓reduceIte, Nat.reduceEqDiff, e1, d1]))) | (apply g_false; (solve | (conv => lhs; simp only [zva, ↓reduceIte, Nat.reduceEqDiff, e1, d1]))) | apply g_here | (apply g_past; (solve | decide)) | apply g_exit | apply g_retc | apply g_retb | apply g_ret | apply g_done)
    exact ⟨.inr rfl, _, rfl, by simp [tuple, Frame.get, listErr, hl], Left'.refl w⟩
  have d1 : decide ((ts.length : Int) > 60) = false := decide_eq_false (by omega)
  repeat' (first | (apply o_op; (solve | (conv => lhs; simp (disch := first | omega | (simp only [Val.cells, List.all_cons, List.all_nil, Val.one, Bool.and_self])) only [zev, zex, Val.one, List.length_cons, List.length_nil, Nat.reduceAdd, Option.map_some, Option.map_none, List.map_cons, List.map_nil, zva, ↓reduceIte, Nat.reduceEqDiff, e1, d1])); (solve | (conv => lhs; simp only [zfr, Nat.reduceEqDiff, Nat.reduceLT, ↓reduceIte]))) | (apply o_yes; (solve | (conv => lhs; simp only [zva, ↓reduceIte, Nat.reduceEqDiff, e1, d1])); (solve | rfl)) | (apply o_no; (solve | (conv => lhs; simp only [zva, ↓reduceIte, Nat.reduceEqDiff, e1, d1])); (solve | decide); (solve | (conv => lhs; simp only [zfr, Nat.reduceEqDiff, Nat.reduceLT, ↓reduceIte]))) | (apply o_not; (solve | (conv => lhs; simp only [zva, ↓reduceIte, Nat.reduceEqDiff])); (solve | (conv => lhs; simp only [zfr, Nat.reduceEqDiff, Nat.reduceLT, ↓reduceIte]))) | (apply o_if; (solve | (conv => lhs; simp only [zva, ↓reduceIte, Nat.reduceEqDiff])); (solve | (intro hbb; conv => lhs; simp (disch := first | omega | (simp only [Val.cells, List.all_cons, List.all_nil, Val.one, Bool.and_self])) only [zev, zex, Val.one, List.length_cons, List.length_nil, Nat.reduceAdd, Option.map_some, Option.map_none, List.map_cons, List.map_nil, zva, ↓reduceIte, Nat.reduceEqDiff, hbb, e1, d1])); (solve | (conv => lhs; simp only [zfr, Nat.reduceEqDiff, Nat.reduceLT, ↓reduceIte]))) | (apply o_end; (solve | (conv => lhs; simp only [zdr, inl, Nat.reduceEqDiff, or_false, or_true, ↓reduceIte]))) | apply g_seq | apply g_region | apply g_next | apply g_block | apply g_out | (apply g_true; (solve | (conv => lhs; simp only [zva, ↓reduceIte, Nat.reduceEqDiff, e1, d1]))) | (apply g_false; (solve | (conv => lhs; simp only [zva, ↓reduceIte, Nat.reduceEqDiff, e1, d1]))) | apply g_here | (apply g_past; (solve | decide)) | apply g_exit | apply g_retc | apply g_retb | apply g_ret | apply g_done)
  refine loop_ind (fun m fr h2 => ∃ i, i + m = ts.length ∧ fr = [(0, .int .i64 n), (10, v), (11, .int .i64 (ts.length : Int)), (12, .int .i64 (i : Int))] ∧ Left' h h2 ∧ (ts.take i).all (isTriple n) = true) ?_ ts.length _ _ ⟨0, by omega, rfl, Left'.refl w, by simp⟩
  rintro m fr h2 ⟨i, him, rfl, L2, ha⟩ ih
  by_cases hi : i < ts.length
  · have d2 : decide ((i : Int) < (ts.length : Int)) = true := decide_eq_true (by omega)
    obtain ⟨p, p1, p2⟩ := (ht.left w L2).elem hi
    generalize het : ts[i] = t at p2
    obtain ⟨a, b, c⟩ := t
    simp only [cell3] at p2
    have hs2 := L2.2.2
    repeat' (first | (apply o_op; (solve | (conv => lhs; simp (disch := first | omega | (simp only [Val.cells, List.all_cons, List.all_nil, Val.one, Bool.and_self])) only [zev, zex, Val.one, List.length_cons, List.length_nil, Nat.reduceAdd, Option.map_some, Option.map_none, List.map_cons, List.map_nil, zva, ↓reduceIte, Nat.reduceEqDiff, d2, p1, p2])); (solve | (conv => lhs; simp only [zfr, Nat.reduceEqDiff, Nat.reduceLT, ↓reduceIte]))) | (apply o_yes; (solve | (conv => lhs; simp only [zva, ↓reduceIte, Nat.reduceEqDiff, d2, p1, p2])); (solve | rfl)) | (apply o_no; (solve | (conv => lhs; simp only [zva, ↓reduceIte, Nat.reduceEqDiff, d2, p1, p2])); (solve | decide); (solve | (conv => lhs; simp only [zfr, Nat.reduceEqDiff, Nat.reduceLT, ↓reduceIte]))) | (apply o_not; (solve | (conv => lhs; simp only [zva, ↓reduceIte, Nat.reduceEqDiff])); (solve | (conv => lhs; simp only [zfr, Nat.reduceEqDiff, Nat.reduceLT, ↓reduceIte]))) | (apply o_if; (solve | (conv => lhs; simp only [zva, ↓reduceIte, Nat.reduceEqDiff])); (solve | (intro hbb; conv => lhs; simp (disch := first | omega | (simp only [Val.cells, List.all_cons, List.all_nil, Val.one, Bool.and_self])) only [zev, zex, Val.one, List.length_cons, List.length_nil, Nat.reduceAdd, Option.map_some, Option.map_none, List.map_cons, List.map_nil, zva, ↓reduceIte, Nat.reduceEqDiff, hbb, d2, p1, p2])); (solve | (conv => lhs; simp only [zfr, Nat.reduceEqDiff, Nat.reduceLT, ↓reduceIte]))) | (apply o_end; (solve | (conv => lhs; simp only [zdr, inl, Nat.reduceEqDiff, or_false, or_true, ↓reduceIte]))) | apply g_seq | apply g_region | apply g_next | apply g_block | apply g_out | (apply g_true; (solve | (conv => lhs; simp only [zva, ↓reduceIte, Nat.reduceEqDiff, d2, p1, p2]))) | (apply g_false; (solve | (conv => lhs; simp only [zva, ↓reduceIte, Nat.reduceEqDiff, d2, p1, p2]))) | apply g_here | (apply g_past; (solve | decide)) | apply g_exit | apply g_retc | apply g_retb | apply g_ret | apply g_done)
    have eb : (decide (a < 0) || decide (a ≥ b) || decide (b ≥ n) || decide (c < 0) || decide (c ≥ n) || c == a || c == b) = !isTriple n (a, b, c) := by
      rw [Bool.eq_iff_iff]
      simp [isTriple]
    rw [eb]
    cases ht : isTriple n (a, b, c)
    · repeat' (first | (apply o_op; (solve | (conv => lhs; simp (disch := first | omega | (simp only [Val.cells, List.all_cons, List.all_nil, Val.one, Bool.and_self])) only [zev, zex, Val.one, List.length_cons, List.length_nil, Nat.reduceAdd, Option.map_some, Option.map_none, List.map_cons, List.map_nil, zva, ↓reduceIte, Nat.reduceEqDiff])); (solve | (conv => lhs; simp only [zfr, Nat.reduceEqDiff, Nat.reduceLT, ↓reduceIte]))) | (apply o_yes; (solve | (conv => lhs; simp only [zva, ↓reduceIte, Nat.reduceEqDiff])); (solve | rfl)) | (apply o_no; (solve | (conv => lhs; simp only [zva, ↓reduceIte, Nat.reduceEqDiff])); (solve | decide); (solve | (conv => lhs; simp only [zfr, Nat.reduceEqDiff, Nat.reduceLT, ↓reduceIte]))) | (apply o_not; (solve | (conv => lhs; simp only [zva, ↓reduceIte, Nat.reduceEqDiff])); (solve | (conv => lhs; simp only [zfr, Nat.reduceEqDiff, Nat.reduceLT, ↓reduceIte]))) | (apply o_if; (solve | (conv => lhs; simp only [zva, ↓reduceIte, Nat.reduceEqDiff])); (solve | (intro hbb; conv => lhs; simp (disch := first | omega | (simp only [Val.cells, List.all_cons, List.all_nil, Val.one, Bool.and_self])) only [zev, zex, Val.one, List.length_cons, List.length_nil, Nat.reduceAdd, Option.map_some, Option.map_none, List.map_cons, List.map_nil, zva, ↓reduceIte, Nat.reduceEqDiff, hbb])); (solve | (conv => lhs; simp only [zfr, Nat.reduceEqDiff, Nat.reduceLT, ↓reduceIte]))) | (apply o_end; (solve | (conv => lhs; simp only [zdr, inl, Nat.reduceEqDiff, or_false, or_true, ↓reduceIte]))) | apply g_seq | apply g_region | apply g_next | apply g_block | apply g_out | (apply g_true; (solve | (conv => lhs; simp only [zva, ↓reduceIte, Nat.reduceEqDiff]))) | (apply g_false; (solve | (conv => lhs; simp only [zva, ↓reduceIte, Nat.reduceEqDiff]))) | apply g_here | (apply g_past; (solve | decide)) | apply g_exit | apply g_retc | apply g_retb | apply g_ret | apply g_done)
      refine ⟨.inr rfl, _, rfl, ?_, L2.trans (left_push L2.2.1 _)⟩
      have hn : ¬ (ts.all (isTriple n) = true) := fun h => by
        rw [List.all_eq_true] at h
        have := h _ (List.getElem_mem hi)
        rw [het, ht] at this
        cases this
      simp [tuple, Frame.get, listErr, hl, hn]
    · repeat' (first | (apply o_op; (solve | (conv => lhs; simp (disch := first | omega | (simp only [Val.cells, List.all_cons, List.all_nil, Val.one, Bool.and_self])) only [zev, zex, Val.one, List.length_cons, List.length_nil, Nat.reduceAdd, Option.map_some, Option.map_none, List.map_cons, List.map_nil, zva, ↓reduceIte, Nat.reduceEqDiff])); (solve | (conv => lhs; simp only [zfr, Nat.reduceEqDiff, Nat.reduceLT, ↓reduceIte]))) | (apply o_yes; (solve | (conv => lhs; simp only [zva, ↓reduceIte, Nat.reduceEqDiff])); (solve | rfl)) | (apply o_no; (solve | (conv => lhs; simp only [zva, ↓reduceIte, Nat.reduceEqDiff])); (solve | decide); (solve | (conv => lhs; simp only [zfr, Nat.reduceEqDiff, Nat.reduceLT, ↓reduceIte]))) | (apply o_not; (solve | (conv => lhs; simp only [zva, ↓reduceIte, Nat.reduceEqDiff])); (solve | (conv => lhs; simp only [zfr, Nat.reduceEqDiff, Nat.reduceLT, ↓reduceIte]))) | (apply o_if; (solve | (conv => lhs; simp only [zva, ↓reduceIte, Nat.reduceEqDiff])); (solve | (intro hbb; conv => lhs; simp (disch := first | omega | (simp only [Val.cells, List.all_cons, List.all_nil, Val.one, Bool.and_self])) only [zev, zex, Val.one, List.length_cons, List.length_nil, Nat.reduceAdd, Option.map_some, Option.map_none, List.map_cons, List.map_nil, zva, ↓reduceIte, Nat.reduceEqDiff, hbb])); (solve | (conv => lhs; simp only [zfr, Nat.reduceEqDiff, Nat.reduceLT, ↓reduceIte]))) | (apply o_end; (solve | (conv => lhs; simp only [zdr, inl, Nat.reduceEqDiff, or_false, or_true, ↓reduceIte]))) | apply g_seq | apply g_region | apply g_next | apply g_block | apply g_out | (apply g_true; (solve | (conv => lhs; simp only [zva, ↓reduceIte, Nat.reduceEqDiff]))) | (apply g_false; (solve | (conv => lhs; simp only [zva, ↓reduceIte, Nat.reduceEqDiff]))) | apply g_here | (apply g_past; (solve | decide)) | apply g_exit | apply g_retc | apply g_retb | apply g_ret | apply g_done)
      refine ih (m - 1) _ _ (by omega) ⟨i + 1, by omega, by simp, L2.trans (left_push L2.2.1 _), ?_⟩
      rw [List.take_add_one, List.getElem?_eq_getElem hi, het]
      simp only [List.all_append, ha, Option.toList_some, List.all_cons, List.all_nil, ht, Bool.and_self]
  · have d2 : decide ((i : Int) < (ts.length : Int)) = false := decide_eq_false (by omega)
    repeat' (first | (apply o_op; (solve | (conv => lhs; simp (disch := first | omega | (simp only [Val.cells, List.all_cons, List.all_nil, Val.one, Bool.and_self])) only [zev, zex, Val.one, List.length_cons, List.length_nil, Nat.reduceAdd, Option.map_some, Option.map_none, List.map_cons, List.map_nil, zva, ↓reduceIte, Nat.reduceEqDiff, d2])); (solve | (conv => lhs; simp only [zfr, Nat.reduceEqDiff, Nat.reduceLT, ↓reduceIte]))) | (apply o_yes; (solve | (conv => lhs; simp only [zva, ↓reduceIte, Nat.reduceEqDiff, d2])); (solve | rfl)) | (apply o_no; (solve | (conv => lhs; simp only [zva, ↓reduceIte, Nat.reduceEqDiff, d2])); (solve | decide); (solve | (conv => lhs; simp only [zfr, Nat.reduceEqDiff, Nat.reduceLT, ↓reduceIte]))) | (apply o_not; (solve | (conv => lhs; simp only [zva, ↓reduceIte, Nat.reduceEqDiff])); (solve | (conv => lhs; simp only [zfr, Nat.reduceEqDiff, Nat.reduceLT, ↓reduceIte]))) | (apply o_if; (solve | (conv => lhs; simp only [zva, ↓reduceIte, Nat.reduceEqDiff])); (solve | (intro hbb; conv => lhs; simp (disch := first | omega | (simp only [Val.cells, List.all_cons, List.all_nil, Val.one, Bool.and_self])) only [zev, zex, Val.one, List.length_cons, List.length_nil, Nat.reduceAdd, Option.map_some, Option.map_none, List.map_cons, List.map_nil, zva, ↓reduceIte, Nat.reduceEqDiff, hbb, d2])); (solve | (conv => lhs; simp only [zfr, Nat.reduceEqDiff, Nat.reduceLT, ↓reduceIte]))) | (apply o_end; (solve | (conv => lhs; simp only [zdr, inl, Nat.reduceEqDiff, or_false, or_true, ↓reduceIte]))) | apply g_seq | apply g_region | apply g_next | apply g_block | apply g_out | (apply g_true; (solve | (conv => lhs; simp only [zva, ↓reduceIte, Nat.reduceEqDiff, d2]))) | (apply g_false; (solve | (conv => lhs; simp only [zva, ↓reduceIte, Nat.reduceEqDiff, d2]))) | apply g_here | (apply g_past; (solve | decide)) | apply g_exit | apply g_retc | apply g_retb | apply g_ret | apply g_done)
    refine ⟨.inr rfl, _, rfl, ?_, L2⟩
    rw [List.take_of_length_le (by omega)] at ha
    simp [tuple, Frame.get, listErr, hl, ha]
theorem asked_run {l : List Nat} (hE : E.Has tabs05 l) (hf : ∀ f ∈ [F.breed_asked, F.breed_remembered, F.breed_herd], f ∈ l) (w : h.Wf) {n : Int} {v : Val} {ts : List I3} (ht : TriplesAt h v ts) (hlen : ts.length < 2 ^ 60) :
    CallV E h.size F.breed_asked [.int .i64 n, v] h fun r h' => r = .int .i64 (if 1 ≤ n ∧ n ≤ 8 then listErr n ts else 2) ∧ Left' h h' := by
  refine c_begin hE (hf _ (by simp)) rfl (by decide) (by decide) ?_
  simp only [T.breed_asked, Frame.enterFrom, Nat.zero_add, Nat.reduceAdd]
  repeat' (first | (apply o_op; (solve | (conv => lhs; simp (disch := first | omega | (simp only [Val.cells, List.all_cons, List.all_nil, Val.one, Bool.and_self])) only [zev, zex, Val.one, List.length_cons, List.length_nil, Nat.reduceAdd, Option.map_some, Option.map_none, List.map_cons, List.map_nil, zva, ↓reduceIte, Nat.reduceEqDiff])); (solve | (conv => lhs; simp only [zfr, Nat.reduceEqDiff, Nat.reduceLT, ↓reduceIte]))) | (apply o_yes; (solve | (conv => lhs; simp only [zva, ↓reduceIte, Nat.reduceEqDiff])); (solve | rfl)) | (apply o_no; (solve | (conv => lhs; simp only [zva, ↓reduceIte, Nat.reduceEqDiff])); (solve | decide); (solve | (conv => lhs; simp only [zfr, Nat.reduceEqDiff, Nat.reduceLT, ↓reduceIte]))) | (apply o_not; (solve | (conv => lhs; simp only [zva, ↓reduceIte, Nat.reduceEqDiff])); (solve | (conv => lhs; simp only [zfr, Nat.reduceEqDiff, Nat.reduceLT, ↓reduceIte]))) | (apply o_if; (solve | (conv => lhs; simp only [zva, ↓reduceIte, Nat.reduceEqDiff])); (solve | (intro hbb; conv => lhs; simp (disch := first | omega | (simp only [Val.cells, List.all_cons, List.all_nil, Val.one, Bool.and_self])) only [zev, zex, Val.one, List.length_cons, List.length_nil, Nat.reduceAdd, Option.map_some, Option.map_none, List.map_cons, List.map_nil, zva, ↓reduceIte, Nat.reduceEqDiff, hbb])); (solve | (conv => lhs; simp only [zfr, Nat.reduceEqDiff, Nat.reduceLT, ↓reduceIte]))) | (apply o_end; (solve | (conv => lhs; simp only [zdr, inl, Nat.reduceEqDiff, or_false, or_true, ↓reduceIte]))) | apply g_seq | apply g_region | apply g_next | apply g_block | apply g_out | (apply g_true; (solve | (conv => lhs; simp only [zva, ↓reduceIte, Nat.reduceEqDiff]))) | (apply g_false; (solve | (conv => lhs; simp only [zva, ↓reduceIte, Nat.reduceEqDiff]))) | apply g_here | (apply g_past; (solve | decide)) | apply g_exit | apply g_retc | apply g_retb | apply g_ret | apply g_done)
  (apply o_call; (solve | (conv => lhs; simp only [Callee.find, List.map_cons, List.map_nil, List.cons_append, List.nil_append, zva, ↓reduceIte, Nat.reduceEqDiff])))
  · exact herd_run hE (hf _ (by simp))
  rintro _ _ ⟨rfl, rfl⟩
  (conv => arg 8; simp only [zfr, Nat.reduceEqDiff, Nat.reduceLT, ↓reduceIte])
  by_cases hn : 1 ≤ n ∧ n ≤ 8
  · rw [decide_eq_true hn]
    repeat' (first | (apply o_op; (solve | (conv => lhs; simp (disch := first | omega | (simp only [Val.cells, List.all_cons, List.all_nil, Val.one, Bool.and_self])) only [zev, zex, Val.one, List.length_cons, List.length_nil, Nat.reduceAdd, Option.map_some, Option.map_none, List.map_cons, List.map_nil, zva, ↓reduceIte, Nat.reduceEqDiff, Bool.not_true])); (solve | (conv => lhs; simp only [zfr, Nat.reduceEqDiff, Nat.reduceLT, ↓reduceIte]))) | (apply o_yes; (solve | (conv => lhs; simp only [zva, ↓reduceIte, Nat.reduceEqDiff, Bool.not_true])); (solve | rfl)) | (apply o_no; (solve | (conv => lhs; simp only [zva, ↓reduceIte, Nat.reduceEqDiff, Bool.not_true])); (solve | decide); (solve | (conv => lhs; simp only [zfr, Nat.reduceEqDiff, Nat.reduceLT, ↓reduceIte]))) | (apply o_not; (solve | (conv => lhs; simp only [zva, ↓reduceIte, Nat.reduceEqDiff])); (solve | (conv => lhs; simp only [zfr, Nat.reduceEqDiff, Nat.reduceLT, ↓reduceIte]))) | (apply o_if; (solve | (conv => lhs; simp only [zva, ↓reduceIte, Nat.reduceEqDiff])); (solve | (intro hbb; conv => lhs; simp (disch := first | omega | (simp only [Val.cells, List.all_cons, List.all_nil, Val.one, Bool.and_self])) only [zev, zex, Val.one, List.length_cons, List.length_nil, Nat.reduceAdd, Option.map_some, Option.map_none, List.map_cons, List.map_nil, zva, ↓reduceIte, Nat.reduceEqDiff, hbb, Bool.not_true])); (solve | (conv => lhs; simp only [zfr, Nat.reduceEqDiff, Nat.reduceLT, ↓reduceIte]))) | (apply o_end; (solve | (conv => lhs; simp only [zdr, inl, Nat.reduceEqDiff, or_false, or_true, ↓reduceIte]))) | apply g_seq | apply g_region | apply g_next | apply g_block | apply g_out | (apply g_true; (solve | (conv => lhs; simp only [zva, ↓reduceIte, Nat.reduceEqDiff, Bool.not_true]))) | (apply g_false; (solve | (conv => lhs; simp only [zva, ↓reduceIte, Nat.reduceEqDiff, Bool.not_true]))) | apply g_here | (apply g_past; (solve | decide)) | apply g_exit | apply g_retc | apply g_retb | apply g_ret | apply g_done)
    (apply o_call; (solve | (conv => lhs; simp only [Callee.find, List.map_cons, List.map_nil, List.cons_append, List.nil_append, zva, ↓reduceIte, Nat.reduceEqDiff])))
    · exact remembered_run hE (hf _ (by simp)) w ht hlen
    rintro _ h2 ⟨rfl, L⟩
    (conv => arg 8; simp only [zfr, Nat.reduceEqDiff, Nat.reduceLT, ↓reduceIte])
    repeat' (first | (apply o_op; (solve | (conv => lhs; simp (disch := first | omega | (simp only [Val.cells, List.all_cons, List.all_nil, Val.one, Bool.and_self])) only [zev, zex, Val.one, List.length_cons, List.length_nil, Nat.reduceAdd, Option.map_some, Option.map_none, List.map_cons, List.map_nil, zva, ↓reduceIte, Nat.reduceEqDiff])); (solve | (conv => lhs; simp only [zfr, Nat.reduceEqDiff, Nat.reduceLT, ↓reduceIte]))) | (apply o_yes; (solve | (conv => lhs; simp only [zva, ↓reduceIte, Nat.reduceEqDiff])); (solve | rfl)) | (apply o_no; (solve | (conv => lhs; simp only [zva, ↓reduceIte, Nat.reduceEqDiff])); (solve | decide); (solve | (conv => lhs; simp only [zfr, Nat.reduceEqDiff, Nat.reduceLT, ↓reduceIte]))) | (apply o_not; (solve | (conv => lhs; simp only [zva, ↓reduceIte, Nat.reduceEqDiff])); (solve | (conv => lhs; simp only [zfr, Nat.reduceEqDiff, Nat.reduceLT, ↓reduceIte]))) | (apply o_if; (solve | (conv => lhs; simp only [zva, ↓reduceIte, Nat.reduceEqDiff])); (solve | (intro hbb; conv => lhs; simp (disch := first | omega | (simp only [Val.cells, List.all_cons, List.all_nil, Val.one, Bool.and_self])) only [zev, zex, Val.one, List.length_cons, List.length_nil, Nat.reduceAdd, Option.map_some, Option.map_none, List.map_cons, List.map_nil, zva, ↓reduceIte, Nat.reduceEqDiff, hbb])); (solve | (conv => lhs; simp only [zfr, Nat.reduceEqDiff, Nat.reduceLT, ↓reduceIte]))) | (apply o_end; (solve | (conv => lhs; simp only [zdr, inl, Nat.reduceEqDiff, or_false, or_true, ↓reduceIte]))) | apply g_seq | apply g_region | apply g_next | apply g_block | apply g_out | (apply g_true; (solve | (conv => lhs; simp only [zva, ↓reduceIte, Nat.reduceEqDiff]))) | (apply g_false; (solve | (conv => lhs; simp only [zva, ↓reduceIte, Nat.reduceEqDiff]))) | apply g_here | (apply g_past; (solve | decide)) | apply g_exit | apply g_retc | apply g_retb | apply g_ret | apply g_done)
    exact ⟨.inr rfl, _, rfl, by simp [tuple, Frame.get, hn], L⟩
  · rw [decide_eq_false hn]
    repeat' (first | (apply o_op; (solve | (conv => lhs; simp (disch := first | omega | (simp only [Val.cells, List.all_cons, List.all_nil, Val.one, Bool.and_self])) only [zev, zex, Val.one, List.length_cons, List.length_nil, Nat.reduceAdd, Option.map_some, Option.map_none, List.map_cons, List.map_nil, zva, ↓reduceIte, Nat.reduceEqDiff, Bool.not_false])); (solve | (conv => lhs; simp only [zfr, Nat.reduceEqDiff, Nat.reduceLT, ↓reduceIte]))) | (apply o_yes; (solve | (conv => lhs; simp only [zva, ↓reduceIte, Nat.reduceEqDiff, Bool.not_false])); (solve | rfl)) | (apply o_no; (solve | (conv => lhs; simp only [zva, ↓reduceIte, Nat.reduceEqDiff, Bool.not_false])); (solve | decide); (solve | (conv => lhs; simp only [zfr, Nat.reduceEqDiff, Nat.reduceLT, ↓reduceIte]))) | (apply o_not; (solve | (conv => lhs; simp only [zva, ↓reduceIte, Nat.reduceEqDiff])); (solve | (conv => lhs; simp only [zfr, Nat.reduceEqDiff, Nat.reduceLT, ↓reduceIte]))) | (apply o_if; (solve | (conv => lhs; simp only [zva, ↓reduceIte, Nat.reduceEqDiff])); (solve | (intro hbb; conv => lhs; simp (disch := first | omega | (simp only [Val.cells, List.all_cons, List.all_nil, Val.one, Bool.and_self])) only [zev, zex, Val.one, List.length_cons, List.length_nil, Nat.reduceAdd, Option.map_some, Option.map_none, List.map_cons, List.map_nil, zva, ↓reduceIte, Nat.reduceEqDiff, hbb, Bool.not_false])); (solve | (conv => lhs; simp only [zfr, Nat.reduceEqDiff, Nat.reduceLT, ↓reduceIte]))) | (apply o_end; (solve | (conv => lhs; simp only [zdr, inl, Nat.reduceEqDiff, or_false, or_true, ↓reduceIte]))) | apply g_seq | apply g_region | apply g_next | apply g_block | apply g_out | (apply g_true; (solve | (conv => lhs; simp only [zva, ↓reduceIte, Nat.reduceEqDiff, Bool.not_false]))) | (apply g_false; (solve | (conv => lhs; simp only [zva, ↓reduceIte, Nat.reduceEqDiff, Bool.not_false]))) | apply g_here | (apply g_past; (solve | decide)) | apply g_exit | apply g_retc | apply g_retb | apply g_ret | apply g_done)
    exact ⟨.inr rfl, _, rfl, by simp [tuple, Frame.get, hn], Left'.refl w⟩
theorem isTriple_run {l : List Nat} (hE : E.Has tabs05 l) (hf : F.ref05_IsTriple ∈ l) (w : h.Wf) {n : Int} {t : I3} :
    CallV E h.size F.ref05_IsTriple [.int .i64 n, .agg (cell3 t)] h fun r h' => r = .bool (isTriple n t) ∧ Left' h h' := by
  refine c_begin hE hf rfl (by decide) (by decide) ?_
  obtain ⟨a, b, c⟩ := t
  simp only [T.ref05_IsTriple, Frame.enterFrom, Nat.zero_add, Nat.reduceAdd, cell3]
  repeat' (first | (apply o_op; (solve | (conv => lhs; simp (disch := first | omega | (simp only [Val.cells, List.all_cons, List.all_nil, Val.one, Bool.and_self])) only [zev, zex, Val.one, List.length_cons, List.length_nil, Nat.reduceAdd, Option.map_some, Option.map_none, List.map_cons, List.map_nil, zva, ↓reduceIte, Nat.reduceEqDiff])); (solve | (conv => lhs; simp only [zfr, Nat.reduceEqDiff, Nat.reduceLT, ↓reduceIte]))) | (apply o_yes; (solve | (conv => lhs; simp only [zva, ↓reduceIte, Nat.reduceEqDiff])); (solve | rfl)) | (apply o_no; (solve | (conv => lhs; simp only [zva, ↓reduceIte, Nat.reduceEqDiff])); (solve | decide); (solve | (conv => lhs; simp only [zfr, Nat.reduceEqDiff, Nat.reduceLT, ↓reduceIte]))) | (apply o_not; (solve | (conv => lhs; simp only [zva, ↓reduceIte, Nat.reduceEqDiff])); (solve | (conv => lhs; simp only [zfr, Nat.reduceEqDiff, Nat.reduceLT, ↓reduceIte]))) | (apply o_if; (solve | (conv => lhs; simp only [zva, ↓reduceIte, Nat.reduceEqDiff])); (solve | (intro hbb; conv => lhs; simp (disch := first | omega | (simp only [Val.cells, List.all_cons, List.all_nil, Val.one, Bool.and_self])) only [zev, zex, Val.one, List.length_cons, List.length_nil, Nat.reduceAdd, Option.map_some, Option.map_none, List.map_cons, List.map_nil, zva, ↓reduceIte, Nat.reduceEqDiff, hbb])); (solve | (conv => lhs; simp only [zfr, Nat.reduceEqDiff, Nat.reduceLT, ↓reduceIte]))) | (apply o_end; (solve | (conv => lhs; simp only [zdr, inl, Nat.reduceEqDiff, or_false, or_true, ↓reduceIte]))) | apply g_seq | apply g_region | apply g_next | apply g_block | apply g_out | (apply g_true; (solve | (conv => lhs; simp only [zva, ↓reduceIte, Nat.reduceEqDiff]))) | (apply g_false; (solve | (conv => lhs; simp only [zva, ↓reduceIte, Nat.reduceEqDiff]))) | apply g_here | (apply g_past; (solve | decide)) | apply g_exit | apply g_retc | apply g_retb | apply g_ret | apply g_done)
  refine ⟨.inr rfl, _, rfl, ?_, left_push w _⟩
  simp only [tuple, Frame.get]
  congr 1
theorem list_run {l : List Nat} (hE : E.Has tabs05 l) (hf : ∀ f ∈ [F.ref05_List, F.ref05_IsTriple], f ∈ l) (w : h.Wf) {n : Int} {v : Val} {ts : List I3} (ht : TriplesAt h v ts) (hlen : ts.length < 2 ^ 60) :
    CallV E h.size F.ref05_List [.int .i64 n, v] h fun r h' => r = .int .i64 (listErr n ts) ∧ Left' h h' := by
  refine c_begin hE (hf _ (by simp)) rfl (by decide) (by decide) ?_
  simp only [T.ref05_List, Frame.enterFrom, Nat.zero_add, Nat.reduceAdd]
  have e1 := ht.len
  by_cases hl : ts.length > 60
  · have d1 : decide ((ts.length : Int) > 60) = true := decide_eq_true (by omega)
    repeat' (first | (apply o_op; (solve | (conv => lhs; simp (disch := first | omega | (simp only [Val.cells, List.all_cons, List.all_nil, Val.one, Bool.and_self])) only [zev, zex, Val.one, List.length_cons, List.length_nil, Nat.reduceAdd, Option.map_some, Option.map_none, List.map_cons, List.map_nil, zva, ↓reduceIte, Nat.reduceEqDiff, e1, d1])); (solve | (conv => lhs; simp only [zfr, Nat.reduceEqDiff, Nat.reduceLT, ↓reduceIte]))) | (apply o_yes; (solve | (conv => lhs; simp only [zva, ↓reduceIte, Nat.reduceEqDiff, e1, d1])); (solve | rfl)) | (apply o_no; (solve | (conv => lhs; simp only [zva, ↓reduceIte, Nat.reduceEqDiff, e1, d1])); (solve | decide); (solve | (conv => lhs; simp only [zfr, Nat.reduceEqDiff, Nat.reduceLT, ↓reduceIte]))) | (apply o_not; (solve | (conv => lhs; simp only [zva, ↓reduceIte, Nat.reduceEqDiff])); (solve | (conv => lhs; simp only [zfr, Nat.reduceEqDiff, Nat.reduceLT, ↓reduceIte]))) | (apply o_if; (solve | (conv => lhs; simp only [zva, ↓reduceIte, Nat.reduceEqDiff])); (solve | (intro hbb; conv => lhs; simp (disch := first | omega | (simp only [Val.cells, List.all_cons, List.all_nil, Val.one, Bool.and_self])) only [zev, zex, Val.one, List.length_cons, List.length_nil, Nat.reduceAdd, Option.map_some, Option.map_none, List.map_cons, List.map_nil, zva, ↓reduceIte, Nat.reduceEqDiff, hbb, e1, d1])); (solve | (conv => lhs; simp only [zfr, Nat.reduceEqDiff, Nat.reduceLT, ↓reduceIte]))) | (apply o_end; (solve | (conv => lhs; simp only [zdr, inl, Nat.reduceEqDiff, or_false, or_true, ↓reduceIte]))) | apply g_seq | apply g_region | apply g_next | apply g_block | apply g_out | (apply g_true; (solve | (conv => lhs; simp only [zva, ↓reduceIte, Nat.reduceEqDiff, e1, d1]))) | (apply g_false; (solve | (conv => lhs; simp only [zva, ↓reduceIte, Nat.reduceEqDiff, e1, d1]))) | apply g_here | (apply g_past; (solve | decide)) | apply g_exit | apply g_retc | apply g_retb | apply g_ret | apply g_done)
    exact ⟨.inr rfl, _, rfl, by simp [tuple, Frame.get, listErr, hl], Left'.refl w⟩
  have d1 : decide ((ts.length : Int) > 60) = false := decide_eq_false (by omega)
  repeat' (first | (apply o_op; (solve | (conv => lhs; simp (disch := first | omega | (simp only [Val.cells, List.all_cons, List.all_nil, Val.one, Bool.and_self])) only [zev, zex, Val.one, List.length_cons, List.length_nil, Nat.reduceAdd, Option.map_some, Option.map_none, List.map_cons, List.map_nil, zva, ↓reduceIte, Nat.reduceEqDiff, e1, d1])); (solve | (conv => lhs; simp only [zfr, Nat.reduceEqDiff, Nat.reduceLT, ↓reduceIte]))) | (apply o_yes; (solve | (conv => lhs; simp only [zva, ↓reduceIte, Nat.reduceEqDiff, e1, d1])); (solve | rfl)) | (apply o_no; (solve | (conv => lhs; simp only [zva, ↓reduceIte, Nat.reduceEqDiff, e1, d1])); (solve | decide); (solve | (conv => lhs; simp only [zfr, Nat.reduceEqDiff, Nat.reduceLT, ↓reduceIte]))) | (apply o_not; (solve | (conv => lhs; simp only [zva, ↓reduceIte, Nat.reduceEqDiff])); (solve | (conv => lhs; simp only [zfr, Nat.reduceEqDiff, Nat.reduceLT, ↓reduceIte]))) | (apply o_if; (solve | (conv => lhs; simp only [zva, ↓reduceIte, Nat.reduceEqDiff])); (solve | (intro hbb; conv => lhs; simp (disch := first | omega | (simp only [Val.cells, List.all_cons, List.all_nil, Val.one, Bool.and_self])) only [zev, zex, Val.one, List.length_cons, List.length_nil, Nat.reduceAdd, Option.map_some, Option.map_none, List.map_cons, List.map_nil, zva, ↓reduceIte, Nat.reduceEqDiff, hbb, e1, d1])); (solve | (conv => lhs; simp only [zfr, Nat.reduceEqDiff, Nat.reduceLT, ↓reduceIte]))) | (apply o_end; (solve | (conv => lhs; simp only [zdr, inl, Nat.reduceEqDiff, or_false, or_true, ↓reduceIte]))) | apply g_seq | apply g_region | apply g_next | apply g_block | apply g_out | (apply g_true; (solve | (conv => lhs; simp only [zva, ↓reduceIte, Nat.reduceEqDiff, e1, d1]))) | (apply g_false; (solve | (conv => lhs; simp only [zva, ↓reduceIte, Nat.reduceEqDiff, e1, d1]))) | apply g_here | (apply g_past; (solve | decide)) | apply g_exit | apply g_retc | apply g_retb | apply g_ret | apply g_done)
  refine loop_ind (fun m fr h2 => ∃ i, i + m = ts.length ∧ fr = [(0, .int .i64 n), (1, v), (5, .int .i64 (i : Int))] ∧ Left' h h2 ∧ (ts.take i).all (isTriple n) = true) ?_ ts.length _ _ ⟨0, by omega, rfl, Left'.refl w, by simp⟩
  rintro m fr h2 ⟨i, him, rfl, L2, ha⟩ ih
  have ht2 := ht.left w L2
  have e2 := ht2.len
  by_cases hi : i < ts.length
  · have d2 : decide ((i : Int) < (ts.length : Int)) = true := decide_eq_true (by omega)
    obtain ⟨p, p1, p2⟩ := ht2.elem hi
    generalize het : ts[i] = t at p2
    have hs2 := L2.2.2
    repeat' (first | (apply o_op; (solve | (conv => lhs; simp (disch := first | omega | (simp only [Val.cells, List.all_cons, List.all_nil, Val.one, Bool.and_self])) only [zev, zex, Val.one, List.length_cons, List.length_nil, Nat.reduceAdd, Option.map_some, Option.map_none, List.map_cons, List.map_nil, zva, ↓reduceIte, Nat.reduceEqDiff, d2, e2, p1, p2])); (solve | (conv => lhs; simp only [zfr, Nat.reduceEqDiff, Nat.reduceLT, ↓reduceIte]))) | (apply o_yes; (solve | (conv => lhs; simp only [zva, ↓reduceIte, Nat.reduceEqDiff, d2, e2, p1, p2])); (solve | rfl)) | (apply o_no; (solve | (conv => lhs; simp only [zva, ↓reduceIte, Nat.reduceEqDiff, d2, e2, p1, p2])); (solve | decide); (solve | (conv => lhs; simp only [zfr, Nat.reduceEqDiff, Nat.reduceLT, ↓reduceIte]))) | (apply o_not; (solve | (conv => lhs; simp only [zva, ↓reduceIte, Nat.reduceEqDiff])); (solve | (conv => lhs; simp only [zfr, Nat.reduceEqDiff, Nat.reduceLT, ↓reduceIte]))) | (apply o_if; (solve | (conv => lhs; simp only [zva, ↓reduceIte, Nat.reduceEqDiff])); (solve | (intro hbb; conv => lhs; simp (disch := first | omega | (simp only [Val.cells, List.all_cons, List.all_nil, Val.one, Bool.and_self])) only [zev, zex, Val.one, List.length_cons, List.length_nil, Nat.reduceAdd, Option.map_some, Option.map_none, List.map_cons, List.map_nil, zva, ↓reduceIte, Nat.reduceEqDiff, hbb, d2, e2, p1, p2])); (solve | (conv => lhs; simp only [zfr, Nat.reduceEqDiff, Nat.reduceLT, ↓reduceIte]))) | (apply o_end; (solve | (conv => lhs; simp only [zdr, inl, Nat.reduceEqDiff, or_false, or_true, ↓reduceIte]))) | apply g_seq | apply g_region | apply g_next | apply g_block | apply g_out | (apply g_true; (solve | (conv => lhs; simp only [zva, ↓reduceIte, Nat.reduceEqDiff, d2, e2, p1, p2]))) | (apply g_false; (solve | (conv => lhs; simp only [zva, ↓reduceIte, Nat.reduceEqDiff, d2, e2, p1, p2]))) | apply g_here | (apply g_past; (solve | decide)) | apply g_exit | apply g_retc | apply g_retb | apply g_ret | apply g_done)
    (apply o_call; (solve | (conv => lhs; simp only [Callee.find, List.map_cons, List.map_nil, List.cons_append, List.nil_append, zva, ↓reduceIte, Nat.reduceEqDiff])))
    · exact (isTriple_run hE (hf _ (by simp)) L2.2.1).lower hs2
    rintro _ h3 ⟨rfl, L3⟩
    (conv => arg 8; simp only [zfr, Nat.reduceEqDiff, Nat.reduceLT, ↓reduceIte])
    cases ht : isTriple n t
    · repeat' (first | (apply o_op; (solve | (conv => lhs; simp (disch := first | omega | (simp only [Val.cells, List.all_cons, List.all_nil, Val.one, Bool.and_self])) only [zev, zex, Val.one, List.length_cons, List.length_nil, Nat.reduceAdd, Option.map_some, Option.map_none, List.map_cons, List.map_nil, zva, ↓reduceIte, Nat.reduceEqDiff, Bool.not_false])); (solve | (conv => lhs; simp only [zfr, Nat.reduceEqDiff, Nat.reduceLT, ↓reduceIte]))) | (apply o_yes; (solve | (conv => lhs; simp only [zva, ↓reduceIte, Nat.reduceEqDiff, Bool.not_false])); (solve | rfl)) | (apply o_no; (solve | (conv => lhs; simp only [zva, ↓reduceIte, Nat.reduceEqDiff, Bool.not_false])); (solve | decide); (solve | (conv => lhs; simp only [zfr, Nat.reduceEqDiff, Nat.reduceLT, ↓reduceIte]))) | (apply o_not; (solve | (conv => lhs; simp only [zva, ↓reduceIte, Nat.reduceEqDiff])); (solve | (conv => lhs; simp only [zfr, Nat.reduceEqDiff, Nat.reduceLT, ↓reduceIte]))) | (apply o_if; (solve | (conv => lhs; simp only [zva, ↓reduceIte, Nat.reduceEqDiff])); (solve | (intro hbb; conv => lhs; simp (disch := first | omega | (simp only [Val.cells, List.all_cons, List.all_nil, Val.one, Bool.and_self])) only [zev, zex, Val.one, List.length_cons, List.length_nil, Nat.reduceAdd, Option.map_some, Option.map_none, List.map_cons, List.map_nil, zva, ↓reduceIte, Nat.reduceEqDiff, hbb, Bool.not_false])); (solve | (conv => lhs; simp only [zfr, Nat.reduceEqDiff, Nat.reduceLT, ↓reduceIte]))) | (apply o_end; (solve | (conv => lhs; simp only [zdr, inl, Nat.reduceEqDiff, or_false, or_true, ↓reduceIte]))) | apply g_seq | apply g_region | apply g_next | apply g_block | apply g_out | (apply g_true; (solve | (conv => lhs; simp only [zva, ↓reduceIte, Nat.reduceEqDiff, Bool.not_false]))) | (apply g_false; (solve | (conv => lhs; simp only [zva, ↓reduceIte, Nat.reduceEqDiff, Bool.not_false]))) | apply g_here | (apply g_past; (solve | decide)) | apply g_exit | apply g_retc | apply g_retb | apply g_ret | apply g_done)
      refine ⟨.inr rfl, _, rfl, ?_, L2.trans L3⟩
      have hn : ¬ (ts.all (isTriple n) = true) := fun h => by
        rw [List.all_eq_true] at h
        have := h _ (List.getElem_mem hi)
        rw [het, ht] at this
        cases this
      simp [tuple, Frame.get, listErr, hl, hn]
    · repeat' (first | (apply o_op; (solve | (conv => lhs; simp (disch := first | omega | (simp only [Val.cells, List.all_cons, List.all_nil, Val.one, Bool.and_self])) only [zev, zex, Val.one, List.length_cons, List.length_nil, Nat.reduceAdd, Option.map_some, Option.map_none, List.map_cons, List.map_nil, zva, ↓reduceIte, Nat.reduceEqDiff, Bool.not_true])); (solve | (conv => lhs; simp only [zfr, Nat.reduceEqDiff, Nat.reduceLT, ↓reduceIte]))) | (apply o_yes; (solve | (conv => lhs; simp only [zva, ↓reduceIte, Nat.reduceEqDiff, Bool.not_true])); (solve | rfl)) | (apply o_no; (solve | (conv => lhs; simp only [zva, ↓reduceIte, Nat.reduceEqDiff, Bool.not_true])); (solve | decide); (solve | (conv => lhs; simp only [zfr, Nat.reduceEqDiff, Nat.reduceLT, ↓reduceIte]))) | (apply o_not; (solve | (conv => lhs; simp only [zva, ↓reduceIte, Nat.reduceEqDiff])); (solve | (conv => lhs; simp only [zfr, Nat.reduceEqDiff, Nat.reduceLT, ↓reduceIte]))) | (apply o_if; (solve | (conv => lhs; simp only [zva, ↓reduceIte, Nat.reduceEqDiff])); (solve | (intro hbb; conv => lhs; simp (disch := first | omega | (simp only [Val.cells, List.all_cons, List.all_nil, Val.one, Bool.and_self])) only [zev, zex, Val.one, List.length_cons, List.length_nil, Nat.reduceAdd, Option.map_some, Option.map_none, List.map_cons, List.map_nil, zva, ↓reduceIte, Nat.reduceEqDiff, hbb, Bool.not_true])); (solve | (conv => lhs; simp only [zfr, Nat.reduceEqDiff, Nat.reduceLT, ↓reduceIte]))) | (apply o_end; (solve | (conv => lhs; simp only [zdr, inl, Nat.reduceEqDiff, or_false, or_true, ↓reduceIte]))) | apply g_seq | apply g_region | apply g_next | apply g_block | apply g_out | (apply g_true; (solve | (conv => lhs; simp only [zva, ↓reduceIte, Nat.reduceEqDiff, Bool.not_true]))) | (apply g_false; (solve | (conv => lhs; simp only [zva, ↓reduceIte, Nat.reduceEqDiff, Bool.not_true]))) | apply g_here | (apply g_past; (solve | decide)) | apply g_exit | apply g_retc | apply g_retb | apply g_ret | apply g_done)
      refine ih (m - 1) _ _ (by omega) ⟨i + 1, by omega, by simp, L2.trans L3, ?_⟩
      rw [List.take_add_one, List.getElem?_eq_getElem hi, het]
      simp only [List.all_append, ha, Option.toList_some, List.all_cons, List.all_nil, ht, Bool.and_self]
  · have d2 : decide ((i : Int) < (ts.length : Int)) = false := decide_eq_false (by omega)
    repeat' (first | (apply o_op; (solve | (conv => lhs; simp (disch := first | omega | (simp only [Val.cells, List.all_cons, List.all_nil, Val.one, Bool.and_self])) only [zev, zex, Val.one, List.length_cons, List.length_nil, Nat.reduceAdd, Option.map_some, Option.map_none, List.map_cons, List.map_nil, zva, ↓reduceIte, Nat.reduceEqDiff, d2, e2])); (solve | (conv => lhs; simp only [zfr, Nat.reduceEqDiff, Nat.reduceLT, ↓reduceIte]))) | (apply o_yes; (solve | (conv => lhs; simp only [zva, ↓reduceIte, Nat.reduceEqDiff, d2, e2])); (solve | rfl)) | (apply o_no; (solve | (conv => lhs; simp only [zva, ↓reduceIte, Nat.reduceEqDiff, d2, e2])); (solve | decide); (solve | (conv => lhs; simp only [zfr, Nat.reduceEqDiff, Nat.reduceLT, ↓reduceIte]))) | (apply o_not; (solve | (conv => lhs; simp only [zva, ↓reduceIte, Nat.reduceEqDiff])); (solve | (conv => lhs; simp only [zfr, Nat.reduceEqDiff, Nat.reduceLT, ↓reduceIte]))) | (apply o_if; (solve | (conv => lhs; simp only [zva, ↓reduceIte, Nat.reduceEqDiff])); (solve | (intro hbb; conv => lhs; simp (disch := first | omega | (simp only [Val.cells, List.all_cons, List.all_nil, Val.one, Bool.and_self])) only [zev, zex, Val.one, List.length_cons, List.length_nil, Nat.reduceAdd, Option.map_some, Option.map_none, List.map_cons, List.map_nil, zva, ↓reduceIte, Nat.reduceEqDiff, hbb, d2, e2])); (solve | (conv => lhs; simp only [zfr, Nat.reduceEqDiff, Nat.reduceLT, ↓reduceIte]))) | (apply o_end; (solve | (conv => lhs; simp only [zdr, inl, Nat.reduceEqDiff, or_false, or_true, ↓reduceIte]))) | apply g_seq | apply g_region | apply g_next | apply g_block | apply g_out | (apply g_true; (solve | (conv => lhs; simp only [zva, ↓reduceIte, Nat.reduceEqDiff, d2, e2]))) | (apply g_false; (solve | (conv => lhs; simp only [zva, ↓reduceIte, Nat.reduceEqDiff, d2, e2]))) | apply g_here | (apply g_past; (solve | decide)) | apply g_exit | apply g_retc | apply g_retb | apply g_ret | apply g_done)
    refine ⟨.inr rfl, _, rfl, ?_, L2⟩
    rw [List.take_of_length_le (by omega)] at ha
    simp [tuple, Frame.get, listErr, hl, ha]
end Gc
end
section
/- Contracts: families in a tree, and whether a tree shows a triple; of the program and of the specification. -/
set_option linter.unusedVariables false
set_option linter.unusedSimpArgs false
namespace Gc
variable {E : Env} {base kept : Nat} {h : Heap}
def toI (t : T3) : I3 := (t.1, t.2.1, t.2.2)
def okT (n : Nat) (t : T3) : Prop := t.1 < t.2.1 ∧ t.2.1 < n ∧ t.2.2 < n ∧ t.2.2 ≠ t.1 ∧ t.2.2 ≠ t.2.1
theorem isTriple_iff {n : Nat} {t : I3} : isTriple n t = true ↔ ∃ x : T3, t = toI x ∧ okT n x := by
  obtain ⟨a, b, c⟩ := t
  simp only [isTriple, Bool.and_eq_true, decide_eq_true_eq, bne_iff_ne, ne_eq]
  constructor
  · rintro ⟨⟨⟨⟨⟨⟨h1, h2⟩, h3⟩, h4⟩, h5⟩, h6⟩, h7⟩
    refine ⟨(a.toNat, b.toNat, c.toNat), ?_, ?_⟩
    · simp only [toI, Prod.mk.injEq]; omega
    · simp only [okT]; omega
  · rintro ⟨⟨x, y, z⟩, e, h⟩
    simp only [toI, Prod.mk.injEq] at e
    obtain ⟨rfl, rfl, rfl⟩ := e
    simp only [okT] at h
    omega
theorem all_nat {n : Nat} : ∀ {ts : List I3}, ts.all (isTriple n) = true → ∃ l : List T3, ts = l.map toI ∧ ∀ x ∈ l, okT n x
  | [], _ => ⟨[], rfl, by simp⟩
  | t :: ts, h => by
    simp only [List.all_cons, Bool.and_eq_true] at h
    obtain ⟨x, rfl, hx⟩ := isTriple_iff.1 h.1
    obtain ⟨l, rfl, hl⟩ := all_nat h.2
    exact ⟨x :: l, rfl, fun y hy => by
      rcases List.mem_cons.1 hy with rfl | hy
      · exact hx
      · exact hl y hy⟩
theorem okT.pair {n : Nat} (hn : n ≤ 8) {x : T3} (h : okT n x) : pair x < 256 ∧ x.1 < 8 ∧ x.2.1 < 8 ∧ x.2.2 < 8 := by
  obtain ⟨h1, h2, h3, _⟩ := h
  refine ⟨lt_256.2 fun i hi => ?_, by omega, by omega, by omega⟩
  rcases bit_pair.1 hi with rfl | rfl <;> omega
theorem famIn_at {b : Nat} : ∀ {l : List Tr} {i : Nat} (hi : i < l.length), (∀ j (hj : j < i), diff b (l[j]'(by omega)).set ≠ 0) → diff b l[i].set = 0 → famIn l b = some (l[i].fam b)
  | [], i, hi, _, _ => by simp at hi
  | t :: l, 0, hi, _, h0 => by simp only [famIn]; rw [if_pos (by simpa using h0)]; rfl
  | t :: l, i + 1, hi, hj, h0 => by
    simp only [famIn]
    rw [if_neg (by simpa using hj 0 (by omega))]
    exact famIn_at (l := l) (i := i) (by simpa using hi) (fun j h => by simpa using hj (j + 1) (by omega)) (by simpa using h0)
theorem famIn_no {b : Nat} : ∀ {l : List Tr}, (∀ j (hj : j < l.length), diff b l[j].set ≠ 0) → famIn l b = none
  | [], _ => rfl
  | t :: l, h => by
    simp only [famIn]
    have h0 : diff b t.set ≠ 0 := h 0 (by simp)
    rw [if_neg h0]
    exact famIn_no fun j hj => h (j + 1) (by simpa using hj)
theorem spread_get1 {h : Heap} {k o n : Nat} {c : Option Nat} {vs : List Val} {v : Val} {i : Nat} (e : spread h 1 (.slice k o n c) = some (n, vs)) (hv : vs[i]? = some v) (h1 : v.one = true ∨ True) :
    ∃ p, indexAddrV h 1 (.slice k o n c) (.int .i64 (i : Int)) = some (p, h) ∧ loadV h false 1 p = some (v, h) := by
  obtain ⟨hl, hg⟩ := List.getElem?_eq_some_iff.1 hv
  have hn := spread_length e
  obtain ⟨k', o', c', hv', e1, e2⟩ := spread_elem (ki := .i64) (fun s => by simp) e (j := i) (by omega)
  cases hv'
  refine ⟨_, e1, ?_⟩
  rw [loadV_ptr, e2 false 1 (Nat.le_refl _), Nat.mul_one, List.drop_eq_getElem_cons hl, hg]
  rfl
def CommonOk (E : Env) (t : Tr) : Prop := ∀ (h : Heap) (v : Val) (b : Nat), h.Wf → TreeAt (· < h.size) h t v → b < 256 → CallV E h.size F.breed_common [v, .int .i64 (b : Int)] h fun r h' => r = .int .i64 (t.fam b : Int) ∧ Left' h h'
theorem common_run {l : List Nat} (hE : E.Has tabs05 l) (hf : ∀ f ∈ [F.breed_common, F.breed_set_beasts], f ∈ l) {t : Tr} (v : t.V) : CommonOk E t := by
  induction v with
  | @leaf d hd =>
    intro h v b w ht hb
    have ht' := ht
    simp only [TreeAt] at ht
    subst ht
    refine c_begin hE (hf _ (by simp)) rfl (by decide) (by decide) ?_
    simp only [T.breed_common, Frame.enterFrom, Nat.zero_add, Nat.reduceAdd]
    repeat' (first | (apply o_op; (solve | (conv => lhs; simp (disch := first | omega | (simp only [Val.cells, List.all_cons, List.all_nil, Val.one, Bool.and_self])) only [zev, zex, Val.one, List.length_cons, List.length_nil, Nat.reduceAdd, Option.map_some, Option.map_none, List.map_cons, List.map_nil, zva, ↓reduceIte, Nat.reduceEqDiff])); (solve | (conv => lhs; simp only [zfr, Nat.reduceEqDiff, Nat.reduceLT, ↓reduceIte]))) | (apply o_yes; (solve | (conv => lhs; simp only [zva, ↓reduceIte, Nat.reduceEqDiff])); (solve | rfl)) | (apply o_no; (solve | (conv => lhs; simp only [zva, ↓reduceIte, Nat.reduceEqDiff])); (solve | decide); (solve | (conv => lhs; simp only [zfr, Nat.reduceEqDiff, Nat.reduceLT, ↓reduceIte]))) | (apply o_not; (solve | (conv => lhs; simp only [zva, ↓reduceIte, Nat.reduceEqDiff])); (solve | (conv => lhs; simp only [zfr, Nat.reduceEqDiff, Nat.reduceLT, ↓reduceIte]))) | (apply o_if; (solve | (conv => lhs; simp only [zva, ↓reduceIte, Nat.reduceEqDiff])); (solve | (intro hbb; conv => lhs; simp (disch := first | omega | (simp only [Val.cells, List.all_cons, List.all_nil, Val.one, Bool.and_self])) only [zev, zex, Val.one, List.length_cons, List.length_nil, Nat.reduceAdd, Option.map_some, Option.map_none, List.map_cons, List.map_nil, zva, ↓reduceIte, Nat.reduceEqDiff, hbb])); (solve | (conv => lhs; simp only [zfr, Nat.reduceEqDiff, Nat.reduceLT, ↓reduceIte]))) | (apply o_end; (solve | (conv => lhs; simp only [zdr, inl, Nat.reduceEqDiff, or_false, or_true, ↓reduceIte]))) | apply g_seq | apply g_region | apply g_next | apply g_block | apply g_out | (apply g_true; (solve | (conv => lhs; simp only [zva, ↓reduceIte, Nat.reduceEqDiff]))) | (apply g_false; (solve | (conv => lhs; simp only [zva, ↓reduceIte, Nat.reduceEqDiff]))) | apply g_here | (apply g_past; (solve | decide)) | apply g_exit | apply g_retc | apply g_retb | apply g_ret | apply g_done)
    refine o_beasts hE (hf _ (by simp)) (by rfl) ht' rfl ?_
    (conv => arg 8; simp only [zfr, Nat.reduceEqDiff, Nat.reduceLT, ↓reduceIte])
    repeat' (first | (apply o_op; (solve | (conv => lhs; simp (disch := first | omega | (simp only [Val.cells, List.all_cons, List.all_nil, Val.one, Bool.and_self])) only [zev, zex, Val.one, List.length_cons, List.length_nil, Nat.reduceAdd, Option.map_some, Option.map_none, List.map_cons, List.map_nil, zva, ↓reduceIte, Nat.reduceEqDiff])); (solve | (conv => lhs; simp only [zfr, Nat.reduceEqDiff, Nat.reduceLT, ↓reduceIte]))) | (apply o_yes; (solve | (conv => lhs; simp only [zva, ↓reduceIte, Nat.reduceEqDiff])); (solve | rfl)) | (apply o_no; (solve | (conv => lhs; simp only [zva, ↓reduceIte, Nat.reduceEqDiff])); (solve | decide); (solve | (conv => lhs; simp only [zfr, Nat.reduceEqDiff, Nat.reduceLT, ↓reduceIte]))) | (apply o_not; (solve | (conv => lhs; simp only [zva, ↓reduceIte, Nat.reduceEqDiff])); (solve | (conv => lhs; simp only [zfr, Nat.reduceEqDiff, Nat.reduceLT, ↓reduceIte]))) | (apply o_if; (solve | (conv => lhs; simp only [zva, ↓reduceIte, Nat.reduceEqDiff])); (solve | (intro hbb; conv => lhs; simp (disch := first | omega | (simp only [Val.cells, List.all_cons, List.all_nil, Val.one, Bool.and_self])) only [zev, zex, Val.one, List.length_cons, List.length_nil, Nat.reduceAdd, Option.map_some, Option.map_none, List.map_cons, List.map_nil, zva, ↓reduceIte, Nat.reduceEqDiff, hbb])); (solve | (conv => lhs; simp only [zfr, Nat.reduceEqDiff, Nat.reduceLT, ↓reduceIte]))) | (apply o_end; (solve | (conv => lhs; simp only [zdr, inl, Nat.reduceEqDiff, or_false, or_true, ↓reduceIte]))) | apply g_seq | apply g_region | apply g_next | apply g_block | apply g_out | (apply g_true; (solve | (conv => lhs; simp only [zva, ↓reduceIte, Nat.reduceEqDiff]))) | (apply g_false; (solve | (conv => lhs; simp only [zva, ↓reduceIte, Nat.reduceEqDiff]))) | apply g_here | (apply g_past; (solve | decide)) | apply g_exit | apply g_retc | apply g_retb | apply g_ret | apply g_done)
    exact ⟨.inr rfl, _, rfl, rfl, Left'.refl w⟩
  | @node ts hl h2 hd hs ih =>
    intro h v b w ht hb
    have ht' := ht
    simp only [TreeAt] at ht
    obtain ⟨k, o, c, vs, rfl, hk, hsp, hts⟩ := ht
    refine c_begin hE (hf _ (by simp)) rfl (by decide) (by decide) ?_
    simp only [T.breed_common, Frame.enterFrom, Nat.zero_add, Nat.reduceAdd]
    have hvn := (Tr.V.node hl h2 hd hs).lt
    simp only [Tr.set] at hvn
    have hlen := few_parts hs
    repeat' (first | (apply o_op; (solve | (conv => lhs; simp (disch := first | omega | (simp only [Val.cells, List.all_cons, List.all_nil, Val.one, Bool.and_self])) only [zev, zex, Val.one, List.length_cons, List.length_nil, Nat.reduceAdd, Option.map_some, Option.map_none, List.map_cons, List.map_nil, zva, ↓reduceIte, Nat.reduceEqDiff])); (solve | (conv => lhs; simp only [zfr, Nat.reduceEqDiff, Nat.reduceLT, ↓reduceIte]))) | (apply o_yes; (solve | (conv => lhs; simp only [zva, ↓reduceIte, Nat.reduceEqDiff])); (solve | rfl)) | (apply o_no; (solve | (conv => lhs; simp only [zva, ↓reduceIte, Nat.reduceEqDiff])); (solve | decide); (solve | (conv => lhs; simp only [zfr, Nat.reduceEqDiff, Nat.reduceLT, ↓reduceIte]))) | (apply o_not; (solve | (conv => lhs; simp only [zva, ↓reduceIte, Nat.reduceEqDiff])); (solve | (conv => lhs; simp only [zfr, Nat.reduceEqDiff, Nat.reduceLT, ↓reduceIte]))) | (apply o_if; (solve | (conv => lhs; simp only [zva, ↓reduceIte, Nat.reduceEqDiff])); (solve | (intro hbb; conv => lhs; simp (disch := first | omega | (simp only [Val.cells, List.all_cons, List.all_nil, Val.one, Bool.and_self])) only [zev, zex, Val.one, List.length_cons, List.length_nil, Nat.reduceAdd, Option.map_some, Option.map_none, List.map_cons, List.map_nil, zva, ↓reduceIte, Nat.reduceEqDiff, hbb])); (solve | (conv => lhs; simp only [zfr, Nat.reduceEqDiff, Nat.reduceLT, ↓reduceIte]))) | (apply o_end; (solve | (conv => lhs; simp only [zdr, inl, Nat.reduceEqDiff, or_false, or_true, ↓reduceIte]))) | apply g_seq | apply g_region | apply g_next | apply g_block | apply g_out | (apply g_true; (solve | (conv => lhs; simp only [zva, ↓reduceIte, Nat.reduceEqDiff]))) | (apply g_false; (solve | (conv => lhs; simp only [zva, ↓reduceIte, Nat.reduceEqDiff]))) | apply g_here | (apply g_past; (solve | decide)) | apply g_exit | apply g_retc | apply g_retb | apply g_ret | apply g_done)
    have L1 := left_push w (some ⟨[.int .i64 (union ts : Int), .slice k o ts.length c], true, 0⟩)
    refine loop_ind (fun m fr h2 => ∃ i, i + m = ts.length ∧ fr = [(0, .iface Ty.breed_family (.agg [.int .i64 (union ts : Int), .slice k o ts.length c])), (1, .int .i64 (b : Int)), (13, .slice k o ts.length c), (14, .int .i64 (ts.length : Int)), (15, .int .i64 (i : Int))] ∧ Left' h h2 ∧ ∀ j (hj : j < i) (hj' : j < ts.length), diff b ts[j].set ≠ 0) ?_ ts.length _ _ ⟨0, by omega, rfl, L1, fun j hj => by omega⟩
    rintro m fr h2 ⟨i, him, rfl, L2, ha⟩ ih2
    have hs2 := L2.2.2
    by_cases hi : i < ts.length
    · have d2 : decide ((i : Int) < (ts.length : Int)) = true := decide_eq_true (by omega)
      have hts2 := TreesAt.keep (Q := (· < h2.size)) (fun k p => L2.1 k p) (fun k p => Nat.lt_of_lt_of_le p hs2) ts vs hts
      obtain ⟨u, hu, hut⟩ := hts2.get (List.getElem?_eq_getElem hi)
      obtain ⟨p, p1, p2⟩ := spread_get1 (spread_left w hsp L2) hu (.inr trivial)
      have hul := (hl _ (List.getElem_mem hi)).lt
      repeat' (first | (apply o_op; (solve | (conv => lhs; simp (disch := first | omega | (simp only [Val.cells, List.all_cons, List.all_nil, Val.one, Bool.and_self])) only [zev, zex, Val.one, List.length_cons, List.length_nil, Nat.reduceAdd, Option.map_some, Option.map_none, List.map_cons, List.map_nil, zva, ↓reduceIte, Nat.reduceEqDiff, d2, p1, p2])); (solve | (conv => lhs; simp only [zfr, Nat.reduceEqDiff, Nat.reduceLT, ↓reduceIte]))) | (apply o_yes; (solve | (conv => lhs; simp only [zva, ↓reduceIte, Nat.reduceEqDiff, d2, p1, p2])); (solve | rfl)) | (apply o_no; (solve | (conv => lhs; simp only [zva, ↓reduceIte, Nat.reduceEqDiff, d2, p1, p2])); (solve | decide); (solve | (conv => lhs; simp only [zfr, Nat.reduceEqDiff, Nat.reduceLT, ↓reduceIte]))) | (apply o_not; (solve | (conv => lhs; simp only [zva, ↓reduceIte, Nat.reduceEqDiff])); (solve | (conv => lhs; simp only [zfr, Nat.reduceEqDiff, Nat.reduceLT, ↓reduceIte]))) | (apply o_if; (solve | (conv => lhs; simp only [zva, ↓reduceIte, Nat.reduceEqDiff])); (solve | (intro hbb; conv => lhs; simp (disch := first | omega | (simp only [Val.cells, List.all_cons, List.all_nil, Val.one, Bool.and_self])) only [zev, zex, Val.one, List.length_cons, List.length_nil, Nat.reduceAdd, Option.map_some, Option.map_none, List.map_cons, List.map_nil, zva, ↓reduceIte, Nat.reduceEqDiff, hbb, d2, p1, p2])); (solve | (conv => lhs; simp only [zfr, Nat.reduceEqDiff, Nat.reduceLT, ↓reduceIte]))) | (apply o_end; (solve | (conv => lhs; simp only [zdr, inl, Nat.reduceEqDiff, or_false, or_true, ↓reduceIte]))) | apply g_seq | apply g_region | apply g_next | apply g_block | apply g_out | (apply g_true; (solve | (conv => lhs; simp only [zva, ↓reduceIte, Nat.reduceEqDiff, d2, p1, p2]))) | (apply g_false; (solve | (conv => lhs; simp only [zva, ↓reduceIte, Nat.reduceEqDiff, d2, p1, p2]))) | apply g_here | (apply g_past; (solve | decide)) | apply g_exit | apply g_retc | apply g_retb | apply g_ret | apply g_done)
      refine o_beasts hE (hf _ (by simp)) (by simp only [zva, ↓reduceIte, Nat.reduceEqDiff]) hut rfl ?_
      (conv => arg 8; simp only [zfr, Nat.reduceEqDiff, Nat.reduceLT, ↓reduceIte])
      repeat' (first | (apply o_op; (solve | (conv => lhs; simp (disch := first | omega | (simp only [Val.cells, List.all_cons, List.all_nil, Val.one, Bool.and_self])) only [zev, zex, Val.one, List.length_cons, List.length_nil, Nat.reduceAdd, Option.map_some, Option.map_none, List.map_cons, List.map_nil, zva, ↓reduceIte, Nat.reduceEqDiff])); (solve | (conv => lhs; simp only [zfr, Nat.reduceEqDiff, Nat.reduceLT, ↓reduceIte]))) | (apply o_yes; (solve | (conv => lhs; simp only [zva, ↓reduceIte, Nat.reduceEqDiff])); (solve | rfl)) | (apply o_no; (solve | (conv => lhs; simp only [zva, ↓reduceIte, Nat.reduceEqDiff])); (solve | decide); (solve | (conv => lhs; simp only [zfr, Nat.reduceEqDiff, Nat.reduceLT, ↓reduceIte]))) | (apply o_not; (solve | (conv => lhs; simp only [zva, ↓reduceIte, Nat.reduceEqDiff])); (solve | (conv => lhs; simp only [zfr, Nat.reduceEqDiff, Nat.reduceLT, ↓reduceIte]))) | (apply o_if; (solve | (conv => lhs; simp only [zva, ↓reduceIte, Nat.reduceEqDiff])); (solve | (intro hbb; conv => lhs; simp (disch := first | omega | (simp only [Val.cells, List.all_cons, List.all_nil, Val.one, Bool.and_self])) only [zev, zex, Val.one, List.length_cons, List.length_nil, Nat.reduceAdd, Option.map_some, Option.map_none, List.map_cons, List.map_nil, zva, ↓reduceIte, Nat.reduceEqDiff, hbb])); (solve | (conv => lhs; simp only [zfr, Nat.reduceEqDiff, Nat.reduceLT, ↓reduceIte]))) | (apply o_end; (solve | (conv => lhs; simp only [zdr, inl, Nat.reduceEqDiff, or_false, or_true, ↓reduceIte]))) | apply g_seq | apply g_region | apply g_next | apply g_block | apply g_out | (apply g_true; (solve | (conv => lhs; simp only [zva, ↓reduceIte, Nat.reduceEqDiff]))) | (apply g_false; (solve | (conv => lhs; simp only [zva, ↓reduceIte, Nat.reduceEqDiff]))) | apply g_here | (apply g_past; (solve | decide)) | apply g_exit | apply g_retc | apply g_retb | apply g_ret | apply g_done)
      by_cases h0 : diff b ts[i].set = 0
      · have e0 : (((diff b ts[i].set : Nat) : Int) == 0) = true := by rw [h0]; rfl
        rw [e0]
        repeat' (first | (apply o_op; (solve | (conv => lhs; simp (disch := first | omega | (simp only [Val.cells, List.all_cons, List.all_nil, Val.one, Bool.and_self])) only [zev, zex, Val.one, List.length_cons, List.length_nil, Nat.reduceAdd, Option.map_some, Option.map_none, List.map_cons, List.map_nil, zva, ↓reduceIte, Nat.reduceEqDiff])); (solve | (conv => lhs; simp only [zfr, Nat.reduceEqDiff, Nat.reduceLT, ↓reduceIte]))) | (apply o_yes; (solve | (conv => lhs; simp only [zva, ↓reduceIte, Nat.reduceEqDiff])); (solve | rfl)) | (apply o_no; (solve | (conv => lhs; simp only [zva, ↓reduceIte, Nat.reduceEqDiff])); (solve | decide); (solve | (conv => lhs; simp only [zfr, Nat.reduceEqDiff, Nat.reduceLT, ↓reduceIte]))) | (apply o_not; (solve | (conv => lhs; simp only [zva, ↓reduceIte, Nat.reduceEqDiff])); (solve | (conv => lhs; simp only [zfr, Nat.reduceEqDiff, Nat.reduceLT, ↓reduceIte]))) | (apply o_if; (solve | (conv => lhs; simp only [zva, ↓reduceIte, Nat.reduceEqDiff])); (solve | (intro hbb; conv => lhs; simp (disch := first | omega | (simp only [Val.cells, List.all_cons, List.all_nil, Val.one, Bool.and_self])) only [zev, zex, Val.one, List.length_cons, List.length_nil, Nat.reduceAdd, Option.map_some, Option.map_none, List.map_cons, List.map_nil, zva, ↓reduceIte, Nat.reduceEqDiff, hbb])); (solve | (conv => lhs; simp only [zfr, Nat.reduceEqDiff, Nat.reduceLT, ↓reduceIte]))) | (apply o_end; (solve | (conv => lhs; simp only [zdr, inl, Nat.reduceEqDiff, or_false, or_true, ↓reduceIte]))) | apply g_seq | apply g_region | apply g_next | apply g_block | apply g_out | (apply g_true; (solve | (conv => lhs; simp only [zva, ↓reduceIte, Nat.reduceEqDiff]))) | (apply g_false; (solve | (conv => lhs; simp only [zva, ↓reduceIte, Nat.reduceEqDiff]))) | apply g_here | (apply g_past; (solve | decide)) | apply g_exit | apply g_retc | apply g_retb | apply g_ret | apply g_done)
        (apply o_call; (solve | (conv => lhs; simp only [Callee.find, List.map_cons, List.map_nil, List.cons_append, List.nil_append, zva, ↓reduceIte, Nat.reduceEqDiff])))
        · exact (ih _ (List.getElem_mem hi) h2 u b L2.2.1 hut hb).lower hs2
        rintro _ h3 ⟨rfl, L3⟩
        (conv => arg 8; simp only [zfr, Nat.reduceEqDiff, Nat.reduceLT, ↓reduceIte])
        repeat' (first | (apply o_op; (solve | (conv => lhs; simp (disch := first | omega | (simp only [Val.cells, List.all_cons, List.all_nil, Val.one, Bool.and_self])) only [zev, zex, Val.one, List.length_cons, List.length_nil, Nat.reduceAdd, Option.map_some, Option.map_none, List.map_cons, List.map_nil, zva, ↓reduceIte, Nat.reduceEqDiff])); (solve | (conv => lhs; simp only [zfr, Nat.reduceEqDiff, Nat.reduceLT, ↓reduceIte]))) | (apply o_yes; (solve | (conv => lhs; simp only [zva, ↓reduceIte, Nat.reduceEqDiff])); (solve | rfl)) | (apply o_no; (solve | (conv => lhs; simp only [zva, ↓reduceIte, Nat.reduceEqDiff])); (solve | decide); (solve | (conv => lhs; simp only [zfr, Nat.reduceEqDiff, Nat.reduceLT, ↓reduceIte]))) | (apply o_not; (solve | (conv => lhs; simp only [zva, ↓reduceIte, Nat.reduceEqDiff])); (solve | (conv => lhs; simp only [zfr, Nat.reduceEqDiff, Nat.reduceLT, ↓reduceIte]))) | (apply o_if; (solve | (conv => lhs; simp only [zva, ↓reduceIte, Nat.reduceEqDiff])); (solve | (intro hbb; conv => lhs; simp (disch := first | omega | (simp only [Val.cells, List.all_cons, List.all_nil, Val.one, Bool.and_self])) only [zev, zex, Val.one, List.length_cons, List.length_nil, Nat.reduceAdd, Option.map_some, Option.map_none, List.map_cons, List.map_nil, zva, ↓reduceIte, Nat.reduceEqDiff, hbb])); (solve | (conv => lhs; simp only [zfr, Nat.reduceEqDiff, Nat.reduceLT, ↓reduceIte]))) | (apply o_end; (solve | (conv => lhs; simp only [zdr, inl, Nat.reduceEqDiff, or_false, or_true, ↓reduceIte]))) | apply g_seq | apply g_region | apply g_next | apply g_block | apply g_out | (apply g_true; (solve | (conv => lhs; simp only [zva, ↓reduceIte, Nat.reduceEqDiff]))) | (apply g_false; (solve | (conv => lhs; simp only [zva, ↓reduceIte, Nat.reduceEqDiff]))) | apply g_here | (apply g_past; (solve | decide)) | apply g_exit | apply g_retc | apply g_retb | apply g_ret | apply g_done)
        refine ⟨.inr rfl, _, rfl, ?_, L2.trans L3⟩
        simp only [tuple, Frame.get, Tr.fam]
        rw [famIn_at hi (fun j hj => ha j hj (by omega)) h0]
        rfl
      · have e0 : (((diff b ts[i].set : Nat) : Int) == 0) = false := by simp [h0]
        rw [e0]
        repeat' (first | (apply o_op; (solve | (conv => lhs; simp (disch := first | omega | (simp only [Val.cells, List.all_cons, List.all_nil, Val.one, Bool.and_self])) only [zev, zex, Val.one, List.length_cons, List.length_nil, Nat.reduceAdd, Option.map_some, Option.map_none, List.map_cons, List.map_nil, zva, ↓reduceIte, Nat.reduceEqDiff])); (solve | (conv => lhs; simp only [zfr, Nat.reduceEqDiff, Nat.reduceLT, ↓reduceIte]))) | (apply o_yes; (solve | (conv => lhs; simp only [zva, ↓reduceIte, Nat.reduceEqDiff])); (solve | rfl)) | (apply o_no; (solve | (conv => lhs; simp only [zva, ↓reduceIte, Nat.reduceEqDiff])); (solve | decide); (solve | (conv => lhs; simp only [zfr, Nat.reduceEqDiff, Nat.reduceLT, ↓reduceIte]))) | (apply o_not; (solve | (conv => lhs; simp only [zva, ↓reduceIte, Nat.reduceEqDiff])); (solve | (conv => lhs; simp only [zfr, Nat.reduceEqDiff, Nat.reduceLT, ↓reduceIte]))) | (apply o_if; (solve | (conv => lhs; simp only [zva, ↓reduceIte, Nat.reduceEqDiff])); (solve | (intro hbb; conv => lhs; simp (disch := first | omega | (simp only [Val.cells, List.all_cons, List.all_nil, Val.one, Bool.and_self])) only [zev, zex, Val.one, List.length_cons, List.length_nil, Nat.reduceAdd, Option.map_some, Option.map_none, List.map_cons, List.map_nil, zva, ↓reduceIte, Nat.reduceEqDiff, hbb])); (solve | (conv => lhs; simp only [zfr, Nat.reduceEqDiff, Nat.reduceLT, ↓reduceIte]))) | (apply o_end; (solve | (conv => lhs; simp only [zdr, inl, Nat.reduceEqDiff, or_false, or_true, ↓reduceIte]))) | apply g_seq | apply g_region | apply g_next | apply g_block | apply g_out | (apply g_true; (solve | (conv => lhs; simp only [zva, ↓reduceIte, Nat.reduceEqDiff]))) | (apply g_false; (solve | (conv => lhs; simp only [zva, ↓reduceIte, Nat.reduceEqDiff]))) | apply g_here | (apply g_past; (solve | decide)) | apply g_exit | apply g_retc | apply g_retb | apply g_ret | apply g_done)
        refine ih2 (m - 1) _ _ (by omega) ⟨i + 1, by omega, by simp, L2, fun j hj hj' => ?_⟩
        by_cases e : j = i
        · subst e; exact h0
        · exact ha j (by omega) hj'
    · have d2 : decide ((i : Int) < (ts.length : Int)) = false := decide_eq_false (by omega)
      repeat' (first | (apply o_op; (solve | (conv => lhs; simp (disch := first | omega | (simp only [Val.cells, List.all_cons, List.all_nil, Val.one, Bool.and_self])) only [zev, zex, Val.one, List.length_cons, List.length_nil, Nat.reduceAdd, Option.map_some, Option.map_none, List.map_cons, List.map_nil, zva, ↓reduceIte, Nat.reduceEqDiff, d2])); (solve | (conv => lhs; simp only [zfr, Nat.reduceEqDiff, Nat.reduceLT, ↓reduceIte]))) | (apply o_yes; (solve | (conv => lhs; simp only [zva, ↓reduceIte, Nat.reduceEqDiff, d2])); (solve | rfl)) | (apply o_no; (solve | (conv => lhs; simp only [zva, ↓reduceIte, Nat.reduceEqDiff, d2])); (solve | decide); (solve | (conv => lhs; simp only [zfr, Nat.reduceEqDiff, Nat.reduceLT, ↓reduceIte]))) | (apply o_not; (solve | (conv => lhs; simp only [zva, ↓reduceIte, Nat.reduceEqDiff])); (solve | (conv => lhs; simp only [zfr, Nat.reduceEqDiff, Nat.reduceLT, ↓reduceIte]))) | (apply o_if; (solve | (conv => lhs; simp only [zva, ↓reduceIte, Nat.reduceEqDiff])); (solve | (intro hbb; conv => lhs; simp (disch := first | omega | (simp only [Val.cells, List.all_cons, List.all_nil, Val.one, Bool.and_self])) only [zev, zex, Val.one, List.length_cons, List.length_nil, Nat.reduceAdd, Option.map_some, Option.map_none, List.map_cons, List.map_nil, zva, ↓reduceIte, Nat.reduceEqDiff, hbb, d2])); (solve | (conv => lhs; simp only [zfr, Nat.reduceEqDiff, Nat.reduceLT, ↓reduceIte]))) | (apply o_end; (solve | (conv => lhs; simp only [zdr, inl, Nat.reduceEqDiff, or_false, or_true, ↓reduceIte]))) | apply g_seq | apply g_region | apply g_next | apply g_block | apply g_out | (apply g_true; (solve | (conv => lhs; simp only [zva, ↓reduceIte, Nat.reduceEqDiff, d2]))) | (apply g_false; (solve | (conv => lhs; simp only [zva, ↓reduceIte, Nat.reduceEqDiff, d2]))) | apply g_here | (apply g_past; (solve | decide)) | apply g_exit | apply g_retc | apply g_retb | apply g_ret | apply g_done)
      have ht2 := TreeAt.keep (Q := (· < h2.size)) (fun k p => L2.1 k p) (fun k p => Nat.lt_of_lt_of_le p hs2) _ _ ht'
      refine o_beasts hE (hf _ (by simp)) (by simp only [zva, ↓reduceIte, Nat.reduceEqDiff]) ht2 rfl ?_
      (conv => arg 8; simp only [zfr, Nat.reduceEqDiff, Nat.reduceLT, ↓reduceIte])
      repeat' (first | (apply o_op; (solve | (conv => lhs; simp (disch := first | omega | (simp only [Val.cells, List.all_cons, List.all_nil, Val.one, Bool.and_self])) only [zev, zex, Val.one, List.length_cons, List.length_nil, Nat.reduceAdd, Option.map_some, Option.map_none, List.map_cons, List.map_nil, zva, ↓reduceIte, Nat.reduceEqDiff])); (solve | (conv => lhs; simp only [zfr, Nat.reduceEqDiff, Nat.reduceLT, ↓reduceIte]))) | (apply o_yes; (solve | (conv => lhs; simp only [zva, ↓reduceIte, Nat.reduceEqDiff])); (solve | rfl)) | (apply o_no; (solve | (conv => lhs; simp only [zva, ↓reduceIte, Nat.reduceEqDiff])); (solve | decide); (solve | (conv => lhs; simp only [zfr, Nat.reduceEqDiff, Nat.reduceLT, ↓reduceIte]))) | (apply o_not; (solve | (conv => lhs; simp only [zva, ↓reduceIte, Nat.reduceEqDiff])); (solve | (conv => lhs; simp only [zfr, Nat.reduceEqDiff, Nat.reduceLT, ↓reduceIte]))) | (apply o_if; (solve | (conv => lhs; simp only [zva, ↓reduceIte, Nat.reduceEqDiff])); (solve | (intro hbb; conv => lhs; simp (disch := first | omega | (simp only [Val.cells, List.all_cons, List.all_nil, Val.one, Bool.and_self])) only [zev, zex, Val.one, List.length_cons, List.length_nil, Nat.reduceAdd, Option.map_some, Option.map_none, List.map_cons, List.map_nil, zva, ↓reduceIte, Nat.reduceEqDiff, hbb])); (solve | (conv => lhs; simp only [zfr, Nat.reduceEqDiff, Nat.reduceLT, ↓reduceIte]))) | (apply o_end; (solve | (conv => lhs; simp only [zdr, inl, Nat.reduceEqDiff, or_false, or_true, ↓reduceIte]))) | apply g_seq | apply g_region | apply g_next | apply g_block | apply g_out | (apply g_true; (solve | (conv => lhs; simp only [zva, ↓reduceIte, Nat.reduceEqDiff]))) | (apply g_false; (solve | (conv => lhs; simp only [zva, ↓reduceIte, Nat.reduceEqDiff]))) | apply g_here | (apply g_past; (solve | decide)) | apply g_exit | apply g_retc | apply g_retb | apply g_ret | apply g_done)
      refine ⟨.inr rfl, _, rfl, ?_, L2⟩
      simp only [tuple, Frame.get, Tr.fam]
      rw [famIn_no fun j hj => ha j (by omega) hj]
      rfl
theorem shows_run {l : List Nat} (hE : E.Has tabs05 l) (hf : ∀ f ∈ [F.breed_shows, F.breed_common, F.breed_set_beasts], f ∈ l) (w : h.Wf) {t : Tr} (tv : t.V) {v : Val} (ht : TreeAt (· < h.size) h t v) {n : Nat} (hn : n ≤ 8) {x : T3} (hx : okT n x) :
    CallV E h.size F.breed_shows [v, .agg (cell3 (toI x))] h fun r h' => r = .bool (t.shows x) ∧ Left' h h' := by
  refine c_begin hE (hf _ (by simp)) rfl (by decide) (by decide) ?_
  obtain ⟨hp, ha, hb, hc⟩ := hx.pair hn
  obtain ⟨a, b, c⟩ := x
  simp only [pair] at hp
  simp only at ha hb hc
  simp only [T.breed_shows, Frame.enterFrom, Nat.zero_add, Nat.reduceAdd, cell3, toI]
  have q1 : 2 ^ a < 256 := lt_256.2 fun i hi => by rw [← bit_two.1 hi]; exact ha
  have q2 : 2 ^ b < 256 := lt_256.2 fun i hi => by rw [← bit_two.1 hi]; exact hb
  have L1 := left_push w (some ⟨[.int .i64 (a : Int), .int .i64 (b : Int), .int .i64 (c : Int)], true, 0⟩)
  have ht1 := TreeAt.keep (Q := (· < (h.push (some ⟨[.int .i64 (a : Int), .int .i64 (b : Int), .int .i64 (c : Int)], true, 0⟩)).size)) (fun k p => L1.1 k p) (fun k p => Nat.lt_of_lt_of_le p L1.2.2) _ _ ht
  generalize hpa : 2 ^ a = pa at q1
  generalize hpb : 2 ^ b = pb at q2
  have b1 : binOp .plain .shl (.int .i64 1) (.int .i64 (a : Int)) = some (.int .i64 (pa : Int)) := by rw [← hpa]; exact b_shl1 (by omega)
  have hs1 := L1.2.2
  have b2 : binOp .plain .shl (.int .i64 1) (.int .i64 (b : Int)) = some (.int .i64 (pb : Int)) := by rw [← hpb]; exact b_shl1 (by omega)
  repeat' (first | (apply o_op; (solve | (conv => lhs; simp (disch := first | omega | (simp only [Val.cells, List.all_cons, List.all_nil, Val.one, Bool.and_self])) only [zev, zex, Val.one, List.length_cons, List.length_nil, Nat.reduceAdd, Option.map_some, Option.map_none, List.map_cons, List.map_nil, zva, ↓reduceIte, Nat.reduceEqDiff, b1, b2])); (solve | (conv => lhs; simp only [zfr, Nat.reduceEqDiff, Nat.reduceLT, ↓reduceIte]))) | (apply o_yes; (solve | (conv => lhs; simp only [zva, ↓reduceIte, Nat.reduceEqDiff, b1, b2])); (solve | rfl)) | (apply o_no; (solve | (conv => lhs; simp only [zva, ↓reduceIte, Nat.reduceEqDiff, b1, b2])); (solve | decide); (solve | (conv => lhs; simp only [zfr, Nat.reduceEqDiff, Nat.reduceLT, ↓reduceIte]))) | (apply o_not; (solve | (conv => lhs; simp only [zva, ↓reduceIte, Nat.reduceEqDiff])); (solve | (conv => lhs; simp only [zfr, Nat.reduceEqDiff, Nat.reduceLT, ↓reduceIte]))) | (apply o_if; (solve | (conv => lhs; simp only [zva, ↓reduceIte, Nat.reduceEqDiff])); (solve | (intro hbb; conv => lhs; simp (disch := first | omega | (simp only [Val.cells, List.all_cons, List.all_nil, Val.one, Bool.and_self])) only [zev, zex, Val.one, List.length_cons, List.length_nil, Nat.reduceAdd, Option.map_some, Option.map_none, List.map_cons, List.map_nil, zva, ↓reduceIte, Nat.reduceEqDiff, hbb, b1, b2])); (solve | (conv => lhs; simp only [zfr, Nat.reduceEqDiff, Nat.reduceLT, ↓reduceIte]))) | (apply o_end; (solve | (conv => lhs; simp only [zdr, inl, Nat.reduceEqDiff, or_false, or_true, ↓reduceIte]))) | apply g_seq | apply g_region | apply g_next | apply g_block | apply g_out | (apply g_true; (solve | (conv => lhs; simp only [zva, ↓reduceIte, Nat.reduceEqDiff, b1, b2]))) | (apply g_false; (solve | (conv => lhs; simp only [zva, ↓reduceIte, Nat.reduceEqDiff, b1, b2]))) | apply g_here | (apply g_past; (solve | decide)) | apply g_exit | apply g_retc | apply g_retb | apply g_ret | apply g_done)
  (apply o_call; (solve | (conv => lhs; simp only [Callee.find, List.map_cons, List.map_nil, List.cons_append, List.nil_append, zva, ↓reduceIte, Nat.reduceEqDiff])))
  · exact (common_run hE (fun f hf' => hf f (by simp at hf' ⊢; omega)) tv _ v (pa ||| pb) L1.2.1 ht1 (by rw [← hpa, ← hpb]; exact hp)).lower (by split <;> omega)
  rintro _ h3 ⟨rfl, L3⟩
  (conv => arg 8; simp only [zfr, Nat.reduceEqDiff, Nat.reduceLT, ↓reduceIte])
  have hlt := tv.fam_lt (pa ||| pb)
  have hq : t.fam (pa ||| pb) >>> c < 256 := Nat.lt_of_le_of_lt (Nat.shiftRight_le _ _) hlt
  have b3 : binOp .plain .and (.int .i64 ((t.fam (pa ||| pb) >>> c : Nat) : Int)) (.int .i64 1) = some (.int .i64 (((t.fam (pa ||| pb) >>> c) &&& 1 : Nat) : Int)) := b_and1 (Nat.lt_trans hq (by decide))
  have b0 : binOp .plain .shr (.int .i64 (t.fam (pa ||| pb) : Int)) (.int .i64 (c : Int)) = some (.int .i64 ((t.fam (pa ||| pb) >>> c : Nat) : Int)) := b_shrN (by omega)
  repeat' (first | (apply o_op; (solve | (conv => lhs; simp (disch := first | omega | (simp only [Val.cells, List.all_cons, List.all_nil, Val.one, Bool.and_self])) only [zev, zex, Val.one, List.length_cons, List.length_nil, Nat.reduceAdd, Option.map_some, Option.map_none, List.map_cons, List.map_nil, zva, ↓reduceIte, Nat.reduceEqDiff, b0, b3])); (solve | (conv => lhs; simp only [zfr, Nat.reduceEqDiff, Nat.reduceLT, ↓reduceIte]))) | (apply o_yes; (solve | (conv => lhs; simp only [zva, ↓reduceIte, Nat.reduceEqDiff, b0, b3])); (solve | rfl)) | (apply o_no; (solve | (conv => lhs; simp only [zva, ↓reduceIte, Nat.reduceEqDiff, b0, b3])); (solve | decide); (solve | (conv => lhs; simp only [zfr, Nat.reduceEqDiff, Nat.reduceLT, ↓reduceIte]))) | (apply o_not; (solve | (conv => lhs; simp only [zva, ↓reduceIte, Nat.reduceEqDiff])); (solve | (conv => lhs; simp only [zfr, Nat.reduceEqDiff, Nat.reduceLT, ↓reduceIte]))) | (apply o_if; (solve | (conv => lhs; simp only [zva, ↓reduceIte, Nat.reduceEqDiff])); (solve | (intro hbb; conv => lhs; simp (disch := first | omega | (simp only [Val.cells, List.all_cons, List.all_nil, Val.one, Bool.and_self])) only [zev, zex, Val.one, List.length_cons, List.length_nil, Nat.reduceAdd, Option.map_some, Option.map_none, List.map_cons, List.map_nil, zva, ↓reduceIte, Nat.reduceEqDiff, hbb, b0, b3])); (solve | (conv => lhs; simp only [zfr, Nat.reduceEqDiff, Nat.reduceLT, ↓reduceIte]))) | (apply o_end; (solve | (conv => lhs; simp only [zdr, inl, Nat.reduceEqDiff, or_false, or_true, ↓reduceIte]))) | apply g_seq | apply g_region | apply g_next | apply g_block | apply g_out | (apply g_true; (solve | (conv => lhs; simp only [zva, ↓reduceIte, Nat.reduceEqDiff, b0, b3]))) | (apply g_false; (solve | (conv => lhs; simp only [zva, ↓reduceIte, Nat.reduceEqDiff, b0, b3]))) | apply g_here | (apply g_past; (solve | decide)) | apply g_exit | apply g_retc | apply g_retb | apply g_ret | apply g_done)
  refine ⟨.inr rfl, _, rfl, ?_, L1.trans L3⟩
  simp [tuple, Frame.get, Tr.shows, pair, hpa, hpb]
end Gc
end
section
/- Contracts: trees of the specification in the heap; families in them, and whether they show a triple. -/
set_option linter.unusedVariables false
set_option linter.unusedSimpArgs false
namespace Gc
variable {E : Env} {base kept : Nat} {h : Heap}
mutual
/-- Two cells are a tree of the specification, in blocks of which P speaks. -/
def RAt (P : Nat → Prop) (h : Heap) : Tr → Val → Val → Prop
  | .leaf s, a, b => a = .int .i64 (s : Int) ∧ b = .nils
  | .node s l, a, b => a = .int .i64 (s : Int) ∧ ∃ k o c ds, b = .slice k o l.length c ∧ P k ∧ spread h 2 (.slice k o l.length c) = some (l.length, ds) ∧ RsAt P h l ds
def RsAt (P : Nat → Prop) (h : Heap) : List Tr → List Val → Prop
  | [], ds => ds = []
  | t :: l, ds => ∃ a b r, ds = a :: b :: r ∧ RAt P h t a b ∧ RsAt P h l r
end
mutual
theorem RAt.keep {P Q : Nat → Prop} {h h' : Heap} (hk : ∀ k, P k → h'.get k = h.get k) (hq : ∀ k, P k → Q k) : ∀ (t : Tr) (a b : Val), RAt P h t a b → RAt Q h' t a b
  | .leaf s, a, b, e => by simpa [RAt] using e
  | .node s l, a, b, e => by
    simp only [RAt] at e ⊢
    obtain ⟨e0, k, o, c, ds, e1, e2, e3, e4⟩ := e
    exact ⟨e0, k, o, c, ds, e1, hq k e2, spread_keep (P := P) e3 (.inr e2) hk, RsAt.keep hk hq l ds e4⟩
theorem RsAt.keep {P Q : Nat → Prop} {h h' : Heap} (hk : ∀ k, P k → h'.get k = h.get k) (hq : ∀ k, P k → Q k) : ∀ (l : List Tr) (ds : List Val), RsAt P h l ds → RsAt Q h' l ds
  | [], ds, e => by simpa [RsAt] using e
  | t :: l, ds, e => by
    simp only [RsAt] at e ⊢
    obtain ⟨a, b, r, e1, e2, e3⟩ := e
    exact ⟨a, b, r, e1, RAt.keep hk hq t a b e2, RsAt.keep hk hq l r e3⟩
end
theorem RAt.left {h h' : Heap} {t : Tr} {a b : Val} (e : RAt (· < h.size) h t a b) (L : Left' h h') : RAt (· < h'.size) h' t a b := RAt.keep (fun k p => L.1 k p) (fun k p => Nat.lt_of_lt_of_le p L.2.2) t a b e
theorem RsAt.left {h h' : Heap} {l : List Tr} {ds : List Val} (e : RsAt (· < h.size) h l ds) (L : Left' h h') : RsAt (· < h'.size) h' l ds := RsAt.keep (fun k p => L.1 k p) (fun k p => Nat.lt_of_lt_of_le p L.2.2) l ds e
theorem TreeAt.left {h h' : Heap} {t : Tr} {v : Val} (e : TreeAt (· < h.size) h t v) (L : Left' h h') : TreeAt (· < h'.size) h' t v := TreeAt.keep (fun k p => L.1 k p) (fun k p => Nat.lt_of_lt_of_le p L.2.2) t v e
theorem TreesAt.left {h h' : Heap} {l : List Tr} {vs : List Val} (e : TreesAt (· < h.size) h l vs) (L : Left' h h') : TreesAt (· < h'.size) h' l vs := TreesAt.keep (fun k p => L.1 k p) (fun k p => Nat.lt_of_lt_of_le p L.2.2) l vs e
theorem RsAt.get {P : Nat → Prop} {h : Heap} : ∀ {l : List Tr} {ds : List Val}, RsAt P h l ds → ∀ {i : Nat} {t : Tr}, l[i]? = some t → ∃ a b, (ds.drop (i * 2)).take 2 = [a, b] ∧ RAt P h t a b
  | [], ds, e, i, t, ht => by simp at ht
  | t :: l, ds, e, i, u, ht => by
    simp only [RsAt] at e
    obtain ⟨a, b, r, rfl, e1, e⟩ := e
    cases i with
    | zero => simp at ht; subst ht; exact ⟨a, b, rfl, e1⟩
    | succ i =>
      obtain ⟨a', b', e2, e3⟩ := e.get (i := i) (by simpa using ht)
      refine ⟨a', b', ?_, e3⟩
      rw [show (i + 1) * 2 = 2 + i * 2 by omega, ← List.drop_drop]
      exact e2
theorem RAt.set {P : Nat → Prop} {h : Heap} {t : Tr} {a b : Val} (e : RAt P h t a b) : a = .int .i64 (t.set : Int) := by
  cases t with
  | leaf s => simp only [RAt] at e; exact e.1
  | node s l => simp only [RAt] at e; exact e.1
theorem RAt.one {P : Nat → Prop} {h : Heap} {t : Tr} {a b : Val} (e : RAt P h t a b) : a.one = true ∧ b.one = true := by
  cases t with
  | leaf s => simp only [RAt] at e; obtain ⟨rfl, rfl⟩ := e; exact ⟨rfl, rfl⟩
  | node s l => simp only [RAt] at e; obtain ⟨rfl, k, o, c, ds, rfl, _⟩ := e; exact ⟨rfl, rfl⟩
end Gc
end
