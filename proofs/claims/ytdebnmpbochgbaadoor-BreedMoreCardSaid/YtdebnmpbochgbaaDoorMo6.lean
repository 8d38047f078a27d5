/- That the law BreedMore holds of every input (the tied card BreedMoreCardSaid), where the two listed tables lie as the program's text lays them. (Part 6 of this claim's texts.) -/
import Derived.Test.YtdebnmpbochgbaaDoorMo5
import Derived.Test.YtdebnmpbochgbaaDoorProg
import Derived.Shelf.Strings.OnBuilder
import Derived.ChangeKeysEq
import Derived.Test.YtdebnmpbochgbaaDoorCards
import Derived.Test.YtdebnmpbochgbaaDoorTie
import Derived.WalkKit
import Derived.ProofKit
import Derived.OpenShut
import Derived.Deep.DeepHandedRow
import Derived.Deep.Slices
import Derived.Lib.LaidTab
set_option linter.unusedSimpArgs false
set_option linter.unusedVariables false
set_option linter.unnecessarySimpa false
section
/- The seat's names, and that its program's functions are the texts (made by a program of ours, wip/tools/gcgen.py). -/
namespace Gc.Tryd
open Go Go.Proofs
def fns : List Nat := [3, 4, 5, 6, 7, 8, 9, 10, 11, 12, 13, 14, 15, 16, 17, 18, 19, 20, 21, 22, 23, 24, 25, 26, 27, 28, 29, 30, 31, 32, 33, 34, 35, 36, 37, 38, 39, 40, 41, 42, 43, 44, 45, 46, 47, 48, 49, 50, 51, 52, 53, 54, 55, 56, 57, 58, 59, 60, 61, 62, 63, 64, 65, 66, 67, 68, 69, 70, 71, 72, 78, 81, 82, 83, 91, 92, 119, 120, 121, 122, 123, 124, 131, 132, 98, 73, 74, 75, 76, 77, 79, 80, 84, 85, 86, 87, 88, 89, 90, 93, 94, 95, 96, 97, 99, 100, 101, 102, 103, 104, 105, 106, 107, 108, 109, 110, 111, 112, 113, 114, 115, 116, 117, 118, 125, 126, 127, 128, 129, 130, 133, 134, 135, 136, 137, 138, 139, 140, 141, 2000139, 2000140, 2000141, 2000142, 2000143, 2000144, 2000145, 2000146, 2000147, 2000148, 2000149]
def tys : List Nat := [96, 111]
def meths : List String := ["droveway/breed.text", "droveway/breed.beasts"]
def globs : List (Nat × Nat) := [(0, 0), (1, 1)]
def sig : Sig := mkSig tys fns globs (by decide) (by decide) (by decide)
def inv : Inv := mkInv tys fns meths
def h3 : List (Nat × Hint) := [(0, ⟨[], [6], 0, [], []⟩), (1, ⟨[], [12, 13, 14], 0, [], []⟩), (2, ⟨[], [0, 1, 2, 15, 16], 0, [], []⟩), (3, ⟨[], [15, 17, 18, 19], 0, [], []⟩), (4, ⟨[], [20, 21, 22, 23, 24, 25, 26], 0, [], []⟩), (5, ⟨[], [0, 1, 27, 28, 29, 30, 31, 32, 33], 0, [], []⟩), (6, ⟨[], [2, 7, 8, 9, 10, 11, 34, 35, 36, 37, 38, 39, 40, 41, 42, 43, 44, 45, 46, 47, 48, 49], 0, [], []⟩)]
theorem link3 : cCode Tryd.prog sig inv Tryd.f3.ntmps (fun i => h3.lookup i) (Tryd.f3.body.getD .skip) = some T.law05_BreedShows.body := by kernel_rfl
theorem res3 : cRVs Tryd.prog Tryd.f3.results.toList = some T.law05_BreedShows.results := by kernel_rfl
def h4 : List (Nat × Hint) := [(0, ⟨[], [2, 8], 0, [], []⟩), (1, ⟨[], [22, 23, 24, 25, 26, 27, 28, 29, 30, 31, 32, 33, 34, 35, 36, 37, 38, 39, 40, 41, 42, 43, 44, 45, 46, 47, 48], 0, [], []⟩), (2, ⟨[], [0, 1, 3, 6, 49, 50], 0, [], []⟩), (3, ⟨[1, 3, 0, 2, 4, 5, 6], [49, 51, 52, 53, 54, 55, 56], 3, [(0, 0), (2, 1), (4, 2)], []⟩), (4, ⟨[], [57, 58, 59, 60, 61, 62], 0, [], []⟩), (5, ⟨[], [63, 64, 65, 66, 67, 68], 0, [], []⟩), (6, ⟨[], [69], 0, [], []⟩), (7, ⟨[], [12, 70, 71, 72, 73, 74, 75, 76, 77], 0, [], []⟩), (8, ⟨[], [14, 15, 78, 79, 80, 81, 82, 83, 84, 85, 86], 0, [], []⟩), (9, ⟨[], [0, 1, 3, 6, 9, 10, 11, 13, 87], 0, [], []⟩), (10, ⟨[], [11, 12, 70, 87, 88], 0, [], []⟩), (11, ⟨[], [6, 10, 89, 90, 91, 92, 93, 94, 95, 96, 97], 0, [], []⟩), (12, ⟨[], [13, 16, 17, 98, 99, 100, 101, 102, 103, 104, 105], 0, [], []⟩), (13, ⟨[], [0, 1, 3, 9, 106], 0, [], []⟩), (14, ⟨[], [6, 9, 10, 13, 89, 106, 107, 108, 109, 110, 111, 112, 113], 0, [], []⟩), (15, ⟨[], [0, 1, 3, 114, 115, 116, 117, 118, 119, 120], 0, [], []⟩), (16, ⟨[], [18, 19, 20, 21, 121, 122, 123, 124, 125, 126, 127, 128, 129, 130, 131, 132, 133], 0, [], []⟩)]
theorem link4 : cCode Tryd.prog sig inv Tryd.f4.ntmps (fun i => h4.lookup i) (Tryd.f4.body.getD .skip) = some T.law05_BreedMore.body := by kernel_rfl
theorem res4 : cRVs Tryd.prog Tryd.f4.results.toList = some T.law05_BreedMore.results := by kernel_rfl
def h5 : List (Nat × Hint) := [(0, ⟨[], [6], 0, [], []⟩), (1, ⟨[], [17, 18, 19], 0, [], []⟩), (2, ⟨[], [0, 1, 2, 20, 21], 0, [], []⟩), (3, ⟨[], [20, 22, 23, 24, 25, 26, 27], 0, [], []⟩), (4, ⟨[], [28, 29, 30, 31, 32, 33], 0, [], []⟩), (5, ⟨[], [34, 35, 36, 37, 38, 39, 40, 41, 42, 43, 44], 0, [], []⟩), (6, ⟨[], [0, 1, 2, 7, 8, 9, 10, 45, 46, 47, 48, 49, 50, 51, 52, 53, 54, 55, 56, 57, 58, 59, 60, 61, 62, 63], 0, [], []⟩), (7, ⟨[], [10, 45, 64, 65, 66, 67, 68, 69, 70, 71, 72, 73, 74, 75, 76, 77, 78, 79, 80, 81, 82, 83], 0, [], []⟩), (8, ⟨[], [0, 1, 2, 7, 8, 9, 84], 0, [], []⟩), (9, ⟨[], [2, 84, 85, 86, 87, 88, 89, 90, 91], 0, [], []⟩), (10, ⟨[], [11, 12, 92, 93, 94, 95, 96, 97, 98, 99], 0, [], []⟩), (11, ⟨[], [0, 1, 7, 8, 9, 100], 0, [], []⟩), (12, ⟨[], [8, 100, 101], 0, [], []⟩), (13, ⟨[], [1, 9, 102, 103, 104, 105, 106, 107, 108, 109], 0, [], []⟩), (14, ⟨[], [0, 7, 13, 14, 110, 111, 112, 113, 114, 115, 116, 117, 118, 119, 120, 121, 122], 0, [], []⟩), (15, ⟨[], [0, 1, 7, 102, 123, 124, 125, 126, 127, 128, 129], 0, [], []⟩), (16, ⟨[], [9, 15, 16, 130, 131, 132, 133, 134, 135, 136, 137, 138, 139, 140, 141, 142, 143, 144, 145, 146, 147, 148, 149, 150, 151, 152, 153], 0, [], []⟩)]
def h6 : List (Nat × Hint) := [(0, ⟨[], [6], 0, [], []⟩), (1, ⟨[], [15, 16, 17, 18, 19, 20, 21, 22, 23, 24, 25, 26, 27], 0, [], []⟩), (2, ⟨[], [0, 1, 2, 28, 29], 0, [], []⟩), (3, ⟨[], [28, 30, 31, 32, 33, 34, 35], 0, [], []⟩), (4, ⟨[], [8, 36], 0, [], []⟩), (5, ⟨[], [0, 1, 2, 7, 37], 0, [], []⟩), (6, ⟨[], [37, 38, 39], 0, [], []⟩), (7, ⟨[], [40, 41, 42, 43, 44, 45, 46], 0, [], []⟩), (8, ⟨[], [9, 10, 47, 48, 49, 50, 51, 52], 0, [], []⟩), (9, ⟨[], [0, 1, 2, 7, 53], 0, [], []⟩), (10, ⟨[], [40, 53], 0, [], []⟩), (11, ⟨[], [54, 55, 56], 0, [], []⟩), (13, ⟨[], [57, 60, 61, 62, 63, 64, 65], 0, [], []⟩), (14, ⟨[], [0, 1, 2, 7, 11, 66], 0, [], []⟩), (15, ⟨[], [66, 67, 68, 69, 70, 71], 0, [], []⟩), (16, ⟨[], [12, 72, 73, 74, 75, 76, 77, 78, 79, 80], 0, [], []⟩), (17, ⟨[], [0, 1, 2, 7, 11, 81], 0, [], []⟩), (12, ⟨[], [58, 59, 81], 0, [], []⟩), (18, ⟨[], [11, 57, 82, 83, 84, 85, 86, 87], 0, [], []⟩), (19, ⟨[], [88], 0, [], []⟩), (20, ⟨[], [0, 1, 2, 7, 13, 14, 89, 90, 91, 92, 93, 94, 95, 96, 97, 98, 99, 100], 0, [], []⟩), (21, ⟨[], [0, 1, 2, 7, 13, 14, 89, 101, 102, 103, 104, 105, 106, 107, 108, 109, 110], 0, [], []⟩)]
def h7 : List (Nat × Hint) := [(0, ⟨[], [2], 0, [], []⟩), (1, ⟨[], [0, 12, 13, 14, 15], 0, [], []⟩), (2, ⟨[], [16, 17, 18, 19, 20], 0, [], []⟩), (3, ⟨[], [21, 22], 0, [], []⟩), (4, ⟨[], [4, 5, 23, 24, 25, 26, 27, 28, 29], 0, [], []⟩), (5, ⟨[], [3, 6, 30], 0, [], []⟩), (6, ⟨[], [30], 0, [], []⟩), (7, ⟨[], [], 0, [], []⟩), (8, ⟨[], [31, 32, 33], 0, [], []⟩), (10, ⟨[], [34, 37, 38, 39, 40, 41, 42, 43, 44, 45], 0, [], []⟩), (11, ⟨[], [10, 46, 47, 48, 49, 50, 51, 52, 53, 54, 55], 0, [], []⟩), (12, ⟨[], [3, 6, 7, 8, 9, 56], 0, [], []⟩), (13, ⟨[], [56], 0, [], []⟩), (14, ⟨[], [57, 58, 59], 0, [], []⟩), (16, ⟨[], [60, 63, 64, 65, 66, 67], 0, [], []⟩), (17, ⟨[], [3, 6, 7, 8, 9, 11, 68], 0, [], []⟩), (15, ⟨[], [61, 62, 68], 0, [], []⟩), (18, ⟨[], [9, 11, 60, 69, 70, 71, 72], 0, [], []⟩), (9, ⟨[], [35, 36], 0, [], []⟩), (19, ⟨[], [3, 6, 7, 8, 34, 73], 0, [], []⟩)]
def h8 : List (Nat × Hint) := [(0, ⟨[], [6], 0, [], []⟩), (1, ⟨[], [21, 22, 23, 24, 25, 26, 27, 28, 29, 30, 31, 32, 33, 34, 35, 36], 0, [], []⟩), (2, ⟨[], [0, 1, 2, 37, 38], 0, [], []⟩), (3, ⟨[], [37, 39, 40, 41, 42, 43, 44], 0, [], []⟩), (4, ⟨[], [9, 45, 46, 47, 48, 49, 50], 0, [], []⟩), (5, ⟨[], [10, 51, 52], 0, [], []⟩), (6, ⟨[], [0, 1, 2, 7, 8, 53], 0, [], []⟩), (7, ⟨[], [8, 53, 54], 0, [], []⟩), (8, ⟨[], [0, 1, 2, 7, 55, 56, 57, 58, 59, 60, 61], 0, [], []⟩), (9, ⟨[], [55], 0, [], []⟩), (10, ⟨[], [62, 63, 64], 0, [], []⟩), (12, ⟨[], [65, 68, 69, 70, 71, 72, 73], 0, [], []⟩), (13, ⟨[], [0, 1, 2, 7, 11, 74], 0, [], []⟩), (11, ⟨[], [66, 67, 74], 0, [], []⟩), (14, ⟨[], [11, 65, 75, 76], 0, [], []⟩), (15, ⟨[], [77, 78, 79, 80, 81, 82, 83], 0, [], []⟩), (16, ⟨[], [12, 13, 84, 85, 86, 87, 88, 89, 90], 0, [], []⟩), (17, ⟨[], [0, 1, 2, 7, 91], 0, [], []⟩), (18, ⟨[], [77, 91, 92, 93], 0, [], []⟩), (19, ⟨[], [2, 14, 94, 95, 96, 97, 98, 99, 100, 101], 0, [], []⟩), (20, ⟨[], [102, 103], 0, [], []⟩), (21, ⟨[0, 2, 4, 5, 1, 3, 6, 7, 8, 9, 10, 11, 12, 13], [17, 104, 105, 106, 107, 108, 109, 110, 111, 112, 113, 114, 115], 3, [(1, 0), (3, 1), (6, 2)], []⟩), (22, ⟨[0, 2, 4, 5, 1, 3, 6, 7, 8, 9, 10, 11, 12, 13], [0, 1, 16, 19, 116, 117, 118, 119, 120, 121, 122, 123, 124, 125, 126, 127], 3, [(1, 0), (3, 1), (6, 2)], []⟩), (23, ⟨[], [7, 15, 18, 20, 128, 129, 130, 131, 132, 133, 134, 135, 136, 137, 138, 139, 140], 0, [], []⟩)]
def h10 : List (Nat × Hint) := [(0, ⟨[], [4], 0, [], []⟩), (1, ⟨[], [0, 1, 5, 6, 7, 8, 9, 10, 11, 12], 0, [], []⟩)]
theorem link10 : cCode Tryd.prog sig inv Tryd.f10.ntmps (fun i => h10.lookup i) (Tryd.f10.body.getD .skip) = some T.law05_few.body := by kernel_rfl
theorem res10 : cRVs Tryd.prog Tryd.f10.results.toList = some T.law05_few.results := by kernel_rfl
def h11 : List (Nat × Hint) := [(0, ⟨[], [0], 0, [], []⟩), (1, ⟨[], [11, 12, 13, 14, 15, 16, 17], 0, [], []⟩), (2, ⟨[], [18, 19, 20, 21, 22, 23, 24], 0, [], []⟩), (3, ⟨[], [25, 26, 27, 28], 0, [], []⟩), (4, ⟨[], [29, 30, 31, 32], 0, [], []⟩), (5, ⟨[], [33, 34, 35, 36], 0, [], []⟩), (6, ⟨[], [1, 2, 3, 4, 5, 6, 7, 8, 9, 10, 37, 38, 39, 40, 41, 42, 43, 44, 45, 46, 47, 48, 49, 50, 51, 52, 53, 54, 55, 56, 57, 58, 59, 60, 61, 62, 63, 64, 65, 66, 67, 68, 69, 70, 71, 72, 73, 74], 0, [], []⟩)]
theorem link11 : cCode Tryd.prog sig inv Tryd.f11.ntmps (fun i => h11.lookup i) (Tryd.f11.body.getD .skip) = some T.law05_alive.body := by kernel_rfl
theorem res11 : cRVs Tryd.prog Tryd.f11.results.toList = some T.law05_alive.results := by kernel_rfl
def h12 : List (Nat × Hint) := [(0, ⟨[], [6, 7], 0, [], []⟩), (1, ⟨[], [1, 10, 11, 12, 13, 14, 15, 16], 0, [], []⟩), (2, ⟨[], [17], 0, [], []⟩), (3, ⟨[], [0, 18, 19, 20, 21], 0, [], []⟩), (4, ⟨[], [0, 18, 22], 0, [], []⟩), (5, ⟨[], [2, 8, 9, 23, 24], 0, [], []⟩), (6, ⟨[], [2, 8, 9, 23, 25, 26, 27, 28], 0, [], []⟩)]
theorem link12 : cCode Tryd.prog sig inv Tryd.f12.ntmps (fun i => h12.lookup i) (Tryd.f12.body.getD .skip) = some T.breed_Shows.body := by kernel_rfl
theorem res12 : cRVs Tryd.prog Tryd.f12.results.toList = some T.breed_Shows.results := by kernel_rfl
def h15 : List (Nat × Hint) := [(0, ⟨[], [4], 0, [], []⟩), (1, ⟨[], [6, 7], 0, [], []⟩), (2, ⟨[], [0, 1, 8], 0, [], []⟩), (3, ⟨[], [8], 0, [], []⟩), (4, ⟨[], [9, 10, 11], 0, [], []⟩), (6, ⟨[], [12, 15, 16, 17, 18, 19, 20], 0, [], []⟩), (7, ⟨[], [0, 1, 5, 21], 0, [], []⟩), (5, ⟨[], [13, 14, 21], 0, [], []⟩), (8, ⟨[], [0, 1, 5, 12], 0, [], []⟩)]
theorem link15 : cCode Tryd.prog sig inv Tryd.f15.ntmps (fun i => h15.lookup i) (Tryd.f15.body.getD .skip) = some T.ref05_List.body := by kernel_rfl
theorem res15 : cRVs Tryd.prog Tryd.f15.results.toList = some T.ref05_List.results := by kernel_rfl
def h16 : List (Nat × Hint) := [(0, ⟨[], [1, 4], 0, [], []⟩), (1, ⟨[], [0, 3, 5, 6, 7, 8, 9, 10, 11, 12, 13, 14, 15, 16, 17, 18, 19, 20, 21, 22, 23, 24, 25, 26, 27, 28, 29, 30, 31, 32, 33, 34, 35, 36, 37, 38, 39, 40, 41, 42, 43, 44, 45], 0, [], []⟩)]
theorem link16 : cCode Tryd.prog sig inv Tryd.f16.ntmps (fun i => h16.lookup i) (Tryd.f16.body.getD .skip) = some T.ref05_IsTriple.body := by kernel_rfl
theorem res16 : cRVs Tryd.prog Tryd.f16.results.toList = some T.ref05_IsTriple.results := by kernel_rfl
def h17 : List (Nat × Hint) := [(0, ⟨[], [4, 5], 0, [], []⟩), (1, ⟨[], [8, 9, 10], 0, [], []⟩), (2, ⟨[], [11], 0, [], []⟩), (3, ⟨[], [0, 1, 6, 12, 13], 0, [], []⟩), (4, ⟨[], [0, 1, 6, 12, 14, 15, 16, 17, 18], 0, [], []⟩), (5, ⟨[], [19], 0, [], []⟩), (6, ⟨[], [7, 20, 21, 22], 0, [], []⟩), (7, ⟨[], [7, 20], 0, [], []⟩)]
theorem link17 : cCode Tryd.prog sig inv Tryd.f17.ntmps (fun i => h17.lookup i) (Tryd.f17.body.getD .skip) = some T.breed_Build.body := by kernel_rfl
theorem res17 : cRVs Tryd.prog Tryd.f17.results.toList = some T.breed_Build.results := by kernel_rfl
def h18 : List (Nat × Hint) := [(0, ⟨[], [4, 5], 0, [], []⟩), (1, ⟨[], [8, 9, 10], 0, [], []⟩), (2, ⟨[], [11], 0, [], []⟩), (3, ⟨[], [0, 1, 6, 12, 13], 0, [], []⟩), (4, ⟨[], [0, 6, 12, 14], 0, [], []⟩), (5, ⟨[], [], 0, [], []⟩), (6, ⟨[], [17, 18], 0, [], []⟩), (7, ⟨[], [19, 20, 21, 22, 23, 24, 25, 26, 27, 28], 0, [], []⟩), (8, ⟨[], [1, 7, 15, 16, 29, 30], 0, [], []⟩), (9, ⟨[], [7, 29, 31], 0, [], []⟩), (10, ⟨[], [1, 15, 16, 17], 0, [], []⟩)]
theorem link18 : cCode Tryd.prog sig inv Tryd.f18.ntmps (fun i => h18.lookup i) (Tryd.f18.body.getD .skip) = some T.breed_Knot.body := by kernel_rfl
theorem res18 : cRVs Tryd.prog Tryd.f18.results.toList = some T.breed_Knot.results := by kernel_rfl
def h25 : List (Nat × Hint) := [(0, ⟨[], [2, 3], 0, [], []⟩), (1, ⟨[], [12, 13], 0, [], []⟩), (2, ⟨[], [0, 14], 0, [], []⟩), (3, ⟨[], [14, 15], 0, [], []⟩), (4, ⟨[], [], 0, [], []⟩), (5, ⟨[], [16, 17], 0, [], []⟩), (7, ⟨[], [18, 21, 22], 0, [], []⟩), (8, ⟨[], [4], 0, [], []⟩), (9, ⟨[], [], 0, [], []⟩), (10, ⟨[], [26, 27, 28, 29], 0, [], []⟩), (11, ⟨[], [30], 0, [], []⟩), (12, ⟨[], [31, 32, 33, 34, 35, 36, 37, 38, 39, 40], 0, [], []⟩), (13, ⟨[], [7, 8, 31, 41, 42, 43, 44, 45, 46, 47, 48, 49, 50, 51, 52, 53], 0, [], []⟩), (14, ⟨[], [54], 0, [], []⟩), (15, ⟨[], [6, 23, 24, 25, 26, 55], 0, [], []⟩), (6, ⟨[], [19, 20], 0, [], []⟩), (16, ⟨[], [0, 5, 18], 0, [], []⟩), (17, ⟨[], [4], 0, [], []⟩), (18, ⟨[], [], 0, [], []⟩), (19, ⟨[], [59, 60, 61], 0, [], []⟩), (20, ⟨[], [11, 62, 63, 64], 0, [], []⟩), (21, ⟨[], [65], 0, [], []⟩), (22, ⟨[], [9, 56, 57, 58, 59, 66], 0, [], []⟩)]
theorem link25 : cCode Tryd.prog sig inv Tryd.f25.ntmps (fun i => h25.lookup i) (Tryd.f25.body.getD .skip) = some T.breed_Count.body := by kernel_rfl
theorem res25 : cRVs Tryd.prog Tryd.f25.results.toList = some T.breed_Count.results := by kernel_rfl
def h29 : List (Nat × Hint) := [(0, ⟨[], [6, 7], 0, [], []⟩), (1, ⟨[], [1, 10, 11, 12, 13, 14, 15, 16], 0, [], []⟩), (2, ⟨[], [18, 19], 0, [], []⟩), (3, ⟨[], [0, 2, 8, 9, 17, 20], 0, [], []⟩), (4, ⟨[], [0, 9, 17, 22, 23, 24, 25, 26, 27, 28, 29], 0, [], []⟩), (5, ⟨[], [2, 8, 21], 0, [], []⟩), (6, ⟨[], [2, 8, 21, 30, 31, 32, 33, 34, 35], 0, [], []⟩)]
theorem link29 : cCode Tryd.prog sig inv Tryd.f29.ntmps (fun i => h29.lookup i) (Tryd.f29.body.getD .skip) = some T.breed_Kept.body := by kernel_rfl
theorem res29 : cRVs Tryd.prog Tryd.f29.results.toList = some T.breed_Kept.results := by kernel_rfl
def h31 : List (Nat × Hint) := [(0, ⟨[], [8, 9], 0, [], []⟩), (1, ⟨[], [1, 12, 13, 14, 15, 16, 17, 18], 0, [], []⟩), (2, ⟨[], [20, 21], 0, [], []⟩), (3, ⟨[], [0, 2, 3, 10, 11, 19, 22], 0, [], []⟩), (4, ⟨[], [0, 11, 19, 24, 25, 26, 27, 28, 29, 30, 31, 32, 33, 34], 0, [], []⟩), (5, ⟨[], [2, 3, 10, 23], 0, [], []⟩), (6, ⟨[0, 1, 3, 4, 5, 6, 7, 2, 8, 9, 10], [2, 3, 10, 23, 35, 36, 37, 38, 39, 40, 41, 42, 43], 0, [], []⟩)]
theorem link31 : cCode Tryd.prog sig inv Tryd.f31.ntmps (fun i => h31.lookup i) (Tryd.f31.body.getD .skip) = some T.breed_Family.body := by kernel_rfl
theorem res31 : cRVs Tryd.prog Tryd.f31.results.toList = some T.breed_Family.results := by kernel_rfl
def h32 : List (Nat × Hint) := [(0, ⟨[], [4, 5], 0, [], []⟩), (1, ⟨[], [10, 11], 0, [], []⟩), (2, ⟨[], [0, 1, 12], 0, [], []⟩), (3, ⟨[], [12], 0, [], []⟩), (4, ⟨[], [1], 0, [], []⟩), (5, ⟨[], [], 0, [], []⟩), (6, ⟨[], [16, 17, 18], 0, [], []⟩), (7, ⟨[], [8, 19, 20, 21], 0, [], []⟩), (8, ⟨[], [22], 0, [], []⟩), (9, ⟨[], [0, 6, 9, 13, 14, 15, 23], 0, [], []⟩), (10, ⟨[], [9, 23, 24, 25, 26, 27], 0, [], []⟩), (11, ⟨[], [28], 0, [], []⟩), (12, ⟨[], [0, 6, 13, 14, 15, 16, 29], 0, [], []⟩)]
theorem link32 : cCode Tryd.prog sig inv Tryd.f32.ntmps (fun i => h32.lookup i) (Tryd.f32.body.getD .skip) = some T.breed_read.body := by kernel_rfl
theorem res32 : cRVs Tryd.prog Tryd.f32.results.toList = some T.breed_read.results := by kernel_rfl
def h33 : List (Nat × Hint) := [(0, ⟨[], [4], 0, [], []⟩), (1, ⟨[], [7, 8], 0, [], []⟩), (2, ⟨[], [0, 1, 9], 0, [], []⟩), (3, ⟨[], [1, 9], 0, [], []⟩), (4, ⟨[], [], 0, [], []⟩), (5, ⟨[], [13, 14, 15], 0, [], []⟩), (6, ⟨[], [6, 16, 17, 18, 19, 20, 21, 22, 23, 24, 25, 26, 27, 28, 29, 30, 31, 32, 33, 34, 35, 36, 37, 38, 39, 40, 41, 42, 43, 44, 45, 46, 47, 48, 49, 50, 51, 52, 53, 54, 55], 0, [], []⟩), (7, ⟨[], [0, 10, 11, 12, 56], 0, [], []⟩), (8, ⟨[], [56, 57], 0, [], []⟩), (9, ⟨[], [0, 10, 11, 12, 13], 0, [], []⟩)]
theorem link33 : cCode Tryd.prog sig inv Tryd.f33.ntmps (fun i => h33.lookup i) (Tryd.f33.body.getD .skip) = some T.breed_remembered.body := by kernel_rfl
theorem res33 : cRVs Tryd.prog Tryd.f33.results.toList = some T.breed_remembered.results := by kernel_rfl
def h34 : List (Nat × Hint) := [(0, ⟨[], [4], 0, [], []⟩), (1, ⟨[], [0, 1, 5, 6, 7, 8], 0, [], []⟩)]
theorem link34 : cCode Tryd.prog sig inv Tryd.f34.ntmps (fun i => h34.lookup i) (Tryd.f34.body.getD .skip) = some T.slices_ContainsFunc_Triple.body := by kernel_rfl
theorem res34 : cRVs Tryd.prog Tryd.f34.results.toList = some T.slices_ContainsFunc_Triple.results := by kernel_rfl
def h35 : List (Nat × Hint) := [(0, ⟨[], [0, 3], 0, [], []⟩), (1, ⟨[0, 1, 2, 3, 4, 5, 6], [1, 2, 4, 5, 6, 7, 8, 9], 0, [], []⟩)]
theorem link35 : cCode Tryd.prog sig inv Tryd.f35.ntmps (fun i => h35.lookup i) (Tryd.f35.body.getD .skip) = some T.breed_Shows_1.body := by kernel_rfl
theorem res35 : cRVs Tryd.prog Tryd.f35.results.toList = some T.breed_Shows_1.results := by kernel_rfl
def h36 : List (Nat × Hint) := [(0, ⟨[], [1, 4], 0, [], []⟩), (1, ⟨[0, 1, 4, 9, 2, 3, 5, 6, 7, 10, 8, 11, 12, 13, 14], [0, 3, 5, 6, 7, 8, 9, 10, 11, 12, 13, 14, 15, 16, 17, 18], 0, [], [8]⟩)]
theorem link36 : cCode Tryd.prog sig inv Tryd.f36.ntmps (fun i => h36.lookup i) (Tryd.f36.body.getD .skip) = some T.breed_shows.body := by kernel_rfl
theorem res36 : cRVs Tryd.prog Tryd.f36.results.toList = some T.breed_shows.results := by kernel_rfl
def h39 : List (Nat × Hint) := [(0, ⟨[], [4], 0, [], []⟩), (1, ⟨[], [5, 6], 0, [], []⟩), (2, ⟨[], [0, 1, 7], 0, [], []⟩), (3, ⟨[], [0, 1, 7, 8, 9, 10], 0, [], []⟩)]
theorem link39 : cCode Tryd.prog sig inv Tryd.f39.ntmps (fun i => h39.lookup i) (Tryd.f39.body.getD .skip) = some T.breed_asked.body := by kernel_rfl
theorem res39 : cRVs Tryd.prog Tryd.f39.results.toList = some T.breed_asked.results := by kernel_rfl
def h40 : List (Nat × Hint) := [(0, ⟨[], [4], 0, [], []⟩), (1, ⟨[], [10, 11, 12, 13], 0, [], []⟩), (2, ⟨[], [0, 1, 14, 15, 16, 17], 0, [], []⟩), (3, ⟨[], [1, 14, 18, 19, 20], 0, [], []⟩), (4, ⟨[], [21, 22], 0, [], []⟩), (5, ⟨[], [0, 5, 23], 0, [], []⟩), (6, ⟨[], [23], 0, [], []⟩), (7, ⟨[], [5], 0, [], []⟩), (8, ⟨[], [], 0, [], []⟩), (9, ⟨[], [27, 28, 29], 0, [], []⟩), (10, ⟨[], [8, 30, 31, 32], 0, [], []⟩), (11, ⟨[], [33], 0, [], []⟩), (12, ⟨[], [0, 6, 9, 24, 25, 26, 34], 0, [], []⟩), (13, ⟨[], [9, 34, 35, 36, 37, 38], 0, [], []⟩), (14, ⟨[], [39], 0, [], []⟩), (15, ⟨[], [0, 6, 24, 25, 26, 27, 40, 41], 0, [], []⟩)]
theorem link40 : cCode Tryd.prog sig inv Tryd.f40.ntmps (fun i => h40.lookup i) (Tryd.f40.body.getD .skip) = some T.breed_build.body := by kernel_rfl
theorem res40 : cRVs Tryd.prog Tryd.f40.results.toList = some T.breed_build.results := by kernel_rfl
def h41 : List (Nat × Hint) := [(0, ⟨[], [2], 0, [], []⟩), (1, ⟨[], [0, 3, 4, 5], 0, [], []⟩), (2, ⟨[], [0, 6, 7], 0, [], []⟩)]
theorem link41 : cCode Tryd.prog sig inv Tryd.f41.ntmps (fun i => h41.lookup i) (Tryd.f41.body.getD .skip) = some T.bits_OnesCount.body := by kernel_rfl
theorem res41 : cRVs Tryd.prog Tryd.f41.results.toList = some T.bits_OnesCount.results := by kernel_rfl
def h42 : List (Nat × Hint) := [(0, ⟨[], [4], 0, [], []⟩), (1, ⟨[], [], 0, [], []⟩), (2, ⟨[], [12], 0, [], []⟩), (3, ⟨[], [13], 0, [], []⟩), (4, ⟨[], [14, 15, 16, 17, 18], 0, [], []⟩), (5, ⟨[], [], 0, [], []⟩), (6, ⟨[], [8, 20, 21, 22, 23], 0, [], []⟩), (7, ⟨[], [19], 0, [], []⟩), (8, ⟨[], [], 0, [], []⟩), (9, ⟨[], [], 0, [], []⟩), (10, ⟨[], [23, 24, 25], 0, [], []⟩), (11, ⟨[0, 3, 1, 2, 4, 5, 6, 7], [26, 27, 28, 29, 30, 31, 32], 0, [], []⟩), (12, ⟨[], [10, 33, 34, 35, 36, 37, 38, 39, 40, 41, 42, 43, 44, 45, 46, 47, 48, 49, 50, 51], 0, [], []⟩), (13, ⟨[], [8, 11, 52, 53, 54, 55], 0, [], []⟩), (14, ⟨[], [], 0, [], []⟩), (15, ⟨[], [11, 52, 56], 0, [], []⟩), (16, ⟨[], [19, 57, 58, 59, 60], 0, [], []⟩), (17, ⟨[], [7, 61, 62, 63], 0, [], []⟩), (18, ⟨[], [0, 1, 6, 14, 64, 65], 0, [], []⟩), (19, ⟨[], [5, 66], 0, [], []⟩)]
theorem link42 : cCode Tryd.prog sig inv Tryd.f42.ntmps (fun i => h42.lookup i) (Tryd.f42.body.getD .skip) = some T.breed_joined.body := by kernel_rfl
theorem res42 : cRVs Tryd.prog Tryd.f42.results.toList = some T.breed_joined.results := by kernel_rfl
def h43 : List (Nat × Hint) := [(0, ⟨[], [2], 0, [], []⟩), (1, ⟨[], [0, 3, 4, 5, 6, 7, 8], 0, [], []⟩)]
theorem link43 : cCode Tryd.prog sig inv Tryd.f43.ntmps (fun i => h43.lookup i) (Tryd.f43.body.getD .skip) = some T.breed_herd.body := by kernel_rfl
theorem res43 : cRVs Tryd.prog Tryd.f43.results.toList = some T.breed_herd.results := by kernel_rfl
def h44 : List (Nat × Hint) := [(0, ⟨[], [4], 0, [], []⟩), (1, ⟨[], [1, 7, 8], 0, [], []⟩), (2, ⟨[], [9], 0, [], []⟩), (3, ⟨[0, 1, 2, 3, 4, 5, 6, 7, 8, 9, 10, 11, 12, 13, 15, 16, 17, 14, 18, 19], [0, 5, 10, 11, 12, 13, 14, 15, 16, 17, 18, 19, 20, 21, 22, 23, 24, 25, 26, 27, 28], 0, [], []⟩), (4, ⟨[], [6, 29], 0, [], []⟩), (5, ⟨[], [6, 29, 30], 0, [], []⟩)]
theorem link44 : cCode Tryd.prog sig inv Tryd.f44.ntmps (fun i => h44.lookup i) (Tryd.f44.body.getD .skip) = some T.breed_parse.body := by kernel_rfl
theorem res44 : cRVs Tryd.prog Tryd.f44.results.toList = some T.breed_parse.results := by kernel_rfl
def h52 : List (Nat × Hint) := [(0, ⟨[], [4], 0, [], []⟩), (1, ⟨[], [], 0, [], []⟩), (2, ⟨[], [10, 11], 0, [], []⟩), (3, ⟨[], [0, 12, 13], 0, [], []⟩), (4, ⟨[], [], 0, [], []⟩), (5, ⟨[], [5, 14], 0, [], []⟩), (6, ⟨[], [], 0, [], []⟩), (7, ⟨[], [18, 19, 20], 0, [], []⟩), (8, ⟨[], [8, 21, 22, 23], 0, [], []⟩), (9, ⟨[], [24], 0, [], []⟩), (10, ⟨[], [9, 25, 26, 27, 28, 29], 0, [], []⟩), (11, ⟨[], [9, 25, 30], 0, [], []⟩), (12, ⟨[], [1, 15, 16, 17, 18, 31], 0, [], []⟩), (13, ⟨[], [6, 32], 0, [], []⟩), (14, ⟨[], [6, 32, 33, 34], 0, [], []⟩), (15, ⟨[], [1, 12, 13, 35, 36, 37, 38], 0, [], []⟩), (16, ⟨[], [0, 39], 0, [], []⟩), (17, ⟨[], [0, 39, 40], 0, [], []⟩)]
theorem link52 : cCode Tryd.prog sig inv Tryd.f52.ntmps (fun i => h52.lookup i) (Tryd.f52.body.getD .skip) = some T.breed_kept.body := by kernel_rfl
theorem res52 : cRVs Tryd.prog Tryd.f52.results.toList = some T.breed_kept.results := by kernel_rfl
def h53 : List (Nat × Hint) := [(0, ⟨[], [4], 0, [], []⟩), (1, ⟨[], [], 0, [], []⟩), (2, ⟨[], [8, 9], 0, [], []⟩), (3, ⟨[], [10, 11], 0, [], []⟩), (4, ⟨[], [5, 12], 0, [], []⟩), (5, ⟨[], [], 0, [], []⟩), (6, ⟨[], [16, 17, 18], 0, [], []⟩), (7, ⟨[], [19, 20, 21, 22], 0, [], []⟩), (8, ⟨[], [0, 1, 7, 13, 14, 15, 23, 24, 25, 26], 0, [], []⟩), (9, ⟨[], [7, 23, 27], 0, [], []⟩), (10, ⟨[], [0, 1, 10, 11, 13, 14, 15, 16, 28, 29], 0, [], []⟩)]
theorem link53 : cCode Tryd.prog sig inv Tryd.f53.ntmps (fun i => h53.lookup i) (Tryd.f53.body.getD .skip) = some T.breed_common.body := by kernel_rfl
theorem res53 : cRVs Tryd.prog Tryd.f53.results.toList = some T.breed_common.results := by kernel_rfl
def h54 : List (Nat × Hint) := [(0, ⟨[], [4], 0, [], []⟩), (1, ⟨[], [6], 0, [], []⟩), (2, ⟨[], [], 0, [], []⟩), (3, ⟨[], [9, 10], 0, [], []⟩), (4, ⟨[], [11, 12, 13, 14, 15], 0, [], []⟩), (5, ⟨[], [0, 1, 5, 7, 8, 16, 17], 0, [], []⟩), (6, ⟨[], [5, 16, 18], 0, [], []⟩), (7, ⟨[], [0, 1, 7, 8, 9], 0, [], []⟩)]
theorem link54 : cCode Tryd.prog sig inv Tryd.f54.ntmps (fun i => h54.lookup i) (Tryd.f54.body.getD .skip) = some T.slices_IndexFunc_Triple.body := by kernel_rfl
theorem res54 : cRVs Tryd.prog Tryd.f54.results.toList = some T.slices_IndexFunc_Triple.results := by kernel_rfl
def h56 : List (Nat × Hint) := [(0, ⟨[], [2], 0, [], []⟩), (1, ⟨[], [6, 7], 0, [], []⟩), (2, ⟨[], [0, 8, 9, 10, 11], 0, [], []⟩), (3, ⟨[], [8, 12, 13], 0, [], []⟩), (4, ⟨[], [14, 15], 0, [], []⟩), (5, ⟨[], [0], 0, [], []⟩), (6, ⟨[], [], 0, [], []⟩), (7, ⟨[], [19, 20, 21], 0, [], []⟩), (8, ⟨[0, 2, 1, 3, 4, 5, 6], [5, 22, 23, 24, 25, 26, 27], 0, [], [3]⟩), (9, ⟨[], [28], 0, [], []⟩), (10, ⟨[], [3, 16, 17, 18, 19, 29, 30], 0, [], []⟩)]
theorem link56 : cCode Tryd.prog sig inv Tryd.f56.ntmps (fun i => h56.lookup i) (Tryd.f56.body.getD .skip) = some T.breed_of.body := by kernel_rfl
theorem res56 : cRVs Tryd.prog Tryd.f56.results.toList = some T.breed_of.results := by kernel_rfl
def h57 : List (Nat × Hint) := [(0, ⟨[], [2], 0, [], []⟩), (1, ⟨[0, 1, 2, 3, 4, 5, 6, 7, 8, 9, 10, 11, 12, 13, 14, 15, 16, 17, 18], [0, 3, 4, 5, 6, 7, 8, 9, 10, 11, 12, 13, 14, 15, 16, 17, 18, 19, 20], 0, [], []⟩)]
theorem link57 : cCode Tryd.prog sig inv Tryd.f57.ntmps (fun i => h57.lookup i) (Tryd.f57.body.getD .skip) = some T.bits_OnesCount32.body := by kernel_rfl
theorem res57 : cRVs Tryd.prog Tryd.f57.results.toList = some T.bits_OnesCount32.results := by kernel_rfl
def h58 : List (Nat × Hint) := [(0, ⟨[], [2], 0, [], []⟩), (1, ⟨[], [3, 4, 5, 6, 7, 8], 0, [], []⟩), (2, ⟨[], [9, 10, 11, 12, 13, 14], 0, [], []⟩), (3, ⟨[], [15, 16, 17, 18, 19], 0, [], []⟩), (4, ⟨[], [20, 21, 22, 23], 0, [], []⟩), (5, ⟨[], [24, 25, 26, 27], 0, [], []⟩), (6, ⟨[], [28, 29, 30, 31], 0, [], []⟩), (7, ⟨[], [0, 32, 33, 34], 0, [], []⟩)]
theorem link58 : cCode Tryd.prog sig inv Tryd.f58.ntmps (fun i => h58.lookup i) (Tryd.f58.body.getD .skip) = some T.bits_OnesCount64.body := by kernel_rfl
theorem res58 : cRVs Tryd.prog Tryd.f58.results.toList = some T.bits_OnesCount64.results := by kernel_rfl
def h59 : List (Nat × Hint) := [(0, ⟨[], [3, 4], 0, [], []⟩), (1, ⟨[], [0, 2, 5, 6, 7, 8, 9, 10], 0, [], []⟩)]
theorem link59 : cCode Tryd.prog sig inv Tryd.f59.ntmps (fun i => h59.lookup i) (Tryd.f59.body.getD .skip) = some T.slices_Sort_int.body := by kernel_rfl
theorem res59 : cRVs Tryd.prog Tryd.f59.results.toList = some T.slices_Sort_int.results := by kernel_rfl
def h60 : List (Nat × Hint) := [(0, ⟨[], [2], 0, [], []⟩), (1, ⟨[], [7, 8], 0, [], []⟩), (2, ⟨[], [9, 10, 11, 12, 13], 0, [], []⟩), (3, ⟨[], [0, 3, 14, 15, 16, 17, 18, 19], 0, [], []⟩), (4, ⟨[], [14], 0, [], []⟩), (5, ⟨[], [], 0, [], []⟩), (6, ⟨[], [3, 20, 21, 22, 23, 24, 25, 26, 27, 28, 29, 30], 0, [], []⟩), (7, ⟨[], [31, 32, 33, 99], 0, [], []⟩), (8, ⟨[], [34, 35, 36], 0, [], []⟩), (9, ⟨[], [37], 0, [], []⟩), (10, ⟨[], [38, 39, 40, 41, 42, 43, 44, 45, 46, 47, 48, 49, 50, 51, 52, 53, 54, 55, 56, 57, 58, 59, 60, 61, 62, 63, 64, 65, 66, 67, 68, 69], 0, [], []⟩), (11, ⟨[], [70, 71, 72, 73], 0, [], []⟩), (12, ⟨[], [6, 74, 75, 76, 77], 0, [], []⟩), (13, ⟨[], [78], 0, [], []⟩), (15, ⟨[], [84], 0, [], []⟩), (16, ⟨[], [0, 5, 79, 83, 85, 86, 87, 88, 89, 90, 91, 92, 93, 94, 95, 96], 0, [], []⟩), (17, ⟨[], [4, 97, 98], 0, [], []⟩), (18, ⟨[], [79, 83, 100], 0, [], []⟩), (14, ⟨[], [80, 81, 82, 99], 0, [], []⟩), (19, ⟨[], [0, 4, 5, 6, 34, 38], 0, [], []⟩)]
theorem link60 : cCode Tryd.prog sig inv Tryd.f60.ntmps (fun i => h60.lookup i) (Tryd.f60.body.getD .skip) = some T.breed_reader_tree.body := by kernel_rfl
theorem res60 : cRVs Tryd.prog Tryd.f60.results.toList = some T.breed_reader_tree.results := by kernel_rfl
def h63 : List (Nat × Hint) := [(0, ⟨[], [5, 6], 0, [], []⟩), (1, ⟨[], [0, 1, 4, 7, 8, 9, 10, 11, 12, 13], 0, [], []⟩)]
theorem link63 : cCode Tryd.prog sig inv Tryd.f63.ntmps (fun i => h63.lookup i) (Tryd.f63.body.getD .skip) = some T.slices_SortFunc_tree.body := by kernel_rfl
theorem res63 : cRVs Tryd.prog Tryd.f63.results.toList = some T.slices_SortFunc_tree.results := by kernel_rfl
def h64 : List (Nat × Hint) := [(0, ⟨[], [4], 0, [], []⟩), (1, ⟨[], [0, 1, 5, 6, 7, 8, 9], 0, [], []⟩)]
theorem link64 : cCode Tryd.prog sig inv Tryd.f64.ntmps (fun i => h64.lookup i) (Tryd.f64.body.getD .skip) = some T.breed_of_1.body := by kernel_rfl
theorem res64 : cRVs Tryd.prog Tryd.f64.results.toList = some T.breed_of_1.results := by kernel_rfl
def h65 : List (Nat × Hint) := [(0, ⟨[], [2], 0, [], []⟩), (1, ⟨[], [0, 3, 4, 5, 6], 0, [], []⟩)]
theorem link65 : cCode Tryd.prog sig inv Tryd.f65.ntmps (fun i => h65.lookup i) (Tryd.f65.body.getD .skip) = some T.breed_first.body := by kernel_rfl
theorem res65 : cRVs Tryd.prog Tryd.f65.results.toList = some T.breed_first.results := by kernel_rfl
def h66 : List (Nat × Hint) := [(0, ⟨[], [], 0, [], []⟩), (1, ⟨[], [], 0, [], []⟩), (2, ⟨[], [19, 20, 21], 0, [], []⟩), (3, ⟨[], [22], 0, [], []⟩), (4, ⟨[], [0, 1, 2, 3, 8, 9, 10, 23, 24, 25, 26, 27], 0, [], []⟩), (5, ⟨[], [23, 28], 0, [], []⟩), (6, ⟨[], [0, 1, 2, 3, 8, 9, 10, 29, 30, 31, 32, 33], 0, [], []⟩), (7, ⟨[], [29, 34], 0, [], []⟩), (8, ⟨[], [35, 36, 37, 38, 39], 0, [], []⟩), (9, ⟨[], [40, 41], 0, [], []⟩), (10, ⟨[], [35, 42, 43, 44, 45, 46, 47, 48], 0, [], []⟩), (11, ⟨[], [49], 0, [], []⟩), (12, ⟨[], [12, 50, 51, 52, 53, 54], 0, [], []⟩), (13, ⟨[], [55, 56, 57, 58, 59, 60], 0, [], []⟩), (14, ⟨[], [], 0, [], []⟩), (15, ⟨[], [12, 50, 61, 62, 63, 64, 65, 66, 67], 0, [], []⟩), (16, ⟨[], [68, 69, 70, 71], 0, [], []⟩), (17, ⟨[0, 1, 2, 3, 4, 5, 6, 8, 9, 10, 7, 11, 12, 13, 14], [68, 72, 73, 74, 75, 76, 77, 78, 79, 80, 81, 82, 83, 84, 85, 86], 0, [], []⟩), (18, ⟨[], [1, 10, 11, 87, 88, 89, 90, 91, 92], 0, [], []⟩), (19, ⟨[], [13, 93], 0, [], []⟩), (20, ⟨[], [8, 9, 11, 87, 94, 95, 96, 97, 98, 99, 100, 101], 0, [], []⟩), (21, ⟨[], [15, 102], 0, [], []⟩), (22, ⟨[], [103, 104, 105, 106, 107, 108], 0, [], []⟩), (23, ⟨[], [10, 109, 110], 0, [], []⟩), (24, ⟨[], [111, 112], 0, [], []⟩), (25, ⟨[], [16, 17, 18, 113, 114, 115, 116], 0, [], []⟩), (26, ⟨[], [1, 117, 118, 119, 120, 121], 0, [], []⟩), (27, ⟨[], [14, 122, 123], 0, [], []⟩), (28, ⟨[], [16, 17, 18, 113, 124, 125, 126], 0, [], []⟩), (29, ⟨[], [2, 127, 128, 129, 130, 131, 132], 0, [], []⟩), (30, ⟨[], [14, 133], 0, [], []⟩)]
theorem link66 : cCode Tryd.prog sig inv Tryd.f66.ntmps (fun i => h66.lookup i) (Tryd.f66.body.getD .skip) = some T.slices_pdqsortOrdered_int.body := by kernel_rfl
theorem res66 : cRVs Tryd.prog Tryd.f66.results.toList = some T.slices_pdqsortOrdered_int.results := by kernel_rfl
def h67 : List (Nat × Hint) := [(0, ⟨[], [2], 0, [], []⟩), (1, ⟨[], [0, 3, 4, 5], 0, [], []⟩), (2, ⟨[], [0, 6, 7], 0, [], []⟩)]
theorem link67 : cCode Tryd.prog sig inv Tryd.f67.ntmps (fun i => h67.lookup i) (Tryd.f67.body.getD .skip) = some T.bits_Len.body := by kernel_rfl
theorem res67 : cRVs Tryd.prog Tryd.f67.results.toList = some T.bits_Len.results := by kernel_rfl
def h68 : List (Nat × Hint) := [(0, ⟨[], [2], 0, [], []⟩), (1, ⟨[], [4, 5, 6, 7], 0, [], []⟩), (2, ⟨[], [0, 8, 9, 10, 11], 0, [], []⟩), (3, ⟨[], [], 0, [], []⟩), (4, ⟨[], [8, 12, 13, 14, 15, 16], 0, [], []⟩), (5, ⟨[], [0, 17, 18, 19, 20, 21, 22, 23, 24], 0, [], []⟩), (6, ⟨[], [3, 25], 0, [], []⟩)]
theorem link68 : cCode Tryd.prog sig inv Tryd.f68.ntmps (fun i => h68.lookup i) (Tryd.f68.body.getD .skip) = some T.breed_reader_take.body := by kernel_rfl
theorem res68 : cRVs Tryd.prog Tryd.f68.results.toList = some T.breed_reader_take.results := by kernel_rfl
def h70 : List (Nat × Hint) := [(0, ⟨[], [], 0, [], []⟩), (1, ⟨[], [], 0, [], []⟩), (2, ⟨[], [21, 22, 23], 0, [], []⟩), (3, ⟨[], [24], 0, [], []⟩), (4, ⟨[], [0, 1, 2, 3, 4, 10, 11, 12, 25, 26, 27, 28, 29, 30], 0, [], []⟩), (5, ⟨[], [25, 31], 0, [], []⟩), (6, ⟨[], [0, 1, 2, 3, 4, 10, 11, 12, 32, 33, 34, 35, 36, 37], 0, [], []⟩), (7, ⟨[], [32, 38], 0, [], []⟩), (8, ⟨[], [39, 40, 41, 42, 43, 44], 0, [], []⟩), (9, ⟨[], [45, 46], 0, [], []⟩), (10, ⟨[], [39, 47, 48, 49, 50, 51, 52, 53, 54], 0, [], []⟩), (11, ⟨[], [55], 0, [], []⟩), (12, ⟨[], [14, 56, 57, 58, 59, 60, 61], 0, [], []⟩), (13, ⟨[], [62, 63, 64, 65, 66, 67], 0, [], []⟩), (14, ⟨[], [], 0, [], []⟩), (15, ⟨[], [14, 56, 68, 69, 70, 71, 72, 73, 74], 0, [], []⟩), (16, ⟨[], [75, 76, 77, 78, 79], 0, [], []⟩), (17, ⟨[0, 1, 2, 3, 4, 5, 6, 7, 9, 10, 11, 8, 12, 13, 14, 15, 16], [75, 80, 81, 82, 83, 84, 85, 86, 87, 88, 89, 90, 91, 92, 93, 94, 95, 96], 0, [], []⟩), (18, ⟨[], [1, 12, 13, 97, 98, 99, 100, 101, 102, 103], 0, [], []⟩), (19, ⟨[], [15, 104], 0, [], []⟩), (20, ⟨[], [10, 11, 13, 97, 105, 106, 107, 108, 109, 110, 111, 112, 113], 0, [], []⟩), (21, ⟨[], [17, 114], 0, [], []⟩), (22, ⟨[], [115, 116, 117, 118, 119, 120], 0, [], []⟩), (23, ⟨[], [12, 121, 122], 0, [], []⟩), (24, ⟨[], [123, 124], 0, [], []⟩), (25, ⟨[], [18, 19, 20, 125, 126, 127, 128], 0, [], []⟩), (26, ⟨[], [1, 129, 130, 131, 132, 133, 134], 0, [], []⟩), (27, ⟨[], [16, 135, 136], 0, [], []⟩), (28, ⟨[], [18, 19, 20, 125, 137, 138, 139], 0, [], []⟩), (29, ⟨[], [2, 140, 141, 142, 143, 144, 145, 146], 0, [], []⟩), (30, ⟨[], [16, 147], 0, [], []⟩)]
theorem link70 : cCode Tryd.prog sig inv Tryd.f70.ntmps (fun i => h70.lookup i) (Tryd.f70.body.getD .skip) = some T.slices_pdqsortCmpFunc_tree.body := by kernel_rfl
theorem res70 : cRVs Tryd.prog Tryd.f70.results.toList = some T.slices_pdqsortCmpFunc_tree.results := by kernel_rfl
def h71 : List (Nat × Hint) := [(0, ⟨[], [2], 0, [], []⟩), (1, ⟨[], [0, 3, 4, 5], 0, [], []⟩), (2, ⟨[], [0, 6, 7], 0, [], []⟩)]
theorem link71 : cCode Tryd.prog sig inv Tryd.f71.ntmps (fun i => h71.lookup i) (Tryd.f71.body.getD .skip) = some T.bits_TrailingZeros.body := by kernel_rfl
theorem res71 : cRVs Tryd.prog Tryd.f71.results.toList = some T.bits_TrailingZeros.results := by kernel_rfl
def h72 : List (Nat × Hint) := [(0, ⟨[], [8, 9], 0, [], []⟩), (1, ⟨[], [10, 11], 0, [], []⟩), (3, ⟨[], [12, 15], 0, [], []⟩), (4, ⟨[0, 1, 2, 3, 4, 5, 6, 8, 9, 10, 11, 7, 12, 13, 14], [16, 17, 18, 19, 20, 21, 22, 23, 24, 25, 26, 27, 28, 29], 0, [], []⟩), (6, ⟨[0, 1, 2, 3, 4, 5, 6, 7, 8, 10, 11, 12, 9, 13, 14, 15, 16, 17], [30, 33, 34, 35, 36, 37, 38, 39, 40, 41, 42, 43, 44, 45, 46, 47, 48], 0, [], []⟩), (5, ⟨[], [31, 32], 0, [], []⟩), (2, ⟨[], [7, 13, 14, 30], 0, [], []⟩)]
theorem link72 : cCode Tryd.prog sig inv Tryd.f72.ntmps (fun i => h72.lookup i) (Tryd.f72.body.getD .skip) = some T.slices_insertionSortOrdered_int.body := by kernel_rfl
theorem res72 : cRVs Tryd.prog Tryd.f72.results.toList = some T.slices_insertionSortOrdered_int.results := by kernel_rfl
def h78 : List (Nat × Hint) := [(0, ⟨[], [4], 0, [], []⟩), (1, ⟨[], [0, 1, 5, 6, 7, 8, 9, 10, 11, 12, 13, 14, 15, 16], 0, [], []⟩)]
theorem link78 : cCode Tryd.prog sig inv Tryd.f78.ntmps (fun i => h78.lookup i) (Tryd.f78.body.getD .skip) = some T.cmp_Less_int.body := by kernel_rfl
theorem res78 : cRVs Tryd.prog Tryd.f78.results.toList = some T.cmp_Less_int.results := by kernel_rfl
def h81 : List (Nat × Hint) := [(0, ⟨[], [], 0, [], []⟩), (1, ⟨[], [3], 0, [], []⟩), (2, ⟨[], [2, 4, 5, 6], 0, [], []⟩), (3, ⟨[], [], 0, [], []⟩), (4, ⟨[], [4, 7], 0, [], []⟩), (5, ⟨[], [8, 9, 10], 0, [], []⟩), (6, ⟨[], [11, 12], 0, [], []⟩), (7, ⟨[], [0, 8, 13, 14, 15, 16, 17, 18], 0, [], []⟩)]
theorem link81 : cCode Tryd.prog sig inv Tryd.f81.ntmps (fun i => h81.lookup i) (Tryd.f81.body.getD .skip) = some T.bits_Len32.body := by kernel_rfl
theorem res81 : cRVs Tryd.prog Tryd.f81.results.toList = some T.bits_Len32.results := by kernel_rfl
def h82 : List (Nat × Hint) := [(0, ⟨[], [], 0, [], []⟩), (1, ⟨[], [3], 0, [], []⟩), (2, ⟨[], [2, 4, 5, 6], 0, [], []⟩), (3, ⟨[], [], 0, [], []⟩), (4, ⟨[], [4, 7], 0, [], []⟩), (5, ⟨[], [8, 9, 10], 0, [], []⟩), (6, ⟨[], [11, 12], 0, [], []⟩), (7, ⟨[], [8, 13], 0, [], []⟩), (8, ⟨[], [14, 15, 16], 0, [], []⟩), (9, ⟨[], [17, 18], 0, [], []⟩), (10, ⟨[], [0, 14, 19, 20, 21, 22, 23, 24], 0, [], []⟩)]
theorem link82 : cCode Tryd.prog sig inv Tryd.f82.ntmps (fun i => h82.lookup i) (Tryd.f82.body.getD .skip) = some T.bits_Len64.body := by kernel_rfl
theorem res82 : cRVs Tryd.prog Tryd.f82.results.toList = some T.bits_Len64.results := by kernel_rfl
def h83 : List (Nat × Hint) := [(0, ⟨[], [10, 11], 0, [], []⟩), (1, ⟨[], [12, 13], 0, [], []⟩), (3, ⟨[], [14, 17], 0, [], []⟩), (4, ⟨[0, 1, 2, 3, 4, 5, 6, 7, 9, 10, 11, 12, 8, 13, 14, 15, 16], [18, 19, 20, 21, 22, 23, 24, 25, 26, 27, 28, 29, 30, 31, 32, 33], 0, [], []⟩), (6, ⟨[0, 1, 2, 3, 4, 5, 6, 7, 8, 10, 11, 12, 9, 13, 14, 15, 16, 17], [34, 37, 38, 39, 40, 41, 42, 43, 44, 45, 46, 47, 48, 49, 50, 51, 52], 0, [], []⟩), (5, ⟨[], [35, 36], 0, [], []⟩), (2, ⟨[], [9, 15, 16, 34], 0, [], []⟩)]
theorem link83 : cCode Tryd.prog sig inv Tryd.f83.ntmps (fun i => h83.lookup i) (Tryd.f83.body.getD .skip) = some T.slices_insertionSortCmpFunc_tree.body := by kernel_rfl
theorem res83 : cRVs Tryd.prog Tryd.f83.results.toList = some T.slices_insertionSortCmpFunc_tree.results := by kernel_rfl
def h91 : List (Nat × Hint) := [(0, ⟨[], [2], 0, [], []⟩), (1, ⟨[], [3], 0, [], []⟩), (2, ⟨[], [0, 4], 0, [], []⟩), (3, ⟨[], [0, 4, 5, 6, 7, 8, 9, 10, 11, 12, 13], 0, [], []⟩)]
theorem link91 : cCode Tryd.prog sig inv Tryd.f91.ntmps (fun i => h91.lookup i) (Tryd.f91.body.getD .skip) = some T.bits_TrailingZeros32.body := by kernel_rfl
theorem res91 : cRVs Tryd.prog Tryd.f91.results.toList = some T.bits_TrailingZeros32.results := by kernel_rfl
def h92 : List (Nat × Hint) := [(0, ⟨[], [2], 0, [], []⟩), (1, ⟨[], [3], 0, [], []⟩), (2, ⟨[], [0, 4], 0, [], []⟩), (3, ⟨[], [0, 4, 5, 6, 7, 8, 9, 10, 11, 12, 13], 0, [], []⟩)]
theorem link92 : cCode Tryd.prog sig inv Tryd.f92.ntmps (fun i => h92.lookup i) (Tryd.f92.body.getD .skip) = some T.bits_TrailingZeros64.body := by kernel_rfl
theorem res92 : cRVs Tryd.prog Tryd.f92.results.toList = some T.bits_TrailingZeros64.results := by kernel_rfl
def h98 : List (Nat × Hint) := [(0, ⟨[], [2], 0, [], []⟩), (1, ⟨[], [0, 3, 4, 5], 0, [], []⟩)]
theorem link98 : cCode Tryd.prog sig inv Tryd.f98.ntmps (fun i => h98.lookup i) (Tryd.f98.body.getD .skip) = some T.cmp_isNaN_int.body := by kernel_rfl
theorem res98 : cRVs Tryd.prog Tryd.f98.results.toList = some T.cmp_isNaN_int.results := by kernel_rfl
def h119 : List (Nat × Hint) := [(0, ⟨[], [2], 0, [], []⟩), (1, ⟨[], [0, 3], 0, [], []⟩)]
theorem link119 : cCode Tryd.prog sig inv Tryd.f119.ntmps (fun i => h119.lookup i) (Tryd.f119.body.getD .skip) = some T.breed_set_beasts.body := by kernel_rfl
theorem res119 : cRVs Tryd.prog Tryd.f119.results.toList = some T.breed_set_beasts.results := by kernel_rfl
def h120 : List (Nat × Hint) := [(0, ⟨[], [0, 2], 0, [], []⟩), (1, ⟨[], [1, 3, 4, 5, 6, 7], 0, [], []⟩)]
theorem link120 : cCode Tryd.prog sig inv Tryd.f120.ntmps (fun i => h120.lookup i) (Tryd.f120.body.getD .skip) = some T.breed_beast_text.body := by kernel_rfl
theorem res120 : cRVs Tryd.prog Tryd.f120.results.toList = some T.breed_beast_text.results := by kernel_rfl
def h121 : List (Nat × Hint) := [(0, ⟨[], [2], 0, [], []⟩), (1, ⟨[], [0, 3, 4], 0, [], []⟩)]
theorem link121 : cCode Tryd.prog sig inv Tryd.f121.ntmps (fun i => h121.lookup i) (Tryd.f121.body.getD .skip) = some T.strconv_Itoa.body := by kernel_rfl
theorem res121 : cRVs Tryd.prog Tryd.f121.results.toList = some T.strconv_Itoa.results := by kernel_rfl
def h122 : List (Nat × Hint) := [(0, ⟨[], [2], 0, [], []⟩), (1, ⟨[], [0, 3, 4], 0, [], []⟩)]
theorem link122 : cCode Tryd.prog sig inv Tryd.f122.ntmps (fun i => h122.lookup i) (Tryd.f122.body.getD .skip) = some T.istrconv_Itoa.body := by kernel_rfl
theorem res122 : cRVs Tryd.prog Tryd.f122.results.toList = some T.istrconv_Itoa.results := by kernel_rfl
def h123 : List (Nat × Hint) := [(0, ⟨[], [4], 0, [], []⟩), (1, ⟨[], [10], 0, [], []⟩), (2, ⟨[], [1, 11, 12, 13, 14, 15, 16], 0, [], []⟩), (3, ⟨[], [0, 17, 18, 19], 0, [], []⟩), (4, ⟨[], [17], 0, [], []⟩), (5, ⟨[], [20, 21], 0, [], []⟩), (6, ⟨[], [22], 0, [], []⟩), (7, ⟨[], [23, 24, 25], 0, [], []⟩), (8, ⟨[], [23, 26, 27], 0, [], []⟩), (9, ⟨[], [6, 28, 29, 30, 31, 32], 0, [], []⟩), (10, ⟨[], [0, 33], 0, [], []⟩), (11, ⟨[], [34, 35], 0, [], []⟩), (12, ⟨[], [5, 7, 36, 37, 38, 39], 0, [], []⟩), (13, ⟨[], [5, 7, 34, 40, 41, 42, 43], 0, [], []⟩), (14, ⟨[], [0, 1, 8, 11, 44, 45, 46, 47, 48, 49, 50, 51, 52], 0, [], []⟩), (15, ⟨[], [9, 53], 0, [], []⟩)]
theorem link123 : cCode Tryd.prog sig inv Tryd.f123.ntmps (fun i => h123.lookup i) (Tryd.f123.body.getD .skip) = some T.istrconv_FormatInt.body := by kernel_rfl
theorem res123 : cRVs Tryd.prog Tryd.f123.results.toList = some T.istrconv_FormatInt.results := by kernel_rfl
def h124 : List (Nat × Hint) := [(0, ⟨[], [2], 0, [], []⟩), (1, ⟨[], [3], 0, [], []⟩), (2, ⟨[], [0, 4, 5, 6, 7, 8], 0, [], []⟩), (3, ⟨[], [0, 4, 9, 10, 11, 12, 13, 14], 0, [], []⟩)]
theorem link124 : cCode Tryd.prog sig inv Tryd.f124.ntmps (fun i => h124.lookup i) (Tryd.f124.body.getD .skip) = some T.istrconv_small.body := by kernel_rfl
theorem res124 : cRVs Tryd.prog Tryd.f124.results.toList = some T.istrconv_small.results := by kernel_rfl
def h131 : List (Nat × Hint) := [(0, ⟨[], [0, 2], 0, [], []⟩), (1, ⟨[], [], 0, [], []⟩), (2, ⟨[], [1, 6], 0, [], []⟩), (3, ⟨[], [], 0, [], []⟩), (4, ⟨[], [10, 11, 12], 0, [], []⟩), (5, ⟨[], [5, 13, 14, 15, 16, 17], 0, [], []⟩), (6, ⟨[], [18], 0, [], []⟩), (7, ⟨[], [3, 7, 8, 9, 10, 19, 20, 21, 22], 0, [], []⟩)]
theorem link131 : cCode Tryd.prog sig inv Tryd.f131.ntmps (fun i => h131.lookup i) (Tryd.f131.body.getD .skip) = some T.breed_family_text.body := by kernel_rfl
theorem res131 : cRVs Tryd.prog Tryd.f131.results.toList = some T.breed_family_text.results := by kernel_rfl
def have_ : List Nat := [0, 1, 7, 8, 9, 12, 13, 14, 15, 22, 26, 28, 29, 30, 31, 32, 33, 36, 37, 38, 39, 40, 41, 49, 50, 51, 53, 54, 55, 56, 57, 60, 61, 62, 63, 64, 65, 67, 68, 69, 70, 71, 72, 73, 74, 75, 76, 77, 78, 79, 80, 81, 82, 84]
end Gc.Tryd
end
section
/- Each function that the seat has is its text: all of them in one (made by a program of ours, wip/tools/codeall.py). -/
set_option maxRecDepth 100000
namespace Gc.Tryd
open Go Go.Proofs
def CodeOk (m : Nat) (fn : Fun) : Prop := ∃ gf body hints, Tryd.prog.funcs[m]? = some gf ∧ gf.body = some body ∧ (gf.name == "runtime.NumGoroutine") = false ∧ cCode Tryd.prog sig inv gf.ntmps hints body = some fn.body ∧ cRVs Tryd.prog gf.results.toList = some fn.results
theorem some_of {α : Type} {x : Option α} {d : α} (h : x.isSome = true) : x = some (x.getD d) := by
  cases x with
  | none => cases h
  | some a => rfl
theorem ok3 : CodeOk 3 T.law05_BreedShows := ⟨Tryd.f3, _, _, Tryd.func3, some_of (by kernel_rfl), by kernel_rfl, link3, res3⟩
theorem ok4 : CodeOk 4 T.law05_BreedMore := ⟨Tryd.f4, _, _, Tryd.func4, some_of (by kernel_rfl), by kernel_rfl, link4, res4⟩
theorem ok10 : CodeOk 10 T.law05_few := ⟨Tryd.f10, _, _, Tryd.func10, some_of (by kernel_rfl), by kernel_rfl, link10, res10⟩
theorem ok11 : CodeOk 11 T.law05_alive := ⟨Tryd.f11, _, _, Tryd.func11, some_of (by kernel_rfl), by kernel_rfl, link11, res11⟩
theorem ok12 : CodeOk 12 T.breed_Shows := ⟨Tryd.f12, _, _, Tryd.func12, some_of (by kernel_rfl), by kernel_rfl, link12, res12⟩
theorem ok15 : CodeOk 15 T.ref05_List := ⟨Tryd.f15, _, _, Tryd.func15, some_of (by kernel_rfl), by kernel_rfl, link15, res15⟩
theorem ok16 : CodeOk 16 T.ref05_IsTriple := ⟨Tryd.f16, _, _, Tryd.func16, some_of (by kernel_rfl), by kernel_rfl, link16, res16⟩
theorem ok17 : CodeOk 17 T.breed_Build := ⟨Tryd.f17, _, _, Tryd.func17, some_of (by kernel_rfl), by kernel_rfl, link17, res17⟩
theorem ok18 : CodeOk 18 T.breed_Knot := ⟨Tryd.f18, _, _, Tryd.func18, some_of (by kernel_rfl), by kernel_rfl, link18, res18⟩
theorem ok25 : CodeOk 25 T.breed_Count := ⟨Tryd.f25, _, _, Tryd.func25, some_of (by kernel_rfl), by kernel_rfl, link25, res25⟩
theorem ok29 : CodeOk 29 T.breed_Kept := ⟨Tryd.f29, _, _, Tryd.func29, some_of (by kernel_rfl), by kernel_rfl, link29, res29⟩
theorem ok31 : CodeOk 31 T.breed_Family := ⟨Tryd.f31, _, _, Tryd.func31, some_of (by kernel_rfl), by kernel_rfl, link31, res31⟩
theorem ok32 : CodeOk 32 T.breed_read := ⟨Tryd.f32, _, _, Tryd.func32, some_of (by kernel_rfl), by kernel_rfl, link32, res32⟩
theorem ok33 : CodeOk 33 T.breed_remembered := ⟨Tryd.f33, _, _, Tryd.func33, some_of (by kernel_rfl), by kernel_rfl, link33, res33⟩
theorem ok34 : CodeOk 34 T.slices_ContainsFunc_Triple := ⟨Tryd.f34, _, _, Tryd.func34, some_of (by kernel_rfl), by kernel_rfl, link34, res34⟩
theorem ok35 : CodeOk 35 T.breed_Shows_1 := ⟨Tryd.f35, _, _, Tryd.func35, some_of (by kernel_rfl), by kernel_rfl, link35, res35⟩
theorem ok36 : CodeOk 36 T.breed_shows := ⟨Tryd.f36, _, _, Tryd.func36, some_of (by kernel_rfl), by kernel_rfl, link36, res36⟩
theorem ok39 : CodeOk 39 T.breed_asked := ⟨Tryd.f39, _, _, Tryd.func39, some_of (by kernel_rfl), by kernel_rfl, link39, res39⟩
theorem ok40 : CodeOk 40 T.breed_build := ⟨Tryd.f40, _, _, Tryd.func40, some_of (by kernel_rfl), by kernel_rfl, link40, res40⟩
theorem ok41 : CodeOk 41 T.bits_OnesCount := ⟨Tryd.f41, _, _, Tryd.func41, some_of (by kernel_rfl), by kernel_rfl, link41, res41⟩
theorem ok42 : CodeOk 42 T.breed_joined := ⟨Tryd.f42, _, _, Tryd.func42, some_of (by kernel_rfl), by kernel_rfl, link42, res42⟩
theorem ok43 : CodeOk 43 T.breed_herd := ⟨Tryd.f43, _, _, Tryd.func43, some_of (by kernel_rfl), by kernel_rfl, link43, res43⟩
theorem ok44 : CodeOk 44 T.breed_parse := ⟨Tryd.f44, _, _, Tryd.func44, some_of (by kernel_rfl), by kernel_rfl, link44, res44⟩
theorem ok52 : CodeOk 52 T.breed_kept := ⟨Tryd.f52, _, _, Tryd.func52, some_of (by kernel_rfl), by kernel_rfl, link52, res52⟩
theorem ok53 : CodeOk 53 T.breed_common := ⟨Tryd.f53, _, _, Tryd.func53, some_of (by kernel_rfl), by kernel_rfl, link53, res53⟩
theorem ok54 : CodeOk 54 T.slices_IndexFunc_Triple := ⟨Tryd.f54, _, _, Tryd.func54, some_of (by kernel_rfl), by kernel_rfl, link54, res54⟩
theorem ok56 : CodeOk 56 T.breed_of := ⟨Tryd.f56, _, _, Tryd.func56, some_of (by kernel_rfl), by kernel_rfl, link56, res56⟩
theorem ok57 : CodeOk 57 T.bits_OnesCount32 := ⟨Tryd.f57, _, _, Tryd.func57, some_of (by kernel_rfl), by kernel_rfl, link57, res57⟩
theorem ok58 : CodeOk 58 T.bits_OnesCount64 := ⟨Tryd.f58, _, _, Tryd.func58, some_of (by kernel_rfl), by kernel_rfl, link58, res58⟩
theorem ok59 : CodeOk 59 T.slices_Sort_int := ⟨Tryd.f59, _, _, Tryd.func59, some_of (by kernel_rfl), by kernel_rfl, link59, res59⟩
theorem ok60 : CodeOk 60 T.breed_reader_tree := ⟨Tryd.f60, _, _, Tryd.func60, some_of (by kernel_rfl), by kernel_rfl, link60, res60⟩
theorem ok63 : CodeOk 63 T.slices_SortFunc_tree := ⟨Tryd.f63, _, _, Tryd.func63, some_of (by kernel_rfl), by kernel_rfl, link63, res63⟩
theorem ok64 : CodeOk 64 T.breed_of_1 := ⟨Tryd.f64, _, _, Tryd.func64, some_of (by kernel_rfl), by kernel_rfl, link64, res64⟩
theorem ok65 : CodeOk 65 T.breed_first := ⟨Tryd.f65, _, _, Tryd.func65, some_of (by kernel_rfl), by kernel_rfl, link65, res65⟩
theorem ok66 : CodeOk 66 T.slices_pdqsortOrdered_int := ⟨Tryd.f66, _, _, Tryd.func66, some_of (by kernel_rfl), by kernel_rfl, link66, res66⟩
theorem ok67 : CodeOk 67 T.bits_Len := ⟨Tryd.f67, _, _, Tryd.func67, some_of (by kernel_rfl), by kernel_rfl, link67, res67⟩
theorem ok68 : CodeOk 68 T.breed_reader_take := ⟨Tryd.f68, _, _, Tryd.func68, some_of (by kernel_rfl), by kernel_rfl, link68, res68⟩
theorem ok70 : CodeOk 70 T.slices_pdqsortCmpFunc_tree := ⟨Tryd.f70, _, _, Tryd.func70, some_of (by kernel_rfl), by kernel_rfl, link70, res70⟩
theorem ok71 : CodeOk 71 T.bits_TrailingZeros := ⟨Tryd.f71, _, _, Tryd.func71, some_of (by kernel_rfl), by kernel_rfl, link71, res71⟩
theorem ok72 : CodeOk 72 T.slices_insertionSortOrdered_int := ⟨Tryd.f72, _, _, Tryd.func72, some_of (by kernel_rfl), by kernel_rfl, link72, res72⟩
theorem ok78 : CodeOk 78 T.cmp_Less_int := ⟨Tryd.f78, _, _, Tryd.func78, some_of (by kernel_rfl), by kernel_rfl, link78, res78⟩
theorem ok81 : CodeOk 81 T.bits_Len32 := ⟨Tryd.f81, _, _, Tryd.func81, some_of (by kernel_rfl), by kernel_rfl, link81, res81⟩
theorem ok82 : CodeOk 82 T.bits_Len64 := ⟨Tryd.f82, _, _, Tryd.func82, some_of (by kernel_rfl), by kernel_rfl, link82, res82⟩
theorem ok83 : CodeOk 83 T.slices_insertionSortCmpFunc_tree := ⟨Tryd.f83, _, _, Tryd.func83, some_of (by kernel_rfl), by kernel_rfl, link83, res83⟩
theorem ok91 : CodeOk 91 T.bits_TrailingZeros32 := ⟨Tryd.f91, _, _, Tryd.func91, some_of (by kernel_rfl), by kernel_rfl, link91, res91⟩
theorem ok92 : CodeOk 92 T.bits_TrailingZeros64 := ⟨Tryd.f92, _, _, Tryd.func92, some_of (by kernel_rfl), by kernel_rfl, link92, res92⟩
theorem ok119 : CodeOk 119 T.breed_set_beasts := ⟨Tryd.f119, _, _, Tryd.func119, some_of (by kernel_rfl), by kernel_rfl, link119, res119⟩
theorem ok120 : CodeOk 120 T.breed_beast_text := ⟨Tryd.f120, _, _, Tryd.func120, some_of (by kernel_rfl), by kernel_rfl, link120, res120⟩
theorem ok121 : CodeOk 121 T.strconv_Itoa := ⟨Tryd.f121, _, _, Tryd.func121, some_of (by kernel_rfl), by kernel_rfl, link121, res121⟩
theorem ok122 : CodeOk 122 T.istrconv_Itoa := ⟨Tryd.f122, _, _, Tryd.func122, some_of (by kernel_rfl), by kernel_rfl, link122, res122⟩
theorem ok123 : CodeOk 123 T.istrconv_FormatInt := ⟨Tryd.f123, _, _, Tryd.func123, some_of (by kernel_rfl), by kernel_rfl, link123, res123⟩
theorem ok124 : CodeOk 124 T.istrconv_small := ⟨Tryd.f124, _, _, Tryd.func124, some_of (by kernel_rfl), by kernel_rfl, link124, res124⟩
theorem ok131 : CodeOk 131 T.breed_family_text := ⟨Tryd.f131, _, _, Tryd.func131, some_of (by kernel_rfl), by kernel_rfl, link131, res131⟩
theorem ok98 : CodeOk 98 T.cmp_isNaN_int := ⟨Tryd.f98, _, _, Tryd.func98, some_of (by kernel_rfl), by kernel_rfl, link98, res98⟩
/-- The functions that are told, not run. -/
def toldFns : List Nat := [83]
def here : List Nat := have_ ++ toldFns
/-- Each function that the seat has is its text. -/
theorem code_all : ∀ p ∈ tab05, here.contains p.1 = true → CodeOk (sig.fn p.1) p.2 := by
  unfold tab05
  refine List.forall_mem_cons.2 ⟨fun _ => ok3, ?_⟩
  refine List.forall_mem_cons.2 ⟨fun _ => ok4, ?_⟩
  refine List.forall_mem_cons.2 ⟨fun _ => ok10, ?_⟩
  refine List.forall_mem_cons.2 ⟨fun _ => ok11, ?_⟩
  refine List.forall_mem_cons.2 ⟨fun _ => ok12, ?_⟩
  refine List.forall_mem_cons.2 ⟨fun _ => ok15, ?_⟩
  refine List.forall_mem_cons.2 ⟨fun _ => ok16, ?_⟩
  refine List.forall_mem_cons.2 ⟨fun _ => ok17, ?_⟩
  refine List.forall_mem_cons.2 ⟨fun _ => ok18, ?_⟩
  refine List.forall_mem_cons.2 ⟨fun _ => ok25, ?_⟩
  refine List.forall_mem_cons.2 ⟨fun _ => ok29, ?_⟩
  refine List.forall_mem_cons.2 ⟨fun _ => ok31, ?_⟩
  refine List.forall_mem_cons.2 ⟨fun _ => ok32, ?_⟩
  refine List.forall_mem_cons.2 ⟨fun _ => ok33, ?_⟩
  refine List.forall_mem_cons.2 ⟨fun _ => ok34, ?_⟩
  refine List.forall_mem_cons.2 ⟨fun _ => ok35, ?_⟩
  refine List.forall_mem_cons.2 ⟨fun _ => ok36, ?_⟩
  refine List.forall_mem_cons.2 ⟨fun _ => ok39, ?_⟩
  refine List.forall_mem_cons.2 ⟨fun _ => ok40, ?_⟩
  refine List.forall_mem_cons.2 ⟨fun _ => ok41, ?_⟩
  refine List.forall_mem_cons.2 ⟨fun _ => ok42, ?_⟩
  refine List.forall_mem_cons.2 ⟨fun _ => ok43, ?_⟩
  refine List.forall_mem_cons.2 ⟨fun _ => ok44, ?_⟩
  refine List.forall_mem_cons.2 ⟨fun _ => ok52, ?_⟩
  refine List.forall_mem_cons.2 ⟨fun _ => ok53, ?_⟩
  refine List.forall_mem_cons.2 ⟨fun _ => ok54, ?_⟩
  refine List.forall_mem_cons.2 ⟨fun _ => ok56, ?_⟩
  refine List.forall_mem_cons.2 ⟨fun _ => ok57, ?_⟩
  refine List.forall_mem_cons.2 ⟨fun _ => ok58, ?_⟩
  refine List.forall_mem_cons.2 ⟨fun _ => ok59, ?_⟩
  refine List.forall_mem_cons.2 ⟨fun _ => ok60, ?_⟩
  refine List.forall_mem_cons.2 ⟨fun _ => ok63, ?_⟩
  refine List.forall_mem_cons.2 ⟨fun _ => ok64, ?_⟩
  refine List.forall_mem_cons.2 ⟨fun _ => ok65, ?_⟩
  refine List.forall_mem_cons.2 ⟨fun _ => ok66, ?_⟩
  refine List.forall_mem_cons.2 ⟨fun _ => ok67, ?_⟩
  refine List.forall_mem_cons.2 ⟨fun _ => ok68, ?_⟩
  refine List.forall_mem_cons.2 ⟨fun _ => ok70, ?_⟩
  refine List.forall_mem_cons.2 ⟨fun _ => ok71, ?_⟩
  refine List.forall_mem_cons.2 ⟨fun _ => ok72, ?_⟩
  refine List.forall_mem_cons.2 ⟨fun _ => ok78, ?_⟩
  refine List.forall_mem_cons.2 ⟨fun _ => ok81, ?_⟩
  refine List.forall_mem_cons.2 ⟨fun _ => ok82, ?_⟩
  refine List.forall_mem_cons.2 ⟨fun _ => ok83, ?_⟩
  refine List.forall_mem_cons.2 ⟨fun _ => ok91, ?_⟩
  refine List.forall_mem_cons.2 ⟨fun _ => ok92, ?_⟩
  refine List.forall_mem_cons.2 ⟨fun _ => ok119, ?_⟩
  refine List.forall_mem_cons.2 ⟨fun _ => ok120, ?_⟩
  refine List.forall_mem_cons.2 ⟨fun _ => ok121, ?_⟩
  refine List.forall_mem_cons.2 ⟨fun _ => ok122, ?_⟩
  refine List.forall_mem_cons.2 ⟨fun _ => ok123, ?_⟩
  refine List.forall_mem_cons.2 ⟨fun _ => ok124, ?_⟩
  refine List.forall_mem_cons.2 ⟨fun _ => ok131, ?_⟩
  refine List.forall_mem_cons.2 ⟨fun _ => ok98, ?_⟩
  exact fun _ h => absurd h List.not_mem_nil
end Gc.Tryd
end
section
/-
  DERIVED: THE SHELF's CONTRACTS AT THIS DUMP, IN PLAIN WORDS (tools/lay-plain.mjs out of 'TrydJoinShelf.lean', which tools/lay-shelf.mjs wrote): THE SAME DECLARATIONS UNDER THE SAME NAMES: 'import', 'namespace', 'open', 'def', 'theorem' AND NOTHING ELSE: no command of the shelf's: FOR A HAND-IN. Each laying: the table of numbers ('.._ren') and one theorem, a field a fact of the dump's own or the kernel's comparison; each contract: ONE APPLICATION.
-/
namespace Go.Proofs
open Go.Shelf
def Tryd.lays156_ren : Go.Shelf.Ren := ⟨fun | 156 => 132 | 165 => 133 | 166 => 134 | 169 => 135 | 240 => 136 | 241 => 137 | 276 => 138 | 277 => 139 | n => n, fun | 31 => 51 | 9 => 9 | 3 => 3 | 4 => 4 | 0 => 0 | 20 => 20 | 72 => 173 | 76 => 177 | 70 => 171 | 37 => 61 | 75 => 176 | 127 => 156 | 164 => 179 | 5 => 5 | 80 => 79 | n => n, fun | n => n⟩
theorem Tryd.lays156 : Go.Proofs.Lays.n156 Tryd.prog Tryd.lays156_ren := {
  mixed := by kernel_rfl
  f156 := Tryd.func132.trans (congrArg some (by kernel_rfl))
  f165 := Tryd.func133.trans (congrArg some (by kernel_rfl))
  f166 := Tryd.func134.trans (congrArg some (by kernel_rfl))
  f169 := Tryd.func135.trans (congrArg some (by kernel_rfl))
  f240 := Tryd.func136.trans (congrArg some (by kernel_rfl))
  f241 := Tryd.func137.trans (congrArg some (by kernel_rfl))
  f276 := Tryd.func138.trans (congrArg some (by kernel_rfl))
  f277 := Tryd.func139.trans (congrArg some (by kernel_rfl))
  t0 := Tryd.underlying0
  a0 := Tryd.isAgg0
  z0 := Tryd.sizeOf0
  v0 := Tryd.zeroValue0
  t3 := Tryd.underlying3
  a3 := Tryd.isAgg3
  z3 := Tryd.sizeOf3
  v3 := Tryd.zeroValue3
  t4 := Tryd.underlying4
  a4 := Tryd.isAgg4
  z4 := Tryd.sizeOf4
  v4 := Tryd.zeroValue4
  t9 := Tryd.underlying9
  a9 := Tryd.isAgg9
  z9 := Tryd.sizeOf9
  v9 := Tryd.zeroValue9
  t20 := Tryd.underlying20
  a20 := Tryd.isAgg20
  z20 := Tryd.sizeOf20
  v20 := Tryd.zeroValue20
  t31 := Tryd.underlying51
  a31 := Tryd.isAgg51
  z31 := Tryd.sizeOf51
  v31 := Tryd.zeroValue51
  t37 := Tryd.underlying61
  a37 := Tryd.isAgg61
  z37 := Tryd.sizeOf61
  v37 := Tryd.zeroValue61
  t70 := Tryd.underlying171
  a70 := Tryd.isAgg171
  z70 := Tryd.sizeOf171
  v70 := Tryd.zeroValue171
  t72 := Tryd.underlying173
  a72 := Tryd.isAgg173
  z72 := Tryd.sizeOf173
  v72 := Tryd.zeroValue173
  t75 := Tryd.underlying176
  a75 := Tryd.isAgg176
  z75 := Tryd.sizeOf176
  v75 := Tryd.zeroValue176
  t76 := Tryd.underlying177
  a76 := Tryd.isAgg177
  z76 := Tryd.sizeOf177
  v76 := Tryd.zeroValue177
  t127 := Tryd.underlying156
  a127 := Tryd.isAgg156
  z127 := Tryd.sizeOf156
  v127 := Tryd.zeroValue156
  t164 := Tryd.underlying179
  a164 := Tryd.isAgg179
  z164 := Tryd.sizeOf179
  v164 := Tryd.zeroValue179 }
theorem Tryd.Builder_Extra_156 : Builder.Extra Tryd.prog Tryd.lays156_ren := {
  sizeBuilder := by kernel_rfl
  liesBuilder := by kernel_rfl
  t5 := Tryd.underlying5
  a5 := Tryd.isAgg5
  z5 := Tryd.sizeOf5
  v5 := Tryd.zeroValue5
  infoByte := by kernel_rfl
  cellsByte := by kernel_rfl
  sizeByte := by kernel_rfl
  neB5 := by decide }
open Go.RowKit in
/-- No element: the empty string; the world is as it was. (Whatever the slice's address and capacity: a nil slice too.) (LAID: no walk: one application.) -/
theorem Tryd.strings_Join_none (a : Option Addr) (c : Nat) (sep : ByteArray) (w : World) :
    Calls Tryd.prog 132 #[.slice a 0 c, .string sep] w fun e w' => e = .returned (.string ⟨#[]⟩) ∧ w' = w := Any.strings_Join_none Tryd.lays156 Tryd.Builder_Extra_156 a c sep w
open Go.RowKit in
/-- strings.Join: "Join concatenates the elements of its first argument to create a single string. The separator string sep is placed between elements in the resulting string.": HOWEVER MANY ELEMENTS. Below the heap's end the world is as it was. (LAID: no walk: one application.) -/
theorem Tryd.strings_Join (bk o c : Nat) (xs : List ByteArray) (sep : ByteArray) (w : World) (hcells : ∀ (j : Nat) x, xs[j]? = some x → w.cell? ⟨bk, o + j, none⟩ = some (.string x)) (hbk : bk < w.heap.size) (hN : xs.length ≤ 140737488355328) (hcap : xs.length ≤ c) (hlen : (Lib.join (xs.map (·.data.toList)) sep.data.toList).length ≤ 140737488355328) :
    Calls Tryd.prog 132 #[.slice (some ⟨bk, o, none⟩) xs.length c, .string sep] w fun e w' => e = .returned (.string ⟨(Lib.join (xs.map (·.data.toList)) sep.data.toList).toArray⟩) ∧ Below w.heap.size w w' := Any.strings_Join Tryd.lays156 Tryd.Builder_Extra_156 bk o c xs sep w hcells hbk hN hcap hlen
end Go.Proofs
end
section
/- The seat's program bears out the texts: EnvOk, and what the law's functions come to in the model. -/
set_option linter.unusedVariables false
set_option linter.unusedSimpArgs false
namespace Gc.Tryd
open Go Go.Proofs Go.RowKit
section
variable {P : Program} {S : Sig} {B : Nat} {μ : Place} {h : Heap} {w : World}
/-! ### Methods -/
def methRow (P : Program) (t : TypeId) (name : String) : Option (List (TypeId × Nat × Bool) × Option (FuncId × Bool)) :=
  (P.info? t).bind fun i => (i.methods.find? fun m => m.name == name).map fun m => (m.path.toList.map fun s => (s.struct, s.index, s.deref), m.func)
theorem meth_own {t : TypeId} {name : String} {f : FuncId} {d : TypeDesc} (h : methRow P t name = some ([], some (f, false))) (hd : P.underlying t = some d) (hp : ∀ e, d ≠ .pointer e) {n : Nat} (hn : 0 < n) (v : Value) :
    (method n t v name).run P w = .ok (f, v) w := by
  obtain ⟨n, rfl⟩ : ∃ m, n = m + 1 := ⟨n - 1, by omega⟩
  simp only [methRow, Option.bind_eq_some_iff, Option.map_eq_some_iff, Prod.mk.injEq, List.map_eq_nil_iff] at h
  obtain ⟨i, hi, m, hm, hpath, hfun⟩ := h
  have hr : (receiverAt t (.val v) false (if m.path.isEmpty then some ((name.splitOn ".").getLastD name) else none)).run P w = .ok v w := by
    unfold receiverAt
    simp only [Sem.run_bind, run_underlying hd, Result.andThen_ok]
    cases d <;> first | (exact absurd rfl (hp _)) | simp [Place.get]
  simp only [method, Sem.run_bind, run_typeInfo w hi, Result.andThen_ok, hm, hpath, follow, Sem.run_pure, hfun, hr]
theorem meth_sub {t : TypeId} {name : String} {f : FuncId} {fs : Array Field} {fl : Field} {k : CK} (h : methRow P t name = some ([(t, 0, false)], some (f, false))) (hd : P.underlying t = some (.struct fs)) (hf : fs[0]? = some fl) (ho : fl.offset = 0) (hk : ckOf P fl.type = some k)
    {n : Nat} (hn : 0 < n) {cs : Array Value} {u : Value} (hc : cs[0]? = some u) : (method n t (.agg cs) name).run P w = .ok (f, u) w := by
  obtain ⟨n, rfl⟩ : ∃ m, n = m + 1 := ⟨n - 1, by omega⟩
  simp only [methRow, Option.bind_eq_some_iff, Option.map_eq_some_iff, Prod.mk.injEq] at h
  obtain ⟨i, hi, m, hm, hpath, hfun⟩ := h
  obtain ⟨s, hs, hs2⟩ : ∃ s, m.path.toList = [s] ∧ (s.struct, s.index, s.deref) = (t, 0, false) := by
    match hx : m.path.toList with
    | [] => rw [hx] at hpath; cases hpath
    | [s] => rw [hx] at hpath; exact ⟨s, rfl, by simpa using hpath⟩
    | _ :: _ :: _ => rw [hx] at hpath; simp at hpath
  simp only [Prod.mk.injEq] at hs2
  obtain ⟨h1, h2, h3⟩ := hs2
  have hpart : (Go.part fl.type cs fl.offset).run P w = .ok u w := part_cell hk (by rw [ho]; exact hc)
  have hfo : (follow [s] t (.val (.agg cs))).run P w = .ok (fl.type, .val u) w := by
    simp only [follow, Sem.run_bind, h1, run_underlying hd, Result.andThen_ok, h2, hf, h3, Bool.false_eq_true, if_false, hpart, Sem.run_pure]
  have hr : (receiverAt fl.type (.val u) false (if m.path.isEmpty then some ((name.splitOn ".").getLastD name) else none)).run P w = .ok u w := by
    unfold receiverAt
    cases hu : P.underlying fl.type with
    | none => simp [ckOf, hu] at hk
    | some d =>
      simp only [Sem.run_bind, run_underlying hu, Result.andThen_ok]
      cases d <;> first | (simp [Place.get]; done) | (simp [ckOf, hu] at hk)
  simp only [method, Sem.run_bind, run_typeInfo w hi, Result.andThen_ok, hm, hs, hfo, hfun, hr, Sem.run_pure]
end
/-! ### Joining strings -/
theorem join_eq : ∀ (l : List (List UInt8)) (sep : List UInt8), Lib.join l sep = joinBytes sep l
  | [], sep => rfl
  | [s], sep => by rw [Lib.join_one]; rfl
  | s :: t :: r, sep => by
    have h1 := Lib.join_cons s (t :: r) sep
    have h2 := Lib.join_cons t r sep
    rw [h1]
    have h3 : joinBytes sep (s :: t :: r) = s ++ sep ++ joinBytes sep (t :: r) := rfl
    rw [h3, ← join_eq (t :: r) sep, h2]
    simp [Lib.joinTail]
theorem asStrs_some : ∀ {cs : List Val} {l : List (List UInt8)}, asStrs cs = some l → cs = l.map .str
  | [], l, h => by simp only [asStrs, Option.some.injEq] at h; subst h; rfl
  | .str s :: r, l, h => by
    simp only [asStrs, Option.map_eq_some_iff] at h
    obtain ⟨l', h, rfl⟩ := h
    rw [asStrs_some h]; rfl
  | .undef :: r, l, h | .bool _ :: r, l, h | .int _ _ :: r, l, h | .nilp :: r, l, h | .ptr _ _ :: r, l, h | .nils :: r, l, h | .slice _ _ _ _ :: r, l, h | .fn _ _ :: r, l, h | .nilf :: r, l, h | .iface _ _ :: r, l, h | .nili :: r, l, h | .agg _ :: r, l, h | .tup _ :: r, l, h => by simp [asStrs] at h
theorem isFn_join : IsFn Tryd.prog 132 := by
  refine ⟨_, Tryd.func132, by kernel_rfl, by kernel_rfl⟩
theorem join_post {B : Nat} {μ : Place} {h : Heap} {w : World} {v : Val} {u : Value} (H : HRel sig B μ h w) (hv : VRel sig μ v u) {e : Ending} {w' : World} (he : e = .returned u) (hw : Below w.heap.size w w') : CPost sig B μ (.ret v) h w e w' :=
  ⟨μ, Ext.refl _, H.later hw.size hw.block, hw.mono H.base, by subst he; exact hv⟩
theorem join_told {B : Nat} {μ : Place} {h : Heap} {w : World} {args : List Val} {v : Val} {vargs : List Value} (ht : joinV h args = some v) (hv : VRels sig μ args vargs) (H : HRel sig B μ h w) :
    Calls Tryd.prog 132 vargs.toArray w (CPost sig B μ (.ret v) h w) := by
  match args, ht, hv with
  | [a, .str sep], ht, hv =>
    simp only [VRels] at hv
    obtain ⟨ua, l', rfl, hva, us, l'', rfl, hvs, rfl⟩ := hv
    simp only [VRel] at hvs
    subst hvs
    simp only [joinV] at ht
    split at ht
    · cases ht
    rename_i hns
    cases hs : spread h 1 a with
    | none => simp [hs] at ht
    | some q =>
      obtain ⟨n, cs⟩ := q
      simp only [hs, Option.bind_eq_some_iff] at ht
      obtain ⟨l, hl, ht⟩ := ht
      split at ht
      case isFalse => cases ht
      rename_i hlen
      simp only [Option.some.injEq] at ht
      subst ht
      have hcs := asStrs_some hl
      have none_case : ∀ (a' : Option Addr) (c : Nat), ua = .slice a' 0 c → l = [] → Calls Tryd.prog 132 #[ua, .string ⟨sep.toArray⟩] w (CPost sig B μ (.ret (.str (joinBytes sep l))) h w) := by
        rintro a' c rfl rfl
        refine (Tryd.strings_Join_none a' c _ w).mono fun e w' hh => ?_
        obtain ⟨he, hw⟩ := hh
        subst hw
        exact join_post H (by simp [VRel, joinBytes]) he (Below.refl _ _)
      have some_case : ∀ (k o c : Nat) (p : Plc), μ k = some p → ua = .slice (some ⟨p.blk, p.off + o, none⟩) n c → n ≤ c → spread h 1 a = spread h 1 (.slice k o n none) → n ≠ 0 → Calls Tryd.prog 132 #[ua, .string ⟨sep.toArray⟩] w (CPost sig B μ (.ret (.str (joinBytes sep l))) h w) := by
        rintro k o c p hp rfl hnc hs2 hn0
        rw [hs] at hs2
        simp only [spread, if_neg hn0] at hs2
        cases hg : h.get k with
        | none => simp [hg] at hs2
        | some b =>
          simp only [hg] at hs2
          split at hs2
          case isFalse => cases hs2
          rename_i hfit
          simp only [Option.some.injEq, Prod.mk.injEq, true_and, Nat.mul_one] at hs2
          obtain ⟨p', hp', hB⟩ := H.blk k b hg
          obtain rfl : p = p' := Option.some.inj (hp.symm.trans hp')
          have hnl : n = l.length := by
            have := congrArg List.length hs2
            rw [hcs] at this
            simp at this
            omega
          subst hnl
          have key := Tryd.strings_Join p.blk (p.off + o) c (l.map fun s => ⟨s.toArray⟩) ⟨sep.toArray⟩ w ?_ (H.old k p hp) (by simp; omega) (by simpa using hnc) (by simp only [List.map_map, Function.comp_def, List.map_id', join_eq]; omega)
          · simp only [List.length_map, List.map_map, Function.comp_def, List.map_id', join_eq] at key
            refine key.mono fun e w' hh => ?_
            exact join_post H (by simp [VRel]) hh.1 hh.2
          · intro j x hx
            simp only [List.getElem?_map, Option.map_eq_some_iff] at hx
            obtain ⟨s, hx, rfl⟩ := hx
            have hj : b.cells[o + j]? = some (.str s) := by
              have : cs[j]? = some (.str s) := by rw [hcs]; simp [hx]
              rw [hs2, List.getElem?_take] at this
              split at this
              · rw [List.getElem?_drop] at this; exact this
              · cases this
            obtain ⟨v', h1, h2⟩ := hB.cells _ _ hj
            simp only [VRel] at h2
            subst h2
            rw [Nat.add_assoc]
            exact h1
      cases a with
      | nils =>
        simp only [VRel] at hva
        simp only [spread, Option.some.injEq, Prod.mk.injEq] at hs
        obtain ⟨rfl, rfl⟩ := hs
        exact none_case none 0 hva (by simpa [asStrs, eq_comm] using hl)
      | slice k o n' co =>
        have hn : n = n' := by
          simp only [spread] at hs
          split at hs
          · rename_i e; simp only [Option.some.injEq, Prod.mk.injEq] at hs; omega
          · split at hs
            · split at hs
              · simp only [Option.some.injEq, Prod.mk.injEq] at hs; exact hs.1.symm
              · cases hs
            · cases hs
        subst hn
        have hl0 : n = 0 → l = [] := by
          rintro rfl
          simp only [spread, if_true, Option.some.injEq, Prod.mk.injEq, true_and] at hs
          subst hs
          simpa [asStrs, eq_comm] using hl
        cases co with
        | some c =>
          simp only [VRel] at hva
          obtain ⟨p, a', hp, rfl, hnc, hor⟩ := hva
          by_cases hn0 : n = 0
          · have := hl0 hn0; subst hn0; exact none_case _ _ rfl this
          · rcases hor with rfl | rfl
            · omega
            · exact some_case k o c p hp rfl hnc rfl hn0
        | none =>
          simp only [VRel] at hva
          obtain ⟨p, a', c, hp, rfl, hnc, hor⟩ := hva
          by_cases hn0 : n = 0
          · have := hl0 hn0; subst hn0; exact none_case _ _ rfl this
          · rcases hor with rfl | ⟨rfl, _⟩
            · omega
            · exact some_case k o c p hp rfl hnc rfl hn0
      | str s => exact absurd rfl hns
      | _ => simp [spread] at hs
/-! ### The methods of the seat -/
def envOf (T : Tabs) : Env := T.env here
theorem fuel_pos : 0 < Tryd.prog.types.size + Made.depth := by unfold Made.depth; omega
theorem row00 : methRow Tryd.prog 96 "droveway/breed.text" = some ([], some (120, false)) := by kernel_rfl
theorem row01 : methRow Tryd.prog 96 "droveway/breed.beasts" = some ([(96, 0, false)], some (119, false)) := by kernel_rfl
theorem row10 : methRow Tryd.prog 111 "droveway/breed.text" = some ([], some (131, false)) := by kernel_rfl
theorem row11 : methRow Tryd.prog 111 "droveway/breed.beasts" = some ([(111, 0, false)], some (119, false)) := by kernel_rfl
theorem setField : ((Tryd.prog.underlying 96).bind fun d => match d with | .struct fs => (fs[0]?).bind fun fl => if fl.offset = 0 then ckOf Tryd.prog fl.type else none | _ => none).isSome = true := by kernel_rfl
theorem setField' : ((Tryd.prog.underlying 111).bind fun d => match d with | .struct fs => (fs[0]?).bind fun fl => if fl.offset = 0 then ckOf Tryd.prog fl.type else none | _ => none).isSome = true := by kernel_rfl
theorem struct_of {t : TypeId} (h : ((Tryd.prog.underlying t).bind fun d => match d with | .struct fs => (fs[0]?).bind fun fl => if fl.offset = 0 then ckOf Tryd.prog fl.type else none | _ => none).isSome = true) :
    ∃ fs fl k, Tryd.prog.underlying t = some (.struct fs) ∧ fs[0]? = some fl ∧ fl.offset = 0 ∧ ckOf Tryd.prog fl.type = some k := by
  obtain ⟨k, hk⟩ := Option.isSome_iff_exists.1 h
  rw [Option.bind_eq_some_iff] at hk
  obtain ⟨d, hd, hk⟩ := hk
  cases d <;> simp only [reduceCtorEq] at hk
  rename_i fs
  rw [Option.bind_eq_some_iff] at hk
  obtain ⟨fl, hf, hk⟩ := hk
  split at hk
  · rename_i ho; exact ⟨fs, fl, k, hd, hf, ho, hk⟩
  · cases hk
theorem meth_ok {T : Tabs} (hT : T.meth = meth05) : MethodOk Tryd.prog sig inv (envOf T) := by
  intro t name f pt hm μ w x u v hx hu
  have hm : (match T.meth.lookup (t, inv.meth name) with | some (f, pt) => if here.contains f = true then some (f, pt) else none | none => none) = some (f, pt) := hm
  rw [hT] at hm
  have hname : ∀ (i : Nat) (s : String), inv.meth name = i → meths[i]? = some s → name = s := by
    intro i s h1 h2
    have h1 : meths.idxOf name = i := h1
    have hi : i < meths.length := (List.getElem?_eq_some_iff.1 h2).1
    have := List.getElem_idxOf (x := name) (xs := meths) (by rw [h1]; exact hi)
    subst h1
    rw [List.getElem?_eq_getElem hi] at h2
    exact this.symm.trans (Option.some.inj h2)
  have own : ∀ (ty : TypeId) (g : FuncId) (s : String), methRow Tryd.prog ty s = some ([], some (g, false)) → ((Tryd.prog.underlying ty).bind fun d => match d with | .struct fs => (fs[0]?).bind fun fl => if fl.offset = 0 then ckOf Tryd.prog fl.type else none | _ => none).isSome = true →
      (method (Tryd.prog.types.size + Made.depth) ty v s).run Tryd.prog w = .ok (g, v) w := by
    intro ty g s h1 h2
    obtain ⟨fs, fl, k, hd, _⟩ := struct_of h2
    exact meth_own h1 hd (fun e h => by cases h) fuel_pos v
  have sub : ∀ (ty : TypeId) (g : FuncId) (s : String), methRow Tryd.prog ty s = some ([(ty, 0, false)], some (g, false)) → ((Tryd.prog.underlying ty).bind fun d => match d with | .struct fs => (fs[0]?).bind fun fl => if fl.offset = 0 then ckOf Tryd.prog fl.type else none | _ => none).isSome = true →
      part false 0 1 x = some u → ∃ uv, (method (Tryd.prog.types.size + Made.depth) ty v s).run Tryd.prog w = .ok (g, uv) w ∧ VRel sig μ u uv := by
    intro ty g s h1 h2 hu
    clear hm
    obtain ⟨fs, fl, k, hd, hf, ho, hk⟩ := struct_of h2
    simp only [part] at hu
    cases x <;> simp only [reduceCtorEq] at hu
    rename_i cs hu0
    split at hu
    case isFalse => cases hu
    rename_i hl
    simp only [List.drop_zero] at hu
    simp only [VRel] at hx
    obtain ⟨cs', rfl, hcs⟩ := hx
    cases cs with
    | nil => simp at hl
    | cons c cs =>
      simp only [List.take_succ_cons, List.take_zero, Val.ofCells] at hu
      obtain ⟨v', h3, h4⟩ := hcs.get (i := 0) (x := c) rfl
      refine ⟨v', meth_sub h1 hd hf ho hk fuel_pos (by simpa using h3), ?_⟩
      first
        | (obtain rfl := Option.some.inj hu; exact h4)
        | (simp at hu; subst hu; exact h4)
        | (simp at hu; obtain ⟨_, rfl⟩ := hu; exact h4)
  have key : (t = 0 ∧ inv.meth name = 0 ∧ f = F.breed_beast_text ∧ pt = none) ∨ (t = 0 ∧ inv.meth name = 1 ∧ f = F.breed_set_beasts ∧ pt = some (false, 0, 1)) ∨ (t = 1 ∧ inv.meth name = 0 ∧ f = F.breed_family_text ∧ pt = none) ∨ (t = 1 ∧ inv.meth name = 1 ∧ f = F.breed_set_beasts ∧ pt = some (false, 0, 1)) := by
    generalize inv.meth name = mi at hm
    split at hm
    case h_2 => cases hm
    rename_i f' pt' hl
    split at hm
    case isFalse => cases hm
    simp only [Option.some.injEq, Prod.mk.injEq] at hm
    obtain ⟨rfl, rfl⟩ := hm
    simp only [meth05, List.lookup_cons] at hl
    repeat' split at hl
    all_goals first | (cases hl; done) | skip
    all_goals simp_all
  rcases key with ⟨rfl, h1, rfl, rfl⟩ | ⟨rfl, h1, rfl, rfl⟩ | ⟨rfl, h1, rfl, rfl⟩ | ⟨rfl, h1, rfl, rfl⟩
  · obtain rfl := hname 0 _ h1 rfl
    obtain rfl : x = u := Option.some.inj hu
    exact ⟨v, own 96 120 _ row00 setField, hx⟩
  · obtain rfl := hname 1 _ h1 rfl
    exact sub 96 119 _ row01 setField hu
  · obtain rfl := hname 0 _ h1 rfl
    obtain rfl : x = u := Option.some.inj hu
    exact ⟨v, own 111 131 _ row10 setField', hx⟩
  · obtain rfl := hname 1 _ h1 rfl
    exact sub 111 119 _ row11 setField' hu
/-! ### The seat bears out the texts -/
theorem lookup_mem {β : Type} : ∀ {l : List (Nat × β)} {k : Nat} {b : β}, l.lookup k = some b → (k, b) ∈ l
  | [], k, b, h => by simp at h
  | (a, c) :: l, k, b, h => by
    rw [List.lookup_cons] at h
    split at h
    · rename_i e
      simp only [Option.some.injEq] at h
      have := beq_iff_eq.1 e
      subst this; subst h
      simp
    · exact List.mem_cons_of_mem _ (lookup_mem h)
theorem env_code {T : Tabs} (hT : T.code = tab05) (f : Nat) (fn : Fun) (h : (envOf T).code f = some fn) : ∃ gf body hints, Tryd.prog.funcs[sig.fn f]? = some gf ∧ gf.body = some body ∧ (gf.name == "runtime.NumGoroutine") = false ∧ cCode Tryd.prog sig inv gf.ntmps hints body = some fn.body ∧ cRVs Tryd.prog gf.results.toList = some fn.results := by
  have h : (if here.contains f = true then T.code.lookup f else none) = some fn := h
  split at h
  case isFalse => cases h
  rename_i hc
  rw [hT] at h
  exact code_all (f, fn) (lookup_mem h) hc
theorem join_ok {B : Nat} {args : List Val} {h : Heap} {v : Val} {vargs : List Value} {μ : Place} {w : World} (ht : joinV h args = some v) (hv : VRels sig μ args vargs) (H : HRel sig B μ h w) :
    IsFn Tryd.prog (sig.fn F.strings_Join) ∧ Calls Tryd.prog (sig.fn F.strings_Join) vargs.toArray w (CPost sig B μ (.ret v) h w) :=
  ⟨isFn_join, join_told ht hv H⟩
/-- With nothing told of 'alive'. -/
theorem env_ok' (B : Nat) : EnvOk Tryd.prog sig inv B (envOf tabs05') where
  mixed := by kernel_rfl
  meth := meth_ok rfl
  code := env_code rfl
  told := by
    intro f args h v ht vargs μ w he hv H
    replace ht : (if here.contains f = true then (if f = F.strings_Join then joinV h args else none) else none) = some v := ht
    split at ht
    case isFalse => cases ht
    split at ht
    case isFalse => cases ht
    rename_i e
    subst e
    exact join_ok ht hv H
set_option maxRecDepth 1000000 in
theorem alive_closed : retTrue (callN (envOf tabs05') 3000 2 F.law05_alive [] heapT) = true := by decide +kernel
theorem isBytes_eq : ∀ {cs : List Val} {l : List Nat}, isBytes cs l = true → cs = bytesOf l
  | [], [], _ => rfl
  | [], m :: l, h => by simp [isBytes] at h
  | c :: r, [], h => by cases c <;> simp [isBytes] at h
  | c :: r, m :: l, h => by
    cases c with
    | int k n =>
      cases k with
      | u8 =>
        simp only [isBytes, Bool.and_eq_true, beq_iff_eq] at h
        rw [h.1, isBytes_eq h.2]
        rfl
      | _ => simp [isBytes] at h
    | _ => simp [isBytes] at h
theorem tabOk_get {h : Heap} {k : Nat} {l : List Nat} (e : tabOk h k l = true) : ∃ b, h.get k = some b ∧ b.cells = bytesOf l := by
  unfold tabOk at e
  split at e
  · rename_i b hb; exact ⟨b, hb, isBytes_eq e⟩
  · cases e
theorem base_lt (k : Nat) (p : Plc) (h : sig.base k = some p) : k < 2 := by
  have h : ((globs.find? fun q => q.2 == k).map fun q => (⟨q.1, 0, 0, 0⟩ : Plc)) = some p := h
  rw [Option.map_eq_some_iff] at h
  obtain ⟨q, hq, _⟩ := h
  have h1 := List.mem_of_find?_eq_some hq
  have h2 := List.find?_some hq
  simp only [beq_iff_eq] at h2
  subst h2
  simp only [globs, List.mem_cons, List.not_mem_nil, or_false] at h1
  rcases h1 with rfl | rfl <;> decide
theorem isFn_alive : IsFn Tryd.prog (sig.fn F.law05_alive) := by
  obtain ⟨gf, body, _, h1, h2, h3, _⟩ := env_code (T := tabs05') rfl F.law05_alive T.law05_alive rfl
  exact ⟨gf, h1, by simp [h2], h3⟩
theorem alive_ok {B : Nat} {h : Heap} {vargs : List Value} {μ : Place} {w : World} (h0 : tabOk h 0 tab32 = true) (h1 : tabOk h 1 tab64 = true) (he : Ext sig.base μ) (hv : VRels sig μ [] vargs) (H : HRel sig B μ h w) :
    Calls Tryd.prog (sig.fn F.law05_alive) vargs.toArray w (CPost sig B μ (.ret (.bool true)) h w) := by
  obtain ⟨b0, g0, c0⟩ := tabOk_get h0
  obtain ⟨b1, g1, c1⟩ := tabOk_get h1
  obtain ⟨p0, m0, B0⟩ := H.blk 0 b0 g0
  obtain ⟨p1, m1, B1⟩ := H.blk 1 b1 g1
  have gT : ∀ k b, heapT.get k = some b → (k = 0 ∧ b = ⟨bytesOf tab32, false, 1⟩) ∨ (k = 1 ∧ b = ⟨bytesOf tab64, false, 1⟩) := by
    intro k b hk
    simp only [heapT, Heap.get] at hk
    split at hk
    · rename_i e; simp only [Option.some.injEq] at hk; exact .inr ⟨e.symm, hk.symm⟩
    · split at hk
      · rename_i e; simp only [Option.some.injEq] at hk; exact .inl ⟨e.symm, hk.symm⟩
      · cases hk
  have H0 : HRel sig w.heap.size (fun k => if k < 2 then μ k else none) heapT w := by
    refine ⟨Nat.le_refl _, fun k hk => ?_, fun k hk => ?_, fun k p hk => ?_, fun k b hk => ?_, fun j k bj bk pj pk _ hj _ hr => ?_⟩
    · have hk : 2 ≤ k := hk
      simp only [heapT, Heap.get]
      rw [if_neg (by omega), if_neg (by omega)]
    · simp only [heapT, Heap.get] at hk
      split at hk
      · cases hk
      · split at hk
        · cases hk
        · show (if k < 2 then μ k else none) = none
          rw [if_neg (by omega)]
    · have hk : (if k < 2 then μ k else none) = some p := hk
      split at hk
      · exact H.old k p hk
      · cases hk
    · rcases gT k b hk with ⟨rfl, rfl⟩ | ⟨rfl, rfl⟩
      · refine ⟨p0, by simpa using m0, fun i c hc => ?_, fun hr => by cases hr⟩
        obtain ⟨v, h1, h2⟩ := B0.cells i c (by rw [c0]; exact hc)
        have hc : (bytesOf tab32)[i]? = some c := hc
        simp only [bytesOf, List.getElem?_map, Option.map_eq_some_iff] at hc
        obtain ⟨n, _, rfl⟩ := hc
        simp only [VRel] at h2
        exact ⟨v, h1, by simp only [VRel]; exact h2⟩
      · refine ⟨p1, by simpa using m1, fun i c hc => ?_, fun hr => by cases hr⟩
        obtain ⟨v, h1, h2⟩ := B1.cells i c (by rw [c1]; exact hc)
        have hc : (bytesOf tab64)[i]? = some c := hc
        simp only [bytesOf, List.getElem?_map, Option.map_eq_some_iff] at hc
        obtain ⟨n, _, rfl⟩ := hc
        simp only [VRel] at h2
        exact ⟨v, h1, by simp only [VRel]; exact h2⟩
    · rcases gT j bj hj with ⟨_, rfl⟩ | ⟨_, rfl⟩ <;> cases hr
  have hx : ∃ h', callN (envOf tabs05') 3000 2 F.law05_alive [] heapT = some (.ret (.bool true), h') := by
    have := alive_closed
    generalize callN (envOf tabs05') 3000 2 F.law05_alive [] heapT = r at this
    unfold retTrue at this
    split at this
    · subst this; exact ⟨_, rfl⟩
    · cases this
  obtain ⟨h', hx⟩ := hx
  have key := env_sound (env_ok' w.heap.size) 3000 2 F.law05_alive [] heapT (.ret (.bool true)) h' vargs _ w (by decide) hx (fun k p hk => by
    show (if k < 2 then μ k else none) = some p
    rw [if_pos (base_lt k p hk)]
    exact he k p hk) (by simpa [VRels] using hv) H0
  refine key.2.mono fun e w' hh => ?_
  obtain ⟨μ', _, _, hb, hr⟩ := hh
  refine ⟨μ, Ext.refl _, H.later hb.size hb.block, hb.mono H.base, ?_⟩
  cases e <;> simp only [ResRel] at hr ⊢
  simpa [VRel] using hr
theorem env_ok (B : Nat) : EnvOk Tryd.prog sig inv B (envOf tabs05) where
  mixed := by kernel_rfl
  meth := meth_ok rfl
  code := env_code rfl
  told := by
    intro f args h v ht vargs μ w he hv H
    replace ht : (if here.contains f = true then (if f = F.strings_Join then joinV h args else if f = F.law05_alive then (if args.isEmpty && (tabOk h 0 tab32 && tabOk h 1 tab64) then some (.bool true) else none) else none) else none) = some v := ht
    split at ht
    case isFalse => cases ht
    by_cases e : f = F.strings_Join
    · subst e
      rw [if_pos rfl] at ht
      exact join_ok ht hv H
    · rw [if_neg e] at ht
      by_cases e : f = F.law05_alive
      · subst e
        rw [if_pos rfl] at ht
        by_cases e3 : (args.isEmpty && (tabOk h 0 tab32 && tabOk h 1 tab64)) = true
        · rw [if_pos e3] at ht
          rw [Bool.and_eq_true, Bool.and_eq_true] at e3
          obtain ⟨e4, h0, h1⟩ := e3
          obtain rfl := List.isEmpty_iff.1 e4
          obtain rfl := Option.some.inj ht
          exact ⟨isFn_alive, alive_ok h0 h1 he hv H⟩
        · rw [if_neg e3] at ht
          cases ht
      · rw [if_neg e] at ht
        cases ht
end Gc.Tryd
end
section
/- From a law's function that returns true in Gc to its row: how the arguments read, and what is asked behind the call. -/
set_option linter.unusedVariables false
set_option maxRecDepth 100000
set_option linter.unusedSimpArgs false
namespace Gc.Tryd
open Go Go.Proofs Go.RowKit Go.ChangeShapes Go.WideShapes Go.ChangeAt
/-! ### The tables -/
theorem own : ownKnob Tryd.prog.godebug = none := by kernel_rfl
theorem laidOut : laidOutB Tryd.prog = true := by kernel_rfl
theorem gTab32 : Tryd.prog.globalNamed "math/bits.deBruijn32tab" = some 0 := by kernel_rfl
theorem gTab64 : Tryd.prog.globalNamed "math/bits.deBruijn64tab" = some 1 := by kernel_rfl
theorem gType32 : (Tryd.prog.globals[0]?).map (·.type) = some 142 := by kernel_rfl
theorem gType64 : (Tryd.prog.globals[1]?).map (·.type) = some 143 := by kernel_rfl
theorem cellsB : Tryd.prog.cellsOf 5 = 1 := by kernel_rfl
theorem cells32 : Tryd.prog.cellsOf 142 = 32 := by kernel_rfl
theorem cells64 : Tryd.prog.cellsOf 143 = 64 := by kernel_rfl
theorem cellsI : Tryd.prog.cellsOf 3 = 1 := by kernel_rfl
theorem cellsT : Tryd.prog.cellsOf 31 = 3 := by kernel_rfl
def ints (l : List Nat) : List Int := l.map fun (n : Nat) => (n : Int)
def laidTabs : List (String × DataW Unit) := [("math/bits.deBruijn32tab", Lib.tabData .u8 (ints tab32)), ("math/bits.deBruijn64tab", Lib.tabData .u8 (ints tab64))]
theorem laid_tail {P : Program} {W : World} {x : String × DataW Unit} {rest : List (String × DataW Unit)} (h : laidMet P (x :: rest) W) : laidMet P rest W := by
  obtain ⟨n, d⟩ := x
  obtain ⟨ps, ⟨g, t, cs, fuel, p, q, _, _, _, _, hr, rfl⟩, hn, hc⟩ := h
  exact ⟨q, hr, (List.nodup_append.1 hn).2.1, fun b off hm => hc b off (by simp [hm])⟩
theorem tabs_of {W : World} (h : laidMetH Tryd.prog laidTabs W) : Lib.TabIs Tryd.prog W "math/bits.deBruijn32tab" .u8 (ints tab32) ∧ Lib.TabIs Tryd.prog W "math/bits.deBruijn64tab" .u8 (ints tab64) := by
  have h : laidMet Tryd.prog laidTabs W := h
  exact ⟨Lib.tabIs_of_head gTab32 gType32 Tryd.underlying142 Tryd.underlying5 cellsB cells32 h, Lib.tabIs_of_head (rest := []) gTab64 gType64 Tryd.underlying143 Tryd.underlying5 cellsB cells64 (laid_tail h)⟩
/-! ### The heap that a call begins with -/
def heapOf (cs : List Val) : Heap := [(2, some ⟨cs, false, 3⟩), (1, some ⟨bytesOf tab64, false, 1⟩), (0, some ⟨bytesOf tab32, false, 1⟩)]
def placeOf (p : Plc) : Place := fun k => if k = 2 then some p else if k = 1 then some ⟨1, 0, 0, 0⟩ else if k = 0 then some ⟨0, 0, 0, 0⟩ else none
theorem heapOf_wf (cs : List Val) : (heapOf cs).Wf := by
  intro k hk
  have hk : 3 ≤ k := hk
  simp only [heapOf, Heap.get]
  rw [if_neg (by omega), if_neg (by omega), if_neg (by omega)]
theorem heapOf_tables (cs : List Val) : Tables (heapOf cs) := ⟨⟨_, rfl, rfl⟩, ⟨_, rfl, rfl⟩⟩
theorem base_ext (p : Plc) : Ext sig.base (placeOf p) := by
  intro k q h
  have hk := base_lt k q h
  match k, hk with
  | 0, _ => have h : some (⟨0, 0, 0, 0⟩ : Plc) = some q := h; exact h
  | 1, _ => have h : some (⟨1, 0, 0, 0⟩ : Plc) = some q := h; exact h
theorem heapOf_rel {W : World} (hL : laidMetH Tryd.prog laidTabs W) {cs : List Val} {p : Plc} (hp : p.blk < W.heap.size) (hc : ∀ i c, cs[i]? = some c → ∃ v, W.cell? ⟨p.blk, p.off + i, none⟩ = some v ∧ VRel sig (placeOf p) c v) :
    HRel sig W.heap.size (placeOf p) (heapOf cs) W := by
  obtain ⟨h32, h64⟩ := tabs_of hL
  have tab : ∀ (name : String) (g : Nat) (l : List Nat), Lib.TabIs Tryd.prog W name .u8 (ints l) → Tryd.prog.globalNamed name = some g → ∀ i c, (bytesOf l)[i]? = some c → ∃ v, W.cell? ⟨g, 0 + i, none⟩ = some v ∧ VRel sig (placeOf p) c v := by
    intro name g l ht hg i c hc
    simp only [bytesOf, List.getElem?_map, Option.map_eq_some_iff] at hc
    obtain ⟨n, hn, rfl⟩ := hc
    have hi : i < l.length := (List.getElem?_eq_some_iff.1 hn).1
    have := ht.cell hg i (by simpa [ints] using hi)
    rw [Nat.zero_add]
    refine ⟨_, this, ?_⟩
    simp only [VRel]
    congr 1
    simp [ints, List.getD, hn]
  have old : ∀ g, (∃ v, W.cell? ⟨g, 0 + 0, none⟩ = some v) → g < W.heap.size := by
    rintro g ⟨v, hv⟩
    rcases Nat.lt_or_ge g W.heap.size with h | h
    · exact h
    · simp [World.cell?, Array.getElem?_eq_none h] at hv
  have g0 := old 0 (by obtain ⟨v, h, _⟩ := tab _ 0 tab32 h32 gTab32 0 _ rfl; exact ⟨v, h⟩)
  have g1 := old 1 (by obtain ⟨v, h, _⟩ := tab _ 1 tab64 h64 gTab64 0 _ rfl; exact ⟨v, h⟩)
  have gT : ∀ k b, (heapOf cs).get k = some b → (k = 0 ∧ b = ⟨bytesOf tab32, false, 1⟩) ∨ (k = 1 ∧ b = ⟨bytesOf tab64, false, 1⟩) ∨ (k = 2 ∧ b = ⟨cs, false, 3⟩) := by
    intro k b hk
    simp only [heapOf, Heap.get] at hk
    split at hk
    · rename_i e; simp only [Option.some.injEq] at hk; exact .inr (.inr ⟨e.symm, hk.symm⟩)
    · split at hk
      · rename_i e; simp only [Option.some.injEq] at hk; exact .inr (.inl ⟨e.symm, hk.symm⟩)
      · split at hk
        · rename_i e; simp only [Option.some.injEq] at hk; exact .inl ⟨e.symm, hk.symm⟩
        · cases hk
  refine ⟨Nat.le_refl _, heapOf_wf cs, fun k hk => ?_, fun k q hk => ?_, fun k b hk => ?_, fun j k bj bk pj pk _ hj _ hr => ?_⟩
  · simp only [heapOf, Heap.get] at hk
    split at hk
    · cases hk
    · split at hk
      · cases hk
      · split at hk
        · cases hk
        · simp only [placeOf]
          rw [if_neg (by omega), if_neg (by omega), if_neg (by omega)]
  · simp only [placeOf] at hk
    split at hk
    · simp only [Option.some.injEq] at hk; subst hk; exact hp
    · split at hk
      · simp only [Option.some.injEq] at hk; subst hk; exact g1
      · split at hk
        · simp only [Option.some.injEq] at hk; subst hk; exact g0
        · cases hk
  · rcases gT k b hk with ⟨rfl, rfl⟩ | ⟨rfl, rfl⟩ | ⟨rfl, rfl⟩
    · exact ⟨_, rfl, fun i c hc => tab _ 0 tab32 h32 gTab32 i c hc, fun hr => by cases hr⟩
    · exact ⟨_, rfl, fun i c hc => tab _ 1 tab64 h64 gTab64 i c hc, fun hr => by cases hr⟩
    · exact ⟨_, rfl, hc, fun hr => by cases hr⟩
  · rcases gT j bj hj with ⟨_, rfl⟩ | ⟨_, rfl⟩ | ⟨_, rfl⟩ <;> cases hr
/-- A call that returns true in Gc returns true in the model, and turns nothing. -/
theorem call_true {f : Nat} {args : List Val} {cs : List Val} {p : Plc} {W : World} {vargs : List Value} {Q : Heap → Prop} (hc : CallV (envOf tabs05) 3 f args (heapOf cs) fun r h' => r = .bool true ∧ Q h')
    (H : HRel sig W.heap.size (placeOf p) (heapOf cs) W) (hv : VRels sig (placeOf p) args vargs) : Calls Tryd.prog (sig.fn f) vargs.toArray W fun e W' => e = .returned (.bool true) ∧ Below W.heap.size W W' := by
  obtain ⟨v, h', hx, rfl, _⟩ := hc
  obtain ⟨n, hn⟩ := Call_some.1 hx
  have key := env_sound (env_ok W.heap.size) n 3 f args (heapOf cs) (.ret (.bool true)) h' vargs (placeOf p) W (Nat.le_refl _) hn (base_ext p) hv H
  refine key.2.mono fun e W' hh => ?_
  obtain ⟨μ', _, _, hb, hr⟩ := hh
  cases e <;> simp only [ResRel] at hr
  simp only [VRel] at hr
  exact ⟨by rw [hr], hb⟩
theorem has : (envOf tabs05).Has tabs05 here := tabs05.env_has here
/-! ### Reading the arguments -/
section
variable {H : Type} {enc : TypeId × Value → H} {W : World} {base : Nat}
/-- A list of triples, as an argument. -/
theorem triples_arg {v : Value} {d : DataW H} {ps : List MemPlace} (hd : DataW.Trod enc Tryd.prog W 0 (fun _ => true) true 22 v d ps) (hv : ∃ a l c, v = .slice a l c) (hL : laidMetH Tryd.prog laidTabs W) :
    ∃ (cs : List Val) (p : Plc) (x : Val) (ts : List I3), p.blk < W.heap.size ∧ HRel sig W.heap.size (placeOf p) (heapOf cs) W ∧ VRel sig (placeOf p) x v ∧ TriplesAt (heapOf cs) x ts := by
  obtain ⟨fuel, hf⟩ := hd
  have hblk : 0 < W.heap.size := by
    obtain ⟨h32, _⟩ := tabs_of hL
    have := h32.cell gTab32 0 (by decide)
    rcases Nat.lt_or_ge 0 W.heap.size with h | h
    · exact h
    · simp [World.cell?, Array.getElem?_eq_none h] at this
  have hv2 : v.cells.toList = [v] := by obtain ⟨a, l, c, rfl⟩ := hv; rfl
  rw [hv2] at hf
  rcases Deep.open_slice Tryd.underlying22 hf with ⟨h1, _⟩ | ⟨a, len, cap, m, n, D, Pl, h1, _, hl, _, hm, _, hel⟩
  · obtain rfl : v = .slice none 0 0 := by simpa using h1
    refine ⟨[], ⟨0, 0, 0, 0⟩, .nils, [], hblk, heapOf_rel hL hblk (fun i c hc => by simp at hc), by simp [VRel], fun s h => (by cases h), rfl⟩
  · obtain rfl : v = .slice (some a) len cap := by simpa using h1
    simp only [if_true] at hm
    obtain rfl : m = cap := hm
    rw [cellsT] at hel
    have each : ∀ i, i < m → ∃ t : I3, W.cell? (a.add (i * 3)) = some (.int .i64 t.1) ∧ W.cell? ((a.add (i * 3)).add 1) = some (.int .i64 t.2.1) ∧ W.cell? ((a.add (i * 3)).add 2) = some (.int .i64 t.2.2) := by
      intro i hi
      obtain ⟨cs', h2, h3⟩ := hel i hi
      obtain ⟨_, hlen, hcell⟩ := World.cells?_some h2
      obtain ⟨xs, n', _, _, _, hxl, hfld⟩ := DataW.trod_struct Tryd.underlying31 h3
      have hxl : xs.length = 3 := hxl
      have fld : ∀ (j : Nat) (fl : Field), j < 3 → (#[{ name := "A", type := 3, offset := 0, embedded := false, tag := "", pkgPath := "", byteOffset := 0 }, { name := "B", type := 3, offset := 1, embedded := false, tag := "", pkgPath := "", byteOffset := 8 }, { name := "C", type := 3, offset := 2, embedded := false, tag := "", pkgPath := "", byteOffset := 16 }] : Array Field)[j]? = some fl → fl.type = 3 → fl.offset = j → ∃ z, cs'[j]? = some (.int .i64 z) := by
        intro j fl hj hfl ht ho
        have h4 := hfld j fl hfl
        rw [List.getElem?_eq_getElem (by omega), ht, ho] at h4
        obtain ⟨z, hz, _⟩ := DataW.trod_int Tryd.underlying3 h4
        refine ⟨z, ?_⟩
        have := congrArg (·[0]?) hz
        rw [cellsI] at this
        simpa [List.getElem?_take, List.getElem?_drop] using this
      obtain ⟨z0, e0⟩ := fld 0 _ (by omega) rfl rfl rfl
      obtain ⟨z1, e1⟩ := fld 1 _ (by omega) rfl rfl rfl
      obtain ⟨z2, e2⟩ := fld 2 _ (by omega) rfl rfl rfl
      refine ⟨(z0, z1, z2), ?_, ?_, ?_⟩
      · have := hcell 0 (by omega); rw [e0] at this; simpa [Addr.add] using this
      · rw [hcell 1 (by omega), e1]
      · rw [hcell 2 (by omega), e2]
    obtain ⟨T, hT⟩ := Deep.choose_lt (α := I3) each
    have ha : ∀ i, i < m → a.spot = none ∧ a.block < W.heap.size := by
      intro i hi
      have h0 := (hT 0 (by omega)).1
      simp only [Nat.zero_mul, Addr.add, if_true] at h0
      unfold World.cell? at h0
      split at h0
      · rename_i c _ _ hb
        split at h0
        · cases h0
        · rename_i hs
          refine ⟨by simpa using hs, ?_⟩
          exact (Array.getElem?_eq_some_iff.1 hb).1
      · cases h0
    have cell : ∀ i j, i < m → W.cell? ((a.add (i * 3)).add j) = W.cell? ⟨a.block, a.off + (i * 3 + j), none⟩ := by
      intro i j hi
      obtain ⟨hs, _⟩ := ha i hi
      obtain ⟨ab, ao, asp⟩ := a
      simp only at hs
      subst hs
      rw [Deep.add_add]
      unfold Addr.add
      split
      · rename_i e; rw [e]; rfl
      · rfl
    have len3 : ∀ (l : List Nat), (cells3 (l.map T)).length = l.length * 3 := fun l => by rw [cells3_length]; simp
    by_cases h0 : m = 0
    · subst h0
      obtain rfl : len = 0 := by omega
      exact ⟨[], ⟨0, 0, 0, 0⟩, .slice 2 0 0 (some 0), [], hblk, heapOf_rel hL hblk (fun i c hc => by simp at hc), by simp only [VRel]; exact ⟨_, a, rfl, rfl, Nat.le_refl _, .inl trivial⟩, fun s h => (by cases h), rfl⟩
    obtain ⟨hs, hb⟩ := ha 0 (by omega)
    refine ⟨cells3 ((List.range m).map T), ⟨a.block, a.off, 0, 0⟩, .slice 2 0 len (some m), (List.range len).map T, hb, heapOf_rel hL hb (fun i c hc => ?_), ?_, fun s h => (by cases h), ?_⟩
    · have hi : i < m * 3 := by
        have := (List.getElem?_eq_some_iff.1 hc).1
        rw [len3] at this
        simpa using this
      have hq : i / 3 < m := by omega
      have h3 := hT (i / 3) hq
      have hcc : (cells3 ((List.range m).map T))[i]? = (cell3 (T (i / 3)))[i % 3]? := by
        have gen : ∀ (l : List I3) (i : Nat), (cells3 l)[i]? = (l[i / 3]?).bind fun t => (cell3 t)[i % 3]? := by
          intro l
          induction l with
          | nil => intro i; simp [cells3]
          | cons t l ih =>
            intro i
            simp only [cells3]
            by_cases h : i < 3
            · rw [List.getElem?_append_left (by simpa [cell3] using h)]
              have e1 : i / 3 = 0 := by omega
              have e2 : i % 3 = i := by omega
              rw [e1, e2]; rfl
            · rw [List.getElem?_append_right (by simp [cell3]; omega), ih]
              have e0 : (cell3 t).length = 3 := rfl
              have e1 : i / 3 = (i - 3) / 3 + 1 := by omega
              have e2 : i % 3 = (i - 3) % 3 := by omega
              rw [e0, e1, e2]; rfl
        rw [gen]
        simp [List.getElem?_range, hq]
      rw [hcc] at hc
      have hmod : i % 3 < 3 := Nat.mod_lt _ (by omega)
      have c0 := cell (i / 3) 0 hq
      have c1 := cell (i / 3) 1 hq
      have c2 := cell (i / 3) 2 hq
      have hz : ∀ z j, i % 3 = j → W.cell? ((a.add (i / 3 * 3)).add j) = some (.int .i64 z) → c = .int .i64 z → ∃ v, W.cell? ⟨a.block, a.off + i, none⟩ = some v ∧ VRel sig (placeOf ⟨a.block, a.off, 0, 0⟩) c v := by
        rintro z j hj h5 rfl
        rw [cell (i / 3) j hq, show i / 3 * 3 + j = i by omega] at h5
        exact ⟨_, h5, by simp only [VRel]⟩
      rcases (show i % 3 = 0 ∨ i % 3 = 1 ∨ i % 3 = 2 by omega) with h | h | h
      · rw [h] at hc
        refine hz (T (i / 3)).1 0 h ?_ (by simpa [cell3, eq_comm] using hc)
        simpa [Addr.add] using h3.1
      · rw [h] at hc
        exact hz (T (i / 3)).2.1 1 h h3.2.1 (by simpa [cell3, eq_comm] using hc)
      · rw [h] at hc
        exact hz (T (i / 3)).2.2 2 h h3.2.2 (by simpa [cell3, eq_comm] using hc)
    · simp only [VRel]
      refine ⟨⟨a.block, a.off, 0, 0⟩, a, rfl, rfl, hl, .inr ?_⟩
      obtain ⟨ab, ao, asp⟩ := a
      simp only at hs
      subst hs
      simp
    · simp only [spread]
      by_cases hl0 : len = 0
      · subst hl0; simp [cells3]
      · rw [if_neg hl0]
        have hg : (heapOf (cells3 ((List.range m).map T))).get 2 = some ⟨cells3 ((List.range m).map T), false, 3⟩ := rfl
        rw [hg]
        simp only
        rw [if_pos (by rw [len3]; simp; omega)]
        have app : ∀ (l l' : List I3), cells3 (l ++ l') = cells3 l ++ cells3 l' := by
          intro l l'
          induction l with
          | nil => rfl
          | cons t l ih => simp [cells3, ih]
        have hr : (List.range m).map T = (List.range len).map T ++ (((List.range (m - len)).map (len + ·)).map T) := by
          rw [← List.map_append, ← Deep.range_split hl]
        rw [hr, app]
        simp only [List.drop_zero, List.length_map, List.length_range]
        rw [List.take_append_of_le_length (by rw [len3]; simp), List.take_of_length_le (by rw [len3]; simp)]
/-- A triple, as an argument. -/
theorem triple_arg {v : Value} {d : DataW H} {ps : List MemPlace} (hd : DataW.Trod enc Tryd.prog W 0 (fun _ => true) true 31 v d ps) (hv : ∃ cs, v = .agg cs) : ∃ t : I3, v = .agg #[.int .i64 t.1, .int .i64 t.2.1, .int .i64 t.2.2] := by
  obtain ⟨cs, rfl⟩ := hv
  obtain ⟨fuel, hf⟩ := hd
  have hf : DataW.trod enc Tryd.prog W 0 (fun _ => true) true fuel 31 cs.toList = some (d, ps) := hf
  obtain ⟨xs, n', _, _, hlen, hxl, hfld⟩ := DataW.trod_struct Tryd.underlying31 hf
  have hxl : xs.length = 3 := hxl
  rw [cellsT] at hlen
  have fld : ∀ (j : Nat) (fl : Field), j < 3 → (#[{ name := "A", type := 3, offset := 0, embedded := false, tag := "", pkgPath := "", byteOffset := 0 }, { name := "B", type := 3, offset := 1, embedded := false, tag := "", pkgPath := "", byteOffset := 8 }, { name := "C", type := 3, offset := 2, embedded := false, tag := "", pkgPath := "", byteOffset := 16 }] : Array Field)[j]? = some fl → fl.type = 3 → fl.offset = j → ∃ z, cs.toList[j]? = some (.int .i64 z) := by
    intro j fl hj hfl ht ho
    have h4 := hfld j fl hfl
    rw [List.getElem?_eq_getElem (by omega), ht, ho] at h4
    obtain ⟨z, hz, _⟩ := DataW.trod_int Tryd.underlying3 h4
    refine ⟨z, ?_⟩
    have := congrArg (·[0]?) hz
    rw [cellsI] at this
    simpa [List.getElem?_take, List.getElem?_drop] using this
  obtain ⟨z0, e0⟩ := fld 0 _ (by omega) rfl rfl rfl
  obtain ⟨z1, e1⟩ := fld 1 _ (by omega) rfl rfl rfl
  obtain ⟨z2, e2⟩ := fld 2 _ (by omega) rfl rfl rfl
  refine ⟨(z0, z1, z2), ?_⟩
  congr 1
  apply Array.toList_inj.1
  match hcs : cs.toList, hlen, e0, e1, e2 with
  | [a, b, c], _, e0, e1, e2 =>
    simp only [List.getElem?_cons_zero, List.getElem?_cons_succ, Option.some.injEq] at e0 e1 e2
    subst e0; subst e1; subst e2
    rfl
/-! ### Behind the call -/
theorem all_stays : ∀ {ts : List TypeId} {vs : List Value} {ds : List (DataW H)} {ps : List MemPlace}, (∀ t ∈ ts, Tryd.prog.readableRec t = true ∧ t < Tryd.prog.types.size) → DataW.TrodAll enc Tryd.prog W 0 (fun _ => true) true ts vs ds ps →
    ∀ {W' : World}, Below W.heap.size W W' → (∀ p ∈ ps, p.block < W.heap.size) → ∀ {sp : Nat → Bool}, (∀ p ∈ ps, sp p.block = true) → DataW.TrodAll enc Tryd.prog W' 0 sp true ts vs ds ps
  | [], vs, ds, ps, _, h, W', _, _, sp, _ => by
    obtain ⟨rfl, rfl, rfl⟩ := trodAll_nil h
    rfl
  | t :: ts, vs, ds, ps, ht, h, W', hb, hlt, sp, hs => by
    obtain ⟨v, vs1, d, ds1, a, b, rfl, rfl, rfl, h1, h2⟩ := trodAll_cons h
    obtain ⟨hr, hrow⟩ := ht t (by simp)
    exact ⟨a, b, WideElems.Trod_stays laidOut hr hrow h1 (fun x hx => hb.same (hlt x (by simp [hx]))) (fun x hx => hs x (by simp [hx])),
      all_stays (fun t ht' => ht t (by simp [ht'])) h2 hb (fun p hp => hlt p (by simp [hp])) (fun p hp => hs p (by simp [hp])), rfl⟩
theorem post_true {f : Func} {s : ChangeSpec} {apart fresh handsOn again : Bool} {W' : World} {args : Array Value} {ds gs : List (DataW H)} {before : List MemPlace}
    (hp : ∀ t ∈ f.params.toList, Tryd.prog.readableRec t = true ∧ t < Tryd.prog.types.size) (hr : f.resultTypes = #[4]) (hv : s.vars = []) (hs : (s.fn H ds).results = [.lit (.bool true)] ∧ (s.fn H ds).args = ds ∧ (s.fn H ds).vars = [])
    (hW : DataW.Whole enc Tryd.prog f.params.toList s.vars apart W args.toList ds gs before) (hb : Below W.heap.size W W') : s.post enc Tryd.prog f apart fresh handsOn again W args (.bool true) W' := by
  have hW' := hW
  obtain ⟨p, q, hA, hV, rfl, hfz, hnd⟩ := hW
  rw [hv] at hV
  obtain ⟨rfl, rfl⟩ := trodVars_none hV
  simp only [List.append_nil] at hW' hfz hnd
  have hlt : ∀ x ∈ p, x.block < W.heap.size := fun x hx => hW'.lt x hx
  have hA2 : ∀ sp : Nat → Bool, (∀ x ∈ p, sp x.block = true) → DataW.TrodAll enc Tryd.prog W' 0 sp true f.params.toList args.toList (s.fn H (ds ++ [])).args p := by
    intro sp hsp
    rw [List.append_nil, hs.2.1]
    exact all_stays hp hA hb hlt hsp
  have hR : ∀ (b : Nat) (sp : Nat → Bool) (hd : Bool), DataW.TrodAll enc Tryd.prog W' b sp hd f.resultTypes.toList ((Value.bool true).resultList f.resultTypes.size) (s.fn H (ds ++ [])).results [] := by
    intro b sp hd
    rw [List.append_nil, hs.1, hr]
    exact trodAll_cons_mk (shut_bool Tryd.underlying4 _) trodAll_mk0
  have hVs : ∀ sp : Nat → Bool, DataW.TrodVars enc Tryd.prog W' sp s.vars (s.fn H (ds ++ [])).vars [] := by
    intro sp
    rw [List.append_nil, hs.2.2, hv]
    rfl
  refine ⟨ds, [], p, [], p, [], hW', hR _ _ _, hA2 _ (fun x hx => by simpa using hlt x hx), hVs _, World.keptBut_mono (fun x hx => ⟨hx, .inr (by simpa using hx)⟩) (hb.frame _), fun _ => ?_⟩
  refine ⟨ok_one hr rfl (okWide_bool_mk Tryd.underlying4 _), _, _, ([] ++ p) ++ [], ⟨[] ++ p, [], trodAll_append (hA2 _ (fun _ _ => rfl)) (hR _ _ _), hVs _, rfl, ?_, ?_⟩, ?_⟩
  · intro b off hm
    have hm : MemPlace.cell b off ∈ p := by simpa using hm
    rw [hb.frozen (p := ⟨b, off, none⟩) (hlt _ hm)]
    exact hfz b off hm
  · intro ha
    simpa using hnd ha
  · intro x hx _
    simpa using hx
end
/-! ### A world for the witness: the settled one, the tables laid -/
def cellsOfTab (l : List Nat) : Array Value := (l.map fun (n : Nat) => Value.int .u8 (n : Int)).toArray
def layTab (l : List Nat) : Obj → Obj
  | .cells _ t frozen => .cells (cellsOfTab l) t frozen
  | o => o
noncomputable def laidWorld (os : Os) : World :=
  { World.holding Tryd.prog os ⟨#[], #[], []⟩ with heap := ((World.holding Tryd.prog os ⟨#[], #[], []⟩).heap.modify 0 (layTab tab32)).modify 1 (layTab tab64) }
theorem laid_met (os : Os) (args : Array Value) : laidMet Tryd.prog laidTabs ((laidWorld os).forCall (fun _ _ => 0) ⟨#[], args, []⟩).memory :=
  laidMet_of_run' 8 (by kernel_rfl) (by kernel_rfl)
end Gc.Tryd
end
section
/- The card of BreedMore. -/
set_option linter.unusedVariables false
set_option maxRecDepth 100000
namespace Go.Proofs.YtdebnmpbochgbaaDoor.breedMore
open Go.ChangeShapes Go.WideShapes Go.ChangeAt Go.RowKit
open Gc.Tryd (own laidTabs triples_arg triple_arg post_true call_true has laidWorld laid_met)
open Go.ChangeMaps (open_string shut_string)
theorem params_ok : ∀ t ∈ Tryd.f4.params.toList, Tryd.prog.readableRec t = true ∧ t < Tryd.prog.types.size := by
  rw [Tryd.params4]
  intro t ht
  simp only [List.mem_cons, List.not_mem_nil, or_false] at ht
  rcases ht with rfl | rfl | rfl | rfl
  · exact ⟨by kernel_rfl, of_decide_eq_true (by kernel_rfl)⟩
  · exact ⟨by kernel_rfl, of_decide_eq_true (by kernel_rfl)⟩
  · exact ⟨by kernel_rfl, of_decide_eq_true (by kernel_rfl)⟩
  · exact ⟨by kernel_rfl, of_decide_eq_true (by kernel_rfl)⟩
theorem laid_eq : Rows.breedMoreRow.laid = laidTabs := by kernel_rfl
theorem contract (H : Type) (enc : TypeId × Value → H) (W : World) (base : Nat) (args : Array Value) (ds gs : List (DataW H)) (before : List MemPlace)
    (hval : ∀ (j : Nat) t v, Tryd.f4.params[j]? = some t → args[j]? = some v → Value.okWide Tryd.prog W .any base t v)
    (hW : DataW.Whole enc Tryd.prog Tryd.f4.params.toList Rows.breedMoreSpec.vars false W args.toList ds gs before) (hL : laidMetH Tryd.prog Rows.breedMoreRow.laid W) :
    Calls Tryd.prog 4 args W fun e W' => ∃ v, e = .returned v ∧ Rows.breedMoreSpec.post enc Tryd.prog Tryd.f4 false true false false W args v W' := by
  have hW' := hW
  obtain ⟨p, q, hA0, hV, rfl, hfz, hnd⟩ := hW
  have hA : DataW.TrodAll enc Tryd.prog W 0 (fun _ => true) true Tryd.f4.params.toList args.toList ds p := hA0
  rw [Tryd.params4] at hA hval
  obtain ⟨v0, vs0, d0, ds0, p0, q0, hargs, rfl, rfl, h0, r0⟩ := trodAll_cons hA
  obtain ⟨v1, vs1, d1, ds1, p1, q1, hargs1, rfl, rfl, h1, r1⟩ := trodAll_cons r0
  obtain ⟨v2, vs2, d2, ds2, p2, q2, hargs2, rfl, rfl, h2, r2⟩ := trodAll_cons r1
  obtain ⟨v3, vs3, d3, ds3, p3, q3, hargs3, rfl, rfl, h3, r3⟩ := trodAll_cons r2
  obtain ⟨rfl, rfl, rfl⟩ := trodAll_nil r3
  obtain rfl : args = #[v0, v1, v2, v3] := by
    subst hargs3; subst hargs2; subst hargs1
    exact Array.toList_inj.1 hargs
  obtain ⟨n, rfl, _, _, _⟩ := open_int Tryd.underlying3 (hval 0 3 v0 rfl rfl) h0
  obtain ⟨a, len, cap, hv1⟩ := okWide_slice Tryd.underlying22 (hval 1 22 v1 rfl rfl)
  obtain ⟨c2, hv2, _⟩ := okWide_struct Tryd.underlying31 (hval 2 31 v2 rfl rfl)
  obtain ⟨s, rfl⟩ := okWide_string Tryd.underlying9 (hval 3 9 v3 rfl rfl)
  obtain ⟨m, rfl⟩ := triple_arg h2 ⟨_, hv2⟩
  rw [laid_eq] at hL
  obtain ⟨cs, pl, x, ts, hpl, hrel, hx, hts⟩ := triples_arg h1 ⟨_, _, _, hv1⟩ hL
  have run := Gc.BreedMore_run has (by decide) (Gc.Tryd.heapOf_wf cs) (Gc.Tryd.heapOf_tables cs) (show 2 ≤ 3 by omega) (n := n) (s := s.data.toList) (m := m) hts
  have call := call_true (vargs := [.int .i64 n, v1, .agg #[.int .i64 m.1, .int .i64 m.2.1, .int .i64 m.2.2], .string s]) run hrel (by
    simp only [Gc.VRels, Gc.VRel, Gc.cell3]
    exact ⟨_, _, rfl, rfl, _, _, rfl, hx, _, _, rfl, ⟨_, rfl, _, _, rfl, rfl, _, _, rfl, rfl, _, _, rfl, rfl, rfl⟩, _, _, rfl, rfl, rfl⟩)
  refine call.mono fun e W' hh => ?_
  obtain ⟨rfl, hb⟩ := hh
  exact ⟨_, rfl, post_true params_ok (by kernel_rfl) rfl ⟨rfl, rfl, rfl⟩ hW' hb⟩
theorem reads (os : Os) {H : Type} (enc : TypeId × Value → H) : ∃ places, DataW.whole enc Tryd.prog ((laidWorld os).forCall (fun _ _ => 0) ⟨#[], #[.int .i64 0, .slice none 0 0, .agg #[.int .i64 0, .int .i64 0, .int .i64 0], .string ⟨#[]⟩], []⟩).memory Tryd.f4.params.toList Rows.breedMoreSpec.vars false #[Value.int .i64 0, .slice none 0 0, .agg #[.int .i64 0, .int .i64 0, .int .i64 0], .string ⟨#[]⟩].toList 8 = some ([.lit (.int .i64 0), .nil, .agg [.lit (.int .i64 0), .lit (.int .i64 0), .lit (.int .i64 0)], .lit (.string [])], [], places) :=
  ⟨[], by kernel_rfl⟩
set_option maxRecDepth 100000 in
theorem lifted (os : Os) (started : os.Started) (H : Type) (enc : TypeId × Value → H) (F : Stop.Interp) :
    ReturnsInHanded {} Tryd.checked os 4 .any ((OpenSpec.ofChange Rows.breedMoreSpec).preRow enc Tryd.prog Tryd.f4 Rows.breedMoreRow.domain false Rows.breedMoreRow.laid) (((OpenSpec.ofChange Rows.breedMoreSpec).at F).post enc Tryd.prog Tryd.f4 false true false false) := by
  obtain ⟨places, hx⟩ := reads os enc
  refine returnsInHanded_of_row (C := Tryd.checked) (s := OpenSpec.ofChange Rows.breedMoreSpec) own started (by kernel_rfl) Tryd.func4
    (witness_row_at (enc := enc) (C := Tryd.checked) false (laidWorld os) #[.int .i64 0, .slice none 0 0, .agg #[.int .i64 0, .int .i64 0, .int .i64 0], .string ⟨#[]⟩] rfl (by kernel_rfl) (by kernel_rfl) (by kernel_rfl)
      (OpenSpec.preRow_of_cond 8 hx (by kernel_rfl) (fun k hk => by cases hk) (by kernel_rfl) (laid_met os _))) ?_
  intro W base args ds gs before hval hW _ _ _ hL _ _
  exact contract H enc W base args ds gs before hval hW hL
theorem said : Rows.BreedMoreSaid :=
  OpenClaim.holds_of_cond 4 Tryd.f4 rfl rfl rfl rfl rfl rfl rfl ⟨rfl, rfl, rfl, rfl, rfl⟩ rfl rfl rfl rfl rfl (by kernel_rfl) Tryd.func4 (by kernel_rfl)
    (of_decide_eq_true (by kernel_rfl)) (by unfold Func.isWrapper; first | (rw [if_pos (by decide +kernel)]; kernel_rfl) | (rw [if_neg (by decide +kernel)]; exact ⟨rfl, rfl⟩))
    (fun os started H enc _ F => by rw [OpenClaim.pre_eq_preRow]; exact lifted os started H enc F)
theorem plain (f : FuncId) (fn : Func) (hf : Tryd.pinned.checked.prog.funcNamed "droveway/drovewaylaw05.BreedMore" = some f) (hfn : Tryd.pinned.checked.prog.funcs[f]? = some fn) :
    true = Tryd.pinned.checked.prog.looks [] ∧ ∀ (j : Nat) t, fn.params[j]? = some t → Tryd.pinned.checked.prog.wantsStandIn t = false := by
  obtain rfl : f = 4 := Option.some.inj ((show Tryd.prog.funcNamed "droveway/drovewaylaw05.BreedMore" = some 4 by kernel_rfl).symm.trans hf) |>.symm
  obtain rfl : fn = Tryd.f4 := (Option.some.inj (Tryd.func4.symm.trans hfn)).symm
  refine ⟨by kernel_rfl, fun j t ht => ?_⟩
  rw [Tryd.params4] at ht
  have := Array.mem_of_getElem? ht
  simp only [List.mem_toArray, List.mem_cons, List.not_mem_nil, or_false] at this
  rcases this with rfl | rfl | rfl | rfl
  · exact (show Tryd.prog.wantsStandIn 3 = false by kernel_rfl)
  · exact (show Tryd.prog.wantsStandIn 22 = false by kernel_rfl)
  · exact (show Tryd.prog.wantsStandIn 31 = false by kernel_rfl)
  · exact (show Tryd.prog.wantsStandIn 9 = false by kernel_rfl)
/-- ████ THE CARD ████ -/
theorem card : Rows.BreedMoreCardSaid :=
  Claim7.holds_tied_plain_at .later [] _ _ _ _ said (fun _ h => by cases h) (by kernel_rfl) (fun _ h => by cases h) breedMore_row_tie rfl ⟨rfl, rfl⟩ (by kernel_rfl) rfl plain (by kernel_rfl)
end Go.Proofs.YtdebnmpbochgbaaDoor.breedMore
end
