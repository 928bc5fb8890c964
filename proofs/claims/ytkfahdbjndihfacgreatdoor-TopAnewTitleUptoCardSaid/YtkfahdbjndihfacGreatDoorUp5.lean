/- Proved here: for every argument of bulk at most 1048576 TopAnewTitle answers true and leaves its argument as it was. (part 5 of 6.) -/
import Derived.Test.YtkfahdbjndihfacGreatDoorUp4
import Derived.Test.YtkfahdbjndihfacGreatDoorChecked
import Derived.WalkKit
import Derived.Lib.Walk
import Derived.Lib.Strings
import Derived.Lib.Bytealg
import Derived.BigCall
import Derived.BigGuard
import Derived.Laws.Strings3
set_option linter.unusedSimpArgs false
set_option linter.unusedVariables false
set_option linter.unnecessarySimpa false
namespace Go.Proofs.YtkfahdbjndihfacGreatDoor
open Go.Tc
set_option linter.unusedSimpArgs false
set_option linter.unusedVariables false
set_option maxRecDepth 20000
theorem mixed : Tryz.prog.follows .mixedOrders = true := by kernel_rfl
def c3 : ACode :=
 .seq (.ops [
   ⟨(some 1), .box (.t 0), none, []⟩,
   ⟨(some 2), .mv (.c (.bool false)), none, []⟩])
 (.seq (.ops [
   ⟨(some 3), .alloc [.nilS, .nilS], none, []⟩,
   ⟨(some 4), .alloc [.nilS, .nilS], none, []⟩])
 (.seq (.ops [
   ⟨(some 6), .load true 14 (.t 1), none, []⟩,
   ⟨(some 7), .callF 4 [(.t 6), (.t 3)], none, []⟩])
 (.seq (.ops [
   ⟨(some 8), .mkF (.func 6) [] [(.t 1)], none, []⟩,
   ⟨(some 9), .callF 5 [(.t 8)], none, []⟩,
   ⟨(some 10), .mv (.t 9), none, []⟩,
   ⟨(some 11), .mkF (.func 11) [] [(.t 1)], (some (10, true)), []⟩,
   ⟨(some 12), .callF 5 [(.t 11)], (some (10, true)), []⟩,
   ⟨(some 13), .pick (.t 10) (.t 12) (.c (.bool false)), none, []⟩,
   ⟨(some 14), .mv (.t 13), none, []⟩,
   ⟨(some 15), .mkF (.func 13) [] [(.t 1)], (some (14, true)), []⟩,
   ⟨(some 16), .callF 5 [(.t 15)], (some (14, true)), []⟩,
   ⟨(some 17), .pick (.t 14) (.t 16) (.c (.bool false)), none, []⟩,
   ⟨(some 18), .mv (.t 17), none, []⟩,
   ⟨(some 19), .mkF (.func 18) [] [(.t 1)], (some (18, true)), []⟩,
   ⟨(some 20), .callF 5 [(.t 19)], (some (18, true)), []⟩,
   ⟨(some 21), .pick (.t 18) (.t 20) (.c (.bool false)), none, []⟩,
   ⟨(some 22), .mv (.t 21), none, []⟩,
   ⟨(some 23), .mkF (.func 23) [] [(.t 1)], (some (22, true)), []⟩,
   ⟨(some 24), .callF 5 [(.t 23)], (some (22, true)), []⟩,
   ⟨(some 25), .pick (.t 22) (.t 24) (.c (.bool false)), none, []⟩,
   ⟨(some 26), .mv (.t 25), none, []⟩,
   ⟨(some 27), .mkF (.func 26) [] [(.t 1)], (some (26, true)), []⟩,
   ⟨(some 28), .callF 5 [(.t 27)], (some (26, true)), []⟩,
   ⟨(some 29), .pick (.t 26) (.t 28) (.c (.bool false)), none, []⟩,
   ⟨(some 30), .mv (.t 29), none, []⟩,
   ⟨(some 31), .mkF (.func 28) [] [(.t 1)], (some (30, true)), []⟩,
   ⟨(some 32), .callF 5 [(.t 31)], (some (30, true)), []⟩,
   ⟨(some 33), .pick (.t 30) (.t 32) (.c (.bool false)), none, []⟩,
   ⟨(some 34), .mv (.t 33), none, []⟩,
   ⟨(some 35), .mkF (.func 33) [] [(.t 1)], (some (34, true)), []⟩,
   ⟨(some 36), .callF 5 [(.t 35)], (some (34, true)), []⟩,
   ⟨(some 37), .pick (.t 34) (.t 36) (.c (.bool false)), none, []⟩,
   ⟨(some 5), .mv (.t 37), none, []⟩])
 (.seq (.ops [
   ⟨(some 38), .load true 14 (.t 1), none, []⟩,
   ⟨(some 39), .callF 4 [(.t 38), (.t 4)], none, []⟩])
 (.seq (.ops [
   ⟨(some 40), .mv (.t 5), none, []⟩,
   ⟨(some 41), .mv (.t 40), none, []⟩,
   ⟨(some 42), .load true 2 (.t 3), (some (41, true)), []⟩,
   ⟨(some 43), .load true 2 (.t 4), (some (41, true)), []⟩,
   ⟨(some 44), .callF 36 [(.t 42), (.t 43)], (some (41, true)), []⟩,
   ⟨(some 45), .pick (.t 41) (.t 44) (.c (.bool false)), none, []⟩,
   ⟨(some 46), .mv (.t 45), none, []⟩,
   ⟨(some 47), .callF 37 [], (some (46, true)), []⟩,
   ⟨(some 48), .pick (.t 46) (.t 47) (.c (.bool false)), none, []⟩,
   ⟨(some 2), .mv (.t 48), none, []⟩])
 (.ret))))))
theorem k3 : compFunc Tryz.prog 3 = some (49, c3, [.t 2]) := by kernel_rfl
def c6 : ACode :=
 .seq (.ops [
   ⟨(some 3), .mv (.c .nilF), none, []⟩])
 (.seq (.ops [
   ⟨(some 8), .fa 0 (.t 1), none, []⟩,
   ⟨(some 9), .load true 4 (.t 8), none, []⟩,
   ⟨(some 10), .callF 7 [(.t 9)], none, []⟩,
   ⟨(some 7), .mv (.t 10), none, []⟩,
   ⟨(some 11), .ext (.t 7) 0, none, []⟩,
   ⟨(some 12), .ext (.t 7) 1, none, []⟩,
   ⟨(some 13), .ext (.t 7) 2, none, []⟩,
   ⟨(some 4), .mv (.t 11), none, []⟩,
   ⟨(some 5), .mv (.t 12), none, []⟩,
   ⟨(some 6), .mv (.t 13), none, []⟩])
 (.seq (.ops [
   ⟨(some 14), .mv (.t 0), none, []⟩,
   ⟨(some 15), .mv (.t 4), none, []⟩,
   ⟨(some 16), .callF 8 [(.t 14), (.t 15)], none, []⟩])
 (.seq (.ops [
   ⟨(some 17), .mv (.t 0), none, []⟩,
   ⟨(some 18), .mv (.t 5), none, []⟩,
   ⟨(some 19), .callF 8 [(.t 17), (.t 18)], none, []⟩])
 (.seq (.ops [
   ⟨(some 20), .mv (.t 0), none, []⟩,
   ⟨(some 21), .mv (.t 6), none, []⟩,
   ⟨(some 22), .callF 9 [(.t 20), (.t 21)], none, []⟩])
 (.seq (.ops [
   ⟨(some 3), .mv (.f 10), none, []⟩])
 (.ret))))))
theorem k6 : compFunc Tryz.prog 6 = some (23, c6, [.t 3]) := by kernel_rfl
def c11 : ACode :=
 .seq (.ops [
   ⟨(some 3), .mv (.c .nilF), none, []⟩])
 (.seq (.ops [
   ⟨(some 5), .fa 0 (.t 1), none, []⟩,
   ⟨(some 6), .load true 4 (.t 5), none, []⟩,
   ⟨(some 7), .fa 4 (.t 1), none, []⟩,
   ⟨(some 8), .load true 6 (.t 7), none, []⟩,
   ⟨(some 9), .callF 12 [(.t 6), (.t 8)], none, []⟩,
   ⟨(some 4), .mv (.t 9), none, []⟩])
 (.seq (.ops [
   ⟨(some 10), .mv (.t 0), none, []⟩,
   ⟨(some 11), .mv (.t 4), none, []⟩,
   ⟨(some 12), .callF 9 [(.t 10), (.t 11)], none, []⟩])
 (.seq (.ops [
   ⟨(some 3), .mv (.f 10), none, []⟩])
 (.ret))))
theorem k11 : compFunc Tryz.prog 11 = some (13, c11, [.t 3]) := by kernel_rfl
def c13 : ACode :=
 .seq (.ops [
   ⟨(some 3), .mv (.c .nilF), none, []⟩])
 (.seq (.ops [
   ⟨(some 8), .fa 0 (.t 1), none, []⟩,
   ⟨(some 9), .load true 4 (.t 8), none, []⟩,
   ⟨(some 10), .fa 10 (.t 1), none, []⟩,
   ⟨(some 11), .load false 1 (.t 10), none, []⟩,
   ⟨(some 12), .callF 14 [(.t 9), (.t 11)], none, []⟩,
   ⟨(some 7), .mv (.t 12), none, []⟩,
   ⟨(some 13), .ext (.t 7) 0, none, []⟩,
   ⟨(some 14), .ext (.t 7) 1, none, []⟩,
   ⟨(some 15), .ext (.t 7) 2, none, []⟩,
   ⟨(some 4), .alloc [.nilS], none, []⟩,
   ⟨none, .store 1 (.t 4) (.t 13), none, []⟩,
   ⟨(some 5), .mv (.t 14), none, []⟩,
   ⟨(some 6), .mv (.t 15), none, []⟩])
 (.seq (.ops [
   ⟨(some 16), .mv (.t 0), none, []⟩,
   ⟨(some 17), .load false 1 (.t 4), none, []⟩,
   ⟨(some 18), .callF 15 [(.t 16), (.t 17)], none, []⟩])
 (.seq (.ops [
   ⟨(some 19), .mv (.t 0), none, []⟩,
   ⟨(some 20), .mv (.t 5), none, []⟩,
   ⟨(some 21), .callF 8 [(.t 19), (.t 20)], none, []⟩])
 (.seq (.ops [
   ⟨(some 22), .mv (.t 0), none, []⟩,
   ⟨(some 23), .mv (.t 6), none, []⟩,
   ⟨(some 24), .callF 9 [(.t 22), (.t 23)], none, []⟩])
 (.seq (.ops [
   ⟨(some 25), .mkF (.func 16) [] [(.t 4)], none, []⟩,
   ⟨(some 3), .mv (.t 25), none, []⟩])
 (.ret))))))
theorem k13 : compFunc Tryz.prog 13 = some (26, c13, [.t 3]) := by kernel_rfl
def c16 : ACode :=
 .ops [
   ⟨(some 1), .callF 17 [(.t 0)], none, []⟩]
theorem k16 : compFunc Tryz.prog 16 = some (2, c16, []) := by kernel_rfl
def c18 : ACode :=
 .seq (.ops [
   ⟨(some 3), .mv (.c .nilF), none, []⟩])
 (.seq (.ops [
   ⟨(some 7), .fa 0 (.t 1), none, []⟩,
   ⟨(some 8), .load true 4 (.t 7), none, []⟩,
   ⟨(some 9), .fa 4 (.t 1), none, []⟩,
   ⟨(some 10), .load true 6 (.t 9), none, []⟩,
   ⟨(some 11), .fa 11 (.t 1), none, []⟩,
   ⟨(some 12), .load false 1 (.t 11), none, []⟩,
   ⟨(some 13), .callF 19 [(.t 8), (.t 10), (.t 12)], none, []⟩,
   ⟨(some 6), .mv (.t 13), none, []⟩,
   ⟨(some 14), .ext (.t 6) 0, none, []⟩,
   ⟨(some 15), .ext (.t 6) 1, none, []⟩,
   ⟨(some 4), .alloc [.nilS], none, []⟩,
   ⟨none, .store 1 (.t 4) (.t 14), none, []⟩,
   ⟨(some 5), .mv (.t 15), none, []⟩])
 (.seq (.ops [
   ⟨(some 16), .mv (.t 0), none, []⟩,
   ⟨(some 17), .load false 1 (.t 4), none, []⟩,
   ⟨(some 18), .callF 20 [(.t 16), (.t 17)], none, []⟩])
 (.seq (.ops [
   ⟨(some 19), .mv (.t 0), none, []⟩,
   ⟨(some 20), .mv (.t 5), none, []⟩,
   ⟨(some 21), .callF 9 [(.t 19), (.t 20)], none, []⟩])
 (.seq (.ops [
   ⟨(some 22), .mkF (.func 21) [] [(.t 4)], none, []⟩,
   ⟨(some 3), .mv (.t 22), none, []⟩])
 (.ret)))))
theorem k18 : compFunc Tryz.prog 18 = some (23, c18, [.t 3]) := by kernel_rfl
def c21 : ACode :=
 .ops [
   ⟨(some 1), .callF 22 [(.t 0)], none, []⟩]
theorem k21 : compFunc Tryz.prog 21 = some (2, c21, []) := by kernel_rfl
def c23 : ACode :=
 .seq (.ops [
   ⟨(some 3), .mv (.c .nilF), none, []⟩])
 (.seq (.ops [
   ⟨(some 7), .fa 0 (.t 1), none, []⟩,
   ⟨(some 8), .load true 4 (.t 7), none, []⟩,
   ⟨(some 9), .fa 4 (.t 1), none, []⟩,
   ⟨(some 10), .load true 6 (.t 9), none, []⟩,
   ⟨(some 11), .fa 11 (.t 1), none, []⟩,
   ⟨(some 12), .load false 1 (.t 11), none, []⟩,
   ⟨(some 13), .callF 24 [(.t 8), (.t 10), (.t 12)], none, []⟩,
   ⟨(some 6), .mv (.t 13), none, []⟩,
   ⟨(some 14), .ext (.t 6) 0, none, []⟩,
   ⟨(some 15), .ext (.t 6) 1, none, []⟩,
   ⟨(some 4), .alloc [.nilS], none, []⟩,
   ⟨none, .store 1 (.t 4) (.t 14), none, []⟩,
   ⟨(some 5), .mv (.t 15), none, []⟩])
 (.seq (.ops [
   ⟨(some 16), .mv (.t 0), none, []⟩,
   ⟨(some 17), .load false 1 (.t 4), none, []⟩,
   ⟨(some 18), .callF 15 [(.t 16), (.t 17)], none, []⟩])
 (.seq (.ops [
   ⟨(some 19), .mv (.t 0), none, []⟩,
   ⟨(some 20), .mv (.t 5), none, []⟩,
   ⟨(some 21), .callF 9 [(.t 19), (.t 20)], none, []⟩])
 (.seq (.ops [
   ⟨(some 22), .mkF (.func 25) [] [(.t 4)], none, []⟩,
   ⟨(some 3), .mv (.t 22), none, []⟩])
 (.ret)))))
theorem k23 : compFunc Tryz.prog 23 = some (23, c23, [.t 3]) := by kernel_rfl
def c25 : ACode :=
 .ops [
   ⟨(some 1), .callF 17 [(.t 0)], none, []⟩]
theorem k25 : compFunc Tryz.prog 25 = some (2, c25, []) := by kernel_rfl
def c26 : ACode :=
 .seq (.ops [
   ⟨(some 3), .mv (.c .nilF), none, []⟩])
 (.seq (.ops [
   ⟨(some 7), .fa 0 (.t 1), none, []⟩,
   ⟨(some 8), .load true 4 (.t 7), none, []⟩,
   ⟨(some 9), .fa 4 (.t 1), none, []⟩,
   ⟨(some 10), .load true 6 (.t 9), none, []⟩,
   ⟨(some 11), .fa 11 (.t 1), none, []⟩,
   ⟨(some 12), .load false 1 (.t 11), none, []⟩,
   ⟨(some 13), .fa 12 (.t 1), none, []⟩,
   ⟨(some 14), .load false 1 (.t 13), none, []⟩,
   ⟨(some 15), .callF 27 [(.t 8), (.t 10), (.t 12), (.t 14)], none, []⟩,
   ⟨(some 6), .mv (.t 15), none, []⟩,
   ⟨(some 16), .ext (.t 6) 0, none, []⟩,
   ⟨(some 17), .ext (.t 6) 1, none, []⟩,
   ⟨(some 4), .mv (.t 16), none, []⟩,
   ⟨(some 5), .mv (.t 17), none, []⟩])
 (.seq (.ops [
   ⟨(some 18), .mv (.t 0), none, []⟩,
   ⟨(some 19), .mv (.t 4), none, []⟩,
   ⟨(some 20), .callF 8 [(.t 18), (.t 19)], none, []⟩])
 (.seq (.ops [
   ⟨(some 21), .mv (.t 0), none, []⟩,
   ⟨(some 22), .mv (.t 5), none, []⟩,
   ⟨(some 23), .callF 9 [(.t 21), (.t 22)], none, []⟩])
 (.seq (.ops [
   ⟨(some 3), .mv (.f 10), none, []⟩])
 (.ret)))))
theorem k26 : compFunc Tryz.prog 26 = some (24, c26, [.t 3]) := by kernel_rfl
def c28 : ACode :=
 .seq (.ops [
   ⟨(some 3), .mv (.c .nilF), none, []⟩])
 (.seq (.ops [
   ⟨(some 7), .fa 0 (.t 1), none, []⟩,
   ⟨(some 8), .load true 4 (.t 7), none, []⟩,
   ⟨(some 9), .fa 4 (.t 1), none, []⟩,
   ⟨(some 10), .load true 6 (.t 9), none, []⟩,
   ⟨(some 11), .fa 11 (.t 1), none, []⟩,
   ⟨(some 12), .load false 1 (.t 11), none, []⟩,
   ⟨(some 13), .callF 29 [(.t 8), (.t 10), (.t 12)], none, []⟩,
   ⟨(some 6), .mv (.t 13), none, []⟩,
   ⟨(some 14), .ext (.t 6) 0, none, []⟩,
   ⟨(some 15), .ext (.t 6) 1, none, []⟩,
   ⟨(some 4), .alloc [.nilS], none, []⟩,
   ⟨none, .store 1 (.t 4) (.t 14), none, []⟩,
   ⟨(some 5), .mv (.t 15), none, []⟩])
 (.seq (.ops [
   ⟨(some 16), .mv (.t 0), none, []⟩,
   ⟨(some 17), .load false 1 (.t 4), none, []⟩,
   ⟨(some 18), .callF 30 [(.t 16), (.t 17)], none, []⟩])
 (.seq (.ops [
   ⟨(some 19), .mv (.t 0), none, []⟩,
   ⟨(some 20), .mv (.t 5), none, []⟩,
   ⟨(some 21), .callF 9 [(.t 19), (.t 20)], none, []⟩])
 (.seq (.ops [
   ⟨(some 22), .mkF (.func 31) [] [(.t 4)], none, []⟩,
   ⟨(some 3), .mv (.t 22), none, []⟩])
 (.ret)))))
theorem k28 : compFunc Tryz.prog 28 = some (23, c28, [.t 3]) := by kernel_rfl
def c31 : ACode :=
 .ops [
   ⟨(some 1), .callF 32 [(.t 0)], none, []⟩]
theorem k31 : compFunc Tryz.prog 31 = some (2, c31, []) := by kernel_rfl
def c33 : ACode :=
 .seq (.ops [
   ⟨(some 3), .mv (.c .nilF), none, []⟩])
 (.seq (.ops [
   ⟨(some 7), .fa 0 (.t 1), none, []⟩,
   ⟨(some 8), .load true 4 (.t 7), none, []⟩,
   ⟨(some 9), .fa 4 (.t 1), none, []⟩,
   ⟨(some 10), .load true 6 (.t 9), none, []⟩,
   ⟨(some 11), .fa 11 (.t 1), none, []⟩,
   ⟨(some 12), .load false 1 (.t 11), none, []⟩,
   ⟨(some 13), .fa 13 (.t 1), none, []⟩,
   ⟨(some 14), .load false 1 (.t 13), none, []⟩,
   ⟨(some 15), .callF 34 [(.t 8), (.t 10), (.t 12), (.t 14)], none, []⟩,
   ⟨(some 6), .mv (.t 15), none, []⟩,
   ⟨(some 16), .ext (.t 6) 0, none, []⟩,
   ⟨(some 17), .ext (.t 6) 1, none, []⟩,
   ⟨(some 4), .alloc [(.int .i64 0), (.int .i64 0), (.int .i64 0)], none, []⟩,
   ⟨none, .store 3 (.t 4) (.t 16), none, []⟩,
   ⟨(some 5), .mv (.t 17), none, []⟩])
 (.seq (.ops [
   ⟨(some 18), .mv (.t 0), none, []⟩,
   ⟨(some 19), .load true 3 (.t 4), none, []⟩,
   ⟨(some 20), .callF 35 [(.t 18), (.t 19)], none, []⟩])
 (.seq (.ops [
   ⟨(some 21), .mv (.t 0), none, []⟩,
   ⟨(some 22), .mv (.t 5), none, []⟩,
   ⟨(some 23), .callF 9 [(.t 21), (.t 22)], none, []⟩])
 (.seq (.ops [
   ⟨(some 3), .mv (.f 10), none, []⟩])
 (.ret)))))
theorem k33 : compFunc Tryz.prog 33 = some (24, c33, [.t 3]) := by kernel_rfl
def c7 : ACode :=
 .seq (.ops [
   ⟨(some 1), .box (.t 0), none, []⟩,
   ⟨(some 2), .mv (.c (.int .i64 0)), none, []⟩,
   ⟨(some 3), .mv (.c (.int .i64 0)), none, []⟩,
   ⟨(some 4), .mv (.c (.int .i64 0)), none, []⟩])
 (.seq (.block 0 (.seq (.ops [
   ⟨(some 13), .fa 0 (.t 1), none, []⟩,
   ⟨(some 14), .load false 1 (.t 13), none, []⟩,
   ⟨(some 15), .callF 41 [(.t 14), (.c (.int .i64 1)), (.c (.int .i64 16))], none, []⟩,
   ⟨(some 16), .mv (.t 15), none, []⟩,
   ⟨(some 17), .fa 1 (.t 1), (some (16, false)), []⟩,
   ⟨(some 18), .load false 1 (.t 17), (some (16, false)), []⟩,
   ⟨(some 19), .callF 41 [(.t 18), (.c (.int .i64 1)), (.c (.int .i64 20))], (some (16, false)), []⟩,
   ⟨(some 20), .pick (.t 16) (.c (.bool true)) (.t 19), none, []⟩,
   ⟨(some 12), .mv (.t 20), none, []⟩])
 (.cond (.t 12)
  (.seq (.ops [
    ⟨(some 2), .mv (.c (.int .i64 1)), none, []⟩,
    ⟨(some 3), .mv (.c (.int .i64 0)), none, []⟩,
    ⟨(some 4), .mv (.c (.int .i64 7)), none, []⟩])
  (.ret))
  (.seq (.ops [
    ⟨(some 22), .fa 2 (.t 1), none, []⟩,
    ⟨(some 23), .load false 1 (.t 22), none, []⟩,
    ⟨(some 24), .lenS (.t 23), none, []⟩,
    ⟨(some 25), .callF 41 [(.t 24), (.c (.int .i64 1)), (.c (.int .i64 60))], none, []⟩,
    ⟨(some 26), .mv (.t 25), none, []⟩,
    ⟨(some 27), .fa 3 (.t 1), (some (26, false)), []⟩,
    ⟨(some 28), .load false 1 (.t 27), (some (26, false)), []⟩,
    ⟨(some 29), .lenS (.t 28), (some (26, false)), []⟩,
    ⟨(some 30), .bin .gtr .int (.t 29) (.c (.int .i64 60)), (some (26, false)), []⟩,
    ⟨(some 31), .pick (.t 26) (.c (.bool true)) (.t 30), none, []⟩,
    ⟨(some 21), .mv (.t 31), none, []⟩])
  (.cond (.t 21)
   (.seq (.ops [
     ⟨(some 2), .mv (.c (.int .i64 1)), none, []⟩,
     ⟨(some 3), .mv (.c (.int .i64 0)), none, []⟩,
     ⟨(some 4), .mv (.c (.int .i64 3)), none, []⟩])
   (.ret))
   (.skip))))))
 (.seq (.ops [
   ⟨(some 32), .mkM (.one .str), none, []⟩,
   ⟨(some 5), .mv (.t 32), none, []⟩])
 (.seq (.seq (.ops [
   ⟨(some 33), .fa 2 (.t 1), none, []⟩,
   ⟨(some 34), .load false 1 (.t 33), none, []⟩,
   ⟨(some 35), .lenS (.t 34), none, []⟩,
   ⟨(some 36), .mv (.c (.int .i64 0)), none, []⟩])
 (.block 1 (.loop (.seq (.ops [
    ⟨(some 37), .bin .lss .int (.t 36) (.t 35), none, []⟩])
  (.seq (.cond (.t 37)
   (.skip)
   (.exit 1))
  (.seq (.block 2 (.seq (.ops [
    ⟨(some 38), .mv (.t 36), none, []⟩,
    ⟨(some 39), .ixS 3 (.t 34) (.t 36), none, []⟩,
    ⟨(some 40), .load true 3 (.t 39), none, []⟩,
    ⟨(some 7), .alloc [(.str .empty), (.int .i64 0), .nilS], none, []⟩,
    ⟨(some 6), .mv (.t 38), none, []⟩,
    ⟨none, .store 3 (.t 7) (.t 40), none, []⟩])
  (.seq (.block 3 (.seq (.ops [
    ⟨(some 42), .fa 0 (.t 7), none, []⟩,
    ⟨(some 43), .load false 1 (.t 42), none, []⟩,
    ⟨(some 44), .callF 42 [(.t 43)], none, []⟩,
    ⟨(some 45), .mv (.t 44), none, []⟩,
    ⟨(some 46), .fa 0 (.t 7), (some (45, false)), []⟩,
    ⟨(some 47), .load false 1 (.t 46), (some (45, false)), []⟩,
    ⟨(some 48), .lenStr (.t 47), (some (45, false)), []⟩,
    ⟨(some 49), .bin .gtr .int (.t 48) (.c (.int .i64 3)), (some (45, false)), []⟩,
    ⟨(some 50), .pick (.t 45) (.c (.bool true)) (.t 49), none, []⟩,
    ⟨(some 41), .mv (.t 50), none, []⟩])
  (.cond (.t 41)
   (.seq (.ops [
     ⟨(some 51), .mv (.t 6), none, []⟩,
     ⟨(some 2), .mv (.c (.int .i64 2)), none, []⟩,
     ⟨(some 3), .mv (.t 51), none, []⟩,
     ⟨(some 4), .mv (.c (.int .i64 6)), none, []⟩])
   (.ret))
   (.seq (.ops [
     ⟨(some 53), .mv (.t 5), none, []⟩,
     ⟨(some 54), .fa 0 (.t 7), none, []⟩,
     ⟨(some 55), .load false 1 (.t 54), none, []⟩,
     ⟨(some 56), .look (.one .str) (.bool false) (.t 53) (.t 55) false, none, []⟩,
     ⟨(some 52), .mv (.t 56), none, []⟩])
   (.cond (.t 52)
    (.seq (.ops [
      ⟨(some 57), .mv (.t 6), none, []⟩,
      ⟨(some 2), .mv (.c (.int .i64 2)), none, []⟩,
      ⟨(some 3), .mv (.t 57), none, []⟩,
      ⟨(some 4), .mv (.c (.int .i64 5)), none, []⟩])
    (.ret))
    (.seq (.ops [
      ⟨(some 59), .fa 1 (.t 7), none, []⟩,
      ⟨(some 60), .load false 1 (.t 59), none, []⟩,
      ⟨(some 61), .callF 41 [(.t 60), (.c (.int .i64 1)), (.c (.int .i64 12))], none, []⟩,
      ⟨(some 58), .mv (.t 61), none, []⟩])
    (.cond (.t 58)
     (.seq (.ops [
       ⟨(some 62), .mv (.t 6), none, []⟩,
       ⟨(some 2), .mv (.c (.int .i64 2)), none, []⟩,
       ⟨(some 3), .mv (.t 62), none, []⟩,
       ⟨(some 4), .mv (.c (.int .i64 7)), none, []⟩])
     (.ret))
     (.seq (.ops [
       ⟨(some 64), .fa 2 (.t 7), none, []⟩,
       ⟨(some 65), .load false 1 (.t 64), none, []⟩,
       ⟨(some 66), .lenS (.t 65), none, []⟩,
       ⟨(some 67), .fa 0 (.t 1), none, []⟩,
       ⟨(some 68), .load false 1 (.t 67), none, []⟩,
       ⟨(some 69), .bin .neq .int (.t 66) (.t 68), none, []⟩,
       ⟨(some 63), .mv (.t 69), none, []⟩])
     (.cond (.t 63)
      (.seq (.ops [
        ⟨(some 70), .mv (.t 6), none, []⟩,
        ⟨(some 2), .mv (.c (.int .i64 2)), none, []⟩,
        ⟨(some 3), .mv (.t 70), none, []⟩,
        ⟨(some 4), .mv (.c (.int .i64 2)), none, []⟩])
      (.ret))
      (.seq (.ops [
        ⟨(some 72), .fa 2 (.t 7), none, []⟩,
        ⟨(some 73), .load false 1 (.t 72), none, []⟩,
        ⟨(some 74), .mkF (.func 44) [] [(.t 7)], none, []⟩,
        ⟨(some 75), .callF 43 [(.t 73), (.t 74)], none, []⟩,
        ⟨(some 71), .mv (.t 75), none, []⟩])
      (.cond (.t 71)
       (.seq (.ops [
         ⟨(some 76), .mv (.t 6), none, []⟩,
         ⟨(some 2), .mv (.c (.int .i64 2)), none, []⟩,
         ⟨(some 3), .mv (.t 76), none, []⟩,
         ⟨(some 4), .mv (.c (.int .i64 7)), none, []⟩])
       (.ret))
       (.skip))))))))))))
  (.ops [
    ⟨(some 77), .mv (.t 5), none, []⟩,
    ⟨(some 78), .fa 0 (.t 7), none, []⟩,
    ⟨(some 79), .load false 1 (.t 78), none, []⟩,
    ⟨none, .upd (.one .str) (.t 77) (.t 79) (.c (.bool true)), none, []⟩]))))
  (.ops [
    ⟨(some 80), .bin .add .int (.t 36) (.c (.int .i64 1)), none, []⟩,
    ⟨(some 36), .mv (.t 80), none, []⟩])))))))
 (.seq (.ops [
   ⟨(some 81), .mkM (.tup [(.int .i64), (.int .i64)]), none, []⟩,
   ⟨(some 8), .mv (.t 81), none, []⟩])
 (.seq (.seq (.ops [
   ⟨(some 82), .fa 3 (.t 1), none, []⟩,
   ⟨(some 83), .load false 1 (.t 82), none, []⟩,
   ⟨(some 84), .lenS (.t 83), none, []⟩,
   ⟨(some 85), .mv (.c (.int .i64 0)), none, []⟩])
 (.block 4 (.loop (.seq (.ops [
    ⟨(some 86), .bin .lss .int (.t 85) (.t 84), none, []⟩])
  (.seq (.cond (.t 86)
   (.skip)
   (.exit 4))
  (.seq (.block 5 (.seq (.ops [
    ⟨(some 87), .mv (.t 85), none, []⟩,
    ⟨(some 88), .ixS 3 (.t 83) (.t 85), none, []⟩,
    ⟨(some 89), .load true 3 (.t 88), none, []⟩,
    ⟨(some 10), .alloc [(.int .i64 0), (.int .i64 0), (.int .i64 0)], none, []⟩,
    ⟨(some 9), .mv (.t 87), none, []⟩,
    ⟨none, .store 3 (.t 10) (.t 89), none, []⟩])
  (.seq (.ops [
    ⟨(some 90), .fa 0 (.t 10), none, []⟩,
    ⟨(some 91), .load false 1 (.t 90), none, []⟩,
    ⟨(some 92), .fa 1 (.t 10), none, []⟩,
    ⟨(some 93), .load false 1 (.t 92), none, []⟩,
    ⟨(some 94), .build [(.int .i64 0), (.int .i64 0)] [(0, 1, (.t 91)), (1, 1, (.t 93))], none, []⟩,
    ⟨(some 11), .alloc [(.int .i64 0), (.int .i64 0)], none, []⟩,
    ⟨none, .store 2 (.t 11) (.t 94), none, []⟩])
  (.seq (.block 6 (.seq (.ops [
    ⟨(some 96), .fa 0 (.t 10), none, []⟩,
    ⟨(some 97), .load false 1 (.t 96), none, []⟩,
    ⟨(some 98), .fa 2 (.t 1), none, []⟩,
    ⟨(some 99), .load false 1 (.t 98), none, []⟩,
    ⟨(some 100), .lenS (.t 99), none, []⟩,
    ⟨(some 101), .bin .sub .int (.t 100) (.c (.int .i64 1)), none, []⟩,
    ⟨(some 102), .callF 41 [(.t 97), (.c (.int .i64 0)), (.t 101)], none, []⟩,
    ⟨(some 103), .mv (.t 102), none, []⟩,
    ⟨(some 104), .fa 1 (.t 10), (some (103, false)), []⟩,
    ⟨(some 105), .load false 1 (.t 104), (some (103, false)), []⟩,
    ⟨(some 106), .fa 2 (.t 1), (some (103, false)), []⟩,
    ⟨(some 107), .load false 1 (.t 106), (some (103, false)), []⟩,
    ⟨(some 108), .lenS (.t 107), (some (103, false)), []⟩,
    ⟨(some 109), .bin .sub .int (.t 108) (.c (.int .i64 1)), (some (103, false)), []⟩,
    ⟨(some 110), .callF 41 [(.t 105), (.c (.int .i64 0)), (.t 109)], (some (103, false)), []⟩,
    ⟨(some 111), .pick (.t 103) (.c (.bool true)) (.t 110), none, []⟩,
    ⟨(some 95), .mv (.t 111), none, []⟩])
  (.cond (.t 95)
   (.seq (.ops [
     ⟨(some 112), .mv (.t 9), none, []⟩,
     ⟨(some 2), .mv (.c (.int .i64 3)), none, []⟩,
     ⟨(some 3), .mv (.t 112), none, []⟩,
     ⟨(some 4), .mv (.c (.int .i64 4)), none, []⟩])
   (.ret))
   (.seq (.ops [
     ⟨(some 114), .mv (.t 8), none, []⟩,
     ⟨(some 115), .load true 2 (.t 11), none, []⟩,
     ⟨(some 116), .look (.tup [(.int .i64), (.int .i64)]) (.bool false) (.t 114) (.t 115) false, none, []⟩,
     ⟨(some 113), .mv (.t 116), none, []⟩])
   (.cond (.t 113)
    (.seq (.ops [
      ⟨(some 117), .mv (.t 9), none, []⟩,
      ⟨(some 2), .mv (.c (.int .i64 3)), none, []⟩,
      ⟨(some 3), .mv (.t 117), none, []⟩,
      ⟨(some 4), .mv (.c (.int .i64 5)), none, []⟩])
    (.ret))
    (.seq (.ops [
      ⟨(some 119), .fa 2 (.t 10), none, []⟩,
      ⟨(some 120), .load false 1 (.t 119), none, []⟩,
      ⟨(some 121), .callF 41 [(.t 120), (.c (.int .i64 (-12))), (.c (.int .i64 12))], none, []⟩,
      ⟨(some 118), .mv (.t 121), none, []⟩])
    (.cond (.t 118)
     (.seq (.ops [
       ⟨(some 122), .mv (.t 9), none, []⟩,
       ⟨(some 2), .mv (.c (.int .i64 3)), none, []⟩,
       ⟨(some 3), .mv (.t 122), none, []⟩,
       ⟨(some 4), .mv (.c (.int .i64 7)), none, []⟩])
     (.ret))
     (.seq (.dr [
       ⟨(some 124), .fa 2 (.t 1), none, []⟩,
       ⟨(some 125), .load false 1 (.t 124), none, [0]⟩,
       ⟨(some 126), .fa 0 (.t 10), none, []⟩,
       ⟨(some 127), .load false 1 (.t 126), none, [2]⟩,
       ⟨(some 128), .ixS 3 (.t 125) (.t 127), none, [1, 3]⟩,
       ⟨(some 129), .fa 1 (.t 128), none, [4]⟩,
       ⟨(some 130), .load false 1 (.t 129), none, [5]⟩,
       ⟨(some 131), .fa 2 (.t 10), none, []⟩,
       ⟨(some 132), .load false 1 (.t 131), none, [7]⟩,
       ⟨(some 133), .bin .add .int (.t 130) (.t 132), none, [6, 8]⟩,
       ⟨(some 134), .bin .lss .int (.t 133) (.c (.int .i64 1)), none, [9]⟩,
       ⟨(some 123), .mv (.t 134), none, [10]⟩])
     (.cond (.t 123)
      (.seq (.ops [
        ⟨(some 135), .mv (.t 9), none, []⟩,
        ⟨(some 2), .mv (.c (.int .i64 3)), none, []⟩,
        ⟨(some 3), .mv (.t 135), none, []⟩,
        ⟨(some 4), .mv (.c (.int .i64 2)), none, []⟩])
      (.ret))
      (.skip))))))))))
  (.ops [
    ⟨(some 136), .mv (.t 8), none, []⟩,
    ⟨(some 137), .load true 2 (.t 11), none, []⟩,
    ⟨none, .upd (.tup [(.int .i64), (.int .i64)]) (.t 136) (.t 137) (.c (.bool true)), none, []⟩])))))
  (.ops [
    ⟨(some 138), .bin .add .int (.t 85) (.c (.int .i64 1)), none, []⟩,
    ⟨(some 85), .mv (.t 138), none, []⟩])))))))
 (.seq (.ops [
   ⟨(some 2), .mv (.c (.int .i64 0)), none, []⟩,
   ⟨(some 3), .mv (.c (.int .i64 0)), none, []⟩,
   ⟨(some 4), .mv (.c (.int .i64 0)), none, []⟩])
 (.ret)))))))
def m7_0 : List Nat := [37, 38, 39, 40, 7, 6, 42, 43, 44, 45, 46, 47, 48, 49, 50, 41, 51, 2, 3, 4, 53, 54, 55, 56, 52, 57, 59, 60, 61, 58, 62, 64, 65, 66, 67, 68, 69, 63, 70, 72, 73, 74, 75, 71, 76, 77, 78, 79, 80, 36]
def m7_1 : List Nat := [86, 87, 88, 89, 10, 9, 90, 91, 92, 93, 94, 11, 96, 97, 98, 99, 100, 101, 102, 103, 104, 105, 106, 107, 108, 109, 110, 111, 95, 112, 2, 3, 4, 114, 115, 116, 113, 117, 119, 120, 121, 118, 122, 124, 125, 126, 127, 128, 129, 130, 131, 132, 133, 134, 123, 135, 136, 137, 138, 85]
theorem k7 : compFunc Tryz.prog 7 = some (139, c7, [.t 2, .t 3, .t 4]) := by kernel_rfl
def c12 : ACode :=
 .seq (.ops [
   ⟨(some 2), .box (.t 0), none, []⟩,
   ⟨(some 3), .box (.t 1), none, []⟩,
   ⟨(some 4), .alloc [(.int .i64 0)], none, []⟩])
 (.seq (.ops [
   ⟨none, .dfr (.f 45) [(.t 4)], none, []⟩])
 (.seq (.ops [
   ⟨(some 5), .load true 4 (.t 2), none, []⟩,
   ⟨(some 6), .load true 6 (.t 3), none, []⟩,
   ⟨(some 7), .callF 46 [(.t 5), (.t 6)], none, []⟩])
 (.seq (.ops [
   ⟨none, .store 1 (.t 4) (.c (.int .i64 0)), none, []⟩])
 (.ret))))
theorem k12 : compFunc Tryz.prog 12 = some (8, c12, [.cell 4 false 1]) := by kernel_rfl
def c14 : ACode :=
 .seq (.ops [
   ⟨(some 2), .box (.t 0), none, []⟩,
   ⟨(some 4), .mv (.c .nilS), none, []⟩,
   ⟨(some 5), .mv (.c (.int .i64 0)), none, []⟩,
   ⟨(some 6), .alloc [(.int .i64 0)], none, []⟩])
 (.seq (.ops [
   ⟨none, .dfr (.f 45) [(.t 6)], none, []⟩])
 (.seq (.ops [
   ⟨(some 9), .load true 4 (.t 2), none, []⟩,
   ⟨(some 10), .callF 47 [(.t 9)], none, []⟩,
   ⟨(some 7), .mv (.t 10), none, []⟩])
 (.seq (.ops [
   ⟨(some 11), .mv (.t 1), none, []⟩,
   ⟨(some 12), .callF 42 [(.t 11)], none, []⟩,
   ⟨(some 13), .un .not (.t 12), none, []⟩,
   ⟨(some 14), .mv (.t 13), none, []⟩,
   ⟨(some 15), .mv (.t 1), (some (14, true)), []⟩,
   ⟨(some 16), .lenStr (.t 15), (some (14, true)), []⟩,
   ⟨(some 17), .bin .leq .int (.t 16) (.c (.int .i64 24)), (some (14, true)), []⟩,
   ⟨(some 18), .pick (.t 14) (.t 17) (.c (.bool false)), none, []⟩,
   ⟨(some 19), .callF 48 [(.t 18), (.c (.int .i64 6))], none, []⟩])
 (.seq (.ops [
   ⟨(some 20), .mv (.t 7), none, []⟩,
   ⟨(some 21), .mv (.t 1), none, []⟩,
   ⟨(some 22), .callF 49 [(.t 20), (.t 21)], none, []⟩,
   ⟨(some 8), .alloc [(.str .empty), .nilS, .nilS, (.int .i64 0)], none, []⟩,
   ⟨none, .store 4 (.t 8) (.t 22), none, []⟩])
 (.seq (.dr [
   ⟨(some 23), .fa 1 (.t 8), none, []⟩,
   ⟨(some 24), .load false 1 (.t 23), none, [0]⟩,
   ⟨(some 25), .fa 3 (.t 8), none, []⟩,
   ⟨(some 26), .load false 1 (.t 25), none, [2]⟩,
   ⟨(some 4), .mv (.t 24), none, [1, 0, 1]⟩,
   ⟨(some 5), .mv (.t 26), none, [3, 4, 0, 1, 2, 3, 4]⟩,
   ⟨none, .store 1 (.t 6) (.c (.int .i64 0)), none, [5, 0, 1, 2, 3, 4, 5]⟩])
 (.ret))))))
theorem k14 : compFunc Tryz.prog 14 = some (27, c14, [.t 4, .t 5, .cell 6 false 1]) := by kernel_rfl
def c19 : ACode :=
 .seq (.ops [
   ⟨(some 3), .box (.t 0), none, []⟩,
   ⟨(some 4), .box (.t 1), none, []⟩,
   ⟨(some 6), .alloc [.nilS], none, []⟩,
   ⟨(some 7), .alloc [(.int .i64 0)], none, []⟩])
 (.seq (.ops [
   ⟨none, .dfr (.f 45) [(.t 7)], none, []⟩])
 (.seq (.seq (.ops [
   ⟨(some 10), .load true 4 (.t 3), none, []⟩,
   ⟨(some 11), .load true 6 (.t 4), none, []⟩,
   ⟨(some 12), .mv (.t 2), none, []⟩,
   ⟨(some 13), .callF 53 [(.t 10), (.t 11), (.t 12)], none, []⟩,
   ⟨(some 14), .callF 54 [(.t 13)], none, []⟩])
 (.block 0 (.rangeF (.t 14) [15, 16] (.ops [
    ⟨(some 9), .alloc [(.int .i64 0), (.int .i64 0), (.int .i64 0), (.int .i64 0)], none, []⟩,
    ⟨none, .store 4 (.t 9) (.t 16), none, []⟩])
  (.block 1 (.ops [
    ⟨(some 17), .load false 1 (.t 6), none, []⟩,
    ⟨(some 18), .load true 4 (.t 9), none, []⟩,
    ⟨(some 19), .buildS 4 [(.int .i64 0), (.int .i64 0), (.int .i64 0), (.int .i64 0)] 1 [(0, (.t 18))], none, []⟩,
    ⟨(some 20), .app 4 32 (.t 17) (.t 19), none, []⟩,
    ⟨none, .store 1 (.t 6) (.t 20), none, []⟩])))))
 (.seq (.ops [
   ⟨(some 21), .load false 1 (.t 6), none, []⟩,
   ⟨none, .store 1 (.t 6) (.t 21), none, []⟩,
   ⟨none, .store 1 (.t 7) (.c (.int .i64 0)), none, []⟩])
 (.ret))))
theorem k19 : compFunc Tryz.prog 19 = some (22, c19, [.cell 6 false 1, .cell 7 false 1]) := by kernel_rfl
def c24 : ACode :=
 .seq (.ops [
   ⟨(some 3), .box (.t 0), none, []⟩,
   ⟨(some 4), .box (.t 1), none, []⟩,
   ⟨(some 6), .mv (.c .nilS), none, []⟩,
   ⟨(some 7), .alloc [(.int .i64 0)], none, []⟩])
 (.seq (.ops [
   ⟨none, .dfr (.f 45) [(.t 7)], none, []⟩])
 (.seq (.seq (.ops [
   ⟨(some 10), .load true 4 (.t 3), none, []⟩,
   ⟨(some 11), .load true 6 (.t 4), none, []⟩,
   ⟨(some 12), .mv (.t 2), none, []⟩,
   ⟨(some 13), .callF 53 [(.t 10), (.t 11), (.t 12)], none, []⟩,
   ⟨(some 14), .nilck (.t 13), none, []⟩,
   ⟨(some 15), .fa 2 (.t 14), none, []⟩,
   ⟨(some 16), .load false 1 (.t 15), none, []⟩,
   ⟨(some 17), .lenS (.t 16), none, []⟩,
   ⟨(some 18), .mv (.c (.int .i64 0)), none, []⟩])
 (.block 0 (.loop (.seq (.ops [
    ⟨(some 19), .bin .lss .int (.t 18) (.t 17), none, []⟩])
  (.seq (.cond (.t 19)
   (.skip)
   (.exit 0))
  (.seq (.block 1 (.seq (.ops [
    ⟨(some 20), .ixS 3 (.t 16) (.t 18), none, []⟩,
    ⟨(some 21), .load true 3 (.t 20), none, []⟩,
    ⟨(some 9), .alloc [(.int .i64 0), (.int .i64 0), (.int .i64 0)], none, []⟩,
    ⟨none, .store 3 (.t 9) (.t 21), none, []⟩])
  (.ops [
    ⟨(some 22), .mv (.t 6), none, []⟩,
    ⟨(some 23), .fa 0 (.t 9), none, []⟩,
    ⟨(some 24), .load false 1 (.t 23), none, []⟩,
    ⟨(some 25), .buildS 1 [(.int .i64 0)] 1 [(0, (.t 24))], none, []⟩,
    ⟨(some 26), .app 1 8 (.t 22) (.t 25), none, []⟩,
    ⟨(some 6), .mv (.t 26), none, []⟩])))
  (.ops [
    ⟨(some 27), .bin .add .int (.t 18) (.c (.int .i64 1)), none, []⟩,
    ⟨(some 18), .mv (.t 27), none, []⟩])))))))
 (.seq (.ops [
   ⟨(some 28), .mv (.t 6), none, []⟩,
   ⟨(some 6), .mv (.t 28), none, []⟩,
   ⟨none, .store 1 (.t 7) (.c (.int .i64 0)), none, []⟩])
 (.ret))))
def m24_0 : List Nat := [19, 20, 21, 9, 22, 23, 24, 25, 26, 6, 27, 18]
theorem k24 : compFunc Tryz.prog 24 = some (29, c24, [.t 6, .cell 7 false 1]) := by kernel_rfl
def c27 : ACode :=
 .seq (.ops [
   ⟨(some 4), .box (.t 0), none, []⟩,
   ⟨(some 5), .box (.t 1), none, []⟩,
   ⟨(some 8), .mv (.c (.int .i64 0)), none, []⟩,
   ⟨(some 9), .alloc [(.int .i64 0)], none, []⟩])
 (.seq (.ops [
   ⟨none, .dfr (.f 45) [(.t 9)], none, []⟩])
 (.seq (.ops [
   ⟨(some 18), .load true 4 (.t 4), none, []⟩,
   ⟨(some 19), .load true 6 (.t 5), none, []⟩,
   ⟨(some 20), .mv (.t 2), none, []⟩,
   ⟨(some 21), .callF 53 [(.t 18), (.t 19), (.t 20)], none, []⟩,
   ⟨(some 10), .mv (.t 21), none, []⟩])
 (.seq (.ops [
   ⟨(some 11), .mv (.c (.int .i64 0)), none, []⟩])
 (.seq (.seq (.ops [
   ⟨(some 22), .mv (.t 3), none, []⟩,
   ⟨(some 23), .lenS (.t 22), none, []⟩,
   ⟨(some 24), .mv (.c (.int .i64 0)), none, []⟩])
 (.block 0 (.loop (.seq (.ops [
    ⟨(some 25), .bin .lss .int (.t 24) (.t 23), none, []⟩])
  (.seq (.cond (.t 25)
   (.skip)
   (.exit 0))
  (.seq (.block 1 (.seq (.ops [
    ⟨(some 26), .ixS 1 (.t 22) (.t 24), none, []⟩,
    ⟨(some 27), .load false 1 (.t 26), none, []⟩,
    ⟨(some 13), .mv (.t 27), none, []⟩])
  (.seq (.ops [
    ⟨(some 28), .mv (.t 13), none, []⟩,
    ⟨(some 29), .mv (.t 11), none, []⟩,
    ⟨(some 30), .bin .add .int (.t 29) (.c (.int .i64 1)), none, []⟩,
    ⟨(some 31), .mv (.t 10), none, []⟩,
    ⟨(some 32), .nilck (.t 31), none, []⟩,
    ⟨(some 33), .fa 1 (.t 32), none, []⟩,
    ⟨(some 34), .load false 1 (.t 33), none, []⟩,
    ⟨(some 35), .lenS (.t 34), none, []⟩,
    ⟨(some 36), .callF 41 [(.t 28), (.t 30), (.t 35)], none, []⟩,
    ⟨(some 37), .un .not (.t 36), none, []⟩,
    ⟨(some 38), .callF 48 [(.t 37), (.c (.int .i64 2))], none, []⟩])
  (.ops [
    ⟨(some 39), .mv (.t 13), none, []⟩,
    ⟨(some 11), .mv (.t 39), none, []⟩]))))
  (.ops [
    ⟨(some 40), .bin .add .int (.t 24) (.c (.int .i64 1)), none, []⟩,
    ⟨(some 24), .mv (.t 40), none, []⟩])))))))
 (.seq (.ops [
   ⟨(some 41), .mv (.t 11), none, []⟩,
   ⟨(some 42), .mv (.t 10), none, []⟩,
   ⟨(some 43), .nilck (.t 42), none, []⟩,
   ⟨(some 44), .fa 1 (.t 43), none, []⟩,
   ⟨(some 45), .load false 1 (.t 44), none, []⟩,
   ⟨(some 46), .lenS (.t 45), none, []⟩,
   ⟨(some 47), .bin .eql .int (.t 41) (.t 46), none, []⟩,
   ⟨(some 48), .callF 48 [(.t 47), (.c (.int .i64 2))], none, []⟩])
 (.seq (.ops [
   ⟨(some 11), .mv (.c (.int .i64 0)), none, []⟩,
   ⟨(some 14), .mv (.c (.int .i64 0)), none, []⟩])
 (.seq (.seq (.ops [
   ⟨(some 49), .mv (.t 3), none, []⟩,
   ⟨(some 50), .lenS (.t 49), none, []⟩,
   ⟨(some 51), .mv (.c (.int .i64 0)), none, []⟩])
 (.block 2 (.loop (.seq (.ops [
    ⟨(some 52), .bin .lss .int (.t 51) (.t 50), none, []⟩])
  (.seq (.cond (.t 52)
   (.skip)
   (.exit 2))
  (.seq (.block 3 (.seq (.ops [
    ⟨(some 53), .ixS 1 (.t 49) (.t 51), none, []⟩,
    ⟨(some 54), .load false 1 (.t 53), none, []⟩,
    ⟨(some 16), .mv (.t 54), none, []⟩])
  (.seq (.ops [
    ⟨(some 55), .mv (.t 10), none, []⟩,
    ⟨(some 56), .mv (.t 11), none, []⟩,
    ⟨(some 57), .mv (.t 16), none, []⟩,
    ⟨(some 58), .callF 59 [(.t 55), (.t 56), (.t 57)], none, []⟩,
    ⟨(some 17), .alloc [(.int .i64 0), (.int .i64 0), (.int .i64 0), (.int .i64 0)], none, []⟩,
    ⟨none, .store 4 (.t 17) (.t 58), none, []⟩])
  (.seq (.dr [
    ⟨(some 59), .fa 2 (.t 17), none, []⟩,
    ⟨(some 60), .load false 1 (.t 59), none, [0]⟩,
    ⟨(some 61), .mv (.t 10), none, []⟩,
    ⟨(some 62), .nilck (.t 61), none, [2]⟩,
    ⟨(some 63), .fa 0 (.t 62), none, [3]⟩,
    ⟨(some 64), .load false 1 (.t 63), none, [4]⟩,
    ⟨(some 65), .nilck (.t 64), none, [5]⟩,
    ⟨(some 66), .fa 4 (.t 65), none, [6]⟩,
    ⟨(some 67), .fa 0 (.t 66), none, [7]⟩,
    ⟨(some 68), .load false 1 (.t 67), none, [8]⟩,
    ⟨(some 69), .bin .leq .int (.t 60) (.t 68), none, [1, 9]⟩,
    ⟨(some 70), .callF 48 [(.t 69), (.c (.int .i64 202))], none, [10]⟩])
  (.dr [
    ⟨(some 71), .mv (.t 16), none, []⟩,
    ⟨(some 72), .mv (.t 14), none, []⟩,
    ⟨(some 73), .fa 3 (.t 17), none, []⟩,
    ⟨(some 74), .load false 1 (.t 73), none, [2]⟩,
    ⟨(some 75), .bin .add .int (.t 72) (.t 74), none, [1, 3]⟩,
    ⟨(some 11), .mv (.t 71), none, [0, 0]⟩,
    ⟨(some 14), .mv (.t 75), none, [4, 5, 0, 1, 2, 3, 4, 5]⟩])))))
  (.ops [
    ⟨(some 76), .bin .add .int (.t 51) (.c (.int .i64 1)), none, []⟩,
    ⟨(some 51), .mv (.t 76), none, []⟩])))))))
 (.seq (.ops [
   ⟨(some 77), .mv (.t 14), none, []⟩,
   ⟨(some 8), .mv (.t 77), none, []⟩,
   ⟨none, .store 1 (.t 9) (.c (.int .i64 0)), none, []⟩])
 (.ret)))))))))
def m27_0 : List Nat := [25, 26, 27, 13, 28, 29, 30, 31, 32, 33, 34, 35, 36, 37, 38, 39, 11, 40, 24]
def m27_1 : List Nat := [52, 53, 54, 16, 55, 56, 57, 58, 17, 59, 60, 61, 62, 63, 64, 65, 66, 67, 68, 69, 70, 71, 72, 73, 74, 75, 11, 14, 76, 51]
theorem k27 : compFunc Tryz.prog 27 = some (78, c27, [.t 8, .cell 9 false 1]) := by kernel_rfl
def c29 : ACode :=
 .seq (.ops [
   ⟨(some 3), .box (.t 0), none, []⟩,
   ⟨(some 4), .box (.t 1), none, []⟩,
   ⟨(some 6), .alloc [.nilS], none, []⟩,
   ⟨(some 7), .alloc [(.int .i64 0)], none, []⟩])
 (.seq (.ops [
   ⟨none, .dfr (.f 45) [(.t 7)], none, []⟩])
 (.seq (.ops [
   ⟨(some 18), .load true 4 (.t 3), none, []⟩,
   ⟨(some 19), .load true 6 (.t 4), none, []⟩,
   ⟨(some 20), .mv (.t 2), none, []⟩,
   ⟨(some 21), .callF 53 [(.t 18), (.t 19), (.t 20)], none, []⟩,
   ⟨(some 8), .alloc [.nilP], none, []⟩,
   ⟨none, .store 1 (.t 8) (.t 21), none, []⟩])
 (.seq (.seq (.ops [
   ⟨(some 22), .load false 1 (.t 8), none, []⟩,
   ⟨(some 23), .callF 60 [(.t 22)], none, []⟩])
 (.block 0 (.rangeF (.t 23) [24, 25] (.seq (.ops [
    ⟨(some 9), .alloc [(.str .empty), .nilS, .nilS, (.int .i64 0)], none, []⟩,
    ⟨none, .store 4 (.t 9) (.t 24), none, []⟩])
  (.ops [
    ⟨(some 10), .alloc [(.int .i64 0), (.int .i64 0), (.int .i64 0)], none, []⟩,
    ⟨none, .store 3 (.t 10) (.t 25), none, []⟩]))
  (.block 1 (.seq (.seq (.ops [
    ⟨(some 26), .fa 0 (.t 10), none, []⟩,
    ⟨(some 27), .load false 1 (.t 26), none, []⟩,
    ⟨(some 28), .load false 1 (.t 6), none, []⟩,
    ⟨(some 29), .lenS (.t 28), none, []⟩,
    ⟨(some 30), .bin .eql .int (.t 27) (.t 29), none, []⟩])
  (.cond (.t 30)
   (.dr [
     ⟨(some 31), .load false 1 (.t 6), none, []⟩,
     ⟨(some 32), .load false 1 (.t 8), none, []⟩,
     ⟨(some 33), .nilck (.t 32), none, [1]⟩,
     ⟨(some 34), .fa 0 (.t 33), none, [2]⟩,
     ⟨(some 35), .load false 1 (.t 34), none, [3]⟩,
     ⟨(some 36), .nilck (.t 35), none, [4]⟩,
     ⟨(some 37), .fa 4 (.t 36), none, [5]⟩,
     ⟨(some 38), .fa 0 (.t 37), none, [6]⟩,
     ⟨(some 39), .load false 1 (.t 38), none, [7]⟩,
     ⟨(some 40), .load false 1 (.t 8), none, []⟩,
     ⟨(some 41), .nilck (.t 40), none, [9]⟩,
     ⟨(some 42), .fa 0 (.t 41), none, [10]⟩,
     ⟨(some 43), .load false 1 (.t 42), none, [11]⟩,
     ⟨(some 44), .callF 61 [(.t 43)], none, [12]⟩,
     ⟨(some 45), .load false 1 (.t 8), none, []⟩,
     ⟨(some 46), .nilck (.t 45), none, [14]⟩,
     ⟨(some 47), .fa 0 (.t 46), none, [15]⟩,
     ⟨(some 48), .load false 1 (.t 47), none, [16]⟩,
     ⟨(some 49), .nilck (.t 48), none, [17]⟩,
     ⟨(some 50), .fa 4 (.t 49), none, [18]⟩,
     ⟨(some 51), .fa 0 (.t 50), none, [19]⟩,
     ⟨(some 52), .load false 1 (.t 51), none, [20]⟩,
     ⟨(some 53), .load false 1 (.t 8), none, []⟩,
     ⟨(some 54), .nilck (.t 53), none, [22]⟩,
     ⟨(some 55), .fa 0 (.t 54), none, [23]⟩,
     ⟨(some 56), .load false 1 (.t 55), none, [24]⟩,
     ⟨(some 57), .callF 61 [(.t 56)], none, [25, 13]⟩,
     ⟨(some 58), .bin .mul .int (.t 52) (.t 57), none, [21, 26]⟩,
     ⟨(some 59), .mkS [(.int .u8 0)] 1 (.t 58) (.t 58), none, [27, 27]⟩,
     ⟨(some 60), .build [(.int .i64 0), (.int .i64 0), .nilS] [(0, 1, (.t 39)), (1, 1, (.t 44)), (2, 1, (.t 59))], none, [8, 13, 28]⟩,
     ⟨(some 61), .buildS 3 [(.int .i64 0), (.int .i64 0), .nilS] 1 [(0, (.t 60))], none, [29]⟩,
     ⟨(some 62), .app 3 40 (.t 31) (.t 61), none, [0, 30, 26]⟩,
     ⟨none, .store 1 (.t 6) (.t 62), none, [31, 31, 0, 1, 2, 3, 4, 5, 6, 7, 8, 9, 10, 11, 12, 13, 14, 15, 16, 17, 18, 19, 20, 21, 22, 23, 24, 25, 26, 27, 28, 29, 30, 31]⟩])
   (.skip)))
  (.seq (.ops [
    ⟨(some 63), .fa 1 (.t 9), none, []⟩,
    ⟨(some 64), .load false 1 (.t 63), none, []⟩,
    ⟨(some 65), .lenS (.t 64), none, []⟩,
    ⟨(some 66), .mv (.c (.int .i64 0)), none, []⟩])
  (.block 2 (.loop (.seq (.ops [
     ⟨(some 67), .bin .lss .int (.t 66) (.t 65), none, []⟩])
   (.seq (.cond (.t 67)
    (.skip)
    (.exit 2))
   (.seq (.block 3 (.seq (.ops [
     ⟨(some 68), .mv (.t 66), none, []⟩,
     ⟨(some 69), .ixS 1 (.t 64) (.t 66), none, []⟩,
     ⟨(some 70), .load false 1 (.t 69), none, []⟩,
     ⟨(some 11), .mv (.t 68), none, []⟩,
     ⟨(some 12), .mv (.t 70), none, []⟩])
   (.seq (.ops [
     ⟨(some 71), .load false 1 (.t 8), none, []⟩,
     ⟨(some 72), .nilck (.t 71), none, []⟩,
     ⟨(some 73), .fa 0 (.t 72), none, []⟩,
     ⟨(some 74), .load false 1 (.t 73), none, []⟩,
     ⟨(some 75), .nilck (.t 74), none, []⟩,
     ⟨(some 76), .fa 0 (.t 75), none, []⟩,
     ⟨(some 77), .fa 2 (.t 76), none, []⟩,
     ⟨(some 78), .load false 1 (.t 77), none, []⟩,
     ⟨(some 79), .mv (.t 12), none, []⟩,
     ⟨(some 80), .ixS 3 (.t 78) (.t 79), none, []⟩,
     ⟨(some 81), .load true 3 (.t 80), none, []⟩,
     ⟨(some 13), .alloc [(.str .empty), (.int .i64 0), .nilS], none, []⟩,
     ⟨none, .store 3 (.t 13) (.t 81), none, []⟩])
   (.seq (.ops [
     ⟨(some 82), .fa 2 (.t 13), none, []⟩,
     ⟨(some 83), .load false 1 (.t 82), none, []⟩,
     ⟨(some 84), .lenS (.t 83), none, []⟩,
     ⟨(some 85), .mv (.c (.int .i64 0)), none, []⟩])
   (.block 4 (.loop (.seq (.ops [
      ⟨(some 86), .bin .lss .int (.t 85) (.t 84), none, []⟩])
    (.seq (.cond (.t 86)
     (.skip)
     (.exit 4))
    (.seq (.block 5 (.seq (.ops [
      ⟨(some 87), .mv (.t 85), none, []⟩,
      ⟨(some 88), .ixS 1 (.t 83) (.t 85), none, []⟩,
      ⟨(some 89), .load false 1 (.t 88), none, []⟩,
      ⟨(some 14), .mv (.t 87), none, []⟩,
      ⟨(some 15), .mv (.t 89), none, []⟩])
    (.seq (.dr [
      ⟨(some 90), .fa 1 (.t 10), none, []⟩,
      ⟨(some 91), .load false 1 (.t 90), none, [0]⟩,
      ⟨(some 92), .load false 1 (.t 8), none, []⟩,
      ⟨(some 93), .nilck (.t 92), none, [2]⟩,
      ⟨(some 94), .fa 0 (.t 93), none, [3]⟩,
      ⟨(some 95), .load false 1 (.t 94), none, [4]⟩,
      ⟨(some 96), .nilck (.t 95), none, [5]⟩,
      ⟨(some 97), .fa 0 (.t 96), none, [6]⟩,
      ⟨(some 98), .fa 0 (.t 97), none, [7]⟩,
      ⟨(some 99), .load false 1 (.t 98), none, [8]⟩,
      ⟨(some 100), .load false 1 (.t 8), none, []⟩,
      ⟨(some 101), .nilck (.t 100), none, [10]⟩,
      ⟨(some 102), .fa 0 (.t 101), none, [11]⟩,
      ⟨(some 103), .load false 1 (.t 102), none, [12]⟩,
      ⟨(some 104), .nilck (.t 103), none, [13]⟩,
      ⟨(some 105), .fa 4 (.t 104), none, [14]⟩,
      ⟨(some 106), .fa 2 (.t 105), none, [15]⟩,
      ⟨(some 107), .load false 1 (.t 106), none, [16]⟩,
      ⟨(some 108), .bin .add .int (.t 99) (.t 107), none, [9, 17]⟩,
      ⟨(some 109), .bin .mul .int (.t 91) (.t 108), none, [1, 18]⟩,
      ⟨(some 110), .mv (.t 14), none, []⟩,
      ⟨(some 111), .bin .add .int (.t 109) (.t 110), none, [19, 20]⟩,
      ⟨(some 112), .load false 1 (.t 8), none, []⟩,
      ⟨(some 113), .nilck (.t 112), none, [22]⟩,
      ⟨(some 114), .fa 0 (.t 113), none, [23]⟩,
      ⟨(some 115), .load false 1 (.t 114), none, [24]⟩,
      ⟨(some 116), .nilck (.t 115), none, [25]⟩,
      ⟨(some 117), .fa 4 (.t 116), none, [26]⟩,
      ⟨(some 118), .fa 0 (.t 117), none, [27]⟩,
      ⟨(some 119), .load false 1 (.t 118), none, [28]⟩,
      ⟨(some 120), .bin .mul .int (.t 111) (.t 119), none, [21, 29]⟩,
      ⟨(some 121), .fa 2 (.t 10), none, []⟩,
      ⟨(some 122), .load false 1 (.t 121), none, [31]⟩,
      ⟨(some 123), .bin .add .int (.t 120) (.t 122), none, [30, 32]⟩,
      ⟨(some 124), .fa 2 (.t 9), none, []⟩,
      ⟨(some 125), .load false 1 (.t 124), none, [34]⟩,
      ⟨(some 126), .mv (.t 11), none, []⟩,
      ⟨(some 127), .ixS 1 (.t 125) (.t 126), none, [35, 36]⟩,
      ⟨(some 128), .load false 1 (.t 127), none, [37]⟩,
      ⟨(some 129), .bin .add .int (.t 123) (.t 128), none, [33, 38]⟩,
      ⟨(some 16), .mv (.t 129), none, [39, 0, 1, 2, 3, 4, 5, 6, 7, 8, 9, 10, 11, 12, 13, 14, 15, 16, 17, 18, 19, 20, 21, 22, 23, 24, 25, 26, 27, 28, 29, 30, 31, 32, 33, 34, 35, 36, 37, 38, 39]⟩])
    (.seq (.ops [
      ⟨(some 130), .fa 1 (.t 13), none, []⟩,
      ⟨(some 131), .load false 1 (.t 130), none, []⟩,
      ⟨(some 132), .mv (.c (.int .i64 0)), none, []⟩])
    (.block 6 (.loop (.seq (.ops [
       ⟨(some 133), .bin .lss .int (.t 132) (.t 131), none, []⟩])
     (.seq (.cond (.t 133)
      (.skip)
      (.exit 6))
     (.seq (.block 7 (.seq (.ops [
       ⟨(some 134), .mv (.t 132), none, []⟩,
       ⟨(some 17), .mv (.t 134), none, []⟩])
     (.seq (.ops [
       ⟨(some 135), .mv (.t 15), none, []⟩,
       ⟨(some 136), .fa 1 (.t 13), none, []⟩,
       ⟨(some 137), .load false 1 (.t 136), none, []⟩,
       ⟨(some 138), .bin .sub .int (.t 137) (.c (.int .i64 1)), none, []⟩,
       ⟨(some 139), .mv (.t 17), none, []⟩,
       ⟨(some 140), .bin .sub .int (.t 138) (.t 139), none, []⟩,
       ⟨(some 141), .bin .shr .int (.t 135) (.t 140), none, []⟩,
       ⟨(some 142), .bin .and .int (.t 141) (.c (.int .i64 1)), none, []⟩,
       ⟨(some 143), .bin .eql .int (.t 142) (.c (.int .i64 1)), none, []⟩])
     (.cond (.t 143)
      (.dr [
        ⟨(some 144), .load false 1 (.t 6), none, []⟩,
        ⟨(some 145), .fa 0 (.t 10), none, []⟩,
        ⟨(some 146), .load false 1 (.t 145), none, [1]⟩,
        ⟨(some 147), .ixS 3 (.t 144) (.t 146), none, [0, 2]⟩,
        ⟨(some 148), .fa 2 (.t 147), none, [3]⟩,
        ⟨(some 149), .load false 1 (.t 148), none, [4]⟩,
        ⟨(some 150), .mv (.t 16), none, []⟩,
        ⟨(some 151), .mv (.t 17), none, []⟩,
        ⟨(some 152), .bin .add .int (.t 150) (.t 151), none, [6, 7]⟩,
        ⟨(some 153), .load false 1 (.t 8), none, []⟩,
        ⟨(some 154), .nilck (.t 153), none, [9]⟩,
        ⟨(some 155), .fa 0 (.t 154), none, [10]⟩,
        ⟨(some 156), .load false 1 (.t 155), none, [11]⟩,
        ⟨(some 157), .nilck (.t 156), none, [12]⟩,
        ⟨(some 158), .fa 4 (.t 157), none, [13]⟩,
        ⟨(some 159), .fa 5 (.t 158), none, [14]⟩,
        ⟨(some 160), .load false 1 (.t 159), none, [15]⟩,
        ⟨(some 161), .conv (.int .u8) (.t 160), none, [16]⟩,
        ⟨(some 162), .ixS 1 (.t 149) (.t 152), none, [5, 8, 0, 1, 2, 3, 4, 5, 6, 7, 8, 9, 10, 11, 12, 13, 14, 15, 16, 17]⟩,
        ⟨none, .store 1 (.t 162) (.t 161), none, [18, 17, 0, 1, 2, 3, 4, 5, 6, 7, 8, 9, 10, 11, 12, 13, 14, 15, 16, 17]⟩])
      (.skip)))))
     (.ops [
       ⟨(some 163), .bin .add .int (.t 132) (.c (.int .i64 1)), none, []⟩,
       ⟨(some 132), .mv (.t 163), none, []⟩]))))))))))
    (.ops [
      ⟨(some 164), .bin .add .int (.t 85) (.c (.int .i64 1)), none, []⟩,
      ⟨(some 85), .mv (.t 164), none, []⟩]))))))))))
   (.ops [
     ⟨(some 165), .bin .add .int (.t 66) (.c (.int .i64 1)), none, []⟩,
     ⟨(some 66), .mv (.t 165), none, []⟩]))))))))))))
 (.seq (.ops [
   ⟨(some 166), .load false 1 (.t 6), none, []⟩,
   ⟨none, .store 1 (.t 6) (.t 166), none, []⟩,
   ⟨none, .store 1 (.t 7) (.c (.int .i64 0)), none, []⟩])
 (.ret)))))
def m29_0 : List Nat := [67, 68, 69, 70, 11, 12, 71, 72, 73, 74, 75, 76, 77, 78, 79, 80, 81, 13, 82, 83, 84, 85, 86, 87, 88, 89, 14, 15, 90, 91, 92, 93, 94, 95, 96, 97, 98, 99, 100, 101, 102, 103, 104, 105, 106, 107, 108, 109, 110, 111, 112, 113, 114, 115, 116, 117, 118, 119, 120, 121, 122, 123, 124, 125, 126, 127, 128, 129, 16, 130, 131, 132, 133, 134, 17, 135, 136, 137, 138, 139, 140, 141, 142, 143, 144, 145, 146, 147, 148, 149, 150, 151, 152, 153, 154, 155, 156, 157, 158, 159, 160, 161, 162, 163, 164, 165, 66]
def m29_1 : List Nat := [86, 87, 88, 89, 14, 15, 90, 91, 92, 93, 94, 95, 96, 97, 98, 99, 100, 101, 102, 103, 104, 105, 106, 107, 108, 109, 110, 111, 112, 113, 114, 115, 116, 117, 118, 119, 120, 121, 122, 123, 124, 125, 126, 127, 128, 129, 16, 130, 131, 132, 133, 134, 17, 135, 136, 137, 138, 139, 140, 141, 142, 143, 144, 145, 146, 147, 148, 149, 150, 151, 152, 153, 154, 155, 156, 157, 158, 159, 160, 161, 162, 163, 164, 85]
def m29_2 : List Nat := [133, 134, 17, 135, 136, 137, 138, 139, 140, 141, 142, 143, 144, 145, 146, 147, 148, 149, 150, 151, 152, 153, 154, 155, 156, 157, 158, 159, 160, 161, 162, 163, 132]
theorem k29 : compFunc Tryz.prog 29 = some (167, c29, [.cell 6 false 1, .cell 7 false 1]) := by kernel_rfl
def c34 : ACode :=
 .seq (.ops [
   ⟨(some 4), .box (.t 0), none, []⟩,
   ⟨(some 5), .box (.t 1), none, []⟩,
   ⟨(some 7), .box (.t 3), none, []⟩,
   ⟨(some 8), .alloc [(.int .i64 0), (.int .i64 0), (.int .i64 0)], none, []⟩,
   ⟨(some 9), .alloc [(.int .i64 0)], none, []⟩])
 (.seq (.ops [
   ⟨none, .dfr (.f 45) [(.t 9)], none, []⟩])
 (.seq (.ops [
   ⟨(some 13), .load true 4 (.t 4), none, []⟩,
   ⟨(some 14), .load true 6 (.t 5), none, []⟩,
   ⟨(some 15), .mv (.t 2), none, []⟩,
   ⟨(some 16), .callF 53 [(.t 13), (.t 14), (.t 15)], none, []⟩,
   ⟨(some 10), .mv (.t 16), none, []⟩])
 (.seq (.dr [
   ⟨(some 17), .load false 1 (.t 7), none, []⟩,
   ⟨(some 18), .mv (.t 10), none, []⟩,
   ⟨(some 19), .nilck (.t 18), none, [1]⟩,
   ⟨(some 20), .fa 1 (.t 19), none, [2]⟩,
   ⟨(some 21), .load false 1 (.t 20), none, [3]⟩,
   ⟨(some 22), .lenS (.t 21), none, [4]⟩,
   ⟨(some 23), .bin .sub .int (.t 22) (.c (.int .i64 1)), none, [5]⟩,
   ⟨(some 24), .callF 41 [(.t 17), (.c (.int .i64 0)), (.t 23)], none, [0, 6]⟩,
   ⟨(some 25), .un .not (.t 24), none, [7]⟩,
   ⟨(some 26), .callF 48 [(.t 25), (.c (.int .i64 4))], none, [8, 7]⟩])
 (.seq (.seq (.ops [
   ⟨(some 27), .mv (.t 10), none, []⟩,
   ⟨(some 28), .callF 60 [(.t 27)], none, []⟩])
 (.block 0 (.rangeF (.t 28) [29, 30] (.ops [
    ⟨(some 12), .alloc [(.int .i64 0), (.int .i64 0), (.int .i64 0)], none, []⟩,
    ⟨none, .store 3 (.t 12) (.t 30), none, []⟩])
  (.block 1 (.seq (.seq (.ops [
    ⟨(some 31), .load false 1 (.t 7), none, []⟩,
    ⟨(some 32), .bin .eql .int (.t 31) (.c (.int .i64 0)), none, []⟩])
  (.cond (.t 32)
   (.seq (.ops [
     ⟨(some 33), .load true 3 (.t 12), none, []⟩,
     ⟨none, .store 3 (.t 8) (.t 33), none, []⟩,
     ⟨none, .store 1 (.t 9) (.c (.int .i64 0)), none, []⟩])
   (.ret))
   (.skip)))
  (.ops [
    ⟨(some 34), .load false 1 (.t 7), none, []⟩,
    ⟨(some 35), .bin .sub .int (.t 34) (.c (.int .i64 1)), none, []⟩,
    ⟨none, .store 1 (.t 7) (.t 35), none, []⟩]))))))
 (.seq (.ops [
   ⟨(some 36), .load true 3 (.t 8), none, []⟩,
   ⟨none, .store 3 (.t 8) (.t 36), none, []⟩,
   ⟨none, .store 1 (.t 9) (.c (.int .i64 0)), none, []⟩])
 (.ret))))))
theorem k34 : compFunc Tryz.prog 34 = some (37, c34, [.cell 8 true 3, .cell 9 false 1]) := by kernel_rfl
def c41 : ACode :=
 .seq (.ops [
   ⟨(some 6), .mv (.c (.bool false)), none, []⟩])
 (.seq (.ops [
   ⟨(some 7), .mv (.t 0), none, []⟩,
   ⟨(some 8), .mv (.t 1), none, []⟩,
   ⟨(some 9), .bin .lss .int (.t 7) (.t 8), none, []⟩,
   ⟨(some 10), .mv (.t 9), none, []⟩,
   ⟨(some 11), .mv (.t 0), (some (10, false)), []⟩,
   ⟨(some 12), .mv (.t 2), (some (10, false)), []⟩,
   ⟨(some 13), .bin .gtr .int (.t 11) (.t 12), (some (10, false)), []⟩,
   ⟨(some 14), .pick (.t 10) (.c (.bool true)) (.t 13), none, []⟩,
   ⟨(some 6), .mv (.t 14), none, []⟩])
 (.ret))
theorem k41 : compFunc Tryz.prog 41 = some (15, c41, [.t 6]) := by kernel_rfl
def c42 : ACode :=
 .seq (.ops [
   ⟨(some 2), .mv (.c (.bool false)), none, []⟩])
 (.seq (.seq (.ops [
   ⟨(some 5), .mv (.t 0), none, []⟩,
   ⟨(some 6), .rngStr (.t 5), none, []⟩])
 (.block 0 (.loop (.seq (.ops [
    ⟨(some 7), .nextStr (.t 6), none, []⟩,
    ⟨(some 8), .ext (.t 7) 0, none, []⟩])
  (.seq (.cond (.t 8)
   (.skip)
   (.exit 0))
  (.block 1 (.seq (.ops [
    ⟨(some 9), .ext (.t 7) 2, none, []⟩,
    ⟨(some 4), .mv (.t 9), none, []⟩])
  (.seq (.ops [
    ⟨(some 10), .mv (.t 4), none, []⟩,
    ⟨(some 11), .conv (.int .i64) (.t 10), none, []⟩,
    ⟨(some 12), .callF 41 [(.t 11), (.c (.int .i64 33)), (.c (.int .i64 126))], none, []⟩])
  (.cond (.t 12)
   (.seq (.ops [
     ⟨(some 2), .mv (.c (.bool true)), none, []⟩])
   (.ret))
   (.skip))))))))))
 (.seq (.ops [
   ⟨(some 13), .mv (.t 0), none, []⟩,
   ⟨(some 14), .bin .eql .str (.t 13) (.c (.str .empty)), none, []⟩,
   ⟨(some 2), .mv (.t 14), none, []⟩])
 (.ret)))
def m42_0 : List Nat := [7, 8, 9, 4, 10, 11, 12, 2]
theorem k42 : compFunc Tryz.prog 42 = some (15, c42, [.t 2]) := by kernel_rfl
def c43 : ACode :=
 .seq (.ops [
   ⟨(some 4), .mv (.c (.bool false)), none, []⟩])
 (.seq (.ops [
   ⟨(some 5), .mv (.t 0), none, []⟩,
   ⟨(some 6), .mv (.t 1), none, []⟩,
   ⟨(some 7), .callF 73 [(.t 5), (.t 6)], none, []⟩,
   ⟨(some 8), .bin .geq .int (.t 7) (.c (.int .i64 0)), none, []⟩,
   ⟨(some 4), .mv (.t 8), none, []⟩])
 (.ret))
theorem k43 : compFunc Tryz.prog 43 = some (9, c43, [.t 4]) := by kernel_rfl
def c44 : ACode :=
 .seq (.ops [
   ⟨(some 3), .mv (.c (.bool false)), none, []⟩])
 (.seq (.ops [
   ⟨(some 4), .mv (.t 0), none, []⟩,
   ⟨(some 5), .fa 1 (.t 1), none, []⟩,
   ⟨(some 6), .load false 1 (.t 5), none, []⟩,
   ⟨(some 7), .bin .shl .int (.c (.int .i64 1)) (.t 6), none, []⟩,
   ⟨(some 8), .bin .sub .int (.t 7) (.c (.int .i64 1)), none, []⟩,
   ⟨(some 9), .callF 41 [(.t 4), (.c (.int .i64 0)), (.t 8)], none, []⟩,
   ⟨(some 3), .mv (.t 9), none, []⟩])
 (.ret))
theorem k44 : compFunc Tryz.prog 44 = some (10, c44, [.t 3]) := by kernel_rfl
def c45 : ACode :=
 .seq (.ops [
   ⟨(some 4), .mv (.t 2), none, []⟩,
   ⟨(some 5), .bin .neq .ifn (.t 4) (.c .nilI), none, []⟩])
 (.cond (.t 5)
  (.ops [
    ⟨(some 6), .mv (.t 0), none, []⟩,
    ⟨(some 7), .mv (.t 2), none, []⟩,
    ⟨(some 8), .tas 37 (.int .i64 0) (.t 7) false, none, []⟩,
    ⟨(some 9), .nilck (.t 6), none, []⟩,
    ⟨none, .store 1 (.t 9) (.t 8), none, []⟩])
  (.skip))
theorem k45 : compD Tryz.prog 45 = some (10, 3, 2, c45, []) := by kernel_rfl
def c46 : ACode :=
 .seq (.ops [
   ⟨(some 2), .box (.t 0), none, []⟩,
   ⟨(some 3), .box (.t 1), none, []⟩,
   ⟨(some 4), .mv (.c .nilP), none, []⟩])
 (.seq (.ops [
   ⟨(some 6), .load true 4 (.t 2), none, []⟩,
   ⟨(some 7), .callF 47 [(.t 6)], none, []⟩,
   ⟨(some 5), .mv (.t 7), none, []⟩])
 (.seq (.ops [
   ⟨(some 8), .mv (.t 5), none, []⟩,
   ⟨(some 9), .load true 6 (.t 3), none, []⟩,
   ⟨(some 10), .nilck (.t 8), none, []⟩,
   ⟨(some 11), .fa 4 (.t 10), none, []⟩,
   ⟨none, .store 6 (.t 11) (.t 9), none, []⟩])
 (.seq (.ops [
   ⟨(some 12), .fa 0 (.t 3), none, []⟩,
   ⟨(some 13), .load false 1 (.t 12), none, []⟩,
   ⟨(some 14), .callF 41 [(.t 13), (.c (.int .i64 1)), (.c (.int .i64 48))], none, []⟩,
   ⟨(some 15), .un .not (.t 14), none, []⟩,
   ⟨(some 16), .mv (.t 15), none, []⟩,
   ⟨(some 17), .fa 1 (.t 3), (some (16, true)), []⟩,
   ⟨(some 18), .load false 1 (.t 17), (some (16, true)), []⟩,
   ⟨(some 19), .callF 41 [(.t 18), (.c (.int .i64 1)), (.c (.int .i64 12))], (some (16, true)), []⟩,
   ⟨(some 20), .un .not (.t 19), (some (16, true)), []⟩,
   ⟨(some 21), .pick (.t 16) (.t 20) (.c (.bool false)), none, []⟩,
   ⟨(some 22), .mv (.t 21), none, []⟩,
   ⟨(some 23), .fa 2 (.t 3), (some (22, true)), []⟩,
   ⟨(some 24), .load false 1 (.t 23), (some (22, true)), []⟩,
   ⟨(some 25), .callF 41 [(.t 24), (.c (.int .i64 0)), (.c (.int .i64 10))], (some (22, true)), []⟩,
   ⟨(some 26), .un .not (.t 25), (some (22, true)), []⟩,
   ⟨(some 27), .pick (.t 22) (.t 26) (.c (.bool false)), none, []⟩,
   ⟨(some 28), .callF 48 [(.t 27), (.c (.int .i64 7))], none, []⟩])
 (.seq (.ops [
   ⟨(some 29), .fa 3 (.t 3), none, []⟩,
   ⟨(some 30), .load false 1 (.t 29), none, []⟩,
   ⟨(some 31), .callF 41 [(.t 30), (.c (.int .i64 0)), (.c (.int .i64 24))], none, []⟩,
   ⟨(some 32), .un .not (.t 31), none, []⟩,
   ⟨(some 33), .mv (.t 32), none, []⟩,
   ⟨(some 34), .fa 4 (.t 3), (some (33, true)), []⟩,
   ⟨(some 35), .load false 1 (.t 34), (some (33, true)), []⟩,
   ⟨(some 36), .callF 41 [(.t 35), (.c (.int .i64 0)), (.c (.int .i64 10000))], (some (33, true)), []⟩,
   ⟨(some 37), .un .not (.t 36), (some (33, true)), []⟩,
   ⟨(some 38), .pick (.t 33) (.t 37) (.c (.bool false)), none, []⟩,
   ⟨(some 39), .mv (.t 38), none, []⟩,
   ⟨(some 40), .fa 5 (.t 3), (some (39, true)), []⟩,
   ⟨(some 41), .load false 1 (.t 40), (some (39, true)), []⟩,
   ⟨(some 42), .callF 41 [(.t 41), (.c (.int .i64 1)), (.c (.int .i64 255))], (some (39, true)), []⟩,
   ⟨(some 43), .un .not (.t 42), (some (39, true)), []⟩,
   ⟨(some 44), .pick (.t 39) (.t 43) (.c (.bool false)), none, []⟩,
   ⟨(some 45), .callF 48 [(.t 44), (.c (.int .i64 7))], none, []⟩])
 (.seq (.ops [
   ⟨(some 46), .mv (.t 5), none, []⟩,
   ⟨(some 47), .callF 61 [(.t 46)], none, []⟩,
   ⟨(some 48), .bin .leq .int (.t 47) (.c (.int .i64 48)), none, []⟩,
   ⟨(some 49), .callF 48 [(.t 48), (.c (.int .i64 2))], none, []⟩])
 (.seq (.ops [
   ⟨(some 50), .mv (.t 5), none, []⟩,
   ⟨(some 4), .mv (.t 50), none, []⟩])
 (.ret)))))))
theorem k46 : compFunc Tryz.prog 46 = some (51, c46, [.t 4]) := by kernel_rfl
def c47 : ACode :=
 .seq (.ops [
   ⟨(some 1), .box (.t 0), none, []⟩,
   ⟨(some 2), .mv (.c .nilP), none, []⟩])
 (.seq (.ops [
   ⟨(some 12), .load true 4 (.t 1), none, []⟩,
   ⟨(some 13), .callF 7 [(.t 12)], none, []⟩,
   ⟨(some 11), .mv (.t 13), none, []⟩,
   ⟨(some 14), .ext (.t 11) 0, none, []⟩,
   ⟨(some 15), .ext (.t 11) 1, none, []⟩,
   ⟨(some 16), .ext (.t 11) 2, none, []⟩,
   ⟨(some 3), .mv (.t 14), none, []⟩,
   ⟨(some 4), .mv (.t 15), none, []⟩,
   ⟨(some 5), .mv (.t 16), none, []⟩])
 (.seq (.ops [
   ⟨(some 17), .mv (.t 5), none, []⟩,
   ⟨(some 18), .bin .eql .int (.t 17) (.c (.int .i64 0)), none, []⟩,
   ⟨(some 19), .mv (.t 5), none, []⟩,
   ⟨(some 20), .callF 48 [(.t 18), (.t 19)], none, []⟩])
 (.seq (.ops [
   ⟨(some 21), .load true 4 (.t 1), none, []⟩,
   ⟨(some 22), .mkM (.one .str), none, []⟩,
   ⟨(some 23), .mkM (.tup [(.int .i64), (.int .i64)]), none, []⟩,
   ⟨(some 24), .build [(.int .i64 0), (.int .i64 0), .nilS, .nilS, (.int .i64 0), (.int .i64 0), (.int .i64 0), (.int .i64 0), (.int .i64 0), (.int .i64 0), .nilM, .nilM] [(0, 4, (.t 21)), (10, 1, (.t 22)), (11, 1, (.t 23))], none, []⟩,
   ⟨(some 25), .box (.t 24), none, []⟩,
   ⟨(some 6), .mv (.t 25), none, []⟩])
 (.seq (.seq (.ops [
   ⟨(some 26), .fa 2 (.t 1), none, []⟩,
   ⟨(some 27), .load false 1 (.t 26), none, []⟩,
   ⟨(some 28), .lenS (.t 27), none, []⟩,
   ⟨(some 29), .mv (.c (.int .i64 0)), none, []⟩])
 (.block 0 (.loop (.seq (.ops [
    ⟨(some 30), .bin .lss .int (.t 29) (.t 28), none, []⟩])
  (.seq (.cond (.t 30)
   (.skip)
   (.exit 0))
  (.seq (.block 1 (.seq (.ops [
    ⟨(some 31), .mv (.t 29), none, []⟩,
    ⟨(some 32), .ixS 3 (.t 27) (.t 29), none, []⟩,
    ⟨(some 33), .load true 3 (.t 32), none, []⟩,
    ⟨(some 8), .alloc [(.str .empty), (.int .i64 0), .nilS], none, []⟩,
    ⟨(some 7), .mv (.t 31), none, []⟩,
    ⟨none, .store 3 (.t 8) (.t 33), none, []⟩])
  (.dr [
    ⟨(some 34), .mv (.t 6), none, []⟩,
    ⟨(some 35), .nilck (.t 34), none, [0]⟩,
    ⟨(some 36), .fa 10 (.t 35), none, [1]⟩,
    ⟨(some 37), .load false 1 (.t 36), none, [2]⟩,
    ⟨(some 38), .fa 0 (.t 8), none, []⟩,
    ⟨(some 39), .load false 1 (.t 38), none, [4]⟩,
    ⟨(some 40), .mv (.t 7), none, []⟩,
    ⟨none, .upd (.one .str) (.t 37) (.t 39) (.t 40), none, [3, 5, 6, 0, 1, 2, 3, 4, 5, 6]⟩])))
  (.ops [
    ⟨(some 41), .bin .add .int (.t 29) (.c (.int .i64 1)), none, []⟩,
    ⟨(some 29), .mv (.t 41), none, []⟩])))))))
 (.seq (.seq (.ops [
   ⟨(some 42), .fa 3 (.t 1), none, []⟩,
   ⟨(some 43), .load false 1 (.t 42), none, []⟩,
   ⟨(some 44), .lenS (.t 43), none, []⟩,
   ⟨(some 45), .mv (.c (.int .i64 0)), none, []⟩])
 (.block 2 (.loop (.seq (.ops [
    ⟨(some 46), .bin .lss .int (.t 45) (.t 44), none, []⟩])
  (.seq (.cond (.t 46)
   (.skip)
   (.exit 2))
  (.seq (.block 3 (.seq (.ops [
    ⟨(some 47), .ixS 3 (.t 43) (.t 45), none, []⟩,
    ⟨(some 48), .load true 3 (.t 47), none, []⟩,
    ⟨(some 10), .alloc [(.int .i64 0), (.int .i64 0), (.int .i64 0)], none, []⟩,
    ⟨none, .store 3 (.t 10) (.t 48), none, []⟩])
  (.dr [
    ⟨(some 49), .mv (.t 6), none, []⟩,
    ⟨(some 50), .nilck (.t 49), none, [0]⟩,
    ⟨(some 51), .fa 11 (.t 50), none, [1]⟩,
    ⟨(some 52), .load false 1 (.t 51), none, [2]⟩,
    ⟨(some 53), .fa 0 (.t 10), none, []⟩,
    ⟨(some 54), .load false 1 (.t 53), none, [4]⟩,
    ⟨(some 55), .fa 1 (.t 10), none, []⟩,
    ⟨(some 56), .load false 1 (.t 55), none, [6]⟩,
    ⟨(some 57), .build [(.int .i64 0), (.int .i64 0)] [(0, 1, (.t 54)), (1, 1, (.t 56))], none, [5, 7]⟩,
    ⟨(some 58), .fa 2 (.t 10), none, []⟩,
    ⟨(some 59), .load false 1 (.t 58), none, [9]⟩,
    ⟨none, .upd (.tup [(.int .i64), (.int .i64)]) (.t 52) (.t 57) (.t 59), none, [3, 8, 10, 0, 1, 2, 3, 4, 5, 6, 7, 8, 9, 10]⟩])))
  (.ops [
    ⟨(some 60), .bin .add .int (.t 45) (.c (.int .i64 1)), none, []⟩,
    ⟨(some 45), .mv (.t 60), none, []⟩])))))))
 (.seq (.ops [
   ⟨(some 61), .mv (.t 6), none, []⟩,
   ⟨(some 2), .mv (.t 61), none, []⟩])
 (.ret)))))))
def m47_0 : List Nat := [30, 31, 32, 33, 8, 7, 34, 35, 36, 37, 38, 39, 40, 41, 29]
def m47_1 : List Nat := [46, 47, 48, 10, 49, 50, 51, 52, 53, 54, 55, 56, 57, 58, 59, 60, 45]
theorem k47 : compFunc Tryz.prog 47 = some (62, c47, [.t 2]) := by kernel_rfl
def c48 : ACode :=
 .seq (.ops [
   ⟨(some 4), .mv (.t 0), none, []⟩,
   ⟨(some 5), .un .not (.t 4), none, []⟩])
 (.cond (.t 5)
  (.ops [
    ⟨(some 6), .mv (.t 1), none, []⟩,
    ⟨(some 7), .mkI 37 (.t 6), none, []⟩,
    ⟨none, .panic (.t 7), none, []⟩])
  (.skip))
theorem k48 : compFunc Tryz.prog 48 = some (8, c48, []) := by kernel_rfl
def c49 : ACode :=
 .seq (.ops [
   ⟨(some 4), .alloc [(.str .empty), .nilS, .nilS, (.int .i64 0)], none, []⟩])
 (.seq (.ops [
   ⟨(some 12), .mv (.t 0), none, []⟩,
   ⟨(some 13), .mv (.t 1), none, []⟩,
   ⟨(some 14), .callF 74 [(.t 12), (.t 13)], none, []⟩,
   ⟨(some 11), .mv (.t 14), none, []⟩,
   ⟨(some 15), .ext (.t 11) 0, none, []⟩,
   ⟨(some 16), .ext (.t 11) 1, none, []⟩,
   ⟨(some 5), .mv (.t 15), none, []⟩,
   ⟨(some 6), .mv (.t 16), none, []⟩])
 (.seq (.ops [
   ⟨(some 17), .mv (.t 6), none, []⟩,
   ⟨(some 18), .callF 48 [(.t 17), (.c (.int .i64 200))], none, []⟩])
 (.seq (.ops [
   ⟨(some 19), .mv (.t 1), none, []⟩,
   ⟨(some 20), .mv (.t 5), none, []⟩,
   ⟨(some 21), .build [(.str .empty), .nilS, .nilS, (.int .i64 0)] [(0, 1, (.t 19)), (1, 1, (.t 20))], none, []⟩,
   ⟨(some 7), .alloc [(.str .empty), .nilS, .nilS, (.int .i64 0)], none, []⟩,
   ⟨none, .store 4 (.t 7) (.t 21), none, []⟩])
 (.seq (.ops [
   ⟨(some 8), .mv (.c (.int .i64 0)), none, []⟩])
 (.seq (.seq (.ops [
   ⟨(some 22), .mv (.t 5), none, []⟩,
   ⟨(some 23), .lenS (.t 22), none, []⟩,
   ⟨(some 24), .mv (.c (.int .i64 0)), none, []⟩])
 (.block 0 (.loop (.seq (.ops [
    ⟨(some 25), .bin .lss .int (.t 24) (.t 23), none, []⟩])
  (.seq (.cond (.t 25)
   (.skip)
   (.exit 0))
  (.seq (.block 1 (.seq (.ops [
    ⟨(some 26), .mv (.t 24), none, []⟩,
    ⟨(some 27), .ixS 1 (.t 22) (.t 24), none, []⟩,
    ⟨(some 28), .load false 1 (.t 27), none, []⟩,
    ⟨(some 9), .mv (.t 26), none, []⟩,
    ⟨(some 10), .mv (.t 28), none, []⟩])
  (.seq (.seq (.ops [
    ⟨(some 29), .mv (.t 9), none, []⟩,
    ⟨(some 30), .bin .gtr .int (.t 29) (.c (.int .i64 0)), none, []⟩])
  (.cond (.t 30)
   (.dr [
     ⟨(some 31), .mv (.t 8), none, []⟩,
     ⟨(some 32), .mv (.t 0), none, []⟩,
     ⟨(some 33), .nilck (.t 32), none, [1]⟩,
     ⟨(some 34), .fa 0 (.t 33), none, [2]⟩,
     ⟨(some 35), .fa 2 (.t 34), none, [3]⟩,
     ⟨(some 36), .load false 1 (.t 35), none, [4]⟩,
     ⟨(some 37), .mv (.t 5), none, []⟩,
     ⟨(some 38), .mv (.t 9), none, []⟩,
     ⟨(some 39), .bin .sub .int (.t 38) (.c (.int .i64 1)), none, [7]⟩,
     ⟨(some 40), .ixS 1 (.t 37) (.t 39), none, [6, 8]⟩,
     ⟨(some 41), .load false 1 (.t 40), none, [9]⟩,
     ⟨(some 42), .ixS 3 (.t 36) (.t 41), none, [5, 10]⟩,
     ⟨(some 43), .fa 1 (.t 42), none, [11]⟩,
     ⟨(some 44), .load false 1 (.t 43), none, [12]⟩,
     ⟨(some 45), .mv (.t 0), none, []⟩,
     ⟨(some 46), .nilck (.t 45), none, [14]⟩,
     ⟨(some 47), .fa 11 (.t 46), none, [15]⟩,
     ⟨(some 48), .load false 1 (.t 47), none, [16]⟩,
     ⟨(some 49), .mv (.t 5), none, []⟩,
     ⟨(some 50), .mv (.t 9), none, []⟩,
     ⟨(some 51), .bin .sub .int (.t 50) (.c (.int .i64 1)), none, [19]⟩,
     ⟨(some 52), .ixS 1 (.t 49) (.t 51), none, [18, 20]⟩,
     ⟨(some 53), .load false 1 (.t 52), none, [21]⟩,
     ⟨(some 54), .mv (.t 10), none, []⟩,
     ⟨(some 55), .build [(.int .i64 0), (.int .i64 0)] [(0, 1, (.t 53)), (1, 1, (.t 54))], none, [22, 23]⟩,
     ⟨(some 56), .look (.tup [(.int .i64), (.int .i64)]) (.int .i64 0) (.t 48) (.t 55) false, none, [17, 24]⟩,
     ⟨(some 57), .bin .add .int (.t 44) (.t 56), none, [13, 25]⟩,
     ⟨(some 58), .bin .add .int (.t 31) (.t 57), none, [0, 26]⟩,
     ⟨(some 8), .mv (.t 58), none, [27, 0, 1, 2, 3, 4, 5, 6, 7, 8, 9, 10, 11, 12, 13, 14, 15, 16, 17, 18, 19, 20, 21, 22, 23, 24, 25, 26, 27]⟩])
   (.skip)))
  (.seq (.ops [
    ⟨(some 59), .fa 2 (.t 7), none, []⟩,
    ⟨(some 60), .load false 1 (.t 59), none, []⟩,
    ⟨(some 61), .mv (.t 8), none, []⟩,
    ⟨(some 62), .buildS 1 [(.int .i64 0)] 1 [(0, (.t 61))], none, []⟩,
    ⟨(some 63), .app 1 8 (.t 60) (.t 62), none, []⟩,
    ⟨(some 64), .fa 2 (.t 7), none, []⟩,
    ⟨none, .store 1 (.t 64) (.t 63), none, []⟩])
  (.dr [
    ⟨(some 65), .fa 3 (.t 7), none, []⟩,
    ⟨(some 66), .load false 1 (.t 65), none, [0]⟩,
    ⟨(some 67), .mv (.t 8), none, []⟩,
    ⟨(some 68), .mv (.t 0), none, []⟩,
    ⟨(some 69), .nilck (.t 68), none, [3]⟩,
    ⟨(some 70), .fa 0 (.t 69), none, [4]⟩,
    ⟨(some 71), .fa 2 (.t 70), none, [5]⟩,
    ⟨(some 72), .load false 1 (.t 71), none, [6]⟩,
    ⟨(some 73), .mv (.t 10), none, []⟩,
    ⟨(some 74), .ixS 3 (.t 72) (.t 73), none, [7, 8]⟩,
    ⟨(some 75), .fa 1 (.t 74), none, [9]⟩,
    ⟨(some 76), .load false 1 (.t 75), none, [10]⟩,
    ⟨(some 77), .bin .add .int (.t 67) (.t 76), none, [2, 11]⟩,
    ⟨(some 78), .mx [(.t 66), (.t 77)], none, [1, 12]⟩,
    ⟨(some 79), .fa 3 (.t 7), none, [0, 1, 2, 3, 4, 5, 6, 7, 8, 9, 10, 11, 12, 13]⟩,
    ⟨none, .store 1 (.t 79) (.t 78), none, [14, 13, 0, 1, 2, 3, 4, 5, 6, 7, 8, 9, 10, 11, 12, 13]⟩])))))
  (.ops [
    ⟨(some 80), .bin .add .int (.t 24) (.c (.int .i64 1)), none, []⟩,
    ⟨(some 24), .mv (.t 80), none, []⟩])))))))
 (.seq (.ops [
   ⟨(some 81), .load true 4 (.t 7), none, []⟩,
   ⟨none, .store 4 (.t 4) (.t 81), none, []⟩])
 (.ret)))))))
def m49_0 : List Nat := [25, 26, 27, 28, 9, 10, 29, 30, 31, 32, 33, 34, 35, 36, 37, 38, 39, 40, 41, 42, 43, 44, 45, 46, 47, 48, 49, 50, 51, 52, 53, 54, 55, 56, 57, 58, 8, 59, 60, 61, 62, 63, 64, 65, 66, 67, 68, 69, 70, 71, 72, 73, 74, 75, 76, 77, 78, 79, 80, 24]
theorem k49 : compFunc Tryz.prog 49 = some (82, c49, [.cell 4 true 4]) := by kernel_rfl
def c53 : ACode :=
 .seq (.ops [
   ⟨(some 3), .box (.t 0), none, []⟩,
   ⟨(some 4), .box (.t 1), none, []⟩,
   ⟨(some 6), .mv (.c .nilP), none, []⟩])
 (.seq (.ops [
   ⟨(some 12), .load true 4 (.t 3), none, []⟩,
   ⟨(some 13), .load true 6 (.t 4), none, []⟩,
   ⟨(some 14), .callF 46 [(.t 12), (.t 13)], none, []⟩,
   ⟨(some 15), .build [.nilP, .nilS, .nilS] [(0, 1, (.t 14))], none, []⟩,
   ⟨(some 16), .box (.t 15), none, []⟩,
   ⟨(some 7), .mv (.t 16), none, []⟩])
 (.seq (.ops [
   ⟨(some 17), .mv (.t 7), none, []⟩,
   ⟨(some 18), .mv (.t 7), none, []⟩,
   ⟨(some 19), .nilck (.t 18), none, []⟩,
   ⟨(some 20), .fa 0 (.t 19), none, []⟩,
   ⟨(some 21), .load false 1 (.t 20), none, []⟩,
   ⟨(some 22), .mv (.t 2), none, []⟩,
   ⟨(some 23), .callF 75 [(.t 21), (.t 22)], none, []⟩,
   ⟨(some 24), .nilck (.t 17), none, []⟩,
   ⟨(some 25), .fa 1 (.t 24), none, []⟩,
   ⟨none, .store 1 (.t 25) (.t 23), none, []⟩])
 (.seq (.ops [
   ⟨(some 26), .mv (.t 7), none, []⟩,
   ⟨(some 27), .mv (.t 7), none, []⟩,
   ⟨(some 28), .nilck (.t 27), none, []⟩,
   ⟨(some 29), .fa 1 (.t 28), none, []⟩,
   ⟨(some 30), .load false 1 (.t 29), none, []⟩,
   ⟨(some 31), .lenS (.t 30), none, []⟩,
   ⟨(some 32), .bin .add .int (.t 31) (.c (.int .i64 1)), none, []⟩,
   ⟨(some 33), .mkS [(.int .i64 0), (.int .i64 0), (.int .i64 0)] 24 (.t 32) (.t 32), none, []⟩,
   ⟨(some 34), .nilck (.t 26), none, []⟩,
   ⟨(some 35), .fa 2 (.t 34), none, []⟩,
   ⟨none, .store 1 (.t 35) (.t 33), none, []⟩])
 (.seq (.seq (.ops [
   ⟨(some 36), .mv (.t 7), none, []⟩,
   ⟨(some 37), .nilck (.t 36), none, []⟩,
   ⟨(some 38), .fa 1 (.t 37), none, []⟩,
   ⟨(some 39), .load false 1 (.t 38), none, []⟩,
   ⟨(some 40), .lenS (.t 39), none, []⟩,
   ⟨(some 41), .bin .sub .int (.t 40) (.c (.int .i64 1)), none, []⟩,
   ⟨(some 8), .mv (.t 41), none, []⟩])
 (.block 0 (.loop (.seq (.seq (.ops [
    ⟨(some 42), .mv (.t 8), none, []⟩,
    ⟨(some 43), .bin .geq .int (.t 42) (.c (.int .i64 0)), none, []⟩])
  (.cond (.t 43)
   (.skip)
   (.exit 0)))
  (.seq (.block 1 (.seq (.ops [
    ⟨(some 46), .mv (.t 8), none, []⟩,
    ⟨(some 47), .bin .add .int (.t 46) (.c (.int .i64 1)), none, []⟩,
    ⟨(some 9), .mv (.t 47), none, []⟩])
  (.block 2 (.loop (.seq (.seq (.ops [
     ⟨(some 48), .mv (.t 9), none, []⟩,
     ⟨(some 49), .mv (.t 7), none, []⟩,
     ⟨(some 50), .nilck (.t 49), none, []⟩,
     ⟨(some 51), .fa 1 (.t 50), none, []⟩,
     ⟨(some 52), .load false 1 (.t 51), none, []⟩,
     ⟨(some 53), .lenS (.t 52), none, []⟩,
     ⟨(some 54), .bin .leq .int (.t 48) (.t 53), none, []⟩])
   (.cond (.t 54)
    (.skip)
    (.exit 2)))
   (.seq (.block 3 (.seq (.ops [
     ⟨(some 57), .mv (.t 7), none, []⟩,
     ⟨(some 58), .mv (.t 8), none, []⟩,
     ⟨(some 59), .mv (.t 9), none, []⟩,
     ⟨(some 60), .callF 59 [(.t 57), (.t 58), (.t 59)], none, []⟩,
     ⟨(some 10), .alloc [(.int .i64 0), (.int .i64 0), (.int .i64 0), (.int .i64 0)], none, []⟩,
     ⟨none, .store 4 (.t 10) (.t 60), none, []⟩])
   (.seq (.seq (.dr [
     ⟨(some 61), .fa 2 (.t 10), none, []⟩,
     ⟨(some 62), .load false 1 (.t 61), none, [0]⟩,
     ⟨(some 63), .mv (.t 7), none, []⟩,
     ⟨(some 64), .nilck (.t 63), none, [2]⟩,
     ⟨(some 65), .fa 0 (.t 64), none, [3]⟩,
     ⟨(some 66), .load false 1 (.t 65), none, [4]⟩,
     ⟨(some 67), .nilck (.t 66), none, [5]⟩,
     ⟨(some 68), .fa 4 (.t 67), none, [6]⟩,
     ⟨(some 69), .fa 0 (.t 68), none, [7]⟩,
     ⟨(some 70), .load false 1 (.t 69), none, [8]⟩,
     ⟨(some 71), .bin .gtr .int (.t 62) (.t 70), none, [1, 9]⟩])
   (.cond (.t 71)
    (.exit 2)
    (.skip)))
   (.seq (.ops [
     ⟨(some 72), .mv (.t 7), none, []⟩,
     ⟨(some 73), .nilck (.t 72), none, []⟩,
     ⟨(some 74), .fa 2 (.t 73), none, []⟩,
     ⟨(some 75), .load false 1 (.t 74), none, []⟩,
     ⟨(some 76), .mv (.t 9), none, []⟩,
     ⟨(some 77), .ixS 3 (.t 75) (.t 76), none, []⟩,
     ⟨(some 78), .load true 3 (.t 77), none, []⟩,
     ⟨(some 11), .alloc [(.int .i64 0), (.int .i64 0), (.int .i64 0)], none, []⟩,
     ⟨none, .store 3 (.t 11) (.t 78), none, []⟩])
   (.seq (.ops [
     ⟨(some 79), .fa 3 (.t 10), none, []⟩,
     ⟨(some 80), .load false 1 (.t 79), none, []⟩,
     ⟨(some 81), .fa 0 (.t 11), none, []⟩,
     ⟨(some 82), .load false 1 (.t 81), none, []⟩,
     ⟨(some 83), .bin .add .int (.t 80) (.t 82), none, []⟩,
     ⟨(some 84), .fa 1 (.t 11), none, []⟩,
     ⟨(some 85), .load false 1 (.t 84), none, []⟩,
     ⟨(some 86), .bin .add .int (.c (.int .i64 1)) (.t 85), none, []⟩,
     ⟨(some 87), .mv (.t 9), none, []⟩,
     ⟨(some 88), .build [(.int .i64 0), (.int .i64 0), (.int .i64 0)] [(0, 1, (.t 83)), (1, 1, (.t 86)), (2, 1, (.t 87))], none, []⟩,
     ⟨none, .store 3 (.t 11) (.t 88), none, []⟩])
   (.seq (.dr [
     ⟨(some 89), .mv (.t 9), none, []⟩,
     ⟨(some 90), .mv (.t 8), none, []⟩,
     ⟨(some 91), .bin .add .int (.t 90) (.c (.int .i64 1)), none, [1]⟩,
     ⟨(some 92), .bin .eql .int (.t 89) (.t 91), none, [0, 2]⟩,
     ⟨(some 93), .mv (.t 92), none, [3]⟩,
     ⟨(some 94), .mv (.t 7), (some (93, false)), [4]⟩,
     ⟨(some 95), .nilck (.t 94), (some (93, false)), [5, 4]⟩,
     ⟨(some 96), .fa 2 (.t 95), (some (93, false)), [6, 4]⟩,
     ⟨(some 97), .load false 1 (.t 96), (some (93, false)), [7, 4]⟩,
     ⟨(some 98), .mv (.t 8), (some (93, false)), [4]⟩,
     ⟨(some 99), .ixS 3 (.t 97) (.t 98), (some (93, false)), [8, 9, 4]⟩,
     ⟨(some 100), .load true 3 (.t 99), (some (93, false)), [10, 4]⟩,
     ⟨(some 101), .load true 3 (.t 11), (some (93, false)), [4]⟩,
     ⟨(some 102), .callF 76 [(.t 100), (.t 101)], (some (93, false)), [11, 12, 4, 4]⟩,
     ⟨(some 103), .un .not (.t 102), (some (93, false)), [13, 4]⟩,
     ⟨(some 104), .pick (.t 93) (.c (.bool true)) (.t 103), none, [4, 14]⟩])
   (.cond (.t 104)
    (.dr [
      ⟨(some 105), .mv (.t 7), none, []⟩,
      ⟨(some 106), .nilck (.t 105), none, [0]⟩,
      ⟨(some 107), .fa 2 (.t 106), none, [1]⟩,
      ⟨(some 108), .load false 1 (.t 107), none, [2]⟩,
      ⟨(some 109), .mv (.t 8), none, []⟩,
      ⟨(some 110), .load true 3 (.t 11), none, []⟩,
      ⟨(some 111), .ixS 3 (.t 108) (.t 109), none, [3, 4, 0, 1, 2, 3, 4, 5]⟩,
      ⟨none, .store 3 (.t 111) (.t 110), none, [6, 5, 0, 1, 2, 3, 4, 5]⟩])
    (.skip))))))))
   (.ops [
     ⟨(some 55), .mv (.t 9), none, []⟩,
     ⟨(some 56), .bin .add .int (.t 55) (.c (.int .i64 1)), none, []⟩,
     ⟨(some 9), .mv (.t 56), none, []⟩])))))))
  (.ops [
    ⟨(some 44), .mv (.t 8), none, []⟩,
    ⟨(some 45), .bin .sub .int (.t 44) (.c (.int .i64 1)), none, []⟩,
    ⟨(some 8), .mv (.t 45), none, []⟩]))))))
 (.seq (.ops [
   ⟨(some 112), .mv (.t 7), none, []⟩,
   ⟨(some 6), .mv (.t 112), none, []⟩])
 (.ret))))))
def m53_0 : List Nat := [42, 43, 46, 47, 9, 48, 49, 50, 51, 52, 53, 54, 57, 58, 59, 60, 10, 61, 62, 63, 64, 65, 66, 67, 68, 69, 70, 71, 72, 73, 74, 75, 76, 77, 78, 11, 79, 80, 81, 82, 83, 84, 85, 86, 87, 88, 89, 90, 91, 92, 93, 94, 95, 96, 97, 98, 99, 100, 101, 102, 103, 104, 105, 106, 107, 108, 109, 110, 111, 55, 56, 44, 45, 8]
def m53_1 : List Nat := [48, 49, 50, 51, 52, 53, 54, 57, 58, 59, 60, 10, 61, 62, 63, 64, 65, 66, 67, 68, 69, 70, 71, 72, 73, 74, 75, 76, 77, 78, 11, 79, 80, 81, 82, 83, 84, 85, 86, 87, 88, 89, 90, 91, 92, 93, 94, 95, 96, 97, 98, 99, 100, 101, 102, 103, 104, 105, 106, 107, 108, 109, 110, 111, 55, 56, 9]
theorem k53 : compFunc Tryz.prog 53 = some (113, c53, [.t 6]) := by kernel_rfl
def c54 : ACode :=
 .seq (.ops [
   ⟨(some 1), .box (.t 0), none, []⟩,
   ⟨(some 2), .mv (.c .nilF), none, []⟩])
 (.seq (.ops [
   ⟨(some 3), .mkF (.func 77) [] [(.t 1)], none, []⟩,
   ⟨(some 2), .mv (.t 3), none, []⟩])
 (.ret))
theorem k54 : compFunc Tryz.prog 54 = some (4, c54, [.t 2]) := by kernel_rfl
def c59 : ACode :=
 .seq (.ops [
   ⟨(some 6), .alloc [(.int .i64 0), (.int .i64 0), (.int .i64 0), (.int .i64 0)], none, []⟩])
 (.seq (.ops [
   ⟨(some 10), .mv (.t 1), none, []⟩,
   ⟨(some 11), .mv (.t 2), none, []⟩,
   ⟨(some 12), .mv (.t 0), none, []⟩,
   ⟨(some 13), .nilck (.t 12), none, []⟩,
   ⟨(some 14), .fa 0 (.t 13), none, []⟩,
   ⟨(some 15), .load false 1 (.t 14), none, []⟩,
   ⟨(some 16), .nilck (.t 15), none, []⟩,
   ⟨(some 17), .fa 0 (.t 16), none, []⟩,
   ⟨(some 18), .fa 1 (.t 17), none, []⟩,
   ⟨(some 19), .load false 1 (.t 18), none, []⟩,
   ⟨(some 20), .un .neg (.t 19), none, []⟩,
   ⟨(some 21), .build [(.int .i64 0), (.int .i64 0), (.int .i64 0), (.int .i64 0)] [(0, 1, (.t 10)), (1, 1, (.t 11)), (2, 1, (.t 20))], none, []⟩,
   ⟨(some 7), .alloc [(.int .i64 0), (.int .i64 0), (.int .i64 0), (.int .i64 0)], none, []⟩,
   ⟨none, .store 4 (.t 7) (.t 21), none, []⟩])
 (.seq (.seq (.ops [
   ⟨(some 22), .mv (.t 0), none, []⟩,
   ⟨(some 23), .nilck (.t 22), none, []⟩,
   ⟨(some 24), .fa 1 (.t 23), none, []⟩,
   ⟨(some 25), .load false 1 (.t 24), none, []⟩,
   ⟨(some 26), .mv (.t 1), none, []⟩,
   ⟨(some 27), .mv (.t 2), none, []⟩,
   ⟨(some 28), .slS 4 (.t 25) (some (.t 26)) (some (.t 27)) none, none, []⟩,
   ⟨(some 29), .lenS (.t 28), none, []⟩,
   ⟨(some 30), .mv (.c (.int .i64 0)), none, []⟩])
 (.block 0 (.loop (.seq (.ops [
    ⟨(some 31), .bin .lss .int (.t 30) (.t 29), none, []⟩])
  (.seq (.cond (.t 31)
   (.skip)
   (.exit 0))
  (.seq (.block 1 (.seq (.ops [
    ⟨(some 32), .ixS 4 (.t 28) (.t 30), none, []⟩,
    ⟨(some 33), .load true 4 (.t 32), none, []⟩,
    ⟨(some 9), .alloc [(.str .empty), .nilS, .nilS, (.int .i64 0)], none, []⟩,
    ⟨none, .store 4 (.t 9) (.t 33), none, []⟩])
  (.dr [
    ⟨(some 34), .fa 2 (.t 7), none, []⟩,
    ⟨(some 35), .load false 1 (.t 34), none, [0]⟩,
    ⟨(some 36), .mv (.t 0), none, []⟩,
    ⟨(some 37), .nilck (.t 36), none, [2]⟩,
    ⟨(some 38), .fa 0 (.t 37), none, [3]⟩,
    ⟨(some 39), .load false 1 (.t 38), none, [4]⟩,
    ⟨(some 40), .nilck (.t 39), none, [5]⟩,
    ⟨(some 41), .fa 0 (.t 40), none, [6]⟩,
    ⟨(some 42), .fa 1 (.t 41), none, [7]⟩,
    ⟨(some 43), .load false 1 (.t 42), none, [8]⟩,
    ⟨(some 44), .fa 3 (.t 9), none, []⟩,
    ⟨(some 45), .load false 1 (.t 44), none, [10]⟩,
    ⟨(some 46), .bin .add .int (.t 43) (.t 45), none, [9, 11]⟩,
    ⟨(some 47), .bin .add .int (.t 35) (.t 46), none, [1, 12]⟩,
    ⟨(some 48), .fa 2 (.t 7), none, [0, 1, 2, 3, 4, 5, 6, 7, 8, 9, 10, 11, 12, 13]⟩,
    ⟨none, .store 1 (.t 48) (.t 47), none, [14, 13, 0, 1, 2, 3, 4, 5, 6, 7, 8, 9, 10, 11, 12, 13]⟩])))
  (.ops [
    ⟨(some 49), .bin .add .int (.t 30) (.c (.int .i64 1)), none, []⟩,
    ⟨(some 30), .mv (.t 49), none, []⟩])))))))
 (.seq (.seq (.ops [
   ⟨(some 50), .mv (.t 2), none, []⟩,
   ⟨(some 51), .mv (.t 0), none, []⟩,
   ⟨(some 52), .nilck (.t 51), none, []⟩,
   ⟨(some 53), .fa 1 (.t 52), none, []⟩,
   ⟨(some 54), .load false 1 (.t 53), none, []⟩,
   ⟨(some 55), .lenS (.t 54), none, []⟩,
   ⟨(some 56), .bin .eql .int (.t 50) (.t 55), none, []⟩])
 (.cond (.t 56)
  (.seq (.ops [
    ⟨(some 57), .load true 4 (.t 7), none, []⟩,
    ⟨none, .store 4 (.t 6) (.t 57), none, []⟩])
  (.ret))
  (.skip)))
 (.seq (.dr [
   ⟨(some 58), .mv (.t 0), none, []⟩,
   ⟨(some 59), .nilck (.t 58), none, [0]⟩,
   ⟨(some 60), .fa 0 (.t 59), none, [1]⟩,
   ⟨(some 61), .load false 1 (.t 60), none, [2]⟩,
   ⟨(some 62), .nilck (.t 61), none, [3]⟩,
   ⟨(some 63), .fa 4 (.t 62), none, [4]⟩,
   ⟨(some 64), .fa 0 (.t 63), none, [5]⟩,
   ⟨(some 65), .load false 1 (.t 64), none, [6]⟩,
   ⟨(some 66), .fa 2 (.t 7), none, []⟩,
   ⟨(some 67), .load false 1 (.t 66), none, [8]⟩,
   ⟨(some 68), .bin .sub .int (.t 65) (.t 67), none, [7, 9]⟩,
   ⟨(some 69), .mv (.t 0), none, []⟩,
   ⟨(some 70), .nilck (.t 69), none, [11]⟩,
   ⟨(some 71), .fa 0 (.t 70), none, [12]⟩,
   ⟨(some 72), .load false 1 (.t 71), none, [13]⟩,
   ⟨(some 73), .nilck (.t 72), none, [14]⟩,
   ⟨(some 74), .fa 4 (.t 73), none, [15]⟩,
   ⟨(some 75), .fa 0 (.t 74), none, [16]⟩,
   ⟨(some 76), .load false 1 (.t 75), none, [17]⟩,
   ⟨(some 77), .fa 2 (.t 7), none, []⟩,
   ⟨(some 78), .load false 1 (.t 77), none, [19]⟩,
   ⟨(some 79), .bin .sub .int (.t 76) (.t 78), none, [18, 20]⟩,
   ⟨(some 80), .bin .mul .int (.t 68) (.t 79), none, [10, 21]⟩,
   ⟨(some 81), .fa 3 (.t 7), none, [0, 1, 2, 3, 4, 5, 6, 7, 8, 9, 10, 11, 12, 13, 14, 15, 16, 17, 18, 19, 20, 21, 22]⟩,
   ⟨none, .store 1 (.t 81) (.t 80), none, [23, 22, 0, 1, 2, 3, 4, 5, 6, 7, 8, 9, 10, 11, 12, 13, 14, 15, 16, 17, 18, 19, 20, 21, 22]⟩])
 (.seq (.seq (.dr [
   ⟨(some 82), .mv (.t 0), none, []⟩,
   ⟨(some 83), .nilck (.t 82), none, [0]⟩,
   ⟨(some 84), .fa 1 (.t 83), none, [1]⟩,
   ⟨(some 85), .load false 1 (.t 84), none, [2]⟩,
   ⟨(some 86), .mv (.t 2), none, []⟩,
   ⟨(some 87), .bin .sub .int (.t 86) (.c (.int .i64 1)), none, [4]⟩,
   ⟨(some 88), .ixS 4 (.t 85) (.t 87), none, [3, 5]⟩,
   ⟨(some 89), .fa 0 (.t 88), none, [6]⟩,
   ⟨(some 90), .load false 1 (.t 89), none, [7]⟩,
   ⟨(some 91), .lenStr (.t 90), none, [8]⟩,
   ⟨(some 92), .mv (.t 0), none, []⟩,
   ⟨(some 93), .nilck (.t 92), none, [10]⟩,
   ⟨(some 94), .fa 0 (.t 93), none, [11]⟩,
   ⟨(some 95), .load false 1 (.t 94), none, [12]⟩,
   ⟨(some 96), .nilck (.t 95), none, [13]⟩,
   ⟨(some 97), .fa 4 (.t 96), none, [14]⟩,
   ⟨(some 98), .fa 3 (.t 97), none, [15]⟩,
   ⟨(some 99), .load false 1 (.t 98), none, [16]⟩,
   ⟨(some 100), .bin .leq .int (.t 91) (.t 99), none, [9, 17]⟩])
 (.cond (.t 100)
  (.dr [
    ⟨(some 101), .fa 3 (.t 7), none, []⟩,
    ⟨(some 102), .load false 1 (.t 101), none, [0]⟩,
    ⟨(some 103), .mv (.t 0), none, []⟩,
    ⟨(some 104), .nilck (.t 103), none, [2]⟩,
    ⟨(some 105), .fa 0 (.t 104), none, [3]⟩,
    ⟨(some 106), .load false 1 (.t 105), none, [4]⟩,
    ⟨(some 107), .nilck (.t 106), none, [5]⟩,
    ⟨(some 108), .fa 4 (.t 107), none, [6]⟩,
    ⟨(some 109), .fa 4 (.t 108), none, [7]⟩,
    ⟨(some 110), .load false 1 (.t 109), none, [8]⟩,
    ⟨(some 111), .bin .add .int (.t 102) (.t 110), none, [1, 9]⟩,
    ⟨(some 112), .fa 3 (.t 7), none, [0, 1, 2, 3, 4, 5, 6, 7, 8, 9, 10]⟩,
    ⟨none, .store 1 (.t 112) (.t 111), none, [11, 10, 0, 1, 2, 3, 4, 5, 6, 7, 8, 9, 10]⟩])
  (.skip)))
 (.seq (.ops [
   ⟨(some 113), .load true 4 (.t 7), none, []⟩,
   ⟨none, .store 4 (.t 6) (.t 113), none, []⟩])
 (.ret)))))))
def m59_0 : List Nat := [31, 32, 33, 9, 34, 35, 36, 37, 38, 39, 40, 41, 42, 43, 44, 45, 46, 47, 48, 49, 30]
theorem k59 : compFunc Tryz.prog 59 = some (114, c59, [.cell 6 true 4]) := by kernel_rfl
def c60 : ACode :=
 .seq (.ops [
   ⟨(some 1), .box (.t 0), none, []⟩,
   ⟨(some 2), .mv (.c .nilF), none, []⟩])
 (.seq (.ops [
   ⟨(some 3), .mkF (.func 78) [] [(.t 1)], none, []⟩,
   ⟨(some 2), .mv (.t 3), none, []⟩])
 (.ret))
theorem k60 : compFunc Tryz.prog 60 = some (4, c60, [.t 2]) := by kernel_rfl
def c61 : ACode :=
 .seq (.ops [
   ⟨(some 2), .mv (.c (.int .i64 0)), none, []⟩])
 (.seq (.dr [
   ⟨(some 3), .mv (.t 0), none, []⟩,
   ⟨(some 4), .nilck (.t 3), none, [0]⟩,
   ⟨(some 5), .fa 4 (.t 4), none, [1]⟩,
   ⟨(some 6), .fa 1 (.t 5), none, [2]⟩,
   ⟨(some 7), .load false 1 (.t 6), none, [3]⟩,
   ⟨(some 8), .mv (.t 0), none, []⟩,
   ⟨(some 9), .nilck (.t 8), none, [5]⟩,
   ⟨(some 10), .fa 0 (.t 9), none, [6]⟩,
   ⟨(some 11), .fa 0 (.t 10), none, [7]⟩,
   ⟨(some 12), .load false 1 (.t 11), none, [8]⟩,
   ⟨(some 13), .mv (.t 0), none, []⟩,
   ⟨(some 14), .nilck (.t 13), none, [10]⟩,
   ⟨(some 15), .fa 4 (.t 14), none, [11]⟩,
   ⟨(some 16), .fa 2 (.t 15), none, [12]⟩,
   ⟨(some 17), .load false 1 (.t 16), none, [13]⟩,
   ⟨(some 18), .bin .add .int (.t 12) (.t 17), none, [9, 14]⟩,
   ⟨(some 19), .bin .mul .int (.t 7) (.t 18), none, [4, 15]⟩,
   ⟨(some 20), .mv (.t 0), none, []⟩,
   ⟨(some 21), .nilck (.t 20), none, [17]⟩,
   ⟨(some 22), .fa 4 (.t 21), none, [18]⟩,
   ⟨(some 23), .fa 2 (.t 22), none, [19]⟩,
   ⟨(some 24), .load false 1 (.t 23), none, [20]⟩,
   ⟨(some 25), .bin .sub .int (.t 19) (.t 24), none, [16, 21]⟩,
   ⟨(some 2), .mv (.t 25), none, [22, 0, 1, 2, 3, 4, 5, 6, 7, 8, 9, 10, 11, 12, 13, 14, 15, 16, 17, 18, 19, 20, 21, 22]⟩])
 (.ret))
theorem k61 : compFunc Tryz.prog 61 = some (26, c61, [.t 2]) := by kernel_rfl
def c69 : ACode :=
 .seq (.ops [
   ⟨(some 4), .mv (.c (.bool false)), none, []⟩])
 (.seq (.seq (.ops [
   ⟨(some 6), .mv (.t 0), none, []⟩,
   ⟨(some 7), .lenS (.t 6), none, []⟩,
   ⟨(some 8), .mv (.t 1), none, []⟩,
   ⟨(some 9), .lenS (.t 8), none, []⟩,
   ⟨(some 10), .bin .neq .int (.t 7) (.t 9), none, []⟩])
 (.cond (.t 10)
  (.seq (.ops [
    ⟨(some 4), .mv (.c (.bool false)), none, []⟩])
  (.ret))
  (.skip)))
 (.seq (.seq (.ops [
   ⟨(some 5), .mv (.c (.int .i64 0)), none, []⟩])
 (.block 0 (.loop (.seq (.seq (.ops [
    ⟨(some 11), .mv (.t 5), none, []⟩,
    ⟨(some 12), .mv (.t 0), none, []⟩,
    ⟨(some 13), .lenS (.t 12), none, []⟩,
    ⟨(some 14), .bin .lss .int (.t 11) (.t 13), none, []⟩])
  (.cond (.t 14)
   (.skip)
   (.exit 0)))
  (.seq (.block 1 (.seq (.dr [
    ⟨(some 17), .mv (.t 0), none, []⟩,
    ⟨(some 18), .mv (.t 5), none, []⟩,
    ⟨(some 19), .ixS 1 (.t 17) (.t 18), none, [0, 1]⟩,
    ⟨(some 20), .load false 1 (.t 19), none, [2]⟩,
    ⟨(some 21), .mv (.t 1), none, []⟩,
    ⟨(some 22), .mv (.t 5), none, []⟩,
    ⟨(some 23), .ixS 1 (.t 21) (.t 22), none, [4, 5]⟩,
    ⟨(some 24), .load false 1 (.t 23), none, [6]⟩,
    ⟨(some 25), .bin .neq .int (.t 20) (.t 24), none, [3, 7]⟩])
  (.cond (.t 25)
   (.seq (.ops [
     ⟨(some 4), .mv (.c (.bool false)), none, []⟩])
   (.ret))
   (.skip))))
  (.ops [
    ⟨(some 15), .mv (.t 5), none, []⟩,
    ⟨(some 16), .bin .add .int (.t 15) (.c (.int .i64 1)), none, []⟩,
    ⟨(some 5), .mv (.t 16), none, []⟩]))))))
 (.seq (.ops [
   ⟨(some 4), .mv (.c (.bool true)), none, []⟩])
 (.ret))))
def m69_0 : List Nat := [11, 12, 13, 14, 17, 18, 19, 20, 21, 22, 23, 24, 25, 4, 15, 16, 5]
theorem k69 : compFunc Tryz.prog 69 = some (26, c69, [.t 4]) := by kernel_rfl
def c73 : ACode :=
 .seq (.ops [
   ⟨(some 4), .mv (.c (.int .i64 0)), none, []⟩])
 (.seq (.seq (.ops [
   ⟨(some 6), .mv (.t 0), none, []⟩,
   ⟨(some 7), .lenS (.t 6), none, []⟩,
   ⟨(some 8), .mv (.c (.int .i64 0)), none, []⟩])
 (.block 0 (.loop (.seq (.ops [
    ⟨(some 9), .bin .lss .int (.t 8) (.t 7), none, []⟩])
  (.seq (.cond (.t 9)
   (.skip)
   (.exit 0))
  (.seq (.block 1 (.seq (.ops [
    ⟨(some 10), .mv (.t 8), none, []⟩,
    ⟨(some 5), .mv (.t 10), none, []⟩])
  (.seq (.ops [
    ⟨(some 11), .mv (.t 1), none, []⟩,
    ⟨(some 12), .mv (.t 0), none, []⟩,
    ⟨(some 13), .mv (.t 5), none, []⟩,
    ⟨(some 14), .ixS 1 (.t 12) (.t 13), none, []⟩,
    ⟨(some 15), .load false 1 (.t 14), none, []⟩,
    ⟨(some 16), .callV (.t 11) [(.t 15)], none, []⟩])
  (.cond (.t 16)
   (.seq (.ops [
     ⟨(some 17), .mv (.t 5), none, []⟩,
     ⟨(some 4), .mv (.t 17), none, []⟩])
   (.ret))
   (.skip)))))
  (.ops [
    ⟨(some 18), .bin .add .int (.t 8) (.c (.int .i64 1)), none, []⟩,
    ⟨(some 8), .mv (.t 18), none, []⟩])))))))
 (.seq (.ops [
   ⟨(some 4), .mv (.c (.int .i64 (-1))), none, []⟩])
 (.ret)))
def m73_0 : List Nat := [9, 10, 5, 11, 12, 13, 14, 15, 16, 17, 4, 18, 8]
theorem k73 : compFunc Tryz.prog 73 = some (19, c73, [.t 4]) := by kernel_rfl
def c74 : ACode :=
 .seq (.ops [
   ⟨(some 2), .box (.t 0), none, []⟩,
   ⟨(some 4), .mv (.c .nilS), none, []⟩,
   ⟨(some 5), .mv (.c (.bool false)), none, []⟩])
 (.seq (.ops [
   ⟨(some 9), .mkM (.one .str), none, []⟩,
   ⟨(some 10), .buildS 1 [(.int .i64 0)] 0 [], none, []⟩,
   ⟨none, .upd (.one .str) (.t 9) (.c (.str .empty)) (.t 10), none, []⟩,
   ⟨(some 11), .mv (.t 9), none, []⟩,
   ⟨(some 6), .alloc [.nilM], none, []⟩,
   ⟨none, .store 1 (.t 6) (.t 11), none, []⟩])
 (.seq (.ops [
   ⟨(some 7), .alloc [.nilF], none, []⟩])
 (.seq (.ops [
   ⟨(some 12), .mkF (.func 86) [] [(.t 6), (.t 2), (.t 7)], none, []⟩,
   ⟨none, .store 1 (.t 7) (.t 12), none, []⟩])
 (.seq (.ops [
   ⟨(some 13), .load false 1 (.t 7), none, []⟩,
   ⟨(some 14), .mv (.t 1), none, []⟩,
   ⟨(some 15), .callV (.t 13) [(.t 14)], none, []⟩,
   ⟨(some 8), .mv (.t 15), none, []⟩])
 (.seq (.ops [
   ⟨(some 16), .mv (.t 8), none, []⟩,
   ⟨(some 17), .mv (.t 8), none, []⟩,
   ⟨(some 18), .bin .neq .slice (.t 17) (.c .nilS), none, []⟩,
   ⟨(some 4), .mv (.t 16), none, []⟩,
   ⟨(some 5), .mv (.t 18), none, []⟩])
 (.ret))))))
theorem k74 : compFunc Tryz.prog 74 = some (19, c74, [.t 4, .t 5]) := by kernel_rfl
def c75 : ACode :=
 .seq (.ops [
   ⟨(some 4), .mv (.c .nilS), none, []⟩])
 (.seq (.ops [
   ⟨(some 9), .mv (.t 1), none, []⟩,
   ⟨(some 10), .lenStr (.t 9), none, []⟩,
   ⟨(some 11), .bin .leq .int (.t 10) (.c (.int .i64 1000)), none, []⟩,
   ⟨(some 12), .callF 48 [(.t 11), (.c (.int .i64 3))], none, []⟩])
 (.seq (.ops [
   ⟨(some 13), .mv (.t 1), none, []⟩,
   ⟨(some 14), .callF 87 [(.t 13), (.c (.str ⟨#[32]⟩))], none, []⟩,
   ⟨(some 5), .mv (.t 14), none, []⟩])
 (.seq (.ops [
   ⟨(some 15), .mv (.t 5), none, []⟩,
   ⟨(some 16), .callF 88 [(.t 15), (.f 42)], none, []⟩,
   ⟨(some 17), .un .not (.t 16), none, []⟩,
   ⟨(some 18), .callF 48 [(.t 17), (.c (.int .i64 6))], none, []⟩])
 (.seq (.ops [
   ⟨(some 19), .mv (.t 5), none, []⟩,
   ⟨(some 20), .lenS (.t 19), none, []⟩,
   ⟨(some 21), .bin .leq .int (.t 20) (.c (.int .i64 40)), none, []⟩,
   ⟨(some 22), .mv (.t 21), none, []⟩,
   ⟨(some 23), .mv (.t 5), (some (22, true)), []⟩,
   ⟨(some 24), .callF 88 [(.t 23), (.f 89)], (some (22, true)), []⟩,
   ⟨(some 25), .un .not (.t 24), (some (22, true)), []⟩,
   ⟨(some 26), .pick (.t 22) (.t 25) (.c (.bool false)), none, []⟩,
   ⟨(some 27), .callF 48 [(.t 26), (.c (.int .i64 3))], none, []⟩])
 (.seq (.seq (.ops [
   ⟨(some 28), .mv (.t 5), none, []⟩,
   ⟨(some 29), .lenS (.t 28), none, []⟩,
   ⟨(some 30), .mv (.c (.int .i64 0)), none, []⟩])
 (.block 0 (.loop (.seq (.ops [
    ⟨(some 31), .bin .lss .int (.t 30) (.t 29), none, []⟩])
  (.seq (.cond (.t 31)
   (.skip)
   (.exit 0))
  (.seq (.block 1 (.seq (.ops [
    ⟨(some 32), .ixS 1 (.t 28) (.t 30), none, []⟩,
    ⟨(some 33), .load false 1 (.t 32), none, []⟩,
    ⟨(some 7), .mv (.t 33), none, []⟩])
  (.seq (.ops [
    ⟨(some 34), .mv (.t 0), none, []⟩,
    ⟨(some 35), .mv (.t 7), none, []⟩,
    ⟨(some 36), .callF 49 [(.t 34), (.t 35)], none, []⟩,
    ⟨(some 8), .alloc [(.str .empty), .nilS, .nilS, (.int .i64 0)], none, []⟩,
    ⟨none, .store 4 (.t 8) (.t 36), none, []⟩])
  (.seq (.dr [
    ⟨(some 37), .fa 3 (.t 8), none, []⟩,
    ⟨(some 38), .load false 1 (.t 37), none, [0]⟩,
    ⟨(some 39), .mv (.t 0), none, []⟩,
    ⟨(some 40), .nilck (.t 39), none, [2]⟩,
    ⟨(some 41), .fa 4 (.t 40), none, [3]⟩,
    ⟨(some 42), .fa 0 (.t 41), none, [4]⟩,
    ⟨(some 43), .load false 1 (.t 42), none, [5]⟩,
    ⟨(some 44), .bin .leq .int (.t 38) (.t 43), none, [1, 6]⟩,
    ⟨(some 45), .callF 48 [(.t 44), (.c (.int .i64 201))], none, [7]⟩])
  (.ops [
    ⟨(some 46), .mv (.t 4), none, []⟩,
    ⟨(some 47), .load true 4 (.t 8), none, []⟩,
    ⟨(some 48), .buildS 4 [(.str .empty), .nilS, .nilS, (.int .i64 0)] 1 [(0, (.t 47))], none, []⟩,
    ⟨(some 49), .app 4 72 (.t 46) (.t 48), none, []⟩,
    ⟨(some 4), .mv (.t 49), none, []⟩])))))
  (.ops [
    ⟨(some 50), .bin .add .int (.t 30) (.c (.int .i64 1)), none, []⟩,
    ⟨(some 30), .mv (.t 50), none, []⟩])))))))
 (.seq (.ops [
   ⟨(some 51), .mv (.t 4), none, []⟩,
   ⟨(some 4), .mv (.t 51), none, []⟩])
 (.ret)))))))
def m75_0 : List Nat := [31, 32, 33, 7, 34, 35, 36, 8, 37, 38, 39, 40, 41, 42, 43, 44, 45, 46, 47, 48, 49, 4, 50, 30]
theorem k75 : compFunc Tryz.prog 75 = some (52, c75, [.t 4]) := by kernel_rfl
def c76 : ACode :=
 .seq (.ops [
   ⟨(some 2), .box (.t 0), none, []⟩,
   ⟨(some 3), .box (.t 1), none, []⟩,
   ⟨(some 4), .mv (.c (.bool false)), none, []⟩])
 (.seq (.ops [
   ⟨(some 5), .fa 0 (.t 2), none, []⟩,
   ⟨(some 6), .load false 1 (.t 5), none, []⟩,
   ⟨(some 7), .fa 0 (.t 3), none, []⟩,
   ⟨(some 8), .load false 1 (.t 7), none, []⟩,
   ⟨(some 9), .bin .lss .int (.t 6) (.t 8), none, []⟩,
   ⟨(some 10), .mv (.t 9), none, []⟩,
   ⟨(some 11), .fa 0 (.t 2), (some (10, false)), []⟩,
   ⟨(some 12), .load false 1 (.t 11), (some (10, false)), []⟩,
   ⟨(some 13), .fa 0 (.t 3), (some (10, false)), []⟩,
   ⟨(some 14), .load false 1 (.t 13), (some (10, false)), []⟩,
   ⟨(some 15), .bin .eql .int (.t 12) (.t 14), (some (10, false)), []⟩,
   ⟨(some 16), .mv (.t 15), (some (10, false)), []⟩,
   ⟨(some 17), .fa 1 (.t 2), (some (16, true)), []⟩,
   ⟨(some 18), .load false 1 (.t 17), (some (16, true)), []⟩,
   ⟨(some 19), .fa 1 (.t 3), (some (16, true)), []⟩,
   ⟨(some 20), .load false 1 (.t 19), (some (16, true)), []⟩,
   ⟨(some 21), .bin .lss .int (.t 18) (.t 20), (some (16, true)), []⟩,
   ⟨(some 22), .pick (.t 16) (.t 21) (.c (.bool false)), (some (10, false)), []⟩,
   ⟨(some 23), .pick (.t 10) (.c (.bool true)) (.t 22), none, []⟩,
   ⟨(some 4), .mv (.t 23), none, []⟩])
 (.ret))
theorem k76 : compFunc Tryz.prog 76 = some (24, c76, [.t 4]) := by kernel_rfl
def c77 : ACode :=
 .seq (.ops [
   ⟨(some 3), .mv (.c (.int .i64 0)), none, []⟩,
   ⟨(some 4), .mv (.c (.int .i64 0)), none, []⟩])
 (.block 0 (.loop (.seq (.seq (.ops [
    ⟨(some 5), .mv (.t 3), none, []⟩,
    ⟨(some 6), .load false 1 (.t 1), none, []⟩,
    ⟨(some 7), .nilck (.t 6), none, []⟩,
    ⟨(some 8), .fa 1 (.t 7), none, []⟩,
    ⟨(some 9), .load false 1 (.t 8), none, []⟩,
    ⟨(some 10), .lenS (.t 9), none, []⟩,
    ⟨(some 11), .bin .lss .int (.t 5) (.t 10), none, []⟩])
  (.cond (.t 11)
   (.skip)
   (.exit 0)))
  (.seq (.block 1 (.seq (.dr [
    ⟨(some 22), .mv (.t 0), none, []⟩,
    ⟨(some 23), .mv (.t 4), none, []⟩,
    ⟨(some 24), .load false 1 (.t 1), none, []⟩,
    ⟨(some 25), .mv (.t 3), none, []⟩,
    ⟨(some 26), .load false 1 (.t 1), none, []⟩,
    ⟨(some 27), .nilck (.t 26), none, [4]⟩,
    ⟨(some 28), .fa 2 (.t 27), none, [5]⟩,
    ⟨(some 29), .load false 1 (.t 28), none, [6]⟩,
    ⟨(some 30), .mv (.t 3), none, []⟩,
    ⟨(some 31), .ixS 3 (.t 29) (.t 30), none, [7, 8]⟩,
    ⟨(some 32), .fa 2 (.t 31), none, [9]⟩,
    ⟨(some 33), .load false 1 (.t 32), none, [10]⟩,
    ⟨(some 34), .callF 59 [(.t 24), (.t 25), (.t 33)], none, [2, 3, 11]⟩,
    ⟨(some 35), .callV (.t 22) [(.t 23), (.t 34)], none, [0, 1, 12, 12]⟩,
    ⟨(some 36), .un .not (.t 35), none, [13]⟩])
  (.cond (.t 36)
   (.ret)
   (.skip))))
  (.ops [
    ⟨(some 12), .load false 1 (.t 1), none, []⟩,
    ⟨(some 13), .nilck (.t 12), none, []⟩,
    ⟨(some 14), .fa 2 (.t 13), none, []⟩,
    ⟨(some 15), .load false 1 (.t 14), none, []⟩,
    ⟨(some 16), .mv (.t 3), none, []⟩,
    ⟨(some 17), .ixS 3 (.t 15) (.t 16), none, []⟩,
    ⟨(some 18), .fa 2 (.t 17), none, []⟩,
    ⟨(some 19), .load false 1 (.t 18), none, []⟩,
    ⟨(some 20), .mv (.t 4), none, []⟩,
    ⟨(some 21), .bin .add .int (.t 20) (.c (.int .i64 1)), none, []⟩,
    ⟨(some 3), .mv (.t 19), none, []⟩,
    ⟨(some 4), .mv (.t 21), none, []⟩])))))
def m77_0 : List Nat := [5, 6, 7, 8, 9, 10, 11, 22, 23, 24, 25, 26, 27, 28, 29, 30, 31, 32, 33, 34, 35, 36, 12, 13, 14, 15, 16, 17, 18, 19, 20, 21, 3, 4]
theorem k77 : compFunc Tryz.prog 77 = some (37, c77, []) := by kernel_rfl
def c78 : ACode :=
 .seq (.ops [
   ⟨(some 2), .box (.t 0), none, []⟩])
 (.seq (.ops [
   ⟨(some 8), .load false 1 (.t 1), none, []⟩,
   ⟨(some 9), .callF 54 [(.t 8)], none, []⟩])
 (.block 0 (.rangeF (.t 9) [10, 11] (.seq (.ops [
    ⟨(some 3), .mv (.t 10), none, []⟩])
  (.ops [
    ⟨(some 4), .alloc [(.int .i64 0), (.int .i64 0), (.int .i64 0), (.int .i64 0)], none, []⟩,
    ⟨none, .store 4 (.t 4) (.t 11), none, []⟩]))
  (.block 1 (.seq (.dr [
    ⟨(some 12), .mv (.t 3), none, []⟩,
    ⟨(some 13), .load false 1 (.t 1), none, []⟩,
    ⟨(some 14), .nilck (.t 13), none, [1]⟩,
    ⟨(some 15), .fa 0 (.t 14), none, [2]⟩,
    ⟨(some 16), .load false 1 (.t 15), none, [3]⟩,
    ⟨(some 17), .nilck (.t 16), none, [4]⟩,
    ⟨(some 18), .fa 4 (.t 17), none, [5]⟩,
    ⟨(some 19), .fa 1 (.t 18), none, [6]⟩,
    ⟨(some 20), .load false 1 (.t 19), none, [7]⟩,
    ⟨(some 21), .bin .quo .int (.t 12) (.t 20), none, [0, 8]⟩,
    ⟨(some 22), .mv (.t 3), none, []⟩,
    ⟨(some 23), .load false 1 (.t 1), none, []⟩,
    ⟨(some 24), .nilck (.t 23), none, [11]⟩,
    ⟨(some 25), .fa 0 (.t 24), none, [12]⟩,
    ⟨(some 26), .load false 1 (.t 25), none, [13]⟩,
    ⟨(some 27), .nilck (.t 26), none, [14]⟩,
    ⟨(some 28), .fa 4 (.t 27), none, [15]⟩,
    ⟨(some 29), .fa 1 (.t 28), none, [16]⟩,
    ⟨(some 30), .load false 1 (.t 29), none, [17]⟩,
    ⟨(some 31), .bin .rem .int (.t 22) (.t 30), none, [10, 18]⟩,
    ⟨(some 32), .load false 1 (.t 1), none, []⟩,
    ⟨(some 33), .nilck (.t 32), none, [20]⟩,
    ⟨(some 34), .fa 0 (.t 33), none, [21]⟩,
    ⟨(some 35), .load false 1 (.t 34), none, [22]⟩,
    ⟨(some 36), .nilck (.t 35), none, [23]⟩,
    ⟨(some 37), .fa 4 (.t 36), none, [24]⟩,
    ⟨(some 38), .fa 0 (.t 37), none, [25]⟩,
    ⟨(some 39), .load false 1 (.t 38), none, [26]⟩,
    ⟨(some 40), .fa 2 (.t 4), none, []⟩,
    ⟨(some 41), .load false 1 (.t 40), none, [28]⟩,
    ⟨(some 42), .bin .sub .int (.t 39) (.t 41), none, [27, 29]⟩,
    ⟨(some 43), .bin .quo .int (.t 42) (.c (.int .i64 2)), none, [30]⟩,
    ⟨(some 44), .build [(.int .i64 0), (.int .i64 0), (.int .i64 0)] [(0, 1, (.t 21)), (1, 1, (.t 31)), (2, 1, (.t 43))], none, [9, 19, 31]⟩,
    ⟨(some 5), .alloc [(.int .i64 0), (.int .i64 0), (.int .i64 0)], none, []⟩,
    ⟨none, .store 3 (.t 5) (.t 44), none, [33, 32, 0, 1, 2, 3, 4, 5, 6, 7, 8, 9, 10, 11, 12, 13, 14, 15, 16, 17, 18, 19, 20, 21, 22, 23, 24, 25, 26, 27, 28, 29, 30, 31, 32, 33]⟩])
  (.seq (.dr [
    ⟨(some 45), .load false 1 (.t 1), none, []⟩,
    ⟨(some 46), .nilck (.t 45), none, [0]⟩,
    ⟨(some 47), .fa 1 (.t 46), none, [1]⟩,
    ⟨(some 48), .load false 1 (.t 47), none, [2]⟩,
    ⟨(some 49), .fa 0 (.t 4), none, []⟩,
    ⟨(some 50), .load false 1 (.t 49), none, [4]⟩,
    ⟨(some 51), .fa 1 (.t 4), none, []⟩,
    ⟨(some 52), .load false 1 (.t 51), none, [6]⟩,
    ⟨(some 53), .slS 4 (.t 48) (some (.t 50)) (some (.t 52)) none, none, [3, 5, 7]⟩,
    ⟨(some 54), .lenS (.t 53), none, [8]⟩,
    ⟨(some 55), .mv (.c (.int .i64 0)), none, []⟩])
  (.block 2 (.loop (.seq (.ops [
     ⟨(some 56), .bin .lss .int (.t 55) (.t 54), none, []⟩])
   (.seq (.cond (.t 56)
    (.skip)
    (.exit 2))
   (.seq (.block 3 (.seq (.ops [
     ⟨(some 57), .ixS 4 (.t 53) (.t 55), none, []⟩,
     ⟨(some 58), .load true 4 (.t 57), none, []⟩,
     ⟨(some 7), .alloc [(.str .empty), .nilS, .nilS, (.int .i64 0)], none, []⟩,
     ⟨none, .store 4 (.t 7) (.t 58), none, []⟩])
   (.seq (.seq (.ops [
     ⟨(some 59), .load false 1 (.t 2), none, []⟩,
     ⟨(some 60), .load true 4 (.t 7), none, []⟩,
     ⟨(some 61), .load true 3 (.t 5), none, []⟩,
     ⟨(some 62), .callV (.t 59) [(.t 60), (.t 61)], none, []⟩,
     ⟨(some 63), .un .not (.t 62), none, []⟩])
   (.cond (.t 63)
    (.ret)
    (.skip)))
   (.dr [
     ⟨(some 64), .fa 2 (.t 5), none, []⟩,
     ⟨(some 65), .load false 1 (.t 64), none, [0]⟩,
     ⟨(some 66), .fa 3 (.t 7), none, []⟩,
     ⟨(some 67), .load false 1 (.t 66), none, [2]⟩,
     ⟨(some 68), .load false 1 (.t 1), none, []⟩,
     ⟨(some 69), .nilck (.t 68), none, [4]⟩,
     ⟨(some 70), .fa 0 (.t 69), none, [5]⟩,
     ⟨(some 71), .load false 1 (.t 70), none, [6]⟩,
     ⟨(some 72), .nilck (.t 71), none, [7]⟩,
     ⟨(some 73), .fa 0 (.t 72), none, [8]⟩,
     ⟨(some 74), .fa 1 (.t 73), none, [9]⟩,
     ⟨(some 75), .load false 1 (.t 74), none, [10]⟩,
     ⟨(some 76), .bin .add .int (.t 67) (.t 75), none, [3, 11]⟩,
     ⟨(some 77), .bin .add .int (.t 65) (.t 76), none, [1, 12]⟩,
     ⟨(some 78), .fa 2 (.t 5), none, [0, 1, 2, 3, 4, 5, 6, 7, 8, 9, 10, 11, 12, 13]⟩,
     ⟨none, .store 1 (.t 78) (.t 77), none, [14, 13, 0, 1, 2, 3, 4, 5, 6, 7, 8, 9, 10, 11, 12, 13]⟩]))))
   (.ops [
     ⟨(some 79), .bin .add .int (.t 55) (.c (.int .i64 1)), none, []⟩,
     ⟨(some 55), .mv (.t 79), none, []⟩]))))))))))))
def m78_0 : List Nat := [56, 57, 58, 7, 59, 60, 61, 62, 63, 64, 65, 66, 67, 68, 69, 70, 71, 72, 73, 74, 75, 76, 77, 78, 79, 55]
theorem k78 : compFunc Tryz.prog 78 = some (80, c78, []) := by kernel_rfl
def c86 : ACode :=
 .seq (.ops [
   ⟨(some 5), .mv (.c .nilS), none, []⟩])
 (.seq (.seq (.ops [
   ⟨(some 14), .load false 1 (.t 1), none, []⟩,
   ⟨(some 15), .mv (.t 0), none, []⟩,
   ⟨(some 16), .look (.one .str) .nilS (.t 14) (.t 15) true, none, []⟩,
   ⟨(some 13), .mv (.t 16), none, []⟩,
   ⟨(some 17), .ext (.t 13) 0, none, []⟩,
   ⟨(some 18), .ext (.t 13) 1, none, []⟩,
   ⟨(some 6), .mv (.t 17), none, []⟩,
   ⟨(some 7), .mv (.t 18), none, []⟩])
 (.seq (.ops [
   ⟨(some 19), .mv (.t 7), none, []⟩])
 (.cond (.t 19)
  (.seq (.ops [
    ⟨(some 20), .mv (.t 6), none, []⟩,
    ⟨(some 5), .mv (.t 20), none, []⟩])
  (.ret))
  (.skip))))
 (.seq (.ops [
   ⟨(some 8), .mv (.c .nilS), none, []⟩])
 (.seq (.seq (.ops [
   ⟨(some 21), .mv (.t 0), none, []⟩,
   ⟨(some 22), .lenStr (.t 21), none, []⟩,
   ⟨(some 23), .mn [(.c (.int .i64 3)), (.t 22)], none, []⟩,
   ⟨(some 9), .mv (.t 23), none, []⟩])
 (.block 0 (.loop (.seq (.seq (.ops [
    ⟨(some 24), .mv (.t 9), none, []⟩,
    ⟨(some 25), .bin .gtr .int (.t 24) (.c (.int .i64 0)), none, []⟩])
  (.cond (.t 25)
   (.skip)
   (.exit 0)))
  (.seq (.block 1 (.seq (.dr [
    ⟨(some 29), .load false 1 (.t 2), none, []⟩,
    ⟨(some 30), .nilck (.t 29), none, [0]⟩,
    ⟨(some 31), .fa 10 (.t 30), none, [1]⟩,
    ⟨(some 32), .load false 1 (.t 31), none, [2]⟩,
    ⟨(some 33), .mv (.t 0), none, []⟩,
    ⟨(some 34), .mv (.t 9), none, []⟩,
    ⟨(some 35), .slStr (.t 33) none (some (.t 34)), none, [4, 5]⟩,
    ⟨(some 36), .look (.one .str) (.int .i64 0) (.t 32) (.t 35) true, none, [3, 6]⟩,
    ⟨(some 28), .mv (.t 36), none, [7]⟩,
    ⟨(some 37), .ext (.t 28) 0, none, [8]⟩,
    ⟨(some 38), .ext (.t 28) 1, none, [8]⟩,
    ⟨(some 10), .mv (.t 37), none, [9, 0, 1, 2, 3, 4, 5, 6, 7, 8, 9]⟩,
    ⟨(some 11), .mv (.t 38), none, [10, 11, 0, 1, 2, 3, 4, 5, 6, 7, 8, 9, 10, 11]⟩])
  (.seq (.seq (.ops [
    ⟨(some 39), .mv (.t 11), none, []⟩,
    ⟨(some 40), .un .not (.t 39), none, []⟩])
  (.cond (.t 40)
   (.exit 1)
   (.skip)))
  (.seq (.dr [
    ⟨(some 41), .load false 1 (.t 3), none, []⟩,
    ⟨(some 42), .mv (.t 0), none, []⟩,
    ⟨(some 43), .mv (.t 9), none, []⟩,
    ⟨(some 44), .slStr (.t 42) (some (.t 43)) none, none, [1, 2]⟩,
    ⟨(some 45), .callV (.t 41) [(.t 44)], none, [0, 3]⟩,
    ⟨(some 12), .mv (.t 45), none, [4, 4, 0, 1, 2, 3, 4]⟩])
  (.seq (.ops [
    ⟨(some 46), .mv (.t 12), none, []⟩,
    ⟨(some 47), .bin .neq .slice (.t 46) (.c .nilS), none, []⟩,
    ⟨(some 48), .mv (.t 47), none, []⟩,
    ⟨(some 49), .mv (.t 8), (some (48, true)), []⟩,
    ⟨(some 50), .bin .eql .slice (.t 49) (.c .nilS), (some (48, true)), []⟩,
    ⟨(some 51), .mv (.t 50), (some (48, true)), []⟩,
    ⟨(some 52), .mv (.t 12), (some (51, false)), []⟩,
    ⟨(some 53), .lenS (.t 52), (some (51, false)), []⟩,
    ⟨(some 54), .bin .add .int (.t 53) (.c (.int .i64 1)), (some (51, false)), []⟩,
    ⟨(some 55), .mv (.t 8), (some (51, false)), []⟩,
    ⟨(some 56), .lenS (.t 55), (some (51, false)), []⟩,
    ⟨(some 57), .bin .lss .int (.t 54) (.t 56), (some (51, false)), []⟩,
    ⟨(some 58), .pick (.t 51) (.c (.bool true)) (.t 57), (some (48, true)), []⟩,
    ⟨(some 59), .pick (.t 48) (.t 58) (.c (.bool false)), none, []⟩])
  (.cond (.t 59)
   (.ops [
     ⟨(some 60), .mv (.t 10), none, []⟩,
     ⟨(some 61), .buildS 1 [(.int .i64 0)] 1 [(0, (.t 60))], none, []⟩,
     ⟨(some 62), .mv (.t 12), none, []⟩,
     ⟨(some 63), .app 1 8 (.t 61) (.t 62), none, []⟩,
     ⟨(some 8), .mv (.t 63), none, []⟩])
   (.skip)))))))
  (.ops [
    ⟨(some 26), .mv (.t 9), none, []⟩,
    ⟨(some 27), .bin .sub .int (.t 26) (.c (.int .i64 1)), none, []⟩,
    ⟨(some 9), .mv (.t 27), none, []⟩]))))))
 (.seq (.ops [
   ⟨(some 64), .load false 1 (.t 1), none, []⟩,
   ⟨(some 65), .mv (.t 0), none, []⟩,
   ⟨(some 66), .mv (.t 8), none, []⟩,
   ⟨none, .upd (.one .str) (.t 64) (.t 65) (.t 66), none, []⟩])
 (.seq (.ops [
   ⟨(some 67), .mv (.t 8), none, []⟩,
   ⟨(some 5), .mv (.t 67), none, []⟩])
 (.ret))))))
def m86_0 : List Nat := [24, 25, 29, 30, 31, 32, 33, 34, 35, 36, 28, 37, 38, 10, 11, 39, 40, 41, 42, 43, 44, 45, 12, 46, 47, 48, 49, 50, 51, 52, 53, 54, 55, 56, 57, 58, 59, 60, 61, 62, 63, 8, 26, 27, 9]
theorem k86 : compFunc Tryz.prog 86 = some (68, c86, [.t 5]) := by kernel_rfl
def c87 : ACode :=
 .seq (.ops [
   ⟨(some 4), .mv (.c .nilS), none, []⟩])
 (.seq (.ops [
   ⟨(some 5), .mv (.t 0), none, []⟩,
   ⟨(some 6), .mv (.t 1), none, []⟩,
   ⟨(some 7), .callF 94 [(.t 5), (.t 6), (.c (.int .i64 0)), (.c (.int .i64 (-1)))], none, []⟩,
   ⟨(some 4), .mv (.t 7), none, []⟩])
 (.ret))
theorem k87 : compFunc Tryz.prog 87 = some (8, c87, [.t 4]) := by kernel_rfl
def c88 : ACode :=
 .seq (.ops [
   ⟨(some 4), .mv (.c (.bool false)), none, []⟩])
 (.seq (.ops [
   ⟨(some 5), .mv (.t 0), none, []⟩,
   ⟨(some 6), .mv (.t 1), none, []⟩,
   ⟨(some 7), .callF 95 [(.t 5), (.t 6)], none, []⟩,
   ⟨(some 8), .bin .geq .int (.t 7) (.c (.int .i64 0)), none, []⟩,
   ⟨(some 4), .mv (.t 8), none, []⟩])
 (.ret))
theorem k88 : compFunc Tryz.prog 88 = some (9, c88, [.t 4]) := by kernel_rfl
def c89 : ACode :=
 .seq (.ops [
   ⟨(some 2), .mv (.c (.bool false)), none, []⟩])
 (.seq (.ops [
   ⟨(some 3), .mv (.t 0), none, []⟩,
   ⟨(some 4), .lenStr (.t 3), none, []⟩,
   ⟨(some 5), .bin .gtr .int (.t 4) (.c (.int .i64 24)), none, []⟩,
   ⟨(some 2), .mv (.t 5), none, []⟩])
 (.ret))
theorem k89 : compFunc Tryz.prog 89 = some (6, c89, [.t 2]) := by kernel_rfl
def c94 : ACode :=
 .seq (.ops [
   ⟨(some 8), .mv (.c .nilS), none, []⟩])
 (.seq (.seq (.ops [
   ⟨(some 12), .mv (.t 3), none, []⟩,
   ⟨(some 13), .bin .eql .int (.t 12) (.c (.int .i64 0)), none, []⟩])
 (.cond (.t 13)
  (.seq (.ops [
    ⟨(some 8), .mv (.c .nilS), none, []⟩])
  (.ret))
  (.skip)))
 (.seq (.seq (.ops [
   ⟨(some 14), .mv (.t 1), none, []⟩,
   ⟨(some 15), .bin .eql .str (.t 14) (.c (.str .empty)), none, []⟩])
 (.cond (.t 15)
  (.seq (.ops [
    ⟨(some 16), .mv (.t 0), none, []⟩,
    ⟨(some 17), .mv (.t 3), none, []⟩,
    ⟨(some 18), .callF 96 [(.t 16), (.t 17)], none, []⟩,
    ⟨(some 8), .mv (.t 18), none, []⟩])
  (.ret))
  (.skip)))
 (.seq (.seq (.ops [
   ⟨(some 19), .mv (.t 3), none, []⟩,
   ⟨(some 20), .bin .lss .int (.t 19) (.c (.int .i64 0)), none, []⟩])
 (.cond (.t 20)
  (.ops [
    ⟨(some 21), .mv (.t 0), none, []⟩,
    ⟨(some 22), .mv (.t 1), none, []⟩,
    ⟨(some 23), .callF 97 [(.t 21), (.t 22)], none, []⟩,
    ⟨(some 24), .bin .add .int (.t 23) (.c (.int .i64 1)), none, []⟩,
    ⟨(some 3), .mv (.t 24), none, []⟩])
  (.skip)))
 (.seq (.ops [
   ⟨(some 25), .mv (.t 3), none, []⟩,
   ⟨(some 26), .mv (.t 0), none, []⟩,
   ⟨(some 27), .lenStr (.t 26), none, []⟩,
   ⟨(some 28), .bin .add .int (.t 27) (.c (.int .i64 1)), none, []⟩,
   ⟨(some 29), .mn [(.t 25), (.t 28)], none, []⟩,
   ⟨(some 3), .mv (.t 29), none, []⟩])
 (.seq (.ops [
   ⟨(some 30), .mv (.t 3), none, []⟩,
   ⟨(some 31), .mkS [(.str .empty)] 16 (.t 30) (.t 30), none, []⟩,
   ⟨(some 9), .mv (.t 31), none, []⟩])
 (.seq (.ops [
   ⟨(some 32), .mv (.t 3), none, []⟩,
   ⟨(some 33), .bin .sub .int (.t 32) (.c (.int .i64 1)), none, []⟩,
   ⟨(some 3), .mv (.t 33), none, []⟩])
 (.seq (.ops [
   ⟨(some 10), .mv (.c (.int .i64 0)), none, []⟩])
 (.seq (.block 0 (.loop (.seq (.seq (.ops [
    ⟨(some 34), .mv (.t 10), none, []⟩,
    ⟨(some 35), .mv (.t 3), none, []⟩,
    ⟨(some 36), .bin .lss .int (.t 34) (.t 35), none, []⟩])
  (.cond (.t 36)
   (.skip)
   (.exit 0)))
  (.block 1 (.seq (.ops [
    ⟨(some 37), .mv (.t 0), none, []⟩,
    ⟨(some 38), .mv (.t 1), none, []⟩,
    ⟨(some 39), .callF 98 [(.t 37), (.t 38)], none, []⟩,
    ⟨(some 11), .mv (.t 39), none, []⟩])
  (.seq (.seq (.ops [
    ⟨(some 40), .mv (.t 11), none, []⟩,
    ⟨(some 41), .bin .lss .int (.t 40) (.c (.int .i64 0)), none, []⟩])
  (.cond (.t 41)
   (.exit 0)
   (.skip)))
  (.seq (.ops [
    ⟨(some 42), .mv (.t 9), none, []⟩,
    ⟨(some 43), .mv (.t 10), none, []⟩,
    ⟨(some 44), .mv (.t 0), none, []⟩,
    ⟨(some 45), .mv (.t 11), none, []⟩,
    ⟨(some 46), .mv (.t 2), none, []⟩,
    ⟨(some 47), .bin .add .int (.t 45) (.t 46), none, []⟩,
    ⟨(some 48), .slStr (.t 44) none (some (.t 47)), none, []⟩,
    ⟨(some 49), .ixS 1 (.t 42) (.t 43), none, []⟩,
    ⟨none, .store 1 (.t 49) (.t 48), none, []⟩])
  (.seq (.ops [
    ⟨(some 50), .mv (.t 0), none, []⟩,
    ⟨(some 51), .mv (.t 11), none, []⟩,
    ⟨(some 52), .mv (.t 1), none, []⟩,
    ⟨(some 53), .lenStr (.t 52), none, []⟩,
    ⟨(some 54), .bin .add .int (.t 51) (.t 53), none, []⟩,
    ⟨(some 55), .slStr (.t 50) (some (.t 54)) none, none, []⟩,
    ⟨(some 0), .mv (.t 55), none, []⟩])
  (.ops [
    ⟨(some 56), .mv (.t 10), none, []⟩,
    ⟨(some 57), .bin .add .int (.t 56) (.c (.int .i64 1)), none, []⟩,
    ⟨(some 10), .mv (.t 57), none, []⟩])))))))))
 (.seq (.ops [
   ⟨(some 58), .mv (.t 9), none, []⟩,
   ⟨(some 59), .mv (.t 10), none, []⟩,
   ⟨(some 60), .mv (.t 0), none, []⟩,
   ⟨(some 61), .ixS 1 (.t 58) (.t 59), none, []⟩,
   ⟨none, .store 1 (.t 61) (.t 60), none, []⟩])
 (.seq (.ops [
   ⟨(some 62), .mv (.t 9), none, []⟩,
   ⟨(some 63), .mv (.t 10), none, []⟩,
   ⟨(some 64), .bin .add .int (.t 63) (.c (.int .i64 1)), none, []⟩,
   ⟨(some 65), .slS 1 (.t 62) none (some (.t 64)) none, none, []⟩,
   ⟨(some 8), .mv (.t 65), none, []⟩])
 (.ret)))))))))))
def m94_0 : List Nat := [34, 35, 36, 37, 38, 39, 11, 40, 41, 42, 43, 44, 45, 46, 47, 48, 49, 50, 51, 52, 53, 54, 55, 0, 56, 57, 10]
theorem k94 : compFunc Tryz.prog 94 = some (66, c94, [.t 8]) := by kernel_rfl
def c95 : ACode :=
 .seq (.ops [
   ⟨(some 4), .mv (.c (.int .i64 0)), none, []⟩])
 (.seq (.seq (.ops [
   ⟨(some 6), .mv (.t 0), none, []⟩,
   ⟨(some 7), .lenS (.t 6), none, []⟩,
   ⟨(some 8), .mv (.c (.int .i64 0)), none, []⟩])
 (.block 0 (.loop (.seq (.ops [
    ⟨(some 9), .bin .lss .int (.t 8) (.t 7), none, []⟩])
  (.seq (.cond (.t 9)
   (.skip)
   (.exit 0))
  (.seq (.block 1 (.seq (.ops [
    ⟨(some 10), .mv (.t 8), none, []⟩,
    ⟨(some 5), .mv (.t 10), none, []⟩])
  (.seq (.ops [
    ⟨(some 11), .mv (.t 1), none, []⟩,
    ⟨(some 12), .mv (.t 0), none, []⟩,
    ⟨(some 13), .mv (.t 5), none, []⟩,
    ⟨(some 14), .ixS 1 (.t 12) (.t 13), none, []⟩,
    ⟨(some 15), .load false 1 (.t 14), none, []⟩,
    ⟨(some 16), .callV (.t 11) [(.t 15)], none, []⟩])
  (.cond (.t 16)
   (.seq (.ops [
     ⟨(some 17), .mv (.t 5), none, []⟩,
     ⟨(some 4), .mv (.t 17), none, []⟩])
   (.ret))
   (.skip)))))
  (.ops [
    ⟨(some 18), .bin .add .int (.t 8) (.c (.int .i64 1)), none, []⟩,
    ⟨(some 8), .mv (.t 18), none, []⟩])))))))
 (.seq (.ops [
   ⟨(some 4), .mv (.c (.int .i64 (-1))), none, []⟩])
 (.ret)))
def m95_0 : List Nat := [9, 10, 5, 11, 12, 13, 14, 15, 16, 17, 4, 18, 8]
theorem k95 : compFunc Tryz.prog 95 = some (19, c95, [.t 4]) := by kernel_rfl
def c96 : ACode :=
 .seq (.ops [
   ⟨(some 4), .mv (.c .nilS), none, []⟩])
 (.seq (.ops [
   ⟨(some 10), .mv (.t 0), none, []⟩,
   ⟨(some 11), .callF 99 [(.t 10)], none, []⟩,
   ⟨(some 5), .mv (.t 11), none, []⟩])
 (.seq (.seq (.ops [
   ⟨(some 12), .mv (.t 1), none, []⟩,
   ⟨(some 13), .bin .lss .int (.t 12) (.c (.int .i64 0)), none, []⟩,
   ⟨(some 14), .mv (.t 13), none, []⟩,
   ⟨(some 15), .mv (.t 1), (some (14, false)), []⟩,
   ⟨(some 16), .mv (.t 5), (some (14, false)), []⟩,
   ⟨(some 17), .bin .gtr .int (.t 15) (.t 16), (some (14, false)), []⟩,
   ⟨(some 18), .pick (.t 14) (.c (.bool true)) (.t 17), none, []⟩])
 (.cond (.t 18)
  (.ops [
    ⟨(some 19), .mv (.t 5), none, []⟩,
    ⟨(some 1), .mv (.t 19), none, []⟩])
  (.skip)))
 (.seq (.ops [
   ⟨(some 20), .mv (.t 1), none, []⟩,
   ⟨(some 21), .mkS [(.str .empty)] 16 (.t 20) (.t 20), none, []⟩,
   ⟨(some 6), .mv (.t 21), none, []⟩])
 (.seq (.seq (.ops [
   ⟨(some 7), .mv (.c (.int .i64 0)), none, []⟩])
 (.block 0 (.loop (.seq (.seq (.ops [
    ⟨(some 22), .mv (.t 7), none, []⟩,
    ⟨(some 23), .mv (.t 1), none, []⟩,
    ⟨(some 24), .bin .sub .int (.t 23) (.c (.int .i64 1)), none, []⟩,
    ⟨(some 25), .bin .lss .int (.t 22) (.t 24), none, []⟩])
  (.cond (.t 25)
   (.skip)
   (.exit 0)))
  (.seq (.block 1 (.seq (.ops [
    ⟨(some 29), .mv (.t 0), none, []⟩,
    ⟨(some 30), .callF 100 [(.t 29)], none, []⟩,
    ⟨(some 28), .mv (.t 30), none, []⟩,
    ⟨(some 31), .ext (.t 28) 0, none, []⟩,
    ⟨(some 32), .ext (.t 28) 1, none, []⟩,
    ⟨(some 8), .mv (.t 31), none, []⟩,
    ⟨(some 9), .mv (.t 32), none, []⟩])
  (.seq (.ops [
    ⟨(some 33), .mv (.t 6), none, []⟩,
    ⟨(some 34), .mv (.t 7), none, []⟩,
    ⟨(some 35), .mv (.t 0), none, []⟩,
    ⟨(some 36), .mv (.t 9), none, []⟩,
    ⟨(some 37), .slStr (.t 35) none (some (.t 36)), none, []⟩,
    ⟨(some 38), .ixS 1 (.t 33) (.t 34), none, []⟩,
    ⟨none, .store 1 (.t 38) (.t 37), none, []⟩])
  (.ops [
    ⟨(some 39), .mv (.t 0), none, []⟩,
    ⟨(some 40), .mv (.t 9), none, []⟩,
    ⟨(some 41), .slStr (.t 39) (some (.t 40)) none, none, []⟩,
    ⟨(some 0), .mv (.t 41), none, []⟩]))))
  (.ops [
    ⟨(some 26), .mv (.t 7), none, []⟩,
    ⟨(some 27), .bin .add .int (.t 26) (.c (.int .i64 1)), none, []⟩,
    ⟨(some 7), .mv (.t 27), none, []⟩]))))))
 (.seq (.seq (.ops [
   ⟨(some 42), .mv (.t 1), none, []⟩,
   ⟨(some 43), .bin .gtr .int (.t 42) (.c (.int .i64 0)), none, []⟩])
 (.cond (.t 43)
  (.ops [
    ⟨(some 44), .mv (.t 6), none, []⟩,
    ⟨(some 45), .mv (.t 1), none, []⟩,
    ⟨(some 46), .bin .sub .int (.t 45) (.c (.int .i64 1)), none, []⟩,
    ⟨(some 47), .mv (.t 0), none, []⟩,
    ⟨(some 48), .ixS 1 (.t 44) (.t 46), none, []⟩,
    ⟨none, .store 1 (.t 48) (.t 47), none, []⟩])
  (.skip)))
 (.seq (.ops [
   ⟨(some 49), .mv (.t 6), none, []⟩,
   ⟨(some 4), .mv (.t 49), none, []⟩])
 (.ret)))))))
def m96_0 : List Nat := [22, 23, 24, 25, 29, 30, 28, 31, 32, 8, 9, 33, 34, 35, 36, 37, 38, 39, 40, 41, 0, 26, 27, 7]
theorem k96 : compFunc Tryz.prog 96 = some (50, c96, [.t 4]) := by kernel_rfl
def c98 : ACode :=
 .seq (.ops [
   ⟨(some 4), .mv (.c (.int .i64 0)), none, []⟩])
 (.seq (.ops [
   ⟨(some 5), .mv (.t 0), none, []⟩,
   ⟨(some 6), .mv (.t 1), none, []⟩,
   ⟨(some 7), .callF 102 [(.t 5), (.t 6)], none, []⟩,
   ⟨(some 4), .mv (.t 7), none, []⟩])
 (.ret))
theorem k98 : compFunc Tryz.prog 98 = some (8, c98, [.t 4]) := by kernel_rfl
def c99 : ACode :=
 .seq (.ops [
   ⟨(some 2), .mv (.c (.int .i64 0)), none, []⟩])
 (.seq (.seq (.ops [
   ⟨(some 3), .mv (.t 0), none, []⟩,
   ⟨(some 4), .rngStr (.t 3), none, []⟩])
 (.block 0 (.loop (.seq (.ops [
    ⟨(some 5), .nextStr (.t 4), none, []⟩,
    ⟨(some 6), .ext (.t 5) 0, none, []⟩])
  (.seq (.cond (.t 6)
   (.skip)
   (.exit 0))
  (.block 1 (.ops [
    ⟨(some 7), .mv (.t 2), none, []⟩,
    ⟨(some 8), .bin .add .int (.t 7) (.c (.int .i64 1)), none, []⟩,
    ⟨(some 2), .mv (.t 8), none, []⟩])))))))
 (.seq (.ops [
   ⟨(some 9), .mv (.t 2), none, []⟩,
   ⟨(some 2), .mv (.t 9), none, []⟩])
 (.ret)))
def m99_0 : List Nat := [5, 6, 7, 8, 2]
theorem k99 : compFunc Tryz.prog 99 = some (10, c99, [.t 2]) := by kernel_rfl
def c100 : ACode :=
 .seq (.ops [
   ⟨(some 2), .mv (.c (.int .i32 0)), none, []⟩,
   ⟨(some 3), .mv (.c (.int .i64 0)), none, []⟩])
 (.seq (.seq (.ops [
   ⟨(some 4), .mv (.t 0), none, []⟩,
   ⟨(some 5), .bin .neq .str (.t 4) (.c (.str .empty)), none, []⟩,
   ⟨(some 6), .mv (.t 5), none, []⟩,
   ⟨(some 7), .mv (.t 0), (some (6, true)), []⟩,
   ⟨(some 8), .ixStr (.t 7) (.c (.int .i64 0)), (some (6, true)), []⟩,
   ⟨(some 9), .bin .lss .int (.t 8) (.c (.int .u8 128)), (some (6, true)), []⟩,
   ⟨(some 10), .pick (.t 6) (.t 9) (.c (.bool false)), none, []⟩])
 (.cond (.t 10)
  (.seq (.ops [
    ⟨(some 11), .mv (.t 0), none, []⟩,
    ⟨(some 12), .ixStr (.t 11) (.c (.int .i64 0)), none, []⟩,
    ⟨(some 13), .conv (.int .i32) (.t 12), none, []⟩,
    ⟨(some 2), .mv (.t 13), none, []⟩,
    ⟨(some 3), .mv (.c (.int .i64 1)), none, []⟩])
  (.ret))
  (.ops [
    ⟨(some 15), .mv (.t 0), none, []⟩,
    ⟨(some 16), .callF 103 [(.t 15)], none, []⟩,
    ⟨(some 14), .mv (.t 16), none, []⟩,
    ⟨(some 17), .ext (.t 14) 0, none, []⟩,
    ⟨(some 18), .ext (.t 14) 1, none, []⟩,
    ⟨(some 2), .mv (.t 17), none, []⟩,
    ⟨(some 3), .mv (.t 18), none, []⟩])))
 (.ret))
theorem k100 : compFunc Tryz.prog 100 = some (19, c100, [.t 2, .t 3]) := by kernel_rfl
def c106 : ACode :=
 .seq (.ops [
   ⟨(some 2), .mv (.c (.int .i64 0)), none, []⟩])
 (.seq (.ops [
   ⟨(some 3), .mv (.t 0), none, []⟩,
   ⟨(some 4), .bin .add .int (.t 3) (.c (.int .i64 16)), none, []⟩,
   ⟨(some 5), .bin .quo .int (.t 4) (.c (.int .i64 8)), none, []⟩,
   ⟨(some 2), .mv (.t 5), none, []⟩])
 (.ret))
theorem k106 : compFunc Tryz.prog 106 = some (6, c106, [.t 2]) := by kernel_rfl
def c107 : ACode :=
 .seq (.ops [
   ⟨(some 4), .mv (.c (.int .i64 0)), none, []⟩])
 (.seq (.ops [
   ⟨(some 12), .mv (.t 1), none, []⟩,
   ⟨(some 13), .callF 109 [(.t 12)], none, []⟩,
   ⟨(some 11), .mv (.t 13), none, []⟩,
   ⟨(some 14), .ext (.t 11) 0, none, []⟩,
   ⟨(some 15), .ext (.t 11) 1, none, []⟩,
   ⟨(some 5), .mv (.t 14), none, []⟩,
   ⟨(some 6), .mv (.t 15), none, []⟩])
 (.seq (.ops [
   ⟨(some 16), .mv (.t 1), none, []⟩,
   ⟨(some 17), .lenStr (.t 16), none, []⟩,
   ⟨(some 7), .mv (.t 17), none, []⟩])
 (.seq (.ops [
   ⟨(some 8), .mv (.c (.int .u32 0)), none, []⟩])
 (.seq (.seq (.ops [
   ⟨(some 9), .mv (.c (.int .i64 0)), none, []⟩])
 (.block 0 (.loop (.seq (.seq (.ops [
    ⟨(some 18), .mv (.t 9), none, []⟩,
    ⟨(some 19), .mv (.t 7), none, []⟩,
    ⟨(some 20), .bin .lss .int (.t 18) (.t 19), none, []⟩])
  (.cond (.t 20)
   (.skip)
   (.exit 0)))
  (.seq (.block 1 (.ops [
    ⟨(some 23), .mv (.t 8), none, []⟩,
    ⟨(some 24), .bin .mul .int (.t 23) (.c (.int .u32 16777619)), none, []⟩,
    ⟨(some 25), .mv (.t 0), none, []⟩,
    ⟨(some 26), .mv (.t 9), none, []⟩,
    ⟨(some 27), .ixStr (.t 25) (.t 26), none, []⟩,
    ⟨(some 28), .conv (.int .u32) (.t 27), none, []⟩,
    ⟨(some 29), .bin .add .int (.t 24) (.t 28), none, []⟩,
    ⟨(some 8), .mv (.t 29), none, []⟩]))
  (.ops [
    ⟨(some 21), .mv (.t 9), none, []⟩,
    ⟨(some 22), .bin .add .int (.t 21) (.c (.int .i64 1)), none, []⟩,
    ⟨(some 9), .mv (.t 22), none, []⟩]))))))
 (.seq (.seq (.ops [
   ⟨(some 30), .mv (.t 8), none, []⟩,
   ⟨(some 31), .mv (.t 5), none, []⟩,
   ⟨(some 32), .bin .eql .int (.t 30) (.t 31), none, []⟩,
   ⟨(some 33), .mv (.t 32), none, []⟩,
   ⟨(some 34), .mv (.t 0), (some (33, true)), []⟩,
   ⟨(some 35), .mv (.t 7), (some (33, true)), []⟩,
   ⟨(some 36), .slStr (.t 34) none (some (.t 35)), (some (33, true)), []⟩,
   ⟨(some 37), .mv (.t 1), (some (33, true)), []⟩,
   ⟨(some 38), .bin .eql .str (.t 36) (.t 37), (some (33, true)), []⟩,
   ⟨(some 39), .pick (.t 33) (.t 38) (.c (.bool false)), none, []⟩])
 (.cond (.t 39)
  (.seq (.ops [
    ⟨(some 4), .mv (.c (.int .i64 0)), none, []⟩])
  (.ret))
  (.skip)))
 (.seq (.seq (.ops [
   ⟨(some 40), .mv (.t 7), none, []⟩,
   ⟨(some 10), .mv (.t 40), none, []⟩])
 (.block 2 (.loop (.seq (.seq (.ops [
    ⟨(some 41), .mv (.t 10), none, []⟩,
    ⟨(some 42), .mv (.t 0), none, []⟩,
    ⟨(some 43), .lenStr (.t 42), none, []⟩,
    ⟨(some 44), .bin .lss .int (.t 41) (.t 43), none, []⟩])
  (.cond (.t 44)
   (.skip)
   (.exit 2)))
  (.block 3 (.seq (.ops [
    ⟨(some 45), .mv (.t 8), none, []⟩,
    ⟨(some 46), .bin .mul .int (.t 45) (.c (.int .u32 16777619)), none, []⟩,
    ⟨(some 8), .mv (.t 46), none, []⟩])
  (.seq (.ops [
    ⟨(some 47), .mv (.t 8), none, []⟩,
    ⟨(some 48), .mv (.t 0), none, []⟩,
    ⟨(some 49), .mv (.t 10), none, []⟩,
    ⟨(some 50), .ixStr (.t 48) (.t 49), none, []⟩,
    ⟨(some 51), .conv (.int .u32) (.t 50), none, []⟩,
    ⟨(some 52), .bin .add .int (.t 47) (.t 51), none, []⟩,
    ⟨(some 8), .mv (.t 52), none, []⟩])
  (.seq (.ops [
    ⟨(some 53), .mv (.t 8), none, []⟩,
    ⟨(some 54), .mv (.t 6), none, []⟩,
    ⟨(some 55), .mv (.t 0), none, []⟩,
    ⟨(some 56), .mv (.t 10), none, []⟩,
    ⟨(some 57), .mv (.t 7), none, []⟩,
    ⟨(some 58), .bin .sub .int (.t 56) (.t 57), none, []⟩,
    ⟨(some 59), .ixStr (.t 55) (.t 58), none, []⟩,
    ⟨(some 60), .conv (.int .u32) (.t 59), none, []⟩,
    ⟨(some 61), .bin .mul .int (.t 54) (.t 60), none, []⟩,
    ⟨(some 62), .bin .sub .int (.t 53) (.t 61), none, []⟩,
    ⟨(some 8), .mv (.t 62), none, []⟩])
  (.seq (.ops [
    ⟨(some 63), .mv (.t 10), none, []⟩,
    ⟨(some 64), .bin .add .int (.t 63) (.c (.int .i64 1)), none, []⟩,
    ⟨(some 10), .mv (.t 64), none, []⟩])
  (.seq (.ops [
    ⟨(some 65), .mv (.t 8), none, []⟩,
    ⟨(some 66), .mv (.t 5), none, []⟩,
    ⟨(some 67), .bin .eql .int (.t 65) (.t 66), none, []⟩,
    ⟨(some 68), .mv (.t 67), none, []⟩,
    ⟨(some 69), .mv (.t 0), (some (68, true)), []⟩,
    ⟨(some 70), .mv (.t 10), (some (68, true)), []⟩,
    ⟨(some 71), .mv (.t 7), (some (68, true)), []⟩,
    ⟨(some 72), .bin .sub .int (.t 70) (.t 71), (some (68, true)), []⟩,
    ⟨(some 73), .mv (.t 10), (some (68, true)), []⟩,
    ⟨(some 74), .slStr (.t 69) (some (.t 72)) (some (.t 73)), (some (68, true)), []⟩,
    ⟨(some 75), .mv (.t 1), (some (68, true)), []⟩,
    ⟨(some 76), .bin .eql .str (.t 74) (.t 75), (some (68, true)), []⟩,
    ⟨(some 77), .pick (.t 68) (.t 76) (.c (.bool false)), none, []⟩])
  (.cond (.t 77)
   (.seq (.ops [
     ⟨(some 78), .mv (.t 10), none, []⟩,
     ⟨(some 79), .mv (.t 7), none, []⟩,
     ⟨(some 80), .bin .sub .int (.t 78) (.t 79), none, []⟩,
     ⟨(some 4), .mv (.t 80), none, []⟩])
   (.ret))
   (.skip))))))))))))
 (.seq (.ops [
   ⟨(some 4), .mv (.c (.int .i64 (-1))), none, []⟩])
 (.ret))))))))
def m107_0 : List Nat := [18, 19, 20, 23, 24, 25, 26, 27, 28, 29, 8, 21, 22, 9]
def m107_1 : List Nat := [41, 42, 43, 44, 45, 46, 8, 47, 48, 49, 50, 51, 52, 53, 54, 55, 56, 57, 58, 59, 60, 61, 62, 63, 64, 10, 65, 66, 67, 68, 69, 70, 71, 72, 73, 74, 75, 76, 77, 78, 79, 80, 4]
theorem k107 : compFunc Tryz.prog 107 = some (81, c107, [.t 4]) := by kernel_rfl
def c109 : ACode :=
 .seq (.ops [
   ⟨(some 2), .mv (.c (.int .u32 0)), none, []⟩,
   ⟨(some 3), .mv (.c (.int .u32 0)), none, []⟩])
 (.seq (.ops [
   ⟨(some 4), .mv (.c (.int .u32 0)), none, []⟩])
 (.seq (.seq (.ops [
   ⟨(some 5), .mv (.c (.int .i64 0)), none, []⟩])
 (.block 0 (.loop (.seq (.seq (.ops [
    ⟨(some 9), .mv (.t 5), none, []⟩,
    ⟨(some 10), .mv (.t 0), none, []⟩,
    ⟨(some 11), .lenStr (.t 10), none, []⟩,
    ⟨(some 12), .bin .lss .int (.t 9) (.t 11), none, []⟩])
  (.cond (.t 12)
   (.skip)
   (.exit 0)))
  (.seq (.block 1 (.ops [
    ⟨(some 15), .mv (.t 4), none, []⟩,
    ⟨(some 16), .bin .mul .int (.t 15) (.c (.int .u32 16777619)), none, []⟩,
    ⟨(some 17), .mv (.t 0), none, []⟩,
    ⟨(some 18), .mv (.t 5), none, []⟩,
    ⟨(some 19), .ixStr (.t 17) (.t 18), none, []⟩,
    ⟨(some 20), .conv (.int .u32) (.t 19), none, []⟩,
    ⟨(some 21), .bin .add .int (.t 16) (.t 20), none, []⟩,
    ⟨(some 4), .mv (.t 21), none, []⟩]))
  (.ops [
    ⟨(some 13), .mv (.t 5), none, []⟩,
    ⟨(some 14), .bin .add .int (.t 13) (.c (.int .i64 1)), none, []⟩,
    ⟨(some 5), .mv (.t 14), none, []⟩]))))))
 (.seq (.ops [
   ⟨(some 6), .mv (.c (.int .u32 1)), none, []⟩,
   ⟨(some 7), .mv (.c (.int .u32 16777619)), none, []⟩])
 (.seq (.seq (.ops [
   ⟨(some 22), .mv (.t 0), none, []⟩,
   ⟨(some 23), .lenStr (.t 22), none, []⟩,
   ⟨(some 8), .mv (.t 23), none, []⟩])
 (.block 2 (.loop (.seq (.seq (.ops [
    ⟨(some 24), .mv (.t 8), none, []⟩,
    ⟨(some 25), .bin .gtr .int (.t 24) (.c (.int .i64 0)), none, []⟩])
  (.cond (.t 25)
   (.skip)
   (.exit 2)))
  (.seq (.block 3 (.seq (.seq (.ops [
    ⟨(some 28), .mv (.t 8), none, []⟩,
    ⟨(some 29), .bin .and .int (.t 28) (.c (.int .i64 1)), none, []⟩,
    ⟨(some 30), .bin .neq .int (.t 29) (.c (.int .i64 0)), none, []⟩])
  (.cond (.t 30)
   (.ops [
     ⟨(some 31), .mv (.t 6), none, []⟩,
     ⟨(some 32), .mv (.t 7), none, []⟩,
     ⟨(some 33), .bin .mul .int (.t 31) (.t 32), none, []⟩,
     ⟨(some 6), .mv (.t 33), none, []⟩])
   (.skip)))
  (.ops [
    ⟨(some 34), .mv (.t 7), none, []⟩,
    ⟨(some 35), .mv (.t 7), none, []⟩,
    ⟨(some 36), .bin .mul .int (.t 34) (.t 35), none, []⟩,
    ⟨(some 7), .mv (.t 36), none, []⟩])))
  (.ops [
    ⟨(some 26), .mv (.t 8), none, []⟩,
    ⟨(some 27), .bin .shr .int (.t 26) (.c (.int .u64 1)), none, []⟩,
    ⟨(some 8), .mv (.t 27), none, []⟩]))))))
 (.seq (.ops [
   ⟨(some 37), .mv (.t 4), none, []⟩,
   ⟨(some 38), .mv (.t 6), none, []⟩,
   ⟨(some 2), .mv (.t 37), none, []⟩,
   ⟨(some 3), .mv (.t 38), none, []⟩])
 (.ret))))))
def m109_0 : List Nat := [9, 10, 11, 12, 15, 16, 17, 18, 19, 20, 21, 4, 13, 14, 5]
def m109_1 : List Nat := [24, 25, 28, 29, 30, 31, 32, 33, 6, 34, 35, 36, 7, 26, 27, 8]
theorem k109 : compFunc Tryz.prog 109 = some (39, c109, [.t 2, .t 3]) := by kernel_rfl
end Go.Proofs.YtkfahdbjndihfacGreatDoor
namespace Go.Proofs.YtkfahdbjndihfacGreatDoor
open Go.Tc
set_option linter.unusedSimpArgs false
set_option linter.unusedVariables false
set_option maxRecDepth 20000
theorem p8 : PutT Tryz.prog 8 false [(.int .i64)] := .int mixed (by kernel_rfl) rfl
theorem p40 : PutT Tryz.prog 40 false [.str] := .text mixed (by kernel_rfl)
theorem p15 : PutT Tryz.prog 15 false [(.sl [(.int .i64)])] := .sl mixed (p := 50) (e := 8) (g := false) (by kernel_rfl) (by kernel_rfl) p8 (by decide)
theorem p83 : PutT Tryz.prog 83 true [.str, (.int .i64), (.sl [(.int .i64)])] := .st mixed (n := 16) (r := [(0, false, 1, 40), (1, false, 1, 8), (2, false, 1, 15)]) (by kernel_rfl) (by omega) (by simp) (.cons p40 rfl rfl (.cons p8 rfl rfl (.cons p15 rfl rfl .nil)))
theorem p71 : PutT Tryz.prog 71 false [(.sl [.str, (.int .i64), (.sl [(.int .i64)])])] := .sl mixed (p := 82) (e := 83) (g := true) (by kernel_rfl) (by kernel_rfl) p83 (by decide)
theorem p85 : PutT Tryz.prog 85 true [(.int .i64), (.int .i64), (.int .i64)] := .st mixed (n := 16) (r := [(0, false, 1, 8), (1, false, 1, 8), (2, false, 1, 8)]) (by kernel_rfl) (by omega) (by simp) (.cons p8 rfl rfl (.cons p8 rfl rfl (.cons p8 rfl rfl .nil)))
theorem p72 : PutT Tryz.prog 72 false [(.sl [(.int .i64), (.int .i64), (.int .i64)])] := .sl mixed (p := 84) (e := 85) (g := true) (by kernel_rfl) (by kernel_rfl) p85 (by decide)
theorem p38 : PutT Tryz.prog 38 true [(.int .i64), (.int .i64), (.sl [.str, (.int .i64), (.sl [(.int .i64)])]), (.sl [(.int .i64), (.int .i64), (.int .i64)])] := .st mixed (n := 20) (r := [(0, false, 1, 8), (1, false, 1, 8), (2, false, 1, 71), (3, false, 1, 72)]) (by kernel_rfl) (by omega) (by simp) (.cons p8 rfl rfl (.cons p8 rfl rfl (.cons p71 rfl rfl (.cons p72 rfl rfl .nil))))
theorem p39 : PutT Tryz.prog 39 true [(.int .i64), (.int .i64), (.int .i64), (.int .i64), (.int .i64), (.int .i64)] := .st mixed (n := 28) (r := [(0, false, 1, 8), (1, false, 1, 8), (2, false, 1, 8), (3, false, 1, 8), (4, false, 1, 8), (5, false, 1, 8)]) (by kernel_rfl) (by omega) (by simp) (.cons p8 rfl rfl (.cons p8 rfl rfl (.cons p8 rfl rfl (.cons p8 rfl rfl (.cons p8 rfl rfl (.cons p8 rfl rfl .nil))))))
theorem p9 : PutT Tryz.prog 9 false [(.int .i64)] := .int mixed (by kernel_rfl) rfl
theorem p56 : PutT Tryz.prog 56 true [(.int .i64), (.int .i64), (.int .i64), (.int .i64)] := .st mixed (n := 20) (r := [(0, false, 1, 8), (1, false, 1, 8), (2, false, 1, 8), (3, false, 1, 8)]) (by kernel_rfl) (by omega) (by simp) (.cons p8 rfl rfl (.cons p8 rfl rfl (.cons p8 rfl rfl (.cons p8 rfl rfl .nil))))
theorem p20 : PutT Tryz.prog 20 false [(.sl [(.int .i64), (.int .i64), (.int .i64), (.int .i64)])] := .sl mixed (p := 55) (e := 56) (g := true) (by kernel_rfl) (by kernel_rfl) p56 (by decide)
theorem p91 : PutT Tryz.prog 91 false [(.int .u8)] := .byte mixed (by kernel_rfl)
theorem p79 : PutT Tryz.prog 79 false [(.sl [(.int .u8)])] := .sl mixed (p := 90) (e := 91) (g := false) (by kernel_rfl) (by kernel_rfl) p91 (by decide)
theorem p63 : PutT Tryz.prog 63 true [(.int .i64), (.int .i64), (.sl [(.int .u8)])] := .st mixed (n := 16) (r := [(0, false, 1, 8), (1, false, 1, 8), (2, false, 1, 79)]) (by kernel_rfl) (by omega) (by simp) (.cons p8 rfl rfl (.cons p8 rfl rfl (.cons p79 rfl rfl .nil)))
theorem p30 : PutT Tryz.prog 30 false [(.sl [(.int .i64), (.int .i64), (.sl [(.int .u8)])])] := .sl mixed (p := 62) (e := 63) (g := true) (by kernel_rfl) (by kernel_rfl) p63 (by decide)
theorem p35 : PutT Tryz.prog 35 true [(.int .i64), (.int .i64), (.int .i64)] := .st mixed (n := 16) (r := [(0, false, 1, 8), (1, false, 1, 8), (2, false, 1, 8)]) (by kernel_rfl) (by omega) (by simp) (.cons p8 rfl rfl (.cons p8 rfl rfl (.cons p8 rfl rfl .nil)))
theorem w52 : WipeT Tryz.prog 52 [(.int .i64)] := .int mixed (n := -77) (by kernel_rfl)
theorem w17 : WipeT Tryz.prog 17 [(.sl [(.int .i64)])] := .sl mixed (w := 51) (e := 52) (by kernel_rfl) (by kernel_rfl) w52
theorem w58 : WipeT Tryz.prog 58 [(.int .i64), (.int .i64), (.int .i64), (.int .i64)] := .st mixed (n := 18) (r := [(0, 52), (1, 52), (2, 52), (3, 52)]) (by kernel_rfl) (by omega) (by simp) (.cons w52 rfl rfl (.cons w52 rfl rfl (.cons w52 rfl rfl (.cons w52 rfl rfl .nil))))
theorem w22 : WipeT Tryz.prog 22 [(.sl [(.int .i64), (.int .i64), (.int .i64), (.int .i64)])] := .sl mixed (w := 57) (e := 58) (by kernel_rfl) (by kernel_rfl) w58
theorem w93 : WipeT Tryz.prog 93 [(.int .u8)] := .int mixed (n := 77) (by kernel_rfl)
theorem w80 : WipeT Tryz.prog 80 [(.sl [(.int .u8)])] := .sl mixed (w := 92) (e := 93) (by kernel_rfl) (by kernel_rfl) w93
theorem w65 : WipeT Tryz.prog 65 [(.int .i64), (.int .i64), (.sl [(.int .u8)])] := .st mixed (n := 14) (r := [(0, 52), (1, 52), (2, 80)]) (by kernel_rfl) (by omega) (by simp) (.cons w52 rfl rfl (.cons w52 rfl rfl (.cons w80 rfl rfl .nil)))
theorem w32 : WipeT Tryz.prog 32 [(.sl [(.int .i64), (.int .i64), (.sl [(.int .u8)])])] := .sl mixed (w := 64) (e := 65) (by kernel_rfl) (by kernel_rfl) w65
def allR : List (Nat × Bool × Nat × FuncId) := [(0, true, 4, 38), (4, true, 6, 39), (10, false, 1, 40), (11, false, 1, 40), (12, false, 1, 15), (13, false, 1, 8)]
theorem all_code : compFunc Tryz.prog 4 = some (28, .seq (.ops [⟨some 2, .box (.t 0), none, []⟩]) (putBody 2 1 4 allR), []) := by kernel_rfl
def argRow : List Lf := [(.int .i64), (.int .i64), (.sl [.str, (.int .i64), (.sl [(.int .i64)])]), (.sl [(.int .i64), (.int .i64), (.int .i64)]), (.int .i64), (.int .i64), (.int .i64), (.int .i64), (.int .i64), (.int .i64), .str, .str, (.sl [(.int .i64)]), (.int .i64)]
theorem all_puts : PutsT Tryz.prog 0 argRow allR := (.cons p38 rfl rfl (.cons p39 rfl rfl (.cons p40 rfl rfl (.cons p40 rfl rfl (.cons p15 rfl rfl (.cons p8 rfl rfl .nil))))))
structure XA where
  c0 : Int
  r0 : (Lit.int .i64 c0).wf = true
  c1 : Int
  r1 : (Lit.int .i64 c1).wf = true
  v2 : AVal
  h2 : ∃ d, Tr nilHeap nope true (.sl [.str, (.int .i64), (.sl [(.int .i64)])]) d v2 ∧ szD d ≤ 1048576
  v3 : AVal
  h3 : ∃ d, Tr nilHeap nope true (.sl [(.int .i64), (.int .i64), (.int .i64)]) d v3 ∧ szD d ≤ 1048576
  c4 : Int
  r4 : (Lit.int .i64 c4).wf = true
  c5 : Int
  r5 : (Lit.int .i64 c5).wf = true
  c6 : Int
  r6 : (Lit.int .i64 c6).wf = true
  c7 : Int
  r7 : (Lit.int .i64 c7).wf = true
  c8 : Int
  r8 : (Lit.int .i64 c8).wf = true
  c9 : Int
  r9 : (Lit.int .i64 c9).wf = true
  c10 : ByteArray
  c11 : ByteArray
  v12 : AVal
  h12 : ∃ d, Tr nilHeap nope true (.sl [(.int .i64)]) d v12 ∧ szD d ≤ 1048576
  c13 : Int
  r13 : (Lit.int .i64 c13).wf = true
  tr : ∃ ds, TrR nilHeap nope true argRow ds [.int .i64 c0, .int .i64 c1, v2, v3, .int .i64 c4, .int .i64 c5, .int .i64 c6, .int .i64 c7, .int .i64 c8, .int .i64 c9, .str c10, .str c11, v12, .int .i64 c13] ∧ szDs ds ≤ 1048576
  clo : ∀ a ∈ [.int .i64 c0, .int .i64 c1, v2, v3, .int .i64 c4, .int .i64 c5, .int .i64 c6, .int .i64 c7, .int .i64 c8, .int .i64 c9, .str c10, .str c11, v12, .int .i64 c13], Clo a
def XA.row (x : XA) : List AVal := [.int .i64 x.c0, .int .i64 x.c1, x.v2, x.v3, .int .i64 x.c4, .int .i64 x.c5, .int .i64 x.c6, .int .i64 x.c7, .int .i64 x.c8, .int .i64 x.c9, .str x.c10, .str x.c11, x.v12, .int .i64 x.c13]
theorem XA.row_eq {x : XA} : x.row = [.int .i64 x.c0, .int .i64 x.c1, x.v2, x.v3, .int .i64 x.c4, .int .i64 x.c5, .int .i64 x.c6, .int .i64 x.c7, .int .i64 x.c8, .int .i64 x.c9, .str x.c10, .str x.c11, x.v12, .int .i64 x.c13] := id rfl
theorem XA.o2 (x : XA) : x.v2.one = true := let ⟨_, h, _⟩ := x.h2; h.one
theorem XA.o3 (x : XA) : x.v3.one = true := let ⟨_, h, _⟩ := x.h3; h.one
theorem XA.o12 (x : XA) : x.v12.one = true := let ⟨_, h, _⟩ := x.h12; h.one
theorem XA.one (x : XA) : x.row.all AVal.one = true := let ⟨_, h, _⟩ := x.tr; List.all_eq_true.2 h.one
set_option maxHeartbeats 2000000 in
theorem XA.of {ds : List Dl} {xs : List AVal} (h : TrR nilHeap nope true argRow ds xs) (hz : szDs ds ≤ 1048576) (hc : ∀ a ∈ xs, Clo a) : ∃ x : XA, xs = x.row := by
  have k0 := h
  unfold argRow at k0
  obtain ⟨d0, ds1, y0, cs1, e0, f0, g0, k1⟩ := k0.uncons
  obtain ⟨d1, ds2, y1, cs2, e1, f1, g1, k2⟩ := k1.uncons
  obtain ⟨d2, ds3, y2, cs3, e2, f2, g2, k3⟩ := k2.uncons
  obtain ⟨d3, ds4, y3, cs4, e3, f3, g3, k4⟩ := k3.uncons
  obtain ⟨d4, ds5, y4, cs5, e4, f4, g4, k5⟩ := k4.uncons
  obtain ⟨d5, ds6, y5, cs6, e5, f5, g5, k6⟩ := k5.uncons
  obtain ⟨d6, ds7, y6, cs7, e6, f6, g6, k7⟩ := k6.uncons
  obtain ⟨d7, ds8, y7, cs8, e7, f7, g7, k8⟩ := k7.uncons
  obtain ⟨d8, ds9, y8, cs9, e8, f8, g8, k9⟩ := k8.uncons
  obtain ⟨d9, ds10, y9, cs10, e9, f9, g9, k10⟩ := k9.uncons
  obtain ⟨d10, ds11, y10, cs11, e10, f10, g10, k11⟩ := k10.uncons
  obtain ⟨d11, ds12, y11, cs12, e11, f11, g11, k12⟩ := k11.uncons
  obtain ⟨d12, ds13, y12, cs13, e12, f12, g12, k13⟩ := k12.uncons
  obtain ⟨d13, ds14, y13, cs14, e13, f13, g13, k14⟩ := k13.uncons
  obtain ⟨en, fn⟩ := k14.unnil
  have ed : ds = [d0, d1, d2, d3, d4, d5, d6, d7, d8, d9, d10, d11, d12, d13] := by rw [e0, e1, e2, e3, e4, e5, e6, e7, e8, e9, e10, e11, e12, e13, en]
  have ec : xs = [y0, y1, y2, y3, y4, y5, y6, y7, y8, y9, y10, y11, y12, y13] := by rw [f0, f1, f2, f3, f4, f5, f6, f7, f8, f9, f10, f11, f12, f13, fn]
  clear e0 f0 k0 e1 f1 k1 e2 f2 k2 e3 f3 k3 e4 f4 k4 e5 f5 k5 e6 f6 k6 e7 f7 k7 e8 f8 k8 e9 f9 k9 e10 f10 k10 e11 f11 k11 e12 f12 k12 e13 f13 k13 k14 en fn
  obtain ⟨n0, rfl, r0⟩ := g0.intW
  obtain ⟨n1, rfl, r1⟩ := g1.intW
  obtain ⟨n4, rfl, r4⟩ := g4.intW
  obtain ⟨n5, rfl, r5⟩ := g5.intW
  obtain ⟨n6, rfl, r6⟩ := g6.intW
  obtain ⟨n7, rfl, r7⟩ := g7.intW
  obtain ⟨n8, rfl, r8⟩ := g8.intW
  obtain ⟨n9, rfl, r9⟩ := g9.intW
  obtain ⟨n10, rfl⟩ := g10.str'
  obtain ⟨n11, rfl⟩ := g11.str'
  obtain ⟨n13, rfl, r13⟩ := g13.intW
  subst ed
  subst ec
  exact ⟨⟨n0, r0, n1, r1, y2, ⟨d2, g2, Nat.le_trans (szDs_get 2 rfl) hz⟩, y3, ⟨d3, g3, Nat.le_trans (szDs_get 3 rfl) hz⟩, n4, r4, n5, r5, n6, r6, n7, r7, n8, r8, n9, r9, n10, n11, y12, ⟨d12, g12, Nat.le_trans (szDs_get 12 rfl) hz⟩, n13, r13, ⟨_, h, hz⟩, hc⟩, rfl⟩
end Go.Proofs.YtkfahdbjndihfacGreatDoor
namespace Go.Proofs.YtkfahdbjndihfacGreatDoor
open Go.Tc
set_option linter.unusedSimpArgs false
set_option linter.unusedVariables false
set_option maxRecDepth 20000
set_option maxHeartbeats 4000000
structure Gl where
  text : ByteArray
  wide : Int
  rv : AVal
  rows : List Int
  deriving Inhabited
def Gl.row (g : Gl) : List AVal := [.str g.text, .int .i64 g.wide, g.rv]
theorem Gl.row_eq {g : Gl} : g.row = [.str g.text, .int .i64 g.wide, g.rv] := id rfl
structure Kn where
  left : Int
  right : Int
  by' : Int
  deriving Inhabited
def Kn.row (g : Kn) : List AVal := [.int .i64 g.left, .int .i64 g.right, .int .i64 g.by']
theorem Kn.row_eq {g : Kn} : g.row = [.int .i64 g.left, .int .i64 g.right, .int .i64 g.by'] := id rfl
def GOk (high : Int) (g : Gl) : Prop := 1 ≤ g.wide ∧ g.wide ≤ 12 ∧ (g.rows.length : Int) = high ∧ g.text.size ≤ 3
def KOk (gl : List Gl) (k : Kn) : Prop := 0 ≤ k.left ∧ k.left < gl.length ∧ 0 ≤ k.right ∧ k.right < gl.length ∧ -12 ≤ k.by' ∧ k.by' ≤ 12 ∧ 1 ≤ (gl.getD k.left.toNat default).wide + k.by'
structure FOk (high space : Int) (gl : List Gl) (kl : List Kn) : Prop where
  hi : 1 ≤ high ∧ high ≤ 16
  sp : 1 ≤ space ∧ space ≤ 20
  gn : 1 ≤ gl.length ∧ gl.length ≤ 60
  kn : kl.length ≤ 60
  g : ∀ j, j < gl.length → GOk high (gl.getD j default)
  k : ∀ j, j < kl.length → KOk gl (kl.getD j default)
theorem s42 {σ : AHeap} {s : ByteArray} {Q : AOut → AHeap → Prop} (hQ : ∀ b : Bool, Q (.ret (.bool b)) σ) : RunV Tryz.prog (.func (.func 42) [] []) [.str s] σ Q := by
  refine RunV.drop (RunV.func mixed k42 (by simp) ?_)
  simp (disch := omega) only [c42, ↓CTL, ↓STR, VAL, Nat.reduceBEq, Nat.reduceAdd]
  refine A_loopV (α := Nat) m42_0 (fun _ => []) (fun p t => t = σ.alloc (.siter s p)) (fun p => s.size - p) rfl (fun _ => rfl) ⟨0, trivial, rfl⟩ ?_
  rintro p f t rfl
  simp (disch := omega) only [↓CTL, ↓STR, VAL, Nat.reduceBEq, Nat.reduceAdd, m42_0]
  by_cases hp : p < s.size
  · have hw := width_pos (s := s) (pos := p)
    simp (disch := omega) only [↓CTL, ↓STR, VAL, Nat.reduceBEq, Nat.reduceAdd, m42_0]
    refine out_spec mixed k41 _ _ _ _ ?_
    simp (disch := omega) only [↓CTL, ↓STR, VAL, Nat.reduceBEq, Nat.reduceAdd, m42_0]
    refine B_if (fun _ => ?_) (fun _ => ?_)
    · simp (disch := omega) only [↓CTL, ↓STR, VAL, Nat.reduceBEq, Nat.reduceAdd, m42_0]
      exact ⟨_, rfl, rfl, (Ext.refl _).alloc _, hQ _⟩
    · simp (disch := omega) only [↓CTL, ↓STR, VAL, Nat.reduceBEq, Nat.reduceAdd, m42_0]
      exact ⟨p + (Utf8.decode s p).2, rfl, by omega⟩
  · simp (disch := omega) only [↓CTL, ↓STR, VAL, Nat.reduceBEq, Nat.reduceAdd, m42_0]
    exact ⟨_, rfl, rfl, (Ext.refl _).alloc _, hQ _⟩
theorem s48 {σ : AHeap} {p : Prop} [Decidable p] {e : Int} {Q : AOut → AHeap → Prop} (h1 : p → Q (.ret (.tup [])) σ) (h2 : ¬ p → Q (.panic (.iface 37 (.int .i64 e))) σ) : RunV Tryz.prog (.func (.func 48) [] []) [.bool (decide p), .int .i64 e] σ Q := by
  refine RunV.func mixed k48 (by simp) ?_
  simp (disch := omega) only [c48, ↓CTL, VAL, Nat.reduceBEq, Nat.reduceAdd]
  refine B_if (fun hn => ?_) (fun hn => ?_)
  · simp (disch := omega) only [↓CTL, VAL, Nat.reduceBEq, Nat.reduceAdd]
    rw [L_panic rfl]
    simp only [PAN, VAL]
    exact h2 hn
  · simp (disch := omega) only [↓CTL, VAL, Nat.reduceBEq, Nat.reduceAdd]
    exact h1 (Decidable.not_not.1 hn)
theorem s48b {σ : AHeap} {b : Bool} {e : Int} {Q : AOut → AHeap → Prop} (h1 : b = true → Q (.ret (.tup [])) σ) (h2 : b = false → Q (.panic (.iface 37 (.int .i64 e))) σ) : RunV Tryz.prog (.func (.func 48) [] []) [.bool b, .int .i64 e] σ Q := by
  have := s48 (p := b = true) (e := e) (Q := Q) h1 (fun h => h2 (by simpa using h))
  simpa using this
theorem neq_nil : binA .neq .ifn .nilI .nilI = some (.bool false) := by rfl
theorem neq_if {t : TypeId} {v : AVal} : binA .neq .ifn (.iface t v) .nilI = some (.bool true) := by rfl
theorem tas_ok {e : Int} : tasA 37 (.int .i64 0) (.iface 37 (.int .i64 e)) false = some (.int .i64 e) := by rfl
theorem d45n {σ : AHeap} {T : Nat} {Q : Bool → AHeap → Prop} (hQ : Q false σ) : RunD Tryz.prog (.func (.func 45) [] []) [.ptr T 0 0] σ none Q := by
  refine RunD.func mixed k45 (by simp) (by omega) ?_
  simp (disch := omega) only [c45, ↓CTL, ↓DRW, VAL, DRV, Nat.reduceBEq, Nat.reduceAdd, Option.getD_none, neq_nil]
  exact ⟨rfl, ⟨[], rfl⟩, hQ⟩
theorem d45s {σ : AHeap} {T : Nat} {e e0 : Int} (h3 : σ.objs T = some (.cells 1 [[.int .i64 e0]])) {Q : Bool → AHeap → Prop} (hQ : Q true (σ.set T (.cells 1 [[.int .i64 e]]))) :
    RunD Tryz.prog (.func (.func 45) [] []) [.ptr T 0 0] σ (some (.iface 37 (.int .i64 e))) Q := by
  refine RunD.func mixed k45 (by simp) (by omega) ?_
  simp (disch := omega) only [c45, ↓CTL, ↓DRW, ↓TAS, VAL, DRV, Nat.reduceBEq, Nat.reduceAdd, Option.getD_some, neq_if, tas_ok, h3]
  exact ⟨rfl, ⟨[], rfl⟩, hQ⟩
theorem s44 {σ : AHeap} {M : Nat} {t v : AVal} {w : Int} (h : σ.objs M = some (.cells 3 [[t, .int .i64 w, v]])) (hw : 0 ≤ w) (n : Int) : RunV Tryz.prog (.func (.func 44) [] [.ptr M 0 0]) [.int .i64 n] σ (fun o s => ∃ b, o = .ret (.bool b) ∧ s = σ) := by
  refine RunV.func mixed k44 (by simp) ?_
  simp (disch := omega) only [c44, ↓CTL, VAL, Nat.reduceBEq, Nat.reduceAdd, h]
  refine out_spec mixed k41 _ _ _ _ ?_
  simp (disch := omega) only [↓CTL, VAL, Nat.reduceBEq, Nat.reduceAdd, h]
  exact ⟨_, rfl⟩
theorem s7 {σ : AHeap} {high space : Int} {gv kv : AVal} {gl : List Gl} {kl : List Kn} (hg : RV 3 Gl.row gv gl) (hk : RV 3 Kn.row kv kl) (hr : ∀ g ∈ gl, RV 1 rI g.rv g.rows) {Q : AOut → AHeap → Prop}
    (hQ : ∀ p a e : Int, (e = 0 → FOk high space gl kl) → Q (.ret (.tup [.int .i64 p, .int .i64 a, .int .i64 e])) σ) :
    RunV Tryz.prog (.func (.func 7) [] []) [.agg [.int .i64 high, .int .i64 space, gv, kv]] σ Q := by
  refine RunV.drop (RunV.func mixed k7 (by simp) ?_)
  have hS := hg.S
  have hK := hk.S
  simp (disch := omega) only [c7, ↓CTL, ↓DRW, VAL, DRV, Nat.reduceBEq, Nat.reduceAdd, hS, hK]
  repeat' first
    | refine out_spec mixed k41 _ _ _ _ ?_
    | refine B_if (fun _ => ?_) (fun _ => ?_)
    | refine G_false (fun _ => ?_) (fun _ => ?_)
    | exact ⟨_, rfl, rfl, (Ext.refl _).alloc _, hQ _ _ _ (by omega)⟩
    | (simp (disch := omega) only [↓CTL, ↓DRW, ↓STR, VAL, DRV, Nat.reduceBEq, Nat.reduceAdd, hS, hK]; done)
    | simp (disch := omega) only [↓CTL, ↓DRW, ↓STR, VAL, DRV, Nat.reduceBEq, Nat.reduceAdd, hS, hK]
  refine A_loopV (α := Nat × (AKey → Option Bool) × Nat) m7_0 (fun x => [(36, .int .i64 x.1)]) (fun x s => x.1 ≤ gl.length ∧ (∀ j, j < x.1 → GOk high (gl.getD j default)) ∧ Ext σ s ∧ s.objs σ.next = some (.cells 4 [[.int .i64 high, .int .i64 space, gv, kv]]) ∧ s.objs (σ.next + 1) = some (.map (.one .str) (mapF eB x.2.1) x.2.2) ∧ σ.next + 2 ≤ s.next) (fun x => gl.length - x.1) rfl (fun _ => rfl)
    ⟨(0, fun _ => none, 0), ?_, Nat.zero_le _, fun j hj => absurd hj (Nat.not_lt_zero _), ((Ext.refl _).alloc _).alloc _, ?_, ?_, ?_⟩ ?_
  · simp only [↓CTL, VAL, Nat.reduceBEq]; rfl
  · simp (disch := omega) only [VAL]
  · simp (disch := omega) only [VAL]; rfl
  · simp only [VAL]; omega
  · rintro ⟨i, g0, n0⟩ f s ⟨hi, hok, hE, h1, h2, hn⟩
    dsimp only at hi hok h2 ⊢
    simp (disch := omega) only [↓CTL, ↓DRW, ↓STR, VAL, DRV, Nat.reduceBEq, Nat.reduceAdd, m7_0]
    refine B_if (fun hlt => ?_) (fun hge => ?_)
    · have hgi := hr _ (getD_mem (l := gl) (j := i) (by omega))
      have hput : GOk high (gl.getD i default) → ∀ j, j < i + 1 → GOk high (gl.getD j default) := fun h j hj => by
        by_cases hji : j < i
        · exact hok j hji
        · have : j = i := by omega
          subst this; exact h
      simp (disch := omega) only [↓CTL, ↓DRW, ↓STR, VAL, DRV, Nat.reduceBEq, Nat.reduceAdd, m7_0, hS, Int.toNat_natCast]
      generalize hgg : gl.getD i default = g at hgi hput
      have hgS := hgi.S
      simp (disch := omega) only [↓CTL, ↓DRW, ↓STR, VAL, DRV, Nat.reduceBEq, Nat.reduceAdd, m7_0, Gl.row_eq, hgS]
      repeat' first
        | refine out_spec mixed k41 _ _ _ _ ?_
        | (refine s42 fun b => ?_; cases b)
        | refine B_if (fun _ => ?_) (fun _ => ?_)
        | refine B_ifb (fun _ => ?_) (fun _ => ?_)
        | refine G_false (fun _ => ?_) (fun _ => ?_)
        | exact ⟨_, rfl, rfl, hE.alloc _, hQ _ _ _ (by omega)⟩
        | refine containsFunc_any mixed k43 k73 (hgi _) (by omega) (fun x => .int .i64 x) (fun x => rfl) (fun x _ => s44 (objs_new rfl) (by omega) x) fun b => ?_
        | refine ⟨(i + 1, _, _), rfl, ⟨by dsimp only; omega, hput ⟨by omega, by omega, by omega, by omega⟩, (hE.set (by omega) _).alloc _, rfl, by omega⟩, by dsimp only; omega⟩
        | simp (disch := omega) only [↓CTL, ↓DRW, ↓STR, VAL, DRV, MAP, Nat.reduceBEq, Nat.reduceAdd, m7_0, hgS, h1, h2]
    · have hall : ∀ j, j < gl.length → GOk high (gl.getD j default) := fun j hj => hok j (by omega)
      simp (disch := omega) only [↓CTL, ↓DRW, ↓STR, VAL, DRV, Nat.reduceBEq, Nat.reduceAdd, m7_0, h1, hS, hK]
      refine A_loopV (α := Nat × (AKey → Option Bool) × Nat) m7_1 (fun x => [(85, .int .i64 x.1)]) (fun x t => x.1 ≤ kl.length ∧ (∀ j, j < x.1 → KOk gl (kl.getD j default)) ∧ Ext σ t ∧ t.objs σ.next = some (.cells 4 [[.int .i64 high, .int .i64 space, gv, kv]]) ∧ t.objs s.next = some (.map (.tup [.int .i64, .int .i64]) (mapF eB x.2.1) x.2.2) ∧ s.next + 1 ≤ t.next) (fun x => kl.length - x.1) rfl (fun _ => rfl)
        ⟨(0, fun _ => none, 0), ?_, Nat.zero_le _, fun j hj => absurd hj (Nat.not_lt_zero _), hE.alloc _, ?_, ?_, ?_⟩ ?_
      · simp only [↓CTL, VAL, Nat.reduceBEq]; rfl
      · simp (disch := omega) only [VAL, h1]
      · simp (disch := omega) only [VAL]; rfl
      · simp only [VAL]; omega
      · rintro ⟨i, g0, n0⟩ f t ⟨hi, hkok, hE, h1, h2, hn⟩
        dsimp only at hi hkok h2 ⊢
        simp (disch := omega) only [↓CTL, ↓DRW, ↓STR, VAL, DRV, Nat.reduceBEq, Nat.reduceAdd, m7_1]
        refine B_if (fun hlt => ?_) (fun hge => ?_)
        · have hput : KOk gl (kl.getD i default) → ∀ j, j < i + 1 → KOk gl (kl.getD j default) := fun h j hj => by
            by_cases hji : j < i
            · exact hkok j hji
            · have : j = i := by omega
              subst this; exact h
          simp (disch := omega) only [↓CTL, ↓DRW, ↓STR, VAL, DRV, Nat.reduceBEq, Nat.reduceAdd, m7_1, hK, Int.toNat_natCast]
          generalize hgg : kl.getD i default = k at hput
          simp (disch := omega) only [↓CTL, ↓DRW, ↓STR, VAL, DRV, Nat.reduceBEq, Nat.reduceAdd, m7_1, Kn.row_eq]
          repeat' first
            | refine out_spec mixed k41 _ _ _ _ ?_
            | refine B_if (fun _ => ?_) (fun _ => ?_)
            | refine B_ifb (fun _ => ?_) (fun _ => ?_)
            | refine G_false (fun _ => ?_) (fun _ => ?_)
            | exact ⟨_, rfl, rfl, (by repeat first | exact hE | exact Ext.refl _ | refine Ext.alloc ?_ _ | refine Ext.set ?_ (by first | omega | (simp only [VAL]; omega)) _), hQ _ _ _ (by omega)⟩
            | (refine dr_go [] [] ?_ ?_; · decide
               obtain ⟨hw1, hw2, -⟩ := hall k.left.toNat (by omega))
            | refine ⟨(i + 1, _, _), rfl, ⟨by dsimp only; omega, hput ⟨by omega, by omega, by omega, by omega, by omega, by omega, by omega⟩, (by repeat first | exact hE | exact Ext.refl _ | refine Ext.alloc ?_ _ | refine Ext.set ?_ (by first | omega | (simp only [VAL]; omega)) _), rfl, by omega⟩, by dsimp only; omega⟩
            | simp (disch := omega) only [↓CTL, ↓DRW, ↓STR, VAL, DRV, MAP, Nat.reduceBEq, Nat.reduceAdd, m7_1, hS, h1, h2, Gl.row_eq]
          all_goals done
        · simp (disch := omega) only [↓CTL, ↓DRW, ↓STR, VAL, DRV, Nat.reduceBEq, Nat.reduceAdd, m7_1]
          exact ⟨_, rfl, rfl, hE, hQ _ _ _ fun _ => ⟨by omega, by omega, by omega, by omega, hall, fun j hj => hkok j (by omega)⟩⟩
end Go.Proofs.YtkfahdbjndihfacGreatDoor
namespace Go.Proofs.YtkfahdbjndihfacGreatDoor
open Go.Tc
set_option linter.unusedSimpArgs false
set_option linter.unusedVariables false
set_option maxRecDepth 20000
set_option maxHeartbeats 4000000
structure FR where
  high : Int
  space : Int
  gv : AVal
  kv : AVal
  gl : List Gl
  kl : List Kn
  ms : Int
  ln : Int
  ld : Int
  sh : Int
  ex : Int
  ink : Int
def FR.fv (x : FR) : List AVal := [.int .i64 x.high, .int .i64 x.space, x.gv, x.kv]
def FR.rv (x : FR) : List AVal := [.int .i64 x.ms, .int .i64 x.ln, .int .i64 x.ld, .int .i64 x.sh, .int .i64 x.ex, .int .i64 x.ink]
def FR.row (x : FR) (M1 M2 : Nat) : List AVal := [.int .i64 x.high, .int .i64 x.space, x.gv, x.kv, .int .i64 x.ms, .int .i64 x.ln, .int .i64 x.ld, .int .i64 x.sh, .int .i64 x.ex, .int .i64 x.ink, .map M1, .map M2]
theorem FR.row_eq {x : FR} {M1 M2 : Nat} : x.row M1 M2 = [.int .i64 x.high, .int .i64 x.space, x.gv, x.kv, .int .i64 x.ms, .int .i64 x.ln, .int .i64 x.ld, .int .i64 x.sh, .int .i64 x.ex, .int .i64 x.ink, .map M1, .map M2] := id rfl
structure FR.rd (x : FR) : Prop where
  g : RV 3 Gl.row x.gv x.gl
  k : RV 3 Kn.row x.kv x.kl
  r : ∀ g ∈ x.gl, RV 1 rI g.rv g.rows
abbrev FR.ok (x : FR) : Prop := FOk x.high x.space x.gl x.kl
def KnM (gl : List Gl) (g : AKey → Option Int) : Prop := ∀ a b v, g (.tup [.int a, .int b]) = some v → -12 ≤ v ∧ v ≤ 12 ∧ (0 ≤ a → a < gl.length → 1 ≤ (gl.getD a.toNat default).wide + v)
structure Stt (x : FR) (a b N : Nat) (s : AHeap) : Prop where
  h : ∃ M1 M2 g1 n1 g2 n2, a ≤ N ∧ N < b ∧ a ≤ M1 ∧ M1 < b ∧ a ≤ M2 ∧ M2 < b ∧ N ≠ M1 ∧ N ≠ M2 ∧ b ≤ s.next ∧ s.objs N = some (.cells 12 [x.row M1 M2]) ∧
    s.objs M1 = some (.map (.one .str) (mapF eI g1) n1) ∧ s.objs M2 = some (.map (.tup [.int .i64, .int .i64]) (mapF eI g2) n2) ∧ (∀ k v, g1 k = some v → 0 ≤ v ∧ v < x.gl.length) ∧ KnM x.gl g2
theorem Stt.keep {x : FR} {a b N : Nat} {s t : AHeap} (h : Stt x a b N s) (hn : s.next ≤ t.next) (hk : ∀ M, a ≤ M → M < b → t.objs M = s.objs M) : Stt x a b N t := by
  obtain ⟨M1, M2, g1, n1, g2, n2, h1, h2, h3, h4, h5, h6, e1, e2, h7, h8, h9, h10, h11, h12⟩ := h.h
  exact ⟨M1, M2, g1, n1, g2, n2, h1, h2, h3, h4, h5, h6, e1, e2, by omega, by rw [hk _ h1 h2]; exact h8, by rw [hk _ h3 h4]; exact h9, by rw [hk _ h5 h6]; exact h10, h11, h12⟩
theorem Stt.ext {x : FR} {a b N : Nat} {s t : AHeap} (h : Stt x a b N s) (hE : Ext s t) : Stt x a b N t := by
  have hb : b ≤ s.next := by obtain ⟨M1, M2, g1, n1, g2, n2, h1, h2, h3, h4, h5, h6, e1, e2, h7, h8, h9, h10, h11, h12⟩ := h.h; exact h7
  exact h.keep hE.1 fun M _ hM => hE.2 M (by omega)
theorem s47 {σ : AHeap} (x : FR) (hx : x.rd) (hz : x.ms = 0 ∧ x.ln = 0 ∧ x.ld = 0 ∧ x.sh = 0 ∧ x.ex = 0 ∧ x.ink = 0) {Q : AOut → AHeap → Prop} (hQ : ∀ N s, x.ok → Ext σ s → Stt x σ.next s.next N s → Q (.ret (.ptr N 0 0)) s)
    (hX : ∀ e s, Ext σ s → Q (.panic (.iface 37 (.int .i64 e))) s) : RunV Tryz.prog (.func (.func 47) [] []) [.agg x.fv] σ Q := by
  obtain ⟨high, space, gv, kv, gl, kl, ms, ln, ld, sh, ex, ink⟩ := x
  obtain ⟨rfl, rfl, rfl, rfl, rfl, rfl⟩ := hz
  obtain ⟨hg, hk, hr⟩ := hx
  dsimp only at hg hk hr hQ ⊢
  have hS := hg.S
  have hK := hk.S
  refine RunV.func mixed k47 (by simp) ?_
  simp (disch := omega) only [FR.fv, c47, ↓CTL, ↓DRW, ↓STR, VAL, DRV, Nat.reduceBEq, Nat.reduceAdd, hS, hK]
  refine s7 hg hk hr fun p a e he => ?_
  simp (disch := omega) only [↓CTL, ↓DRW, ↓STR, VAL, DRV, Nat.reduceBEq, Nat.reduceAdd, hS, hK]
  refine s48 (fun he0 => ?_) (fun _ => ?_)
  case refine_2 =>
    simp (disch := omega) only [↓CTL, ↓DRW, ↓STR, VAL, DRV, PAN, Nat.reduceBEq, Nat.reduceAdd, hS, hK]
    exact hX _ _ ((Ext.refl _).alloc _)
  have hok := he he0
  have hgn := hok.gn
  have hkn := hok.kn
  simp (disch := omega) only [↓CTL, ↓DRW, ↓STR, VAL, DRV, Nat.reduceBEq, Nat.reduceAdd, hS, hK]
  refine A_loopV (α := Nat × (AKey → Option Int) × Nat) m47_0 (fun x => [(29, .int .i64 x.1)]) (fun x s => x.1 ≤ gl.length ∧ (∀ k v, x.2.1 k = some v → 0 ≤ v ∧ v < gl.length) ∧ Ext σ s ∧ s.objs σ.next = some (.cells 4 [[.int .i64 high, .int .i64 space, gv, kv]]) ∧ s.objs (σ.next + 1) = some (.map (.one .str) (mapF eI x.2.1) x.2.2) ∧ s.objs (σ.next + 1 + 1) = some (.map (.tup [.int .i64, .int .i64]) (mapF eI fun _ => none) 0) ∧
      s.objs (σ.next + 1 + 1 + 1) = some (.cells 12 [[.int .i64 high, .int .i64 space, gv, kv, .int .i64 0, .int .i64 0, .int .i64 0, .int .i64 0, .int .i64 0, .int .i64 0, .map (σ.next + 1), .map (σ.next + 1 + 1)]]) ∧ σ.next + 4 ≤ s.next) (fun x => gl.length - x.1) rfl (fun _ => rfl)
    ⟨(0, fun _ => none, 0), ?_, Nat.zero_le _, (by intro k v h; cases h), ?_, ?_, ?_, ?_, ?_, ?_⟩ ?_
  · simp only [↓CTL, VAL, Nat.reduceBEq]; rfl
  · repeat first | exact Ext.refl _ | refine Ext.alloc ?_ _
  · simp (disch := omega) only [VAL]
  · simp (disch := omega) only [VAL]; rfl
  · simp (disch := omega) only [VAL]; rfl
  · simp (disch := omega) only [VAL]
  · simp only [VAL]; omega
  · rintro ⟨i, g0, n0⟩ f s ⟨hi, hg0, hE, h1, h2, h3, h4, hn⟩
    dsimp only at hi hg0 h2 ⊢
    simp (disch := omega) only [↓CTL, ↓DRW, ↓STR, VAL, DRV, Nat.reduceBEq, Nat.reduceAdd, m47_0]
    refine B_if (fun hlt => ?_) (fun hge => ?_)
    · have hgi := hr _ (getD_mem (l := gl) (j := i) (by omega))
      simp (disch := omega) only [↓CTL, ↓DRW, ↓STR, VAL, DRV, Nat.reduceBEq, Nat.reduceAdd, m47_0, hS, Int.toNat_natCast]
      generalize hgg : gl.getD i default = g at hgi
      have hgS := hgi.S
      simp (disch := omega) only [↓CTL, ↓DRW, ↓STR, VAL, DRV, Nat.reduceBEq, Nat.reduceAdd, m47_0, Gl.row_eq, hgS]
      refine dr_go [] [] ?_ ?_; · decide
      simp (disch := omega) only [↓CTL, ↓DRW, ↓STR, VAL, DRV, MAP, Nat.reduceBEq, Nat.reduceAdd, m47_0, Gl.row_eq, hgS, h1, h2, h3, h4]
      refine ⟨(i + 1, mputT g0 (.one (.str g.text)) i, _), rfl, ⟨by dsimp only; omega, ?_, (by repeat first | exact hE | exact Ext.refl _ | refine Ext.alloc ?_ _ | refine Ext.set ?_ (by first | omega | (simp only [VAL]; omega)) _), rfl, by omega⟩, by dsimp only; omega⟩
      intro k v hv
      dsimp only at hv
      by_cases hkk : k = .one (.str g.text)
      · subst hkk; rw [mputT_same] at hv; cases hv; omega
      · rw [mputT_ne hkk] at hv; exact hg0 k v hv
    · simp (disch := omega) only [↓CTL, ↓DRW, ↓STR, VAL, DRV, Nat.reduceBEq, Nat.reduceAdd, m47_0, h1, hK]
      refine A_loopV (α := Nat × (AKey → Option Int) × Nat) m47_1 (fun x => [(45, .int .i64 x.1)]) (fun x s => x.1 ≤ kl.length ∧ KnM gl x.2.1 ∧ Ext σ s ∧ s.objs σ.next = some (.cells 4 [[.int .i64 high, .int .i64 space, gv, kv]]) ∧ s.objs (σ.next + 1) = some (.map (.one .str) (mapF eI g0) n0) ∧ s.objs (σ.next + 1 + 1) = some (.map (.tup [.int .i64, .int .i64]) (mapF eI x.2.1) x.2.2) ∧
          s.objs (σ.next + 1 + 1 + 1) = some (.cells 12 [[.int .i64 high, .int .i64 space, gv, kv, .int .i64 0, .int .i64 0, .int .i64 0, .int .i64 0, .int .i64 0, .int .i64 0, .map (σ.next + 1), .map (σ.next + 1 + 1)]]) ∧ σ.next + 4 ≤ s.next) (fun x => kl.length - x.1) rfl (fun _ => rfl)
        ⟨(0, fun _ => none, 0), ?_, Nat.zero_le _, (by intro a b v h; cases h), hE, h1, h2, h3, h4, hn⟩ ?_
      · simp only [↓CTL, VAL, Nat.reduceBEq]; rfl
      · rintro ⟨i, g2, n2⟩ f s ⟨hi, hg2, hE, h1, h2, h3, h4, hn⟩
        dsimp only at hi hg2 h2 h3 ⊢
        simp (disch := omega) only [↓CTL, ↓DRW, ↓STR, VAL, DRV, Nat.reduceBEq, Nat.reduceAdd, m47_1]
        refine B_if (fun hlt => ?_) (fun hge => ?_)
        · have hki := hok.k i (by omega)
          simp (disch := omega) only [↓CTL, ↓DRW, ↓STR, VAL, DRV, Nat.reduceBEq, Nat.reduceAdd, m47_1, hK, Int.toNat_natCast]
          generalize hgg : kl.getD i default = k at hki
          simp (disch := omega) only [↓CTL, ↓DRW, ↓STR, VAL, DRV, Nat.reduceBEq, Nat.reduceAdd, m47_1, Kn.row_eq]
          refine dr_go [] [] ?_ ?_; · decide
          simp (disch := omega) only [↓CTL, ↓DRW, ↓STR, VAL, DRV, MAP, Nat.reduceBEq, Nat.reduceAdd, m47_1, h1, h2, h3, h4]
          refine ⟨(i + 1, mputT g2 (.tup [.int k.left, .int k.right]) k.by', _), rfl, ⟨by dsimp only; omega, ?_, (by repeat first | exact hE | exact Ext.refl _ | refine Ext.alloc ?_ _ | refine Ext.set ?_ (by first | omega | (simp only [VAL]; omega)) _), rfl, by omega⟩, by dsimp only; omega⟩
          obtain ⟨k1, k2, k3, k4, k5, k6, k7⟩ := hki
          intro a b v hv
          dsimp only at hv
          by_cases hkk : AKey.tup [.int a, .int b] = .tup [.int k.left, .int k.right]
          · rw [hkk, mputT_same] at hv
            cases hv
            simp only [AKey.tup.injEq, List.cons.injEq, AK.int.injEq, and_true] at hkk
            rw [hkk.1]
            exact ⟨k5, k6, fun _ _ => k7⟩
          · rw [mputT_ne hkk] at hv; exact hg2 a b v hv
        · simp (disch := omega) only [↓CTL, ↓DRW, ↓STR, VAL, DRV, Nat.reduceBEq, Nat.reduceAdd, m47_1]
          exact hQ _ _ hok hE ⟨_, _, _, _, _, _, by omega, by omega, by omega, by omega, by omega, by omega, by omega, by omega, Nat.le_refl _, h4, h2, h3, hg0, hg2⟩
end Go.Proofs.YtkfahdbjndihfacGreatDoor
namespace Go.Proofs.YtkfahdbjndihfacGreatDoor
open Go.Tc
set_option linter.unusedSimpArgs false
set_option linter.unusedVariables false
set_option maxRecDepth 20000
set_option maxHeartbeats 4000000
structure FR.rok (x : FR) : Prop where
  ms : 1 ≤ x.ms ∧ x.ms ≤ 48
  ln : 1 ≤ x.ln ∧ x.ln ≤ 12
  ld : 0 ≤ x.ld ∧ x.ld ≤ 10
  sh : 0 ≤ x.sh ∧ x.sh ≤ 24
  ex : 0 ≤ x.ex ∧ x.ex ≤ 10000
  ink : 1 ≤ x.ink ∧ x.ink ≤ 255
  rows : x.ln * (x.high + x.ld) - x.ld ≤ 48
theorem s61 {s : AHeap} {x : FR} {a b N : Nat} (hS : Stt x a b N s) (hh : 1 ≤ x.high ∧ x.high ≤ 16) (hl : 1 ≤ x.ln ∧ x.ln ≤ 12) (hd : 0 ≤ x.ld ∧ x.ld ≤ 10) {Q : AOut → AHeap → Prop} (hQ : Q (.ret (.int .i64 (x.ln * (x.high + x.ld) - x.ld))) s) :
    RunV Tryz.prog (.func (.func 61) [] []) [.ptr N 0 0] s Q := by
  obtain ⟨M1, M2, g1, n1, g2, n2, h1, h2, h3, h4, h5, h6, e1, e2, h7, h8, h9, h10, h11, h12⟩ := hS.h
  have p0 : 0 ≤ x.ln * (x.high + x.ld) := Int.mul_nonneg (by omega) (by omega)
  have p1 : x.ln * (x.high + x.ld) ≤ 12 * 26 := Int.mul_le_mul (by omega) (by omega) (by omega) (by omega)
  rw [FR.row_eq] at h8
  refine RunV.func mixed k61 (by simp) ?_
  simp (disch := omega) only [c61, ↓CTL, ↓DRW, VAL, DRV, Nat.reduceBEq, Nat.reduceAdd]
  refine dr_go [] [] ?_ ?_; · decide
  simp (disch := omega) only [↓CTL, ↓DRW, VAL, DRV, Nat.reduceBEq, Nat.reduceAdd, h8]
  exact hQ
theorem s46 {σ : AHeap} (x : FR) (hx : x.rd) {Q : AOut → AHeap → Prop} (hQ : ∀ N s, x.ok → x.rok → Ext σ s → Stt x σ.next s.next N s → Q (.ret (.ptr N 0 0)) s)
    (hX : ∀ e s, Ext σ s → Q (.panic (.iface 37 (.int .i64 e))) s) : RunV Tryz.prog (.func (.func 46) [] []) [.agg x.fv, .agg x.rv] σ Q := by
  have o1 := (hx.g σ).one
  have o2 := (hx.k σ).one
  refine RunV.func mixed k46 (by simp) ?_
  simp (disch := omega) only [FR.fv, FR.rv, c46, ↓CTL, ↓DRW, VAL, DRV, Nat.reduceBEq, Nat.reduceAdd, o1, o2]
  refine s47 ⟨x.high, x.space, x.gv, x.kv, x.gl, x.kl, 0, 0, 0, 0, 0, 0⟩ ⟨hx.g, hx.k, hx.r⟩ ⟨rfl, rfl, rfl, rfl, rfl, rfl⟩ (fun N s hok hE hS => ?_) (fun e s hE => ?_)
  case refine_2 =>
    simp (disch := omega) only [↓CTL, ↓DRW, VAL, DRV, PAN, Nat.reduceBEq, Nat.reduceAdd]
    exact hX _ _ (Ext.trans (Ext.alloc (Ext.alloc (Ext.refl _) _) _) hE)
  obtain ⟨M1, M2, g1, n1, g2, n2, h1, h2, h3, h4, h5, h6, e1, e2, h7, h8, h9, h10, h11, h12⟩ := hS.h
  simp only [AHeap.next_alloc] at h1 h3 h5
  have hok' : x.ok := hok
  have hhi := hok'.hi
  have r0 := hE.2 (σ.next + 1) (by simp only [VAL]; omega)
  rw [objs_new (by simp only [VAL])] at r0
  rw [FR.row_eq] at h8
  have hE' : Ext σ s := Ext.trans (Ext.alloc (Ext.alloc (Ext.refl _) _) _) hE
  clear hE hok hS
  have hE := hE'
  simp (disch := omega) only [↓CTL, ↓DRW, VAL, DRV, Nat.reduceBEq, Nat.reduceAdd, r0, h8]
  have hSt : Stt x σ.next s.next N (s.set N (.cells 12 [[.int .i64 x.high, .int .i64 x.space, x.gv, x.kv, .int .i64 x.ms, .int .i64 x.ln, .int .i64 x.ld, .int .i64 x.sh, .int .i64 x.ex, .int .i64 x.ink, .map M1, .map M2]])) :=
    ⟨M1, M2, g1, n1, g2, n2, by omega, h2, by omega, h4, by omega, h6, e1, e2, Nat.le_refl _, objs_here, by rw [objs_else (by omega)]; exact h9, by rw [objs_else (by omega)]; exact h10, h11, h12⟩
  have r1 : (s.set N (.cells 12 [[.int .i64 x.high, .int .i64 x.space, x.gv, x.kv, .int .i64 x.ms, .int .i64 x.ln, .int .i64 x.ld, .int .i64 x.sh, .int .i64 x.ex, .int .i64 x.ink, .map M1, .map M2]])).objs (σ.next + 1) = some (.cells 6 [[.int .i64 x.ms, .int .i64 x.ln, .int .i64 x.ld, .int .i64 x.sh, .int .i64 x.ex, .int .i64 x.ink]]) := by
    rw [objs_else (by omega)]; exact r0
  have hE2 := Ext.set hE' (show σ.next ≤ N by omega) (.cells 12 [[.int .i64 x.high, .int .i64 x.space, x.gv, x.kv, .int .i64 x.ms, .int .i64 x.ln, .int .i64 x.ld, .int .i64 x.sh, .int .i64 x.ex, .int .i64 x.ink, .map M1, .map M2]])
  have hnx : (s.set N (.cells 12 [[.int .i64 x.high, .int .i64 x.space, x.gv, x.kv, .int .i64 x.ms, .int .i64 x.ln, .int .i64 x.ld, .int .i64 x.sh, .int .i64 x.ex, .int .i64 x.ink, .map M1, .map M2]])).next = s.next := rfl
  rw [← hnx] at hSt
  generalize s.set N (.cells 12 [[.int .i64 x.high, .int .i64 x.space, x.gv, x.kv, .int .i64 x.ms, .int .i64 x.ln, .int .i64 x.ld, .int .i64 x.sh, .int .i64 x.ex, .int .i64 x.ink, .map M1, .map M2]]) = t at hSt r1 hE2 hnx
  repeat' first
    | refine out_spec mixed k41 _ _ _ _ ?_
    | refine G_true (fun _ => ?_) (fun _ => ?_)
    | refine s48b (fun h => absurd h (by decide)) (fun _ => ?_)
    | refine s48 (fun _ => ?_) (fun _ => ?_)
    | exact hX _ _ hE2
    | refine s61 hSt (by omega) (by omega) (by omega) ?_
    | exact hQ _ _ hok' ⟨by omega, by omega, by omega, by omega, by omega, by omega, by omega⟩ hE2 hSt
    | simp (disch := omega) only [↓CTL, ↓DRW, VAL, DRV, PAN, Nat.reduceBEq, Nat.reduceAdd, r1]
theorem ld1 {σ : AHeap} {T : Nat} {v : AVal} (h : σ.objs T = some (.cells 1 [[v]])) : loadA σ false 1 (.ptr T 0 0) = some v := by
  rw [load_ptr, h]; rfl
section
variable {env : AEnv} {σ : AHeap} {Q : AOut → AHeap → Prop} {T k : Nat} {e : Int}
theorem end1 {rs : List ARes} {vs : List AVal} (hd : env.ds = [(.func (.func 45) [] [], [.ptr T 0 0])]) (hr : resAs env σ rs = some vs) (hQ : Q (.ret (tupA vs)) σ) : retD Tryz.prog rs Q .ret env σ :=
  retD_ret1 hd (d45n ⟨_, hr, hQ⟩)
theorem endP {rs : List ARes} {vs : List AVal} {e0 : Int} (hd : env.ds = [(.func (.func 45) [] [], [.ptr T 0 0])]) (h0 : σ.objs T = some (.cells 1 [[.int .i64 e0]])) (hr : resAs env (σ.set T (.cells 1 [[.int .i64 e]])) rs = some vs) (hQ : Q (.ret (tupA vs)) (σ.set T (.cells 1 [[.int .i64 e]]))) : retD Tryz.prog rs Q (.panic (.iface 37 (.int .i64 e))) env σ :=
  retD_pan1 hd (d45s h0 ⟨rfl, _, hr, hQ⟩)
end
theorem res12 {env : AEnv} {σ : AHeap} {T : Nat} {e : Int} (h4 : env.t 4 = .ptr T 0 0) (o : σ.objs T = some (.cells 1 [[.int .i64 e]])) : resAs env σ [.cell 4 false 1] = some [.int .i64 e] := by
  simp only [resAs, h4, ld1 o]; rfl
theorem s12 {σ : AHeap} (x : FR) (hx : x.rd) : RunV Tryz.prog (.func (.func 12) [] []) [.agg x.fv, .agg x.rv] σ (fun o s => ∃ e : Int, o = .ret (.int .i64 e) ∧ Ext σ s) := by
  have o1 := (hx.g σ).one
  have o2 := (hx.k σ).one
  refine RunV.funcD mixed k12 (by simp) ?_
  simp (disch := omega) only [FR.fv, FR.rv, c12, ↓CTL, ↓DRW, VAL, DRV, DFR, Nat.reduceBEq, Nat.reduceAdd, o1, o2]
  refine L_dfr (g := 45) (first := []) (caps := []) rfl ?_
  simp (disch := omega) only [↓CTL, ↓DRW, VAL, DRV, DFR, Nat.reduceBEq, Nat.reduceAdd, o1, o2]
  refine s46 x hx (fun N s hok hr hE hS => ?_) (fun e s hE => ?_)
  · have r0 := hE.2 (σ.next + 1 + 1) (by simp only [VAL]; omega)
    rw [objs_new (by simp only [VAL])] at r0
    have hb := hE.1
    simp only [VAL] at hb
    have hE' : Ext σ s := Ext.trans (Ext.alloc (Ext.alloc (Ext.alloc (Ext.refl _) _) _) _) hE
    simp (disch := omega) only [↓CTL, ↓DRW, VAL, DRV, DFR, Nat.reduceBEq, Nat.reduceAdd, r0]
    exact end1 (T := σ.next + 1 + 1) rfl (res12 rfl objs_here) ⟨_, rfl, hE'.set (by omega) _⟩
  · have r0 := hE.2 (σ.next + 1 + 1) (by simp only [VAL]; omega)
    rw [objs_new (by simp only [VAL])] at r0
    have hb := hE.1
    simp only [VAL] at hb
    have hE' : Ext σ s := Ext.trans (Ext.alloc (Ext.alloc (Ext.alloc (Ext.refl _) _) _) _) hE
    simp (disch := omega) only [↓CTL, ↓DRW, VAL, DRV, DFR, PAN, Nat.reduceBEq, Nat.reduceAdd, r0]
    exact endP (T := σ.next + 1 + 1) rfl r0 (res12 rfl objs_here) ⟨_, rfl, hE'.set (by omega) _⟩
end Go.Proofs.YtkfahdbjndihfacGreatDoor
namespace Go.Proofs.YtkfahdbjndihfacGreatDoor
open Go.Tc
set_option linter.unusedSimpArgs false
set_option linter.unusedVariables false
set_option maxRecDepth 20000
set_option maxHeartbeats 4000000
def Nums (x : FR) (l : List Int) : Prop := ∀ e ∈ l, 0 ≤ e ∧ e < x.gl.length
structure TryI (x : FR) (a b N B M K T : Nat) (s : AHeap) : Prop where
  st : Stt x a b N s
  hb : b ≤ M
  oB : s.objs B = some (.cells 1 [[.ptr N 0 0]])
  oK : s.objs K = some (.cells 1 [[.map M]])
  oT : s.objs T = some (.cells 1 [[.func (.func 86) [] [.ptr K 0 0, .ptr B 0 0, .ptr T 0 0]]])
  lt : B < s.next ∧ M < s.next ∧ K < s.next ∧ T < s.next
  ne : B ≠ M ∧ K ≠ M ∧ T ≠ M
  oM : ∃ f n, s.objs M = some (.map (.one .str) f n) ∧ ∀ q v, f (.one (.str q)) = some v → ∃ l, OwnS s (M + 1) 1 rI v l ∧ l.length ≤ q.size ∧ Nums x l
def But (M : Nat) (σ s : AHeap) : Prop := σ.next ≤ s.next ∧ ∀ N, N < σ.next → N ≠ M → s.objs N = σ.objs N
theorem But.refl {M : Nat} {σ : AHeap} : But M σ σ := ⟨Nat.le_refl _, fun _ _ _ => rfl⟩
theorem But.trans {M : Nat} {a b c : AHeap} (h : But M a b) (k : But M b c) : But M a c := ⟨Nat.le_trans h.1 k.1, fun N h1 h2 => (k.2 N (Nat.lt_of_lt_of_le h1 h.1) h2).trans (h.2 N h1 h2)⟩
theorem But.own {M : Nat} {σ s : AHeap} (h : But M σ s) {α : Type} {m : Nat} {f : α → List AVal} {v : AVal} {l : List α} (hO : OwnS σ (M + 1) m f v l) : OwnS s (M + 1) m f v l :=
  hO.keep h.1 fun K h1 h2 _ => h.2 K h2 (by omega)
theorem TryI.but {x : FR} {a b N B M K T : Nat} {σ s : AHeap} (h : TryI x a b N B M K T σ) (hB : But M σ s) (hM : ∃ f n, s.objs M = some (.map (.one .str) f n) ∧ ∀ q v, f (.one (.str q)) = some v → ∃ l, OwnS s (M + 1) 1 rI v l ∧ l.length ≤ q.size ∧ Nums x l) : TryI x a b N B M K T s := by
  obtain ⟨h1, h2, h3, h4, h5, h6, h7, -⟩ := h
  have := hB.1
  exact ⟨h1.keep hB.1 fun M' _ hM' => hB.2 M' (by omega) (by omega), h2, (hB.2 _ (by omega) (by omega)).trans h3, (hB.2 _ (by omega) (by omega)).trans h4, (hB.2 _ (by omega) (by omega)).trans h5, ⟨by omega, by omega, by omega, by omega⟩, h7, hM⟩
theorem TryI.ext {x : FR} {a b N B M K T : Nat} {σ s : AHeap} (h : TryI x a b N B M K T σ) (hE : Ext σ s) : TryI x a b N B M K T s := by
  have hB : But M σ s := ⟨hE.1, fun N hN _ => hE.2 N hN⟩
  obtain ⟨f, n, g1, g2⟩ := h.oM
  exact h.but hB ⟨f, n, (hE.2 M h.lt.2.1).trans g1, fun q v hv => let ⟨l, k1, k2, k3⟩ := g2 q v hv; ⟨l, hB.own k1, k2, k3⟩⟩
theorem Ext.but {M : Nat} {σ s : AHeap} (hE : Ext σ s) : But M σ s := ⟨hE.1, fun N hN _ => hE.2 N hN⟩
theorem size_from {s : ByteArray} {n : Nat} (h : n ≤ s.size) : (s.extract n s.size).size = s.size - n := by
  rw [ByteArray.size_extract]; omega
theorem prep {s : AHeap} {M : Nat} {g : Int} {v : AVal} {l : List Int} (hO : OwnS s (M + 1) 1 rI v l) (hM : M < s.next) (hl : l.length ≤ 100000) :
    ∃ v' t, appA (s.alloc (.cells 1 [[.int .i64 g]])) 1 8 (.ms 1 s.next 0 1 true) v = some (v', t) ∧ OwnS t (M + 1) 1 rI v' (g :: l) ∧ Ext s t := by
  have hw : OwnS (s.alloc (.cells 1 [[.int .i64 g]])) (M + 1) 1 rI (.ms 1 s.next 0 1 true) [g] := .inr ⟨s.next, true, rfl, by omega, by simp, objs_new rfl⟩
  obtain ⟨v', t, h1, h2, h3, h4, h5⟩ := hw.app (bytes := 8) (hO.alloc _).elems (by simp; omega) (sumLen_ok (by simp; omega) (by simp; omega))
  simp only [AHeap.next_alloc] at h3 h4
  refine ⟨v', t, h1, h2, by omega, fun N hN => ?_⟩
  rw [h4 N (by omega) (fun m i len ex he => by cases he; omega), objs_old (by omega)]
theorem But.set {M : Nat} {σ : AHeap} (o : AObj) : But M σ (σ.set M o) := ⟨Nat.le_refl _, fun N _ h => objs_else h⟩
theorem s86 (x : FR) {a b N B M K T : Nat} : ∀ (k : Nat) (rest : ByteArray), rest.size ≤ k → rest.size ≤ 100000 → ∀ σ, TryI x a b N B M K T σ →
    RunV Tryz.prog (.func (.func 86) [] [.ptr K 0 0, .ptr B 0 0, .ptr T 0 0]) [.str rest] σ (fun o s => ∃ v l, o = .ret v ∧ TryI x a b N B M K T s ∧ But M σ s ∧ OwnS s (M + 1) 1 rI v l ∧ l.length ≤ rest.size ∧ Nums x l) := by
  intro k
  induction k using Nat.strongRecOn with
  | ind k ih =>
  intro rest hk hr σ hI
  obtain ⟨f, n, hM, hf⟩ := hI.oM
  obtain ⟨M1, M2, g1, n1, g2, n2, h1, h2, h3, h4, h5, h6, e1, e2, h7, h8, h9, h10, h11, h12⟩ := hI.st.h
  have oB := hI.oB
  have oK := hI.oK
  have oT := hI.oT
  rw [FR.row_eq] at h8
  refine RunV.func mixed k86 (by simp) ?_
  simp (disch := omega) only [c86, ↓CTL, ↓DRW, ↓STR, VAL, DRV, MAP, Nat.reduceBEq, Nat.reduceAdd, oK, hM]
  refine B_ifb (fun hs => ?_) (fun hs => ?_)
  · simp (disch := omega) only [↓CTL, ↓DRW, ↓STR, VAL, DRV, MAP, Nat.reduceBEq, Nat.reduceAdd, oK, hM]
    obtain ⟨v, hv⟩ := Option.isSome_iff_exists.1 hs
    obtain ⟨l, q1, q2, q3⟩ := hf _ _ hv
    rw [hv]
    exact ⟨v, l, rfl, hI, .refl, q1, q2, q3⟩
  · simp (disch := omega) only [↓CTL, ↓DRW, ↓STR, VAL, DRV, MAP, Nat.reduceBEq, Nat.reduceAdd, oK, hM]
    refine A_loopV (α := Int × AVal × List Int) m86_0 (fun x => [(9, .int .i64 x.1), (8, x.2.1)]) (fun y s => 0 ≤ y.1 ∧ y.1 ≤ 3 ∧ y.1 ≤ rest.size ∧ TryI x a b N B M K T s ∧ But M σ s ∧ OwnS s (M + 1) 1 rI y.2.1 y.2.2 ∧ y.2.2.length ≤ rest.size ∧ Nums x y.2.2) (fun y => y.1.toNat) rfl (fun _ => rfl)
      ⟨(min 3 rest.size, .nilS, []), ?_, by dsimp only; omega, by dsimp only; omega, by dsimp only; omega, hI, .refl, .nil, by simp, by simp [Nums]⟩ ?_
    · simp only [↓CTL, VAL, Nat.reduceBEq]
    · rintro ⟨long, bv, bl⟩ f' s ⟨j0, j1, j2, jI, jB, jO, jl, jn⟩
      dsimp only at j0 j1 j2 jO jl jn ⊢
      have oB := jI.oB
      have oK := jI.oK
      have oT := jI.oT
      obtain ⟨M1, M2, g1, n1, g2, n2, h1, h2, h3, h4, h5, h6, e1, e2, h7, h8, h9, h10, h11, h12⟩ := jI.st.h
      rw [FR.row_eq] at h8
      simp (disch := omega) only [↓CTL, ↓DRW, ↓STR, VAL, DRV, MAP, Nat.reduceBEq, Nat.reduceAdd, m86_0]
      refine B_if (fun hlt => ?_) (fun hge => ?_)
      · simp (disch := omega) only [↓CTL, ↓DRW, ↓STR, VAL, DRV, MAP, Nat.reduceBEq, Nat.reduceAdd, m86_0]
        refine dr_go [] [] ?_ ?_; · decide
        simp (disch := omega) only [↓CTL, ↓DRW, ↓STR, VAL, DRV, MAP, Nat.reduceBEq, Nat.reduceAdd, m86_0, oB, h8, h9]
        refine B_ifb (fun hs => ?_) (fun hs => ?_)
        · simp (disch := omega) only [↓CTL, ↓DRW, ↓STR, VAL, DRV, MAP, Nat.reduceBEq, Nat.reduceAdd, m86_0]
          exact ⟨(long - 1, bv, bl), ⟨rfl, rfl⟩, ⟨by dsimp only; omega, by dsimp only; omega, by dsimp only; omega, jI, jB, jO, jl, jn⟩, by dsimp only; omega⟩
        · have hgl : ∃ v, g1 (.one (.str (rest.extract 0 long.toNat))) = some v := by
            simp only [mapF, Option.isSome_map] at hs
            refine Option.isSome_iff_exists.1 ?_
            simpa using hs
          obtain ⟨gv, hgv⟩ := hgl
          have hgv' := h11 _ _ hgv
          simp (disch := omega) only [↓CTL, ↓DRW, ↓STR, VAL, DRV, MAP, Nat.reduceBEq, Nat.reduceAdd, m86_0]
          refine dr_go [] [] ?_ ?_; · decide
          simp (disch := omega) only [↓CTL, ↓DRW, ↓STR, VAL, DRV, MAP, Nat.reduceBEq, Nat.reduceAdd, m86_0, oT]
          have hsz := size_from (s := rest) (n := long.toNat) (by omega)
          refine (ih (rest.size - long.toNat) (by omega) (rest.extract long.toNat rest.size) (by omega) (by omega) s jI).mono fun o s2 hz => ?_
          obtain ⟨v12, l12, rfl, kI, kB, kO, kl, kn⟩ := hz
          have jO2 := kB.own jO
          have kM := kI.lt.2.1
          have next : ∀ (s : AHeap) (f : Nat → AVal) (bv : AVal) (bl : List Int), TryI x a b N B M K T s → But M σ s → OwnS s (M + 1) 1 rI bv bl → bl.length ≤ rest.size → Nums x bl → ∃ a' : Int × AVal × List Int, (AVal.int IntKind.i64 (long - 1) = AVal.int IntKind.i64 a'.fst ∧ bv = a'.snd.fst) ∧ (0 ≤ a'.fst ∧ a'.fst ≤ 3 ∧ a'.fst ≤ rest.size ∧ TryI x a b N B M K T s ∧ But M σ s ∧ OwnS s (M + 1) 1 rI a'.snd.fst a'.snd.snd ∧ a'.snd.snd.length ≤ rest.size ∧ Nums x a'.snd.snd) ∧ a'.fst.toNat < long.toNat :=
            fun s f bv bl h1 h2 h3 h4 h5 => ⟨(long - 1, bv, bl), ⟨rfl, rfl⟩, ⟨by dsimp only; omega, by dsimp only; omega, by dsimp only; omega, h1, h2, h3, h4, h5⟩, by dsimp only; omega⟩
          obtain ⟨w, t, ha, ho, he⟩ := prep (g := gv) kO kM (by omega)
          have hnum : Nums x (gv :: l12) := by
            intro e hm
            rcases List.mem_cons.1 hm with rfl | hm
            · exact hgv'
            · exact kn e hm
          have fin := next t f' w (gv :: l12) (kI.ext he) ((jB.trans kB).trans (Ext.but he)) ho (by simp; omega) hnum
          have stay := next s2 f' bv bl kI (jB.trans kB) jO2 jl jn
          have hlen := kO.len
          have hlen2 := jO2.len
          rcases kO with ⟨rfl, rfl⟩ | ⟨N12, ex12, rfl, q1, q2, q3⟩
          · simp (disch := omega) only [↓CTL, ↓DRW, ↓STR, VAL, DRV, MAP, Nat.reduceBEq, Nat.reduceAdd, m86_0, neq_nil_nil]
            exact stay
          · rcases jO2 with ⟨rfl, rfl⟩ | ⟨N8, ex8, rfl, r1, r2, r3⟩
            · simp (disch := omega) only [↓CTL, ↓DRW, ↓STR, VAL, DRV, MAP, FILL, Nat.reduceBEq, Nat.reduceAdd, m86_0, neq_nil_ms, hgv, Option.getD_some, ha]
              exact fin
            · simp (disch := omega) only [↓CTL, ↓DRW, ↓STR, VAL, DRV, MAP, FILL, Nat.reduceBEq, Nat.reduceAdd, m86_0, neq_nil_ms, hgv, Option.getD_some, ha]
              refine B_if (fun _ => ?_) (fun _ => ?_)
              · simp (disch := omega) only [↓CTL, ↓DRW, ↓STR, VAL, DRV, MAP, FILL, Nat.reduceBEq, Nat.reduceAdd, m86_0, neq_nil_ms, hgv, Option.getD_some, ha]
                exact fin
              · simp (disch := omega) only [↓CTL, ↓DRW, ↓STR, VAL, DRV, MAP, FILL, Nat.reduceBEq, Nat.reduceAdd, m86_0]
                exact stay
      · obtain ⟨f2, m2, qM, qf⟩ := jI.oM
        simp (disch := omega) only [↓CTL, ↓DRW, ↓STR, VAL, DRV, MAP, Nat.reduceBEq, Nat.reduceAdd, m86_0, oK, qM]
        refine ⟨bv, bl, rfl, jI.but (But.set _) ⟨_, _, objs_here, fun q v hv => ?_⟩, jB.trans (But.set _), (But.set _).own jO, jl, jn⟩
        by_cases hq : AKey.one (.str q) = .one (.str rest)
        · simp only [mput, if_pos hq] at hv
          cases hv
          simp only [AKey.one.injEq, AK.str.injEq] at hq
          exact ⟨bl, (But.set _).own jO, by rw [hq]; exact jl, jn⟩
        · simp only [mput, if_neg hq] at hv
          obtain ⟨l, k1, k2, k3⟩ := qf q v hv
          exact ⟨l, (But.set _).own k1, k2, k3⟩
end Go.Proofs.YtkfahdbjndihfacGreatDoor
namespace Go.Proofs.YtkfahdbjndihfacGreatDoor
open Go.Tc
set_option linter.unusedSimpArgs false
set_option linter.unusedVariables false
set_option maxRecDepth 20000
set_option maxHeartbeats 4000000
theorem neq_own {s : AHeap} {b : Nat} {v : AVal} {l : List Int} (h : OwnS s b 1 rI v l) : ∃ c, binA .neq .slice v .nilS = some (.bool c) := by
  rcases h with ⟨rfl, rfl⟩ | ⟨N, ex, rfl, h1, h2, h3⟩
  · exact ⟨_, rfl⟩
  · exact ⟨_, rfl⟩
theorem s74o {σ : AHeap} (x : FR) {a b N : Nat} (hS : Stt x a b N σ) {text : ByteArray} (ht : text.size ≤ 100000) :
    RunV Tryz.prog (.func (.func 74) [] []) [.ptr N 0 0, .str text] σ (fun o s => ∃ v l c, o = .ret (.tup [v, .bool c]) ∧ Ext σ s ∧ OwnS s σ.next 1 rI v l ∧ l.length ≤ text.size ∧ Nums x l) := by
  refine RunV.func mixed k74 (by simp) ?_
  simp (disch := omega) only [c74, ↓CTL, ↓DRW, ↓STR, VAL, DRV, MAP, FILL, Nat.reduceBEq, Nat.reduceAdd]
  generalize hT : AHeap.set _ _ (.cells 1 [[.func (.func 86) _ _]]) = t0
  have hE : Ext σ t0 := by
    rw [← hT]; repeat first | exact Ext.refl _ | refine Ext.alloc ?_ _ | refine Ext.set ?_ (by first | omega | (simp only [VAL]; omega)) _
  have hI : TryI x a b N σ.next (σ.next + 1) (σ.next + 1 + 1 + 1) (σ.next + 1 + 1 + 1 + 1) t0 := by
    have hb : b ≤ σ.next := by obtain ⟨M1, M2, g1, n1, g2, n2, h1, h2, h3, h4, h5, h6, e1, e2, h7, h8, h9, h10, h11, h12⟩ := hS.h; exact h7
    refine ⟨hS.ext hE, by omega, ?_, ?_, ?_, ?_, by omega, ?_⟩
    · rw [← hT]; simp (disch := omega) only [VAL]
    · rw [← hT]; simp (disch := omega) only [VAL]
    · rw [← hT]; simp (disch := omega) only [VAL]
    · rw [← hT]; simp only [VAL]; omega
    · refine ⟨mput (fun _ => none) (.one (.str .empty)) (.ms 1 (σ.next + 1 + 1) 0 0 true), 1, ?_, fun q v hv => ?_⟩
      · rw [← hT]; simp (disch := omega) only [VAL]; rfl
      · by_cases hq : AKey.one (.str q) = .one (.str .empty)
        · simp only [mput, if_pos hq] at hv
          cases hv
          refine ⟨[], .inr ⟨_, _, rfl, Nat.le_refl _, ?_, ?_⟩, by simp, by simp [Nums]⟩
          · rw [← hT]; simp only [VAL]; omega
          · rw [← hT]; simp (disch := omega) only [VAL, List.map_nil]
        · simp only [mput, if_neg hq] at hv; cases hv
  clear hT
  have oT := hI.oT
  refine (s86 x _ text (Nat.le_refl _) ht _ hI).mono fun o s2 hz => ?_
  obtain ⟨v, l, rfl, kI, kB, kO, kl, kn⟩ := hz
  obtain ⟨c, hc⟩ := neq_own kO
  simp (disch := omega) only [↓CTL, ↓DRW, ↓STR, VAL, DRV, MAP, FILL, Nat.reduceBEq, Nat.reduceAdd, hc]
  have e1 := hE.1
  have e2 := kB.1
  exact ⟨_, l, _, rfl, ⟨by omega, fun M hM => (kB.2 M (by omega) (by omega)).trans (hE.2 M hM)⟩, kO.weak (by omega), kl, kn⟩
structure Wd where
  text : ByteArray
  gv : AVal
  av : AVal
  wide : Int
  gs : List Int
  ats : List Int
  deriving Inhabited
def Wd.row (w : Wd) : List AVal := [.str w.text, w.gv, w.av, .int .i64 w.wide]
theorem Wd.row_eq {w : Wd} : w.row = [.str w.text, w.gv, w.av, .int .i64 w.wide] := id rfl
def FR.w (x : FR) (g : Int) : Int := (x.gl.getD g.toNat default).wide
structure Wd.pre (x : FR) (w : Wd) : Prop where
  n : Nums x w.gs
  len : w.ats.length = w.gs.length
  sz : w.gs.length ≤ w.text.size
  at0 : ∀ j, j < w.gs.length → 0 ≤ w.ats.getD j default ∧ w.ats.getD j default + x.w (w.gs.getD j default) ≤ w.wide
  wide : 0 ≤ w.wide ∧ w.wide ≤ 24 * w.text.size + 24
structure Wd.ok (x : FR) (w : Wd) : Prop where
  g : RV 1 rI w.gv w.gs
  a : RV 1 rI w.av w.ats
  fg : Fz w.gv
  fa : Fz w.av
  n : Nums x w.gs
  len : w.ats.length = w.gs.length
  sz : w.gs.length ≤ w.text.size
  at0 : ∀ j, j < w.gs.length → 0 ≤ w.ats.getD j default ∧ w.ats.getD j default + x.w (w.gs.getD j default) ≤ w.wide
  wide : 0 ≤ w.wide ∧ w.wide ≤ 24 * w.text.size + 24
theorem s49o {σ : AHeap} (x : FR) (hx : x.rd) (hok : x.ok) {a b N : Nat} (hS : Stt x a b N σ) {text : ByteArray} (ht : text.size ≤ 100000) {Q : AOut → AHeap → Prop}
    (hQ : ∀ (w : Wd) s, w.text = text → Ext σ s → OwnS s σ.next 1 rI w.gv w.gs → OwnS s σ.next 1 rI w.av w.ats → w.pre x → Q (.ret (.agg w.row)) s) (hX : ∀ e s, Ext σ s → Q (.panic (.iface 37 (.int .i64 e))) s) :
    RunV Tryz.prog (.func (.func 49) [] []) [.ptr N 0 0, .str text] σ Q := by
  refine RunV.func mixed k49 (by simp) ?_
  simp (disch := omega) only [c49, ↓CTL, ↓DRW, ↓STR, VAL, DRV, MAP, FILL, Nat.reduceBEq, Nat.reduceAdd]
  refine (s74o x (hS.ext ((Ext.refl _).alloc _)) ht).mono fun o s1 hz => ?_
  obtain ⟨v, l, c, rfl, hE1, hO1, hl, hn⟩ := hz
  have r0 := hE1.2 σ.next (by simp only [VAL]; omega)
  rw [objs_new rfl] at r0
  have hE1' : Ext σ s1 := Ext.trans (Ext.alloc (Ext.refl _) _) hE1
  have hn1 := hE1.1
  simp only [AHeap.next_alloc] at hn1 hO1
  simp (disch := omega) only [↓CTL, ↓DRW, ↓STR, VAL, DRV, MAP, FILL, Nat.reduceBEq, Nat.reduceAdd]
  refine s48b (fun hc => ?_) (fun _ => ?_)
  case refine_2 =>
    simp (disch := omega) only [↓CTL, ↓DRW, ↓STR, VAL, DRV, PAN, MAP, FILL, Nat.reduceBEq, Nat.reduceAdd]
    exact hX _ _ hE1'
  have hv : ∀ s, Ext s1 s → TV s 1 rI v l := fun s hE => (hO1.ext hE).tv
  have hvS := (hv s1 (.refl _)).S
  have hvo := hO1.one
  simp (disch := omega) only [↓CTL, ↓DRW, ↓STR, VAL, DRV, MAP, FILL, Nat.reduceBEq, Nat.reduceAdd, hvS]
  have hgn := hok.gn
  have hbn : b ≤ σ.next := by obtain ⟨M1, M2, g1, n1, g2, n2, h1, h2, h3, h4, h5, h6, e1, e2, h7, h8, h9, h10, h11, h12⟩ := hS.h; exact h7
  refine A_loopV (α := Nat × Int × AVal × List Int × Int) m49_0 (fun y => [(24, .int .i64 y.1), (8, .int .i64 y.2.1)]) (fun y s => y.1 ≤ l.length ∧ 0 ≤ y.2.1 ∧ y.2.1 ≤ 24 * y.1 ∧ Ext s1 s ∧ s1.next + 1 ≤ s.next ∧ s.objs s1.next = some (.cells 4 [[.str text, v, y.2.2.1, .int .i64 y.2.2.2.2]]) ∧ s.objs σ.next = some (.cells 4 [[.str .empty, .nilS, .nilS, .int .i64 0]]) ∧
      OwnS s (s1.next + 1) 1 rI y.2.2.1 y.2.2.2.1 ∧ y.2.2.2.1.length = y.1 ∧ (∀ j, j < y.1 → 0 ≤ y.2.2.2.1.getD j default ∧ y.2.2.2.1.getD j default + x.w (l.getD j default) ≤ y.2.2.2.2) ∧ 0 ≤ y.2.2.2.2 ∧ y.2.2.2.2 ≤ 24 * y.1 + 24) (fun y => l.length - y.1) rfl (fun _ => rfl)
    ⟨(0, 0, .nilS, [], 0), ?_, Nat.zero_le _, by simp, by simp, (by repeat first | assumption | exact Ext.refl _ | refine Ext.alloc ?_ _ | refine Ext.set ?_ (by first | omega | (simp only [VAL]; omega)) _), by simp only [VAL]; omega, by simp (disch := omega) only [VAL], by simp (disch := omega) only [VAL, r0], .nil, rfl, by simp, by simp, by simp⟩ ?_
  · simp only [↓CTL, VAL, Nat.reduceBEq]
    rfl
  · rintro ⟨i, xx, av, al, wd⟩ f s ⟨hi, hx0, hx1, hE, hnx, h1, h2, hO, hal, hat, hw0, hw1⟩
    dsimp only at hi hx0 hx1 h1 hO hal hat hw0 hw1 ⊢
    simp (disch := omega) only [↓CTL, ↓DRW, ↓STR, VAL, DRV, MAP, FILL, Nat.reduceBEq, Nat.reduceAdd, m49_0]
    refine B_if (fun hlt => ?_) (fun hge => ?_)
    · have hSt := hS.ext (hE1'.trans hE)
      have hvS := (hv s hE).S
      have hs1 := hE.1
      obtain ⟨M1, M2, g1, n1, g2, n2, q1, q2, q3, q4, q5, q6, e1, e2, q7, q8, q9, q10, q11, q12⟩ := hSt.h
      rw [FR.row_eq] at q8
      have hgS := hx.g.S
      have hg := hn _ (getD_mem (l := l) (j := i) (by omega))
      have hat' : ∀ xx2, 0 ≤ xx2 → ∀ j, j < i + 1 → 0 ≤ (al ++ [xx2]).getD j default ∧ (al ++ [xx2]).getD j default + x.w (l.getD j default) ≤ max wd (xx2 + x.w (l.getD i default)) := fun xx2 h0 j hj => by
        by_cases hji : j < i
        · have := hat j hji
          rw [List.getD_eq_getElem?_getD, List.getElem?_append_left (by omega), ← List.getD_eq_getElem?_getD]
          omega
        · have : j = i := by omega
          subst this
          rw [List.getD_eq_getElem?_getD, List.getElem?_append_right (by omega), hal]
          simp
          omega
      simp (disch := omega) only [↓CTL, ↓DRW, ↓STR, VAL, DRV, MAP, FILL, Nat.reduceBEq, Nat.reduceAdd, m49_0, hvS, rI_eq, Int.toNat_natCast]
      generalize hgi : l.getD i default = g at hg hat'
      obtain ⟨w1, w2, -⟩ := hok.g g.toNat (by omega)
      refine B_if (fun hi0 => ?_) (fun hi0 => ?_)
      · have hp := hn _ (getD_mem (l := l) (j := i - 1) (by omega))
        have hpe : ((i : Int) - 1).toNat = i - 1 := by omega
        simp (disch := omega) only [↓CTL, ↓DRW, ↓STR, VAL, DRV, MAP, FILL, Nat.reduceBEq, Nat.reduceAdd, m49_0]
        refine dr_go [] [] ?_ ?_; · decide
        simp (disch := omega) only [↓CTL, ↓DRW, ↓STR, VAL, DRV, MAP, FILL, Nat.reduceBEq, Nat.reduceAdd, m49_0, hvS, rI_eq, hpe]
        generalize hgp : l.getD (i - 1) default = gp at hp
        obtain ⟨v1, v2, -⟩ := hok.g gp.toNat (by omega)
        have hkn : 1 ≤ (x.gl.getD gp.toNat default).wide + (g2 (.tup [.int gp, .int g])).getD 0 ∧ (x.gl.getD gp.toNat default).wide + (g2 (.tup [.int gp, .int g])).getD 0 ≤ 24 ∧ -12 ≤ (g2 (.tup [.int gp, .int g])).getD 0 := by
          cases hc : g2 (.tup [.int gp, .int g]) with
          | none => simp only [Option.getD_none]; omega
          | some v =>
            obtain ⟨z1, z2, z3⟩ := q12 gp g v hc
            have := z3 hp.1 hp.2
            simp only [Option.getD_some]; omega
        simp (disch := omega) only [↓CTL, ↓DRW, ↓STR, VAL, DRV, MAP, FILL, Nat.reduceBEq, Nat.reduceAdd, m49_0, hvS, rI_eq, hpe, hgp, q8, q10, hgS, Gl.row_eq]
        generalize hxx : xx + ((x.gl.getD gp.toNat default).wide + (g2 (.tup [.int gp, .int g])).getD 0) = xx2
        have hy : 0 ≤ xx2 ∧ xx2 ≤ 24 * i + 24 := by omega
        clear hxx hkn hgp hp hpe hx0 hx1
        obtain ⟨av', t, ha, o1, o2, o3, o4⟩ := hO.lit (x := xx2) (bytes := 8) (ex := true) (row := [.int .i64 xx2]) rfl (by omega) (sumLen_ok (by omega) (by omega))
        have k1 := (o3 s1.next (by omega) (hO.off_old (by omega))).trans h1
        have k2 := (o3 σ.next (by omega) (hO.off_old (by omega))).trans h2
        have k3 := (o3 N (by omega) (hO.off_old (by omega))).trans q8
        have ao := hO.one
        have ao' := o1.one
        have vo := hvo
        simp (disch := omega) only [↓CTL, ↓DRW, ↓STR, VAL, DRV, MAP, FILL, Nat.reduceBEq, Nat.reduceAdd, m49_0, h1, ha, k1, ao, ao', vo]
        refine dr_go [] [] ?_ ?_; · decide
        simp (disch := omega) only [↓CTL, ↓DRW, ↓STR, VAL, DRV, MAP, FILL, Nat.reduceBEq, Nat.reduceAdd, m49_0, k3, ao', vo, hgS, Gl.row_eq]
        refine ⟨(i + 1, xx2, av', al ++ [xx2], max wd (xx2 + (x.gl.getD g.toNat default).wide)), ⟨rfl, rfl⟩, ⟨by dsimp only; omega, hy.1, by dsimp only; omega, (hO.appE (by omega) hE o2 o3).set (by omega) _, by omega, rfl, k2, o1.set (o1.off_old (by omega)) _, by simp; omega, hat' _ hy.1, by dsimp only; omega, by dsimp only; omega⟩, by dsimp only; omega⟩
      · simp (disch := omega) only [↓CTL, ↓DRW, ↓STR, VAL, DRV, MAP, FILL, Nat.reduceBEq, Nat.reduceAdd, m49_0]
        generalize hxx : xx = xx2 at hx0 hx1
        have hy : 0 ≤ xx2 ∧ xx2 ≤ 24 * i + 24 := by omega
        obtain ⟨av', t, ha, o1, o2, o3, o4⟩ := hO.lit (x := xx2) (bytes := 8) (ex := true) (row := [.int .i64 xx2]) rfl (by omega) (sumLen_ok (by omega) (by omega))
        have k1 := (o3 s1.next (by omega) (hO.off_old (by omega))).trans h1
        have k2 := (o3 σ.next (by omega) (hO.off_old (by omega))).trans h2
        have k3 := (o3 N (by omega) (hO.off_old (by omega))).trans q8
        have ao := hO.one
        have ao' := o1.one
        have vo := hvo
        simp (disch := omega) only [↓CTL, ↓DRW, ↓STR, VAL, DRV, MAP, FILL, Nat.reduceBEq, Nat.reduceAdd, m49_0, h1, ha, k1, ao, ao', vo]
        refine dr_go [] [] ?_ ?_; · decide
        simp (disch := omega) only [↓CTL, ↓DRW, ↓STR, VAL, DRV, MAP, FILL, Nat.reduceBEq, Nat.reduceAdd, m49_0, k3, ao', vo, hgS, Gl.row_eq]
        refine ⟨(i + 1, xx2, av', al ++ [xx2], max wd (xx2 + (x.gl.getD g.toNat default).wide)), ⟨rfl, rfl⟩, ⟨by dsimp only; omega, hy.1, by dsimp only; omega, (hO.appE (by omega) hE o2 o3).set (by omega) _, by omega, rfl, k2, o1.set (o1.off_old (by omega)) _, by simp; omega, hat' _ hy.1, by dsimp only; omega, by dsimp only; omega⟩, by dsimp only; omega⟩
    · have hs1 := hE.1
      simp (disch := omega) only [↓CTL, ↓DRW, ↓STR, VAL, DRV, MAP, FILL, Nat.reduceBEq, Nat.reduceAdd, m49_0, h1, h2, hO.one, hvo]
      refine hQ ⟨text, v, av, wd, l, al⟩ _ rfl ((hE1'.trans hE).set (Nat.le_refl _) _) (((hO1.ext hE).set (hO1.off_old (by omega)) _).weak (by omega)) ((hO.set (hO.off_old (by omega)) _).weak (by omega)) ⟨hn, by dsimp only; omega, hl, fun j hj => hat j (by dsimp only at hj; omega), by dsimp only; omega⟩
theorem s49 {σ : AHeap} (x : FR) (hx : x.rd) (hok : x.ok) {a b N : Nat} (hS : Stt x a b N σ) {text : ByteArray} (ht : text.size ≤ 100000) {Q : AOut → AHeap → Prop}
    (hQ : ∀ w : Wd, w.text = text → w.ok x → Q (.ret (.agg w.row)) σ) (hX : ∀ e s, Ext σ s → Q (.panic (.iface 37 (.int .i64 e))) s) :
    RunV Tryz.prog (.func (.func 49) [] []) [.ptr N 0 0, .str text] σ Q := by
  refine RunV.pureX (s49o x hx hok hS ht (fun w s hw hE h1 h2 h3 => ?_) fun e s hE => .inr ⟨_, rfl, hX e s hE⟩)
  obtain ⟨v1, z1, z2, z3⟩ := h1.frz (n := σ.next) rI_scal (Nat.le_refl _)
  obtain ⟨v2, y1, y2, y3⟩ := h2.frz (n := σ.next) rI_scal (Nat.le_refl _)
  exact .inl ⟨_, _, rfl, FrzL.agg (.cons (.str _) (.cons z1 (.cons y1 (.cons (.int _ _) .nil)))), fun M o hM ho => (hE.2 M hM).trans ho, hQ ⟨w.text, v1, v2, w.wide, w.gs, w.ats⟩ hw ⟨z2, y2, z3, y3, h3.n, h3.len, h3.sz, h3.at0, h3.wide⟩⟩
end Go.Proofs.YtkfahdbjndihfacGreatDoor
namespace Go.Proofs.YtkfahdbjndihfacGreatDoor
open Go.Tc Go.RowKit Go.Lib
set_option linter.unusedSimpArgs false
set_option linter.unusedVariables false
set_option maxHeartbeats 1000000 in
set_option maxRecDepth 100000 in
theorem w104 (s : ByteArray) (c : Int) (w : World) : Calls Tryz.prog 104 #[.string s, .int .u8 c] w fun e w' => e = .returned (.int .i64 (Lib.indexByte s.data.toList c.toNat.toUInt8)) ∧ w' = w := by
  go_enter Tryz.func104, Tryz.ntmps104
  go_wp2
  rw [run_callFunc_extern Tryz.func108 (by kernel_rfl) (by kernel_rfl) (by kernel_rfl) (e := Extern.BytealgIndexByte.indexByte) (by kernel_rfl), Lib.run_indexByteString]
  simp only [Result.andThen]
  rw [Oper.upon_value]
  go_wp2
  go_ret
  exact ⟨rfl, rfl⟩
set_option maxHeartbeats 2000000 in
set_option maxRecDepth 100000 in
theorem w102 (s : ByteArray) (c : UInt8) (w : World) : Calls Tryz.prog 102 #[.string s, .string ⟨#[c]⟩] w fun e w' => e = .returned (.int .i64 (Lib.indexByte s.data.toList c)) ∧ w' = w := by
  go_enter Tryz.func102, Tryz.ntmps102
  go_wp2_with (go_at_call 104; refine (w104 _ _ _).mono ?_; rintro e w' ⟨rfl, rfl⟩)
  · have h : ([c] == s.toList) = true := by assumption
    go_ret
    refine ⟨?_, rfl⟩
    have e : s.data.toList = [c] := by rw [← Lib.toList_data]; exact (beq_iff_eq.1 h).symm
    rw [e]
    simp [Lib.indexByte]
  · go_ret
    exact ⟨rfl, rfl⟩
set_option maxHeartbeats 1000000 in
set_option maxRecDepth 100000 in
theorem w98 (s : ByteArray) (c : UInt8) (w : World) : Calls Tryz.prog 98 #[.string s, .string ⟨#[c]⟩] w fun e w' => e = .returned (.int .i64 (Lib.indexByte s.data.toList c)) ∧ w' = w := by
  go_enter Tryz.func98, Tryz.ntmps98
  go_wp2_with (go_at_call 102; refine (w102 _ _ _).mono ?_; rintro e w' ⟨rfl, rfl⟩)
  go_ret
  exact ⟨rfl, rfl⟩
set_option maxHeartbeats 1000000 in
set_option maxRecDepth 100000 in
theorem w97 (s : ByteArray) (c : UInt8) (w : World) : Calls Tryz.prog 97 #[.string s, .string ⟨#[c]⟩] w fun e w' => e = .returned (.int .i64 (Lib.countByte s.data.toList c)) ∧ w' = w := by
  go_enter Tryz.func97, Tryz.ntmps97
  go_wp2
  rw [run_callFunc_extern Tryz.func101 (by kernel_rfl) (by kernel_rfl) (by kernel_rfl) (e := Extern.BytealgCount.count) (by kernel_rfl), Lib.run_countString]
  simp only [Result.andThen]
  rw [Oper.upon_value]
  go_wp2
  go_ret
  exact ⟨rfl, rfl⟩
end Go.Proofs.YtkfahdbjndihfacGreatDoor
namespace Go.Proofs.YtkfahdbjndihfacGreatDoor
open Go.Tc
set_option linter.unusedSimpArgs false
set_option linter.unusedVariables false
set_option maxRecDepth 20000
set_option maxHeartbeats 4000000
def rS (s : ByteArray) : List AVal := [.str s]
theorem rS_eq {s : ByteArray} : rS s = [.str s] := id rfl
theorem store_rS {l : List ByteArray} {i : Nat} {x : ByteArray} (h : i < l.length) : storeO (some (.cells 1 (l.map rS))) 1 i 0 (.str x) = some (.cells 1 ((l.set i x).map rS)) := storeO_map x h rfl rfl (fun _ => rfl) rfl
theorem rep_rS {n : Nat} {s : ByteArray} : List.replicate n [AVal.str s] = (List.replicate n s).map rS := by rw [List.map_replicate]; rfl
theorem sl_ms_hi {m N n : Nat} {ex : Bool} {k : IntKind} {b : Int} (h0 : 0 ≤ b) (h1 : b ≤ n) : ∃ ex', sliceA m (.ms m N 0 n ex) none (some (.int k b)) none = some (.ms m N 0 b.toNat ex') := by
  simp only [sliceA, if_true, bound_in h0 h1, show bound none 0 b.toNat = some 0 from rfl, Option.bind_some, Option.map_some, Nat.zero_mul, Nat.add_zero, Nat.sub_zero]
  exact ⟨_, rfl⟩
theorem indexB_lt : ∀ (l : List UInt8) (c : UInt8), Lib.indexByte l c < l.length ∧ -1 ≤ Lib.indexByte l c := by
  intro l c
  refine ⟨?_, Lib.indexByte_ge l c⟩
  induction l with
  | nil => simp [Lib.indexByte]
  | cons x l ih =>
    unfold Lib.indexByte
    repeat' split
    all_goals simp
    all_goals omega
theorem s97 {σ : AHeap} {s : ByteArray} {c : UInt8} {Q : AOut → AHeap → Prop} (hQ : ∀ n : Nat, n ≤ s.size → Q (.ret (.int .i64 n)) σ) : RunV Tryz.prog (.func (.func 97) [] []) [.str s, .str ⟨#[c]⟩] σ Q :=
  RunV.ofCalls (by kernel_rfl) strs2 (fun _ _ _ => .int _ _) (w97 s c) (hQ _ (List.count_le_length))
theorem s98 {σ : AHeap} {s : ByteArray} {c : UInt8} {Q : AOut → AHeap → Prop} (hQ : ∀ n : Int, -1 ≤ n → n < s.size → Q (.ret (.int .i64 n)) σ) : RunV Tryz.prog (.func (.func 98) [] []) [.str s, .str ⟨#[c]⟩] σ Q :=
  RunV.ofCalls (by kernel_rfl) strs2 (fun _ _ _ => .int _ _) (w98 s c) (hQ _ (indexB_lt _ _).2 (indexB_lt _ _).1)
theorem size_cut {s : ByteArray} {a b : Nat} : (s.extract a b).size ≤ s.size := by
  rw [ByteArray.size_extract]; omega
theorem size_one {c : UInt8} : (⟨#[c]⟩ : ByteArray).size = 1 := rfl
theorem one_ne : ((⟨#[32]⟩ : ByteArray).toList == (ByteArray.empty).toList) = false := by decide +kernel
theorem s94 {σ : AHeap} {s : ByteArray} (hs : s.size ≤ 100000) {Q : AOut → AHeap → Prop} (hQ : ∀ v l, RV 1 rS v l → 1 ≤ l.length → l.length ≤ s.size + 1 → (∀ p ∈ l, p.size ≤ s.size) → Q (.ret v) σ) :
    RunV Tryz.prog (.func (.func 94) [] []) [.str s, .str ⟨#[32]⟩, .int .i64 0, .int .i64 (-1)] σ Q := by
  refine RunV.pure (RunV.func mixed k94 (by simp) ?_)
  simp (disch := omega) only [c94, ↓CTL, ↓DRW, ↓STR, VAL, DRV, Nat.reduceBEq, Nat.reduceAdd]
  rw [one_ne]
  simp (disch := omega) only [↓CTL, ↓DRW, ↓STR, VAL, DRV, Nat.reduceBEq, Nat.reduceAdd]
  refine s97 fun n hn => ?_
  simp (disch := omega) only [↓CTL, ↓DRW, ↓STR, VAL, DRV, Nat.reduceBEq, Nat.reduceAdd]
  have hm : min ((n : Int) + 1) (s.size + 1) = ((n + 1 : Nat) : Int) := by omega
  rw [hm]
  have e1 : ((n + 1 : Nat) : Int).toNat = n + 1 := by omega
  simp only [e1, rep_rS, beq_self_eq_true]
  refine A_loopV (α := Nat × ByteArray × List ByteArray) m94_0 (fun x => [(10, .int .i64 x.1), (0, .str x.2.1)]) (fun x t => x.1 ≤ n ∧ x.2.1.size ≤ s.size ∧ x.2.2.length = n + 1 ∧ (∀ p ∈ x.2.2, p.size ≤ s.size) ∧ t = σ.alloc (.cells 1 (x.2.2.map rS))) (fun x => n - x.1) rfl (fun _ => rfl)
    ⟨(0, s, List.replicate (n + 1) ByteArray.empty), ?_, Nat.zero_le _, Nat.le_refl _, by simp, fun p hp => by rw [List.eq_of_mem_replicate hp]; exact Nat.zero_le _, rfl⟩ ?_
  · simp only [↓CTL, VAL, Nat.reduceBEq]; try rfl
  · rintro ⟨i, s', l⟩ f t ⟨hi, hs1, hl, hp1, rfl⟩
    dsimp only at hi hs1 hl hp1 ⊢
    simp (disch := omega) only [↓CTL, ↓DRW, ↓STR, VAL, DRV, Nat.reduceBEq, Nat.reduceAdd, m94_0]
    refine B_if (fun hlt => ?_) (fun hge => ?_)
    · simp (disch := omega) only [↓CTL, ↓DRW, ↓STR, VAL, DRV, Nat.reduceBEq, Nat.reduceAdd, m94_0]
      refine s98 fun m hm0 hm1 => ?_
      simp (disch := omega) only [↓CTL, ↓DRW, ↓STR, VAL, DRV, Nat.reduceBEq, Nat.reduceAdd, m94_0]
      refine B_if (fun hn0 => ?_) (fun hn1 => ?_)
      · simp (disch := omega) only [↓CTL, ↓DRW, ↓STR, VAL, DRV, Nat.reduceBEq, Nat.reduceAdd, m94_0]
        · obtain ⟨ex', hsl⟩ := sl_ms_hi (m := 1) (N := σ.next) (n := n + 1) (ex := true) (k := .i64) (b := (i : Int) + 1) (by omega) (by omega)
          simp (disch := omega) only [↓CTL, ↓DRW, ↓STR, VAL, DRV, Nat.reduceBEq, Nat.reduceAdd, m94_0, store_rS, Int.toNat_natCast, Nat.zero_add, hsl]
          refine ⟨_, _, rfl, frz_rows (σ := σ.alloc (.cells 1 ((l.set i s').map rS))) (Nat.le_refl _) (objs_new rfl) (fun row hr v hv => ?_), fun M o hM ho => (objs_old (by omega)).trans ho, hQ _ (((l.set i s').drop 0).take ((i : Int) + 1).toNat) (RV.rs (by simp; omega) rfl) (by simp; omega) (by simp; omega) (fun p hp => ?_)⟩
          · obtain ⟨x, _, rfl⟩ := List.mem_map.1 hr
            simp only [rS, List.mem_singleton] at hv
            subst hv
            exact ⟨rfl, rfl⟩
          · have := List.mem_of_mem_take hp
            rw [List.drop_zero] at this
            rcases List.mem_or_eq_of_mem_set this with h | rfl
            · exact hp1 p h
            · exact hs1
      · simp (disch := omega) only [↓CTL, ↓DRW, ↓STR, VAL, DRV, Nat.reduceBEq, Nat.reduceAdd, m94_0, store_rS, Int.toNat_natCast, Nat.zero_add, size_one]
        refine ⟨(i + 1, s'.extract (m + ((1 : Nat) : Int)).toNat s'.size, l.set i (s'.extract 0 (m + 0).toNat)), ⟨rfl, rfl⟩, ⟨by dsimp only; omega, ?_, by simp; omega, fun p hp => ?_, rfl⟩, by dsimp only; omega⟩
        · dsimp only; exact Nat.le_trans size_cut hs1
        · rcases List.mem_or_eq_of_mem_set hp with h | rfl
          · exact hp1 p h
          · exact Nat.le_trans size_cut hs1
    · simp (disch := omega) only [↓CTL, ↓DRW, ↓STR, VAL, DRV, Nat.reduceBEq, Nat.reduceAdd, m94_0]
      · · obtain ⟨ex', hsl⟩ := sl_ms_hi (m := 1) (N := σ.next) (n := n + 1) (ex := true) (k := .i64) (b := (i : Int) + 1) (by omega) (by omega)
          simp (disch := omega) only [↓CTL, ↓DRW, ↓STR, VAL, DRV, Nat.reduceBEq, Nat.reduceAdd, m94_0, store_rS, Int.toNat_natCast, Nat.zero_add, hsl]
          refine ⟨_, _, rfl, frz_rows (σ := σ.alloc (.cells 1 ((l.set i s').map rS))) (Nat.le_refl _) (objs_new rfl) (fun row hr v hv => ?_), fun M o hM ho => (objs_old (by omega)).trans ho, hQ _ (((l.set i s').drop 0).take ((i : Int) + 1).toNat) (RV.rs (by simp; omega) rfl) (by simp; omega) (by simp; omega) (fun p hp => ?_)⟩
          · obtain ⟨x, _, rfl⟩ := List.mem_map.1 hr
            simp only [rS, List.mem_singleton] at hv
            subst hv
            exact ⟨rfl, rfl⟩
          · have := List.mem_of_mem_take hp
            rw [List.drop_zero] at this
            rcases List.mem_or_eq_of_mem_set this with h | rfl
            · exact hp1 p h
            · exact hs1
theorem s87 {σ : AHeap} {s : ByteArray} (hs : s.size ≤ 100000) {Q : AOut → AHeap → Prop} (hQ : ∀ v l, RV 1 rS v l → 1 ≤ l.length → l.length ≤ s.size + 1 → (∀ p ∈ l, p.size ≤ s.size) → Q (.ret v) σ) :
    RunV Tryz.prog (.func (.func 87) [] []) [.str s, .str ⟨#[32]⟩] σ Q := by
  refine RunV.func mixed k87 (by simp) ?_
  simp (disch := omega) only [c87, ↓CTL, ↓DRW, ↓STR, VAL, DRV, Nat.reduceBEq, Nat.reduceAdd]
  refine s94 hs fun v l h1 h2 h3 h4 => ?_
  simp (disch := omega) only [↓CTL, ↓DRW, ↓STR, VAL, DRV, Nat.reduceBEq, Nat.reduceAdd]
  exact hQ v l h1 h2 h3 h4
theorem s89 {σ : AHeap} {s : ByteArray} : RunV Tryz.prog (.func (.func 89) [] []) [.str s] σ (fun o t => o = .ret (.bool (decide (24 < (s.size : Int)))) ∧ t = σ) := by
  refine RunV.func mixed k89 (by simp) ?_
  simp (disch := omega) only [c89, ↓CTL, ↓DRW, ↓STR, VAL, DRV, Nat.reduceBEq, Nat.reduceAdd]
theorem s75 {σ : AHeap} (x : FR) (hx : x.rd) (hok : x.ok) (hr : x.rok) {a b N : Nat} (hS : Stt x a b N σ) {text : ByteArray} {Q : AOut → AHeap → Prop}
    (hQ : ∀ v ws, RV 4 Wd.row v ws → ws.length ≤ 40 → (∀ w ∈ ws, w.ok x ∧ w.text.size ≤ 24 ∧ w.wide ≤ x.ms) → Q (.ret v) σ) (hX : ∀ e s, Ext σ s → Q (.panic (.iface 37 (.int .i64 e))) s) :
    RunV Tryz.prog (.func (.func 75) [] []) [.ptr N 0 0, .str text] σ Q := by
  refine RunV.pureX (RunV.func mixed k75 (by simp) ?_)
  simp (disch := omega) only [c75, ↓CTL, ↓DRW, ↓STR, VAL, DRV, Nat.reduceBEq, Nat.reduceAdd]
  refine s48 (fun hl => ?_) (fun _ => ?_)
  case refine_2 =>
    simp (disch := omega) only [↓CTL, ↓DRW, ↓STR, VAL, DRV, PAN, Nat.reduceBEq, Nat.reduceAdd]
    exact .inr ⟨_, rfl, hX _ _ (.refl _)⟩
  simp (disch := omega) only [↓CTL, ↓DRW, ↓STR, VAL, DRV, Nat.reduceBEq, Nat.reduceAdd]
  refine s87 (by omega) fun pv pl hp hp1 hp2 hp3 => ?_
  have hpS := hp.S
  simp (disch := omega) only [↓CTL, ↓DRW, ↓STR, VAL, DRV, Nat.reduceBEq, Nat.reduceAdd]
  refine containsFunc_any mixed k88 k95 (hp _) (by omega) (fun x => .str x) (fun x => rfl) (fun x _ => s42 fun b => ⟨b, rfl, rfl⟩) fun b => ?_
  simp (disch := omega) only [↓CTL, ↓DRW, ↓STR, VAL, DRV, Nat.reduceBEq, Nat.reduceAdd]
  refine s48b (fun hc => ?_) (fun _ => ?_)
  case refine_2 =>
    simp (disch := omega) only [↓CTL, ↓DRW, ↓STR, VAL, DRV, PAN, Nat.reduceBEq, Nat.reduceAdd]
    exact .inr ⟨_, rfl, hX _ _ (.refl _)⟩
  simp (disch := omega) only [↓CTL, ↓DRW, ↓STR, VAL, DRV, Nat.reduceBEq, Nat.reduceAdd, hpS]
  refine G_true (fun h40 => ?_) (fun _ => ?_)
  case refine_2 =>
    simp (disch := omega) only [↓CTL, ↓DRW, ↓STR, VAL, DRV, PAN, Nat.reduceBEq, Nat.reduceAdd]
    refine s48b (fun h => absurd h (by decide)) (fun _ => ?_)
    simp (disch := omega) only [↓CTL, ↓DRW, ↓STR, VAL, DRV, PAN, Nat.reduceBEq, Nat.reduceAdd]
    exact .inr ⟨_, rfl, hX _ _ (.refl _)⟩
  simp (disch := omega) only [↓CTL, ↓DRW, ↓STR, VAL, DRV, Nat.reduceBEq, Nat.reduceAdd, hpS]
  refine containsFunc_spec mixed k88 k95 (hp _) (by omega) (fun x => .str x) (fun x => rfl) (fun x => decide (24 < (x.size : Int))) (fun x _ => s89) ?_
  simp (disch := omega) only [↓CTL, ↓DRW, ↓STR, VAL, DRV, Nat.reduceBEq, Nat.reduceAdd]
  refine s48b (fun hc => ?_) (fun _ => ?_)
  case refine_2 =>
    simp (disch := omega) only [↓CTL, ↓DRW, ↓STR, VAL, DRV, PAN, Nat.reduceBEq, Nat.reduceAdd]
    exact .inr ⟨_, rfl, hX _ _ (.refl _)⟩
  have h24 : ∀ p ∈ pl, p.size ≤ 24 := fun p hp => by
    simp only [Bool.not_eq_true', List.any_eq_false] at hc
    have := hc p hp
    simp at this
    omega
  simp (disch := omega) only [↓CTL, ↓DRW, ↓STR, VAL, DRV, Nat.reduceBEq, Nat.reduceAdd, hpS]
  refine A_loopV (α := Nat × AVal × List Wd) m75_0 (fun x => [(30, .int .i64 x.1), (4, x.2.1)]) (fun y s => y.1 ≤ pl.length ∧ Ext σ s ∧ OwnS s σ.next 4 Wd.row y.2.1 y.2.2 ∧ y.2.2.length = y.1 ∧ ∀ w ∈ y.2.2, w.ok x ∧ w.text.size ≤ 24 ∧ w.wide ≤ x.ms) (fun y => pl.length - y.1) rfl (fun _ => rfl)
    ⟨(0, .nilS, []), ?_, Nat.zero_le _, .refl _, .nil, rfl, by simp⟩ ?_
  · simp only [↓CTL, VAL, Nat.reduceBEq]; try first | rfl | exact ⟨rfl, rfl⟩
  · rintro ⟨i, wv, ws⟩ f s ⟨hi, hE, hO, hwl, hw⟩
    dsimp only at hi hO hwl hw ⊢
    simp (disch := omega) only [↓CTL, ↓DRW, ↓STR, VAL, DRV, Nat.reduceBEq, Nat.reduceAdd, m75_0]
    refine B_if (fun hlt => ?_) (fun hge => ?_)
    · have hpi := h24 _ (getD_mem (l := pl) (j := i) (by omega))
      simp (disch := omega) only [↓CTL, ↓DRW, ↓STR, VAL, DRV, Nat.reduceBEq, Nat.reduceAdd, m75_0, hpS, rS_eq, Int.toNat_natCast]
      generalize hgi : pl.getD i default = p at hpi
      have hSt := hS.ext hE
      obtain ⟨M1, M2, g1, n1, g2, n2, q1, q2, q3, q4, q5, q6, e1, e2, q7, q8, q9, q10, q11, q12⟩ := hSt.h
      rw [FR.row_eq] at q8
      refine s49 x hx hok hSt (by omega) (fun w hwt hwo => ?_) (fun e t hE2 => ?_)
      · have o1 := (hwo.g s).one
        have o2 := (hwo.a s).one
        simp (disch := omega) only [↓CTL, ↓DRW, ↓STR, VAL, DRV, Nat.reduceBEq, Nat.reduceAdd, m75_0, Wd.row_eq, o1, o2]
        refine dr_go [] [] ?_ ?_; · decide
        simp (disch := omega) only [↓CTL, ↓DRW, ↓STR, VAL, DRV, Nat.reduceBEq, Nat.reduceAdd, m75_0, o1, o2, q8]
        refine s48 (fun hms => ?_) (fun _ => ?_)
        · obtain ⟨wv', t, ha, r1, r2, r3, r4⟩ := (hO.alloc (.cells 4 [[.str w.text, w.gv, w.av, .int .i64 w.wide]])).lit (x := w) (bytes := 72) (ex := true) (row := [.str w.text, w.gv, w.av, .int .i64 w.wide]) rfl (by simp only [VAL]; have := hE.1; omega) (sumLen_ok (by omega) (by omega))
          rw [AHeap.next_alloc] at ha r2
          simp (disch := omega) only [↓CTL, ↓DRW, ↓STR, VAL, DRV, FILL, PAN, Nat.reduceBEq, Nat.reduceAdd, m75_0, o1, o2, ha]
          refine ⟨(i + 1, wv', ws ++ [w]), ⟨rfl, rfl⟩, ⟨by dsimp only; omega, (hO.alloc _).appE (Nat.le_refl _) (hE.alloc _) r2 r3, r1, by simp; omega, fun w' hw' => ?_⟩, by dsimp only; omega⟩
          rcases List.mem_append.1 hw' with h | h
          · exact hw w' h
          · rw [List.mem_singleton] at h
            subst h
            exact ⟨hwo, by rw [hwt]; exact hpi, hms⟩
        · simp (disch := omega) only [↓CTL, ↓DRW, ↓STR, VAL, DRV, PAN, Nat.reduceBEq, Nat.reduceAdd]
          exact ⟨by decide, rfl, .inr ⟨_, rfl, hX _ _ (hE.alloc _)⟩⟩
      · simp (disch := omega) only [↓CTL, ↓DRW, ↓STR, VAL, DRV, PAN, Nat.reduceBEq, Nat.reduceAdd]
        exact .inr ⟨_, rfl, hX _ _ (hE.trans hE2)⟩
    · simp (disch := omega) only [↓CTL, ↓DRW, ↓STR, VAL, DRV, PAN, Nat.reduceBEq, Nat.reduceAdd, m75_0]
      have hfz : ∀ w ∈ ws, ∀ v ∈ w.row, Fz v ∧ v.one = true := fun w hw' v hv => by
        obtain ⟨k1, -⟩ := hw w hw'
        simp only [Wd.row, List.mem_cons, List.not_mem_nil, or_false] at hv
        rcases hv with rfl | rfl | rfl | rfl
        · exact ⟨.scal rfl, rfl⟩
        · exact ⟨k1.fg, (k1.g σ).one⟩
        · exact ⟨k1.fa, (k1.a σ).one⟩
        · exact ⟨.scal rfl, rfl⟩
      obtain ⟨v', z1, z2, z3⟩ := hO.frzR hfz (Nat.le_refl _)
      exact .inl ⟨_, _, rfl, z1, fun M o hM ho => (hE.2 M hM).trans ho, hQ v' ws z2 (by omega) hw⟩
end Go.Proofs.YtkfahdbjndihfacGreatDoor
namespace Go.Proofs.YtkfahdbjndihfacGreatDoor
open Go.Tc
set_option linter.unusedSimpArgs false
set_option linter.unusedVariables false
set_option maxRecDepth 20000
set_option maxHeartbeats 4000000
def sumW (x : FR) (ws : List Wd) : Int := (ws.map fun w => x.space + w.wide).sum
theorem sumW_app {x : FR} {ws : List Wd} {w : Wd} : sumW x (ws ++ [w]) = sumW x ws + (x.space + w.wide) := by
  simp [sumW, List.sum_append]
theorem sumW_bd {x : FR} (hs : 1 ≤ x.space ∧ x.space ≤ 20) : ∀ {ws : List Wd}, (∀ w ∈ ws, 0 ≤ w.wide ∧ w.wide ≤ 48) → 0 ≤ sumW x ws ∧ sumW x ws ≤ 68 * ws.length := by
  intro ws
  induction ws with
  | nil => intro _; simp [sumW]
  | cons w ws ih =>
    intro h
    have h1 := ih fun v hv => h v (by simp [hv])
    have h2 := h w (by simp)
    simp only [sumW, List.map_cons, List.sum_cons, List.length_cons] at h1 ⊢
    omega
theorem take_succ {α : Type} [Inhabited α] {l : List α} {i : Nat} (h : i < l.length) : l.take (i + 1) = l.take i ++ [l.getD i default] := by
  rw [List.take_add_one, List.getElem?_eq_getElem h]
  simp [h]
def lineW (x : FR) (ws : List Wd) (a b : Int) : Int := 0 - x.space + sumW x ((ws.drop a.toNat).take (b - a).toNat)
structure Wds (x : FR) (v : AVal) (ws : List Wd) : Prop where
  v : RV 4 Wd.row v ws
  n : ws.length ≤ 40
  w : ∀ w ∈ ws, w.ok x ∧ w.text.size ≤ 24 ∧ w.wide ≤ x.ms
theorem RV.sub {α : Type} [Inhabited α] {m : Nat} {f : α → List AVal} {v : AVal} {l : List α} (h : RV m f v l) {a b : Int} (h0 : 0 ≤ a) (h1 : a ≤ b) (h2 : b ≤ l.length) : RV m f (slV m v a b) ((l.drop a.toNat).take (b - a).toNat) := fun σ => (h σ).sub h0 h1 h2
theorem mem_sub {α : Type} {l : List α} {a b : Nat} {x : α} (h : x ∈ (l.drop a).take b) : x ∈ l := List.mem_of_mem_drop (List.mem_of_mem_take h)
theorem sq_bd {d : Int} (h0 : -3000 ≤ d) (h1 : d ≤ 3000) : 0 ≤ d * d ∧ d * d ≤ 9000000 := by
  by_cases h : 0 ≤ d
  · have := Int.mul_le_mul h1 h1 h (by omega)
    exact ⟨Int.mul_nonneg h h, by omega⟩
  · have h2 : d * d = (-d) * (-d) := (Int.neg_mul_neg d d).symm
    have h3 : (-d) * (-d) ≤ 3000 * 3000 := Int.mul_le_mul (by omega) (by omega) (by omega) (by omega)
    have h4 : 0 ≤ (-d) * (-d) := Int.mul_nonneg (by omega) (by omega)
    omega
theorem s59 {σ : AHeap} {x : FR} (hok : x.ok) (hr : x.rok) {ws : List Wd} {wv rv : AVal} (hw : Wds x wv ws) {N NS M1 M2 : Nat} (h1 : σ.objs NS = some (.cells 3 [[.ptr N 0 0, wv, rv]])) (h2 : σ.objs N = some (.cells 12 [x.row M1 M2]))
    (b1 : NS < σ.next) (b2 : N < σ.next) {a b : Int} (ha : 0 ≤ a) (hab : a < b) (hb : b ≤ ws.length) {Q : AOut → AHeap → Prop} (hQ : ∀ c : Int, 0 ≤ c → c ≤ 10000000 → Q (.ret (.agg [.int .i64 a, .int .i64 b, .int .i64 (lineW x ws a b), .int .i64 c])) σ) :
    RunV Tryz.prog (.func (.func 59) [] []) [.ptr NS 0 0, .int .i64 a, .int .i64 b] σ Q := by
  rw [FR.row_eq] at h2
  have hsp := hok.sp
  have hms := hr.ms
  have hn := hw.n
  have hwS := hw.v.S
  have hsub := RV.sub hw.v ha (by omega) hb
  have hsS := hsub.S
  have hlen : ((ws.drop a.toNat).take (b - a).toNat).length = (b - a).toNat := by simp; omega
  have hbd : ∀ w ∈ (ws.drop a.toNat).take (b - a).toNat, 0 ≤ w.wide ∧ w.wide ≤ 48 := fun w h => by
    obtain ⟨k1, k2, k3⟩ := hw.w w (mem_sub h)
    have := k1.wide
    omega
  refine RunV.drop (RunV.func mixed k59 (by simp) ?_)
  simp (disch := omega) only [c59, ↓CTL, ↓DRW, ↓STR, VAL, DRV, Nat.reduceBEq, Nat.reduceAdd, h1, h2, hwS, hsS]
  unfold lineW at hQ
  have hmem : ∀ w ∈ (ws.drop a.toNat).take (b - a).toNat, w ∈ ws := fun w h => mem_sub h
  generalize hL : (ws.drop a.toNat).take (b - a).toNat = L at hsub hsS hlen hbd hQ hmem
  rw [hlen] at hsS
  refine A_loopV (α := Nat) m59_0 (fun i => [(30, .int .i64 i)]) (fun i s => i ≤ L.length ∧ Ext σ s ∧ σ.next + 2 ≤ s.next ∧ s.objs (σ.next + 1) = some (.cells 4 [[.int .i64 a, .int .i64 b, .int .i64 (0 - x.space + sumW x (L.take i)), .int .i64 0]]) ∧ s.objs σ.next = some (.cells 4 [[.int .i64 0, .int .i64 0, .int .i64 0, .int .i64 0]])) (fun i => L.length - i) rfl (fun _ => rfl)
    ⟨0, ?_, Nat.zero_le _, ?_, by simp only [VAL]; omega, ?_, ?_⟩ ?_
  · simp only [↓CTL, VAL, Nat.reduceBEq]; try rfl
  · repeat first | exact Ext.refl _ | refine Ext.alloc ?_ _ | refine Ext.set ?_ (by first | omega | (simp only [VAL]; omega)) _
  · simp (disch := omega) only [VAL, List.take_zero, show sumW x [] = 0 from rfl, Int.add_zero]
  · simp (disch := omega) only [VAL]
  · rintro i f s ⟨hi, hE, hnx, g1, g2⟩
    have q1 := (hE.2 NS b1).trans h1
    have q2 := (hE.2 N b2).trans h2
    simp (disch := omega) only [↓CTL, ↓DRW, ↓STR, VAL, DRV, Nat.reduceBEq, Nat.reduceAdd, m59_0]
    refine B_if (fun hlt => ?_) (fun hge => ?_)
    · have hwi := hbd _ (getD_mem (l := L) (j := i) (by omega))
      have hoi := (hw.w (L.getD i default) (hmem _ (getD_mem (l := L) (j := i) (by omega)))).1
      have o1 := (hoi.g σ).one
      have o2 := (hoi.a σ).one
      have hs1 : sumW x (L.take (i + 1)) = sumW x (L.take i) + (x.space + (L.getD i default).wide) := by rw [take_succ (by omega), sumW_app]
      have hb1 := sumW_bd (x := x) hsp (ws := L.take i) fun w h => hbd w (List.mem_of_mem_take h)
      have hlt2 : (L.take i).length ≤ 40 := by simp; omega
      simp (disch := omega) only [↓CTL, ↓DRW, ↓STR, VAL, DRV, Nat.reduceBEq, Nat.reduceAdd, m59_0, hsS, Wd.row_eq, Int.toNat_natCast, o1, o2]
      refine dr_go [] [] ?_ ?_; · decide
      simp (disch := omega) only [↓CTL, ↓DRW, ↓STR, VAL, DRV, Nat.reduceBEq, Nat.reduceAdd, m59_0, q1, q2, g1]
      refine ⟨i + 1, rfl, ⟨by omega, (hE.set (by omega) _).alloc _, by omega, ?_, g2⟩, by omega⟩
      rw [hs1, Int.add_assoc]
    · have hi' : i = L.length := by omega
      subst hi'
      rw [List.take_length] at g1
      have hb1 := sumW_bd (x := x) hsp hbd
      have hex := hr.ex
      have hd := sq_bd (d := x.ms - (0 - x.space + sumW x L)) (by omega) (by omega)
      simp (disch := omega) only [↓CTL, ↓DRW, ↓STR, VAL, DRV, Nat.reduceBEq, Nat.reduceAdd, m59_0, q1, q2, g1, g2, hwS]
      refine B_if (fun he => ?_) (fun he => ?_)
      · simp (disch := omega) only [↓CTL, ↓DRW, ↓STR, VAL, DRV, Nat.reduceBEq, Nat.reduceAdd, m59_0, q1, q2, g1, g2, hwS]
        exact ⟨_, rfl, rfl, hE.set (Nat.le_refl _) _, hQ 0 (by omega) (by omega)⟩
      · simp (disch := omega) only [↓CTL, ↓DRW, ↓STR, VAL, DRV, Nat.reduceBEq, Nat.reduceAdd, m59_0, q1, q2, g1, g2, hwS]
        refine dr_go [] [] ?_ ?_; · decide
        simp (disch := omega) only [↓CTL, ↓DRW, ↓STR, VAL, DRV, Nat.reduceBEq, Nat.reduceAdd, m59_0, q1, q2, g1, g2, hwS]
        refine dr_go [] [] ?_ ?_; · decide
        simp (disch := omega) only [↓CTL, ↓DRW, ↓STR, VAL, DRV, Nat.reduceBEq, Nat.reduceAdd, m59_0, q1, q2, g1, g2, hwS, Wd.row_eq]
        refine B_if (fun hle => ?_) (fun hle => ?_)
        · simp (disch := omega) only [↓CTL, ↓DRW, ↓STR, VAL, DRV, Nat.reduceBEq, Nat.reduceAdd, m59_0, q1, q2, g1, g2, hwS]
          refine dr_go [] [] ?_ ?_; · decide
          simp (disch := omega) only [↓CTL, ↓DRW, ↓STR, VAL, DRV, Nat.reduceBEq, Nat.reduceAdd, m59_0, q1, q2, g1, g2, hwS]
          refine ⟨_, rfl, rfl, ?_, hQ _ (by omega) (by omega)⟩
          repeat first | exact hE | refine Ext.alloc ?_ _ | refine Ext.set ?_ (by first | omega | (simp only [VAL]; omega)) _
        · simp (disch := omega) only [↓CTL, ↓DRW, ↓STR, VAL, DRV, Nat.reduceBEq, Nat.reduceAdd, m59_0, q1, q2, g1, g2, hwS]
          refine ⟨_, rfl, rfl, ?_, hQ _ (by omega) (by omega)⟩
          repeat first | exact hE | refine Ext.alloc ?_ _ | refine Ext.set ?_ (by first | omega | (simp only [VAL]; omega)) _
end Go.Proofs.YtkfahdbjndihfacGreatDoor
namespace Go.Proofs.YtkfahdbjndihfacGreatDoor
open Go.Tc
set_option linter.unusedSimpArgs false
set_option linter.unusedVariables false
set_option maxRecDepth 20000
set_option maxHeartbeats 4000000
structure Rs where
  cost : Int
  lines : Int
  nd : Int
  deriving Inhabited
def rR (r : Rs) : List AVal := [.int .i64 r.cost, .int .i64 r.lines, .int .i64 r.nd]
theorem rR_eq {r : Rs} : rR r = [.int .i64 r.cost, .int .i64 r.lines, .int .i64 r.nd] := id rfl
theorem store_rR {l : List Rs} {i : Nat} {a b c : Int} (h : i < l.length) : storeO (some (.cells 3 (l.map rR))) 3 i 0 (.agg [.int .i64 a, .int .i64 b, .int .i64 c]) = some (.cells 3 ((l.set i ⟨a, b, c⟩).map rR)) := storeO_map ⟨a, b, c⟩ h rfl rfl (fun _ => rfl) rfl
theorem rep_rR {n : Nat} : List.replicate n [AVal.int .i64 0, AVal.int .i64 0, AVal.int .i64 0] = (List.replicate n (⟨0, 0, 0⟩ : Rs)).map rR := by rw [List.map_replicate]; rfl
def Fin' (x : FR) (ws : List Wd) (rl : List Rs) (j : Nat) : Prop := (j : Int) < (rl.getD j default).nd ∧ (rl.getD j default).nd ≤ ws.length ∧ lineW x ws j (rl.getD j default).nd ≤ x.ms
def Cst (n : Nat) (rl : List Rs) : Prop := ∀ j, j ≤ n → 0 ≤ (rl.getD j default).cost ∧ (rl.getD j default).cost ≤ 10000000 * ((n : Int) - j) ∧ 0 ≤ (rl.getD j default).lines ∧ (rl.getD j default).lines ≤ (n : Int) - j
theorem set_at {α : Type} [Inhabited α] {l : List α} {i : Nat} {x : α} (h : i < l.length) : (l.set i x).getD i default = x := by simp [h]
theorem set_off {α : Type} [Inhabited α] {l : List α} {i j : Nat} {x : α} (h : i ≠ j) : (l.set i x).getD j default = l.getD j default := by simp [List.getElem?_set_ne h]
structure Sht (x : FR) (wv : AVal) (ws : List Wd) (rl : List Rs) (a b NS : Nat) (s : AHeap) : Prop where
  h : ∃ N NR, a ≤ NS ∧ NS < b ∧ a ≤ N ∧ N < b ∧ a ≤ NR ∧ NR < b ∧ b ≤ s.next ∧ Stt x a b N s ∧ s.objs NS = some (.cells 3 [[.ptr N 0 0, wv, .ms 3 NR 0 (ws.length + 1) true]]) ∧ s.objs NR = some (.cells 3 (rl.map rR)) ∧ rl.length = ws.length + 1
theorem Sht.keep {x : FR} {wv : AVal} {ws : List Wd} {rl : List Rs} {a b NS : Nat} {s t : AHeap} (h : Sht x wv ws rl a b NS s) (hn : s.next ≤ t.next) (hk : ∀ M, a ≤ M → M < b → t.objs M = s.objs M) : Sht x wv ws rl a b NS t := by
  obtain ⟨N, NR, h1, h2, h3, h4, h5, h6, h7, h8, h9, h10, h11⟩ := h.h
  exact ⟨N, NR, h1, h2, h3, h4, h5, h6, by omega, h8.keep hn hk, (hk _ h1 h2).trans h9, (hk _ h5 h6).trans h10, h11⟩
theorem Stt.wide {x : FR} {a b a' b' N : Nat} {s : AHeap} (h : Stt x a b N s) (ha : a' ≤ a) (hb : b ≤ b') (hn : b' ≤ s.next) : Stt x a' b' N s := by
  obtain ⟨M1, M2, g1, n1, g2, n2, h1, h2, h3, h4, h5, h6, e1, e2, h7, h8, h9, h10, h11, h12⟩ := h.h
  exact ⟨M1, M2, g1, n1, g2, n2, by omega, by omega, by omega, by omega, by omega, by omega, e1, e2, hn, h8, h9, h10, h11, h12⟩
theorem s76 {σ : AHeap} {a b c a' b' c' : Int} {Q : AOut → AHeap → Prop} (hQ : ∀ q : Bool, Q (.ret (.bool q)) σ) : RunV Tryz.prog (.func (.func 76) [] []) [.agg [.int .i64 a, .int .i64 b, .int .i64 c], .agg [.int .i64 a', .int .i64 b', .int .i64 c']] σ Q := by
  refine RunV.drop (RunV.func mixed k76 (by simp) ?_)
  simp (disch := omega) only [c76, ↓CTL, ↓DRW, ↓STR, VAL, DRV, Nat.reduceBEq, Nat.reduceAdd]
  repeat' first
    | refine G_false (fun _ => ?_) (fun _ => ?_)
    | refine G_true (fun _ => ?_) (fun _ => ?_)
    | exact ⟨_, rfl, rfl, ((Ext.refl _).alloc _).alloc _, hQ _⟩
    | simp (disch := omega) only [↓CTL, ↓DRW, ↓STR, VAL, DRV, Nat.reduceBEq, Nat.reduceAdd]
theorem lineW_one {x : FR} {ws : List Wd} {i : Nat} (h : i < ws.length) : lineW x ws i ((i : Int) + 1) = (ws.getD i default).wide := by
  have e1 : ((i : Int) + 1 - i).toNat = 1 := by omega
  have e2 : (ws.drop i).take 1 = [ws.getD i default] := by
    rw [take_succ (by simp; omega)]
    simp [h]
  simp only [lineW, e1, Int.toNat_natCast, e2, sumW, List.map_cons, List.map_nil, List.sum_cons, List.sum_nil]
  omega
def HJ (N : Nat) (wv : AVal) (n : Nat) (s : AHeap) (rl : List Rs) (t : AHeap) : Prop :=
  Ext s t ∧ s.next + 2 ≤ t.next ∧ t.objs s.next = some (.cells 3 [[.ptr N 0 0, wv, .ms 3 (s.next + 1) 0 (n + 1) true]]) ∧ t.objs (s.next + 1) = some (.cells 3 (rl.map rR))
theorem HJ.ext {N : Nat} {wv : AVal} {n : Nat} {s : AHeap} {rl : List Rs} {t u : AHeap} (h : HJ N wv n s rl t) (hE : Ext t u) : HJ N wv n s rl u := by
  obtain ⟨h1, h2, h3, h4⟩ := h
  have := hE.1
  exact ⟨h1.trans hE, by omega, (hE.2 _ (by omega)).trans h3, (hE.2 _ (by omega)).trans h4⟩
theorem HJ.put {N : Nat} {wv : AVal} {n : Nat} {s : AHeap} {rl rl' : List Rs} {t : AHeap} (h : HJ N wv n s rl t) : HJ N wv n s rl' (t.set (s.next + 1) (.cells 3 (rl'.map rR))) := by
  obtain ⟨h1, h2, h3, h4⟩ := h
  exact ⟨h1.set (by omega) _, h2, by rw [objs_else (by omega)]; exact h3, objs_here⟩
theorem s53 {σ : AHeap} (x : FR) (hx : x.rd) {text : ByteArray} {Q : AOut → AHeap → Prop}
    (hQ : ∀ NS wv ws rl s, x.ok → x.rok → Wds x wv ws → (∀ j, j < ws.length → Fin' x ws rl j) → Cst ws.length rl → Ext σ s → Sht x wv ws rl σ.next s.next NS s → Q (.ret (.ptr NS 0 0)) s)
    (hX : ∀ e s, Ext σ s → Q (.panic (.iface 37 (.int .i64 e))) s) : RunV Tryz.prog (.func (.func 53) [] []) [.agg x.fv, .agg x.rv, .str text] σ Q := by
  have o1 := (hx.g σ).one
  have o2 := (hx.k σ).one
  refine RunV.func mixed k53 (by simp) ?_
  have hfv : x.fv = [.int .i64 x.high, .int .i64 x.space, x.gv, x.kv] := rfl
  have hrv : x.rv = [.int .i64 x.ms, .int .i64 x.ln, .int .i64 x.ld, .int .i64 x.sh, .int .i64 x.ex, .int .i64 x.ink] := rfl
  rw [hfv, hrv]
  simp (disch := omega) only [c53, ↓CTL, ↓DRW, ↓STR, VAL, DRV, Nat.reduceBEq, Nat.reduceAdd, o1, o2]
  refine s46 x hx (fun N s hok hr hE hS => ?_) (fun e s hE => ?_)
  case refine_2 =>
    simp (disch := omega) only [↓CTL, ↓DRW, VAL, DRV, PAN, Nat.reduceBEq, Nat.reduceAdd]
    exact hX _ _ (Ext.trans (Ext.alloc (Ext.alloc (Ext.refl _) _) _) hE)
  have hE' : Ext σ s := Ext.trans (Ext.alloc (Ext.alloc (Ext.refl _) _) _) hE
  simp only [AHeap.next_alloc] at hS
  clear hE
  have hle := hE'.1
  simp (disch := omega) only [↓CTL, ↓DRW, ↓STR, VAL, DRV, Nat.reduceBEq, Nat.reduceAdd, o1, o2]
  refine s75 x hx hok hr (hS.ext ((Ext.refl _).alloc _)) (fun wv ws hwv hwn hww => ?_) (fun e t hE => ?_)
  case refine_2 =>
    simp (disch := omega) only [↓CTL, ↓DRW, VAL, DRV, PAN, Nat.reduceBEq, Nat.reduceAdd]
    exact hX _ _ (hE'.trans (Ext.trans (Ext.alloc (Ext.refl _) _) hE))
  have hwS := hwv.S
  simp (disch := omega) only [↓CTL, ↓DRW, ↓STR, VAL, DRV, Nat.reduceBEq, Nat.reduceAdd, hwS]
  have e1 : ((ws.length : Int) + 1).toNat = ws.length + 1 := by omega
  have hwds : Wds x wv ws := ⟨hwv, hwn, hww⟩
  simp only [e1, rep_rR, beq_self_eq_true]
  refine A_loopV (α := Int × List Rs) m53_0 (fun y => [(8, .int .i64 y.1)]) (fun y t => -1 ≤ y.1 ∧ y.1 < ws.length ∧ y.2.length = ws.length + 1 ∧ Cst ws.length y.2 ∧ (∀ j : Nat, y.1 < j → j < ws.length → Fin' x ws y.2 j) ∧ HJ N wv ws.length s y.2 t) (fun y => (y.1 + 1).toNat) rfl (fun _ => rfl)
    ⟨((ws.length : Int) - 1, List.replicate (ws.length + 1) ⟨0, 0, 0⟩), ?_, by dsimp only; omega, by dsimp only; omega, by simp, fun j hj => ?_, fun j h1 h2 => by dsimp only at h1; omega, ?_, ?_, ?_, ?_⟩ ?_
  · simp only [↓CTL, VAL, Nat.reduceBEq]; try rfl
  · have : (List.replicate (ws.length + 1) (⟨0, 0, 0⟩ : Rs)).getD j default = ⟨0, 0, 0⟩ := by
      rw [List.getD_eq_getElem?_getD, List.getElem?_replicate, if_pos (by omega)]; rfl
    dsimp only
    rw [this]
    dsimp only
    omega
  · repeat first | exact Ext.refl _ | refine Ext.alloc ?_ _ | refine Ext.set ?_ (by first | omega | (simp only [VAL]; omega)) _
  · simp only [VAL]; omega
  · simp (disch := omega) only [VAL]
  · simp (disch := omega) only [VAL]
  · rintro ⟨i, rl⟩ f t ⟨hi0, hi1, hrl, hc, hf, hJ⟩
    dsimp only at hi0 hi1 hrl hc hf hJ ⊢
    simp (disch := omega) only [↓CTL, ↓DRW, ↓STR, VAL, DRV, Nat.reduceBEq, Nat.reduceAdd, m53_0]
    refine B_if (fun hge => ?_) (fun hlt => ?_)
    · simp (disch := omega) only [↓CTL, ↓DRW, ↓STR, VAL, DRV, Nat.reduceBEq, Nat.reduceAdd, m53_0]
      refine A_loopV (α := Int × List Rs) m53_1 (fun y => [(9, .int .i64 y.1)]) (fun y t => i + 1 ≤ y.1 ∧ y.1 ≤ ws.length + 1 ∧ y.2.length = ws.length + 1 ∧ Cst ws.length y.2 ∧ (∀ j : Nat, i < j → j < ws.length → Fin' x ws y.2 j) ∧ (y.1 = i + 1 ∨ Fin' x ws y.2 i.toNat) ∧ HJ N wv ws.length s y.2 t) (fun y => (ws.length + 2 - y.1).toNat) rfl (fun _ => rfl)
        ⟨(i + 1, rl), ?_, by dsimp only; omega, by dsimp only; omega, hrl, hc, hf, .inl rfl, hJ⟩ ?_
      · simp only [↓CTL, VAL, Nat.reduceBEq]; try rfl
      · rintro ⟨e, rl⟩ f2 t ⟨he0, he1, hrl, hc, hf, hei, hJ⟩
        dsimp only at he0 he1 hrl hc hf hei hJ ⊢
        have hJ' := hJ
        obtain ⟨jE, jn, j1, j2⟩ := hJ
        have hSt := hS.ext jE
        obtain ⟨M1, M2, g1, n1, g2, n2, h1, h2, h3, h4, h5, h6, e1, e2, h7, h8, h9, h10, h11, h12⟩ := hSt.h
        have h8' := h8
        rw [FR.row_eq] at h8
        simp (disch := omega) only [↓CTL, ↓DRW, ↓STR, VAL, DRV, Nat.reduceBEq, Nat.reduceAdd, m53_1, j1, hwS]
        have done : ∀ u, HJ N wv ws.length s rl u → Fin' x ws rl i.toNat → ∃ a' : Int × List Rs, AVal.int .i64 (i - 1) = AVal.int .i64 a'.1 ∧ (-1 ≤ a'.1 ∧ a'.1 < ws.length ∧ a'.2.length = ws.length + 1 ∧ Cst ws.length a'.2 ∧ (∀ j : Nat, a'.1 < j → j < ws.length → Fin' x ws a'.2 j) ∧ HJ N wv ws.length s a'.2 u) ∧ (a'.1 + 1).toNat < (i + 1).toNat := fun u hu hfi =>
          ⟨(i - 1, rl), rfl, ⟨by dsimp only; omega, by dsimp only; omega, hrl, hc, fun j h1 h2 => by
            by_cases hji : i < j
            · exact hf j hji h2
            · have : j = i.toNat := by dsimp only at h1; omega
              subst this; exact hfi, hu⟩, by dsimp only; omega⟩
        refine B_if (fun hle2 => ?_) (fun hgt => ?_)
        · simp (disch := omega) only [↓CTL, ↓DRW, ↓STR, VAL, DRV, Nat.reduceBEq, Nat.reduceAdd, m53_1]
          refine s59 hok hr hwds j1 h8' (by omega) (by omega) (a := i) (b := e) (by omega) (by omega) (by omega) fun c c0 c1 => ?_
          simp (disch := omega) only [↓CTL, ↓DRW, ↓STR, VAL, DRV, Nat.reduceBEq, Nat.reduceAdd, m53_1]
          refine dr_go [] [] ?_ ?_; · decide
          simp (disch := omega) only [↓CTL, ↓DRW, ↓STR, VAL, DRV, Nat.reduceBEq, Nat.reduceAdd, m53_1, j1, h8]
          have hone : lineW x ws i (i + 1) ≤ x.ms := by
            have := lineW_one (x := x) (ws := ws) (i := i.toNat) (by omega)
            rw [Int.toNat_of_nonneg (by omega)] at this
            rw [this]
            exact (hww _ (getD_mem (l := ws) (j := i.toNat) (by omega))).2.2
          refine B_if (fun hgt => ?_) (fun hng => ?_)
          · simp (disch := omega) only [↓CTL, ↓DRW, ↓STR, VAL, DRV, Nat.reduceBEq, Nat.reduceAdd, m53_1]
            refine done _ (hJ'.ext ((Ext.refl _).alloc _)) ?_
            rcases hei with rfl | h
            · omega
            · exact h
          · have hce := hc e.toNat (by omega)
            simp (disch := omega) only [↓CTL, ↓DRW, ↓STR, VAL, DRV, Nat.reduceBEq, Nat.reduceAdd, ROW, m53_1, j1, j2]
            generalize hre : rl.getD e.toNat default = re at hce
            obtain ⟨q1, q2, q3, q4⟩ := hce
            simp (disch := omega) only [↓CTL, ↓DRW, ↓STR, VAL, DRV, Nat.reduceBEq, Nat.reduceAdd, ROW, m53_1, rR_eq]
            refine dr_go [] [] ?_ ?_; · decide
            have hii : i.toNat < rl.length := by omega
            have s1 : (rl.set i.toNat ⟨c + re.cost, 1 + re.lines, e⟩).length = ws.length + 1 := by rw [List.length_set]; exact hrl
            have s2 : Cst ws.length (rl.set i.toNat ⟨c + re.cost, 1 + re.lines, e⟩) := fun j hj => by
              by_cases hji : i.toNat = j
              · subst hji
                rw [set_at hii]
                dsimp only
                omega
              · rw [set_off hji]; exact hc j hj
            have s3 : ∀ j : Nat, i < j → j < ws.length → Fin' x ws (rl.set i.toNat ⟨c + re.cost, 1 + re.lines, e⟩) j := fun j h1 h2 => by
              unfold Fin'
              rw [set_off (by omega)]; exact hf j h1 h2
            have s4 : Fin' x ws (rl.set i.toNat ⟨c + re.cost, 1 + re.lines, e⟩) i.toNat := by
              unfold Fin'
              rw [set_at hii]
              dsimp only
              rw [Int.toNat_of_nonneg (by omega)]
              exact ⟨by omega, by omega, by omega⟩
            simp (disch := omega) only [↓CTL, ↓DRW, ↓STR, VAL, DRV, Nat.reduceBEq, Nat.reduceAdd, ROW, m53_1]
            refine G_false (fun hne => ?_) (fun heq => ?_)
            · simp (disch := omega) only [↓CTL, ↓DRW, ↓STR, VAL, DRV, Nat.reduceBEq, Nat.reduceAdd, ROW, m53_1, j1, j2]
              generalize hri : rl.getD i.toNat default = ri
              simp (disch := omega) only [↓CTL, ↓DRW, ↓STR, VAL, DRV, Nat.reduceBEq, Nat.reduceAdd, ROW, m53_1, rR_eq]
              refine s76 fun b => ?_
              simp (disch := omega) only [↓CTL, ↓DRW, ↓STR, VAL, DRV, Nat.reduceBEq, Nat.reduceAdd, ROW, m53_1]
              refine B_ifb (fun _ => ?_) (fun _ => ?_)
              · simp (disch := omega) only [↓CTL, ↓DRW, ↓STR, VAL, DRV, Nat.reduceBEq, Nat.reduceAdd, ROW, m53_1, j1, j2]
                refine dr_go [] [] ?_ ?_; · decide
                simp (disch := omega) only [↓CTL, ↓DRW, ↓STR, VAL, DRV, Nat.reduceBEq, Nat.reduceAdd, ROW, m53_1, j1, j2, store_rR, Nat.zero_add]
                exact ⟨(e + 1, rl.set i.toNat ⟨c + re.cost, 1 + re.lines, e⟩), rfl, ⟨by dsimp only; omega, by dsimp only; omega, s1, s2, s3, .inr s4, (hJ'.ext (by repeat first | exact Ext.refl _ | refine Ext.alloc ?_ _ | refine Ext.set ?_ (by first | omega | (simp only [VAL]; omega)) _)).put⟩, by dsimp only; omega⟩
              · simp (disch := omega) only [↓CTL, ↓DRW, ↓STR, VAL, DRV, Nat.reduceBEq, Nat.reduceAdd, ROW, m53_1, j1, j2]
                exact ⟨(e + 1, rl), rfl, ⟨by dsimp only; omega, by dsimp only; omega, hrl, hc, hf, .inr (hei.resolve_left hne), hJ'.ext (by repeat first | exact Ext.refl _ | refine Ext.alloc ?_ _ | refine Ext.set ?_ (by first | omega | (simp only [VAL]; omega)) _)⟩, by dsimp only; omega⟩
            · simp (disch := omega) only [↓CTL, ↓DRW, ↓STR, VAL, DRV, Nat.reduceBEq, Nat.reduceAdd, ROW, m53_1, j1, j2]
              refine ⟨trivial, dr_go [] [] ?_ ?_⟩; · decide
              simp (disch := omega) only [↓CTL, ↓DRW, ↓STR, VAL, DRV, Nat.reduceBEq, Nat.reduceAdd, ROW, m53_1, j1, j2, store_rR, Nat.zero_add]
              exact ⟨(e + 1, rl.set i.toNat ⟨c + re.cost, 1 + re.lines, e⟩), rfl, ⟨by dsimp only; omega, by dsimp only; omega, s1, s2, s3, .inr s4, (hJ'.ext (by repeat first | exact Ext.refl _ | refine Ext.alloc ?_ _ | refine Ext.set ?_ (by first | omega | (simp only [VAL]; omega)) _)).put⟩, by dsimp only; omega⟩
        · simp (disch := omega) only [↓CTL, ↓DRW, ↓STR, VAL, DRV, Nat.reduceBEq, Nat.reduceAdd, m53_1]
          refine done _ hJ' ?_
          rcases hei with rfl | h
          · omega
          · exact h
    · simp (disch := omega) only [↓CTL, ↓DRW, ↓STR, VAL, DRV, Nat.reduceBEq, Nat.reduceAdd, m53_0]
      refine hQ s.next wv ws rl t hok hr hwds (fun j hj => hf j (by omega) hj) hc (hE'.trans hJ.1) ?_
      obtain ⟨jE, jn, j1, j2⟩ := hJ
      obtain ⟨M1, M2, g1, n1, g2, n2, h1, h2, h3, h4, h5, h6, e1, e2, h7, h8, h9, h10, h11, h12⟩ := hS.h
      exact ⟨N, s.next + 1, by omega, by omega, by omega, by omega, by omega, by omega, Nat.le_refl _, (hS.ext jE).wide (by omega) (by omega) (Nat.le_refl _), j1, j2, hrl⟩
end Go.Proofs.YtkfahdbjndihfacGreatDoor
namespace Go.Proofs.YtkfahdbjndihfacGreatDoor
open Go.Tc
set_option linter.unusedSimpArgs false
set_option linter.unusedVariables false
set_option maxRecDepth 20000
set_option maxHeartbeats 4000000
def ix (rl : List Rs) : Nat → Nat
  | 0 => 0
  | n + 1 => if ix rl n + 1 < rl.length then ((rl.getD (ix rl n) default).nd).toNat else ix rl n
theorem ix_step {x : FR} {ws : List Wd} {rl : List Rs} (hf : ∀ j, j < ws.length → Fin' x ws rl j) (hl : rl.length = ws.length + 1) {n : Nat} (h : ix rl n < ws.length) :
    (rl.getD (ix rl n) default).nd = (ix rl (n + 1) : Nat) ∧ ix rl n < ix rl (n + 1) ∧ ix rl (n + 1) ≤ ws.length ∧ lineW x ws (ix rl n : Nat) (ix rl (n + 1) : Nat) ≤ x.ms := by
  obtain ⟨h1, h2, h3⟩ := hf _ h
  have e : (rl.getD (ix rl n) default).nd = (ix rl (n + 1) : Nat) := by
    simp only [ix]
    rw [if_pos (by omega)]
    omega
  rw [e] at h1 h2 h3
  exact ⟨e, by omega, by omega, h3⟩
structure Lns (x : FR) (wv : AVal) (ws : List Wd) (rl : List Rs) : Prop where
  ok : x.ok
  rok : x.rok
  w : Wds x wv ws
  f : ∀ j, j < ws.length → Fin' x ws rl j
  c : Cst ws.length rl
  l : rl.length = ws.length + 1
theorem ix_mono {x : FR} {wv : AVal} {ws : List Wd} {rl : List Rs} (h : Lns x wv ws rl) {i j : Nat} (hij : i ≤ j) : ix rl i ≤ ix rl j := by
  induction hij with
  | refl => exact Nat.le_refl _
  | @step j _ ih =>
    show ix rl i ≤ ix rl (j + 1)
    by_cases hlt : ix rl j < ws.length
    · have := (ix_step h.f h.l hlt).2.1
      omega
    · have e : ix rl (j + 1) = ix rl j := by
        simp only [ix]
        rw [if_neg (by have := h.l; omega)]
      omega
def LR (x : FR) (ws : List Wd) (rl : List Rs) (n : Nat) (args : List AVal) : Prop :=
  ix rl n < ws.length ∧ n ≤ ix rl n ∧ ∃ c : Int, 0 ≤ c ∧ c ≤ 10000000 ∧ args = [.int .i64 n, .agg [.int .i64 (ix rl n), .int .i64 (ix rl (n + 1)), .int .i64 (lineW x ws (ix rl n : Nat) (ix rl (n + 1) : Nat)), .int .i64 c]]
theorem s77 {x : FR} {wv : AVal} {ws : List Wd} {rl : List Rs} (hL : Lns x wv ws rl) {a b NS C : Nat} :
    Iter Tryz.prog (.func (.func 77) [] [.ptr C 0 0]) (fun s => s.objs C = some (.cells 1 [[.ptr NS 0 0]]) ∧ Sht x wv ws rl a b NS s) (LR x ws rl) (fun m => ix rl m = ws.length ∧ m ≤ ix rl m) := by
  intro yv J E σ0 hy hE hB h0 hr
  have hn := hL.w.n
  have hwS := hL.w.v.S
  refine RunV.func mixed k77 (by simp) ?_
  simp (disch := omega) only [c77, ↓CTL, ↓DRW, ↓STR, VAL, DRV, Nat.reduceBEq, Nat.reduceAdd]
  refine A_loopV (α := Nat) m77_0 (fun n => [(3, .int .i64 (ix rl n)), (4, .int .i64 n)]) (fun n s => n ≤ ix rl n ∧ ix rl n ≤ ws.length ∧ J n s) (fun n => ws.length - ix rl n) rfl (fun _ => rfl) ⟨0, ?_, Nat.zero_le _, Nat.zero_le _, h0⟩ ?_
  · simp only [↓CTL, VAL, Nat.reduceBEq]; try first | rfl | exact ⟨rfl, rfl⟩
  · rintro n f s ⟨hn1, hn2, hJ⟩
    obtain ⟨g1, hS⟩ := hB n s hJ
    obtain ⟨N, NR, p1, p2, p3, p4, p5, p6, p7, p8, p9, p10, p11⟩ := hS.h
    obtain ⟨M1, M2, t1, u1, t2, u2, q1, q2, q3, q4, q5, q6, e1, e2, q7, q8, q9, q10, q11, q12⟩ := p8.h
    simp (disch := omega) only [↓CTL, ↓DRW, ↓STR, VAL, DRV, Nat.reduceBEq, Nat.reduceAdd, m77_0, g1, p9, hwS]
    refine B_if (fun hlt => ?_) (fun hge => ?_)
    · obtain ⟨i1, i2, i3, i4⟩ := ix_step hL.f hL.l (n := n) (by omega)
      simp (disch := omega) only [↓CTL, ↓DRW, ↓STR, VAL, DRV, Nat.reduceBEq, Nat.reduceAdd, m77_0, g1, p9, hwS]
      refine dr_go [] [] ?_ ?_; · decide
      simp (disch := omega) only [↓CTL, ↓DRW, ↓STR, VAL, DRV, ROW, Nat.reduceBEq, Nat.reduceAdd, m77_0, g1, p9, p10, hwS, Int.toNat_natCast, rR_eq, i1]
      refine s59 hL.ok hL.rok hL.w p9 q8 (by omega) (by omega) (by omega) (by omega) (by omega) fun c c0 c1 => ?_
      simp (disch := omega) only [↓CTL, ↓DRW, ↓STR, VAL, DRV, ROW, Nat.reduceBEq, Nat.reduceAdd, m77_0]
      refine (hr n _ _ hJ ⟨by omega, hn1, c, c0, c1, rfl⟩).mono fun o s' h => ?_
      rcases h with ⟨rfl, hJ'⟩ | ⟨rfl, hE'⟩
      · obtain ⟨g1, hS⟩ := hB (n + 1) s' hJ'
        obtain ⟨N, NR, p1, p2, p3, p4, p5, p6, p7, p8, p9, p10, p11⟩ := hS.h
        simp (disch := omega) only [↓CTL, ↓DRW, ↓STR, VAL, DRV, ROW, Nat.reduceBEq, Nat.reduceAdd, m77_0, g1, p9, p10, Bool.not_true, Int.toNat_natCast, rR_eq, i1]
        exact ⟨n + 1, ⟨rfl, rfl⟩, ⟨by omega, i3, hJ'⟩, by omega⟩
      · simp (disch := omega) only [↓CTL, ↓DRW, ↓STR, VAL, DRV, Nat.reduceBEq, Nat.reduceAdd, Bool.not_false]
        exact ⟨⟨_, rfl⟩, .inr hE'⟩
    · simp (disch := omega) only [↓CTL, ↓DRW, ↓STR, VAL, DRV, Nat.reduceBEq, Nat.reduceAdd]
      exact ⟨⟨_, rfl⟩, .inl ⟨n, ⟨by omega, hn1⟩, hJ⟩⟩
theorem s54 {σ : AHeap} {NS : Nat} {Q : AOut → AHeap → Prop} (hQ : Q (.ret (.func (.func 77) [] [.ptr σ.next 0 0])) (σ.alloc (.cells 1 [[.ptr NS 0 0]]))) : RunV Tryz.prog (.func (.func 54) [] []) [.ptr NS 0 0] σ Q := by
  refine RunV.func mixed k54 (by simp) ?_
  simp (disch := omega) only [c54, ↓CTL, ↓DRW, ↓STR, VAL, DRV, Nat.reduceBEq, Nat.reduceAdd]
  exact hQ
theorem s60 {σ : AHeap} {NS : Nat} {Q : AOut → AHeap → Prop} (hQ : Q (.ret (.func (.func 78) [] [.ptr σ.next 0 0])) (σ.alloc (.cells 1 [[.ptr NS 0 0]]))) : RunV Tryz.prog (.func (.func 60) [] []) [.ptr NS 0 0] σ Q := by
  refine RunV.func mixed k60 (by simp) ?_
  simp (disch := omega) only [c60, ↓CTL, ↓DRW, ↓STR, VAL, DRV, Nat.reduceBEq, Nat.reduceAdd]
  exact hQ
end Go.Proofs.YtkfahdbjndihfacGreatDoor
namespace Go.Proofs.YtkfahdbjndihfacGreatDoor
open Go.Tc
set_option linter.unusedSimpArgs false
set_option linter.unusedVariables false
set_option maxRecDepth 20000
set_option maxHeartbeats 4000000
structure Ln where
  a : Int
  b : Int
  w : Int
  c : Int
  deriving Inhabited
def rL (l : Ln) : List AVal := [.int .i64 l.a, .int .i64 l.b, .int .i64 l.w, .int .i64 l.c]
theorem rL_eq {l : Ln} : rL l = [.int .i64 l.a, .int .i64 l.b, .int .i64 l.w, .int .i64 l.c] := id rfl
structure BrI (x : FR) (wv : AVal) (ws : List Wd) (rl : List Rs) (σ : AHeap) (a b NS C c T6 T7 : Nat) (n : Nat) (t : AHeap) : Prop where
  ext : Ext σ t
  h6 : ∃ u l, t.objs T6 = some (.cells 1 [[u]]) ∧ OwnS t c 4 rL u l ∧ l.length = n
  h7 : t.objs T7 = some (.cells 1 [[.int .i64 0]])
  hC : t.objs C = some (.cells 1 [[.ptr NS 0 0]])
  sht : Sht x wv ws rl a b NS t
  lt : c ≤ t.next
  ord : σ.next ≤ T6 ∧ T6 < T7 ∧ T7 < a ∧ a ≤ b ∧ b ≤ C ∧ C + 1 < c
theorem BrI.upd {x : FR} {wv : AVal} {ws : List Wd} {rl : List Rs} {σ : AHeap} {a b NS C c T6 T7 n : Nat} {t t' : AHeap} (h : BrI x wv ws rl σ a b NS C c T6 T7 n t) (hn : t.next ≤ t'.next) (hk : ∀ M, M < t.next → M ≠ C + 1 → t'.objs M = t.objs M) : BrI x wv ws rl σ a b NS C c T6 T7 n t' := by
  obtain ⟨h1, ⟨u, l, h2, h3, h4⟩, h5, h6, h7, h8, h9⟩ := h
  have := h1.1
  exact ⟨⟨by omega, fun M hM => (hk M (by omega) (by omega)).trans (h1.2 M hM)⟩, ⟨u, l, (hk _ (by omega) (by omega)).trans h2, h3.keep hn fun M k1 k2 _ => hk M k2 (by omega), h4⟩, (hk _ (by omega) (by omega)).trans h5, (hk _ (by omega) (by omega)).trans h6,
    h7.keep hn fun M k1 k2 => hk M (by omega) (by omega), by omega, h9⟩
theorem BrI.put {x : FR} {wv : AVal} {ws : List Wd} {rl : List Rs} {σ : AHeap} {a b NS C c T6 T7 n : Nat} {t t2 : AHeap} {u' : AVal} {l' : List Ln} (h : BrI x wv ws rl σ a b NS C c T6 T7 n t) (ho : OwnS t2 c 4 rL u' l') (hl : l'.length = n + 1) (hn : t.next ≤ t2.next)
    (hk : ∀ M, M < c → t2.objs M = t.objs M) : BrI x wv ws rl σ a b NS C c T6 T7 (n + 1) (t2.set T6 (.cells 1 [[u']])) := by
  obtain ⟨h1, ⟨u, l, h2, h3, h4⟩, h5, h6, h7, h8, h9⟩ := h
  have := h1.1
  have kk : ∀ M, M < c → M ≠ T6 → (t2.set T6 (.cells 1 [[u']])).objs M = t.objs M := fun M h1 h2 => by rw [objs_else h2]; exact hk M h1
  exact ⟨⟨by simp only [AHeap.next_set]; omega, fun M hM => (kk M (by omega) (by omega)).trans (h1.2 M hM)⟩, ⟨u', l', objs_here, ho.set (ho.off_old (by omega)) _, hl⟩, (kk _ (by omega) (by omega)).trans h5, (kk _ (by omega) (by omega)).trans h6,
    h7.keep (by simp only [AHeap.next_set]; omega) fun M k1 k2 => kk M (by omega) (by omega), by simp only [AHeap.next_set]; omega, h9⟩
theorem res19 {env : AEnv} {σ : AHeap} {T6 T7 : Nat} {u : AVal} {e : Int} (h6 : env.t 6 = .ptr T6 0 0) (h7 : env.t 7 = .ptr T7 0 0) (o6 : σ.objs T6 = some (.cells 1 [[u]])) (o7 : σ.objs T7 = some (.cells 1 [[.int .i64 e]])) : resAs env σ [.cell 6 false 1, .cell 7 false 1] = some [u, .int .i64 e] := by
  simp only [resAs, h6, h7, ld1 o6, ld1 o7]; rfl
theorem s19 {σ : AHeap} (x : FR) (hx : x.rd) {text : ByteArray} : RunV Tryz.prog (.func (.func 19) [] []) [.agg x.fv, .agg x.rv, .str text] σ (fun o s => ∃ u e l, o = .ret (.tup [u, .int .i64 e]) ∧ Ext σ s ∧ OwnS s σ.next 4 rL u l ∧ l.length ≤ 1000) := by
  have o1 := (hx.g σ).one
  have o2 := (hx.k σ).one
  have hfv : x.fv = [.int .i64 x.high, .int .i64 x.space, x.gv, x.kv] := rfl
  have hrv : x.rv = [.int .i64 x.ms, .int .i64 x.ln, .int .i64 x.ld, .int .i64 x.sh, .int .i64 x.ex, .int .i64 x.ink] := rfl
  refine RunV.funcD mixed k19 (by simp) ?_
  rw [hfv, hrv]
  simp (disch := omega) only [c19, ↓CTL, ↓DRW, VAL, DRV, DFR, Nat.reduceBEq, Nat.reduceAdd, o1, o2]
  refine L_dfr (g := 45) (first := []) (caps := []) rfl ?_
  simp (disch := omega) only [↓CTL, ↓DRW, VAL, DRV, DFR, Nat.reduceBEq, Nat.reduceAdd, o1, o2]
  refine s53 x hx (fun NS wv ws rl s hok hrok hwds hf hc hE hS => ?_) (fun e s hE => ?_)
  · have r6 := hE.2 (σ.next + 1 + 1) (by simp only [VAL]; omega)
    have r7 := hE.2 (σ.next + 1 + 1 + 1) (by simp only [VAL]; omega)
    simp (disch := omega) only [VAL] at r6 r7
    have hb := hE.1
    simp only [VAL] at hb hS
    have hE' : Ext σ s := Ext.trans (by repeat first | exact Ext.refl _ | refine Ext.alloc ?_ _) hE
    simp (disch := omega) only [↓CTL, ↓DRW, VAL, DRV, DFR, Nat.reduceBEq, Nat.reduceAdd]
    refine s54 ?_
    simp (disch := omega) only [↓CTL, ↓DRW, ↓RK, VAL, DRV, DFR, Nat.reduceBEq, Nat.reduceAdd]
    refine A_rangeI (g := 77) (first := []) (caps := [.ptr s.next 0 0]) ?_ (s77 (a := σ.next + 1 + 1 + 1 + 1) (b := s.next) (NS := NS) (C := s.next) ⟨hok, hrok, hwds, hf, hc, let ⟨_, _, _, _, _, _, _, _, _, _, _, _, h⟩ := hS.h; h⟩) (BrI x wv ws rl σ (σ.next + 1 + 1 + 1 + 1) s.next NS s.next (s.next + 1 + 1) (σ.next + 1 + 1) (σ.next + 1 + 1 + 1)) (fun _ _ => False) (by kernel_rfl) (fun L h => by cases h)
      (fun k s1 s2 h hE => h.upd hE.1 fun M hM _ => hE.2 M hM) (fun k s1 lo h => h.upd (Nat.le_refl _) fun M _ hM => objs_else (by simp only [VAL]; exact hM)) (fun k s1 h => ⟨h.hC, h.sht⟩) (fun k s1 h => by have := h.lt; simp only [VAL]; omega) (fun lo => ?_) ?_ ?_ (fun _ _ h => h.elim)
    · simp (disch := omega) only [↓CTL, VAL, Nat.reduceBEq]
    · have hE2 : Ext s ((s.alloc (.cells 1 [[.ptr NS 0 0]])).alloc (.loop lo)) := by repeat first | exact Ext.refl _ | refine Ext.alloc ?_ _
      exact ⟨hE'.trans hE2, ⟨.nilS, [], (hE2.2 _ (by omega)).trans r6, .nil, rfl⟩, (hE2.2 _ (by omega)).trans r7, by simp (disch := omega) only [VAL], hS.keep hE2.1 fun M k1 k2 => hE2.2 M (by omega), by simp only [VAL]; omega, by omega⟩
    · rintro k t lo args hI hL ⟨i1, i2, c, c0, c1, rfl⟩
      refine ⟨rfl, ?_⟩
      have hlt := hI.lt
      have hx := hI.ext.1
      have hwn := hwds.n
      obtain ⟨u, l, q1, q2, q3⟩ := hI.h6
      have hL' : t.objs (s.next + 1) = some (.loop lo) := hL
      have hL := hL'
      simp (disch := omega) only [↓CTL, ↓DRW, ↓RK, VAL, ENV, DRV, DFR, Nat.reduceBEq, Nat.reduceAdd, hL]
      intro lo'
      have hI1 := hI.upd (t' := (t.set (s.next + 1) (.loop lo')).alloc (.cells 4 [[.int .i64 (ix rl k), .int .i64 (ix rl (k + 1)), .int .i64 (lineW x ws (ix rl k : Nat) (ix rl (k + 1) : Nat)), .int .i64 c]])) (by simp only [VAL]; omega) (fun M h1 h2 => by rw [objs_old (by simp only [VAL]; omega), objs_else h2])
      have hO1 : OwnS ((t.set (s.next + 1) (.loop lo')).alloc (.cells 4 [[.int .i64 (ix rl k), .int .i64 (ix rl (k + 1)), .int .i64 (lineW x ws (ix rl k : Nat) (ix rl (k + 1) : Nat)), .int .i64 c]])) (s.next + 1 + 1) 4 rL u l := (q2.set (q2.off_old (by omega)) (.loop lo')).alloc _
      obtain ⟨u', t2, ha, r1, r2, r3, r4⟩ := hO1.lit (x := ⟨ix rl k, ix rl (k + 1), lineW x ws (ix rl k : Nat) (ix rl (k + 1) : Nat), c⟩) (bytes := 32) (ex := true) (row := [.int .i64 (ix rl k), .int .i64 (ix rl (k + 1)), .int .i64 (lineW x ws (ix rl k : Nat) (ix rl (k + 1) : Nat)), .int .i64 c]) rfl (by simp only [VAL]; omega) (sumLen_ok (by omega) (by omega))
      simp only [AHeap.next_alloc, AHeap.next_set] at r2 r3 ha
      have k1 : ∀ M, M < s.next + 1 + 1 → t2.objs M = ((t.set (s.next + 1) (.loop lo')).alloc (.cells 4 [[.int .i64 (ix rl k), .int .i64 (ix rl (k + 1)), .int .i64 (lineW x ws (ix rl k : Nat) (ix rl (k + 1) : Nat)), .int .i64 c]])).objs M := fun M hM => r3 M (by omega) (q2.off_old (by omega))
      have k6 := k1 (σ.next + 1 + 1) (by omega)
      have kL := k1 (s.next + 1) (by omega)
      simp (disch := omega) only [VAL, q1] at k6 kL
      simp (disch := omega) only [↓CTL, ↓DRW, ↓RK, VAL, ENV, DRV, DFR, FILL, Nat.reduceBEq, Nat.reduceAdd, q1, q2.one, ha, k6, r1.one, kL]
      intro lo2
      exact (hI1.put r1 (by simp; omega) (by simp only [VAL]; omega) k1).upd (Nat.le_refl _) fun M _ hM => objs_else hM
    · rintro m t ⟨hm, hm2⟩ hI
      have hlt := hI.lt
      obtain ⟨u, l, q1, q2, q3⟩ := hI.h6
      have q7 := hI.h7
      simp (disch := omega) only [↓CTL, ↓DRW, ↓RK, VAL, ENV, DRV, DFR, Nat.reduceBEq, Nat.reduceAdd, q1, q2.one, q7]
      have hm' : m ≤ 40 := by
        have := hwds.n
        omega
      refine end1 (T := σ.next + 1 + 1 + 1) rfl (res19 (T6 := σ.next + 1 + 1) (T7 := σ.next + 1 + 1 + 1) rfl rfl (by rw [objs_else (by omega)]; exact objs_here) objs_here) ⟨u, _, l, rfl, ?_, ?_, by omega⟩
      · exact ((hI.ext.kill (by omega)).set (by omega) _).set (by omega) _
      · exact (((q2.kill (q2.off_old (by omega))).set (q2.off_old (by omega)) _).set (q2.off_old (by omega)) _).weak (by omega)
  · have r6 := hE.2 (σ.next + 1 + 1) (by simp only [VAL]; omega)
    have r7 := hE.2 (σ.next + 1 + 1 + 1) (by simp only [VAL]; omega)
    simp (disch := omega) only [VAL] at r6 r7
    have hb := hE.1
    simp only [VAL] at hb
    have hE' : Ext σ s := Ext.trans (by repeat first | exact Ext.refl _ | refine Ext.alloc ?_ _) hE
    simp (disch := omega) only [↓CTL, ↓DRW, VAL, DRV, DFR, PAN, Nat.reduceBEq, Nat.reduceAdd]
    exact endP (T := σ.next + 1 + 1 + 1) rfl r7 (res19 (T6 := σ.next + 1 + 1) (T7 := σ.next + 1 + 1 + 1) rfl rfl (by rw [objs_else (by omega)]; exact r6) objs_here) ⟨.nilS, _, [], rfl, hE'.set (by omega) _, .nil, by simp⟩
theorem res24 {env : AEnv} {σ : AHeap} {T7 : Nat} {u : AVal} {e : Int} (h6 : env.t 6 = u) (h7 : env.t 7 = .ptr T7 0 0) (o7 : σ.objs T7 = some (.cells 1 [[.int .i64 e]])) : resAs env σ [.t 6, .cell 7 false 1] = some [u, .int .i64 e] := by
  simp only [resAs, h6, h7, ld1 o7]; rfl
theorem s24 {σ : AHeap} (x : FR) (hx : x.rd) {text : ByteArray} : RunV Tryz.prog (.func (.func 24) [] []) [.agg x.fv, .agg x.rv, .str text] σ (fun o s => ∃ u e l, o = .ret (.tup [u, .int .i64 e]) ∧ Ext σ s ∧ OwnS s σ.next 1 rI u l ∧ l.length ≤ 1000) := by
  have o1 := (hx.g σ).one
  have o2 := (hx.k σ).one
  have hfv : x.fv = [.int .i64 x.high, .int .i64 x.space, x.gv, x.kv] := rfl
  have hrv : x.rv = [.int .i64 x.ms, .int .i64 x.ln, .int .i64 x.ld, .int .i64 x.sh, .int .i64 x.ex, .int .i64 x.ink] := rfl
  refine RunV.funcD mixed k24 (by simp) ?_
  rw [hfv, hrv]
  simp (disch := omega) only [c24, ↓CTL, ↓DRW, VAL, DRV, DFR, Nat.reduceBEq, Nat.reduceAdd, o1, o2]
  refine L_dfr (g := 45) (first := []) (caps := []) rfl ?_
  simp (disch := omega) only [↓CTL, ↓DRW, VAL, DRV, DFR, Nat.reduceBEq, Nat.reduceAdd, o1, o2]
  refine s53 x hx (fun NS wv ws rl s hok hrok hwds hf hc hE hS => ?_) (fun e s hE => ?_)
  · have r7 := hE.2 (σ.next + 1 + 1) (by simp only [VAL]; omega)
    simp (disch := omega) only [VAL] at r7
    have hb := hE.1
    simp only [VAL] at hb hS
    have hE' : Ext σ s := Ext.trans (by repeat first | exact Ext.refl _ | refine Ext.alloc ?_ _) hE
    obtain ⟨N, NR, p1, p2, p3, p4, p5, p6, p7, p8, p9, p10, p11⟩ := hS.h
    have hn := hwds.n
    simp (disch := omega) only [↓CTL, ↓DRW, VAL, DRV, DFR, Nat.reduceBEq, Nat.reduceAdd, p9]
    refine A_loopV (α := Nat × AVal × List Int) m24_0 (fun y => [(18, .int .i64 y.1), (6, y.2.1)]) (fun y t => y.1 ≤ ws.length + 1 ∧ Ext s t ∧ OwnS t s.next 1 rI y.2.1 y.2.2 ∧ y.2.2.length = y.1) (fun y => ws.length + 1 - y.1) rfl (fun _ => rfl)
      ⟨(0, .nilS, []), ?_, Nat.zero_le _, .refl _, .nil, rfl⟩ ?_
    · simp only [↓CTL, VAL, DFR, Nat.reduceBEq]; try first | rfl | exact ⟨rfl, rfl⟩
    · rintro ⟨i, u, l⟩ f t ⟨hi, hEt, hO, hl⟩
      dsimp only at hi hO hl ⊢
      simp (disch := omega) only [↓CTL, ↓DRW, VAL, DRV, DFR, Nat.reduceBEq, Nat.reduceAdd, m24_0]
      have hEn := hEt.1
      refine B_if (fun hlt => ?_) (fun hge => ?_)
      · have q10 := (hEt.2 NR (by omega)).trans p10
        simp (disch := omega) only [↓CTL, ↓DRW, VAL, DRV, DFR, Nat.reduceBEq, Nat.reduceAdd, m24_0, q10, loadO_map, Nat.zero_add, rR_eq, Int.toNat_natCast]
        generalize rl.getD i default = r
        obtain ⟨u', t2, ha, k1, k2, k3, k4⟩ := (hO.alloc (.cells 3 [[.int .i64 r.cost, .int .i64 r.lines, .int .i64 r.nd]])).lit (x := r.cost) (bytes := 8) (ex := true) (row := [.int .i64 r.cost]) rfl (by simp only [VAL]; omega) (sumLen_ok (by omega) (by omega))
        rw [AHeap.next_alloc] at ha k2
        simp (disch := omega) only [↓CTL, ↓DRW, VAL, DRV, DFR, FILL, Nat.reduceBEq, Nat.reduceAdd, m24_0, ha]
        exact ⟨(i + 1, u', l ++ [r.cost]), ⟨rfl, rfl⟩, ⟨by dsimp only; omega, (hO.alloc _).appE (Nat.le_refl _) (hEt.alloc _) k2 k3, k1, by simp; omega⟩, by dsimp only; omega⟩
      · have q7 := (hEt.2 (σ.next + 1 + 1) (by omega)).trans r7
        simp (disch := omega) only [↓CTL, ↓DRW, VAL, DRV, DFR, Nat.reduceBEq, Nat.reduceAdd, m24_0, q7]
        exact end1 (T := σ.next + 1 + 1) rfl (res24 (T7 := σ.next + 1 + 1) rfl rfl objs_here) ⟨u, _, l, rfl, (hE'.trans hEt).set (by omega) _, (hO.set (hO.off_old (by omega)) _).weak (by omega), by omega⟩
  · have r7 := hE.2 (σ.next + 1 + 1) (by simp only [VAL]; omega)
    simp (disch := omega) only [VAL] at r7
    have hE' : Ext σ s := Ext.trans (by repeat first | exact Ext.refl _ | refine Ext.alloc ?_ _) hE
    simp (disch := omega) only [↓CTL, ↓DRW, VAL, DRV, DFR, PAN, Nat.reduceBEq, Nat.reduceAdd]
    exact endP (T := σ.next + 1 + 1) rfl r7 (res24 (T7 := σ.next + 1 + 1) rfl rfl objs_here) ⟨.nilS, _, [], rfl, hE'.set (by omega) _, .nil, by simp⟩
theorem res27 {env : AEnv} {σ : AHeap} {T : Nat} {c e : Int} (h8 : env.t 8 = .int .i64 c) (h9 : env.t 9 = .ptr T 0 0) (o9 : σ.objs T = some (.cells 1 [[.int .i64 e]])) : resAs env σ [.t 8, .cell 9 false 1] = some [.int .i64 c, .int .i64 e] := by
  simp only [resAs, h8, h9, ld1 o9]; rfl
theorem s27 {σ : AHeap} (x : FR) (hx : x.rd) {text : ByteArray} {ev : AVal} {el : List Int} (hev : RV 1 rI ev el) (hel : el.length ≤ 1048576) : RunV Tryz.prog (.func (.func 27) [] []) [.agg x.fv, .agg x.rv, .str text, ev] σ (fun o s => ∃ c e : Int, o = .ret (.tup [.int .i64 c, .int .i64 e]) ∧ Ext σ s) := by
  have o1 := (hx.g σ).one
  have o2 := (hx.k σ).one
  have heS := hev.S
  have hfv : x.fv = [.int .i64 x.high, .int .i64 x.space, x.gv, x.kv] := rfl
  have hrv : x.rv = [.int .i64 x.ms, .int .i64 x.ln, .int .i64 x.ld, .int .i64 x.sh, .int .i64 x.ex, .int .i64 x.ink] := rfl
  refine RunV.funcD mixed k27 (by simp) ?_
  rw [hfv, hrv]
  simp (disch := omega) only [c27, ↓CTL, ↓DRW, VAL, DRV, DFR, Nat.reduceBEq, Nat.reduceAdd, o1, o2]
  refine L_dfr (g := 45) (first := []) (caps := []) rfl ?_
  simp (disch := omega) only [↓CTL, ↓DRW, VAL, DRV, DFR, Nat.reduceBEq, Nat.reduceAdd, o1, o2]
  refine s53 x hx (fun NS wv ws rl s hok hrok hwds hf hc hE hS => ?_) (fun e s hE => ?_)
  · have r7 := hE.2 (σ.next + 1 + 1) (by simp only [VAL]; omega)
    simp (disch := omega) only [VAL] at r7
    have hb := hE.1
    simp only [VAL] at hb hS
    have hE' : Ext σ s := Ext.trans (by repeat first | exact Ext.refl _ | refine Ext.alloc ?_ _) hE
    obtain ⟨N, NR, p1, p2, p3, p4, p5, p6, p7, p8, p9, p10, p11⟩ := hS.h
    obtain ⟨M1, M2, t1, u1, t2, u2, q1, q2, q3, q4, q5, q6, e1, e2, q7, q8, q9, q10, q11, q12⟩ := p8.h
    have q8' := q8
    rw [FR.row_eq] at q8'
    have hn := hwds.n
    have hwS := hwds.v.S
    clear hE
    simp (disch := omega) only [↓CTL, ↓DRW, VAL, DRV, DFR, Nat.reduceBEq, Nat.reduceAdd, heS]
    refine A_loopV (α := Nat × Int) m27_0 (fun y => [(24, .int .i64 y.1), (11, .int .i64 y.2)]) (fun y t => t = s ∧ y.1 ≤ el.length ∧ 0 ≤ y.2 ∧ y.2 ≤ ws.length ∧ (∀ j, j < y.1 → (if j = 0 then 0 else el.getD (j - 1) default) < el.getD j default ∧ el.getD j default ≤ ws.length) ∧ y.2 = if y.1 = 0 then 0 else el.getD (y.1 - 1) default) (fun y => el.length - y.1) rfl (fun _ => rfl)
      ⟨(0, 0), ?_, rfl, Nat.zero_le _, by dsimp only; omega, by dsimp only; omega, by simp, by simp⟩ ?_
    · simp only [↓CTL, VAL, DFR, Nat.reduceBEq]; try first | rfl | exact ⟨rfl, rfl⟩
    · rintro ⟨i, from'⟩ f t ⟨rfl, hi, hf0, hf1, hmon, hfr⟩
      dsimp only at hi hf0 hf1 hmon hfr ⊢
      simp (disch := omega) only [↓CTL, ↓DRW, VAL, DRV, DFR, Nat.reduceBEq, Nat.reduceAdd, m27_0]
      refine B_if (fun hlt => ?_) (fun hge => ?_)
      · simp (disch := omega) only [↓CTL, ↓DRW, VAL, DRV, DFR, Nat.reduceBEq, Nat.reduceAdd, m27_0, heS, rI_eq, Int.toNat_natCast, p9, hwS]
        refine out_spec mixed k41 _ _ _ _ ?_
        simp (disch := omega) only [↓CTL, ↓DRW, VAL, DRV, DFR, Nat.reduceBEq, Nat.reduceAdd, m27_0]
        refine s48 (fun hin => ?_) (fun _ => ?_)
        · simp (disch := omega) only [↓CTL, ↓DRW, VAL, DRV, DFR, Nat.reduceBEq, Nat.reduceAdd, m27_0]
          refine ⟨(i + 1, el.getD i default), ⟨rfl, rfl⟩, ⟨by dsimp only; omega, by dsimp only; omega, by dsimp only; omega, fun j hj => ?_, by simp⟩, by dsimp only; omega⟩
          by_cases hji : j < i
          · exact hmon j hji
          · have : j = i := by dsimp only at hj; omega
            subst this
            rw [← hfr]
            omega
        · simp (disch := omega) only [↓CTL, ↓DRW, VAL, DRV, DFR, PAN, Nat.reduceBEq, Nat.reduceAdd]
          exact endP (T := σ.next + 1 + 1) rfl r7 (res27 (T := σ.next + 1 + 1) rfl rfl objs_here) ⟨_, _, rfl, hE'.set (by omega) _⟩
      · simp (disch := omega) only [↓CTL, ↓DRW, VAL, DRV, DFR, Nat.reduceBEq, Nat.reduceAdd, m27_0, p9, hwS]
        refine s48 (fun hin => ?_) (fun _ => ?_)
        · simp (disch := omega) only [↓CTL, ↓DRW, VAL, DRV, DFR, Nat.reduceBEq, Nat.reduceAdd, m27_0, heS]
          have hmon' : ∀ j, j < el.length → (if j = 0 then 0 else el.getD (j - 1) default) < el.getD j default ∧ el.getD j default ≤ ws.length := fun j hj => hmon j (by omega)
          refine A_loopV (α := Nat × Int × Int) m27_1 (fun y => [(51, .int .i64 y.1), (11, .int .i64 y.2.1), (14, .int .i64 y.2.2)]) (fun y u => Ext t u ∧ y.1 ≤ el.length ∧ 0 ≤ y.2.1 ∧ y.2.1 = (if y.1 = 0 then 0 else el.getD (y.1 - 1) default) ∧ 0 ≤ y.2.2 ∧ y.2.2 ≤ 10000000 * y.1) (fun y => el.length - y.1) rfl (fun _ => rfl)
            ⟨(0, 0, 0), ?_, .refl _, Nat.zero_le _, by dsimp only; omega, by simp, by dsimp only; omega, by simp⟩ ?_
          · simp only [↓CTL, VAL, DFR, Nat.reduceBEq]; try first | rfl | exact ⟨rfl, rfl, rfl⟩
          · rintro ⟨i, from', sum⟩ f u ⟨hEu, hi, hf0, hfr, hs0, hs1⟩
            dsimp only at hi hf0 hfr hs0 hs1 ⊢
            have hnu := hEu.1
            have r7u := (hEu.2 (σ.next + 1 + 1) (by omega)).trans r7
            simp (disch := omega) only [↓CTL, ↓DRW, VAL, DRV, DFR, Nat.reduceBEq, Nat.reduceAdd, m27_1]
            refine B_if (fun hlt => ?_) (fun hge => ?_)
            · have hm := hmon' i (by omega)
              rw [← hfr] at hm
              simp (disch := omega) only [↓CTL, ↓DRW, VAL, DRV, DFR, Nat.reduceBEq, Nat.reduceAdd, m27_1, heS, rI_eq, Int.toNat_natCast]
              generalize hgi : el.getD i default = nd at hm
              have p9u := (hEu.2 NS (by omega)).trans p9
              have q8u := (hEu.2 N (by omega)).trans q8
              refine s59 hok hrok hwds p9u q8u (by omega) (by omega) hf0 hm.1 hm.2 fun c c0 c1 => ?_
              simp (disch := omega) only [↓CTL, ↓DRW, VAL, DRV, DFR, Nat.reduceBEq, Nat.reduceAdd, m27_1]
              refine dr_go [] [] ?_ ?_; · decide
              rw [FR.row_eq] at q8u
              simp (disch := omega) only [↓CTL, ↓DRW, VAL, DRV, DFR, Nat.reduceBEq, Nat.reduceAdd, m27_1, p9u, q8u]
              refine s48 (fun hle => ?_) (fun _ => ?_)
              · simp (disch := omega) only [↓CTL, ↓DRW, VAL, DRV, DFR, Nat.reduceBEq, Nat.reduceAdd, PAN, m27_1]
                refine dr_go [] [] ?_ ?_; · decide
                simp (disch := omega) only [↓CTL, ↓DRW, VAL, DRV, DFR, Nat.reduceBEq, Nat.reduceAdd, m27_1]
                exact ⟨(i + 1, nd, sum + c), ⟨rfl, rfl, rfl⟩, ⟨hEu.alloc _, by dsimp only; omega, by dsimp only; omega, by simp [← hgi], by dsimp only; omega, by dsimp only; omega⟩, by dsimp only; omega⟩
              · simp (disch := omega) only [↓CTL, ↓DRW, VAL, DRV, DFR, Nat.reduceBEq, Nat.reduceAdd, PAN]
                have r7v : (u.alloc (.cells 4 [[.int .i64 from', .int .i64 nd, .int .i64 (lineW x ws from' nd), .int .i64 c]])).objs (σ.next + 1 + 1) = some (.cells 1 [[.int .i64 0]]) := (objs_old (by omega)).trans r7u
                exact ⟨by decide, endP (T := σ.next + 1 + 1) rfl r7v (res27 (T := σ.next + 1 + 1) rfl rfl objs_here) ⟨_, _, rfl, ((hE'.trans hEu).alloc _).set (by omega) _⟩⟩
            · simp (disch := omega) only [↓CTL, ↓DRW, VAL, DRV, DFR, Nat.reduceBEq, Nat.reduceAdd, m27_1, r7u]
              exact end1 (T := σ.next + 1 + 1) rfl (res27 (T := σ.next + 1 + 1) rfl rfl objs_here) ⟨_, _, rfl, (hE'.trans hEu).set (by omega) _⟩
        · simp (disch := omega) only [↓CTL, ↓DRW, VAL, DRV, DFR, PAN, Nat.reduceBEq, Nat.reduceAdd]
          exact endP (T := σ.next + 1 + 1) rfl r7 (res27 (T := σ.next + 1 + 1) rfl rfl objs_here) ⟨_, _, rfl, hE'.set (by omega) _⟩
  · have r7 := hE.2 (σ.next + 1 + 1) (by simp only [VAL]; omega)
    simp (disch := omega) only [VAL] at r7
    have hE' : Ext σ s := Ext.trans (by repeat first | exact Ext.refl _ | refine Ext.alloc ?_ _) hE
    simp (disch := omega) only [↓CTL, ↓DRW, VAL, DRV, DFR, PAN, Nat.reduceBEq, Nat.reduceAdd]
    exact endP (T := σ.next + 1 + 1) rfl r7 (res27 (T := σ.next + 1 + 1) rfl rfl objs_here) ⟨_, _, rfl, hE'.set (by omega) _⟩
end Go.Proofs.YtkfahdbjndihfacGreatDoor
namespace Go.Proofs.YtkfahdbjndihfacGreatDoor
open Go.Tc
set_option linter.unusedSimpArgs false
set_option linter.unusedVariables false
set_option maxRecDepth 20000
set_option maxHeartbeats 1000000
def PR (x : FR) (ws : List Wd) (rl : List Rs) (k : Nat) (args : List AVal) : Prop :=
  k < ws.length ∧ ∃ (n : Nat) (left : Int), ix rl n ≤ k ∧ k < ix rl (n + 1) ∧ n ≤ 40 ∧ 0 ≤ left ∧ left + (ws.getD k default).wide ≤ x.ms ∧
    args = [.agg (ws.getD k default).row, .agg [.int .i64 ((n : Int).tdiv x.ln), .int .i64 ((n : Int).tmod x.ln), .int .i64 left]]
structure PlI (J : Nat → (Nat → Prop) → AHeap → Prop) (yv : AVal) (q NS : Nat) (k : Nat) (t : AHeap) : Prop where
  j : ∃ X, J k X t ∧ (∀ M, q ≤ M → M < q + 3 → X M)
  y : t.objs q = some (.cells 1 [[yv]])
  c : t.objs (q + 1) = some (.cells 1 [[.ptr NS 0 0]])
  lt : q + 3 ≤ t.next
theorem PlI.ext {J : Nat → (Nat → Prop) → AHeap → Prop} (hJ : ∀ k, Loose (J k)) {yv : AVal} {q NS k : Nat} {t t' : AHeap} (h : PlI J yv q NS k t) (hE : Ext t t') : PlI J yv q NS k t' := by
  obtain ⟨⟨X, h1, h2⟩, h3, h4, h5⟩ := h
  have := hE.1
  exact ⟨⟨_, (hJ k).ext X _ _ h1 hE, fun M k1 k2 => .inl (h2 M k1 k2)⟩, (hE.2 _ (by omega)).trans h3, (hE.2 _ (by omega)).trans h4, by omega⟩
theorem PlI.set {J : Nat → (Nat → Prop) → AHeap → Prop} (hJ : ∀ k, Loose (J k)) {yv : AVal} {q NS k : Nat} {t : AHeap} (h : PlI J yv q NS k t) (o : AObj) : PlI J yv q NS k (t.set (q + 2) o) := by
  obtain ⟨⟨X, h1, h2⟩, h3, h4, h5⟩ := h
  exact ⟨⟨_, (hJ k).set X _ _ _ (h2 _ (by omega) (by omega)) h1, h2⟩, by rw [objs_else (by omega)]; exact h3, by rw [objs_else (by omega)]; exact h4, h5⟩
theorem lineW_take {x : FR} {ws : List Wd} {a b : Nat} (h : a ≤ b) : lineW x ws a b = 0 - x.space + sumW x ((ws.drop a).take (b - a)) := by
  have e1 : ((b : Int) - a).toNat = b - a := by omega
  simp only [lineW, e1, Int.toNat_natCast]
theorem sumW_append {x : FR} {a b : List Wd} : sumW x (a ++ b) = sumW x a + sumW x b := by simp only [sumW, List.map_append, List.sum_append]
theorem sumW_mono {x : FR} {l : List Wd} {i : Nat} (hi : i < l.length) (h : ∀ w ∈ l, 0 ≤ x.space + w.wide) : sumW x (l.take i) + (x.space + (l.getD i default).wide) ≤ sumW x l := by
  have h2 : 0 ≤ sumW x (l.drop (i + 1)) := by
    have : ∀ m : List Wd, (∀ w ∈ m, 0 ≤ x.space + w.wide) → 0 ≤ sumW x m := fun m => by
      induction m with
      | nil => intro _; simp [sumW]
      | cons w m ih =>
        intro h
        have h1 := ih fun v hv => h v (by simp [hv])
        have h2 := h w (by simp)
        simp only [sumW, List.map_cons, List.sum_cons] at h1 ⊢
        omega
    exact this _ fun w hw => h w (List.mem_of_mem_drop hw)
  have h3 : sumW x l = sumW x (l.take (i + 1)) + sumW x (l.drop (i + 1)) := by
    rw [← sumW_append, List.take_append_drop]
  rw [h3, take_succ hi, sumW_app]
  omega
theorem s78 {x : FR} {wv : AVal} {ws : List Wd} {rl : List Rs} (hL : Lns x wv ws rl) {a b NS C : Nat} :
    IterZ Tryz.prog (.func (.func 78) [] [.ptr C 0 0]) (fun s => C < s.next ∧ s.objs C = some (.cells 1 [[.ptr NS 0 0]]) ∧ Sht x wv ws rl a b NS s) (PR x ws rl) (fun m => m ≤ ws.length) := by
  intro yv J E hy hJ hE hD hr s0 h0
  have hn := hL.w.n
  have hwS := hL.w.v.S
  have hms := hL.rok.ms
  have hln := hL.rok.ln
  have hsp := hL.ok.sp
  refine RunV.func mixed k78 (by simp) ?_
  simp (disch := omega) only [c78, ↓CTL, ↓DRW, ↓STR, VAL, DRV, Nat.reduceBEq, Nat.reduceAdd, hy]
  obtain ⟨hCs, g1, hS0⟩ := hD 0 _ s0 h0
  simp (disch := omega) only [↓CTL, ↓DRW, ↓STR, VAL, DRV, Nat.reduceBEq, Nat.reduceAdd, g1]
  refine s54 ?_
  simp (disch := omega) only [↓CTL, ↓DRW, ↓RK, VAL, DRV, Nat.reduceBEq, Nat.reduceAdd]
  refine A_rangeI (g := 77) (first := []) (caps := [.ptr (s0.next + 1) 0 0]) ?_ (s77 (a := a) (b := b) (NS := NS) (C := s0.next + 1) hL) (fun j t => ix rl j ≤ ws.length ∧ PlI J yv s0.next NS (ix rl j) t) (fun e t => e = .ret ∧ ∃ X, E X t ∧ X (s0.next + 2) ∧ s0.next + 2 < t.next) (by kernel_rfl) (fun L h => by cases h)
    (fun k s1 s2 h hE => ⟨h.1, h.2.ext hJ hE⟩) (fun k s1 lo h => ⟨h.1, h.2.set hJ _⟩) (fun k s1 h => ⟨h.2.c, ?_⟩) (fun k s1 h => by have := h.2.lt; simp only [VAL]; omega) (fun lo => ⟨Nat.zero_le _, ?_⟩) ?_ ?_ ?_
  · simp (disch := omega) only [↓CTL, VAL, Nat.reduceBEq]
  · obtain ⟨X, h, _⟩ := h.2.j
    exact (hD _ _ _ h).2.2
  · have hE2 : Ext s0 (((s0.alloc (.cells 1 [[yv]])).alloc (.cells 1 [[.ptr NS 0 0]])).alloc (.loop lo)) := by repeat first | exact Ext.refl _ | refine Ext.alloc ?_ _
    exact ⟨⟨_, (hJ 0).ext _ _ _ h0 hE2, fun M k1 k2 => .inr ⟨k1, by simp only [VAL]; omega⟩⟩, by simp (disch := omega) only [VAL], by simp (disch := omega) only [VAL], by simp only [VAL]; omega⟩
  · rintro n t lo args ⟨hix, hI⟩ hLo ⟨i1, i2, c, c0, c1, rfl⟩
    refine ⟨rfl, ?_⟩
    obtain ⟨j1, j2, j3, j4⟩ := ix_step hL.f hL.l i1
    have hlt := hI.lt
    have hLo' : t.objs (s0.next + 1 + 1) = some (.loop lo) := hLo
    have hLo := hLo'
    simp (disch := omega) only [↓CTL, ↓DRW, ↓RK, VAL, ENV, DRV, DFR, Nat.reduceBEq, Nat.reduceAdd, hLo]
    intro lo'
    have hI1 := hI.set hJ (.loop lo')
    have hL1 : (t.set (s0.next + 2) (.loop lo')).objs (s0.next + 1 + 1) = some (.loop lo') := objs_here
    have hlt1 : (t.set (s0.next + 2) (.loop lo')).next = t.next := rfl
    rw [show s0.next + 1 + 1 = s0.next + 2 from rfl]
    generalize t.set (s0.next + 2) (.loop lo') = t1 at hI1 hL1 hlt1
    obtain ⟨X1, hX1, hX1q⟩ := hI1.j
    obtain ⟨hC1, g1, hS1⟩ := hD _ _ _ hX1
    obtain ⟨N, NR, p1, p2, p3, p4, p5, p6, p7, p8, p9, p10, p11⟩ := hS1.h
    obtain ⟨M1, M2, z1, u1, z2, u2, q1, q2, q3, q4, q5, q6, e1, e2, q7, q8, q9, q10, q11, q12⟩ := p8.h
    rw [FR.row_eq] at q8
    refine dg_go' [] [] (by decide) (by simp only [GHL, gl_c1]; rfl) (by simp only [GHL, gl_c1, gl_len, gl_len0, Nat.reduceAdd]; rfl) ?_
    simp (disch := omega) only [↓CTL, ↓DRW, ↓RK, VAL, ENV, DRV, DFR, Nat.reduceBEq, Nat.reduceAdd, g1, p9, q8]
    refine dr_go [] [] ?_ ?_; · decide
    simp (disch := omega) only [↓CTL, ↓DRW, ↓RK, VAL, ENV, DRV, DFR, Nat.reduceBEq, Nat.reduceAdd, g1, p9, hwS]
    have hsub := RV.sub hL.w.v (a := (ix rl n : Nat)) (b := (ix rl (n + 1) : Nat)) (by omega) (by omega) (by omega)
    have hsS := hsub.S
    have hW := lineW_take (x := x) (ws := ws) (a := ix rl n) (b := ix rl (n + 1)) (by omega)
    have hmem : ∀ w ∈ (ws.drop (ix rl n)).take (ix rl (n + 1) - ix rl n), w ∈ ws := fun w h => mem_sub h
    have hget : ∀ i, i < ix rl (n + 1) - ix rl n → ((ws.drop (ix rl n)).take (ix rl (n + 1) - ix rl n)).getD i default = ws.getD (ix rl n + i) default := fun i hi => by
      simp only [List.getD_eq_getElem?_getD]
      rw [List.getElem?_take, if_pos hi, List.getElem?_drop]
    have hlen : ((ws.drop (ix rl n)).take (ix rl (n + 1) - ix rl n)).length = ix rl (n + 1) - ix rl n := by simp; omega
    have e1 : ((ix rl (n + 1) : Nat) - (ix rl n : Nat) : Int).toNat = ix rl (n + 1) - ix rl n := by omega
    simp only [e1, Int.toNat_natCast] at hsub hsS
    generalize hLL : (ws.drop (ix rl n)).take (ix rl (n + 1) - ix rl n) = L at hsub hsS hW hmem hget hlen
    have hbd : ∀ w ∈ L, 0 ≤ w.wide ∧ w.wide ≤ 48 := fun w h => by
      obtain ⟨k1, k2, k3⟩ := hL.w.w w (hmem w h)
      have := k1.wide
      omega
    have hsw := sumW_bd (x := x) hsp hbd
    rw [hlen] at hsS
    simp (disch := omega) only [↓CTL, ↓DRW, ↓RK, VAL, ENV, DRV, DFR, Nat.reduceBEq, Nat.reduceAdd, hsS]
    have w1 : IntKind.i64.wrap ((n : Int).tdiv x.ln) = (n : Int).tdiv x.ln := by
      have k1 : 0 ≤ (n : Int).tdiv x.ln := Int.tdiv_nonneg (by omega) (by omega)
      have k2 : (n : Int).tdiv x.ln ≤ n := by rw [Int.tdiv_eq_ediv_of_nonneg (by omega)]; exact Int.ediv_le_self _ (by omega)
      exact wrap_in (by omega) (by omega)
    obtain ⟨left, hl0, hl1, hl2⟩ : ∃ left, IntKind.i64.wrap ((x.ms - lineW x ws (ix rl n : Nat) (ix rl (n + 1) : Nat)).tdiv 2) = left ∧ 0 ≤ left ∧ left + lineW x ws (ix rl n : Nat) (ix rl (n + 1) : Nat) ≤ x.ms := by
      have k0 : (x.ms - lineW x ws (ix rl n : Nat) (ix rl (n + 1) : Nat)).tdiv 2 = (x.ms - lineW x ws (ix rl n : Nat) (ix rl (n + 1) : Nat)) / 2 := Int.tdiv_eq_ediv_of_nonneg (by omega)
      refine ⟨_, rfl, ?_⟩
      rw [k0, wrap_in (by omega) (by omega)]
      omega
    rw [w1, hl0]
    generalize hT : AHeap.set _ (t1.next + 1) _ = t2
    have hE2 : Ext t1 t2 := by
      rw [← hT]; repeat first | exact Ext.refl _ | refine Ext.alloc ?_ _ | refine Ext.set ?_ (by first | omega | (simp only [VAL]; omega)) _
    have hn2 : t2.next = t1.next + 2 := by rw [← hT]; simp only [VAL]
    have h5 : t2.objs (t1.next + 1) = some (.cells 3 [[.int .i64 ((n : Int).tdiv x.ln), .int .i64 ((n : Int).tmod x.ln), .int .i64 left]]) := by rw [← hT]; simp (disch := omega) only [VAL]
    clear hT
    refine A_loopV (α := Nat) m78_0 (fun i => [(55, .int .i64 i)]) (fun i u => i ≤ L.length ∧ t1.next + 2 ≤ u.next ∧ u.objs s0.next = some (.cells 1 [[yv]]) ∧ u.objs (s0.next + 1) = some (.cells 1 [[.ptr NS 0 0]]) ∧ u.objs (s0.next + 2) = some (.loop lo') ∧ u.objs (t1.next + 1) = some (.cells 3 [[.int .i64 ((n : Int).tdiv x.ln), .int .i64 ((n : Int).tmod x.ln), .int .i64 (left + sumW x (L.take i))]]) ∧
      ∃ X, J (ix rl n + i) X u ∧ (∀ M, s0.next ≤ M → M < s0.next + 3 → X M) ∧ X (t1.next + 1)) (fun i => L.length - i) rfl (fun _ => rfl)
      ⟨0, ?_, Nat.zero_le _, by omega, (hE2.2 _ (by omega)).trans hI1.y, (hE2.2 _ (by omega)).trans hI1.c, (hE2.2 _ (by omega)).trans hL1, ?_, _, (hJ _).ext _ _ _ hX1 hE2, fun M k1 k2 => .inl (hX1q M k1 k2), .inr ⟨by omega, by omega⟩⟩ ?_
    · simp only [↓CTL, VAL, ENV, Nat.reduceBEq]; try rfl
    · rw [h5]; simp [sumW]
    · rintro i f u ⟨hi, hun, uy, uc, uL, u5, X, hX, hXq, hX5⟩
      simp (disch := omega) only [↓CTL, ↓DRW, ↓RK, VAL, ENV, DRV, DFR, Nat.reduceBEq, Nat.reduceAdd, m78_0]
      refine B_if (fun hlt2 => ?_) (fun hge => ?_)
      · have hwi := hbd _ (getD_mem (l := L) (j := i) (by omega))
        have hoi := (hL.w.w (L.getD i default) (hmem _ (getD_mem (l := L) (j := i) (by omega)))).1
        have o1 := (hoi.g s0).one
        have o2 := (hoi.a s0).one
        have hm := sumW_mono (x := x) (l := L) (i := i) (by omega) (fun w h => by have := hbd w h; omega)
        have hb0 := sumW_bd (x := x) hsp (ws := L.take i) fun w h => hbd w (List.mem_of_mem_take h)
        have hs1 : sumW x (L.take (i + 1)) = sumW x (L.take i) + (x.space + (L.getD i default).wide) := by rw [take_succ (by omega), sumW_app]
        have hgi := hget i (by omega)
        simp (disch := omega) only [↓CTL, ↓DRW, ↓RK, VAL, ENV, DRV, DFR, Nat.reduceBEq, Nat.reduceAdd, m78_0, hsS, Wd.row_eq, Int.toNat_natCast, o1, o2, uy, u5]
        generalize hu1 : u.alloc (.cells 4 [[.str (L.getD i default).text, (L.getD i default).gv, (L.getD i default).av, .int .i64 (L.getD i default).wide]]) = u1
        have hEu : Ext u u1 := by rw [← hu1]; exact (Ext.refl _).alloc _
        have hnu : u1.next = u.next + 1 := by rw [← hu1]; rfl
        have u7 : u1.objs u.next = some (.cells 4 [[.str (L.getD i default).text, (L.getD i default).gv, (L.getD i default).av, .int .i64 (L.getD i default).wide]]) := by rw [← hu1]; exact objs_new rfl
        refine (hr _ _ _ _ ((hJ _).ext _ _ _ hX hEu) ⟨by omega, n, left + sumW x (L.take i), by omega, by omega, by omega, by omega, ?_, ?_⟩).mono fun o u2 hz => ?_
        · rw [← hgi]; omega
        · rw [← hgi]; rfl
        · obtain ⟨hkeep, hnx, hz⟩ := hz
          have uy2 := (hkeep s0.next (.inl (hXq _ (by omega) (by omega)))).trans ((hEu.2 _ (by omega)).trans uy)
          have uc2 := (hkeep (s0.next + 1) (.inl (hXq _ (by omega) (by omega)))).trans ((hEu.2 _ (by omega)).trans uc)
          have uL2 := (hkeep (s0.next + 2) (.inl (hXq _ (by omega) (by omega)))).trans ((hEu.2 _ (by omega)).trans uL)
          have u52 := (hkeep (t1.next + 1) (.inl hX5)).trans ((hEu.2 _ (by omega)).trans u5)
          have u72 := (hkeep u.next (.inr ⟨Nat.le_refl _, by omega⟩)).trans u7
          rcases hz with ⟨rfl, hJ'⟩ | ⟨rfl, hE'⟩
          · simp (disch := omega) only [↓CTL, ↓DRW, ↓RK, VAL, ENV, DRV, DFR, Nat.reduceBEq, Nat.reduceAdd, m78_0, Bool.not_true]
            refine dr_go [] [] ?_ ?_; · decide
            obtain ⟨hC3, g3, hS3⟩ := hD _ _ _ hJ'
            obtain ⟨N', NR', y1, y2, y3, y4, y5, y6, y7, y8, y9, y10, y11⟩ := hS3.h
            obtain ⟨M1', M2', z1', u1', z2', u2', v1, v2, v3, v4, v5, v6, f1, f2, v7, v8, v9, v10, v11, v12⟩ := y8.h
            rw [FR.row_eq] at v8
            simp (disch := omega) only [↓CTL, ↓DRW, ↓RK, VAL, ENV, DRV, DFR, Nat.reduceBEq, Nat.reduceAdd, m78_0, u52, u72, g3, y9, v8]
            refine ⟨i + 1, rfl, ⟨by omega, by omega, uy2, uc2, uL2, ?_, _, (hJ _).set _ _ _ _ (.inl hX5) hJ', fun M k1 k2 => .inl (hXq M k1 k2), .inl hX5⟩, by omega⟩
            rw [hs1]
            congr 7
            omega
          · simp (disch := omega) only [↓CTL, ↓DRW, ↓RK, VAL, ENV, DRV, DFR, Nat.reduceBEq, Nat.reduceAdd, m78_0, Bool.not_false]
            refine ⟨uL2, fun lo2 => ⟨_, hE.set _ _ _ _ (.inl (hXq _ (by omega) (by omega))) hE', .inl (hXq _ (by omega) (by omega)), by omega⟩⟩
      · simp (disch := omega) only [↓CTL, ↓DRW, ↓RK, VAL, ENV, DRV, DFR, Nat.reduceBEq, Nat.reduceAdd, m78_0]
        have hi' : i = ix rl (n + 1) - ix rl n := by omega
        have hJi : J (ix rl (n + 1)) X u := by
          have : ix rl n + i = ix rl (n + 1) := by omega
          rw [← this]; exact hX
        exact ⟨uL, fun lo2 => ⟨j3, PlI.set hJ ⟨⟨X, hJi, hXq⟩, uy, uc, by omega⟩ _⟩⟩
  · rintro m t ⟨hm, hm2⟩ ⟨_, hI⟩
    obtain ⟨X, h1, h2⟩ := hI.j
    simp (disch := omega) only [↓CTL, ↓DRW, ↓RK, VAL, ENV, DRV, DFR, Nat.reduceBEq, Nat.reduceAdd]
    exact ⟨⟨_, rfl⟩, .inl ⟨_, X, by rw [hm]; exact Nat.le_refl _, (hJ _).kill _ _ _ (h2 _ (by omega) (by omega)) h1⟩⟩
  · rintro e t ⟨rfl, X, h1, h2, h3⟩
    simp (disch := omega) only [↓CTL, ↓DRW, ↓RK, VAL, ENV, DRV, DFR, Nat.reduceBEq, Nat.reduceAdd]
    exact ⟨⟨_, rfl⟩, .inr ⟨X, hE.kill _ _ _ h2 h1⟩⟩
end Go.Proofs.YtkfahdbjndihfacGreatDoor
namespace Go.Proofs.YtkfahdbjndihfacGreatDoor
open Go.Tc
set_option linter.unusedSimpArgs false
set_option linter.unusedVariables false
set_option maxRecDepth 20000
set_option maxHeartbeats 1000000
theorem res14 {env : AEnv} {σ : AHeap} {T : Nat} {u : AVal} {c e : Int} (h4 : env.t 4 = u) (h5 : env.t 5 = .int .i64 c) (h6 : env.t 6 = .ptr T 0 0) (o6 : σ.objs T = some (.cells 1 [[.int .i64 e]])) : resAs env σ [.t 4, .t 5, .cell 6 false 1] = some [u, .int .i64 c, .int .i64 e] := by
  simp only [resAs, h4, h5, h6, ld1 o6]; rfl
theorem s14 {σ : AHeap} (x : FR) (hx : x.rd) (hz : x.ms = 0 ∧ x.ln = 0 ∧ x.ld = 0 ∧ x.sh = 0 ∧ x.ex = 0 ∧ x.ink = 0) {text : ByteArray} : RunV Tryz.prog (.func (.func 14) [] []) [.agg x.fv, .str text] σ (fun o s => ∃ u c e l, o = .ret (.tup [u, .int .i64 c, .int .i64 e]) ∧ Ext σ s ∧ OwnS s σ.next 1 rI u l ∧ l.length ≤ 1000) := by
  have o1 := (hx.g σ).one
  have o2 := (hx.k σ).one
  have hfv : x.fv = [.int .i64 x.high, .int .i64 x.space, x.gv, x.kv] := rfl
  refine RunV.funcD mixed k14 (by simp) ?_
  rw [hfv]
  simp (disch := omega) only [c14, ↓CTL, ↓DRW, ↓STR, VAL, DRV, DFR, Nat.reduceBEq, Nat.reduceAdd, o1, o2]
  refine L_dfr (g := 45) (first := []) (caps := []) rfl ?_
  simp (disch := omega) only [↓CTL, ↓DRW, ↓STR, VAL, DRV, DFR, Nat.reduceBEq, Nat.reduceAdd, o1, o2]
  have bad : ∀ (env : AEnv) (t : AHeap) (e e0 : Int) (u : AVal) (c : Int), env.ds = [(.func (.func 45) [] [], [.ptr (σ.next + 1) 0 0])] → env.t 4 = .nilS → env.t 5 = .int .i64 c → env.t 6 = .ptr (σ.next + 1) 0 0 → t.objs (σ.next + 1) = some (.cells 1 [[.int .i64 e0]]) → Ext σ t →
      retD Tryz.prog [.t 4, .t 5, .cell 6 false 1] (fun o s => ∃ u c e l, o = .ret (.tup [u, .int .i64 c, .int .i64 e]) ∧ Ext σ s ∧ OwnS s σ.next 1 rI u l ∧ l.length ≤ 1000) (.panic (.iface 37 (.int .i64 e))) env t := fun env t e e0 u c h1 h4 h5 h6 h7 hE =>
    endP h1 h7 (res14 (T := σ.next + 1) h4 h5 h6 objs_here) ⟨_, _, _, [], rfl, hE.set (by omega) _, .nil, by simp⟩
  refine s47 x hx hz (fun N s hok hE hS => ?_) (fun e s hE => ?_)
  case refine_2 =>
    have r0 := hE.2 (σ.next + 1) (by simp only [VAL]; omega)
    simp (disch := omega) only [VAL] at r0
    simp (disch := omega) only [↓CTL, ↓DRW, VAL, DRV, DFR, PAN, Nat.reduceBEq, Nat.reduceAdd]
    exact bad _ _ _ _ .nilS _ rfl rfl rfl rfl r0 (Ext.trans (by repeat first | exact Ext.refl _ | refine Ext.alloc ?_ _) hE)
  have r0 := hE.2 (σ.next + 1) (by simp only [VAL]; omega)
  simp (disch := omega) only [VAL] at r0
  have hE' : Ext σ s := Ext.trans (by repeat first | exact Ext.refl _ | refine Ext.alloc ?_ _) hE
  have hb := hE.1
  simp only [VAL] at hb
  simp (disch := omega) only [↓CTL, ↓DRW, ↓STR, VAL, DRV, DFR, Nat.reduceBEq, Nat.reduceAdd]
  refine s42 fun b => ?_
  simp (disch := omega) only [↓CTL, ↓DRW, ↓STR, VAL, DRV, DFR, Nat.reduceBEq, Nat.reduceAdd]
  refine G_ifb (fun hb1 => ?_) (fun hb1 => ?_)
  case refine_2 =>
    rw [hb1]
    simp (disch := omega) only [↓CTL, ↓DRW, ↓STR, VAL, DRV, DFR, Nat.reduceBEq, Nat.reduceAdd, Bool.not_true]
    refine s48b (fun h => absurd h (by decide)) (fun _ => ?_)
    simp (disch := omega) only [↓CTL, ↓DRW, VAL, DRV, DFR, PAN, Nat.reduceBEq, Nat.reduceAdd]
    exact bad _ _ _ _ .nilS _ rfl rfl rfl rfl r0 hE'
  rw [hb1]
  simp (disch := omega) only [↓CTL, ↓DRW, ↓STR, VAL, DRV, DFR, Nat.reduceBEq, Nat.reduceAdd]
  refine s48 (fun h24 => ?_) (fun _ => ?_)
  case refine_2 =>
    simp (disch := omega) only [↓CTL, ↓DRW, VAL, DRV, DFR, PAN, Nat.reduceBEq, Nat.reduceAdd]
    exact bad _ _ _ _ .nilS _ rfl rfl rfl rfl r0 hE'
  simp (disch := omega) only [↓CTL, ↓DRW, ↓STR, VAL, DRV, DFR, Nat.reduceBEq, Nat.reduceAdd]
  refine s49o x hx hok hS (by omega) (fun w t hwt hEt h1 h2 h3 => ?_) (fun e t hEt => ?_)
  case refine_2 =>
    simp (disch := omega) only [↓CTL, ↓DRW, VAL, DRV, DFR, PAN, Nat.reduceBEq, Nat.reduceAdd]
    exact bad _ _ _ _ .nilS _ rfl rfl rfl rfl ((hEt.2 _ (by omega)).trans r0) (hE'.trans hEt)
  have r1 := (hEt.2 (σ.next + 1) (by omega)).trans r0
  have hbt := hEt.1
  have hsz := h3.sz
  simp (disch := omega) only [↓CTL, ↓DRW, ↓STR, VAL, DRV, DFR, Nat.reduceBEq, Nat.reduceAdd, Wd.row_eq, h1.one, h2.one]
  refine dg_go' [] [] (by decide) (by simp only [GHL, gl_c1]; rfl) (by simp only [GHL, gl_c1, gl_len, gl_len0, Nat.reduceAdd]; rfl) ?_
  simp (disch := omega) only [↓CTL, ↓DRW, ↓STR, VAL, DRV, DFR, Nat.reduceBEq, Nat.reduceAdd, Wd.row_eq, h1.one, h2.one, r1]
  refine end1 (T := σ.next + 1) rfl (res14 (T := σ.next + 1) rfl rfl rfl ((objs_old (by simp only [VAL]; omega)).trans objs_here)) ⟨_, _, _, w.gs, rfl, ?_, (((h1.set (h1.off_old (by omega)) _).alloc _).weak (by omega)), by rw [hwt] at hsz; omega⟩
  exact ((hE'.trans hEt).set (by omega) _).alloc _
theorem res34 {env : AEnv} {σ : AHeap} {T8 T9 : Nat} {p l f e : Int} (h8 : env.t 8 = .ptr T8 0 0) (h9 : env.t 9 = .ptr T9 0 0) (o8 : σ.objs T8 = some (.cells 3 [[.int .i64 p, .int .i64 l, .int .i64 f]])) (o9 : σ.objs T9 = some (.cells 1 [[.int .i64 e]])) :
    resAs env σ [.cell 8 true 3, .cell 9 false 1] = some [.agg [.int .i64 p, .int .i64 l, .int .i64 f], .int .i64 e] := by
  simp only [resAs, h8, h9, load_ptr, o8, o9, loadO_row]; rfl
structure PcI (x : FR) (wv : AVal) (ws : List Wd) (rl : List Rs) (σ : AHeap) (a b NS C T7 : Nat) (k : Nat) (X : Nat → Prop) (t : AHeap) : Prop where
  ext : Ext σ t
  h7 : ∃ w : Int, t.objs T7 = some (.cells 1 [[.int .i64 w]]) ∧ 0 ≤ w ∧ w ≤ 40
  h8 : t.objs (T7 + 1) = some (.cells 3 [[.int .i64 0, .int .i64 0, .int .i64 0]])
  h9 : t.objs (T7 + 1 + 1) = some (.cells 1 [[.int .i64 0]])
  hC : t.objs C = some (.cells 1 [[.ptr NS 0 0]])
  sht : Sht x wv ws rl a b NS t
  ord : σ.next ≤ T7 ∧ T7 + 3 ≤ a ∧ a ≤ b ∧ b ≤ C ∧ C + 2 ≤ t.next
  xs : ∀ M, X M → C + 2 ≤ M ∧ M < t.next
theorem PcI.upd {x : FR} {wv : AVal} {ws : List Wd} {rl : List Rs} {σ : AHeap} {a b NS C T7 k : Nat} {X X' : Nat → Prop} {t t' : AHeap} (h : PcI x wv ws rl σ a b NS C T7 k X t) (hn : t.next ≤ t'.next) (hk : ∀ M, M ≤ C → t'.objs M = t.objs M) (hX : ∀ M, X' M → C + 2 ≤ M ∧ M < t'.next) :
    PcI x wv ws rl σ a b NS C T7 k X' t' := by
  obtain ⟨h1, ⟨w, h2, h3⟩, h4, h5, h6, h7, h8, h9⟩ := h
  have := h1.1
  exact ⟨⟨by omega, fun M hM => (hk M (by omega)).trans (h1.2 M hM)⟩, ⟨w, (hk _ (by omega)).trans h2, h3⟩, (hk _ (by omega)).trans h4, (hk _ (by omega)).trans h5, (hk _ (by omega)).trans h6, h7.keep hn fun M k1 k2 => hk M (by omega), by omega, hX⟩
theorem PcI.loose {x : FR} {wv : AVal} {ws : List Wd} {rl : List Rs} {σ : AHeap} {a b NS C T7 : Nat} (k : Nat) : Loose (PcI x wv ws rl σ a b NS C T7 k) := by
  refine ⟨fun X s s' h hE => h.upd hE.1 (fun M hM => hE.2 M (by have := h.ord; omega)) (fun M hM => ?_), fun X s M o hM h => h.upd (Nat.le_refl _) (fun N hN => objs_else (by have := h.xs M hM; omega)) h.xs, fun X s M hM h => h.upd (Nat.le_refl _) (fun N hN => by rw [AHeap.objs_kill, if_neg]; have := h.xs M hM; omega) h.xs⟩
  have := h.ord
  have := hE.1
  rcases hM with hM | hM
  · have := h.xs M hM; omega
  · omega
structure PcZ (σ : AHeap) (C T7 : Nat) (e : AExit) (X : Nat → Prop) (t : AHeap) : Prop where
  e : e = .ret
  ext : Ext σ t
  h8 : ∃ p l f : Int, t.objs (T7 + 1) = some (.cells 3 [[.int .i64 p, .int .i64 l, .int .i64 f]])
  h9 : t.objs (T7 + 1 + 1) = some (.cells 1 [[.int .i64 0]])
  ord : σ.next ≤ T7 ∧ T7 + 3 ≤ C ∧ C + 2 ≤ t.next
  xs : ∀ M, X M → C + 2 ≤ M ∧ M < t.next
theorem PcZ.upd {σ : AHeap} {C T7 : Nat} {e : AExit} {X X' : Nat → Prop} {t t' : AHeap} (h : PcZ σ C T7 e X t) (hn : t.next ≤ t'.next) (hk : ∀ M, M ≤ C → t'.objs M = t.objs M) (hX : ∀ M, X' M → C + 2 ≤ M ∧ M < t'.next) : PcZ σ C T7 e X' t' := by
  obtain ⟨h0, h1, ⟨p, l, f, h2⟩, h3, h4, h5⟩ := h
  have := h1.1
  exact ⟨h0, ⟨by omega, fun M hM => (hk M (by omega)).trans (h1.2 M hM)⟩, ⟨p, l, f, (hk _ (by omega)).trans h2⟩, (hk _ (by omega)).trans h3, by omega, hX⟩
theorem PcZ.loose {σ : AHeap} {C T7 : Nat} (e : AExit) : Loose (PcZ σ C T7 e) := by
  refine ⟨fun X s s' h hE => h.upd hE.1 (fun M hM => hE.2 M (by have := h.ord; omega)) (fun M hM => ?_), fun X s M o hM h => h.upd (Nat.le_refl _) (fun N hN => objs_else (by have := h.xs M hM; omega)) h.xs, fun X s M hM h => h.upd (Nat.le_refl _) (fun N hN => by rw [AHeap.objs_kill, if_neg]; have := h.xs M hM; omega) h.xs⟩
  have := h.ord
  have := hE.1
  rcases hM with hM | hM
  · have := h.xs M hM; omega
  · omega
theorem s34 {σ : AHeap} (x : FR) (hx : x.rd) {text : ByteArray} {word : Int} : RunV Tryz.prog (.func (.func 34) [] []) [.agg x.fv, .agg x.rv, .str text, .int .i64 word] σ (fun o s => ∃ p l f e : Int, o = .ret (.tup [.agg [.int .i64 p, .int .i64 l, .int .i64 f], .int .i64 e]) ∧ Ext σ s) := by
  have o1 := (hx.g σ).one
  have o2 := (hx.k σ).one
  have hfv : x.fv = [.int .i64 x.high, .int .i64 x.space, x.gv, x.kv] := rfl
  have hrv : x.rv = [.int .i64 x.ms, .int .i64 x.ln, .int .i64 x.ld, .int .i64 x.sh, .int .i64 x.ex, .int .i64 x.ink] := rfl
  refine RunV.funcD mixed k34 (by simp) ?_
  rw [hfv, hrv]
  simp (disch := omega) only [c34, ↓CTL, ↓DRW, VAL, DRV, DFR, Nat.reduceBEq, Nat.reduceAdd, o1, o2]
  refine L_dfr (g := 45) (first := []) (caps := []) rfl ?_
  simp (disch := omega) only [↓CTL, ↓DRW, VAL, DRV, DFR, Nat.reduceBEq, Nat.reduceAdd, o1, o2]
  have bad : ∀ (env : AEnv) (t : AHeap) (e e0 : Int), env.ds = [(.func (.func 45) [] [], [.ptr (σ.next + 1 + 1 + 1 + 1) 0 0])] → env.t 8 = .ptr (σ.next + 1 + 1 + 1) 0 0 → env.t 9 = .ptr (σ.next + 1 + 1 + 1 + 1) 0 0 → t.objs (σ.next + 1 + 1 + 1) = some (.cells 3 [[.int .i64 0, .int .i64 0, .int .i64 0]]) → t.objs (σ.next + 1 + 1 + 1 + 1) = some (.cells 1 [[.int .i64 e0]]) → Ext σ t →
      retD Tryz.prog [.cell 8 true 3, .cell 9 false 1] (fun o s => ∃ p l f e : Int, o = .ret (.tup [.agg [.int .i64 p, .int .i64 l, .int .i64 f], .int .i64 e]) ∧ Ext σ s) (.panic (.iface 37 (.int .i64 e))) env t := fun env t e e0 h1 h8 h9 k8 k9 hE =>
    endP h1 k9 (res34 (T8 := σ.next + 1 + 1 + 1) (T9 := σ.next + 1 + 1 + 1 + 1) h8 h9 (by rw [objs_else (by omega)]; exact k8) objs_here) ⟨_, _, _, _, rfl, hE.set (by omega) _⟩
  refine s53 x hx (fun NS wv ws rl s hok hrok hwds hf hc hE hS => ?_) (fun e s hE => ?_)
  case refine_2 =>
    have r8 := hE.2 (σ.next + 1 + 1 + 1) (by simp only [VAL]; omega)
    have r9 := hE.2 (σ.next + 1 + 1 + 1 + 1) (by simp only [VAL]; omega)
    simp (disch := omega) only [VAL] at r8 r9
    simp (disch := omega) only [↓CTL, ↓DRW, VAL, DRV, DFR, PAN, Nat.reduceBEq, Nat.reduceAdd]
    exact bad _ _ _ _ rfl rfl rfl r8 r9 (Ext.trans (by repeat first | exact Ext.refl _ | refine Ext.alloc ?_ _) hE)
  have r7 := hE.2 (σ.next + 1 + 1) (by simp only [VAL]; omega)
  have r8 := hE.2 (σ.next + 1 + 1 + 1) (by simp only [VAL]; omega)
  have r9 := hE.2 (σ.next + 1 + 1 + 1 + 1) (by simp only [VAL]; omega)
  simp (disch := omega) only [VAL] at r7 r8 r9
  have hb := hE.1
  simp only [VAL] at hb hS
  have hE' : Ext σ s := Ext.trans (by repeat first | exact Ext.refl _ | refine Ext.alloc ?_ _) hE
  obtain ⟨N, NR, p1, p2, p3, p4, p5, p6, p7, p8, p9, p10, p11⟩ := hS.h
  have hn := hwds.n
  have hwS := hwds.v.S
  simp (disch := omega) only [↓CTL, ↓DRW, VAL, DRV, DFR, Nat.reduceBEq, Nat.reduceAdd]
  refine dr_go [] [] ?_ ?_; · decide
  simp (disch := omega) only [↓CTL, ↓DRW, VAL, DRV, DFR, Nat.reduceBEq, Nat.reduceAdd, r7, p9, hwS]
  refine out_spec mixed k41 _ _ _ _ ?_
  simp (disch := omega) only [↓CTL, ↓DRW, VAL, DRV, DFR, Nat.reduceBEq, Nat.reduceAdd]
  refine s48 (fun hin => ?_) (fun _ => ?_)
  case refine_2 =>
    simp (disch := omega) only [↓CTL, ↓DRW, VAL, DRV, DFR, PAN, Nat.reduceBEq, Nat.reduceAdd]
    exact ⟨by decide, bad _ _ _ _ rfl rfl rfl r8 r9 hE'⟩
  simp (disch := omega) only [↓CTL, ↓DRW, VAL, DRV, DFR, PAN, Nat.reduceBEq, Nat.reduceAdd]
  refine s60 ?_
  simp (disch := omega) only [↓CTL, ↓DRW, ↓RK, VAL, ENV, DRV, DFR, Nat.reduceBEq, Nat.reduceAdd]
  refine A_rangeZ (g := 78) (first := []) (caps := [.ptr s.next 0 0]) ?_ (s78 (a := σ.next + 1 + 1 + 1 + 1 + 1) (b := s.next) (NS := NS) (C := s.next) ⟨hok, hrok, hwds, hf, hc, p11⟩) (PcI x wv ws rl σ (σ.next + 1 + 1 + 1 + 1 + 1) s.next NS s.next (σ.next + 1 + 1)) (PcZ σ s.next (σ.next + 1 + 1)) (by kernel_rfl) (fun L h => by cases h)
    PcI.loose PcZ.loose (fun k X t o h => h.upd (Nat.le_refl _) (fun M hM => objs_else (by simp only [VAL]; omega)) h.xs) (fun k X t h => ⟨by have := h.ord; omega, h.hC, h.sht⟩) (fun k X t h => ⟨by have := h.ord; simp only [VAL]; omega, fun hx => by have := h.xs _ hx; simp only [VAL] at this; omega⟩)
    (fun e X t h => ⟨by have := h.ord; simp only [VAL]; omega, fun hx => by have := h.xs _ hx; simp only [VAL] at this; omega⟩) (fun lo => ?_) ?_ ?_ ?_
  · simp (disch := omega) only [↓CTL, ↓DRW, ↓RK, VAL, ENV, DRV, DFR, Nat.reduceBEq, Nat.reduceAdd]
  · have hE2 : Ext s ((s.alloc (.cells 1 [[.ptr NS 0 0]])).alloc (.loop lo)) := by repeat first | exact Ext.refl _ | refine Ext.alloc ?_ _
    exact ⟨hE'.trans hE2, ⟨word, (hE2.2 _ (by omega)).trans r7, by omega⟩, (hE2.2 _ (by omega)).trans r8, (hE2.2 _ (by omega)).trans r9, by simp (disch := omega) only [VAL], hS.keep hE2.1 fun M k1 k2 => hE2.2 M (by omega), by simp only [VAL]; omega, fun _ h => h.elim⟩
  · rintro k X t lo args hI hLo ⟨i1, n, left, i2, i3, i4, i5, i6, rfl⟩
    refine ⟨rfl, ?_⟩
    have hord := hI.ord
    obtain ⟨w, g7, hw0, hw1⟩ := hI.h7
    have g8 := hI.h8
    have g9 := hI.h9
    have hLo' : t.objs (s.next + 1) = some (.loop lo) := hLo
    have hLo := hLo'
    have hwd := (hwds.w _ (getD_mem (l := ws) (j := k) i1)).1
    simp (disch := omega) only [↓CTL, ↓DRW, ↓RK, VAL, ENV, DRV, DFR, Nat.reduceBEq, Nat.reduceAdd, hLo, Wd.row_eq]
    intro lo'
    simp (disch := omega) only [↓CTL, ↓DRW, ↓RK, VAL, ENV, DRV, DFR, Nat.reduceBEq, Nat.reduceAdd, g7]
    refine B_if (fun h0 => ?_) (fun h0 => ?_)
    · simp (disch := omega) only [↓CTL, ↓DRW, ↓RK, VAL, ENV, DRV, DFR, Nat.reduceBEq, Nat.reduceAdd, g7, g8, g9]
      intro lo2
      refine ⟨⟨fun M hM => ?_, by simp only [VAL]; omega⟩, rfl, (by repeat first | exact hI.ext | refine Ext.alloc ?_ _ | refine Ext.set ?_ (by first | omega | (simp only [VAL]; omega)) _), ⟨_, _, _, by simp (disch := omega) only [VAL]; rfl⟩, by simp (disch := omega) only [VAL], by simp only [VAL]; omega, fun M hM => ?_⟩
      · have := hI.xs M hM
        simp (disch := omega) only [VAL]
      · have := hI.xs M hM
        simp only [VAL]; omega
    · simp (disch := omega) only [↓CTL, ↓DRW, ↓RK, VAL, ENV, DRV, DFR, Nat.reduceBEq, Nat.reduceAdd, g7, g8, g9]
      intro lo2
      refine ⟨⟨fun M hM => ?_, by simp only [VAL]; omega⟩, (by repeat first | exact hI.ext | refine Ext.alloc ?_ _ | refine Ext.set ?_ (by first | omega | (simp only [VAL]; omega)) _), ⟨w - 1, by simp (disch := omega) only [VAL], by omega, by omega⟩, by simp (disch := omega) only [VAL, g8], by simp (disch := omega) only [VAL, g9], by simp (disch := omega) only [VAL, hI.hC], hI.sht.keep (by simp only [VAL]; omega) (fun M k1 k2 => by simp (disch := omega) only [VAL]), by simp only [VAL]; omega, fun M hM => ?_⟩
      · have := hI.xs M hM
        simp (disch := omega) only [VAL]
      · have := hI.xs M hM
        simp only [VAL]; omega
  · intro m X t hm hI
    have g8 := hI.h8
    have g9 := hI.h9
    have hord := hI.ord
    simp (disch := omega) only [↓CTL, ↓DRW, ↓RK, VAL, ENV, DRV, DFR, Nat.reduceBEq, Nat.reduceAdd, g8, g9]
    refine end1 (T := σ.next + 1 + 1 + 1 + 1) rfl (res34 (T8 := σ.next + 1 + 1 + 1) (T9 := σ.next + 1 + 1 + 1 + 1) rfl rfl (by rw [objs_else (by omega)]; exact objs_here) objs_here) ⟨_, _, _, _, rfl, ?_⟩
    exact ((hI.ext.kill (by omega)).set (by omega) _).set (by omega) _
  · intro e X t hZ
    obtain ⟨rfl, h1, ⟨p, l, f, h2⟩, h3, h4, h5⟩ := hZ
    simp (disch := omega) only [↓CTL, ↓DRW, ↓RK, VAL, ENV, DRV, DFR, Nat.reduceBEq, Nat.reduceAdd]
    refine end1 (T := σ.next + 1 + 1 + 1 + 1) rfl (res34 (T8 := σ.next + 1 + 1 + 1) (T9 := σ.next + 1 + 1 + 1 + 1) rfl rfl (by rw [AHeap.objs_kill, if_neg (by omega)]; exact h2) (by rw [AHeap.objs_kill, if_neg (by omega)]; exact h3)) ⟨_, _, _, _, rfl, h1.kill (by omega)⟩
end Go.Proofs.YtkfahdbjndihfacGreatDoor
