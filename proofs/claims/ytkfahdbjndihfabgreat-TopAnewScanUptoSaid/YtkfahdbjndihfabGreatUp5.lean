/- Proved here: the law TopAnewScan returns true for every argument of bulk at most 1048576 and leaves it as it was; no other condition. (part 5 of 6.) -/
import Derived.Test.YtkfahdbjndihfabGreatUp4
import Derived.Test.YtkfahdbjndihfabGreatChecked
set_option linter.unusedSimpArgs false
set_option linter.unusedVariables false
set_option linter.unnecessarySimpa false
namespace Go.Proofs.YtkfahdbjndihfabGreat
open Go.Tc
set_option linter.unusedSimpArgs false
set_option linter.unusedVariables false
set_option maxRecDepth 20000
theorem mixed : Tryz.prog.follows .mixedOrders = true := by kernel_rfl
def c3 : ACode :=
 .seq (.ops [
   ⟨(some 1), .box (.t 0), none, []⟩,
   ⟨(some 2), .mv (.c (.bool false)), none, []⟩])
 (.seq (.ops [
   ⟨(some 3), .alloc [.nilS, .nilS], none, []⟩,
   ⟨(some 4), .alloc [.nilS, .nilS], none, []⟩])
 (.seq (.ops [
   ⟨(some 6), .load true 33 (.t 1), none, []⟩,
   ⟨(some 7), .callF 4 [(.t 6), (.t 3)], none, []⟩])
 (.seq (.ops [
   ⟨(some 8), .mkF (.func 6) [] [(.t 1)], none, []⟩,
   ⟨(some 9), .callF 5 [(.t 8)], none, []⟩,
   ⟨(some 10), .mv (.t 9), none, []⟩,
   ⟨(some 11), .mkF (.func 10) [] [(.t 1)], (some (10, true)), []⟩,
   ⟨(some 12), .callF 5 [(.t 11)], (some (10, true)), []⟩,
   ⟨(some 13), .pick (.t 10) (.t 12) (.c (.bool false)), none, []⟩,
   ⟨(some 14), .mv (.t 13), none, []⟩,
   ⟨(some 15), .mkF (.func 13) [] [(.t 1)], (some (14, true)), []⟩,
   ⟨(some 16), .callF 5 [(.t 15)], (some (14, true)), []⟩,
   ⟨(some 17), .pick (.t 14) (.t 16) (.c (.bool false)), none, []⟩,
   ⟨(some 18), .mv (.t 17), none, []⟩,
   ⟨(some 19), .mkF (.func 18) [] [(.t 1)], (some (18, true)), []⟩,
   ⟨(some 20), .callF 5 [(.t 19)], (some (18, true)), []⟩,
   ⟨(some 21), .pick (.t 18) (.t 20) (.c (.bool false)), none, []⟩,
   ⟨(some 22), .mv (.t 21), none, []⟩,
   ⟨(some 23), .mkF (.func 21) [] [(.t 1)], (some (22, true)), []⟩,
   ⟨(some 24), .callF 5 [(.t 23)], (some (22, true)), []⟩,
   ⟨(some 25), .pick (.t 22) (.t 24) (.c (.bool false)), none, []⟩,
   ⟨(some 26), .mv (.t 25), none, []⟩,
   ⟨(some 27), .mkF (.func 25) [] [(.t 1)], (some (26, true)), []⟩,
   ⟨(some 28), .callF 5 [(.t 27)], (some (26, true)), []⟩,
   ⟨(some 29), .pick (.t 26) (.t 28) (.c (.bool false)), none, []⟩,
   ⟨(some 30), .mv (.t 29), none, []⟩,
   ⟨(some 31), .mkF (.func 32) [] [(.t 1)], (some (30, true)), []⟩,
   ⟨(some 32), .callF 5 [(.t 31)], (some (30, true)), []⟩,
   ⟨(some 33), .pick (.t 30) (.t 32) (.c (.bool false)), none, []⟩,
   ⟨(some 34), .mv (.t 33), none, []⟩,
   ⟨(some 35), .mkF (.func 35) [] [(.t 1)], (some (34, true)), []⟩,
   ⟨(some 36), .callF 5 [(.t 35)], (some (34, true)), []⟩,
   ⟨(some 37), .pick (.t 34) (.t 36) (.c (.bool false)), none, []⟩,
   ⟨(some 38), .mv (.t 37), none, []⟩,
   ⟨(some 39), .mkF (.func 38) [] [(.t 1)], (some (38, true)), []⟩,
   ⟨(some 40), .callF 5 [(.t 39)], (some (38, true)), []⟩,
   ⟨(some 41), .pick (.t 38) (.t 40) (.c (.bool false)), none, []⟩,
   ⟨(some 42), .mv (.t 41), none, []⟩,
   ⟨(some 43), .mkF (.func 43) [] [(.t 1)], (some (42, true)), []⟩,
   ⟨(some 44), .callF 5 [(.t 43)], (some (42, true)), []⟩,
   ⟨(some 45), .pick (.t 42) (.t 44) (.c (.bool false)), none, []⟩,
   ⟨(some 46), .mv (.t 45), none, []⟩,
   ⟨(some 47), .mkF (.func 45) [] [(.t 1)], (some (46, true)), []⟩,
   ⟨(some 48), .callF 5 [(.t 47)], (some (46, true)), []⟩,
   ⟨(some 49), .pick (.t 46) (.t 48) (.c (.bool false)), none, []⟩,
   ⟨(some 50), .mv (.t 49), none, []⟩,
   ⟨(some 51), .mkF (.func 50) [] [(.t 1)], (some (50, true)), []⟩,
   ⟨(some 52), .callF 5 [(.t 51)], (some (50, true)), []⟩,
   ⟨(some 53), .pick (.t 50) (.t 52) (.c (.bool false)), none, []⟩,
   ⟨(some 5), .mv (.t 53), none, []⟩])
 (.seq (.ops [
   ⟨(some 54), .load true 33 (.t 1), none, []⟩,
   ⟨(some 55), .callF 4 [(.t 54), (.t 4)], none, []⟩])
 (.seq (.ops [
   ⟨(some 56), .mv (.t 5), none, []⟩,
   ⟨(some 57), .mv (.t 56), none, []⟩,
   ⟨(some 58), .load true 2 (.t 3), (some (57, true)), []⟩,
   ⟨(some 59), .load true 2 (.t 4), (some (57, true)), []⟩,
   ⟨(some 60), .callF 55 [(.t 58), (.t 59)], (some (57, true)), []⟩,
   ⟨(some 61), .pick (.t 57) (.t 60) (.c (.bool false)), none, []⟩,
   ⟨(some 62), .mv (.t 61), none, []⟩,
   ⟨(some 63), .callF 56 [], (some (62, true)), []⟩,
   ⟨(some 64), .pick (.t 62) (.t 63) (.c (.bool false)), none, []⟩,
   ⟨(some 2), .mv (.t 64), none, []⟩])
 (.ret))))))
theorem k3 : compFunc Tryz.prog 3 = some (65, c3, [.t 2]) := by kernel_rfl
def c6 : ACode :=
 .seq (.ops [
   ⟨(some 3), .mv (.c .nilF), none, []⟩])
 (.seq (.ops [
   ⟨(some 5), .fa 0 (.t 1), none, []⟩,
   ⟨(some 6), .load true 3 (.t 5), none, []⟩,
   ⟨(some 7), .callF 7 [(.t 6)], none, []⟩,
   ⟨(some 4), .mv (.t 7), none, []⟩])
 (.seq (.ops [
   ⟨(some 8), .mv (.t 0), none, []⟩,
   ⟨(some 9), .mv (.t 4), none, []⟩,
   ⟨(some 10), .callF 8 [(.t 8), (.t 9)], none, []⟩])
 (.seq (.ops [
   ⟨(some 3), .mv (.f 9), none, []⟩])
 (.ret))))
theorem k6 : compFunc Tryz.prog 6 = some (11, c6, [.t 3]) := by kernel_rfl
def c10 : ACode :=
 .seq (.ops [
   ⟨(some 3), .mv (.c .nilF), none, []⟩])
 (.seq (.ops [
   ⟨(some 5), .fa 3 (.t 1), none, []⟩,
   ⟨(some 6), .load true 3 (.t 5), none, []⟩,
   ⟨(some 7), .fa 6 (.t 1), none, []⟩,
   ⟨(some 8), .load true 3 (.t 7), none, []⟩,
   ⟨(some 9), .callF 11 [(.t 6), (.t 8)], none, []⟩,
   ⟨(some 4), .mv (.t 9), none, []⟩])
 (.seq (.ops [
   ⟨(some 10), .mv (.t 0), none, []⟩,
   ⟨(some 11), .mv (.t 4), none, []⟩,
   ⟨(some 12), .callF 12 [(.t 10), (.t 11)], none, []⟩])
 (.seq (.ops [
   ⟨(some 3), .mv (.f 9), none, []⟩])
 (.ret))))
theorem k10 : compFunc Tryz.prog 10 = some (13, c10, [.t 3]) := by kernel_rfl
def c13 : ACode :=
 .seq (.ops [
   ⟨(some 3), .mv (.c .nilF), none, []⟩])
 (.seq (.ops [
   ⟨(some 7), .fa 0 (.t 1), none, []⟩,
   ⟨(some 8), .load true 3 (.t 7), none, []⟩,
   ⟨(some 9), .fa 9 (.t 1), none, []⟩,
   ⟨(some 10), .load false 1 (.t 9), none, []⟩,
   ⟨(some 11), .fa 10 (.t 1), none, []⟩,
   ⟨(some 12), .load false 1 (.t 11), none, []⟩,
   ⟨(some 13), .fa 11 (.t 1), none, []⟩,
   ⟨(some 14), .load false 1 (.t 13), none, []⟩,
   ⟨(some 15), .callF 14 [(.t 8), (.t 10), (.t 12), (.t 14)], none, []⟩,
   ⟨(some 6), .mv (.t 15), none, []⟩,
   ⟨(some 16), .ext (.t 6) 0, none, []⟩,
   ⟨(some 17), .ext (.t 6) 1, none, []⟩,
   ⟨(some 4), .alloc [(.int .i64 0), (.int .i64 0), .nilS], none, []⟩,
   ⟨none, .store 3 (.t 4) (.t 16), none, []⟩,
   ⟨(some 5), .mv (.t 17), none, []⟩])
 (.seq (.ops [
   ⟨(some 18), .mv (.t 0), none, []⟩,
   ⟨(some 19), .load true 3 (.t 4), none, []⟩,
   ⟨(some 20), .callF 15 [(.t 18), (.t 19)], none, []⟩])
 (.seq (.ops [
   ⟨(some 21), .mv (.t 0), none, []⟩,
   ⟨(some 22), .mv (.t 5), none, []⟩,
   ⟨(some 23), .callF 8 [(.t 21), (.t 22)], none, []⟩])
 (.seq (.ops [
   ⟨(some 24), .mkF (.func 16) [] [(.t 4)], none, []⟩,
   ⟨(some 3), .mv (.t 24), none, []⟩])
 (.ret)))))
theorem k13 : compFunc Tryz.prog 13 = some (25, c13, [.t 3]) := by kernel_rfl
def c16 : ACode :=
 .ops [
   ⟨(some 1), .callF 17 [(.t 0)], none, []⟩]
theorem k16 : compFunc Tryz.prog 16 = some (2, c16, []) := by kernel_rfl
def c18 : ACode :=
 .seq (.ops [
   ⟨(some 3), .mv (.c .nilF), none, []⟩])
 (.seq (.ops [
   ⟨(some 7), .fa 12 (.t 1), none, []⟩,
   ⟨(some 8), .load true 3 (.t 7), none, []⟩,
   ⟨(some 9), .fa 0 (.t 1), none, []⟩,
   ⟨(some 10), .load true 3 (.t 9), none, []⟩,
   ⟨(some 11), .fa 15 (.t 1), none, []⟩,
   ⟨(some 12), .load true 4 (.t 11), none, []⟩,
   ⟨(some 13), .fa 19 (.t 1), none, []⟩,
   ⟨(some 14), .load false 1 (.t 13), none, []⟩,
   ⟨(some 15), .callF 19 [(.t 8), (.t 10), (.t 12), (.t 14)], none, []⟩,
   ⟨(some 6), .mv (.t 15), none, []⟩,
   ⟨(some 16), .ext (.t 6) 0, none, []⟩,
   ⟨(some 17), .ext (.t 6) 1, none, []⟩,
   ⟨(some 4), .alloc [(.int .i64 0), (.int .i64 0), (.int .i64 0)], none, []⟩,
   ⟨none, .store 3 (.t 4) (.t 16), none, []⟩,
   ⟨(some 5), .mv (.t 17), none, []⟩])
 (.seq (.ops [
   ⟨(some 18), .mv (.t 0), none, []⟩,
   ⟨(some 19), .load true 3 (.t 4), none, []⟩,
   ⟨(some 20), .callF 20 [(.t 18), (.t 19)], none, []⟩])
 (.seq (.ops [
   ⟨(some 21), .mv (.t 0), none, []⟩,
   ⟨(some 22), .mv (.t 5), none, []⟩,
   ⟨(some 23), .callF 8 [(.t 21), (.t 22)], none, []⟩])
 (.seq (.ops [
   ⟨(some 3), .mv (.f 9), none, []⟩])
 (.ret)))))
theorem k18 : compFunc Tryz.prog 18 = some (24, c18, [.t 3]) := by kernel_rfl
def c21 : ACode :=
 .seq (.ops [
   ⟨(some 3), .mv (.c .nilF), none, []⟩])
 (.seq (.ops [
   ⟨(some 8), .fa 20 (.t 1), none, []⟩,
   ⟨(some 9), .load false 1 (.t 8), none, []⟩,
   ⟨(some 10), .callF 22 [(.t 9)], none, []⟩,
   ⟨(some 7), .mv (.t 10), none, []⟩,
   ⟨(some 11), .ext (.t 7) 0, none, []⟩,
   ⟨(some 12), .ext (.t 7) 1, none, []⟩,
   ⟨(some 13), .ext (.t 7) 2, none, []⟩,
   ⟨(some 4), .alloc [(.int .i64 0), (.int .i64 0)], none, []⟩,
   ⟨none, .store 2 (.t 4) (.t 11), none, []⟩,
   ⟨(some 5), .mv (.t 12), none, []⟩,
   ⟨(some 6), .mv (.t 13), none, []⟩])
 (.seq (.ops [
   ⟨(some 14), .mv (.t 0), none, []⟩,
   ⟨(some 15), .load true 2 (.t 4), none, []⟩,
   ⟨(some 16), .callF 23 [(.t 14), (.t 15)], none, []⟩])
 (.seq (.ops [
   ⟨(some 17), .mv (.t 0), none, []⟩,
   ⟨(some 18), .mv (.t 5), none, []⟩,
   ⟨(some 19), .callF 24 [(.t 17), (.t 18)], none, []⟩])
 (.seq (.ops [
   ⟨(some 20), .mv (.t 0), none, []⟩,
   ⟨(some 21), .mv (.t 6), none, []⟩,
   ⟨(some 22), .callF 8 [(.t 20), (.t 21)], none, []⟩])
 (.seq (.ops [
   ⟨(some 3), .mv (.f 9), none, []⟩])
 (.ret))))))
theorem k21 : compFunc Tryz.prog 21 = some (23, c21, [.t 3]) := by kernel_rfl
def c25 : ACode :=
 .seq (.ops [
   ⟨(some 3), .mv (.c .nilF), none, []⟩])
 (.seq (.ops [
   ⟨(some 8), .fa 21 (.t 1), none, []⟩,
   ⟨(some 9), .load false 1 (.t 8), none, []⟩,
   ⟨(some 10), .fa 22 (.t 1), none, []⟩,
   ⟨(some 11), .load true 4 (.t 10), none, []⟩,
   ⟨(some 12), .callF 26 [(.t 9), (.t 11)], none, []⟩,
   ⟨(some 7), .mv (.t 12), none, []⟩,
   ⟨(some 13), .ext (.t 7) 0, none, []⟩,
   ⟨(some 14), .ext (.t 7) 1, none, []⟩,
   ⟨(some 15), .ext (.t 7) 2, none, []⟩,
   ⟨(some 4), .alloc [.nilS], none, []⟩,
   ⟨(some 5), .alloc [.nilS], none, []⟩,
   ⟨none, .store 1 (.t 4) (.t 13), none, []⟩,
   ⟨none, .store 1 (.t 5) (.t 14), none, []⟩,
   ⟨(some 6), .mv (.t 15), none, []⟩])
 (.seq (.ops [
   ⟨(some 16), .mv (.t 0), none, []⟩,
   ⟨(some 17), .load false 1 (.t 4), none, []⟩,
   ⟨(some 18), .callF 27 [(.t 16), (.t 17)], none, []⟩])
 (.seq (.ops [
   ⟨(some 19), .mv (.t 0), none, []⟩,
   ⟨(some 20), .load false 1 (.t 5), none, []⟩,
   ⟨(some 21), .callF 28 [(.t 19), (.t 20)], none, []⟩])
 (.seq (.ops [
   ⟨(some 22), .mv (.t 0), none, []⟩,
   ⟨(some 23), .mv (.t 6), none, []⟩,
   ⟨(some 24), .callF 8 [(.t 22), (.t 23)], none, []⟩])
 (.seq (.ops [
   ⟨(some 25), .mkF (.func 29) [] [(.t 4), (.t 5)], none, []⟩,
   ⟨(some 3), .mv (.t 25), none, []⟩])
 (.ret))))))
theorem k25 : compFunc Tryz.prog 25 = some (26, c25, [.t 3]) := by kernel_rfl
def c29 : ACode :=
 .seq (.ops [
   ⟨(some 2), .callF 30 [(.t 0)], none, []⟩])
 (.ops [
   ⟨(some 3), .callF 31 [(.t 1)], none, []⟩])
theorem k29 : compFunc Tryz.prog 29 = some (4, c29, []) := by kernel_rfl
def c32 : ACode :=
 .seq (.ops [
   ⟨(some 3), .mv (.c .nilF), none, []⟩])
 (.seq (.ops [
   ⟨(some 7), .fa 0 (.t 1), none, []⟩,
   ⟨(some 8), .load true 3 (.t 7), none, []⟩,
   ⟨(some 9), .fa 26 (.t 1), none, []⟩,
   ⟨(some 10), .load false 1 (.t 9), none, []⟩,
   ⟨(some 11), .callF 33 [(.t 8), (.t 10)], none, []⟩,
   ⟨(some 6), .mv (.t 11), none, []⟩,
   ⟨(some 12), .ext (.t 6) 0, none, []⟩,
   ⟨(some 13), .ext (.t 6) 1, none, []⟩,
   ⟨(some 4), .alloc [(.int .i64 0), (.int .i64 0), .nilS], none, []⟩,
   ⟨none, .store 3 (.t 4) (.t 12), none, []⟩,
   ⟨(some 5), .mv (.t 13), none, []⟩])
 (.seq (.ops [
   ⟨(some 14), .mv (.t 0), none, []⟩,
   ⟨(some 15), .load true 3 (.t 4), none, []⟩,
   ⟨(some 16), .callF 15 [(.t 14), (.t 15)], none, []⟩])
 (.seq (.ops [
   ⟨(some 17), .mv (.t 0), none, []⟩,
   ⟨(some 18), .mv (.t 5), none, []⟩,
   ⟨(some 19), .callF 8 [(.t 17), (.t 18)], none, []⟩])
 (.seq (.ops [
   ⟨(some 20), .mkF (.func 34) [] [(.t 4)], none, []⟩,
   ⟨(some 3), .mv (.t 20), none, []⟩])
 (.ret)))))
theorem k32 : compFunc Tryz.prog 32 = some (21, c32, [.t 3]) := by kernel_rfl
def c34 : ACode :=
 .ops [
   ⟨(some 1), .callF 17 [(.t 0)], none, []⟩]
theorem k34 : compFunc Tryz.prog 34 = some (2, c34, []) := by kernel_rfl
def c35 : ACode :=
 .seq (.ops [
   ⟨(some 3), .mv (.c .nilF), none, []⟩])
 (.seq (.ops [
   ⟨(some 7), .fa 0 (.t 1), none, []⟩,
   ⟨(some 8), .load true 3 (.t 7), none, []⟩,
   ⟨(some 9), .fa 27 (.t 1), none, []⟩,
   ⟨(some 10), .load false 1 (.t 9), none, []⟩,
   ⟨(some 11), .fa 28 (.t 1), none, []⟩,
   ⟨(some 12), .load false 1 (.t 11), none, []⟩,
   ⟨(some 13), .callF 36 [(.t 8), (.t 10), (.t 12)], none, []⟩,
   ⟨(some 6), .mv (.t 13), none, []⟩,
   ⟨(some 14), .ext (.t 6) 0, none, []⟩,
   ⟨(some 15), .ext (.t 6) 1, none, []⟩,
   ⟨(some 4), .alloc [(.int .i64 0), (.int .i64 0), .nilS], none, []⟩,
   ⟨none, .store 3 (.t 4) (.t 14), none, []⟩,
   ⟨(some 5), .mv (.t 15), none, []⟩])
 (.seq (.ops [
   ⟨(some 16), .mv (.t 0), none, []⟩,
   ⟨(some 17), .load true 3 (.t 4), none, []⟩,
   ⟨(some 18), .callF 15 [(.t 16), (.t 17)], none, []⟩])
 (.seq (.ops [
   ⟨(some 19), .mv (.t 0), none, []⟩,
   ⟨(some 20), .mv (.t 5), none, []⟩,
   ⟨(some 21), .callF 8 [(.t 19), (.t 20)], none, []⟩])
 (.seq (.ops [
   ⟨(some 22), .mkF (.func 37) [] [(.t 4)], none, []⟩,
   ⟨(some 3), .mv (.t 22), none, []⟩])
 (.ret)))))
theorem k35 : compFunc Tryz.prog 35 = some (23, c35, [.t 3]) := by kernel_rfl
def c37 : ACode :=
 .ops [
   ⟨(some 1), .callF 17 [(.t 0)], none, []⟩]
theorem k37 : compFunc Tryz.prog 37 = some (2, c37, []) := by kernel_rfl
def c38 : ACode :=
 .seq (.ops [
   ⟨(some 3), .mv (.c .nilF), none, []⟩])
 (.seq (.ops [
   ⟨(some 7), .fa 29 (.t 1), none, []⟩,
   ⟨(some 8), .load true 3 (.t 7), none, []⟩,
   ⟨(some 9), .callF 39 [(.t 8)], none, []⟩,
   ⟨(some 6), .mv (.t 9), none, []⟩,
   ⟨(some 10), .ext (.t 6) 0, none, []⟩,
   ⟨(some 11), .ext (.t 6) 1, none, []⟩,
   ⟨(some 4), .alloc [.nilS], none, []⟩,
   ⟨none, .store 1 (.t 4) (.t 10), none, []⟩,
   ⟨(some 5), .mv (.t 11), none, []⟩])
 (.seq (.ops [
   ⟨(some 12), .mv (.t 0), none, []⟩,
   ⟨(some 13), .load false 1 (.t 4), none, []⟩,
   ⟨(some 14), .callF 40 [(.t 12), (.t 13)], none, []⟩])
 (.seq (.ops [
   ⟨(some 15), .mv (.t 0), none, []⟩,
   ⟨(some 16), .mv (.t 5), none, []⟩,
   ⟨(some 17), .callF 8 [(.t 15), (.t 16)], none, []⟩])
 (.seq (.ops [
   ⟨(some 18), .mkF (.func 41) [] [(.t 4)], none, []⟩,
   ⟨(some 3), .mv (.t 18), none, []⟩])
 (.ret)))))
theorem k38 : compFunc Tryz.prog 38 = some (19, c38, [.t 3]) := by kernel_rfl
def c41 : ACode :=
 .ops [
   ⟨(some 1), .callF 42 [(.t 0)], none, []⟩]
theorem k41 : compFunc Tryz.prog 41 = some (2, c41, []) := by kernel_rfl
def c43 : ACode :=
 .seq (.ops [
   ⟨(some 3), .mv (.c .nilF), none, []⟩])
 (.seq (.ops [
   ⟨(some 5), .fa 32 (.t 1), none, []⟩,
   ⟨(some 6), .load false 1 (.t 5), none, []⟩,
   ⟨(some 7), .callF 44 [(.t 6)], none, []⟩,
   ⟨(some 4), .mv (.t 7), none, []⟩])
 (.seq (.ops [
   ⟨(some 8), .mv (.t 0), none, []⟩,
   ⟨(some 9), .mv (.t 4), none, []⟩,
   ⟨(some 10), .callF 24 [(.t 8), (.t 9)], none, []⟩])
 (.seq (.ops [
   ⟨(some 3), .mv (.f 9), none, []⟩])
 (.ret))))
theorem k43 : compFunc Tryz.prog 43 = some (11, c43, [.t 3]) := by kernel_rfl
def c45 : ACode :=
 .seq (.ops [
   ⟨(some 3), .mv (.c .nilF), none, []⟩])
 (.seq (.ops [
   ⟨(some 7), .fa 21 (.t 1), none, []⟩,
   ⟨(some 8), .load false 1 (.t 7), none, []⟩,
   ⟨(some 9), .callF 46 [(.t 8)], none, []⟩,
   ⟨(some 6), .mv (.t 9), none, []⟩,
   ⟨(some 10), .ext (.t 6) 0, none, []⟩,
   ⟨(some 11), .ext (.t 6) 1, none, []⟩,
   ⟨(some 4), .alloc [.nilS], none, []⟩,
   ⟨none, .store 1 (.t 4) (.t 10), none, []⟩,
   ⟨(some 5), .mv (.t 11), none, []⟩])
 (.seq (.ops [
   ⟨(some 12), .mv (.t 0), none, []⟩,
   ⟨(some 13), .load false 1 (.t 4), none, []⟩,
   ⟨(some 14), .callF 47 [(.t 12), (.t 13)], none, []⟩])
 (.seq (.ops [
   ⟨(some 15), .mv (.t 0), none, []⟩,
   ⟨(some 16), .mv (.t 5), none, []⟩,
   ⟨(some 17), .callF 8 [(.t 15), (.t 16)], none, []⟩])
 (.seq (.ops [
   ⟨(some 18), .mkF (.func 48) [] [(.t 4)], none, []⟩,
   ⟨(some 3), .mv (.t 18), none, []⟩])
 (.ret)))))
theorem k45 : compFunc Tryz.prog 45 = some (19, c45, [.t 3]) := by kernel_rfl
def c48 : ACode :=
 .ops [
   ⟨(some 1), .callF 49 [(.t 0)], none, []⟩]
theorem k48 : compFunc Tryz.prog 48 = some (2, c48, []) := by kernel_rfl
def c50 : ACode :=
 .seq (.ops [
   ⟨(some 3), .mv (.c .nilF), none, []⟩])
 (.seq (.ops [
   ⟨(some 7), .fa 32 (.t 1), none, []⟩,
   ⟨(some 8), .load false 1 (.t 7), none, []⟩,
   ⟨(some 9), .callF 51 [(.t 8)], none, []⟩,
   ⟨(some 6), .mv (.t 9), none, []⟩,
   ⟨(some 10), .ext (.t 6) 0, none, []⟩,
   ⟨(some 11), .ext (.t 6) 1, none, []⟩,
   ⟨(some 4), .alloc [.nilS], none, []⟩,
   ⟨none, .store 1 (.t 4) (.t 10), none, []⟩,
   ⟨(some 5), .mv (.t 11), none, []⟩])
 (.seq (.ops [
   ⟨(some 12), .mv (.t 0), none, []⟩,
   ⟨(some 13), .load false 1 (.t 4), none, []⟩,
   ⟨(some 14), .callF 52 [(.t 12), (.t 13)], none, []⟩])
 (.seq (.ops [
   ⟨(some 15), .mv (.t 0), none, []⟩,
   ⟨(some 16), .mv (.t 5), none, []⟩,
   ⟨(some 17), .callF 8 [(.t 15), (.t 16)], none, []⟩])
 (.seq (.ops [
   ⟨(some 18), .mkF (.func 53) [] [(.t 4)], none, []⟩,
   ⟨(some 3), .mv (.t 18), none, []⟩])
 (.ret)))))
theorem k50 : compFunc Tryz.prog 50 = some (19, c50, [.t 3]) := by kernel_rfl
def c53 : ACode :=
 .ops [
   ⟨(some 1), .callF 54 [(.t 0)], none, []⟩]
theorem k53 : compFunc Tryz.prog 53 = some (2, c53, []) := by kernel_rfl
def c7 : ACode :=
 .seq (.ops [
   ⟨(some 1), .box (.t 0), none, []⟩,
   ⟨(some 2), .mv (.c (.int .i64 0)), none, []⟩])
 (.seq (.block 0 (.seq (.ops [
   ⟨(some 4), .fa 0 (.t 1), none, []⟩,
   ⟨(some 5), .load false 1 (.t 4), none, []⟩,
   ⟨(some 6), .callF 60 [(.t 5), (.c (.int .i64 1)), (.c (.int .i64 48))], none, []⟩,
   ⟨(some 7), .mv (.t 6), none, []⟩,
   ⟨(some 8), .fa 1 (.t 1), (some (7, false)), []⟩,
   ⟨(some 9), .load false 1 (.t 8), (some (7, false)), []⟩,
   ⟨(some 10), .callF 60 [(.t 9), (.c (.int .i64 1)), (.c (.int .i64 48))], (some (7, false)), []⟩,
   ⟨(some 11), .pick (.t 7) (.c (.bool true)) (.t 10), none, []⟩,
   ⟨(some 3), .mv (.t 11), none, []⟩])
 (.cond (.t 3)
  (.seq (.ops [
    ⟨(some 2), .mv (.c (.int .i64 7)), none, []⟩])
  (.ret))
  (.seq (.ops [
    ⟨(some 13), .fa 2 (.t 1), none, []⟩,
    ⟨(some 14), .load false 1 (.t 13), none, []⟩,
    ⟨(some 15), .lenS (.t 14), none, []⟩,
    ⟨(some 16), .fa 0 (.t 1), none, []⟩,
    ⟨(some 17), .load false 1 (.t 16), none, []⟩,
    ⟨(some 18), .fa 1 (.t 1), none, []⟩,
    ⟨(some 19), .load false 1 (.t 18), none, []⟩,
    ⟨(some 20), .bin .mul .int (.t 17) (.t 19), none, []⟩,
    ⟨(some 21), .bin .neq .int (.t 15) (.t 20), none, []⟩,
    ⟨(some 12), .mv (.t 21), none, []⟩])
  (.cond (.t 12)
   (.seq (.ops [
     ⟨(some 2), .mv (.c (.int .i64 2)), none, []⟩])
   (.ret))
   (.skip))))))
 (.seq (.ops [
   ⟨(some 2), .mv (.c (.int .i64 0)), none, []⟩])
 (.ret)))
theorem k7 : compFunc Tryz.prog 7 = some (22, c7, [.t 2]) := by kernel_rfl
def c11 : ACode :=
 .seq (.ops [
   ⟨(some 2), .box (.t 0), none, []⟩,
   ⟨(some 3), .box (.t 1), none, []⟩,
   ⟨(some 4), .mv (.c (.bool false)), none, []⟩])
 (.seq (.ops [
   ⟨(some 5), .fa 0 (.t 2), none, []⟩,
   ⟨(some 6), .load false 1 (.t 5), none, []⟩,
   ⟨(some 7), .fa 0 (.t 3), none, []⟩,
   ⟨(some 8), .load false 1 (.t 7), none, []⟩,
   ⟨(some 9), .bin .eql .int (.t 6) (.t 8), none, []⟩,
   ⟨(some 10), .mv (.t 9), none, []⟩,
   ⟨(some 11), .fa 1 (.t 2), (some (10, true)), []⟩,
   ⟨(some 12), .load false 1 (.t 11), (some (10, true)), []⟩,
   ⟨(some 13), .fa 1 (.t 3), (some (10, true)), []⟩,
   ⟨(some 14), .load false 1 (.t 13), (some (10, true)), []⟩,
   ⟨(some 15), .bin .eql .int (.t 12) (.t 14), (some (10, true)), []⟩,
   ⟨(some 16), .pick (.t 10) (.t 15) (.c (.bool false)), none, []⟩,
   ⟨(some 17), .mv (.t 16), none, []⟩,
   ⟨(some 18), .fa 2 (.t 2), (some (17, true)), []⟩,
   ⟨(some 19), .load false 1 (.t 18), (some (17, true)), []⟩,
   ⟨(some 20), .fa 2 (.t 3), (some (17, true)), []⟩,
   ⟨(some 21), .load false 1 (.t 20), (some (17, true)), []⟩,
   ⟨(some 22), .callF 61 [(.t 19), (.t 21)], (some (17, true)), []⟩,
   ⟨(some 23), .pick (.t 17) (.t 22) (.c (.bool false)), none, []⟩,
   ⟨(some 4), .mv (.t 23), none, []⟩])
 (.ret))
theorem k11 : compFunc Tryz.prog 11 = some (24, c11, [.t 4]) := by kernel_rfl
def c14 : ACode :=
 .seq (.ops [
   ⟨(some 4), .box (.t 0), none, []⟩,
   ⟨(some 5), .box (.t 1), none, []⟩,
   ⟨(some 6), .box (.t 2), none, []⟩,
   ⟨(some 7), .box (.t 3), none, []⟩,
   ⟨(some 8), .alloc [(.int .i64 0), (.int .i64 0), .nilS], none, []⟩,
   ⟨(some 9), .mv (.c (.int .i64 0)), none, []⟩])
 (.seq (.seq (.ops [
   ⟨(some 12), .load true 3 (.t 4), none, []⟩,
   ⟨(some 13), .callF 7 [(.t 12)], none, []⟩,
   ⟨(some 10), .mv (.t 13), none, []⟩])
 (.seq (.ops [
   ⟨(some 14), .mv (.t 10), none, []⟩,
   ⟨(some 15), .bin .neq .int (.t 14) (.c (.int .i64 0)), none, []⟩])
 (.cond (.t 15)
  (.seq (.ops [
    ⟨(some 16), .build [(.int .i64 0), (.int .i64 0), .nilS] [], none, []⟩,
    ⟨(some 17), .mv (.t 10), none, []⟩,
    ⟨none, .store 3 (.t 8) (.t 16), none, []⟩,
    ⟨(some 9), .mv (.t 17), none, []⟩])
  (.ret))
  (.skip))))
 (.seq (.seq (.ops [
   ⟨(some 18), .load false 1 (.t 5), none, []⟩,
   ⟨(some 19), .callF 60 [(.t 18), (.c (.int .i64 (-12))), (.c (.int .i64 12))], none, []⟩,
   ⟨(some 20), .mv (.t 19), none, []⟩,
   ⟨(some 21), .load false 1 (.t 6), (some (20, false)), []⟩,
   ⟨(some 22), .callF 60 [(.t 21), (.c (.int .i64 (-12))), (.c (.int .i64 12))], (some (20, false)), []⟩,
   ⟨(some 23), .pick (.t 20) (.c (.bool true)) (.t 22), none, []⟩])
 (.cond (.t 23)
  (.seq (.ops [
    ⟨(some 24), .build [(.int .i64 0), (.int .i64 0), .nilS] [], none, []⟩,
    ⟨none, .store 3 (.t 8) (.t 24), none, []⟩,
    ⟨(some 9), .mv (.c (.int .i64 7)), none, []⟩])
  (.ret))
  (.skip)))
 (.seq (.ops [
   ⟨(some 25), .load true 3 (.t 4), none, []⟩,
   ⟨(some 26), .build [(.int .i64 0), (.int .i64 0), .nilS] [(0, 3, (.t 25))], none, []⟩,
   ⟨(some 11), .alloc [(.int .i64 0), (.int .i64 0), .nilS], none, []⟩,
   ⟨none, .store 3 (.t 11) (.t 26), none, []⟩])
 (.seq (.ops [
   ⟨(some 27), .load true 3 (.t 11), none, []⟩,
   ⟨(some 28), .mkF (.func 63) [] [(.t 11), (.t 5), (.t 6), (.t 7)], none, []⟩,
   ⟨(some 29), .callF 62 [(.t 27), (.t 28)], none, []⟩,
   ⟨none, .store 3 (.t 8) (.t 29), none, []⟩,
   ⟨(some 9), .mv (.c (.int .i64 0)), none, []⟩])
 (.ret)))))
theorem k14 : compFunc Tryz.prog 14 = some (30, c14, [.cell 8 true 3, .t 9]) := by kernel_rfl
def c19 : ACode :=
 .seq (.ops [
   ⟨(some 4), .box (.t 0), none, []⟩,
   ⟨(some 5), .box (.t 1), none, []⟩,
   ⟨(some 6), .box (.t 2), none, []⟩,
   ⟨(some 8), .alloc [(.int .i64 0), (.int .i64 0), (.int .i64 0)], none, []⟩,
   ⟨(some 9), .mv (.c (.int .i64 0)), none, []⟩])
 (.seq (.dr [
   ⟨(some 18), .load true 3 (.t 4), none, []⟩,
   ⟨(some 19), .build [(.int .i64 0), (.int .i64 0), .nilS] [(0, 3, (.t 18))], none, [0]⟩,
   ⟨(some 20), .load true 3 (.t 5), none, []⟩,
   ⟨(some 21), .build [(.int .i64 0), (.int .i64 0), .nilS] [(0, 3, (.t 20))], none, [2]⟩,
   ⟨(some 10), .alloc [(.int .i64 0), (.int .i64 0), .nilS], none, []⟩,
   ⟨(some 11), .alloc [(.int .i64 0), (.int .i64 0), .nilS], none, []⟩,
   ⟨none, .store 3 (.t 10) (.t 19), none, [4, 1, 0, 1, 4, 5]⟩,
   ⟨none, .store 3 (.t 11) (.t 21), none, [5, 3, 6, 0, 1, 2, 3, 4, 5, 6]⟩])
 (.seq (.seq (.dr [
   ⟨(some 22), .load true 3 (.t 4), none, []⟩,
   ⟨(some 23), .callF 7 [(.t 22)], none, [0]⟩,
   ⟨(some 24), .load true 3 (.t 5), none, []⟩,
   ⟨(some 25), .callF 7 [(.t 24)], none, [2, 1]⟩,
   ⟨(some 26), .buildS 1 [(.int .i64 0)] 2 [(0, (.t 23)), (1, (.t 25))], none, [1, 3]⟩,
   ⟨(some 27), .callF 67 [(.t 26)], none, [4, 3]⟩,
   ⟨(some 9), .mv (.t 27), none, [5, 5, 0, 1, 2, 3, 4, 5]⟩])
 (.seq (.ops [
   ⟨(some 28), .mv (.t 9), none, []⟩,
   ⟨(some 29), .bin .neq .int (.t 28) (.c (.int .i64 0)), none, []⟩])
 (.cond (.t 29)
  (.seq (.ops [
    ⟨(some 30), .load true 3 (.t 8), none, []⟩,
    ⟨(some 31), .mv (.t 9), none, []⟩,
    ⟨none, .store 3 (.t 8) (.t 30), none, []⟩,
    ⟨(some 9), .mv (.t 31), none, []⟩])
  (.ret))
  (.skip))))
 (.seq (.block 0 (.seq (.ops [
   ⟨(some 33), .fa 0 (.t 10), none, []⟩,
   ⟨(some 34), .fa 0 (.t 33), none, []⟩,
   ⟨(some 35), .load false 1 (.t 34), none, []⟩,
   ⟨(some 36), .fa 0 (.t 11), none, []⟩,
   ⟨(some 37), .fa 0 (.t 36), none, []⟩,
   ⟨(some 38), .load false 1 (.t 37), none, []⟩,
   ⟨(some 39), .bin .neq .int (.t 35) (.t 38), none, []⟩,
   ⟨(some 40), .mv (.t 39), none, []⟩,
   ⟨(some 41), .fa 0 (.t 10), (some (40, false)), []⟩,
   ⟨(some 42), .fa 1 (.t 41), (some (40, false)), []⟩,
   ⟨(some 43), .load false 1 (.t 42), (some (40, false)), []⟩,
   ⟨(some 44), .fa 0 (.t 11), (some (40, false)), []⟩,
   ⟨(some 45), .fa 1 (.t 44), (some (40, false)), []⟩,
   ⟨(some 46), .load false 1 (.t 45), (some (40, false)), []⟩,
   ⟨(some 47), .bin .neq .int (.t 43) (.t 46), (some (40, false)), []⟩,
   ⟨(some 48), .pick (.t 40) (.c (.bool true)) (.t 47), none, []⟩,
   ⟨(some 49), .mv (.t 48), none, []⟩,
   ⟨(some 50), .load true 3 (.t 10), (some (49, false)), []⟩,
   ⟨(some 51), .load true 4 (.t 6), (some (49, false)), []⟩,
   ⟨(some 52), .callF 68 [(.t 50), (.t 51)], (some (49, false)), []⟩,
   ⟨(some 53), .pick (.t 49) (.c (.bool true)) (.t 52), none, []⟩,
   ⟨(some 32), .mv (.t 53), none, []⟩])
 (.cond (.t 32)
  (.seq (.ops [
    ⟨(some 54), .load true 3 (.t 8), none, []⟩,
    ⟨none, .store 3 (.t 8) (.t 54), none, []⟩,
    ⟨(some 9), .mv (.c (.int .i64 2)), none, []⟩])
  (.ret))
  (.seq (.ops [
    ⟨(some 56), .mv (.t 3), none, []⟩,
    ⟨(some 57), .callF 60 [(.t 56), (.c (.int .i64 0)), (.c (.int .i64 12))], none, []⟩,
    ⟨(some 55), .mv (.t 57), none, []⟩])
  (.cond (.t 55)
   (.seq (.ops [
     ⟨(some 58), .load true 3 (.t 8), none, []⟩,
     ⟨none, .store 3 (.t 8) (.t 58), none, []⟩,
     ⟨(some 9), .mv (.c (.int .i64 7)), none, []⟩])
   (.ret))
   (.skip))))))
 (.seq (.ops [
   ⟨(some 12), .mv (.c .nilS), none, []⟩])
 (.seq (.seq (.ops [
   ⟨(some 59), .mv (.t 3), none, []⟩,
   ⟨(some 60), .un .neg (.t 59), none, []⟩,
   ⟨(some 13), .mv (.t 60), none, []⟩])
 (.block 1 (.loop (.seq (.seq (.ops [
    ⟨(some 61), .mv (.t 13), none, []⟩,
    ⟨(some 62), .mv (.t 3), none, []⟩,
    ⟨(some 63), .bin .leq .int (.t 61) (.t 62), none, []⟩])
  (.cond (.t 63)
   (.skip)
   (.exit 1)))
  (.seq (.block 2 (.seq (.skip)
  (.seq (.ops [
    ⟨(some 66), .mv (.t 3), none, []⟩,
    ⟨(some 67), .un .neg (.t 66), none, []⟩,
    ⟨(some 14), .mv (.t 67), none, []⟩])
  (.block 3 (.loop (.seq (.seq (.ops [
     ⟨(some 68), .mv (.t 14), none, []⟩,
     ⟨(some 69), .mv (.t 3), none, []⟩,
     ⟨(some 70), .bin .leq .int (.t 68) (.t 69), none, []⟩])
   (.cond (.t 70)
    (.skip)
    (.exit 3)))
   (.seq (.block 4 (.seq (.ops [
     ⟨(some 73), .mv (.t 14), none, []⟩,
     ⟨(some 74), .mv (.t 13), none, []⟩,
     ⟨(some 75), .build [(.int .i64 0), (.int .i64 0), (.int .i64 0)] [(0, 1, (.t 73)), (1, 1, (.t 74))], none, []⟩,
     ⟨(some 15), .alloc [(.int .i64 0), (.int .i64 0), (.int .i64 0)], none, []⟩,
     ⟨none, .store 3 (.t 15) (.t 75), none, []⟩])
   (.seq (.seq (.ops [
     ⟨(some 76), .fa 2 (.t 6), none, []⟩,
     ⟨(some 77), .fa 0 (.t 76), none, []⟩,
     ⟨(some 78), .load false 1 (.t 77), none, []⟩,
     ⟨(some 16), .mv (.t 78), none, []⟩])
   (.block 5 (.loop (.seq (.seq (.ops [
      ⟨(some 79), .mv (.t 16), none, []⟩,
      ⟨(some 80), .fa 2 (.t 6), none, []⟩,
      ⟨(some 81), .fa 1 (.t 80), none, []⟩,
      ⟨(some 82), .load false 1 (.t 81), none, []⟩,
      ⟨(some 83), .bin .leq .int (.t 79) (.t 82), none, []⟩])
    (.cond (.t 83)
     (.skip)
     (.exit 5)))
    (.seq (.block 6 (.seq (.ops [
      ⟨(some 86), .fa 0 (.t 6), none, []⟩,
      ⟨(some 87), .fa 0 (.t 86), none, []⟩,
      ⟨(some 88), .load false 1 (.t 87), none, []⟩,
      ⟨(some 17), .mv (.t 88), none, []⟩])
    (.block 7 (.loop (.seq (.seq (.ops [
       ⟨(some 89), .mv (.t 17), none, []⟩,
       ⟨(some 90), .fa 0 (.t 6), none, []⟩,
       ⟨(some 91), .fa 1 (.t 90), none, []⟩,
       ⟨(some 92), .load false 1 (.t 91), none, []⟩,
       ⟨(some 93), .bin .leq .int (.t 89) (.t 92), none, []⟩])
     (.cond (.t 93)
      (.skip)
      (.exit 7)))
     (.seq (.block 8 (.seq (.seq (.ops [
       ⟨(some 96), .load true 3 (.t 11), none, []⟩,
       ⟨(some 97), .mv (.t 17), none, []⟩,
       ⟨(some 98), .mv (.t 14), none, []⟩,
       ⟨(some 99), .bin .add .int (.t 97) (.t 98), none, []⟩,
       ⟨(some 100), .mv (.t 16), none, []⟩,
       ⟨(some 101), .mv (.t 13), none, []⟩,
       ⟨(some 102), .bin .add .int (.t 100) (.t 101), none, []⟩,
       ⟨(some 103), .callF 64 [(.t 96), (.t 99), (.t 102)], none, []⟩,
       ⟨(some 104), .un .not (.t 103), none, []⟩])
     (.cond (.t 104)
      (.exit 4)
      (.skip)))
     (.dr [
       ⟨(some 105), .fa 2 (.t 15), none, []⟩,
       ⟨(some 106), .load false 1 (.t 105), none, [0]⟩,
       ⟨(some 107), .load true 3 (.t 10), none, []⟩,
       ⟨(some 108), .mv (.t 17), none, []⟩,
       ⟨(some 109), .mv (.t 16), none, []⟩,
       ⟨(some 110), .callF 65 [(.t 107), (.t 108), (.t 109)], none, [2, 3, 4]⟩,
       ⟨(some 111), .load true 3 (.t 11), none, []⟩,
       ⟨(some 112), .mv (.t 17), none, []⟩,
       ⟨(some 113), .mv (.t 14), none, []⟩,
       ⟨(some 114), .bin .add .int (.t 112) (.t 113), none, [7, 8]⟩,
       ⟨(some 115), .mv (.t 16), none, []⟩,
       ⟨(some 116), .mv (.t 13), none, []⟩,
       ⟨(some 117), .bin .add .int (.t 115) (.t 116), none, [10, 11]⟩,
       ⟨(some 118), .callF 65 [(.t 111), (.t 114), (.t 117)], none, [6, 9, 12, 5]⟩,
       ⟨(some 119), .bin .sub .int (.t 110) (.t 118), none, [5, 13]⟩,
       ⟨(some 120), .callF 69 [(.t 119)], none, [14, 13]⟩,
       ⟨(some 121), .bin .add .int (.t 106) (.t 120), none, [1, 15]⟩,
       ⟨(some 122), .fa 2 (.t 15), none, [0, 1, 2, 3, 4, 5, 6, 7, 8, 9, 10, 11, 12, 13, 14, 15, 16]⟩,
       ⟨none, .store 1 (.t 122) (.t 121), none, [17, 16, 15, 0, 1, 2, 3, 4, 5, 6, 7, 8, 9, 10, 11, 12, 13, 14, 15, 16]⟩])))
     (.ops [
       ⟨(some 94), .mv (.t 17), none, []⟩,
       ⟨(some 95), .bin .add .int (.t 94) (.c (.int .i64 1)), none, []⟩,
       ⟨(some 17), .mv (.t 95), none, []⟩])))))))
    (.ops [
      ⟨(some 84), .mv (.t 16), none, []⟩,
      ⟨(some 85), .bin .add .int (.t 84) (.c (.int .i64 1)), none, []⟩,
      ⟨(some 16), .mv (.t 85), none, []⟩]))))))
   (.ops [
     ⟨(some 123), .mv (.t 12), none, []⟩,
     ⟨(some 124), .load true 3 (.t 15), none, []⟩,
     ⟨(some 125), .buildS 3 [(.int .i64 0), (.int .i64 0), (.int .i64 0)] 1 [(0, (.t 124))], none, []⟩,
     ⟨(some 126), .app 3 24 (.t 123) (.t 125), none, []⟩,
     ⟨(some 12), .mv (.t 126), none, []⟩]))))
   (.ops [
     ⟨(some 71), .mv (.t 14), none, []⟩,
     ⟨(some 72), .bin .add .int (.t 71) (.c (.int .i64 1)), none, []⟩,
     ⟨(some 14), .mv (.t 72), none, []⟩]))))))))
  (.ops [
    ⟨(some 64), .mv (.t 13), none, []⟩,
    ⟨(some 65), .bin .add .int (.t 64) (.c (.int .i64 1)), none, []⟩,
    ⟨(some 13), .mv (.t 65), none, []⟩]))))))
 (.seq (.ops [
   ⟨(some 127), .mv (.t 12), none, []⟩,
   ⟨(some 128), .callF 70 [(.t 127), (.f 71)], none, []⟩,
   ⟨none, .store 3 (.t 8) (.t 128), none, []⟩,
   ⟨(some 9), .mv (.c (.int .i64 0)), none, []⟩])
 (.ret)))))))
def m19_0 : List Nat := [61, 62, 63, 66, 67, 14, 68, 69, 70, 73, 74, 75, 15, 76, 77, 78, 16, 79, 80, 81, 82, 83, 86, 87, 88, 17, 89, 90, 91, 92, 93, 96, 97, 98, 99, 100, 101, 102, 103, 104, 105, 106, 107, 108, 109, 110, 111, 112, 113, 114, 115, 116, 117, 118, 119, 120, 121, 122, 94, 95, 84, 85, 123, 124, 125, 126, 12, 71, 72, 64, 65, 13]
def m19_1 : List Nat := [68, 69, 70, 73, 74, 75, 15, 76, 77, 78, 16, 79, 80, 81, 82, 83, 86, 87, 88, 17, 89, 90, 91, 92, 93, 96, 97, 98, 99, 100, 101, 102, 103, 104, 105, 106, 107, 108, 109, 110, 111, 112, 113, 114, 115, 116, 117, 118, 119, 120, 121, 122, 94, 95, 84, 85, 123, 124, 125, 126, 12, 71, 72, 14]
def m19_2 : List Nat := [79, 80, 81, 82, 83, 86, 87, 88, 17, 89, 90, 91, 92, 93, 96, 97, 98, 99, 100, 101, 102, 103, 104, 105, 106, 107, 108, 109, 110, 111, 112, 113, 114, 115, 116, 117, 118, 119, 120, 121, 122, 94, 95, 84, 85, 16]
def m19_3 : List Nat := [89, 90, 91, 92, 93, 96, 97, 98, 99, 100, 101, 102, 103, 104, 105, 106, 107, 108, 109, 110, 111, 112, 113, 114, 115, 116, 117, 118, 119, 120, 121, 122, 94, 95, 17]
theorem k19 : compFunc Tryz.prog 19 = some (129, c19, [.cell 8 true 3, .t 9]) := by kernel_rfl
def c22 : ACode :=
 .seq (.ops [
   ⟨(some 2), .alloc [(.int .i64 0), (.int .i64 0)], none, []⟩,
   ⟨(some 3), .mv (.c (.int .i64 0)), none, []⟩,
   ⟨(some 4), .mv (.c (.int .i64 0)), none, []⟩])
 (.seq (.seq (.ops [
   ⟨(some 12), .mv (.t 0), none, []⟩,
   ⟨(some 13), .lenS (.t 12), none, []⟩,
   ⟨(some 14), .bin .gtr .int (.t 13) (.c (.int .i64 16)), none, []⟩])
 (.cond (.t 14)
  (.seq (.ops [
    ⟨(some 15), .load true 2 (.t 2), none, []⟩,
    ⟨none, .store 2 (.t 2) (.t 15), none, []⟩,
    ⟨(some 3), .mv (.c (.int .i64 0)), none, []⟩,
    ⟨(some 4), .mv (.c (.int .i64 3)), none, []⟩])
  (.ret))
  (.skip)))
 (.seq (.seq (.ops [
   ⟨(some 16), .mv (.t 0), none, []⟩,
   ⟨(some 17), .lenS (.t 16), none, []⟩,
   ⟨(some 18), .mv (.c (.int .i64 0)), none, []⟩])
 (.block 0 (.loop (.seq (.ops [
    ⟨(some 19), .bin .lss .int (.t 18) (.t 17), none, []⟩])
  (.seq (.cond (.t 19)
   (.skip)
   (.exit 0))
  (.seq (.block 1 (.seq (.ops [
    ⟨(some 20), .ixS 2 (.t 16) (.t 18), none, []⟩,
    ⟨(some 21), .load true 2 (.t 20), none, []⟩,
    ⟨(some 6), .alloc [(.int .i64 0), (.int .i64 0)], none, []⟩,
    ⟨none, .store 2 (.t 6) (.t 21), none, []⟩])
  (.seq (.ops [
    ⟨(some 22), .fa 0 (.t 6), none, []⟩,
    ⟨(some 23), .load false 1 (.t 22), none, []⟩,
    ⟨(some 24), .callF 60 [(.t 23), (.c (.int .i64 1)), (.c (.int .i64 100000))], none, []⟩,
    ⟨(some 25), .mv (.t 24), none, []⟩,
    ⟨(some 26), .fa 1 (.t 6), (some (25, false)), []⟩,
    ⟨(some 27), .load false 1 (.t 26), (some (25, false)), []⟩,
    ⟨(some 28), .callF 60 [(.t 27), (.c (.int .i64 0)), (.c (.int .i64 255))], (some (25, false)), []⟩,
    ⟨(some 29), .pick (.t 25) (.c (.bool true)) (.t 28), none, []⟩])
  (.cond (.t 29)
   (.seq (.ops [
     ⟨(some 30), .load true 2 (.t 2), none, []⟩,
     ⟨none, .store 2 (.t 2) (.t 30), none, []⟩,
     ⟨(some 3), .mv (.c (.int .i64 0)), none, []⟩,
     ⟨(some 4), .mv (.c (.int .i64 7)), none, []⟩])
   (.ret))
   (.skip)))))
  (.ops [
    ⟨(some 31), .bin .add .int (.t 18) (.c (.int .i64 1)), none, []⟩,
    ⟨(some 18), .mv (.t 31), none, []⟩])))))))
 (.seq (.ops [
   ⟨(some 32), .build [(.int .i64 0), (.int .i64 0)] [(1, 1, (.c (.int .i64 10000000)))], none, []⟩,
   ⟨(some 7), .alloc [(.int .i64 0), (.int .i64 0)], none, []⟩,
   ⟨none, .store 2 (.t 7) (.t 32), none, []⟩])
 (.seq (.seq (.ops [
   ⟨(some 33), .mv (.t 0), none, []⟩,
   ⟨(some 34), .lenS (.t 33), none, []⟩,
   ⟨(some 35), .mv (.c (.int .i64 0)), none, []⟩])
 (.block 2 (.loop (.seq (.ops [
    ⟨(some 36), .bin .lss .int (.t 35) (.t 34), none, []⟩])
  (.seq (.cond (.t 36)
   (.skip)
   (.exit 2))
  (.seq (.block 3 (.seq (.ops [
    ⟨(some 37), .mv (.t 35), none, []⟩,
    ⟨(some 38), .ixS 2 (.t 33) (.t 35), none, []⟩,
    ⟨(some 39), .load true 2 (.t 38), none, []⟩,
    ⟨(some 9), .alloc [(.int .i64 0), (.int .i64 0)], none, []⟩,
    ⟨(some 8), .mv (.t 37), none, []⟩,
    ⟨none, .store 2 (.t 9) (.t 39), none, []⟩])
  (.seq (.dr [
    ⟨(some 41), .load true 2 (.t 7), none, []⟩,
    ⟨(some 42), .load true 2 (.t 9), none, []⟩,
    ⟨(some 43), .callF 73 [(.t 42)], none, [1]⟩,
    ⟨(some 44), .callF 72 [(.t 41), (.t 43)], none, [0, 2, 2]⟩,
    ⟨(some 40), .mv (.t 44), none, [3]⟩,
    ⟨(some 45), .ext (.t 40) 0, none, [4]⟩,
    ⟨(some 46), .ext (.t 40) 1, none, [4]⟩,
    ⟨(some 10), .alloc [(.int .i64 0), (.int .i64 0)], none, []⟩,
    ⟨none, .store 2 (.t 10) (.t 45), none, [7, 5, 3, 0, 1, 2, 3, 4, 5, 7]⟩,
    ⟨(some 11), .mv (.t 46), none, [6, 8, 0, 1, 2, 3, 4, 5, 6, 7, 8]⟩])
  (.seq (.seq (.ops [
    ⟨(some 47), .mv (.t 11), none, []⟩,
    ⟨(some 48), .un .not (.t 47), none, []⟩])
  (.cond (.t 48)
   (.seq (.ops [
     ⟨(some 49), .load true 2 (.t 2), none, []⟩,
     ⟨(some 50), .mv (.t 8), none, []⟩,
     ⟨none, .store 2 (.t 2) (.t 49), none, []⟩,
     ⟨(some 3), .mv (.t 50), none, []⟩,
     ⟨(some 4), .mv (.c (.int .i64 0)), none, []⟩])
   (.ret))
   (.skip)))
  (.ops [
    ⟨(some 51), .load true 2 (.t 10), none, []⟩,
    ⟨none, .store 2 (.t 7) (.t 51), none, []⟩])))))
  (.ops [
    ⟨(some 52), .bin .add .int (.t 35) (.c (.int .i64 1)), none, []⟩,
    ⟨(some 35), .mv (.t 52), none, []⟩])))))))
 (.seq (.ops [
   ⟨(some 53), .load true 2 (.t 7), none, []⟩,
   ⟨none, .store 2 (.t 2) (.t 53), none, []⟩,
   ⟨(some 3), .mv (.c (.int .i64 (-1))), none, []⟩,
   ⟨(some 4), .mv (.c (.int .i64 0)), none, []⟩])
 (.ret))))))
def m22_0 : List Nat := [19, 20, 21, 6, 22, 23, 24, 25, 26, 27, 28, 29, 30, 3, 4, 31, 18]
def m22_1 : List Nat := [36, 37, 38, 39, 9, 8, 41, 42, 43, 44, 40, 45, 46, 10, 11, 47, 48, 49, 50, 3, 4, 51, 52, 35]
theorem k22 : compFunc Tryz.prog 22 = some (54, c22, [.cell 2 true 2, .t 3, .t 4]) := by kernel_rfl
def c26 : ACode :=
 .seq (.ops [
   ⟨(some 3), .box (.t 1), none, []⟩,
   ⟨(some 4), .mv (.c .nilS), none, []⟩,
   ⟨(some 5), .mv (.c .nilS), none, []⟩,
   ⟨(some 6), .mv (.c (.int .i64 0)), none, []⟩])
 (.seq (.seq (.ops [
   ⟨(some 15), .mv (.t 0), none, []⟩,
   ⟨(some 16), .callF 74 [(.t 15)], none, []⟩,
   ⟨(some 6), .mv (.t 16), none, []⟩])
 (.seq (.ops [
   ⟨(some 17), .mv (.t 6), none, []⟩,
   ⟨(some 18), .bin .neq .int (.t 17) (.c (.int .i64 0)), none, []⟩])
 (.cond (.t 18)
  (.seq (.ops [
    ⟨(some 19), .mv (.t 6), none, []⟩,
    ⟨(some 4), .mv (.c .nilS), none, []⟩,
    ⟨(some 5), .mv (.c .nilS), none, []⟩,
    ⟨(some 6), .mv (.t 19), none, []⟩])
  (.ret))
  (.skip))))
 (.seq (.ops [
   ⟨(some 20), .mv (.t 0), none, []⟩,
   ⟨(some 21), .ixS 3 (.t 20) (.c (.int .i64 0)), none, []⟩,
   ⟨(some 22), .load true 3 (.t 21), none, []⟩,
   ⟨(some 23), .build [(.int .i64 0), (.int .i64 0), .nilS] [(0, 3, (.t 22))], none, []⟩,
   ⟨(some 7), .alloc [(.int .i64 0), (.int .i64 0), .nilS], none, []⟩,
   ⟨none, .store 3 (.t 7) (.t 23), none, []⟩])
 (.seq (.seq (.ops [
   ⟨(some 24), .load true 3 (.t 7), none, []⟩,
   ⟨(some 25), .load true 4 (.t 3), none, []⟩,
   ⟨(some 26), .callF 68 [(.t 24), (.t 25)], none, []⟩])
 (.cond (.t 26)
  (.seq (.ops [
    ⟨(some 4), .mv (.c .nilS), none, []⟩,
    ⟨(some 5), .mv (.c .nilS), none, []⟩,
    ⟨(some 6), .mv (.c (.int .i64 2)), none, []⟩])
  (.ret))
  (.skip)))
 (.seq (.ops [
   ⟨(some 27), .build [(.int .i64 0), (.int .i64 0)] [(0, 1, (.c (.int .i64 1000))), (1, 1, (.c (.int .i64 1000)))], none, []⟩,
   ⟨(some 28), .buildS 2 [(.int .i64 0), (.int .i64 0)] 1 [(0, (.t 27))], none, []⟩,
   ⟨(some 4), .mv (.t 28), none, []⟩])
 (.seq (.seq (.ops [
   ⟨(some 29), .mv (.t 0), none, []⟩,
   ⟨(some 30), .slS 3 (.t 29) (some (.c (.int .i64 1))) none none, none, []⟩,
   ⟨(some 31), .lenS (.t 30), none, []⟩,
   ⟨(some 32), .mv (.c (.int .i64 0)), none, []⟩])
 (.block 0 (.loop (.seq (.ops [
    ⟨(some 33), .bin .lss .int (.t 32) (.t 31), none, []⟩])
  (.seq (.cond (.t 33)
   (.skip)
   (.exit 0))
  (.seq (.block 1 (.seq (.ops [
    ⟨(some 34), .mv (.t 32), none, []⟩,
    ⟨(some 35), .ixS 3 (.t 30) (.t 32), none, []⟩,
    ⟨(some 36), .load true 3 (.t 35), none, []⟩,
    ⟨(some 9), .alloc [(.int .i64 0), (.int .i64 0), .nilS], none, []⟩,
    ⟨(some 8), .mv (.t 34), none, []⟩,
    ⟨none, .store 3 (.t 9) (.t 36), none, []⟩])
  (.seq (.ops [
    ⟨(some 37), .load true 3 (.t 9), none, []⟩,
    ⟨(some 38), .build [(.int .i64 0), (.int .i64 0), .nilS] [(0, 3, (.t 37))], none, []⟩,
    ⟨(some 10), .alloc [(.int .i64 0), (.int .i64 0), .nilS], none, []⟩,
    ⟨none, .store 3 (.t 10) (.t 38), none, []⟩,
    ⟨(some 11), .mv (.c (.bool true)), none, []⟩])
  (.seq (.ops [
    ⟨(some 39), .build [(.int .i64 0), (.int .i64 0)] [(0, 1, (.c (.int .i64 1))), (1, 1, (.c (.int .i64 100000)))], none, []⟩,
    ⟨(some 12), .alloc [(.int .i64 0), (.int .i64 0)], none, []⟩,
    ⟨none, .store 2 (.t 12) (.t 39), none, []⟩])
  (.seq (.seq (.ops [
    ⟨(some 40), .fa 2 (.t 3), none, []⟩,
    ⟨(some 41), .fa 0 (.t 40), none, []⟩,
    ⟨(some 42), .load false 1 (.t 41), none, []⟩,
    ⟨(some 13), .mv (.t 42), none, []⟩])
  (.block 2 (.loop (.seq (.seq (.ops [
     ⟨(some 43), .mv (.t 13), none, []⟩,
     ⟨(some 44), .fa 2 (.t 3), none, []⟩,
     ⟨(some 45), .fa 1 (.t 44), none, []⟩,
     ⟨(some 46), .load false 1 (.t 45), none, []⟩,
     ⟨(some 47), .bin .leq .int (.t 43) (.t 46), none, []⟩])
   (.cond (.t 47)
    (.skip)
    (.exit 2)))
   (.seq (.block 3 (.seq (.ops [
     ⟨(some 50), .fa 0 (.t 3), none, []⟩,
     ⟨(some 51), .fa 0 (.t 50), none, []⟩,
     ⟨(some 52), .load false 1 (.t 51), none, []⟩,
     ⟨(some 14), .mv (.t 52), none, []⟩])
   (.block 4 (.loop (.seq (.seq (.ops [
      ⟨(some 53), .mv (.t 14), none, []⟩,
      ⟨(some 54), .fa 0 (.t 3), none, []⟩,
      ⟨(some 55), .fa 1 (.t 54), none, []⟩,
      ⟨(some 56), .load false 1 (.t 55), none, []⟩,
      ⟨(some 57), .bin .leq .int (.t 53) (.t 56), none, []⟩,
      ⟨(some 58), .mv (.t 57), none, []⟩,
      ⟨(some 59), .mv (.t 11), (some (58, true)), []⟩,
      ⟨(some 60), .pick (.t 58) (.t 59) (.c (.bool false)), none, []⟩])
    (.cond (.t 60)
     (.skip)
     (.exit 4)))
    (.seq (.block 5 (.dr [
      ⟨(some 64), .load true 2 (.t 12), none, []⟩,
      ⟨(some 65), .load true 3 (.t 7), none, []⟩,
      ⟨(some 66), .mv (.t 14), none, []⟩,
      ⟨(some 67), .mv (.t 13), none, []⟩,
      ⟨(some 68), .callF 65 [(.t 65), (.t 66), (.t 67)], none, [1, 2, 3]⟩,
      ⟨(some 69), .load true 3 (.t 10), none, []⟩,
      ⟨(some 70), .mv (.t 14), none, []⟩,
      ⟨(some 71), .mv (.t 13), none, []⟩,
      ⟨(some 72), .callF 65 [(.t 69), (.t 70), (.t 71)], none, [5, 6, 7, 4]⟩,
      ⟨(some 73), .callF 75 [(.t 68), (.t 72)], none, [4, 8, 8]⟩,
      ⟨(some 74), .callF 72 [(.t 64), (.t 73)], none, [0, 9, 9]⟩,
      ⟨(some 63), .mv (.t 74), none, [10]⟩,
      ⟨(some 75), .ext (.t 63) 0, none, [11]⟩,
      ⟨(some 76), .ext (.t 63) 1, none, [11]⟩,
      ⟨none, .store 2 (.t 12) (.t 75), none, [12, 10, 0, 1, 2, 3, 4, 5, 6, 7, 8, 9, 10, 11, 12]⟩,
      ⟨(some 11), .mv (.t 76), none, [13, 14, 0, 1, 2, 3, 4, 5, 6, 7, 8, 9, 10, 11, 12, 13, 14]⟩]))
    (.ops [
      ⟨(some 61), .mv (.t 14), none, []⟩,
      ⟨(some 62), .bin .add .int (.t 61) (.c (.int .i64 1)), none, []⟩,
      ⟨(some 14), .mv (.t 62), none, []⟩])))))))
   (.ops [
     ⟨(some 48), .mv (.t 13), none, []⟩,
     ⟨(some 49), .bin .add .int (.t 48) (.c (.int .i64 1)), none, []⟩,
     ⟨(some 13), .mv (.t 49), none, []⟩]))))))
  (.seq (.seq (.ops [
    ⟨(some 77), .mv (.t 11), none, []⟩,
    ⟨(some 78), .un .not (.t 77), none, []⟩])
  (.cond (.t 78)
   (.ops [
     ⟨(some 79), .build [(.int .i64 0), (.int .i64 0)] [], none, []⟩,
     ⟨(some 80), .mv (.t 5), none, []⟩,
     ⟨(some 81), .mv (.t 8), none, []⟩,
     ⟨(some 82), .bin .add .int (.t 81) (.c (.int .i64 1)), none, []⟩,
     ⟨(some 83), .buildS 1 [(.int .i64 0)] 1 [(0, (.t 82))], none, []⟩,
     ⟨(some 84), .app 1 8 (.t 80) (.t 83), none, []⟩,
     ⟨none, .store 2 (.t 12) (.t 79), none, []⟩,
     ⟨(some 5), .mv (.t 84), none, []⟩])
   (.skip)))
  (.ops [
    ⟨(some 85), .mv (.t 4), none, []⟩,
    ⟨(some 86), .load true 2 (.t 12), none, []⟩,
    ⟨(some 87), .buildS 2 [(.int .i64 0), (.int .i64 0)] 1 [(0, (.t 86))], none, []⟩,
    ⟨(some 88), .app 2 16 (.t 85) (.t 87), none, []⟩,
    ⟨(some 4), .mv (.t 88), none, []⟩])))))))
  (.ops [
    ⟨(some 89), .bin .add .int (.t 32) (.c (.int .i64 1)), none, []⟩,
    ⟨(some 32), .mv (.t 89), none, []⟩])))))))
 (.seq (.ops [
   ⟨(some 90), .mv (.t 4), none, []⟩,
   ⟨(some 91), .mv (.t 5), none, []⟩,
   ⟨(some 4), .mv (.t 90), none, []⟩,
   ⟨(some 5), .mv (.t 91), none, []⟩,
   ⟨(some 6), .mv (.c (.int .i64 0)), none, []⟩])
 (.ret)))))))
def m26_0 : List Nat := [33, 34, 35, 36, 9, 8, 37, 38, 10, 11, 39, 12, 40, 41, 42, 13, 43, 44, 45, 46, 47, 50, 51, 52, 14, 53, 54, 55, 56, 57, 58, 59, 60, 64, 65, 66, 67, 68, 69, 70, 71, 72, 73, 74, 63, 75, 76, 61, 62, 48, 49, 77, 78, 79, 80, 81, 82, 83, 84, 5, 85, 86, 87, 88, 4, 89, 32]
def m26_1 : List Nat := [43, 44, 45, 46, 47, 50, 51, 52, 14, 53, 54, 55, 56, 57, 58, 59, 60, 64, 65, 66, 67, 68, 69, 70, 71, 72, 73, 74, 63, 75, 76, 11, 61, 62, 48, 49, 13]
def m26_2 : List Nat := [53, 54, 55, 56, 57, 58, 59, 60, 64, 65, 66, 67, 68, 69, 70, 71, 72, 73, 74, 63, 75, 76, 11, 61, 62, 14]
theorem k26 : compFunc Tryz.prog 26 = some (92, c26, [.t 4, .t 5, .t 6]) := by kernel_rfl
def c33 : ACode :=
 .seq (.ops [
   ⟨(some 2), .box (.t 0), none, []⟩,
   ⟨(some 4), .alloc [(.int .i64 0), (.int .i64 0), .nilS], none, []⟩,
   ⟨(some 5), .mv (.c (.int .i64 0)), none, []⟩])
 (.seq (.seq (.ops [
   ⟨(some 10), .load true 3 (.t 2), none, []⟩,
   ⟨(some 11), .callF 7 [(.t 10)], none, []⟩,
   ⟨(some 6), .mv (.t 11), none, []⟩])
 (.seq (.ops [
   ⟨(some 12), .mv (.t 6), none, []⟩,
   ⟨(some 13), .bin .neq .int (.t 12) (.c (.int .i64 0)), none, []⟩])
 (.cond (.t 13)
  (.seq (.ops [
    ⟨(some 14), .build [(.int .i64 0), (.int .i64 0), .nilS] [], none, []⟩,
    ⟨(some 15), .mv (.t 6), none, []⟩,
    ⟨none, .store 3 (.t 4) (.t 14), none, []⟩,
    ⟨(some 5), .mv (.t 15), none, []⟩])
  (.ret))
  (.skip))))
 (.seq (.seq (.ops [
   ⟨(some 16), .mv (.t 1), none, []⟩,
   ⟨(some 17), .callF 60 [(.t 16), (.c (.int .i64 1)), (.c (.int .i64 100000))], none, []⟩])
 (.cond (.t 17)
  (.seq (.ops [
    ⟨(some 18), .build [(.int .i64 0), (.int .i64 0), .nilS] [], none, []⟩,
    ⟨none, .store 3 (.t 4) (.t 18), none, []⟩,
    ⟨(some 5), .mv (.c (.int .i64 7)), none, []⟩])
  (.ret))
  (.skip)))
 (.seq (.ops [
   ⟨(some 7), .alloc (reps 256 (.int .i64 0)), none, []⟩])
 (.seq (.seq (.ops [
   ⟨(some 19), .mv (.c (.int .i64 0)), none, []⟩])
 (.block 0 (.loop (.seq (.ops [
    ⟨(some 20), .bin .lss .int (.t 19) (.c (.int .i64 256)), none, []⟩])
  (.seq (.cond (.t 20)
   (.skip)
   (.exit 0))
  (.seq (.block 1 (.seq (.ops [
    ⟨(some 21), .mv (.t 19), none, []⟩,
    ⟨(some 8), .mv (.t 21), none, []⟩])
  (.ops [
    ⟨(some 22), .mv (.t 8), none, []⟩,
    ⟨(some 23), .mv (.t 8), none, []⟩,
    ⟨(some 24), .bin .mul .int (.c (.int .i64 2)) (.t 23), none, []⟩,
    ⟨(some 25), .bin .add .int (.t 24) (.c (.int .i64 1)), none, []⟩,
    ⟨(some 26), .bin .mul .int (.c (.int .i64 500)) (.t 25), none, []⟩,
    ⟨(some 27), .mv (.t 1), none, []⟩,
    ⟨(some 28), .bin .quo .int (.t 26) (.t 27), none, []⟩,
    ⟨(some 29), .mn [(.c (.int .i64 255)), (.t 28)], none, []⟩,
    ⟨(some 30), .ixA 256 1 (.t 7) (.t 22), none, []⟩,
    ⟨none, .store 1 (.t 30) (.t 29), none, []⟩])))
  (.ops [
    ⟨(some 31), .bin .add .int (.t 19) (.c (.int .i64 1)), none, []⟩,
    ⟨(some 19), .mv (.t 31), none, []⟩])))))))
 (.seq (.ops [
   ⟨(some 32), .ixA 256 1 (.t 7) (.c (.int .i64 255)), none, []⟩,
   ⟨none, .store 1 (.t 32) (.c (.int .i64 255)), none, []⟩])
 (.seq (.ops [
   ⟨(some 33), .load true 3 (.t 2), none, []⟩,
   ⟨(some 34), .build [(.int .i64 0), (.int .i64 0), .nilS] [(0, 3, (.t 33))], none, []⟩,
   ⟨(some 9), .alloc [(.int .i64 0), (.int .i64 0), .nilS], none, []⟩,
   ⟨none, .store 3 (.t 9) (.t 34), none, []⟩])
 (.seq (.ops [
   ⟨(some 35), .load true 3 (.t 9), none, []⟩,
   ⟨(some 36), .mkF (.func 81) [] [(.t 7), (.t 9)], none, []⟩,
   ⟨(some 37), .callF 62 [(.t 35), (.t 36)], none, []⟩,
   ⟨none, .store 3 (.t 4) (.t 37), none, []⟩,
   ⟨(some 5), .mv (.c (.int .i64 0)), none, []⟩])
 (.ret))))))))
def m33_0 : List Nat := [20, 21, 8, 22, 23, 24, 25, 26, 27, 28, 29, 30, 31, 19]
theorem k33 : compFunc Tryz.prog 33 = some (38, c33, [.cell 4 true 3, .t 5]) := by kernel_rfl
def c36 : ACode :=
 .seq (.ops [
   ⟨(some 3), .box (.t 0), none, []⟩,
   ⟨(some 4), .box (.t 1), none, []⟩,
   ⟨(some 5), .box (.t 2), none, []⟩,
   ⟨(some 6), .alloc [(.int .i64 0), (.int .i64 0), .nilS], none, []⟩,
   ⟨(some 7), .mv (.c (.int .i64 0)), none, []⟩])
 (.seq (.seq (.ops [
   ⟨(some 10), .load true 3 (.t 3), none, []⟩,
   ⟨(some 11), .callF 7 [(.t 10)], none, []⟩,
   ⟨(some 8), .mv (.t 11), none, []⟩])
 (.seq (.ops [
   ⟨(some 12), .mv (.t 8), none, []⟩,
   ⟨(some 13), .bin .neq .int (.t 12) (.c (.int .i64 0)), none, []⟩])
 (.cond (.t 13)
  (.seq (.ops [
    ⟨(some 14), .build [(.int .i64 0), (.int .i64 0), .nilS] [], none, []⟩,
    ⟨(some 15), .mv (.t 8), none, []⟩,
    ⟨none, .store 3 (.t 6) (.t 14), none, []⟩,
    ⟨(some 7), .mv (.t 15), none, []⟩])
  (.ret))
  (.skip))))
 (.seq (.seq (.ops [
   ⟨(some 16), .load false 1 (.t 4), none, []⟩,
   ⟨(some 17), .callF 60 [(.t 16), (.c (.int .i64 0)), (.c (.int .i64 256))], none, []⟩,
   ⟨(some 18), .mv (.t 17), none, []⟩,
   ⟨(some 19), .load false 1 (.t 5), (some (18, false)), []⟩,
   ⟨(some 20), .callF 60 [(.t 19), (.c (.int .i64 0)), (.c (.int .i64 12))], (some (18, false)), []⟩,
   ⟨(some 21), .pick (.t 18) (.c (.bool true)) (.t 20), none, []⟩])
 (.cond (.t 21)
  (.seq (.ops [
    ⟨(some 22), .build [(.int .i64 0), (.int .i64 0), .nilS] [], none, []⟩,
    ⟨none, .store 3 (.t 6) (.t 22), none, []⟩,
    ⟨(some 7), .mv (.c (.int .i64 7)), none, []⟩])
  (.ret))
  (.skip)))
 (.seq (.ops [
   ⟨(some 23), .load true 3 (.t 3), none, []⟩,
   ⟨(some 24), .build [(.int .i64 0), (.int .i64 0), .nilS] [(0, 3, (.t 23))], none, []⟩,
   ⟨(some 9), .alloc [(.int .i64 0), (.int .i64 0), .nilS], none, []⟩,
   ⟨none, .store 3 (.t 9) (.t 24), none, []⟩])
 (.seq (.ops [
   ⟨(some 25), .load true 3 (.t 9), none, []⟩,
   ⟨(some 26), .mkF (.func 82) [] [(.t 5), (.t 9), (.t 4)], none, []⟩,
   ⟨(some 27), .callF 62 [(.t 25), (.t 26)], none, []⟩,
   ⟨none, .store 3 (.t 6) (.t 27), none, []⟩,
   ⟨(some 7), .mv (.c (.int .i64 0)), none, []⟩])
 (.ret)))))
theorem k36 : compFunc Tryz.prog 36 = some (28, c36, [.cell 6 true 3, .t 7]) := by kernel_rfl
def c39 : ACode :=
 .seq (.ops [
   ⟨(some 1), .box (.t 0), none, []⟩,
   ⟨(some 2), .alloc [.nilS], none, []⟩,
   ⟨(some 3), .mv (.c (.int .i64 0)), none, []⟩])
 (.seq (.seq (.ops [
   ⟨(some 8), .load true 3 (.t 1), none, []⟩,
   ⟨(some 9), .callF 7 [(.t 8)], none, []⟩,
   ⟨(some 3), .mv (.t 9), none, []⟩])
 (.seq (.ops [
   ⟨(some 10), .mv (.t 3), none, []⟩,
   ⟨(some 11), .bin .neq .int (.t 10) (.c (.int .i64 0)), none, []⟩])
 (.cond (.t 11)
  (.seq (.ops [
    ⟨(some 12), .mv (.t 3), none, []⟩,
    ⟨none, .store 1 (.t 2) (.c .nilS), none, []⟩,
    ⟨(some 3), .mv (.t 12), none, []⟩])
  (.ret))
  (.skip))))
 (.seq (.ops [
   ⟨(some 13), .fa 2 (.t 1), none, []⟩,
   ⟨(some 14), .load false 1 (.t 13), none, []⟩,
   ⟨(some 15), .callF 83 [(.t 14)], none, []⟩,
   ⟨(some 16), .fa 2 (.t 1), none, []⟩,
   ⟨none, .store 1 (.t 16) (.t 15), none, []⟩])
 (.seq (.ops [
   ⟨(some 17), .load true 3 (.t 1), none, []⟩,
   ⟨(some 18), .build [(.int .i64 0), (.int .i64 0), .nilS] [(0, 3, (.t 17))], none, []⟩,
   ⟨(some 4), .alloc [(.int .i64 0), (.int .i64 0), .nilS], none, []⟩,
   ⟨none, .store 3 (.t 4) (.t 18), none, []⟩])
 (.seq (.ops [
   ⟨(some 5), .alloc [.nilF], none, []⟩])
 (.seq (.ops [
   ⟨(some 19), .mkF (.func 84) [] [(.t 4), (.t 2), (.t 5)], none, []⟩,
   ⟨none, .store 1 (.t 5) (.t 19), none, []⟩])
 (.seq (.seq (.ops [
   ⟨(some 20), .fa 0 (.t 4), none, []⟩,
   ⟨(some 21), .fa 1 (.t 20), none, []⟩,
   ⟨(some 22), .load false 1 (.t 21), none, []⟩,
   ⟨(some 23), .mv (.c (.int .i64 0)), none, []⟩])
 (.block 0 (.loop (.seq (.ops [
    ⟨(some 24), .bin .lss .int (.t 23) (.t 22), none, []⟩])
  (.seq (.cond (.t 24)
   (.skip)
   (.exit 0))
  (.seq (.block 1 (.seq (.ops [
    ⟨(some 25), .mv (.t 23), none, []⟩,
    ⟨(some 6), .mv (.t 25), none, []⟩])
  (.seq (.ops [
    ⟨(some 26), .fa 0 (.t 4), none, []⟩,
    ⟨(some 27), .fa 0 (.t 26), none, []⟩,
    ⟨(some 28), .load false 1 (.t 27), none, []⟩,
    ⟨(some 29), .mv (.c (.int .i64 0)), none, []⟩])
  (.block 2 (.loop (.seq (.ops [
     ⟨(some 30), .bin .lss .int (.t 29) (.t 28), none, []⟩])
   (.seq (.cond (.t 30)
    (.skip)
    (.exit 2))
   (.seq (.block 3 (.seq (.ops [
     ⟨(some 31), .mv (.t 29), none, []⟩,
     ⟨(some 7), .mv (.t 31), none, []⟩])
   (.seq (.ops [
     ⟨(some 32), .load true 3 (.t 4), none, []⟩,
     ⟨(some 33), .mv (.t 7), none, []⟩,
     ⟨(some 34), .mv (.t 6), none, []⟩,
     ⟨(some 35), .callF 65 [(.t 32), (.t 33), (.t 34)], none, []⟩,
     ⟨(some 36), .bin .gtr .int (.t 35) (.c (.int .i64 0)), none, []⟩])
   (.cond (.t 36)
    (.seq (.ops [
      ⟨(some 37), .load false 1 (.t 2), none, []⟩,
      ⟨(some 38), .mv (.t 7), none, []⟩,
      ⟨(some 39), .mv (.t 7), none, []⟩,
      ⟨(some 40), .build [(.int .i64 0), (.int .i64 0)] [(0, 1, (.t 38)), (1, 1, (.t 39))], none, []⟩,
      ⟨(some 41), .mv (.t 6), none, []⟩,
      ⟨(some 42), .mv (.t 6), none, []⟩,
      ⟨(some 43), .build [(.int .i64 0), (.int .i64 0)] [(0, 1, (.t 41)), (1, 1, (.t 42))], none, []⟩,
      ⟨(some 44), .build [(.int .i64 0), (.int .i64 0), (.int .i64 0), (.int .i64 0)] [(0, 2, (.t 40)), (2, 2, (.t 43))], none, []⟩,
      ⟨(some 45), .build [(.int .i64 0), (.int .i64 0), (.int .i64 0), (.int .i64 0), (.int .i64 0)] [(0, 4, (.t 44))], none, []⟩,
      ⟨(some 46), .buildS 5 [(.int .i64 0), (.int .i64 0), (.int .i64 0), (.int .i64 0), (.int .i64 0)] 1 [(0, (.t 45))], none, []⟩,
      ⟨(some 47), .app 5 40 (.t 37) (.t 46), none, []⟩,
      ⟨none, .store 1 (.t 2) (.t 47), none, []⟩])
    (.ops [
      ⟨(some 48), .load false 1 (.t 5), none, []⟩,
      ⟨(some 49), .mv (.t 7), none, []⟩,
      ⟨(some 50), .mv (.t 6), none, []⟩,
      ⟨(some 51), .callV (.t 48) [(.t 49), (.t 50)], none, []⟩]))
    (.skip)))))
   (.ops [
     ⟨(some 52), .bin .add .int (.t 29) (.c (.int .i64 1)), none, []⟩,
     ⟨(some 29), .mv (.t 52), none, []⟩])))))))))
  (.ops [
    ⟨(some 53), .bin .add .int (.t 23) (.c (.int .i64 1)), none, []⟩,
    ⟨(some 23), .mv (.t 53), none, []⟩])))))))
 (.seq (.ops [
   ⟨(some 54), .load false 1 (.t 2), none, []⟩,
   ⟨none, .store 1 (.t 2) (.t 54), none, []⟩,
   ⟨(some 3), .mv (.c (.int .i64 0)), none, []⟩])
 (.ret))))))))
def m39_0 : List Nat := [24, 25, 6, 26, 27, 28, 29, 30, 31, 7, 32, 33, 34, 35, 36, 37, 38, 39, 40, 41, 42, 43, 44, 45, 46, 47, 48, 49, 50, 51, 52, 53, 23]
def m39_1 : List Nat := [30, 31, 7, 32, 33, 34, 35, 36, 37, 38, 39, 40, 41, 42, 43, 44, 45, 46, 47, 48, 49, 50, 51, 52, 29]
theorem k39 : compFunc Tryz.prog 39 = some (55, c39, [.cell 2 false 1, .t 3]) := by kernel_rfl
def c44 : ACode :=
 .seq (.ops [
   ⟨(some 2), .mv (.c (.int .i64 0)), none, []⟩])
 (.seq (.ops [
   ⟨(some 3), .mv (.c (.int .u16 65535)), none, []⟩])
 (.seq (.seq (.ops [
   ⟨(some 7), .mv (.t 0), none, []⟩,
   ⟨(some 8), .lenS (.t 7), none, []⟩,
   ⟨(some 9), .mv (.c (.int .i64 0)), none, []⟩])
 (.block 0 (.loop (.seq (.ops [
    ⟨(some 10), .bin .lss .int (.t 9) (.t 8), none, []⟩])
  (.seq (.cond (.t 10)
   (.skip)
   (.exit 0))
  (.seq (.block 1 (.seq (.ops [
    ⟨(some 11), .ixS 1 (.t 7) (.t 9), none, []⟩,
    ⟨(some 12), .load false 1 (.t 11), none, []⟩,
    ⟨(some 5), .mv (.t 12), none, []⟩])
  (.seq (.ops [
    ⟨(some 13), .mv (.t 3), none, []⟩,
    ⟨(some 14), .mv (.t 5), none, []⟩,
    ⟨(some 15), .conv (.int .u16) (.t 14), none, []⟩,
    ⟨(some 16), .bin .shl .int (.t 15) (.c (.int .u64 8)), none, []⟩,
    ⟨(some 17), .bin .xor .int (.t 13) (.t 16), none, []⟩,
    ⟨(some 3), .mv (.t 17), none, []⟩])
  (.seq (.ops [
    ⟨(some 18), .mv (.c (.int .i64 0)), none, []⟩])
  (.block 2 (.loop (.seq (.ops [
     ⟨(some 19), .bin .lss .int (.t 18) (.c (.int .i64 8)), none, []⟩])
   (.seq (.cond (.t 19)
    (.skip)
    (.exit 2))
   (.seq (.block 3 (.seq (.ops [
     ⟨(some 20), .mv (.t 3), none, []⟩,
     ⟨(some 21), .bin .shr .int (.t 20) (.c (.int .u64 15)), none, []⟩,
     ⟨(some 6), .mv (.t 21), none, []⟩])
   (.ops [
     ⟨(some 22), .mv (.t 3), none, []⟩,
     ⟨(some 23), .bin .shl .int (.t 22) (.c (.int .u64 1)), none, []⟩,
     ⟨(some 24), .mv (.t 6), none, []⟩,
     ⟨(some 25), .bin .mul .int (.t 24) (.c (.int .u16 4129)), none, []⟩,
     ⟨(some 26), .bin .xor .int (.t 23) (.t 25), none, []⟩,
     ⟨(some 3), .mv (.t 26), none, []⟩])))
   (.ops [
     ⟨(some 27), .bin .add .int (.t 18) (.c (.int .i64 1)), none, []⟩,
     ⟨(some 18), .mv (.t 27), none, []⟩]))))))))))
  (.ops [
    ⟨(some 28), .bin .add .int (.t 9) (.c (.int .i64 1)), none, []⟩,
    ⟨(some 9), .mv (.t 28), none, []⟩])))))))
 (.seq (.ops [
   ⟨(some 29), .mv (.t 3), none, []⟩,
   ⟨(some 30), .conv (.int .i64) (.t 29), none, []⟩,
   ⟨(some 2), .mv (.t 30), none, []⟩])
 (.ret))))
def m44_0 : List Nat := [10, 11, 12, 5, 13, 14, 15, 16, 17, 3, 18, 19, 20, 21, 6, 22, 23, 24, 25, 26, 27, 28, 9]
def m44_1 : List Nat := [19, 20, 21, 6, 22, 23, 24, 25, 26, 3, 27, 18]
theorem k44 : compFunc Tryz.prog 44 = some (31, c44, [.t 2]) := by kernel_rfl
def c46 : ACode :=
 .seq (.ops [
   ⟨(some 2), .mv (.c .nilS), none, []⟩,
   ⟨(some 3), .mv (.c (.int .i64 0)), none, []⟩])
 (.seq (.seq (.ops [
   ⟨(some 11), .mv (.t 0), none, []⟩,
   ⟨(some 12), .callF 74 [(.t 11)], none, []⟩,
   ⟨(some 4), .mv (.t 12), none, []⟩])
 (.seq (.ops [
   ⟨(some 13), .mv (.t 4), none, []⟩,
   ⟨(some 14), .bin .neq .int (.t 13) (.c (.int .i64 0)), none, []⟩])
 (.cond (.t 14)
  (.seq (.ops [
    ⟨(some 15), .mv (.t 4), none, []⟩,
    ⟨(some 2), .mv (.c .nilS), none, []⟩,
    ⟨(some 3), .mv (.t 15), none, []⟩])
  (.ret))
  (.skip))))
 (.seq (.dr [
   ⟨(some 16), .mv (.t 0), none, []⟩,
   ⟨(some 17), .ixS 3 (.t 16) (.c (.int .i64 0)), none, [0]⟩,
   ⟨(some 18), .fa 0 (.t 17), none, [1]⟩,
   ⟨(some 19), .load false 1 (.t 18), none, [2]⟩,
   ⟨(some 20), .conv (.int .u8) (.t 19), none, [3]⟩,
   ⟨(some 21), .mv (.t 0), none, []⟩,
   ⟨(some 22), .ixS 3 (.t 21) (.c (.int .i64 0)), none, [5]⟩,
   ⟨(some 23), .fa 1 (.t 22), none, [6]⟩,
   ⟨(some 24), .load false 1 (.t 23), none, [7]⟩,
   ⟨(some 25), .conv (.int .u8) (.t 24), none, [8]⟩,
   ⟨(some 26), .mv (.t 0), none, []⟩,
   ⟨(some 27), .lenS (.t 26), none, [10]⟩,
   ⟨(some 28), .conv (.int .u8) (.t 27), none, [11]⟩,
   ⟨(some 29), .buildS 1 [(.int .u8 0)] 5 [(0, (.c (.int .u8 83))), (1, (.c (.int .u8 78))), (2, (.t 20)), (3, (.t 25)), (4, (.t 28))], none, [4, 9, 12]⟩,
   ⟨(some 5), .alloc [.nilS], none, []⟩,
   ⟨none, .store 1 (.t 5) (.t 29), none, [14, 13, 0, 1, 2, 3, 4, 5, 6, 7, 8, 9, 10, 11, 12, 13, 14]⟩])
 (.seq (.seq (.ops [
   ⟨(some 30), .mv (.t 0), none, []⟩,
   ⟨(some 31), .lenS (.t 30), none, []⟩,
   ⟨(some 32), .mv (.c (.int .i64 0)), none, []⟩])
 (.block 0 (.loop (.seq (.ops [
    ⟨(some 33), .bin .lss .int (.t 32) (.t 31), none, []⟩])
  (.seq (.cond (.t 33)
   (.skip)
   (.exit 0))
  (.seq (.block 1 (.seq (.ops [
    ⟨(some 34), .ixS 3 (.t 30) (.t 32), none, []⟩,
    ⟨(some 35), .load true 3 (.t 34), none, []⟩,
    ⟨(some 7), .alloc [(.int .i64 0), (.int .i64 0), .nilS], none, []⟩,
    ⟨none, .store 3 (.t 7) (.t 35), none, []⟩])
  (.seq (.ops [
    ⟨(some 36), .fa 2 (.t 7), none, []⟩,
    ⟨(some 37), .load false 1 (.t 36), none, []⟩,
    ⟨(some 38), .fa 0 (.t 7), none, []⟩,
    ⟨(some 39), .load false 1 (.t 38), none, []⟩,
    ⟨(some 40), .callF 90 [(.t 37), (.t 39)], none, []⟩])
  (.block 2 (.rangeF (.t 40) [41] (.ops [
     ⟨(some 8), .mv (.t 41), none, []⟩])
   (.block 3 (.seq (.ops [
     ⟨(some 42), .mv (.t 8), none, []⟩,
     ⟨(some 43), .callF 91 [(.t 42)], none, []⟩])
   (.block 4 (.rangeF (.t 43) [44] (.ops [
      ⟨(some 9), .mv (.t 44), none, []⟩])
    (.block 5 (.ops [
      ⟨(some 45), .load false 1 (.t 5), none, []⟩,
      ⟨(some 46), .mv (.t 9), none, []⟩,
      ⟨(some 47), .app 1 1 (.t 45) (.t 46), none, []⟩,
      ⟨none, .store 1 (.t 5) (.t 47), none, []⟩])))))))))))
  (.ops [
    ⟨(some 48), .bin .add .int (.t 32) (.c (.int .i64 1)), none, []⟩,
    ⟨(some 32), .mv (.t 48), none, []⟩])))))))
 (.seq (.ops [
   ⟨(some 49), .load false 1 (.t 5), none, []⟩,
   ⟨(some 50), .callF 44 [(.t 49)], none, []⟩,
   ⟨(some 10), .mv (.t 50), none, []⟩])
 (.seq (.ops [
   ⟨(some 51), .load false 1 (.t 5), none, []⟩,
   ⟨(some 52), .mv (.t 10), none, []⟩,
   ⟨(some 53), .bin .shr .int (.t 52) (.c (.int .u64 8)), none, []⟩,
   ⟨(some 54), .conv (.int .u8) (.t 53), none, []⟩,
   ⟨(some 55), .mv (.t 10), none, []⟩,
   ⟨(some 56), .conv (.int .u8) (.t 55), none, []⟩,
   ⟨(some 57), .buildS 1 [(.int .u8 0)] 2 [(0, (.t 54)), (1, (.t 56))], none, []⟩,
   ⟨(some 58), .app 1 1 (.t 51) (.t 57), none, []⟩,
   ⟨(some 2), .mv (.t 58), none, []⟩,
   ⟨(some 3), .mv (.c (.int .i64 0)), none, []⟩])
 (.ret))))))
def m46_0 : List Nat := [33, 34, 35, 7, 36, 37, 38, 39, 40, 48, 32]
theorem k46 : compFunc Tryz.prog 46 = some (59, c46, [.t 2, .t 3]) := by kernel_rfl
def c51 : ACode :=
 .seq (.ops [
   ⟨(some 2), .alloc [.nilS], none, []⟩,
   ⟨(some 3), .alloc [(.int .i64 0)], none, []⟩])
 (.seq (.ops [
   ⟨(some 8), .mv (.t 0), none, []⟩,
   ⟨(some 9), .lenS (.t 8), none, []⟩,
   ⟨(some 10), .bin .sub .int (.t 9) (.c (.int .i64 2)), none, []⟩,
   ⟨(some 4), .mv (.t 10), none, []⟩])
 (.seq (.block 0 (.seq (.ops [
   ⟨(some 12), .mv (.t 0), none, []⟩,
   ⟨(some 13), .lenS (.t 12), none, []⟩,
   ⟨(some 14), .bin .gtr .int (.t 13) (.c (.int .i64 80000)), none, []⟩,
   ⟨(some 11), .mv (.t 14), none, []⟩])
 (.cond (.t 11)
  (.seq (.ops [
    ⟨none, .store 1 (.t 2) (.c .nilS), none, []⟩,
    ⟨none, .store 1 (.t 3) (.c (.int .i64 3)), none, []⟩])
  (.ret))
  (.seq (.ops [
    ⟨(some 16), .mv (.t 0), none, []⟩,
    ⟨(some 17), .lenS (.t 16), none, []⟩,
    ⟨(some 18), .bin .lss .int (.t 17) (.c (.int .i64 7)), none, []⟩,
    ⟨(some 19), .mv (.t 18), none, []⟩,
    ⟨(some 20), .mv (.t 0), (some (19, false)), []⟩,
    ⟨(some 21), .ixS 1 (.t 20) (.c (.int .i64 0)), (some (19, false)), []⟩,
    ⟨(some 22), .load false 1 (.t 21), (some (19, false)), []⟩,
    ⟨(some 23), .bin .neq .int (.t 22) (.c (.int .u8 83)), (some (19, false)), []⟩,
    ⟨(some 24), .pick (.t 19) (.c (.bool true)) (.t 23), none, []⟩,
    ⟨(some 25), .mv (.t 24), none, []⟩,
    ⟨(some 26), .mv (.t 0), (some (25, false)), []⟩,
    ⟨(some 27), .ixS 1 (.t 26) (.c (.int .i64 1)), (some (25, false)), []⟩,
    ⟨(some 28), .load false 1 (.t 27), (some (25, false)), []⟩,
    ⟨(some 29), .bin .neq .int (.t 28) (.c (.int .u8 78)), (some (25, false)), []⟩,
    ⟨(some 30), .pick (.t 25) (.c (.bool true)) (.t 29), none, []⟩,
    ⟨(some 15), .mv (.t 30), none, []⟩])
  (.cond (.t 15)
   (.seq (.ops [
     ⟨none, .store 1 (.t 2) (.c .nilS), none, []⟩,
     ⟨none, .store 1 (.t 3) (.c (.int .i64 6)), none, []⟩])
   (.ret))
   (.seq (.dr [
     ⟨(some 32), .mv (.t 0), none, []⟩,
     ⟨(some 33), .mv (.t 4), none, []⟩,
     ⟨(some 34), .slS 1 (.t 32) none (some (.t 33)) none, none, [0, 1]⟩,
     ⟨(some 35), .callF 44 [(.t 34)], none, [2]⟩,
     ⟨(some 36), .mv (.t 0), none, []⟩,
     ⟨(some 37), .mv (.t 4), none, []⟩,
     ⟨(some 38), .ixS 1 (.t 36) (.t 37), none, [4, 5]⟩,
     ⟨(some 39), .load false 1 (.t 38), none, [6]⟩,
     ⟨(some 40), .conv (.int .i64) (.t 39), none, [7]⟩,
     ⟨(some 41), .bin .shl .int (.t 40) (.c (.int .u64 8)), none, [8]⟩,
     ⟨(some 42), .mv (.t 0), none, []⟩,
     ⟨(some 43), .mv (.t 4), none, []⟩,
     ⟨(some 44), .bin .add .int (.t 43) (.c (.int .i64 1)), none, [11]⟩,
     ⟨(some 45), .ixS 1 (.t 42) (.t 44), none, [10, 12]⟩,
     ⟨(some 46), .load false 1 (.t 45), none, [13]⟩,
     ⟨(some 47), .conv (.int .i64) (.t 46), none, [14]⟩,
     ⟨(some 48), .bin .or .int (.t 41) (.t 47), none, [9, 15]⟩,
     ⟨(some 49), .bin .neq .int (.t 35) (.t 48), none, [3, 16]⟩,
     ⟨(some 31), .mv (.t 49), none, [17, 3]⟩])
   (.cond (.t 31)
    (.seq (.ops [
      ⟨none, .store 1 (.t 2) (.c .nilS), none, []⟩,
      ⟨none, .store 1 (.t 3) (.c (.int .i64 170)), none, []⟩])
    (.ret))
    (.skip))))))))
 (.seq (.ops [
   ⟨(some 50), .mkF (.func 95) [] [(.t 2), (.t 3)], none, []⟩,
   ⟨none, .dfr (.t 50) [], none, []⟩])
 (.seq (.ops [
   ⟨(some 51), .mv (.t 0), none, []⟩,
   ⟨(some 52), .mv (.t 4), none, []⟩,
   ⟨(some 53), .slS 1 (.t 51) (some (.c (.int .i64 5))) (some (.t 52)) none, none, []⟩,
   ⟨(some 54), .build [.nilS] [(0, 1, (.t 53))], none, []⟩,
   ⟨(some 55), .box (.t 54), none, []⟩,
   ⟨(some 5), .mv (.t 55), none, []⟩])
 (.seq (.seq (.ops [
   ⟨(some 56), .mv (.t 0), none, []⟩,
   ⟨(some 57), .ixS 1 (.t 56) (.c (.int .i64 4)), none, []⟩,
   ⟨(some 58), .load false 1 (.t 57), none, []⟩,
   ⟨(some 59), .mv (.c (.int .u8 0)), none, []⟩])
 (.block 1 (.loop (.seq (.ops [
    ⟨(some 60), .bin .lss .int (.t 59) (.t 58), none, []⟩])
  (.seq (.cond (.t 60)
   (.skip)
   (.exit 1))
  (.seq (.block 2 (.seq (.dr [
    ⟨(some 61), .mv (.t 0), none, []⟩,
    ⟨(some 62), .ixS 1 (.t 61) (.c (.int .i64 2)), none, [0]⟩,
    ⟨(some 63), .load false 1 (.t 62), none, [1]⟩,
    ⟨(some 64), .conv (.int .i64) (.t 63), none, [2]⟩,
    ⟨(some 65), .mv (.t 0), none, []⟩,
    ⟨(some 66), .ixS 1 (.t 65) (.c (.int .i64 3)), none, [4]⟩,
    ⟨(some 67), .load false 1 (.t 66), none, [5]⟩,
    ⟨(some 68), .conv (.int .i64) (.t 67), none, [6]⟩,
    ⟨(some 69), .build [(.int .i64 0), (.int .i64 0), .nilS] [(0, 1, (.t 64)), (1, 1, (.t 68))], none, [3, 7]⟩,
    ⟨(some 6), .alloc [(.int .i64 0), (.int .i64 0), .nilS], none, []⟩,
    ⟨none, .store 3 (.t 6) (.t 69), none, [9, 8, 0, 1, 2, 3, 4, 5, 6, 7, 8, 9]⟩])
  (.seq (.ops [
    ⟨(some 70), .fa 0 (.t 6), none, []⟩,
    ⟨(some 71), .load false 1 (.t 70), none, []⟩,
    ⟨(some 72), .callF 60 [(.t 71), (.c (.int .i64 1)), (.c (.int .i64 48))], none, []⟩,
    ⟨(some 73), .un .not (.t 72), none, []⟩,
    ⟨(some 74), .mv (.t 73), none, []⟩,
    ⟨(some 75), .fa 1 (.t 6), (some (74, true)), []⟩,
    ⟨(some 76), .load false 1 (.t 75), (some (74, true)), []⟩,
    ⟨(some 77), .callF 60 [(.t 76), (.c (.int .i64 1)), (.c (.int .i64 48))], (some (74, true)), []⟩,
    ⟨(some 78), .un .not (.t 77), (some (74, true)), []⟩,
    ⟨(some 79), .pick (.t 74) (.t 78) (.c (.bool false)), none, []⟩,
    ⟨(some 80), .callF 96 [(.t 79)], none, []⟩])
  (.seq (.seq (.ops [
    ⟨(some 81), .fa 1 (.t 6), none, []⟩,
    ⟨(some 82), .load false 1 (.t 81), none, []⟩,
    ⟨(some 83), .mv (.c (.int .i64 0)), none, []⟩])
  (.block 3 (.loop (.seq (.ops [
     ⟨(some 84), .bin .lss .int (.t 83) (.t 82), none, []⟩])
   (.seq (.cond (.t 84)
    (.skip)
    (.exit 3))
   (.seq (.block 4 (.dr [
     ⟨(some 85), .fa 2 (.t 6), none, []⟩,
     ⟨(some 86), .load false 1 (.t 85), none, [0]⟩,
     ⟨(some 87), .mv (.t 5), none, []⟩,
     ⟨(some 88), .fa 0 (.t 6), none, []⟩,
     ⟨(some 89), .load false 1 (.t 88), none, [3]⟩,
     ⟨(some 90), .callF 97 [(.t 87), (.t 89)], none, [2, 4]⟩,
     ⟨(some 91), .app 1 1 (.t 86) (.t 90), none, [1, 5, 5]⟩,
     ⟨(some 92), .fa 2 (.t 6), none, [0, 1, 2, 3, 4, 5, 6]⟩,
     ⟨none, .store 1 (.t 92) (.t 91), none, [7, 6, 6, 0, 1, 2, 3, 4, 5, 6]⟩]))
   (.ops [
     ⟨(some 93), .bin .add .int (.t 83) (.c (.int .i64 1)), none, []⟩,
     ⟨(some 83), .mv (.t 93), none, []⟩])))))))
  (.ops [
    ⟨(some 94), .load false 1 (.t 2), none, []⟩,
    ⟨(some 95), .load true 3 (.t 6), none, []⟩,
    ⟨(some 96), .buildS 3 [(.int .i64 0), (.int .i64 0), .nilS] 1 [(0, (.t 95))], none, []⟩,
    ⟨(some 97), .app 3 40 (.t 94) (.t 96), none, []⟩,
    ⟨none, .store 1 (.t 2) (.t 97), none, []⟩])))))
  (.ops [
    ⟨(some 98), .bin .add .int (.t 59) (.c (.int .u8 1)), none, []⟩,
    ⟨(some 59), .mv (.t 98), none, []⟩])))))))
 (.seq (.ops [
   ⟨(some 100), .load false 1 (.t 2), none, []⟩,
   ⟨(some 101), .callF 46 [(.t 100)], none, []⟩,
   ⟨(some 99), .mv (.t 101), none, []⟩,
   ⟨(some 102), .ext (.t 99) 0, none, []⟩,
   ⟨(some 103), .ext (.t 99) 1, none, []⟩,
   ⟨(some 7), .mv (.t 102), none, []⟩,
   ⟨none, .store 1 (.t 3) (.t 103), none, []⟩])
 (.seq (.ops [
   ⟨(some 104), .load false 1 (.t 3), none, []⟩,
   ⟨(some 105), .bin .eql .int (.t 104) (.c (.int .i64 0)), none, []⟩,
   ⟨(some 106), .mv (.t 105), none, []⟩,
   ⟨(some 107), .mv (.t 7), (some (106, true)), []⟩,
   ⟨(some 108), .mv (.t 0), (some (106, true)), []⟩,
   ⟨(some 109), .callF 61 [(.t 107), (.t 108)], (some (106, true)), []⟩,
   ⟨(some 110), .pick (.t 106) (.t 109) (.c (.bool false)), none, []⟩,
   ⟨(some 111), .callF 96 [(.t 110)], none, []⟩])
 (.seq (.ops [
   ⟨(some 112), .load false 1 (.t 2), none, []⟩,
   ⟨none, .store 1 (.t 2) (.t 112), none, []⟩,
   ⟨none, .store 1 (.t 3) (.c (.int .i64 0)), none, []⟩])
 (.ret)))))))))
def m51_0 : List Nat := [60, 61, 62, 63, 64, 65, 66, 67, 68, 69, 6, 70, 71, 72, 73, 74, 75, 76, 77, 78, 79, 80, 81, 82, 83, 84, 85, 86, 87, 88, 89, 90, 91, 92, 93, 94, 95, 96, 97, 98, 59]
def m51_1 : List Nat := [84, 85, 86, 87, 88, 89, 90, 91, 92, 93, 83]
theorem k51 : compFunc Tryz.prog 51 = some (113, c51, [.cell 2 false 1, .cell 3 false 1]) := by kernel_rfl
def c60 : ACode :=
 .seq (.ops [
   ⟨(some 6), .mv (.c (.bool false)), none, []⟩])
 (.seq (.ops [
   ⟨(some 7), .mv (.t 0), none, []⟩,
   ⟨(some 8), .mv (.t 1), none, []⟩,
   ⟨(some 9), .bin .lss .int (.t 7) (.t 8), none, []⟩,
   ⟨(some 10), .mv (.t 9), none, []⟩,
   ⟨(some 11), .mv (.t 0), (some (10, false)), []⟩,
   ⟨(some 12), .mv (.t 2), (some (10, false)), []⟩,
   ⟨(some 13), .bin .gtr .int (.t 11) (.t 12), (some (10, false)), []⟩,
   ⟨(some 14), .pick (.t 10) (.c (.bool true)) (.t 13), none, []⟩,
   ⟨(some 6), .mv (.t 14), none, []⟩])
 (.ret))
theorem k60 : compFunc Tryz.prog 60 = some (15, c60, [.t 6]) := by kernel_rfl
def c61 : ACode :=
 .seq (.ops [
   ⟨(some 4), .mv (.c (.bool false)), none, []⟩])
 (.seq (.ops [
   ⟨(some 5), .mv (.t 0), none, []⟩,
   ⟨(some 6), .b2s (.t 5), none, []⟩,
   ⟨(some 7), .mv (.t 1), none, []⟩,
   ⟨(some 8), .b2s (.t 7), none, []⟩,
   ⟨(some 9), .bin .eql .str (.t 6) (.t 8), none, []⟩,
   ⟨(some 4), .mv (.t 9), none, []⟩])
 (.ret))
theorem k61 : compFunc Tryz.prog 61 = some (10, c61, [.t 4]) := by kernel_rfl
def c62 : ACode :=
 .seq (.ops [
   ⟨(some 2), .box (.t 0), none, []⟩,
   ⟨(some 4), .alloc [(.int .i64 0), (.int .i64 0), .nilS], none, []⟩])
 (.seq (.dr [
   ⟨(some 8), .fa 0 (.t 2), none, []⟩,
   ⟨(some 9), .fa 0 (.t 8), none, [0]⟩,
   ⟨(some 10), .load false 1 (.t 9), none, [1]⟩,
   ⟨(some 11), .fa 0 (.t 2), none, []⟩,
   ⟨(some 12), .fa 1 (.t 11), none, [3]⟩,
   ⟨(some 13), .load false 1 (.t 12), none, [4]⟩,
   ⟨(some 14), .fa 0 (.t 2), none, []⟩,
   ⟨(some 15), .fa 2 (.t 14), none, [6]⟩,
   ⟨(some 16), .load false 1 (.t 15), none, [7]⟩,
   ⟨(some 17), .lenS (.t 16), none, [8]⟩,
   ⟨(some 18), .mkS [(.int .u8 0)] 1 (.c (.int .i64 0)) (.t 17), none, [9]⟩,
   ⟨(some 19), .build [(.int .i64 0), (.int .i64 0), .nilS] [(0, 1, (.t 10)), (1, 1, (.t 13)), (2, 1, (.t 18))], none, [2, 5, 10]⟩,
   ⟨(some 5), .alloc [(.int .i64 0), (.int .i64 0), .nilS], none, []⟩,
   ⟨none, .store 3 (.t 5) (.t 19), none, [12, 11, 0, 1, 2, 3, 4, 5, 6, 7, 8, 9, 10, 11, 12]⟩])
 (.seq (.seq (.ops [
   ⟨(some 20), .fa 0 (.t 2), none, []⟩,
   ⟨(some 21), .fa 1 (.t 20), none, []⟩,
   ⟨(some 22), .load false 1 (.t 21), none, []⟩,
   ⟨(some 23), .mv (.c (.int .i64 0)), none, []⟩])
 (.block 0 (.loop (.seq (.ops [
    ⟨(some 24), .bin .lss .int (.t 23) (.t 22), none, []⟩])
  (.seq (.cond (.t 24)
   (.skip)
   (.exit 0))
  (.seq (.block 1 (.seq (.ops [
    ⟨(some 25), .mv (.t 23), none, []⟩,
    ⟨(some 6), .mv (.t 25), none, []⟩])
  (.seq (.ops [
    ⟨(some 26), .fa 0 (.t 2), none, []⟩,
    ⟨(some 27), .fa 0 (.t 26), none, []⟩,
    ⟨(some 28), .load false 1 (.t 27), none, []⟩,
    ⟨(some 29), .mv (.c (.int .i64 0)), none, []⟩])
  (.block 2 (.loop (.seq (.ops [
     ⟨(some 30), .bin .lss .int (.t 29) (.t 28), none, []⟩])
   (.seq (.cond (.t 30)
    (.skip)
    (.exit 2))
   (.seq (.block 3 (.seq (.ops [
     ⟨(some 31), .mv (.t 29), none, []⟩,
     ⟨(some 7), .mv (.t 31), none, []⟩])
   (.dr [
     ⟨(some 32), .fa 2 (.t 5), none, []⟩,
     ⟨(some 33), .load false 1 (.t 32), none, [0]⟩,
     ⟨(some 34), .mv (.t 1), none, []⟩,
     ⟨(some 35), .mv (.t 7), none, []⟩,
     ⟨(some 36), .mv (.t 6), none, []⟩,
     ⟨(some 37), .callV (.t 34) [(.t 35), (.t 36)], none, [2, 3, 4]⟩,
     ⟨(some 38), .conv (.int .u8) (.t 37), none, [5]⟩,
     ⟨(some 39), .buildS 1 [(.int .u8 0)] 1 [(0, (.t 38))], none, [6]⟩,
     ⟨(some 40), .app 1 1 (.t 33) (.t 39), none, [1, 7, 5]⟩,
     ⟨(some 41), .fa 2 (.t 5), none, [0, 1, 2, 3, 4, 5, 6, 7, 8]⟩,
     ⟨none, .store 1 (.t 41) (.t 40), none, [9, 8, 8, 0, 1, 2, 3, 4, 5, 6, 7, 8]⟩])))
   (.ops [
     ⟨(some 42), .bin .add .int (.t 29) (.c (.int .i64 1)), none, []⟩,
     ⟨(some 29), .mv (.t 42), none, []⟩])))))))))
  (.ops [
    ⟨(some 43), .bin .add .int (.t 23) (.c (.int .i64 1)), none, []⟩,
    ⟨(some 23), .mv (.t 43), none, []⟩])))))))
 (.seq (.ops [
   ⟨(some 44), .load true 3 (.t 5), none, []⟩,
   ⟨none, .store 3 (.t 4) (.t 44), none, []⟩])
 (.ret))))
def m62_0 : List Nat := [24, 25, 6, 26, 27, 28, 29, 30, 31, 7, 32, 33, 34, 35, 36, 37, 38, 39, 40, 41, 42, 43, 23]
def m62_1 : List Nat := [30, 31, 7, 32, 33, 34, 35, 36, 37, 38, 39, 40, 41, 42, 29]
theorem k62 : compFunc Tryz.prog 62 = some (45, c62, [.cell 4 true 3]) := by kernel_rfl
def c63 : ACode :=
 .seq (.ops [
   ⟨(some 8), .mv (.c (.int .i64 0)), none, []⟩])
 (.seq (.seq (.ops [
   ⟨(some 9), .load true 3 (.t 2), none, []⟩,
   ⟨(some 10), .mv (.t 0), none, []⟩,
   ⟨(some 11), .load false 1 (.t 3), none, []⟩,
   ⟨(some 12), .bin .sub .int (.t 10) (.t 11), none, []⟩,
   ⟨(some 13), .mv (.t 1), none, []⟩,
   ⟨(some 14), .load false 1 (.t 4), none, []⟩,
   ⟨(some 15), .bin .sub .int (.t 13) (.t 14), none, []⟩,
   ⟨(some 16), .callF 64 [(.t 9), (.t 12), (.t 15)], none, []⟩])
 (.cond (.t 16)
  (.seq (.ops [
    ⟨(some 17), .load true 3 (.t 2), none, []⟩,
    ⟨(some 18), .mv (.t 0), none, []⟩,
    ⟨(some 19), .load false 1 (.t 3), none, []⟩,
    ⟨(some 20), .bin .sub .int (.t 18) (.t 19), none, []⟩,
    ⟨(some 21), .mv (.t 1), none, []⟩,
    ⟨(some 22), .load false 1 (.t 4), none, []⟩,
    ⟨(some 23), .bin .sub .int (.t 21) (.t 22), none, []⟩,
    ⟨(some 24), .callF 65 [(.t 17), (.t 20), (.t 23)], none, []⟩,
    ⟨(some 8), .mv (.t 24), none, []⟩])
  (.ret))
  (.skip)))
 (.seq (.ops [
   ⟨(some 25), .load false 1 (.t 5), none, []⟩,
   ⟨(some 26), .conv (.int .i64) (.t 25), none, []⟩,
   ⟨(some 8), .mv (.t 26), none, []⟩])
 (.ret)))
theorem k63 : compFunc Tryz.prog 63 = some (27, c63, [.t 8]) := by kernel_rfl
def c64 : ACode :=
 .seq (.ops [
   ⟨(some 3), .box (.t 0), none, []⟩,
   ⟨(some 6), .mv (.c (.bool false)), none, []⟩])
 (.seq (.ops [
   ⟨(some 7), .mv (.t 1), none, []⟩,
   ⟨(some 8), .fa 0 (.t 3), none, []⟩,
   ⟨(some 9), .fa 0 (.t 8), none, []⟩,
   ⟨(some 10), .load false 1 (.t 9), none, []⟩,
   ⟨(some 11), .bin .sub .int (.t 10) (.c (.int .i64 1)), none, []⟩,
   ⟨(some 12), .callF 60 [(.t 7), (.c (.int .i64 0)), (.t 11)], none, []⟩,
   ⟨(some 13), .un .not (.t 12), none, []⟩,
   ⟨(some 14), .mv (.t 13), none, []⟩,
   ⟨(some 15), .mv (.t 2), (some (14, true)), []⟩,
   ⟨(some 16), .fa 0 (.t 3), (some (14, true)), []⟩,
   ⟨(some 17), .fa 1 (.t 16), (some (14, true)), []⟩,
   ⟨(some 18), .load false 1 (.t 17), (some (14, true)), []⟩,
   ⟨(some 19), .bin .sub .int (.t 18) (.c (.int .i64 1)), (some (14, true)), []⟩,
   ⟨(some 20), .callF 60 [(.t 15), (.c (.int .i64 0)), (.t 19)], (some (14, true)), []⟩,
   ⟨(some 21), .un .not (.t 20), (some (14, true)), []⟩,
   ⟨(some 22), .pick (.t 14) (.t 21) (.c (.bool false)), none, []⟩,
   ⟨(some 6), .mv (.t 22), none, []⟩])
 (.ret))
theorem k64 : compFunc Tryz.prog 64 = some (23, c64, [.t 6]) := by kernel_rfl
def c65 : ACode :=
 .seq (.ops [
   ⟨(some 3), .box (.t 0), none, []⟩,
   ⟨(some 6), .mv (.c (.int .i64 0)), none, []⟩])
 (.seq (.ops [
   ⟨(some 7), .fa 0 (.t 3), none, []⟩,
   ⟨(some 8), .fa 2 (.t 7), none, []⟩,
   ⟨(some 9), .load false 1 (.t 8), none, []⟩,
   ⟨(some 10), .mv (.t 2), none, []⟩,
   ⟨(some 11), .fa 0 (.t 3), none, []⟩,
   ⟨(some 12), .fa 0 (.t 11), none, []⟩,
   ⟨(some 13), .load false 1 (.t 12), none, []⟩,
   ⟨(some 14), .bin .mul .int (.t 10) (.t 13), none, []⟩,
   ⟨(some 15), .mv (.t 1), none, []⟩,
   ⟨(some 16), .bin .add .int (.t 14) (.t 15), none, []⟩,
   ⟨(some 17), .ixS 1 (.t 9) (.t 16), none, []⟩,
   ⟨(some 18), .load false 1 (.t 17), none, []⟩,
   ⟨(some 19), .conv (.int .i64) (.t 18), none, []⟩,
   ⟨(some 6), .mv (.t 19), none, []⟩])
 (.ret))
theorem k65 : compFunc Tryz.prog 65 = some (20, c65, [.t 6]) := by kernel_rfl
def c67 : ACode :=
 .seq (.ops [
   ⟨(some 2), .mv (.c (.int .i64 0)), none, []⟩])
 (.seq (.ops [
   ⟨(some 3), .mv (.c (.int .i64 0)), none, []⟩])
 (.seq (.seq (.ops [
   ⟨(some 6), .mv (.t 0), none, []⟩,
   ⟨(some 7), .lenS (.t 6), none, []⟩,
   ⟨(some 8), .mv (.c (.int .i64 0)), none, []⟩])
 (.block 0 (.loop (.seq (.ops [
    ⟨(some 9), .bin .lss .int (.t 8) (.t 7), none, []⟩])
  (.seq (.cond (.t 9)
   (.skip)
   (.exit 0))
  (.seq (.block 1 (.seq (.ops [
    ⟨(some 10), .ixS 1 (.t 6) (.t 8), none, []⟩,
    ⟨(some 11), .load false 1 (.t 10), none, []⟩,
    ⟨(some 5), .mv (.t 11), none, []⟩])
  (.seq (.ops [
    ⟨(some 12), .mv (.t 5), none, []⟩,
    ⟨(some 13), .mv (.t 3), none, []⟩,
    ⟨(some 14), .bin .neq .int (.t 12) (.t 13), none, []⟩])
  (.cond (.t 14)
   (.seq (.ops [
     ⟨(some 15), .mv (.t 5), none, []⟩,
     ⟨(some 2), .mv (.t 15), none, []⟩])
   (.ret))
   (.skip)))))
  (.ops [
    ⟨(some 16), .bin .add .int (.t 8) (.c (.int .i64 1)), none, []⟩,
    ⟨(some 8), .mv (.t 16), none, []⟩])))))))
 (.seq (.ops [
   ⟨(some 17), .mv (.t 3), none, []⟩,
   ⟨(some 2), .mv (.t 17), none, []⟩])
 (.ret))))
def m67_0 : List Nat := [9, 10, 11, 5, 12, 13, 14, 15, 2, 16, 8]
theorem k67 : compFunc Tryz.prog 67 = some (18, c67, [.t 2]) := by kernel_rfl
def c68 : ACode :=
 .seq (.ops [
   ⟨(some 2), .box (.t 0), none, []⟩,
   ⟨(some 3), .box (.t 1), none, []⟩,
   ⟨(some 4), .mv (.c (.bool false)), none, []⟩])
 (.seq (.ops [
   ⟨(some 5), .fa 0 (.t 3), none, []⟩,
   ⟨(some 6), .fa 0 (.t 5), none, []⟩,
   ⟨(some 7), .load false 1 (.t 6), none, []⟩,
   ⟨(some 8), .fa 0 (.t 3), none, []⟩,
   ⟨(some 9), .fa 1 (.t 8), none, []⟩,
   ⟨(some 10), .load false 1 (.t 9), none, []⟩,
   ⟨(some 11), .bin .gtr .int (.t 7) (.t 10), none, []⟩,
   ⟨(some 12), .mv (.t 11), none, []⟩,
   ⟨(some 13), .fa 2 (.t 3), (some (12, false)), []⟩,
   ⟨(some 14), .fa 0 (.t 13), (some (12, false)), []⟩,
   ⟨(some 15), .load false 1 (.t 14), (some (12, false)), []⟩,
   ⟨(some 16), .fa 2 (.t 3), (some (12, false)), []⟩,
   ⟨(some 17), .fa 1 (.t 16), (some (12, false)), []⟩,
   ⟨(some 18), .load false 1 (.t 17), (some (12, false)), []⟩,
   ⟨(some 19), .bin .gtr .int (.t 15) (.t 18), (some (12, false)), []⟩,
   ⟨(some 20), .pick (.t 12) (.c (.bool true)) (.t 19), none, []⟩,
   ⟨(some 21), .mv (.t 20), none, []⟩,
   ⟨(some 22), .load true 3 (.t 2), (some (21, false)), []⟩,
   ⟨(some 23), .fa 0 (.t 3), (some (21, false)), []⟩,
   ⟨(some 24), .fa 0 (.t 23), (some (21, false)), []⟩,
   ⟨(some 25), .load false 1 (.t 24), (some (21, false)), []⟩,
   ⟨(some 26), .fa 2 (.t 3), (some (21, false)), []⟩,
   ⟨(some 27), .fa 0 (.t 26), (some (21, false)), []⟩,
   ⟨(some 28), .load false 1 (.t 27), (some (21, false)), []⟩,
   ⟨(some 29), .callF 64 [(.t 22), (.t 25), (.t 28)], (some (21, false)), []⟩,
   ⟨(some 30), .un .not (.t 29), (some (21, false)), []⟩,
   ⟨(some 31), .pick (.t 21) (.c (.bool true)) (.t 30), none, []⟩,
   ⟨(some 32), .mv (.t 31), none, []⟩,
   ⟨(some 33), .load true 3 (.t 2), (some (32, false)), []⟩,
   ⟨(some 34), .fa 0 (.t 3), (some (32, false)), []⟩,
   ⟨(some 35), .fa 1 (.t 34), (some (32, false)), []⟩,
   ⟨(some 36), .load false 1 (.t 35), (some (32, false)), []⟩,
   ⟨(some 37), .fa 2 (.t 3), (some (32, false)), []⟩,
   ⟨(some 38), .fa 1 (.t 37), (some (32, false)), []⟩,
   ⟨(some 39), .load false 1 (.t 38), (some (32, false)), []⟩,
   ⟨(some 40), .callF 64 [(.t 33), (.t 36), (.t 39)], (some (32, false)), []⟩,
   ⟨(some 41), .un .not (.t 40), (some (32, false)), []⟩,
   ⟨(some 42), .pick (.t 32) (.c (.bool true)) (.t 41), none, []⟩,
   ⟨(some 4), .mv (.t 42), none, []⟩])
 (.ret))
theorem k68 : compFunc Tryz.prog 68 = some (43, c68, [.t 4]) := by kernel_rfl
def c69 : ACode :=
 .seq (.ops [
   ⟨(some 2), .mv (.c (.int .i64 0)), none, []⟩])
 (.seq (.ops [
   ⟨(some 3), .mv (.t 0), none, []⟩,
   ⟨(some 4), .mv (.t 0), none, []⟩,
   ⟨(some 5), .un .neg (.t 4), none, []⟩,
   ⟨(some 6), .mx [(.t 3), (.t 5)], none, []⟩,
   ⟨(some 2), .mv (.t 6), none, []⟩])
 (.ret))
theorem k69 : compFunc Tryz.prog 69 = some (7, c69, [.t 2]) := by kernel_rfl
def c70 : ACode :=
 .seq (.ops [
   ⟨(some 4), .alloc [(.int .i64 0), (.int .i64 0), (.int .i64 0)], none, []⟩])
 (.seq (.seq (.ops [
   ⟨(some 7), .mv (.t 0), none, []⟩,
   ⟨(some 8), .lenS (.t 7), none, []⟩,
   ⟨(some 9), .bin .lss .int (.t 8) (.c (.int .i64 1)), none, []⟩])
 (.cond (.t 9)
  (.ops [
    ⟨(some 10), .mkI 9 (.c (.str ⟨#[115, 108, 105, 99, 101, 115, 46, 77, 105, 110, 70, 117, 110, 99, 58, 32, 101, 109, 112, 116, 121, 32, 108, 105, 115, 116]⟩)), none, []⟩,
    ⟨none, .panic (.t 10), none, []⟩])
  (.skip)))
 (.seq (.ops [
   ⟨(some 11), .mv (.t 0), none, []⟩,
   ⟨(some 12), .ixS 3 (.t 11) (.c (.int .i64 0)), none, []⟩,
   ⟨(some 13), .load true 3 (.t 12), none, []⟩,
   ⟨(some 5), .alloc [(.int .i64 0), (.int .i64 0), (.int .i64 0)], none, []⟩,
   ⟨none, .store 3 (.t 5) (.t 13), none, []⟩])
 (.seq (.seq (.ops [
   ⟨(some 6), .mv (.c (.int .i64 1)), none, []⟩])
 (.block 0 (.loop (.seq (.seq (.ops [
    ⟨(some 14), .mv (.t 6), none, []⟩,
    ⟨(some 15), .mv (.t 0), none, []⟩,
    ⟨(some 16), .lenS (.t 15), none, []⟩,
    ⟨(some 17), .bin .lss .int (.t 14) (.t 16), none, []⟩])
  (.cond (.t 17)
   (.skip)
   (.exit 0)))
  (.seq (.block 1 (.seq (.dr [
    ⟨(some 20), .mv (.t 1), none, []⟩,
    ⟨(some 21), .mv (.t 0), none, []⟩,
    ⟨(some 22), .mv (.t 6), none, []⟩,
    ⟨(some 23), .ixS 3 (.t 21) (.t 22), none, [1, 2]⟩,
    ⟨(some 24), .load true 3 (.t 23), none, [3]⟩,
    ⟨(some 25), .load true 3 (.t 5), none, []⟩,
    ⟨(some 26), .callV (.t 20) [(.t 24), (.t 25)], none, [0, 4, 5]⟩,
    ⟨(some 27), .bin .lss .int (.t 26) (.c (.int .i64 0)), none, [6]⟩])
  (.cond (.t 27)
   (.ops [
     ⟨(some 28), .mv (.t 0), none, []⟩,
     ⟨(some 29), .mv (.t 6), none, []⟩,
     ⟨(some 30), .ixS 3 (.t 28) (.t 29), none, []⟩,
     ⟨(some 31), .load true 3 (.t 30), none, []⟩,
     ⟨none, .store 3 (.t 5) (.t 31), none, []⟩])
   (.skip))))
  (.ops [
    ⟨(some 18), .mv (.t 6), none, []⟩,
    ⟨(some 19), .bin .add .int (.t 18) (.c (.int .i64 1)), none, []⟩,
    ⟨(some 6), .mv (.t 19), none, []⟩]))))))
 (.seq (.ops [
   ⟨(some 32), .load true 3 (.t 5), none, []⟩,
   ⟨none, .store 3 (.t 4) (.t 32), none, []⟩])
 (.ret)))))
def m70_0 : List Nat := [14, 15, 16, 17, 20, 21, 22, 23, 24, 25, 26, 27, 28, 29, 30, 31, 18, 19, 6]
theorem k70 : compFunc Tryz.prog 70 = some (33, c70, [.cell 4 true 3]) := by kernel_rfl
def c71 : ACode :=
 .seq (.ops [
   ⟨(some 2), .box (.t 0), none, []⟩,
   ⟨(some 3), .box (.t 1), none, []⟩,
   ⟨(some 4), .mv (.c (.int .i64 0)), none, []⟩])
 (.seq (.dr [
   ⟨(some 5), .fa 2 (.t 2), none, []⟩,
   ⟨(some 6), .load false 1 (.t 5), none, [0]⟩,
   ⟨(some 7), .fa 2 (.t 3), none, []⟩,
   ⟨(some 8), .load false 1 (.t 7), none, [2]⟩,
   ⟨(some 9), .bin .sub .int (.t 6) (.t 8), none, [1, 3]⟩,
   ⟨(some 10), .fa 0 (.t 2), none, []⟩,
   ⟨(some 11), .load false 1 (.t 10), none, [5]⟩,
   ⟨(some 12), .callF 69 [(.t 11)], none, [6]⟩,
   ⟨(some 13), .fa 1 (.t 2), none, []⟩,
   ⟨(some 14), .load false 1 (.t 13), none, [8]⟩,
   ⟨(some 15), .callF 69 [(.t 14)], none, [9, 7]⟩,
   ⟨(some 16), .bin .add .int (.t 12) (.t 15), none, [7, 10]⟩,
   ⟨(some 17), .fa 0 (.t 3), none, []⟩,
   ⟨(some 18), .load false 1 (.t 17), none, [12]⟩,
   ⟨(some 19), .callF 69 [(.t 18)], none, [13, 10]⟩,
   ⟨(some 20), .bin .sub .int (.t 16) (.t 19), none, [11, 14]⟩,
   ⟨(some 21), .fa 1 (.t 3), none, []⟩,
   ⟨(some 22), .load false 1 (.t 21), none, [16]⟩,
   ⟨(some 23), .callF 69 [(.t 22)], none, [17, 14]⟩,
   ⟨(some 24), .bin .sub .int (.t 20) (.t 23), none, [15, 18]⟩,
   ⟨(some 25), .fa 1 (.t 2), none, []⟩,
   ⟨(some 26), .load false 1 (.t 25), none, [20]⟩,
   ⟨(some 27), .fa 1 (.t 3), none, []⟩,
   ⟨(some 28), .load false 1 (.t 27), none, [22]⟩,
   ⟨(some 29), .bin .sub .int (.t 26) (.t 28), none, [21, 23]⟩,
   ⟨(some 30), .fa 0 (.t 2), none, []⟩,
   ⟨(some 31), .load false 1 (.t 30), none, [25]⟩,
   ⟨(some 32), .fa 0 (.t 3), none, []⟩,
   ⟨(some 33), .load false 1 (.t 32), none, [27]⟩,
   ⟨(some 34), .bin .sub .int (.t 31) (.t 33), none, [26, 28]⟩,
   ⟨(some 35), .buildS 1 [(.int .i64 0)] 4 [(0, (.t 9)), (1, (.t 24)), (2, (.t 29)), (3, (.t 34))], none, [4, 19, 24, 29]⟩,
   ⟨(some 36), .callF 106 [(.t 35)], none, [30, 18]⟩,
   ⟨(some 4), .mv (.t 36), none, [31, 31, 0, 1, 2, 3, 4, 5, 6, 7, 8, 9, 10, 11, 12, 13, 14, 15, 16, 17, 18, 19, 20, 21, 22, 23, 24, 25, 26, 27, 28, 29, 30, 31]⟩])
 (.ret))
theorem k71 : compFunc Tryz.prog 71 = some (37, c71, [.t 4]) := by kernel_rfl
def c72 : ACode :=
 .seq (.ops [
   ⟨(some 2), .box (.t 0), none, []⟩,
   ⟨(some 3), .box (.t 1), none, []⟩,
   ⟨(some 4), .alloc [(.int .i64 0), (.int .i64 0)], none, []⟩,
   ⟨(some 5), .mv (.c (.bool false)), none, []⟩])
 (.seq (.ops [
   ⟨(some 7), .fa 0 (.t 2), none, []⟩,
   ⟨(some 8), .load false 1 (.t 7), none, []⟩,
   ⟨(some 9), .fa 0 (.t 3), none, []⟩,
   ⟨(some 10), .load false 1 (.t 9), none, []⟩,
   ⟨(some 11), .mx [(.t 8), (.t 10)], none, []⟩,
   ⟨(some 12), .fa 1 (.t 2), none, []⟩,
   ⟨(some 13), .load false 1 (.t 12), none, []⟩,
   ⟨(some 14), .fa 1 (.t 3), none, []⟩,
   ⟨(some 15), .load false 1 (.t 14), none, []⟩,
   ⟨(some 16), .mn [(.t 13), (.t 15)], none, []⟩,
   ⟨(some 17), .build [(.int .i64 0), (.int .i64 0)] [(0, 1, (.t 11)), (1, 1, (.t 16))], none, []⟩,
   ⟨(some 6), .alloc [(.int .i64 0), (.int .i64 0)], none, []⟩,
   ⟨none, .store 2 (.t 6) (.t 17), none, []⟩])
 (.seq (.dr [
   ⟨(some 18), .load true 2 (.t 6), none, []⟩,
   ⟨(some 19), .fa 0 (.t 6), none, []⟩,
   ⟨(some 20), .load false 1 (.t 19), none, [1]⟩,
   ⟨(some 21), .fa 1 (.t 6), none, []⟩,
   ⟨(some 22), .load false 1 (.t 21), none, [3]⟩,
   ⟨(some 23), .bin .leq .int (.t 20) (.t 22), none, [2, 4]⟩,
   ⟨none, .store 2 (.t 4) (.t 18), none, [0, 0]⟩,
   ⟨(some 5), .mv (.t 23), none, [5, 6, 0, 1, 2, 3, 4, 5, 6]⟩])
 (.ret)))
theorem k72 : compFunc Tryz.prog 72 = some (24, c72, [.cell 4 true 2, .t 5]) := by kernel_rfl
def c73 : ACode :=
 .seq (.ops [
   ⟨(some 1), .box (.t 0), none, []⟩,
   ⟨(some 2), .alloc [(.int .i64 0), (.int .i64 0)], none, []⟩])
 (.seq (.ops [
   ⟨(some 4), .fa 1 (.t 1), none, []⟩,
   ⟨(some 5), .load false 1 (.t 4), none, []⟩,
   ⟨(some 6), .bin .mul .int (.c (.int .i64 1000000)) (.t 5), none, []⟩,
   ⟨(some 7), .fa 0 (.t 1), none, []⟩,
   ⟨(some 8), .load false 1 (.t 7), none, []⟩,
   ⟨(some 9), .bin .add .int (.t 6) (.t 8), none, []⟩,
   ⟨(some 10), .bin .sub .int (.t 9) (.c (.int .i64 1)), none, []⟩,
   ⟨(some 11), .fa 0 (.t 1), none, []⟩,
   ⟨(some 12), .load false 1 (.t 11), none, []⟩,
   ⟨(some 13), .bin .quo .int (.t 10) (.t 12), none, []⟩,
   ⟨(some 14), .build [(.int .i64 0), (.int .i64 0)] [(0, 1, (.t 13)), (1, 1, (.c (.int .i64 10000000)))], none, []⟩,
   ⟨(some 3), .alloc [(.int .i64 0), (.int .i64 0)], none, []⟩,
   ⟨none, .store 2 (.t 3) (.t 14), none, []⟩])
 (.seq (.seq (.ops [
   ⟨(some 15), .fa 1 (.t 1), none, []⟩,
   ⟨(some 16), .load false 1 (.t 15), none, []⟩,
   ⟨(some 17), .bin .lss .int (.t 16) (.c (.int .i64 255)), none, []⟩])
 (.cond (.t 17)
  (.dr [
    ⟨(some 18), .fa 1 (.t 3), none, []⟩,
    ⟨(some 19), .load false 1 (.t 18), none, [0]⟩,
    ⟨(some 20), .fa 1 (.t 1), none, []⟩,
    ⟨(some 21), .load false 1 (.t 20), none, [2]⟩,
    ⟨(some 22), .bin .add .int (.t 21) (.c (.int .i64 1)), none, [3]⟩,
    ⟨(some 23), .bin .mul .int (.c (.int .i64 1000000)) (.t 22), none, [4]⟩,
    ⟨(some 24), .bin .sub .int (.t 23) (.c (.int .i64 1)), none, [5]⟩,
    ⟨(some 25), .fa 0 (.t 1), none, []⟩,
    ⟨(some 26), .load false 1 (.t 25), none, [7]⟩,
    ⟨(some 27), .bin .quo .int (.t 24) (.t 26), none, [6, 8]⟩,
    ⟨(some 28), .mn [(.t 19), (.t 27)], none, [1, 9]⟩,
    ⟨(some 29), .fa 1 (.t 3), none, [0, 1, 2, 3, 4, 5, 6, 7, 8, 9, 10]⟩,
    ⟨none, .store 1 (.t 29) (.t 28), none, [11, 10, 0, 1, 2, 3, 4, 5, 6, 7, 8, 9, 10]⟩])
  (.skip)))
 (.seq (.ops [
   ⟨(some 30), .load true 2 (.t 3), none, []⟩,
   ⟨none, .store 2 (.t 2) (.t 30), none, []⟩])
 (.ret))))
theorem k73 : compFunc Tryz.prog 73 = some (31, c73, [.cell 2 true 2]) := by kernel_rfl
def c74 : ACode :=
 .seq (.ops [
   ⟨(some 2), .mv (.c (.int .i64 0)), none, []⟩])
 (.seq (.seq (.ops [
   ⟨(some 6), .mv (.t 0), none, []⟩,
   ⟨(some 7), .lenS (.t 6), none, []⟩,
   ⟨(some 8), .callF 60 [(.t 7), (.c (.int .i64 1)), (.c (.int .i64 24))], none, []⟩])
 (.cond (.t 8)
  (.seq (.ops [
    ⟨(some 2), .mv (.c (.int .i64 3)), none, []⟩])
  (.ret))
  (.skip)))
 (.seq (.seq (.ops [
   ⟨(some 9), .mv (.t 0), none, []⟩,
   ⟨(some 10), .lenS (.t 9), none, []⟩,
   ⟨(some 11), .mv (.c (.int .i64 0)), none, []⟩])
 (.block 0 (.loop (.seq (.ops [
    ⟨(some 12), .bin .lss .int (.t 11) (.t 10), none, []⟩])
  (.seq (.cond (.t 12)
   (.skip)
   (.exit 0))
  (.seq (.block 1 (.seq (.ops [
    ⟨(some 13), .ixS 3 (.t 9) (.t 11), none, []⟩,
    ⟨(some 14), .load true 3 (.t 13), none, []⟩,
    ⟨(some 4), .alloc [(.int .i64 0), (.int .i64 0), .nilS], none, []⟩,
    ⟨none, .store 3 (.t 4) (.t 14), none, []⟩])
  (.seq (.seq (.ops [
    ⟨(some 15), .load true 3 (.t 4), none, []⟩,
    ⟨(some 16), .callF 7 [(.t 15)], none, []⟩,
    ⟨(some 5), .mv (.t 16), none, []⟩])
  (.seq (.ops [
    ⟨(some 17), .mv (.t 5), none, []⟩,
    ⟨(some 18), .bin .neq .int (.t 17) (.c (.int .i64 0)), none, []⟩])
  (.cond (.t 18)
   (.seq (.ops [
     ⟨(some 19), .mv (.t 5), none, []⟩,
     ⟨(some 2), .mv (.t 19), none, []⟩])
   (.ret))
   (.skip))))
  (.seq (.dr [
    ⟨(some 20), .fa 0 (.t 4), none, []⟩,
    ⟨(some 21), .load false 1 (.t 20), none, [0]⟩,
    ⟨(some 22), .mv (.t 0), none, []⟩,
    ⟨(some 23), .ixS 3 (.t 22) (.c (.int .i64 0)), none, [2]⟩,
    ⟨(some 24), .fa 0 (.t 23), none, [3]⟩,
    ⟨(some 25), .load false 1 (.t 24), none, [4]⟩,
    ⟨(some 26), .bin .neq .int (.t 21) (.t 25), none, [1, 5]⟩,
    ⟨(some 27), .mv (.t 26), none, [6]⟩,
    ⟨(some 28), .fa 1 (.t 4), (some (27, false)), [7]⟩,
    ⟨(some 29), .load false 1 (.t 28), (some (27, false)), [8, 7]⟩,
    ⟨(some 30), .mv (.t 0), (some (27, false)), [7]⟩,
    ⟨(some 31), .ixS 3 (.t 30) (.c (.int .i64 0)), (some (27, false)), [10, 7]⟩,
    ⟨(some 32), .fa 1 (.t 31), (some (27, false)), [11, 7]⟩,
    ⟨(some 33), .load false 1 (.t 32), (some (27, false)), [12, 7]⟩,
    ⟨(some 34), .bin .neq .int (.t 29) (.t 33), (some (27, false)), [9, 13, 7]⟩,
    ⟨(some 35), .pick (.t 27) (.c (.bool true)) (.t 34), none, [7, 14]⟩])
  (.cond (.t 35)
   (.seq (.ops [
     ⟨(some 2), .mv (.c (.int .i64 2)), none, []⟩])
   (.ret))
   (.skip))))))
  (.ops [
    ⟨(some 36), .bin .add .int (.t 11) (.c (.int .i64 1)), none, []⟩,
    ⟨(some 11), .mv (.t 36), none, []⟩])))))))
 (.seq (.ops [
   ⟨(some 2), .mv (.c (.int .i64 0)), none, []⟩])
 (.ret))))
def m74_0 : List Nat := [12, 13, 14, 4, 15, 16, 5, 17, 18, 19, 2, 20, 21, 22, 23, 24, 25, 26, 27, 28, 29, 30, 31, 32, 33, 34, 35, 36, 11]
theorem k74 : compFunc Tryz.prog 74 = some (37, c74, [.t 2]) := by kernel_rfl
def c75 : ACode :=
 .seq (.ops [
   ⟨(some 3), .box (.t 1), none, []⟩,
   ⟨(some 4), .alloc [(.int .i64 0), (.int .i64 0)], none, []⟩])
 (.seq (.ops [
   ⟨(some 8), .mv (.t 0), none, []⟩,
   ⟨(some 9), .build [(.int .i64 0), (.int .i64 0)] [(0, 1, (.c (.int .i64 1000))), (1, 1, (.t 8))], none, []⟩,
   ⟨(some 10), .callF 73 [(.t 9)], none, []⟩,
   ⟨(some 5), .alloc [(.int .i64 0), (.int .i64 0)], none, []⟩,
   ⟨none, .store 2 (.t 5) (.t 10), none, []⟩])
 (.seq (.ops [
   ⟨(some 11), .mkF (.func 108) [] [(.t 5), (.t 3)], none, []⟩,
   ⟨(some 12), .callF 107 [(.c (.int .i64 100000)), (.t 11)], none, []⟩,
   ⟨(some 13), .bin .add .int (.t 12) (.c (.int .i64 1)), none, []⟩,
   ⟨(some 6), .mv (.t 13), none, []⟩])
 (.seq (.ops [
   ⟨(some 14), .mkF (.func 110) [] [(.t 5), (.t 3)], none, []⟩,
   ⟨(some 15), .callF 107 [(.c (.int .i64 100000)), (.t 14)], none, []⟩,
   ⟨(some 7), .mv (.t 15), none, []⟩])
 (.seq (.ops [
   ⟨(some 16), .mv (.t 6), none, []⟩,
   ⟨(some 17), .mv (.t 7), none, []⟩,
   ⟨(some 18), .build [(.int .i64 0), (.int .i64 0)] [(0, 1, (.t 16)), (1, 1, (.t 17))], none, []⟩,
   ⟨none, .store 2 (.t 4) (.t 18), none, []⟩])
 (.ret)))))
theorem k75 : compFunc Tryz.prog 75 = some (19, c75, [.cell 4 true 2]) := by kernel_rfl
def c81 : ACode :=
 .seq (.ops [
   ⟨(some 6), .mv (.c (.int .i64 0)), none, []⟩])
 (.seq (.ops [
   ⟨(some 7), .load true 3 (.t 3), none, []⟩,
   ⟨(some 8), .mv (.t 0), none, []⟩,
   ⟨(some 9), .mv (.t 1), none, []⟩,
   ⟨(some 10), .callF 65 [(.t 7), (.t 8), (.t 9)], none, []⟩,
   ⟨(some 11), .ixA 256 1 (.t 2) (.t 10), none, []⟩,
   ⟨(some 12), .load false 1 (.t 11), none, []⟩,
   ⟨(some 6), .mv (.t 12), none, []⟩])
 (.ret))
theorem k81 : compFunc Tryz.prog 81 = some (13, c81, [.t 6]) := by kernel_rfl
def c82 : ACode :=
 .seq (.ops [
   ⟨(some 7), .mv (.c (.int .i64 0)), none, []⟩])
 (.seq (.seq (.ops [
   ⟨(some 10), .mv (.t 1), none, []⟩,
   ⟨(some 11), .load false 1 (.t 2), none, []⟩,
   ⟨(some 12), .bin .sub .int (.t 10) (.t 11), none, []⟩,
   ⟨(some 13), .mx [(.c (.int .i64 0)), (.t 12)], none, []⟩,
   ⟨(some 8), .mv (.t 13), none, []⟩])
 (.block 0 (.loop (.seq (.seq (.ops [
    ⟨(some 14), .mv (.t 8), none, []⟩,
    ⟨(some 15), .fa 0 (.t 3), none, []⟩,
    ⟨(some 16), .fa 1 (.t 15), none, []⟩,
    ⟨(some 17), .load false 1 (.t 16), none, []⟩,
    ⟨(some 18), .bin .sub .int (.t 17) (.c (.int .i64 1)), none, []⟩,
    ⟨(some 19), .mv (.t 1), none, []⟩,
    ⟨(some 20), .load false 1 (.t 2), none, []⟩,
    ⟨(some 21), .bin .add .int (.t 19) (.t 20), none, []⟩,
    ⟨(some 22), .mn [(.t 18), (.t 21)], none, []⟩,
    ⟨(some 23), .bin .leq .int (.t 14) (.t 22), none, []⟩])
  (.cond (.t 23)
   (.skip)
   (.exit 0)))
  (.seq (.block 1 (.seq (.ops [
    ⟨(some 26), .mv (.t 0), none, []⟩,
    ⟨(some 27), .load false 1 (.t 2), none, []⟩,
    ⟨(some 28), .bin .sub .int (.t 26) (.t 27), none, []⟩,
    ⟨(some 29), .mx [(.c (.int .i64 0)), (.t 28)], none, []⟩,
    ⟨(some 9), .mv (.t 29), none, []⟩])
  (.block 2 (.loop (.seq (.seq (.ops [
     ⟨(some 30), .mv (.t 9), none, []⟩,
     ⟨(some 31), .fa 0 (.t 3), none, []⟩,
     ⟨(some 32), .fa 0 (.t 31), none, []⟩,
     ⟨(some 33), .load false 1 (.t 32), none, []⟩,
     ⟨(some 34), .bin .sub .int (.t 33) (.c (.int .i64 1)), none, []⟩,
     ⟨(some 35), .mv (.t 0), none, []⟩,
     ⟨(some 36), .load false 1 (.t 2), none, []⟩,
     ⟨(some 37), .bin .add .int (.t 35) (.t 36), none, []⟩,
     ⟨(some 38), .mn [(.t 34), (.t 37)], none, []⟩,
     ⟨(some 39), .bin .leq .int (.t 30) (.t 38), none, []⟩])
   (.cond (.t 39)
    (.skip)
    (.exit 2)))
   (.seq (.block 3 (.seq (.dr [
     ⟨(some 42), .load true 3 (.t 3), none, []⟩,
     ⟨(some 43), .mv (.t 9), none, []⟩,
     ⟨(some 44), .mv (.t 8), none, []⟩,
     ⟨(some 45), .callF 65 [(.t 42), (.t 43), (.t 44)], none, [0, 1, 2]⟩,
     ⟨(some 46), .load false 1 (.t 4), none, []⟩,
     ⟨(some 47), .bin .lss .int (.t 45) (.t 46), none, [3, 4]⟩])
   (.cond (.t 47)
    (.seq (.ops [
      ⟨(some 7), .mv (.c (.int .i64 255)), none, []⟩])
    (.ret))
    (.skip))))
   (.ops [
     ⟨(some 40), .mv (.t 9), none, []⟩,
     ⟨(some 41), .bin .add .int (.t 40) (.c (.int .i64 1)), none, []⟩,
     ⟨(some 9), .mv (.t 41), none, []⟩])))))))
  (.ops [
    ⟨(some 24), .mv (.t 8), none, []⟩,
    ⟨(some 25), .bin .add .int (.t 24) (.c (.int .i64 1)), none, []⟩,
    ⟨(some 8), .mv (.t 25), none, []⟩]))))))
 (.seq (.ops [
   ⟨(some 7), .mv (.c (.int .i64 0)), none, []⟩])
 (.ret)))
def m82_0 : List Nat := [14, 15, 16, 17, 18, 19, 20, 21, 22, 23, 26, 27, 28, 29, 9, 30, 31, 32, 33, 34, 35, 36, 37, 38, 39, 42, 43, 44, 45, 46, 47, 7, 40, 41, 24, 25, 8]
def m82_1 : List Nat := [30, 31, 32, 33, 34, 35, 36, 37, 38, 39, 42, 43, 44, 45, 46, 47, 7, 40, 41, 9]
theorem k82 : compFunc Tryz.prog 82 = some (48, c82, [.t 7]) := by kernel_rfl
def c83 : ACode :=
 .seq (.ops [
   ⟨(some 2), .mv (.c .nilS), none, []⟩])
 (.seq (.seq (.ops [
   ⟨(some 3), .mv (.t 0), none, []⟩,
   ⟨(some 4), .bin .eql .slice (.t 3) (.c .nilS), none, []⟩])
 (.cond (.t 4)
  (.seq (.ops [
    ⟨(some 2), .mv (.c .nilS), none, []⟩])
  (.ret))
  (.skip)))
 (.seq (.ops [
   ⟨(some 5), .buildS 1 [(.int .u8 0)] 0 [], none, []⟩,
   ⟨(some 6), .mv (.t 0), none, []⟩,
   ⟨(some 7), .app 1 1 (.t 5) (.t 6), none, []⟩,
   ⟨(some 2), .mv (.t 7), none, []⟩])
 (.ret)))
theorem k83 : compFunc Tryz.prog 83 = some (8, c83, [.t 2]) := by kernel_rfl
def c84 : ACode :=
 .seq (.seq (.ops [
   ⟨(some 10), .load true 3 (.t 2), none, []⟩,
   ⟨(some 11), .mv (.t 0), none, []⟩,
   ⟨(some 12), .mv (.t 1), none, []⟩,
   ⟨(some 13), .callF 64 [(.t 10), (.t 11), (.t 12)], none, []⟩,
   ⟨(some 14), .un .not (.t 13), none, []⟩,
   ⟨(some 15), .mv (.t 14), none, []⟩,
   ⟨(some 16), .load true 3 (.t 2), (some (15, false)), []⟩,
   ⟨(some 17), .mv (.t 0), (some (15, false)), []⟩,
   ⟨(some 18), .mv (.t 1), (some (15, false)), []⟩,
   ⟨(some 19), .callF 65 [(.t 16), (.t 17), (.t 18)], (some (15, false)), []⟩,
   ⟨(some 20), .bin .eql .int (.t 19) (.c (.int .i64 0)), (some (15, false)), []⟩,
   ⟨(some 21), .pick (.t 15) (.c (.bool true)) (.t 20), none, []⟩])
 (.cond (.t 21)
  (.ret)
  (.skip)))
 (.seq (.ops [
   ⟨(some 22), .fa 0 (.t 2), none, []⟩,
   ⟨(some 23), .fa 2 (.t 22), none, []⟩,
   ⟨(some 24), .load false 1 (.t 23), none, []⟩,
   ⟨(some 25), .mv (.t 1), none, []⟩,
   ⟨(some 26), .fa 0 (.t 2), none, []⟩,
   ⟨(some 27), .fa 0 (.t 26), none, []⟩,
   ⟨(some 28), .load false 1 (.t 27), none, []⟩,
   ⟨(some 29), .bin .mul .int (.t 25) (.t 28), none, []⟩,
   ⟨(some 30), .mv (.t 0), none, []⟩,
   ⟨(some 31), .bin .add .int (.t 29) (.t 30), none, []⟩,
   ⟨(some 32), .ixS 1 (.t 24) (.t 31), none, []⟩,
   ⟨none, .store 1 (.t 32) (.c (.int .u8 0)), none, []⟩])
 (.seq (.ops [
   ⟨(some 33), .load false 1 (.t 3), none, []⟩,
   ⟨(some 34), .load false 1 (.t 3), none, []⟩,
   ⟨(some 35), .lenS (.t 34), none, []⟩,
   ⟨(some 36), .bin .sub .int (.t 35) (.c (.int .i64 1)), none, []⟩,
   ⟨(some 37), .ixS 5 (.t 33) (.t 36), none, []⟩,
   ⟨(some 7), .mv (.t 37), none, []⟩])
 (.seq (.dr [
   ⟨(some 38), .mv (.t 7), none, []⟩,
   ⟨(some 39), .mv (.t 7), none, []⟩,
   ⟨(some 40), .nilck (.t 39), none, [1]⟩,
   ⟨(some 41), .fa 0 (.t 40), none, [2]⟩,
   ⟨(some 42), .fa 0 (.t 41), none, [3]⟩,
   ⟨(some 43), .load true 2 (.t 42), none, [4]⟩,
   ⟨(some 44), .mv (.t 0), none, []⟩,
   ⟨(some 45), .callF 85 [(.t 43), (.t 44)], none, [5, 6]⟩,
   ⟨(some 46), .mv (.t 7), none, []⟩,
   ⟨(some 47), .nilck (.t 46), none, [8]⟩,
   ⟨(some 48), .fa 0 (.t 47), none, [9]⟩,
   ⟨(some 49), .fa 2 (.t 48), none, [10]⟩,
   ⟨(some 50), .load true 2 (.t 49), none, [11]⟩,
   ⟨(some 51), .mv (.t 1), none, []⟩,
   ⟨(some 52), .callF 85 [(.t 50), (.t 51)], none, [12, 13, 7]⟩,
   ⟨(some 53), .build [(.int .i64 0), (.int .i64 0), (.int .i64 0), (.int .i64 0)] [(0, 2, (.t 45)), (2, 2, (.t 52))], none, [7, 14]⟩,
   ⟨(some 54), .nilck (.t 38), none, [0, 0, 1, 2, 3, 4, 5, 6, 7, 8, 9, 10, 11, 12, 13, 14, 15]⟩,
   ⟨(some 55), .fa 0 (.t 54), none, [16, 0, 1, 2, 3, 4, 5, 6, 7, 8, 9, 10, 11, 12, 13, 14, 15]⟩,
   ⟨none, .store 4 (.t 55) (.t 53), none, [17, 15, 14, 0, 1, 2, 3, 4, 5, 6, 7, 8, 9, 10, 11, 12, 13, 14, 15]⟩])
 (.seq (.ops [
   ⟨(some 56), .mv (.t 7), none, []⟩,
   ⟨(some 57), .nilck (.t 56), none, []⟩,
   ⟨(some 58), .fa 4 (.t 57), none, []⟩,
   ⟨(some 59), .load false 1 (.t 58), none, []⟩,
   ⟨(some 60), .bin .add .int (.t 59) (.c (.int .i64 1)), none, []⟩,
   ⟨(some 61), .nilck (.t 56), none, []⟩,
   ⟨(some 62), .fa 4 (.t 61), none, []⟩,
   ⟨none, .store 1 (.t 62) (.t 60), none, []⟩])
 (.seq (.ops [
   ⟨(some 63), .mv (.t 1), none, []⟩,
   ⟨(some 64), .bin .sub .int (.t 63) (.c (.int .i64 1)), none, []⟩,
   ⟨(some 8), .mv (.t 64), none, []⟩])
 (.block 0 (.loop (.seq (.seq (.ops [
    ⟨(some 65), .mv (.t 8), none, []⟩,
    ⟨(some 66), .mv (.t 1), none, []⟩,
    ⟨(some 67), .bin .add .int (.t 66) (.c (.int .i64 1)), none, []⟩,
    ⟨(some 68), .bin .leq .int (.t 65) (.t 67), none, []⟩])
  (.cond (.t 68)
   (.skip)
   (.exit 0)))
  (.seq (.block 1 (.seq (.ops [
    ⟨(some 71), .mv (.t 0), none, []⟩,
    ⟨(some 72), .bin .sub .int (.t 71) (.c (.int .i64 1)), none, []⟩,
    ⟨(some 9), .mv (.t 72), none, []⟩])
  (.block 2 (.loop (.seq (.seq (.ops [
     ⟨(some 73), .mv (.t 9), none, []⟩,
     ⟨(some 74), .mv (.t 0), none, []⟩,
     ⟨(some 75), .bin .add .int (.t 74) (.c (.int .i64 1)), none, []⟩,
     ⟨(some 76), .bin .leq .int (.t 73) (.t 75), none, []⟩])
   (.cond (.t 76)
    (.skip)
    (.exit 2)))
   (.seq (.block 3 (.ops [
     ⟨(some 79), .load false 1 (.t 4), none, []⟩,
     ⟨(some 80), .mv (.t 9), none, []⟩,
     ⟨(some 81), .mv (.t 8), none, []⟩,
     ⟨(some 82), .callV (.t 79) [(.t 80), (.t 81)], none, []⟩]))
   (.ops [
     ⟨(some 77), .mv (.t 9), none, []⟩,
     ⟨(some 78), .bin .add .int (.t 77) (.c (.int .i64 1)), none, []⟩,
     ⟨(some 9), .mv (.t 78), none, []⟩])))))))
  (.ops [
    ⟨(some 69), .mv (.t 8), none, []⟩,
    ⟨(some 70), .bin .add .int (.t 69) (.c (.int .i64 1)), none, []⟩,
    ⟨(some 8), .mv (.t 70), none, []⟩]))))))))))
def m84_0 : List Nat := [65, 66, 67, 68, 71, 72, 9, 73, 74, 75, 76, 79, 80, 81, 82, 77, 78, 69, 70, 8]
def m84_1 : List Nat := [73, 74, 75, 76, 79, 80, 81, 82, 77, 78, 9]
theorem k84 : compFunc Tryz.prog 84 = some (83, c84, []) := by kernel_rfl
def c85 : ACode :=
 .seq (.ops [
   ⟨(some 2), .box (.t 0), none, []⟩,
   ⟨(some 4), .alloc [(.int .i64 0), (.int .i64 0)], none, []⟩])
 (.seq (.ops [
   ⟨(some 5), .fa 0 (.t 2), none, []⟩,
   ⟨(some 6), .load false 1 (.t 5), none, []⟩,
   ⟨(some 7), .mv (.t 1), none, []⟩,
   ⟨(some 8), .mn [(.t 6), (.t 7)], none, []⟩,
   ⟨(some 9), .fa 1 (.t 2), none, []⟩,
   ⟨(some 10), .load false 1 (.t 9), none, []⟩,
   ⟨(some 11), .mv (.t 1), none, []⟩,
   ⟨(some 12), .mx [(.t 10), (.t 11)], none, []⟩,
   ⟨(some 13), .build [(.int .i64 0), (.int .i64 0)] [(0, 1, (.t 8)), (1, 1, (.t 12))], none, []⟩,
   ⟨none, .store 2 (.t 4) (.t 13), none, []⟩])
 (.ret))
theorem k85 : compFunc Tryz.prog 85 = some (14, c85, [.cell 4 true 2]) := by kernel_rfl
def c90 : ACode :=
 .seq (.ops [
   ⟨(some 2), .box (.t 0), none, []⟩,
   ⟨(some 3), .box (.t 1), none, []⟩,
   ⟨(some 4), .mv (.c .nilF), none, []⟩])
 (.seq (.seq (.ops [
   ⟨(some 5), .load false 1 (.t 3), none, []⟩,
   ⟨(some 6), .bin .lss .int (.t 5) (.c (.int .i64 1)), none, []⟩])
 (.cond (.t 6)
  (.ops [
    ⟨(some 7), .mkI 9 (.c (.str ⟨#[99, 97, 110, 110, 111, 116, 32, 98, 101, 32, 108, 101, 115, 115, 32, 116, 104, 97, 110, 32, 49]⟩)), none, []⟩,
    ⟨none, .panic (.t 7), none, []⟩])
  (.skip)))
 (.seq (.ops [
   ⟨(some 8), .mkF (.func 112) [] [(.t 2), (.t 3)], none, []⟩,
   ⟨(some 4), .mv (.t 8), none, []⟩])
 (.ret)))
theorem k90 : compFunc Tryz.prog 90 = some (9, c90, [.t 4]) := by kernel_rfl
def c91 : ACode :=
 .seq (.ops [
   ⟨(some 1), .box (.t 0), none, []⟩,
   ⟨(some 2), .mv (.c .nilF), none, []⟩])
 (.seq (.ops [
   ⟨(some 3), .mkF (.func 113) [] [(.t 1)], none, []⟩,
   ⟨(some 2), .mv (.t 3), none, []⟩])
 (.ret))
theorem k91 : compFunc Tryz.prog 91 = some (4, c91, [.t 2]) := by kernel_rfl
def c95 : ACode :=
 .seq (.ops [
   ⟨(some 4), .mv (.t 2), none, []⟩,
   ⟨(some 5), .bin .neq .ifn (.t 4) (.c .nilI), none, []⟩])
 (.cond (.t 5)
  (.dr [
    ⟨(some 6), .mv (.t 2), none, []⟩,
    ⟨(some 7), .tas 40 (.int .i64 0) (.t 6) false, none, [0]⟩,
    ⟨none, .store 1 (.t 0) (.c .nilS), none, []⟩,
    ⟨none, .store 1 (.t 1) (.t 7), none, [1, 2, 0, 1, 2]⟩])
  (.skip))
theorem k95 : compD Tryz.prog 95 = some (8, 3, 2, c95, []) := by kernel_rfl
def c96 : ACode :=
 .seq (.ops [
   ⟨(some 2), .mv (.t 0), none, []⟩,
   ⟨(some 3), .un .not (.t 2), none, []⟩])
 (.cond (.t 3)
  (.ops [
    ⟨(some 4), .mkI 40 (.c (.int .i64 6)), none, []⟩,
    ⟨none, .panic (.t 4), none, []⟩])
  (.skip))
theorem k96 : compFunc Tryz.prog 96 = some (5, c96, []) := by kernel_rfl
def c97 : ACode :=
 .seq (.ops [
   ⟨(some 4), .mv (.c .nilS), none, []⟩])
 (.seq (.block 0 (.loop (.seq (.seq (.ops [
    ⟨(some 6), .mv (.t 4), none, []⟩,
    ⟨(some 7), .lenS (.t 6), none, []⟩,
    ⟨(some 8), .mv (.t 1), none, []⟩,
    ⟨(some 9), .bin .lss .int (.t 7) (.t 8), none, []⟩])
  (.cond (.t 9)
   (.skip)
   (.exit 0)))
  (.block 1 (.seq (.ops [
    ⟨(some 10), .mv (.t 0), none, []⟩,
    ⟨(some 11), .callF 115 [(.t 10), (.c (.int .i64 1))], none, []⟩,
    ⟨(some 12), .ixS 1 (.t 11) (.c (.int .i64 0)), none, []⟩,
    ⟨(some 13), .load false 1 (.t 12), none, []⟩,
    ⟨(some 14), .conv (.int .i64) (.t 13), none, []⟩,
    ⟨(some 5), .mv (.t 14), none, []⟩])
  (.seq (.ops [
    ⟨(some 15), .mv (.t 5), none, []⟩,
    ⟨(some 16), .bin .gtr .int (.t 15) (.c (.int .i64 128)), none, []⟩])
  (.cond (.t 16)
   (.ops [
     ⟨(some 17), .mv (.t 4), none, []⟩,
     ⟨(some 18), .mv (.t 0), none, []⟩,
     ⟨(some 19), .callF 115 [(.t 18), (.c (.int .i64 1))], none, []⟩,
     ⟨(some 20), .mv (.t 5), none, []⟩,
     ⟨(some 21), .bin .sub .int (.t 20) (.c (.int .i64 128)), none, []⟩,
     ⟨(some 22), .callF 116 [(.t 19), (.t 21)], none, []⟩,
     ⟨(some 23), .app 1 1 (.t 17) (.t 22), none, []⟩,
     ⟨(some 4), .mv (.t 23), none, []⟩])
   (.seq (.ops [
     ⟨(some 24), .mv (.t 5), none, []⟩,
     ⟨(some 25), .bin .gtr .int (.t 24) (.c (.int .i64 0)), none, []⟩,
     ⟨(some 26), .callF 96 [(.t 25)], none, []⟩])
   (.ops [
     ⟨(some 27), .mv (.t 4), none, []⟩,
     ⟨(some 28), .mv (.t 0), none, []⟩,
     ⟨(some 29), .mv (.t 5), none, []⟩,
     ⟨(some 30), .callF 115 [(.t 28), (.t 29)], none, []⟩,
     ⟨(some 31), .app 1 1 (.t 27) (.t 30), none, []⟩,
     ⟨(some 4), .mv (.t 31), none, []⟩])))))))))
 (.seq (.ops [
   ⟨(some 32), .mv (.t 4), none, []⟩,
   ⟨(some 33), .lenS (.t 32), none, []⟩,
   ⟨(some 34), .mv (.t 1), none, []⟩,
   ⟨(some 35), .bin .eql .int (.t 33) (.t 34), none, []⟩,
   ⟨(some 36), .callF 96 [(.t 35)], none, []⟩])
 (.seq (.ops [
   ⟨(some 37), .mv (.t 4), none, []⟩,
   ⟨(some 4), .mv (.t 37), none, []⟩])
 (.ret))))
def m97_0 : List Nat := [6, 7, 8, 9, 10, 11, 12, 13, 14, 5, 15, 16, 17, 18, 19, 20, 21, 22, 23, 4, 24, 25, 26, 27, 28, 29, 30, 31]
theorem k97 : compFunc Tryz.prog 97 = some (38, c97, [.t 4]) := by kernel_rfl
def c106 : ACode :=
 .seq (.ops [
   ⟨(some 2), .mv (.c (.int .i64 0)), none, []⟩])
 (.seq (.ops [
   ⟨(some 3), .mv (.t 0), none, []⟩,
   ⟨(some 4), .callF 117 [(.t 3)], none, []⟩,
   ⟨(some 2), .mv (.t 4), none, []⟩])
 (.ret))
theorem k106 : compFunc Tryz.prog 106 = some (5, c106, [.t 2]) := by kernel_rfl
def c107 : ACode :=
 .seq (.ops [
   ⟨(some 4), .mv (.c (.int .i64 0)), none, []⟩])
 (.seq (.ops [
   ⟨(some 8), .mv (.t 0), none, []⟩,
   ⟨(some 5), .mv (.c (.int .i64 0)), none, []⟩,
   ⟨(some 6), .mv (.t 8), none, []⟩])
 (.seq (.block 0 (.loop (.seq (.seq (.ops [
    ⟨(some 9), .mv (.t 5), none, []⟩,
    ⟨(some 10), .mv (.t 6), none, []⟩,
    ⟨(some 11), .bin .lss .int (.t 9) (.t 10), none, []⟩])
  (.cond (.t 11)
   (.skip)
   (.exit 0)))
  (.block 1 (.seq (.ops [
    ⟨(some 12), .mv (.t 5), none, []⟩,
    ⟨(some 13), .mv (.t 6), none, []⟩,
    ⟨(some 14), .bin .add .int (.t 12) (.t 13), none, []⟩,
    ⟨(some 15), .conv (.int .u64) (.t 14), none, []⟩,
    ⟨(some 16), .bin .shr .int (.t 15) (.c (.int .u64 1)), none, []⟩,
    ⟨(some 17), .conv (.int .i64) (.t 16), none, []⟩,
    ⟨(some 7), .mv (.t 17), none, []⟩])
  (.seq (.ops [
    ⟨(some 18), .mv (.t 1), none, []⟩,
    ⟨(some 19), .mv (.t 7), none, []⟩,
    ⟨(some 20), .callV (.t 18) [(.t 19)], none, []⟩,
    ⟨(some 21), .un .not (.t 20), none, []⟩])
  (.cond (.t 21)
   (.ops [
     ⟨(some 22), .mv (.t 7), none, []⟩,
     ⟨(some 23), .bin .add .int (.t 22) (.c (.int .i64 1)), none, []⟩,
     ⟨(some 5), .mv (.t 23), none, []⟩])
   (.ops [
     ⟨(some 24), .mv (.t 7), none, []⟩,
     ⟨(some 6), .mv (.t 24), none, []⟩]))))))))
 (.seq (.ops [
   ⟨(some 25), .mv (.t 5), none, []⟩,
   ⟨(some 4), .mv (.t 25), none, []⟩])
 (.ret))))
def m107_0 : List Nat := [9, 10, 11, 12, 13, 14, 15, 16, 17, 7, 18, 19, 20, 21, 22, 23, 5, 24, 6]
theorem k107 : compFunc Tryz.prog 107 = some (26, c107, [.t 4]) := by kernel_rfl
def c108 : ACode :=
 .seq (.ops [
   ⟨(some 4), .mv (.c (.bool false)), none, []⟩])
 (.seq (.dr [
   ⟨(some 5), .fa 1 (.t 1), none, []⟩,
   ⟨(some 6), .load false 1 (.t 5), none, [0]⟩,
   ⟨(some 7), .mv (.t 0), none, []⟩,
   ⟨(some 8), .bin .add .int (.t 7) (.c (.int .i64 1)), none, [2]⟩,
   ⟨(some 9), .callF 109 [(.t 6), (.t 8)], none, [1, 3]⟩,
   ⟨(some 10), .load false 1 (.t 2), none, []⟩,
   ⟨(some 11), .bin .geq .int (.t 9) (.t 10), none, [4, 5]⟩,
   ⟨(some 4), .mv (.t 11), none, [6, 4, 0, 1, 2, 3, 4, 5, 6]⟩])
 (.ret))
theorem k108 : compFunc Tryz.prog 108 = some (12, c108, [.t 4]) := by kernel_rfl
def c109 : ACode :=
 .seq (.ops [
   ⟨(some 4), .mv (.c (.int .i64 0)), none, []⟩])
 (.seq (.ops [
   ⟨(some 5), .mv (.t 0), none, []⟩,
   ⟨(some 6), .mv (.t 1), none, []⟩,
   ⟨(some 7), .bin .mul .int (.t 5) (.t 6), none, []⟩,
   ⟨(some 8), .bin .quo .int (.t 7) (.c (.int .i64 1000000)), none, []⟩,
   ⟨(some 9), .mn [(.c (.int .i64 255)), (.t 8)], none, []⟩,
   ⟨(some 4), .mv (.t 9), none, []⟩])
 (.ret))
theorem k109 : compFunc Tryz.prog 109 = some (10, c109, [.t 4]) := by kernel_rfl
def c110 : ACode :=
 .seq (.ops [
   ⟨(some 4), .mv (.c (.bool false)), none, []⟩])
 (.seq (.dr [
   ⟨(some 5), .fa 0 (.t 1), none, []⟩,
   ⟨(some 6), .load false 1 (.t 5), none, [0]⟩,
   ⟨(some 7), .mv (.t 0), none, []⟩,
   ⟨(some 8), .bin .add .int (.t 7) (.c (.int .i64 1)), none, [2]⟩,
   ⟨(some 9), .callF 109 [(.t 6), (.t 8)], none, [1, 3]⟩,
   ⟨(some 10), .load false 1 (.t 2), none, []⟩,
   ⟨(some 11), .bin .gtr .int (.t 9) (.t 10), none, [4, 5]⟩,
   ⟨(some 4), .mv (.t 11), none, [6, 4, 0, 1, 2, 3, 4, 5, 6]⟩])
 (.ret))
theorem k110 : compFunc Tryz.prog 110 = some (12, c110, [.t 4]) := by kernel_rfl
def c112 : ACode :=
 .seq (.ops [
   ⟨(some 4), .mv (.c (.int .i64 0)), none, []⟩])
 (.block 0 (.loop (.seq (.seq (.ops [
    ⟨(some 6), .mv (.t 4), none, []⟩,
    ⟨(some 7), .load false 1 (.t 1), none, []⟩,
    ⟨(some 8), .lenS (.t 7), none, []⟩,
    ⟨(some 9), .bin .lss .int (.t 6) (.t 8), none, []⟩])
  (.cond (.t 9)
   (.skip)
   (.exit 0)))
  (.seq (.block 1 (.seq (.dr [
    ⟨(some 13), .load false 1 (.t 2), none, []⟩,
    ⟨(some 14), .load false 1 (.t 1), none, []⟩,
    ⟨(some 15), .mv (.t 4), none, []⟩,
    ⟨(some 16), .slS 1 (.t 14) (some (.t 15)) none none, none, [1, 2]⟩,
    ⟨(some 17), .lenS (.t 16), none, [3]⟩,
    ⟨(some 18), .mn [(.t 13), (.t 17)], none, [0, 4]⟩,
    ⟨(some 5), .mv (.t 18), none, [5, 0, 1, 2, 3, 4, 5]⟩])
  (.seq (.ops [
    ⟨(some 19), .mv (.t 0), none, []⟩,
    ⟨(some 20), .load false 1 (.t 1), none, []⟩,
    ⟨(some 21), .mv (.t 4), none, []⟩,
    ⟨(some 22), .mv (.t 4), none, []⟩,
    ⟨(some 23), .mv (.t 5), none, []⟩,
    ⟨(some 24), .bin .add .int (.t 22) (.t 23), none, []⟩,
    ⟨(some 25), .mv (.t 4), none, []⟩,
    ⟨(some 26), .mv (.t 5), none, []⟩,
    ⟨(some 27), .bin .add .int (.t 25) (.t 26), none, []⟩,
    ⟨(some 28), .slS 1 (.t 20) (some (.t 21)) (some (.t 24)) (some (.t 27)), none, []⟩,
    ⟨(some 29), .callV (.t 19) [(.t 28)], none, []⟩,
    ⟨(some 30), .un .not (.t 29), none, []⟩])
  (.cond (.t 30)
   (.ret)
   (.skip)))))
  (.ops [
    ⟨(some 10), .mv (.t 4), none, []⟩,
    ⟨(some 11), .load false 1 (.t 2), none, []⟩,
    ⟨(some 12), .bin .add .int (.t 10) (.t 11), none, []⟩,
    ⟨(some 4), .mv (.t 12), none, []⟩])))))
def m112_0 : List Nat := [6, 7, 8, 9, 13, 14, 15, 16, 17, 18, 5, 19, 20, 21, 22, 23, 24, 25, 26, 27, 28, 29, 30, 10, 11, 12, 4]
theorem k112 : compFunc Tryz.prog 112 = some (31, c112, []) := by kernel_rfl
def c113 : ACode :=
 .block 0 (.loop (.seq (.seq (.ops [
    ⟨(some 5), .load false 1 (.t 1), none, []⟩,
    ⟨(some 6), .lenS (.t 5), none, []⟩,
    ⟨(some 7), .bin .gtr .int (.t 6) (.c (.int .i64 0)), none, []⟩])
  (.cond (.t 7)
   (.skip)
   (.exit 0)))
  (.block 1 (.seq (.ops [
    ⟨(some 8), .load false 1 (.t 1), none, []⟩,
    ⟨(some 9), .callF 114 [(.t 8)], none, []⟩,
    ⟨(some 3), .mv (.t 9), none, []⟩])
  (.seq (.ops [
    ⟨(some 10), .mv (.t 3), none, []⟩,
    ⟨(some 11), .bin .add .int (.c (.int .i64 128)) (.t 10), none, []⟩,
    ⟨(some 12), .conv (.int .u8) (.t 11), none, []⟩,
    ⟨(some 13), .load false 1 (.t 1), none, []⟩,
    ⟨(some 14), .ixS 1 (.t 13) (.c (.int .i64 0)), none, []⟩,
    ⟨(some 15), .load false 1 (.t 14), none, []⟩,
    ⟨(some 16), .buildS 1 [(.int .u8 0)] 2 [(0, (.t 12)), (1, (.t 15))], none, []⟩,
    ⟨(some 4), .mv (.t 16), none, []⟩])
  (.seq (.seq (.ops [
    ⟨(some 17), .mv (.t 3), none, []⟩,
    ⟨(some 18), .bin .lss .int (.t 17) (.c (.int .i64 3)), none, []⟩])
  (.cond (.t 18)
   (.seq (.seq (.ops [
     ⟨(some 3), .mv (.c (.int .i64 0)), none, []⟩])
   (.block 2 (.loop (.seq (.seq (.ops [
      ⟨(some 19), .mv (.t 3), none, []⟩,
      ⟨(some 20), .load false 1 (.t 1), none, []⟩,
      ⟨(some 21), .lenS (.t 20), none, []⟩,
      ⟨(some 22), .bin .lss .int (.t 19) (.t 21), none, []⟩,
      ⟨(some 23), .mv (.t 22), none, []⟩,
      ⟨(some 24), .load false 1 (.t 1), (some (23, true)), []⟩,
      ⟨(some 25), .mv (.t 3), (some (23, true)), []⟩,
      ⟨(some 26), .slS 1 (.t 24) (some (.t 25)) none none, (some (23, true)), []⟩,
      ⟨(some 27), .callF 114 [(.t 26)], (some (23, true)), []⟩,
      ⟨(some 28), .bin .lss .int (.t 27) (.c (.int .i64 3)), (some (23, true)), []⟩,
      ⟨(some 29), .pick (.t 23) (.t 28) (.c (.bool false)), none, []⟩])
    (.cond (.t 29)
     (.skip)
     (.exit 2)))
    (.block 3 (.ops [
      ⟨(some 30), .mv (.t 3), none, []⟩,
      ⟨(some 31), .bin .add .int (.t 30) (.c (.int .i64 1)), none, []⟩,
      ⟨(some 3), .mv (.t 31), none, []⟩]))))))
   (.ops [
     ⟨(some 32), .mv (.t 3), none, []⟩,
     ⟨(some 33), .conv (.int .u8) (.t 32), none, []⟩,
     ⟨(some 34), .buildS 1 [(.int .u8 0)] 1 [(0, (.t 33))], none, []⟩,
     ⟨(some 35), .load false 1 (.t 1), none, []⟩,
     ⟨(some 36), .mv (.t 3), none, []⟩,
     ⟨(some 37), .slS 1 (.t 35) none (some (.t 36)) none, none, []⟩,
     ⟨(some 38), .app 1 1 (.t 34) (.t 37), none, []⟩,
     ⟨(some 4), .mv (.t 38), none, []⟩]))
   (.skip)))
  (.seq (.seq (.ops [
    ⟨(some 39), .mv (.t 0), none, []⟩,
    ⟨(some 40), .mv (.t 4), none, []⟩,
    ⟨(some 41), .callV (.t 39) [(.t 40)], none, []⟩,
    ⟨(some 42), .un .not (.t 41), none, []⟩])
  (.cond (.t 42)
   (.ret)
   (.skip)))
  (.ops [
    ⟨(some 43), .load false 1 (.t 1), none, []⟩,
    ⟨(some 44), .mv (.t 3), none, []⟩,
    ⟨(some 45), .slS 1 (.t 43) (some (.t 44)) none none, none, []⟩,
    ⟨none, .store 1 (.t 1) (.t 45), none, []⟩]))))))))
def m113_0 : List Nat := [5, 6, 7, 8, 9, 3, 10, 11, 12, 13, 14, 15, 16, 4, 17, 18, 19, 20, 21, 22, 23, 24, 25, 26, 27, 28, 29, 30, 31, 32, 33, 34, 35, 36, 37, 38, 39, 40, 41, 42, 43, 44, 45]
def m113_1 : List Nat := [19, 20, 21, 22, 23, 24, 25, 26, 27, 28, 29, 30, 31, 3]
theorem k113 : compFunc Tryz.prog 113 = some (46, c113, []) := by kernel_rfl
def c114 : ACode :=
 .seq (.ops [
   ⟨(some 1), .box (.t 0), none, []⟩,
   ⟨(some 2), .mv (.c (.int .i64 0)), none, []⟩])
 (.seq (.ops [
   ⟨(some 4), .load false 1 (.t 1), none, []⟩,
   ⟨(some 5), .mkF (.func 119) [] [(.t 1)], none, []⟩,
   ⟨(some 6), .callF 118 [(.t 4), (.t 5)], none, []⟩,
   ⟨(some 3), .mv (.t 6), none, []⟩])
 (.seq (.seq (.ops [
   ⟨(some 7), .mv (.t 3), none, []⟩,
   ⟨(some 8), .bin .lss .int (.t 7) (.c (.int .i64 0)), none, []⟩])
 (.cond (.t 8)
  (.seq (.ops [
    ⟨(some 9), .load false 1 (.t 1), none, []⟩,
    ⟨(some 10), .lenS (.t 9), none, []⟩,
    ⟨(some 2), .mv (.t 10), none, []⟩])
  (.ret))
  (.skip)))
 (.seq (.ops [
   ⟨(some 11), .mv (.t 3), none, []⟩,
   ⟨(some 2), .mv (.t 11), none, []⟩])
 (.ret))))
theorem k114 : compFunc Tryz.prog 114 = some (12, c114, [.t 2]) := by kernel_rfl
def c115 : ACode :=
 .seq (.ops [
   ⟨(some 4), .mv (.c .nilS), none, []⟩])
 (.seq (.ops [
   ⟨(some 6), .mv (.t 0), none, []⟩,
   ⟨(some 7), .nilck (.t 6), none, []⟩,
   ⟨(some 8), .fa 0 (.t 7), none, []⟩,
   ⟨(some 9), .load false 1 (.t 8), none, []⟩,
   ⟨(some 10), .lenS (.t 9), none, []⟩,
   ⟨(some 11), .mv (.t 1), none, []⟩,
   ⟨(some 12), .bin .geq .int (.t 10) (.t 11), none, []⟩,
   ⟨(some 13), .callF 96 [(.t 12)], none, []⟩])
 (.seq (.ops [
   ⟨(some 14), .mv (.t 0), none, []⟩,
   ⟨(some 15), .nilck (.t 14), none, []⟩,
   ⟨(some 16), .fa 0 (.t 15), none, []⟩,
   ⟨(some 17), .load false 1 (.t 16), none, []⟩,
   ⟨(some 18), .mv (.t 1), none, []⟩,
   ⟨(some 19), .slS 1 (.t 17) none (some (.t 18)) none, none, []⟩,
   ⟨(some 5), .mv (.t 19), none, []⟩])
 (.seq (.ops [
   ⟨(some 20), .mv (.t 0), none, []⟩,
   ⟨(some 21), .mv (.t 0), none, []⟩,
   ⟨(some 22), .nilck (.t 21), none, []⟩,
   ⟨(some 23), .fa 0 (.t 22), none, []⟩,
   ⟨(some 24), .load false 1 (.t 23), none, []⟩,
   ⟨(some 25), .mv (.t 1), none, []⟩,
   ⟨(some 26), .slS 1 (.t 24) (some (.t 25)) none none, none, []⟩,
   ⟨(some 27), .nilck (.t 20), none, []⟩,
   ⟨(some 28), .fa 0 (.t 27), none, []⟩,
   ⟨none, .store 1 (.t 28) (.t 26), none, []⟩])
 (.seq (.ops [
   ⟨(some 29), .mv (.t 5), none, []⟩,
   ⟨(some 4), .mv (.t 29), none, []⟩])
 (.ret)))))
theorem k115 : compFunc Tryz.prog 115 = some (30, c115, [.t 4]) := by kernel_rfl
def c116 : ACode :=
 .seq (.ops [
   ⟨(some 4), .mv (.c .nilS), none, []⟩])
 (.seq (.seq (.ops [
   ⟨(some 12), .mv (.t 1), none, []⟩,
   ⟨(some 13), .bin .eql .int (.t 12) (.c (.int .i64 0)), none, []⟩])
 (.cond (.t 13)
  (.seq (.ops [
    ⟨(some 14), .buildS 1 [(.int .u8 0)] 0 [], none, []⟩,
    ⟨(some 4), .mv (.t 14), none, []⟩])
  (.ret))
  (.skip)))
 (.seq (.seq (.ops [
   ⟨(some 15), .mv (.t 1), none, []⟩,
   ⟨(some 16), .bin .lss .int (.t 15) (.c (.int .i64 0)), none, []⟩])
 (.cond (.t 16)
  (.ops [
    ⟨(some 17), .mkI 9 (.c (.str ⟨#[98, 121, 116, 101, 115, 58, 32, 110, 101, 103, 97, 116, 105, 118, 101, 32, 82, 101, 112, 101, 97, 116, 32, 99, 111, 117, 110, 116]⟩)), none, []⟩,
    ⟨none, .panic (.t 17), none, []⟩])
  (.skip)))
 (.seq (.ops [
   ⟨(some 19), .mv (.t 0), none, []⟩,
   ⟨(some 20), .lenS (.t 19), none, []⟩,
   ⟨(some 21), .conv (.int .u64) (.t 20), none, []⟩,
   ⟨(some 22), .mv (.t 1), none, []⟩,
   ⟨(some 23), .conv (.int .u64) (.t 22), none, []⟩,
   ⟨(some 24), .callF 120 [(.t 21), (.t 23)], none, []⟩,
   ⟨(some 18), .mv (.t 24), none, []⟩,
   ⟨(some 25), .ext (.t 18) 0, none, []⟩,
   ⟨(some 26), .ext (.t 18) 1, none, []⟩,
   ⟨(some 5), .mv (.t 25), none, []⟩,
   ⟨(some 6), .mv (.t 26), none, []⟩])
 (.seq (.seq (.ops [
   ⟨(some 27), .mv (.t 5), none, []⟩,
   ⟨(some 28), .bin .gtr .int (.t 27) (.c (.int .u64 0)), none, []⟩,
   ⟨(some 29), .mv (.t 28), none, []⟩,
   ⟨(some 30), .mv (.t 6), (some (29, false)), []⟩,
   ⟨(some 31), .bin .gtr .int (.t 30) (.c (.int .u64 9223372036854775807)), (some (29, false)), []⟩,
   ⟨(some 32), .pick (.t 29) (.c (.bool true)) (.t 31), none, []⟩])
 (.cond (.t 32)
  (.ops [
    ⟨(some 33), .mkI 9 (.c (.str ⟨#[98, 121, 116, 101, 115, 58, 32, 82, 101, 112, 101, 97, 116, 32, 111, 117, 116, 112, 117, 116, 32, 108, 101, 110, 103, 116, 104, 32, 111, 118, 101, 114, 102, 108, 111, 119]⟩)), none, []⟩,
    ⟨none, .panic (.t 33), none, []⟩])
  (.skip)))
 (.seq (.ops [
   ⟨(some 34), .mv (.t 6), none, []⟩,
   ⟨(some 35), .conv (.int .i64) (.t 34), none, []⟩,
   ⟨(some 7), .mv (.t 35), none, []⟩])
 (.seq (.seq (.ops [
   ⟨(some 36), .mv (.t 0), none, []⟩,
   ⟨(some 37), .lenS (.t 36), none, []⟩,
   ⟨(some 38), .bin .eql .int (.t 37) (.c (.int .i64 0)), none, []⟩])
 (.cond (.t 38)
  (.seq (.ops [
    ⟨(some 39), .buildS 1 [(.int .u8 0)] 0 [], none, []⟩,
    ⟨(some 4), .mv (.t 39), none, []⟩])
  (.ret))
  (.skip)))
 (.seq (.ops [
   ⟨(some 40), .mv (.t 7), none, []⟩,
   ⟨(some 8), .mv (.t 40), none, []⟩])
 (.seq (.seq (.ops [
   ⟨(some 41), .mv (.t 8), none, []⟩,
   ⟨(some 42), .bin .gtr .int (.t 41) (.c (.int .i64 8192)), none, []⟩])
 (.cond (.t 42)
  (.seq (.ops [
    ⟨(some 43), .mv (.t 0), none, []⟩,
    ⟨(some 44), .lenS (.t 43), none, []⟩,
    ⟨(some 45), .bin .quo .int (.c (.int .i64 8192)) (.t 44), none, []⟩,
    ⟨(some 46), .mv (.t 0), none, []⟩,
    ⟨(some 47), .lenS (.t 46), none, []⟩,
    ⟨(some 48), .bin .mul .int (.t 45) (.t 47), none, []⟩,
    ⟨(some 8), .mv (.t 48), none, []⟩])
  (.seq (.ops [
    ⟨(some 49), .mv (.t 8), none, []⟩,
    ⟨(some 50), .bin .eql .int (.t 49) (.c (.int .i64 0)), none, []⟩])
  (.cond (.t 50)
   (.ops [
     ⟨(some 51), .mv (.t 0), none, []⟩,
     ⟨(some 52), .lenS (.t 51), none, []⟩,
     ⟨(some 8), .mv (.t 52), none, []⟩])
   (.skip))))
  (.skip)))
 (.seq (.ops [
   ⟨(some 53), .mv (.t 7), none, []⟩,
   ⟨(some 54), .callF 121 [(.t 53)], none, []⟩,
   ⟨(some 55), .mv (.t 7), none, []⟩,
   ⟨(some 56), .mv (.t 7), none, []⟩,
   ⟨(some 57), .slS 1 (.t 54) none (some (.t 55)) (some (.t 56)), none, []⟩,
   ⟨(some 9), .mv (.t 57), none, []⟩])
 (.seq (.ops [
   ⟨(some 58), .mv (.t 9), none, []⟩,
   ⟨(some 59), .mv (.t 0), none, []⟩,
   ⟨(some 60), .cpy 1 (.t 58) (.t 59), none, []⟩,
   ⟨(some 10), .mv (.t 60), none, []⟩])
 (.seq (.block 0 (.loop (.seq (.seq (.ops [
    ⟨(some 61), .mv (.t 10), none, []⟩,
    ⟨(some 62), .mv (.t 7), none, []⟩,
    ⟨(some 63), .bin .lss .int (.t 61) (.t 62), none, []⟩])
  (.cond (.t 63)
   (.skip)
   (.exit 0)))
  (.block 1 (.seq (.ops [
    ⟨(some 64), .mv (.t 10), none, []⟩,
    ⟨(some 65), .mv (.t 8), none, []⟩,
    ⟨(some 66), .mn [(.t 64), (.t 65)], none, []⟩,
    ⟨(some 11), .mv (.t 66), none, []⟩])
  (.dr [
    ⟨(some 67), .mv (.t 10), none, []⟩,
    ⟨(some 68), .mv (.t 9), none, []⟩,
    ⟨(some 69), .mv (.t 10), none, []⟩,
    ⟨(some 70), .slS 1 (.t 68) (some (.t 69)) none none, none, [1, 2]⟩,
    ⟨(some 71), .mv (.t 9), none, []⟩,
    ⟨(some 72), .mv (.t 11), none, []⟩,
    ⟨(some 73), .slS 1 (.t 71) none (some (.t 72)) none, none, [4, 5]⟩,
    ⟨(some 74), .cpy 1 (.t 70) (.t 73), none, [3, 6]⟩,
    ⟨(some 75), .bin .add .int (.t 67) (.t 74), none, [0, 7]⟩,
    ⟨(some 10), .mv (.t 75), none, [8, 7, 0, 1, 2, 3, 4, 5, 6, 7, 8]⟩]))))))
 (.seq (.ops [
   ⟨(some 76), .mv (.t 9), none, []⟩,
   ⟨(some 4), .mv (.t 76), none, []⟩])
 (.ret)))))))))))))
def m116_0 : List Nat := [61, 62, 63, 64, 65, 66, 11, 67, 68, 69, 70, 71, 72, 73, 74, 75, 10]
theorem k116 : compFunc Tryz.prog 116 = some (77, c116, [.t 4]) := by kernel_rfl
def c117 : ACode :=
 .seq (.ops [
   ⟨(some 2), .mv (.c (.int .i64 0)), none, []⟩])
 (.seq (.ops [
   ⟨(some 3), .mv (.c (.int .i64 0)), none, []⟩])
 (.seq (.seq (.ops [
   ⟨(some 6), .mv (.t 0), none, []⟩,
   ⟨(some 7), .lenS (.t 6), none, []⟩,
   ⟨(some 8), .mv (.c (.int .i64 0)), none, []⟩])
 (.block 0 (.loop (.seq (.ops [
    ⟨(some 9), .bin .lss .int (.t 8) (.t 7), none, []⟩])
  (.seq (.cond (.t 9)
   (.skip)
   (.exit 0))
  (.seq (.block 1 (.seq (.ops [
    ⟨(some 10), .ixS 1 (.t 6) (.t 8), none, []⟩,
    ⟨(some 11), .load false 1 (.t 10), none, []⟩,
    ⟨(some 5), .mv (.t 11), none, []⟩])
  (.seq (.ops [
    ⟨(some 12), .mv (.t 5), none, []⟩,
    ⟨(some 13), .mv (.t 3), none, []⟩,
    ⟨(some 14), .bin .neq .int (.t 12) (.t 13), none, []⟩])
  (.cond (.t 14)
   (.seq (.ops [
     ⟨(some 15), .mv (.t 5), none, []⟩,
     ⟨(some 2), .mv (.t 15), none, []⟩])
   (.ret))
   (.skip)))))
  (.ops [
    ⟨(some 16), .bin .add .int (.t 8) (.c (.int .i64 1)), none, []⟩,
    ⟨(some 8), .mv (.t 16), none, []⟩])))))))
 (.seq (.ops [
   ⟨(some 17), .mv (.t 3), none, []⟩,
   ⟨(some 2), .mv (.t 17), none, []⟩])
 (.ret))))
def m117_0 : List Nat := [9, 10, 11, 5, 12, 13, 14, 15, 2, 16, 8]
theorem k117 : compFunc Tryz.prog 117 = some (18, c117, [.t 2]) := by kernel_rfl
def c118 : ACode :=
 .seq (.ops [
   ⟨(some 4), .mv (.c (.int .i64 0)), none, []⟩])
 (.seq (.seq (.ops [
   ⟨(some 6), .mv (.t 0), none, []⟩,
   ⟨(some 7), .lenS (.t 6), none, []⟩,
   ⟨(some 8), .mv (.c (.int .i64 0)), none, []⟩])
 (.block 0 (.loop (.seq (.ops [
    ⟨(some 9), .bin .lss .int (.t 8) (.t 7), none, []⟩])
  (.seq (.cond (.t 9)
   (.skip)
   (.exit 0))
  (.seq (.block 1 (.seq (.ops [
    ⟨(some 10), .mv (.t 8), none, []⟩,
    ⟨(some 5), .mv (.t 10), none, []⟩])
  (.seq (.ops [
    ⟨(some 11), .mv (.t 1), none, []⟩,
    ⟨(some 12), .mv (.t 0), none, []⟩,
    ⟨(some 13), .mv (.t 5), none, []⟩,
    ⟨(some 14), .ixS 1 (.t 12) (.t 13), none, []⟩,
    ⟨(some 15), .load false 1 (.t 14), none, []⟩,
    ⟨(some 16), .callV (.t 11) [(.t 15)], none, []⟩])
  (.cond (.t 16)
   (.seq (.ops [
     ⟨(some 17), .mv (.t 5), none, []⟩,
     ⟨(some 4), .mv (.t 17), none, []⟩])
   (.ret))
   (.skip)))))
  (.ops [
    ⟨(some 18), .bin .add .int (.t 8) (.c (.int .i64 1)), none, []⟩,
    ⟨(some 8), .mv (.t 18), none, []⟩])))))))
 (.seq (.ops [
   ⟨(some 4), .mv (.c (.int .i64 (-1))), none, []⟩])
 (.ret)))
def m118_0 : List Nat := [9, 10, 5, 11, 12, 13, 14, 15, 16, 17, 4, 18, 8]
theorem k118 : compFunc Tryz.prog 118 = some (19, c118, [.t 4]) := by kernel_rfl
def c119 : ACode :=
 .seq (.ops [
   ⟨(some 3), .mv (.c (.bool false)), none, []⟩])
 (.seq (.ops [
   ⟨(some 4), .mv (.t 0), none, []⟩,
   ⟨(some 5), .load false 1 (.t 1), none, []⟩,
   ⟨(some 6), .ixS 1 (.t 5) (.c (.int .i64 0)), none, []⟩,
   ⟨(some 7), .load false 1 (.t 6), none, []⟩,
   ⟨(some 8), .bin .neq .int (.t 4) (.t 7), none, []⟩,
   ⟨(some 3), .mv (.t 8), none, []⟩])
 (.ret))
theorem k119 : compFunc Tryz.prog 119 = some (9, c119, [.t 3]) := by kernel_rfl
def c120 : ACode :=
 .seq (.ops [
   ⟨(some 4), .mv (.c (.int .u64 0)), none, []⟩,
   ⟨(some 5), .mv (.c (.int .u64 0)), none, []⟩])
 (.seq (.cond (.c (.bool false))
  (.seq (.ops [
    ⟨(some 11), .mv (.t 0), none, []⟩,
    ⟨(some 12), .conv (.int .u32) (.t 11), none, []⟩,
    ⟨(some 13), .mv (.t 1), none, []⟩,
    ⟨(some 14), .conv (.int .u32) (.t 13), none, []⟩,
    ⟨(some 15), .callF 122 [(.t 12), (.t 14)], none, []⟩,
    ⟨(some 10), .mv (.t 15), none, []⟩,
    ⟨(some 16), .ext (.t 10) 0, none, []⟩,
    ⟨(some 17), .ext (.t 10) 1, none, []⟩,
    ⟨(some 6), .mv (.t 16), none, []⟩,
    ⟨(some 7), .mv (.t 17), none, []⟩])
  (.seq (.ops [
    ⟨(some 18), .mv (.t 6), none, []⟩,
    ⟨(some 19), .conv (.int .u64) (.t 18), none, []⟩,
    ⟨(some 20), .mv (.t 7), none, []⟩,
    ⟨(some 21), .conv (.int .u64) (.t 20), none, []⟩,
    ⟨(some 4), .mv (.t 19), none, []⟩,
    ⟨(some 5), .mv (.t 21), none, []⟩])
  (.ret)))
  (.skip))
 (.seq (.ops [
   ⟨(some 23), .mv (.t 0), none, []⟩,
   ⟨(some 24), .mv (.t 1), none, []⟩,
   ⟨(some 25), .callF 123 [(.t 23), (.t 24)], none, []⟩,
   ⟨(some 22), .mv (.t 25), none, []⟩,
   ⟨(some 26), .ext (.t 22) 0, none, []⟩,
   ⟨(some 27), .ext (.t 22) 1, none, []⟩,
   ⟨(some 8), .mv (.t 26), none, []⟩,
   ⟨(some 9), .mv (.t 27), none, []⟩])
 (.seq (.ops [
   ⟨(some 28), .mv (.t 8), none, []⟩,
   ⟨(some 29), .mv (.t 9), none, []⟩,
   ⟨(some 4), .mv (.t 28), none, []⟩,
   ⟨(some 5), .mv (.t 29), none, []⟩])
 (.ret))))
theorem k120 : compFunc Tryz.prog 120 = some (30, c120, [.t 4, .t 5]) := by kernel_rfl
def c122 : ACode :=
 .seq (.ops [
   ⟨(some 4), .mv (.c (.int .u32 0)), none, []⟩,
   ⟨(some 5), .mv (.c (.int .u32 0)), none, []⟩])
 (.seq (.ops [
   ⟨(some 7), .mv (.t 0), none, []⟩,
   ⟨(some 8), .conv (.int .u64) (.t 7), none, []⟩,
   ⟨(some 9), .mv (.t 1), none, []⟩,
   ⟨(some 10), .conv (.int .u64) (.t 9), none, []⟩,
   ⟨(some 11), .bin .mul .int (.t 8) (.t 10), none, []⟩,
   ⟨(some 6), .mv (.t 11), none, []⟩])
 (.seq (.ops [
   ⟨(some 12), .mv (.t 6), none, []⟩,
   ⟨(some 13), .bin .shr .int (.t 12) (.c (.int .u64 32)), none, []⟩,
   ⟨(some 14), .conv (.int .u32) (.t 13), none, []⟩,
   ⟨(some 15), .mv (.t 6), none, []⟩,
   ⟨(some 16), .conv (.int .u32) (.t 15), none, []⟩,
   ⟨(some 4), .mv (.t 14), none, []⟩,
   ⟨(some 5), .mv (.t 16), none, []⟩])
 (.ret)))
theorem k122 : compFunc Tryz.prog 122 = some (17, c122, [.t 4, .t 5]) := by kernel_rfl
def c123 : ACode :=
 .seq (.ops [
   ⟨(some 4), .mv (.c (.int .u64 0)), none, []⟩,
   ⟨(some 5), .mv (.c (.int .u64 0)), none, []⟩])
 (.seq (.ops [
   ⟨(some 14), .mv (.t 0), none, []⟩,
   ⟨(some 15), .bin .and .int (.t 14) (.c (.int .u64 4294967295)), none, []⟩,
   ⟨(some 6), .mv (.t 15), none, []⟩])
 (.seq (.ops [
   ⟨(some 16), .mv (.t 0), none, []⟩,
   ⟨(some 17), .bin .shr .int (.t 16) (.c (.int .u64 32)), none, []⟩,
   ⟨(some 7), .mv (.t 17), none, []⟩])
 (.seq (.ops [
   ⟨(some 18), .mv (.t 1), none, []⟩,
   ⟨(some 19), .bin .and .int (.t 18) (.c (.int .u64 4294967295)), none, []⟩,
   ⟨(some 8), .mv (.t 19), none, []⟩])
 (.seq (.ops [
   ⟨(some 20), .mv (.t 1), none, []⟩,
   ⟨(some 21), .bin .shr .int (.t 20) (.c (.int .u64 32)), none, []⟩,
   ⟨(some 9), .mv (.t 21), none, []⟩])
 (.seq (.ops [
   ⟨(some 22), .mv (.t 6), none, []⟩,
   ⟨(some 23), .mv (.t 8), none, []⟩,
   ⟨(some 24), .bin .mul .int (.t 22) (.t 23), none, []⟩,
   ⟨(some 10), .mv (.t 24), none, []⟩])
 (.seq (.ops [
   ⟨(some 25), .mv (.t 7), none, []⟩,
   ⟨(some 26), .mv (.t 8), none, []⟩,
   ⟨(some 27), .bin .mul .int (.t 25) (.t 26), none, []⟩,
   ⟨(some 28), .mv (.t 10), none, []⟩,
   ⟨(some 29), .bin .shr .int (.t 28) (.c (.int .u64 32)), none, []⟩,
   ⟨(some 30), .bin .add .int (.t 27) (.t 29), none, []⟩,
   ⟨(some 11), .mv (.t 30), none, []⟩])
 (.seq (.ops [
   ⟨(some 31), .mv (.t 11), none, []⟩,
   ⟨(some 32), .bin .and .int (.t 31) (.c (.int .u64 4294967295)), none, []⟩,
   ⟨(some 12), .mv (.t 32), none, []⟩])
 (.seq (.ops [
   ⟨(some 33), .mv (.t 11), none, []⟩,
   ⟨(some 34), .bin .shr .int (.t 33) (.c (.int .u64 32)), none, []⟩,
   ⟨(some 13), .mv (.t 34), none, []⟩])
 (.seq (.ops [
   ⟨(some 35), .mv (.t 12), none, []⟩,
   ⟨(some 36), .mv (.t 6), none, []⟩,
   ⟨(some 37), .mv (.t 9), none, []⟩,
   ⟨(some 38), .bin .mul .int (.t 36) (.t 37), none, []⟩,
   ⟨(some 39), .bin .add .int (.t 35) (.t 38), none, []⟩,
   ⟨(some 12), .mv (.t 39), none, []⟩])
 (.seq (.ops [
   ⟨(some 40), .mv (.t 7), none, []⟩,
   ⟨(some 41), .mv (.t 9), none, []⟩,
   ⟨(some 42), .bin .mul .int (.t 40) (.t 41), none, []⟩,
   ⟨(some 43), .mv (.t 13), none, []⟩,
   ⟨(some 44), .bin .add .int (.t 42) (.t 43), none, []⟩,
   ⟨(some 45), .mv (.t 12), none, []⟩,
   ⟨(some 46), .bin .shr .int (.t 45) (.c (.int .u64 32)), none, []⟩,
   ⟨(some 47), .bin .add .int (.t 44) (.t 46), none, []⟩,
   ⟨(some 4), .mv (.t 47), none, []⟩])
 (.seq (.ops [
   ⟨(some 48), .mv (.t 0), none, []⟩,
   ⟨(some 49), .mv (.t 1), none, []⟩,
   ⟨(some 50), .bin .mul .int (.t 48) (.t 49), none, []⟩,
   ⟨(some 5), .mv (.t 50), none, []⟩])
 (.ret))))))))))))
theorem k123 : compFunc Tryz.prog 123 = some (51, c123, [.t 4, .t 5]) := by kernel_rfl
end Go.Proofs.YtkfahdbjndihfabGreat
namespace Go.Proofs.YtkfahdbjndihfabGreat
open Go.Tc
set_option linter.unusedSimpArgs false
set_option linter.unusedVariables false
set_option maxRecDepth 20000
theorem p24 : PutT Tryz.prog 24 false [(.int .i64)] := .int mixed (by kernel_rfl) rfl
theorem p57 : PutT Tryz.prog 57 false [(.int .u8)] := .byte mixed (by kernel_rfl)
theorem p47 : PutT Tryz.prog 47 false [(.sl [(.int .u8)])] := .sl mixed (p := 92) (e := 57) (g := false) (by kernel_rfl) (by kernel_rfl) p57 (by decide)
theorem p15 : PutT Tryz.prog 15 true [(.int .i64), (.int .i64), (.sl [(.int .u8)])] := .st mixed (n := 16) (r := [(0, false, 1, 24), (1, false, 1, 24), (2, false, 1, 47)]) (by kernel_rfl) (by omega) (by simp) (.cons p24 rfl rfl (.cons p24 rfl rfl (.cons p47 rfl rfl .nil)))
theorem p23 : PutT Tryz.prog 23 true [(.int .i64), (.int .i64)] := .st mixed (n := 12) (r := [(0, false, 1, 24), (1, false, 1, 24)]) (by kernel_rfl) (by omega) (by simp) (.cons p24 rfl rfl (.cons p24 rfl rfl .nil))
theorem p58 : PutT Tryz.prog 58 true [(.int .i64), (.int .i64), (.int .i64), (.int .i64)] := .st mixed (n := 12) (r := [(0, true, 2, 23), (2, true, 2, 23)]) (by kernel_rfl) (by omega) (by simp) (.cons p23 rfl rfl (.cons p23 rfl rfl .nil))
theorem p105 : PutT Tryz.prog 105 true [(.int .i64), (.int .i64)] := .st mixed (n := 12) (r := [(0, false, 1, 24), (1, false, 1, 24)]) (by kernel_rfl) (by omega) (by simp) (.cons p24 rfl rfl (.cons p24 rfl rfl .nil))
theorem p59 : PutT Tryz.prog 59 false [(.sl [(.int .i64), (.int .i64)])] := .sl mixed (p := 104) (e := 105) (g := true) (by kernel_rfl) (by kernel_rfl) p105 (by decide)
theorem p52 : PutT Tryz.prog 52 false [(.sl [(.int .i64), (.int .i64), (.sl [(.int .u8)])])] := .sl mixed (p := 98) (e := 15) (g := true) (by kernel_rfl) (by kernel_rfl) p15 (by decide)
theorem p8 : PutT Tryz.prog 8 false [(.int .i64)] := .int mixed (by kernel_rfl) rfl
theorem p12 : PutT Tryz.prog 12 false [.bool] := .bool mixed (by kernel_rfl)
theorem p20 : PutT Tryz.prog 20 true [(.int .i64), (.int .i64), (.int .i64)] := .st mixed (n := 16) (r := [(0, false, 1, 24), (1, false, 1, 24), (2, false, 1, 24)]) (by kernel_rfl) (by omega) (by simp) (.cons p24 rfl rfl (.cons p24 rfl rfl (.cons p24 rfl rfl .nil)))
theorem p27 : PutT Tryz.prog 27 false [(.sl [(.int .i64), (.int .i64)])] := .sl mixed (p := 76) (e := 23) (g := true) (by kernel_rfl) (by kernel_rfl) p23 (by decide)
theorem p28 : PutT Tryz.prog 28 false [(.sl [(.int .i64)])] := .sl mixed (p := 77) (e := 24) (g := false) (by kernel_rfl) (by kernel_rfl) p24 (by decide)
theorem p87 : PutT Tryz.prog 87 true [(.int .i64), (.int .i64), (.int .i64), (.int .i64), (.int .i64)] := .st mixed (n := 12) (r := [(0, true, 4, 58), (4, false, 1, 24)]) (by kernel_rfl) (by omega) (by simp) (.cons p58 rfl rfl (.cons p24 rfl rfl .nil))
theorem p40 : PutT Tryz.prog 40 false [(.sl [(.int .i64), (.int .i64), (.int .i64), (.int .i64), (.int .i64)])] := .sl mixed (p := 86) (e := 87) (g := true) (by kernel_rfl) (by kernel_rfl) p87 (by decide)
theorem w66 : WipeT Tryz.prog 66 [(.int .i64)] := .int mixed (n := -77) (by kernel_rfl)
theorem w94 : WipeT Tryz.prog 94 [(.int .u8)] := .int mixed (n := 77) (by kernel_rfl)
theorem w49 : WipeT Tryz.prog 49 [(.sl [(.int .u8)])] := .sl mixed (w := 93) (e := 94) (by kernel_rfl) (by kernel_rfl) w94
theorem w17 : WipeT Tryz.prog 17 [(.int .i64), (.int .i64), (.sl [(.int .u8)])] := .st mixed (n := 14) (r := [(0, 66), (1, 66), (2, 49)]) (by kernel_rfl) (by omega) (by simp) (.cons w66 rfl rfl (.cons w66 rfl rfl (.cons w49 rfl rfl .nil)))
theorem w79 : WipeT Tryz.prog 79 [(.int .i64), (.int .i64)] := .st mixed (n := 10) (r := [(0, 66), (1, 66)]) (by kernel_rfl) (by omega) (by simp) (.cons w66 rfl rfl (.cons w66 rfl rfl .nil))
theorem w30 : WipeT Tryz.prog 30 [(.sl [(.int .i64), (.int .i64)])] := .sl mixed (w := 78) (e := 79) (by kernel_rfl) (by kernel_rfl) w79
theorem w31 : WipeT Tryz.prog 31 [(.sl [(.int .i64)])] := .sl mixed (w := 80) (e := 66) (by kernel_rfl) (by kernel_rfl) w66
theorem w111 : WipeT Tryz.prog 111 [(.int .i64), (.int .i64), (.int .i64), (.int .i64)] := .st mixed (n := 10) (r := [(0, 79), (2, 79)]) (by kernel_rfl) (by omega) (by simp) (.cons w79 rfl rfl (.cons w79 rfl rfl .nil))
theorem w89 : WipeT Tryz.prog 89 [(.int .i64), (.int .i64), (.int .i64), (.int .i64), (.int .i64)] := .st mixed (n := 10) (r := [(0, 111), (4, 66)]) (by kernel_rfl) (by omega) (by simp) (.cons w111 rfl rfl (.cons w66 rfl rfl .nil))
theorem w42 : WipeT Tryz.prog 42 [(.sl [(.int .i64), (.int .i64), (.int .i64), (.int .i64), (.int .i64)])] := .sl mixed (w := 88) (e := 89) (by kernel_rfl) (by kernel_rfl) w89
theorem w54 : WipeT Tryz.prog 54 [(.sl [(.int .i64), (.int .i64), (.sl [(.int .u8)])])] := .sl mixed (w := 99) (e := 17) (by kernel_rfl) (by kernel_rfl) w17
def allR : List (Nat × Bool × Nat × FuncId) := [(0, true, 3, 15), (3, true, 3, 15), (6, true, 3, 15), (9, false, 1, 24), (10, false, 1, 24), (11, false, 1, 57), (12, true, 3, 15), (15, true, 4, 58), (19, false, 1, 24), (20, false, 1, 59), (21, false, 1, 52), (22, true, 4, 58), (26, false, 1, 24), (27, false, 1, 24), (28, false, 1, 24), (29, true, 3, 15), (32, false, 1, 47)]
theorem all_code : compFunc Tryz.prog 4 = some (72, .seq (.ops [⟨some 2, .box (.t 0), none, []⟩]) (putBody 2 1 4 allR), []) := by kernel_rfl
def argRow : List Lf := [(.int .i64), (.int .i64), (.sl [(.int .u8)]), (.int .i64), (.int .i64), (.sl [(.int .u8)]), (.int .i64), (.int .i64), (.sl [(.int .u8)]), (.int .i64), (.int .i64), (.int .u8), (.int .i64), (.int .i64), (.sl [(.int .u8)]), (.int .i64), (.int .i64), (.int .i64), (.int .i64), (.int .i64), (.sl [(.int .i64), (.int .i64)]), (.sl [(.int .i64), (.int .i64), (.sl [(.int .u8)])]), (.int .i64), (.int .i64), (.int .i64), (.int .i64), (.int .i64), (.int .i64), (.int .i64), (.int .i64), (.int .i64), (.sl [(.int .u8)]), (.sl [(.int .u8)])]
theorem all_puts : PutsT Tryz.prog 0 argRow allR := (.cons p15 rfl rfl (.cons p15 rfl rfl (.cons p15 rfl rfl (.cons p24 rfl rfl (.cons p24 rfl rfl (.cons p57 rfl rfl (.cons p15 rfl rfl (.cons p58 rfl rfl (.cons p24 rfl rfl (.cons p59 rfl rfl (.cons p52 rfl rfl (.cons p58 rfl rfl (.cons p24 rfl rfl (.cons p24 rfl rfl (.cons p24 rfl rfl (.cons p15 rfl rfl (.cons p47 rfl rfl .nil)))))))))))))))))
structure XA where
  c0 : Int
  r0 : (Lit.int .i64 c0).wf = true
  c1 : Int
  r1 : (Lit.int .i64 c1).wf = true
  v2 : AVal
  h2 : ∃ d, Tr nilHeap nope true (.sl [(.int .u8)]) d v2 ∧ szD d ≤ 1048576
  c3 : Int
  r3 : (Lit.int .i64 c3).wf = true
  c4 : Int
  r4 : (Lit.int .i64 c4).wf = true
  v5 : AVal
  h5 : ∃ d, Tr nilHeap nope true (.sl [(.int .u8)]) d v5 ∧ szD d ≤ 1048576
  c6 : Int
  r6 : (Lit.int .i64 c6).wf = true
  c7 : Int
  r7 : (Lit.int .i64 c7).wf = true
  v8 : AVal
  h8 : ∃ d, Tr nilHeap nope true (.sl [(.int .u8)]) d v8 ∧ szD d ≤ 1048576
  c9 : Int
  r9 : (Lit.int .i64 c9).wf = true
  c10 : Int
  r10 : (Lit.int .i64 c10).wf = true
  c11 : Int
  r11 : (Lit.int .u8 c11).wf = true
  c12 : Int
  r12 : (Lit.int .i64 c12).wf = true
  c13 : Int
  r13 : (Lit.int .i64 c13).wf = true
  v14 : AVal
  h14 : ∃ d, Tr nilHeap nope true (.sl [(.int .u8)]) d v14 ∧ szD d ≤ 1048576
  c15 : Int
  r15 : (Lit.int .i64 c15).wf = true
  c16 : Int
  r16 : (Lit.int .i64 c16).wf = true
  c17 : Int
  r17 : (Lit.int .i64 c17).wf = true
  c18 : Int
  r18 : (Lit.int .i64 c18).wf = true
  c19 : Int
  r19 : (Lit.int .i64 c19).wf = true
  v20 : AVal
  h20 : ∃ d, Tr nilHeap nope true (.sl [(.int .i64), (.int .i64)]) d v20 ∧ szD d ≤ 1048576
  v21 : AVal
  h21 : ∃ d, Tr nilHeap nope true (.sl [(.int .i64), (.int .i64), (.sl [(.int .u8)])]) d v21 ∧ szD d ≤ 1048576
  c22 : Int
  r22 : (Lit.int .i64 c22).wf = true
  c23 : Int
  r23 : (Lit.int .i64 c23).wf = true
  c24 : Int
  r24 : (Lit.int .i64 c24).wf = true
  c25 : Int
  r25 : (Lit.int .i64 c25).wf = true
  c26 : Int
  r26 : (Lit.int .i64 c26).wf = true
  c27 : Int
  r27 : (Lit.int .i64 c27).wf = true
  c28 : Int
  r28 : (Lit.int .i64 c28).wf = true
  c29 : Int
  r29 : (Lit.int .i64 c29).wf = true
  c30 : Int
  r30 : (Lit.int .i64 c30).wf = true
  v31 : AVal
  h31 : ∃ d, Tr nilHeap nope true (.sl [(.int .u8)]) d v31 ∧ szD d ≤ 1048576
  v32 : AVal
  h32 : ∃ d, Tr nilHeap nope true (.sl [(.int .u8)]) d v32 ∧ szD d ≤ 1048576
  tr : ∃ ds, TrR nilHeap nope true argRow ds [.int .i64 c0, .int .i64 c1, v2, .int .i64 c3, .int .i64 c4, v5, .int .i64 c6, .int .i64 c7, v8, .int .i64 c9, .int .i64 c10, .int .u8 c11, .int .i64 c12, .int .i64 c13, v14, .int .i64 c15, .int .i64 c16, .int .i64 c17, .int .i64 c18, .int .i64 c19, v20, v21, .int .i64 c22, .int .i64 c23, .int .i64 c24, .int .i64 c25, .int .i64 c26, .int .i64 c27, .int .i64 c28, .int .i64 c29, .int .i64 c30, v31, v32] ∧ szDs ds ≤ 1048576
  clo : ∀ a ∈ [.int .i64 c0, .int .i64 c1, v2, .int .i64 c3, .int .i64 c4, v5, .int .i64 c6, .int .i64 c7, v8, .int .i64 c9, .int .i64 c10, .int .u8 c11, .int .i64 c12, .int .i64 c13, v14, .int .i64 c15, .int .i64 c16, .int .i64 c17, .int .i64 c18, .int .i64 c19, v20, v21, .int .i64 c22, .int .i64 c23, .int .i64 c24, .int .i64 c25, .int .i64 c26, .int .i64 c27, .int .i64 c28, .int .i64 c29, .int .i64 c30, v31, v32], Clo a
def XA.row (x : XA) : List AVal := [.int .i64 x.c0, .int .i64 x.c1, x.v2, .int .i64 x.c3, .int .i64 x.c4, x.v5, .int .i64 x.c6, .int .i64 x.c7, x.v8, .int .i64 x.c9, .int .i64 x.c10, .int .u8 x.c11, .int .i64 x.c12, .int .i64 x.c13, x.v14, .int .i64 x.c15, .int .i64 x.c16, .int .i64 x.c17, .int .i64 x.c18, .int .i64 x.c19, x.v20, x.v21, .int .i64 x.c22, .int .i64 x.c23, .int .i64 x.c24, .int .i64 x.c25, .int .i64 x.c26, .int .i64 x.c27, .int .i64 x.c28, .int .i64 x.c29, .int .i64 x.c30, x.v31, x.v32]
theorem XA.row_eq {x : XA} : x.row = [.int .i64 x.c0, .int .i64 x.c1, x.v2, .int .i64 x.c3, .int .i64 x.c4, x.v5, .int .i64 x.c6, .int .i64 x.c7, x.v8, .int .i64 x.c9, .int .i64 x.c10, .int .u8 x.c11, .int .i64 x.c12, .int .i64 x.c13, x.v14, .int .i64 x.c15, .int .i64 x.c16, .int .i64 x.c17, .int .i64 x.c18, .int .i64 x.c19, x.v20, x.v21, .int .i64 x.c22, .int .i64 x.c23, .int .i64 x.c24, .int .i64 x.c25, .int .i64 x.c26, .int .i64 x.c27, .int .i64 x.c28, .int .i64 x.c29, .int .i64 x.c30, x.v31, x.v32] := id rfl
theorem XA.o2 (x : XA) : x.v2.one = true := let ⟨_, h, _⟩ := x.h2; h.one
theorem XA.o5 (x : XA) : x.v5.one = true := let ⟨_, h, _⟩ := x.h5; h.one
theorem XA.o8 (x : XA) : x.v8.one = true := let ⟨_, h, _⟩ := x.h8; h.one
theorem XA.o14 (x : XA) : x.v14.one = true := let ⟨_, h, _⟩ := x.h14; h.one
theorem XA.o20 (x : XA) : x.v20.one = true := let ⟨_, h, _⟩ := x.h20; h.one
theorem XA.o21 (x : XA) : x.v21.one = true := let ⟨_, h, _⟩ := x.h21; h.one
theorem XA.o31 (x : XA) : x.v31.one = true := let ⟨_, h, _⟩ := x.h31; h.one
theorem XA.o32 (x : XA) : x.v32.one = true := let ⟨_, h, _⟩ := x.h32; h.one
theorem XA.one (x : XA) : x.row.all AVal.one = true := let ⟨_, h, _⟩ := x.tr; List.all_eq_true.2 h.one
set_option maxHeartbeats 2000000 in
theorem XA.of {ds : List Dl} {xs : List AVal} (h : TrR nilHeap nope true argRow ds xs) (hz : szDs ds ≤ 1048576) (hc : ∀ a ∈ xs, Clo a) : ∃ x : XA, xs = x.row := by
  have k0 := h
  unfold argRow at k0
  obtain ⟨d0, ds1, y0, cs1, e0, f0, g0, k1⟩ := k0.uncons
  obtain ⟨d1, ds2, y1, cs2, e1, f1, g1, k2⟩ := k1.uncons
  obtain ⟨d2, ds3, y2, cs3, e2, f2, g2, k3⟩ := k2.uncons
  obtain ⟨d3, ds4, y3, cs4, e3, f3, g3, k4⟩ := k3.uncons
  obtain ⟨d4, ds5, y4, cs5, e4, f4, g4, k5⟩ := k4.uncons
  obtain ⟨d5, ds6, y5, cs6, e5, f5, g5, k6⟩ := k5.uncons
  obtain ⟨d6, ds7, y6, cs7, e6, f6, g6, k7⟩ := k6.uncons
  obtain ⟨d7, ds8, y7, cs8, e7, f7, g7, k8⟩ := k7.uncons
  obtain ⟨d8, ds9, y8, cs9, e8, f8, g8, k9⟩ := k8.uncons
  obtain ⟨d9, ds10, y9, cs10, e9, f9, g9, k10⟩ := k9.uncons
  obtain ⟨d10, ds11, y10, cs11, e10, f10, g10, k11⟩ := k10.uncons
  obtain ⟨d11, ds12, y11, cs12, e11, f11, g11, k12⟩ := k11.uncons
  obtain ⟨d12, ds13, y12, cs13, e12, f12, g12, k13⟩ := k12.uncons
  obtain ⟨d13, ds14, y13, cs14, e13, f13, g13, k14⟩ := k13.uncons
  obtain ⟨d14, ds15, y14, cs15, e14, f14, g14, k15⟩ := k14.uncons
  obtain ⟨d15, ds16, y15, cs16, e15, f15, g15, k16⟩ := k15.uncons
  obtain ⟨d16, ds17, y16, cs17, e16, f16, g16, k17⟩ := k16.uncons
  obtain ⟨d17, ds18, y17, cs18, e17, f17, g17, k18⟩ := k17.uncons
  obtain ⟨d18, ds19, y18, cs19, e18, f18, g18, k19⟩ := k18.uncons
  obtain ⟨d19, ds20, y19, cs20, e19, f19, g19, k20⟩ := k19.uncons
  obtain ⟨d20, ds21, y20, cs21, e20, f20, g20, k21⟩ := k20.uncons
  obtain ⟨d21, ds22, y21, cs22, e21, f21, g21, k22⟩ := k21.uncons
  obtain ⟨d22, ds23, y22, cs23, e22, f22, g22, k23⟩ := k22.uncons
  obtain ⟨d23, ds24, y23, cs24, e23, f23, g23, k24⟩ := k23.uncons
  obtain ⟨d24, ds25, y24, cs25, e24, f24, g24, k25⟩ := k24.uncons
  obtain ⟨d25, ds26, y25, cs26, e25, f25, g25, k26⟩ := k25.uncons
  obtain ⟨d26, ds27, y26, cs27, e26, f26, g26, k27⟩ := k26.uncons
  obtain ⟨d27, ds28, y27, cs28, e27, f27, g27, k28⟩ := k27.uncons
  obtain ⟨d28, ds29, y28, cs29, e28, f28, g28, k29⟩ := k28.uncons
  obtain ⟨d29, ds30, y29, cs30, e29, f29, g29, k30⟩ := k29.uncons
  obtain ⟨d30, ds31, y30, cs31, e30, f30, g30, k31⟩ := k30.uncons
  obtain ⟨d31, ds32, y31, cs32, e31, f31, g31, k32⟩ := k31.uncons
  obtain ⟨d32, ds33, y32, cs33, e32, f32, g32, k33⟩ := k32.uncons
  obtain ⟨en, fn⟩ := k33.unnil
  have ed : ds = [d0, d1, d2, d3, d4, d5, d6, d7, d8, d9, d10, d11, d12, d13, d14, d15, d16, d17, d18, d19, d20, d21, d22, d23, d24, d25, d26, d27, d28, d29, d30, d31, d32] := by rw [e0, e1, e2, e3, e4, e5, e6, e7, e8, e9, e10, e11, e12, e13, e14, e15, e16, e17, e18, e19, e20, e21, e22, e23, e24, e25, e26, e27, e28, e29, e30, e31, e32, en]
  have ec : xs = [y0, y1, y2, y3, y4, y5, y6, y7, y8, y9, y10, y11, y12, y13, y14, y15, y16, y17, y18, y19, y20, y21, y22, y23, y24, y25, y26, y27, y28, y29, y30, y31, y32] := by rw [f0, f1, f2, f3, f4, f5, f6, f7, f8, f9, f10, f11, f12, f13, f14, f15, f16, f17, f18, f19, f20, f21, f22, f23, f24, f25, f26, f27, f28, f29, f30, f31, f32, fn]
  clear e0 f0 k0 e1 f1 k1 e2 f2 k2 e3 f3 k3 e4 f4 k4 e5 f5 k5 e6 f6 k6 e7 f7 k7 e8 f8 k8 e9 f9 k9 e10 f10 k10 e11 f11 k11 e12 f12 k12 e13 f13 k13 e14 f14 k14 e15 f15 k15 e16 f16 k16 e17 f17 k17 e18 f18 k18 e19 f19 k19 e20 f20 k20 e21 f21 k21 e22 f22 k22 e23 f23 k23 e24 f24 k24 e25 f25 k25 e26 f26 k26 e27 f27 k27 e28 f28 k28 e29 f29 k29 e30 f30 k30 e31 f31 k31 e32 f32 k32 k33 en fn
  obtain ⟨n0, rfl, r0⟩ := g0.intW
  obtain ⟨n1, rfl, r1⟩ := g1.intW
  obtain ⟨n3, rfl, r3⟩ := g3.intW
  obtain ⟨n4, rfl, r4⟩ := g4.intW
  obtain ⟨n6, rfl, r6⟩ := g6.intW
  obtain ⟨n7, rfl, r7⟩ := g7.intW
  obtain ⟨n9, rfl, r9⟩ := g9.intW
  obtain ⟨n10, rfl, r10⟩ := g10.intW
  obtain ⟨n11, rfl, r11⟩ := g11.intW
  obtain ⟨n12, rfl, r12⟩ := g12.intW
  obtain ⟨n13, rfl, r13⟩ := g13.intW
  obtain ⟨n15, rfl, r15⟩ := g15.intW
  obtain ⟨n16, rfl, r16⟩ := g16.intW
  obtain ⟨n17, rfl, r17⟩ := g17.intW
  obtain ⟨n18, rfl, r18⟩ := g18.intW
  obtain ⟨n19, rfl, r19⟩ := g19.intW
  obtain ⟨n22, rfl, r22⟩ := g22.intW
  obtain ⟨n23, rfl, r23⟩ := g23.intW
  obtain ⟨n24, rfl, r24⟩ := g24.intW
  obtain ⟨n25, rfl, r25⟩ := g25.intW
  obtain ⟨n26, rfl, r26⟩ := g26.intW
  obtain ⟨n27, rfl, r27⟩ := g27.intW
  obtain ⟨n28, rfl, r28⟩ := g28.intW
  obtain ⟨n29, rfl, r29⟩ := g29.intW
  obtain ⟨n30, rfl, r30⟩ := g30.intW
  subst ed
  subst ec
  exact ⟨⟨n0, r0, n1, r1, y2, ⟨d2, g2, Nat.le_trans (szDs_get 2 rfl) hz⟩, n3, r3, n4, r4, y5, ⟨d5, g5, Nat.le_trans (szDs_get 5 rfl) hz⟩, n6, r6, n7, r7, y8, ⟨d8, g8, Nat.le_trans (szDs_get 8 rfl) hz⟩, n9, r9, n10, r10, n11, r11, n12, r12, n13, r13, y14, ⟨d14, g14, Nat.le_trans (szDs_get 14 rfl) hz⟩, n15, r15, n16, r16, n17, r17, n18, r18, n19, r19, y20, ⟨d20, g20, Nat.le_trans (szDs_get 20 rfl) hz⟩, y21, ⟨d21, g21, Nat.le_trans (szDs_get 21 rfl) hz⟩, n22, r22, n23, r23, n24, r24, n25, r25, n26, r26, n27, r27, n28, r28, n29, r29, n30, r30, y31, ⟨d31, g31, Nat.le_trans (szDs_get 31 rfl) hz⟩, y32, ⟨d32, g32, Nat.le_trans (szDs_get 32 rfl) hz⟩, ⟨_, h, hz⟩, hc⟩, rfl⟩
end Go.Proofs.YtkfahdbjndihfabGreat
namespace Go.Proofs.YtkfahdbjndihfabGreat
open Go.Tc
set_option linter.unusedSimpArgs false
set_option linter.unusedVariables false
set_option maxRecDepth 20000
def rU (x : Int) : List AVal := [.int .u8 x]
theorem rU_eq {x : Int} : rU x = [.int .u8 x] := id rfl
theorem s7 {σ : AHeap} {w h : Int} {px : AVal} {l : List Int} (hp : TV σ 1 rU px l) {Q : AOut → AHeap → Prop}
    (hQ : ∀ e : Int, (e = 0 → 1 ≤ w ∧ w ≤ 48 ∧ 1 ≤ h ∧ h ≤ 48 ∧ (l.length : Int) = w * h) → Q (.ret (.int .i64 e)) σ) :
    RunV Tryz.prog (.func (.func 7) [] []) [.agg [.int .i64 w, .int .i64 h, px]] σ Q := by
  have hb : 1 ≤ w → w ≤ 48 → 1 ≤ h → h ≤ 48 → 0 ≤ w * h ∧ w * h ≤ 48 * 48 := fun h1 h2 h3 h4 => ⟨Int.mul_nonneg (by omega) (by omega), Int.mul_le_mul h2 h4 (by omega) (by omega)⟩
  refine RunV.drop (RunV.func mixed k7 (by simp) ?_)
  simp (disch := omega) only [c7, ↓CTL, VAL, Nat.reduceBEq, Nat.reduceAdd, hp.one, hp.len]
  repeat' first
    | refine out_spec mixed k60 _ _ _ _ ?_
    | refine B_if (fun _ => ?_) (fun _ => ?_)
    | refine G_false (fun _ => ?_) (fun _ => ?_)
    | refine ⟨_, rfl, rfl, (Ext.refl _).alloc _, hQ _ fun _ => ?_⟩
    | omega
    | simp (disch := omega) only [↓CTL, VAL, Nat.reduceBEq, Nat.reduceAdd, hp.one, hp.len]
theorem s64 {σ : AHeap} {w h : Int} {px : AVal} (hp : px.one = true) (x y : Int) (hw : -1 ≤ w ∧ w ≤ 100000) (hh : -1 ≤ h ∧ h ≤ 100000) {Q : AOut → AHeap → Prop} (hQ : Q (.ret (.bool (decide (0 ≤ x ∧ x ≤ w - 1 ∧ 0 ≤ y ∧ y ≤ h - 1)))) σ) :
    RunV Tryz.prog (.func (.func 64) [] []) [.agg [.int .i64 w, .int .i64 h, px], .int .i64 x, .int .i64 y] σ Q := by
  refine RunV.drop (RunV.func mixed k64 (by simp) ?_)
  simp (disch := omega) only [c64, ↓CTL, VAL, Nat.reduceBEq, Nat.reduceAdd, hp]
  refine out_spec mixed k60 _ _ _ _ ?_
  simp (disch := omega) only [↓CTL, VAL, Nat.reduceBEq, Nat.reduceAdd, hp]
  refine G_true (fun h1 => ?_) (fun h1 => ?_)
  · simp (disch := omega) only [↓CTL, VAL, Nat.reduceBEq, Nat.reduceAdd, hp]
    refine out_spec mixed k60 _ _ _ _ ?_
    simp (disch := omega) only [↓CTL, VAL, Nat.reduceBEq, Nat.reduceAdd, hp]
    refine ⟨_, rfl, rfl, (Ext.refl _).alloc _, ?_⟩
    have : decide (¬ (y < 0 ∨ h - 1 < y)) = decide (0 ≤ x ∧ x ≤ w - 1 ∧ 0 ≤ y ∧ y ≤ h - 1) := by
      rw [decide_eq_decide]; omega
    rw [this]; exact hQ
  · simp (disch := omega) only [↓CTL, VAL, Nat.reduceBEq, Nat.reduceAdd, hp]
    refine ⟨_, rfl, rfl, (Ext.refl _).alloc _, ?_⟩
    have : decide (0 ≤ x ∧ x ≤ w - 1 ∧ 0 ≤ y ∧ y ≤ h - 1) = false := by
      rw [decide_eq_false_iff_not]; omega
    rw [this] at hQ; exact hQ
theorem s65 {σ : AHeap} {w h : Int} {px : AVal} {l : List Int} (hp : ∀ s, Ext σ s → TV s 1 rU px l) (x y : Int) (hw : 0 ≤ w ∧ w ≤ 48) (hh : 0 ≤ h ∧ h ≤ 48) (hl : (l.length : Int) = w * h) (hx : 0 ≤ x ∧ x ≤ w - 1) (hy : 0 ≤ y ∧ y ≤ h - 1) {Q : AOut → AHeap → Prop}
    (hQ : Q (.ret (.int .i64 (IntKind.i64.wrap (l.getD (y * w + x).toNat default)))) σ) :
    RunV Tryz.prog (.func (.func 65) [] []) [.agg [.int .i64 w, .int .i64 h, px], .int .i64 x, .int .i64 y] σ Q := by
  have h1 : 0 ≤ y * w := Int.mul_nonneg (by omega) (by omega)
  have h2 : y * w ≤ 48 * 48 := Int.mul_le_mul (by omega) (by omega) (by omega) (by omega)
  have h3 : (y + 1) * w ≤ h * w := Int.mul_le_mul_of_nonneg_right (by omega) (by omega)
  have h4 : (y + 1) * w = y * w + w := by rw [Int.add_mul, Int.one_mul]
  have h5 : h * w = w * h := Int.mul_comm _ _
  have hS := (hp _ ((Ext.refl _).alloc (.cells 3 [[.int .i64 w, .int .i64 h, px]]))).S
  refine RunV.drop (RunV.func mixed k65 (by simp) ?_)
  simp (disch := omega) only [c65, ↓CTL, VAL, Nat.reduceBEq, Nat.reduceAdd, hS, rU_eq]
  exact ⟨_, rfl, rfl, (Ext.refl _).alloc _, hQ⟩
theorem s69 {σ : AHeap} (x : Int) {Q : AOut → AHeap → Prop} (hQ : ∀ y : Int, (-1000000 ≤ x ∧ x ≤ 1000000 → 0 ≤ y ∧ y ≤ 1000000) → Q (.ret (.int .i64 y)) σ) : RunV Tryz.prog (.func (.func 69) [] []) [.int .i64 x] σ Q := by
  refine RunV.func mixed k69 (by simp) ?_
  simp (disch := omega) only [c69, ↓CTL, VAL, Nat.reduceBEq, Nat.reduceAdd]
  refine hQ _ fun h => ?_
  rw [IntKind.wrap_i64]
  omega
theorem eql_str {a b : ByteArray} : ∃ c : Bool, binA .eql .str (.str a) (.str b) = some (.bool c) := ⟨_, rfl⟩
theorem s61 {σ : AHeap} {v w : AVal} {a b : ByteArray} (hv : b2sA σ v = some a) (hw : b2sA σ w = some b) {Q : AOut → AHeap → Prop} (hQ : ∀ b : Bool, Q (.ret (.bool b)) σ) : RunV Tryz.prog (.func (.func 61) [] []) [v, w] σ Q := by
  refine RunV.func mixed k61 (by simp) ?_
  obtain ⟨c, hc⟩ := eql_str (a := a) (b := b)
  simp (disch := omega) only [c61, ↓CTL, VAL, Nat.reduceBEq, Nat.reduceAdd, hv, hw, Option.map_some, hc]
  exact hQ _
end Go.Proofs.YtkfahdbjndihfabGreat
namespace Go.Proofs.YtkfahdbjndihfabGreat
open Go.Tc
set_option linter.unusedSimpArgs false
set_option linter.unusedVariables false
set_option maxRecDepth 20000
structure PI (σ : AHeap) (w h : Int) (px v : AVal) (l : List Int) (s : AHeap) : Prop where
  ext : Ext σ s
  nx : σ.next + 3 ≤ s.next
  h0 : s.objs σ.next = some (.cells 3 [[.int .i64 w, .int .i64 h, px]])
  h1 : s.objs (σ.next + 1) = some (.cells 3 [[.int .i64 0, .int .i64 0, .nilS]])
  h2 : s.objs (σ.next + 1 + 1) = some (.cells 3 [[.int .i64 w, .int .i64 h, v]])
  own : OwnS s (σ.next + 3) 1 rU v l
theorem s62 {σ : AHeap} {w h : Int} {px fn : AVal} {n : Nat} (hp1 : px.one = true) (hpl : lenOfS px = some n) (hn : n ≤ 1048576) (hw : 0 ≤ w ∧ w ≤ 48) (hh : 0 ≤ h ∧ h ≤ 48)
    (hfn : ∀ s, Ext σ s → ∀ x y : Int, 0 ≤ x → x < w → 0 ≤ y → y < h → RunV Tryz.prog fn [.int .i64 x, .int .i64 y] s (fun o s' => ∃ k, o = .ret (.int .i64 k) ∧ s' = s)) {Q : AOut → AHeap → Prop}
    (hQ : ∀ v (l : List Int) s, Ext σ s → OwnS s σ.next 1 rU v l → l.length ≤ 2400 → Q (.ret (.agg [.int .i64 w, .int .i64 h, v])) s) :
    RunV Tryz.prog (.func (.func 62) [] []) [.agg [.int .i64 w, .int .i64 h, px], fn] σ Q := by
  refine RunV.func mixed k62 (by simp) ?_
  simp (disch := omega) only [c62, ↓CTL, ↓DRW, VAL, DRV, Nat.reduceBEq, Nat.reduceAdd, hp1, hpl]
  refine dg_go [] [2, 5] ?_ ?_; · decide
  dsimp only [ghL, ghH, isGh, bares, AVal.bare, cond]
  simp (disch := omega) only [↓CTL, ↓DRW, VAL, DRV, ROW, Nat.reduceBEq, Nat.reduceAdd, hp1, hpl]
  refine A_loopV (α := Nat × AVal × List Int) m62_0 (fun x => [(23, .int .i64 x.1)]) (fun x s => x.1 ≤ h.toNat ∧ x.2.2.length ≤ 48 * x.1 ∧ PI σ w h px x.2.1 x.2.2 s) (fun x => h.toNat - x.1) rfl (fun _ => rfl) ⟨(0, .ms 1 (σ.next + 1 + 1 + 1) 0 (Int.toNat 0) (0 == (n : Int)), []), ?_, Nat.zero_le _, by simp, ?_⟩ ?_
  · simp only [↓CTL, VAL, Nat.reduceBEq]; rfl
  · constructor
    · exact ((((Ext.refl _).alloc _).alloc _ |>.alloc _).alloc _).set (by omega) _
    · simp only [VAL]; omega
    all_goals simp (disch := omega) only [VAL]
    · exact .inr ⟨σ.next + 1 + 1 + 1, _, rfl, by omega, by simp only [VAL]; omega, by simp (disch := omega) only [VAL]; rfl⟩
  · rintro ⟨y, v, l⟩ f s ⟨hy, hl, hI⟩
    dsimp only at hy hl hI ⊢
    obtain ⟨hE, hnx, h0, h1, h2, hO⟩ := hI
    simp (disch := omega) only [↓CTL, ↓DRW, VAL, DRV, Nat.reduceBEq, Nat.reduceAdd, m62_0]
    refine B_if (fun hlt => ?_) (fun hge => ?_)
    · simp (disch := omega) only [↓CTL, ↓DRW, VAL, DRV, ROW, Nat.reduceBEq, Nat.reduceAdd, m62_0, h0]
      refine A_loopV (α := Nat × AVal × List Int) m62_1 (fun x => [(29, .int .i64 x.1)]) (fun x s => x.1 ≤ w.toNat ∧ x.2.2.length ≤ 48 * y + x.1 ∧ PI σ w h px x.2.1 x.2.2 s) (fun x => w.toNat - x.1) rfl (fun _ => rfl) ⟨(0, v, l), ?_, Nat.zero_le _, hl, hE, hnx, h0, h1, h2, hO⟩ ?_
      · simp only [↓CTL, VAL, Nat.reduceBEq]; rfl
      · rintro ⟨x, v, l⟩ f s ⟨hx, hl, hI⟩
        dsimp only at hx hl hI ⊢
        obtain ⟨hE, hnx, h0, h1, h2, hO⟩ := hI
        have ho := hO.one
        simp (disch := omega) only [↓CTL, ↓DRW, VAL, DRV, Nat.reduceBEq, Nat.reduceAdd, m62_1]
        refine B_if (fun hlt2 => ?_) (fun hge2 => ?_)
        · simp (disch := omega) only [↓CTL, ↓DRW, VAL, DRV, Nat.reduceBEq, Nat.reduceAdd, m62_1]
          refine dr_go [5] [1] ?_ ?_; · decide
          simp (disch := omega) only [↓CTL, ↓DRW, VAL, DRV, ROW, FILL, Nat.reduceBEq, Nat.reduceAdd, m62_1, h2, ho]
          refine (hfn s hE x y (by omega) (by omega) (by omega) (by omega)).mono fun o s' hs => ?_
          obtain ⟨k, rfl, rfl⟩ := hs
          obtain ⟨v', t', hap, k1, k2, k3, k4⟩ := hO.lit (x := IntKind.u8.wrap k) (row := [.int .u8 (IntKind.u8.wrap k)]) (bytes := 1) (ex := true) rfl (by omega) (sumLen_ok (by omega) (by omega))
          have e0 := (k3 σ.next (by omega) (hO.off_old (by omega))).trans h0
          have e1 := (k3 (σ.next + 1) (by omega) (hO.off_old (by omega))).trans h1
          have e2 := (k3 (σ.next + 1 + 1) (by omega) (hO.off_old (by omega))).trans h2
          simp (disch := omega) only [↓CTL, ↓DRW, VAL, DRV, ROW, FILL, Nat.reduceBEq, Nat.reduceAdd, m62_1, h2, ho, hap, e2, k1.one]
          refine ⟨fun h => absurd h (by decide), (x + 1, v', l ++ [IntKind.u8.wrap k]), rfl, ⟨by dsimp only; omega, by simp; omega, (hO.appE (by omega) hE k2 k3).set (by omega) _, by simp only [VAL]; omega, ?_, ?_, ?_, k1.set (hO.off_old (by omega) |> k4 _ (by omega)) _⟩, by dsimp only; omega⟩
          all_goals simp (disch := omega) only [VAL, e0, e1]
        · simp (disch := omega) only [↓CTL, ↓DRW, VAL, DRV, Nat.reduceBEq, Nat.reduceAdd, m62_1]
          exact ⟨(y + 1, v, l), rfl, ⟨by dsimp only; omega, by dsimp only; omega, hE, hnx, h0, h1, h2, hO⟩, by dsimp only; omega⟩
    · simp (disch := omega) only [↓CTL, ↓DRW, VAL, DRV, ROW, Nat.reduceBEq, Nat.reduceAdd, m62_0, h0, h1, h2, hO.one]
      exact hQ _ _ _ (hE.set (by omega) _) ((hO.weak (by omega)).set (hO.off_old (by omega)) _) (by omega)
end Go.Proofs.YtkfahdbjndihfabGreat
namespace Go.Proofs.YtkfahdbjndihfabGreat
open Go.Tc
set_option linter.unusedSimpArgs false
set_option linter.unusedVariables false
set_option maxRecDepth 20000
theorem s63 {σ : AHeap} {w h mx my fill : Int} {px : AVal} {l : List Int} {N1 N2 N3 N4 : Nat} (hp : RV 1 rU px l) (hw : 0 ≤ w ∧ w ≤ 48) (hh : 0 ≤ h ∧ h ≤ 48) (hl : (l.length : Int) = w * h)
    (h1 : σ.objs N1 = some (.cells 3 [[.int .i64 w, .int .i64 h, px]])) (h2 : σ.objs N2 = some (.cells 1 [[.int .i64 mx]])) (h3 : σ.objs N3 = some (.cells 1 [[.int .i64 my]])) (h4 : σ.objs N4 = some (.cells 1 [[.int .u8 fill]]))
    (hx : -12 ≤ mx ∧ mx ≤ 12) (hy : -12 ≤ my ∧ my ≤ 12) (x y : Int) (hx2 : 0 ≤ x ∧ x < w) (hy2 : 0 ≤ y ∧ y < h) :
    RunV Tryz.prog (.func (.func 63) [] [.ptr N1 0 0, .ptr N2 0 0, .ptr N3 0 0, .ptr N4 0 0]) [.int .i64 x, .int .i64 y] σ (fun o s => ∃ k, o = .ret (.int .i64 k) ∧ s = σ) := by
  refine RunV.func mixed k63 (by simp) ?_
  simp (disch := omega) only [c63, ↓CTL, ↓DRW, VAL, DRV, Nat.reduceBEq, Nat.reduceAdd, h1, h2, h3, h4, (hp σ).one]
  refine s64 (hp σ).one _ _ (by omega) (by omega) ?_
  simp (disch := omega) only [↓CTL, ↓DRW, VAL, DRV, Nat.reduceBEq, Nat.reduceAdd, h1, h2, h3, h4, (hp σ).one]
  refine B_if (fun hin => ?_) (fun _ => ?_)
  · simp (disch := omega) only [↓CTL, ↓DRW, VAL, DRV, Nat.reduceBEq, Nat.reduceAdd, h1, h2, h3, h4, (hp σ).one]
    refine s65 (fun s _ => hp s) _ _ hw hh hl (by omega) (by omega) ?_
    simp (disch := omega) only [↓CTL, ↓DRW, VAL, DRV, Nat.reduceBEq, Nat.reduceAdd, h1, h2, h3, h4, (hp σ).one]
    exact ⟨_, rfl⟩
  · simp (disch := omega) only [↓CTL, ↓DRW, VAL, DRV, Nat.reduceBEq, Nat.reduceAdd, h1, h2, h3, h4, (hp σ).one]
    exact ⟨_, rfl⟩
def FrQ (σ : AHeap) (o : AOut) (s : AHeap) : Prop := ∃ w h v e l, o = .ret (.tup [.agg [.int .i64 w, .int .i64 h, v], .int .i64 e]) ∧ Ext σ s ∧ OwnS s σ.next 1 rU v l ∧ l.length ≤ 2400
theorem s14 {σ : AHeap} {w h x y fill : Int} {px : AVal} {l : List Int} (hp : RV 1 rU px l) (hl : l.length ≤ 1048576) :
    RunV Tryz.prog (.func (.func 14) [] []) [.agg [.int .i64 w, .int .i64 h, px], .int .i64 x, .int .i64 y, .int .u8 fill] σ (FrQ σ) := by
  refine RunV.func mixed k14 (by simp) ?_
  simp (disch := omega) only [c14, ↓CTL, ↓DRW, VAL, DRV, Nat.reduceBEq, Nat.reduceAdd, (hp σ).one]
  refine s7 (hp _) fun e he => ?_
  repeat' first
    | refine out_spec mixed k60 _ _ _ _ ?_
    | refine B_if (fun _ => ?_) (fun _ => ?_)
    | refine G_false (fun _ => ?_) (fun _ => ?_)
    | exact ⟨_, _, _, _, [], rfl, by first | exact (((((Ext.refl _).alloc _).alloc _).alloc _).alloc _ |>.alloc _) | exact ((((((Ext.refl _).alloc _).alloc _).alloc _).alloc _ |>.alloc _).set (by omega) _), .nil, by simp⟩
    | simp (disch := omega) only [↓CTL, ↓DRW, VAL, DRV, ROW, Nat.reduceBEq, Nat.reduceAdd, (hp σ).one]
  obtain ⟨hw1, hw2, hh1, hh2, hlen⟩ := he (by omega)
  refine s62 (hp σ).one (hp σ).len (by omega) (by omega) (by omega) (fun s hE x' y' g1 g2 g3 g4 => ?_) fun v l' s hE hO hl' => ?_
  · refine s63 (mx := x) (my := y) (fill := fill) hp (by omega) (by omega) hlen ?_ ?_ ?_ ?_ (by omega) (by omega) _ _ (by omega) (by omega)
    all_goals
      rw [hE.2 _ (by simp only [VAL]; omega)]
      simp (disch := omega) only [VAL]
  · have hn := hE.1
    have g0 := hE.2 (σ.next + 1 + 1 + 1 + 1) (by simp only [VAL]; omega)
    simp (disch := omega) only [VAL] at g0 hn
    simp (disch := omega) only [↓CTL, ↓DRW, VAL, DRV, ROW, Nat.reduceBEq, Nat.reduceAdd, g0, hO.one]
    refine ⟨_, _, _, _, l', rfl, (Ext.trans ?_ hE).set (by omega) _, (hO.weak (by simp only [VAL]; omega)).set (hO.off_old (by simp only [VAL]; omega)) _, hl'⟩
    repeat first | exact Ext.refl _ | refine Ext.alloc ?_ _ | refine Ext.set ?_ (by omega) _
end Go.Proofs.YtkfahdbjndihfabGreat
namespace Go.Proofs.YtkfahdbjndihfabGreat
open Go.Tc
set_option linter.unusedSimpArgs false
set_option linter.unusedVariables false
set_option maxRecDepth 20000
theorem place {w h x y : Int} {n : Nat} (hw : 0 ≤ w ∧ w ≤ 48) (hh : 0 ≤ h ∧ h ≤ 48) (hl : (n : Int) = w * h) (hx : 0 ≤ x ∧ x ≤ w - 1) (hy : 0 ≤ y ∧ y ≤ h - 1) : 0 ≤ y * w + x ∧ y * w + x < n := by
  have h1 : 0 ≤ y * w := Int.mul_nonneg (by omega) (by omega)
  have h3 : (y + 1) * w ≤ h * w := Int.mul_le_mul_of_nonneg_right (by omega) (by omega)
  have h4 : (y + 1) * w = y * w + w := by rw [Int.add_mul, Int.one_mul]
  have h5 : h * w = w * h := Int.mul_comm _ _
  omega
theorem s81 {σ : AHeap} {w h : Int} {px : AVal} {l lv : List Int} {N1 N2 : Nat} (hp : RV 1 rU px l) (hr : ∀ v ∈ l, 0 ≤ v ∧ v ≤ 255) (hw : 0 ≤ w ∧ w ≤ 48) (hh : 0 ≤ h ∧ h ≤ 48) (hl : (l.length : Int) = w * h)
    (h1 : σ.objs N1 = some (.cells 256 [ints .i64 lv])) (hlv : lv.length = 256) (h2 : σ.objs N2 = some (.cells 3 [[.int .i64 w, .int .i64 h, px]])) (x y : Int) (hx2 : 0 ≤ x ∧ x < w) (hy2 : 0 ≤ y ∧ y < h) :
    RunV Tryz.prog (.func (.func 81) [] [.ptr N1 0 0, .ptr N2 0 0]) [.int .i64 x, .int .i64 y] σ (fun o s => ∃ k, o = .ret (.int .i64 k) ∧ s = σ) := by
  refine RunV.func mixed k81 (by simp) ?_
  simp (disch := omega) only [c81, ↓CTL, ↓DRW, VAL, DRV, Nat.reduceBEq, Nat.reduceAdd, h1, h2, (hp σ).one]
  have hpl := place hw hh hl (show 0 ≤ x ∧ x ≤ w - 1 by omega) (show 0 ≤ y ∧ y ≤ h - 1 by omega)
  have hv := hr _ (getD_mem (j := (y * w + x).toNat) (by omega))
  refine s65 (fun s _ => hp s) _ _ hw hh hl (by omega) (by omega) ?_
  rw [wrap_in (by omega) (by omega)]
  simp (disch := omega) only [↓CTL, ↓DRW, VAL, DRV, INTS, Nat.reduceBEq, Nat.reduceAdd, h1, h2, (hp σ).one]
  exact ⟨_, rfl⟩
theorem s33 {σ : AHeap} {w h t : Int} {px : AVal} {l : List Int} (hp : RV 1 rU px l) (hl : l.length ≤ 1048576) (hr : ∀ v ∈ l, 0 ≤ v ∧ v ≤ 255) :
    RunV Tryz.prog (.func (.func 33) [] []) [.agg [.int .i64 w, .int .i64 h, px], .int .i64 t] σ (FrQ σ) := by
  refine RunV.func mixed k33 (by simp) ?_
  simp (disch := omega) only [c33, ↓CTL, ↓DRW, VAL, DRV, Nat.reduceBEq, Nat.reduceAdd, (hp σ).one]
  refine s7 (hp _) fun e he => ?_
  repeat' first
    | refine out_spec mixed k60 _ _ _ _ ?_
    | refine B_if (fun _ => ?_) (fun _ => ?_)
    | refine G_false (fun _ => ?_) (fun _ => ?_)
    | exact ⟨_, _, _, _, [], rfl, by first | exact ((Ext.refl _).alloc _).alloc _ | exact (((Ext.refl _).alloc _).alloc _).set (by omega) _, .nil, by simp⟩
    | simp (disch := omega) only [↓CTL, ↓DRW, VAL, DRV, ROW, reps_len, Nat.reduceBEq, Nat.reduceAdd, (hp σ).one]
  obtain ⟨hw1, hw2, hh1, hh2, hlen⟩ := he (by omega)
  rw [reps_ints]
  refine A_loopV (α := Nat × List Int) m33_0 (fun x => [(19, .int .i64 x.1)]) (fun x s => x.1 ≤ 256 ∧ x.2.length = 256 ∧ s = ((σ.alloc (.cells 3 [[.int .i64 w, .int .i64 h, px]])).alloc (.cells 3 [[.int .i64 0, .int .i64 0, .nilS]])).alloc (.cells 256 [ints .i64 x.2])) (fun x => 256 - x.1) rfl (fun _ => rfl) ⟨(0, List.replicate 256 0), ?_, Nat.zero_le _, by simp, rfl⟩ ?_
  · simp only [↓CTL, VAL, Nat.reduceBEq]; rfl
  · rintro ⟨i, lv⟩ f s ⟨hi, hlv, rfl⟩
    dsimp only at hi hlv ⊢
    simp (disch := omega) only [↓CTL, ↓DRW, VAL, DRV, Nat.reduceBEq, Nat.reduceAdd, m33_0]
    refine B_if (fun hlt => ?_) (fun hge => ?_)
    · have q0 : 0 ≤ (500 * (2 * (i : Int) + 1)).tdiv t := Int.tdiv_nonneg (by omega) (by omega)
      have q1 : (500 * (2 * (i : Int) + 1)).tdiv t ≤ 500 * (2 * (i : Int) + 1) := by
        rw [Int.tdiv_eq_ediv_of_nonneg (by omega)]; exact Int.ediv_le_self _ (by omega)
      simp (disch := omega) only [↓CTL, ↓DRW, VAL, DRV, INTS, Nat.reduceBEq, Nat.reduceAdd, m33_0]
      exact ⟨(i + 1, _), rfl, ⟨by dsimp only; omega, by simp only [List.length_set]; exact hlv, alloc_setN rfl⟩, by dsimp only; omega⟩
    · simp (disch := omega) only [↓CTL, ↓DRW, VAL, DRV, INTS, ROW, Nat.reduceBEq, Nat.reduceAdd, m33_0, (hp σ).one]
      refine s62 (hp σ).one (hp σ).len (by omega) (by omega) (by omega) (fun s hE x' y' g1 g2 g3 g4 => ?_) fun v l' s hE hO hl' => ?_
      · refine s81 (lv := lv.set (Int.toNat 255) 255) hp hr (by omega) (by omega) hlen ?_ (by simp only [List.length_set]; exact hlv) ?_ _ _ (by omega) (by omega)
        all_goals
          rw [hE.2 _ (by simp only [VAL]; omega)]
          simp (disch := omega) only [VAL]
      · have hn := hE.1
        have g0 := hE.2 (σ.next + 1) (by simp only [VAL]; omega)
        simp (disch := omega) only [VAL] at g0 hn
        simp (disch := omega) only [↓CTL, ↓DRW, VAL, DRV, ROW, Nat.reduceBEq, Nat.reduceAdd, g0, hO.one]
        refine ⟨_, _, _, _, l', rfl, (Ext.trans ?_ hE).set (by omega) _, (hO.weak (by simp only [VAL]; omega)).set (hO.off_old (by simp only [VAL]; omega)) _, hl'⟩
        repeat first | exact Ext.refl _ | refine Ext.alloc ?_ _ | refine Ext.set ?_ (by omega) _
end Go.Proofs.YtkfahdbjndihfabGreat
namespace Go.Proofs.YtkfahdbjndihfabGreat
open Go.Tc
set_option linter.unusedSimpArgs false
set_option linter.unusedVariables false
set_option maxRecDepth 20000
theorem s82 {σ : AHeap} {w h gr be : Int} {px : AVal} {l : List Int} {N1 N2 N3 : Nat} (hp : RV 1 rU px l) (hw : 0 ≤ w ∧ w ≤ 48) (hh : 0 ≤ h ∧ h ≤ 48) (hl : (l.length : Int) = w * h) (hgr : 0 ≤ gr ∧ gr ≤ 12)
    (h1 : σ.objs N1 = some (.cells 1 [[.int .i64 gr]])) (h2 : σ.objs N2 = some (.cells 3 [[.int .i64 w, .int .i64 h, px]])) (h3 : σ.objs N3 = some (.cells 1 [[.int .i64 be]])) (x y : Int) (hx2 : 0 ≤ x ∧ x < w) (hy2 : 0 ≤ y ∧ y < h) :
    RunV Tryz.prog (.func (.func 82) [] [.ptr N1 0 0, .ptr N2 0 0, .ptr N3 0 0]) [.int .i64 x, .int .i64 y] σ (fun o s => ∃ k, o = .ret (.int .i64 k) ∧ s = σ) := by
  refine RunV.func mixed k82 (by simp) ?_
  simp (disch := omega) only [c82, ↓CTL, ↓DRW, VAL, DRV, Nat.reduceBEq, Nat.reduceAdd, h1, h2, h3, (hp σ).one]
  refine A_loopV (α := Int) m82_0 (fun b => [(7, .int .i64 0), (8, .int .i64 b)]) (fun b s => 0 ≤ b ∧ b ≤ 100 ∧ s = σ) (fun b => (100 - b).toNat) rfl (fun _ => rfl) ⟨max 0 (y - gr), ?_, by omega, by omega, rfl⟩ ?_
  · simp only [↓CTL, VAL, Nat.reduceBEq]
  · rintro b f s ⟨hb, hb2, rfl⟩
    simp (disch := omega) only [↓CTL, ↓DRW, VAL, DRV, Nat.reduceBEq, Nat.reduceAdd, m82_0, h1, h2, h3, (hp s).one]
    refine B_if (fun hlt => ?_) (fun hge => ?_)
    · simp (disch := omega) only [↓CTL, ↓DRW, VAL, DRV, Nat.reduceBEq, Nat.reduceAdd, m82_0, h1, h2, h3, (hp s).one]
      refine A_loopV (α := Int) m82_1 (fun a => [(7, .int .i64 0), (9, .int .i64 a)]) (fun a t => 0 ≤ a ∧ a ≤ 100 ∧ t = s) (fun a => (100 - a).toNat) rfl (fun _ => rfl) ⟨max 0 (x - gr), ?_, by omega, by omega, rfl⟩ ?_
      · simp only [↓CTL, VAL, Nat.reduceBEq]
      · rintro a f t ⟨ha, ha2, rfl⟩
        simp (disch := omega) only [↓CTL, ↓DRW, VAL, DRV, Nat.reduceBEq, Nat.reduceAdd, m82_1, h1, h2, h3, (hp t).one]
        refine B_if (fun hlt2 => ?_) (fun hge2 => ?_)
        · simp (disch := omega) only [↓CTL, ↓DRW, VAL, DRV, Nat.reduceBEq, Nat.reduceAdd, m82_1, h1, h2, h3, (hp t).one]
          refine dr_go [3] [] ?_ ?_; · decide
          simp (disch := omega) only [↓CTL, ↓DRW, VAL, DRV, Nat.reduceBEq, Nat.reduceAdd, m82_1, h1, h2, h3, (hp t).one]
          refine s65 (fun s _ => hp s) _ _ hw hh hl (by omega) (by omega) ?_
          simp (disch := omega) only [↓CTL, ↓DRW, VAL, DRV, Nat.reduceBEq, Nat.reduceAdd, m82_1, h1, h2, h3, (hp t).one]
          refine B_if (fun _ => ?_) (fun _ => ?_)
          · simp (disch := omega) only [↓CTL, ↓DRW, VAL, DRV, Nat.reduceBEq, Nat.reduceAdd, m82_1, h1, h2, h3, (hp t).one]
            exact ⟨_, rfl⟩
          · simp (disch := omega) only [↓CTL, ↓DRW, VAL, DRV, Nat.reduceBEq, Nat.reduceAdd, m82_1, h1, h2, h3, (hp t).one]
            exact ⟨a + 1, rfl, ⟨by omega, by omega⟩, by omega⟩
        · simp (disch := omega) only [↓CTL, ↓DRW, VAL, DRV, Nat.reduceBEq, Nat.reduceAdd, m82_1, h1, h2, h3, (hp t).one]
          exact ⟨b + 1, rfl, ⟨by omega, by omega⟩, by omega⟩
    · simp (disch := omega) only [↓CTL, ↓DRW, VAL, DRV, Nat.reduceBEq, Nat.reduceAdd, m82_0, h1, h2, h3, (hp s).one]
      exact ⟨_, rfl⟩
theorem s36 {σ : AHeap} {w h x y : Int} {px : AVal} {l : List Int} (hp : RV 1 rU px l) (hl : l.length ≤ 1048576) :
    RunV Tryz.prog (.func (.func 36) [] []) [.agg [.int .i64 w, .int .i64 h, px], .int .i64 x, .int .i64 y] σ (FrQ σ) := by
  refine RunV.func mixed k36 (by simp) ?_
  simp (disch := omega) only [c36, ↓CTL, ↓DRW, VAL, DRV, Nat.reduceBEq, Nat.reduceAdd, (hp σ).one]
  refine s7 (hp _) fun e he => ?_
  repeat' first
    | refine out_spec mixed k60 _ _ _ _ ?_
    | refine B_if (fun _ => ?_) (fun _ => ?_)
    | refine G_false (fun _ => ?_) (fun _ => ?_)
    | exact ⟨_, _, _, _, [], rfl, by first | exact (((((Ext.refl _).alloc _).alloc _).alloc _).alloc _) | exact ((((((Ext.refl _).alloc _).alloc _).alloc _).alloc _).set (by omega) _), .nil, by simp⟩
    | simp (disch := omega) only [↓CTL, ↓DRW, VAL, DRV, ROW, Nat.reduceBEq, Nat.reduceAdd, (hp σ).one]
  obtain ⟨hw1, hw2, hh1, hh2, hlen⟩ := he (by omega)
  refine s62 (hp σ).one (hp σ).len (by omega) (by omega) (by omega) (fun s hE x' y' g1 g2 g3 g4 => ?_) fun v l' s hE hO hl' => ?_
  · refine s82 (gr := y) (be := x) hp (by omega) (by omega) hlen (by omega) ?_ ?_ ?_ _ _ (by omega) (by omega)
    all_goals
      rw [hE.2 _ (by simp only [VAL]; omega)]
      simp (disch := omega) only [VAL]
  · have hn := hE.1
    have g0 := hE.2 (σ.next + 1 + 1 + 1) (by simp only [VAL]; omega)
    simp (disch := omega) only [VAL] at g0 hn
    simp (disch := omega) only [↓CTL, ↓DRW, VAL, DRV, ROW, Nat.reduceBEq, Nat.reduceAdd, g0, hO.one]
    refine ⟨_, _, _, _, l', rfl, (Ext.trans ?_ hE).set (by omega) _, (hO.weak (by simp only [VAL]; omega)).set (hO.off_old (by simp only [VAL]; omega)) _, hl'⟩
    repeat first | exact Ext.refl _ | refine Ext.alloc ?_ _ | refine Ext.set ?_ (by omega) _
end Go.Proofs.YtkfahdbjndihfabGreat
namespace Go.Proofs.YtkfahdbjndihfabGreat
open Go.Tc
set_option linter.unusedSimpArgs false
set_option linter.unusedVariables false
set_option maxRecDepth 20000
theorem s44 {σ : AHeap} {v : AVal} {l : List Int} (hv : TV σ 1 rU v l) (hl : l.length ≤ 4611686018427387904) {Q : AOut → AHeap → Prop} (hQ : ∀ n : Int, Q (.ret (.int .i64 n)) σ) : RunV Tryz.prog (.func (.func 44) [] []) [v] σ Q := by
  refine RunV.func mixed k44 (by simp) ?_
  simp (disch := omega) only [c44, ↓CTL, ↓DRW, VAL, DRV, Nat.reduceBEq, Nat.reduceAdd, hv.S]
  refine A_loopV (α := Nat × Int) m44_0 (fun x => [(9, .int .i64 x.1), (3, .int .u16 x.2)]) (fun x s => x.1 ≤ l.length ∧ s = σ) (fun x => l.length - x.1) rfl (fun _ => rfl) ⟨(0, 65535), ?_, Nat.zero_le _, rfl⟩ ?_
  · simp only [↓CTL, VAL, Nat.reduceBEq]; rfl
  · rintro ⟨i, n⟩ f s ⟨hi, rfl⟩
    dsimp only at hi ⊢
    simp (disch := omega) only [↓CTL, ↓DRW, VAL, DRV, Nat.reduceBEq, Nat.reduceAdd, m44_0, hv.S]
    refine B_if (fun hlt => ?_) (fun hge => ?_)
    · simp (disch := omega) only [↓CTL, ↓DRW, VAL, DRV, Nat.reduceBEq, Nat.reduceAdd, m44_0, hv.S, rU_eq, BITS]
      generalize bitI BinOp.xor IntKind.u16 n _ = n1
      refine A_loopV (α := Nat × Int) m44_1 (fun x => [(18, .int .i64 x.1), (3, .int .u16 x.2)]) (fun x t => x.1 ≤ 8 ∧ t = s) (fun x => 8 - x.1) rfl (fun _ => rfl) ⟨(0, n1), ?_, Nat.zero_le _, rfl⟩ ?_
      · simp only [↓CTL, VAL, Nat.reduceBEq]; rfl
      · rintro ⟨j, m⟩ f t ⟨hj, rfl⟩
        dsimp only at hj ⊢
        simp (disch := omega) only [↓CTL, ↓DRW, VAL, DRV, Nat.reduceBEq, Nat.reduceAdd, m44_1]
        refine B_if (fun hlt2 => ?_) (fun hge2 => ?_)
        · simp (disch := omega) only [↓CTL, ↓DRW, VAL, DRV, Nat.reduceBEq, Nat.reduceAdd, m44_1, BITS]
          exact ⟨(j + 1, _), ⟨rfl, rfl⟩, by dsimp only; omega, by dsimp only; omega⟩
        · simp (disch := omega) only [↓CTL, ↓DRW, VAL, DRV, Nat.reduceBEq, Nat.reduceAdd, m44_1]
          exact ⟨(i + 1, m), ⟨rfl, rfl⟩, by dsimp only; omega, by dsimp only; omega⟩
    · simp (disch := omega) only [↓CTL, ↓DRW, VAL, DRV, Nat.reduceBEq, Nat.reduceAdd, m44_0, hv.S]
      exact hQ _
theorem s11 {σ : AHeap} {w h w2 h2 : Int} {px px2 : AVal} {a b : ByteArray} (hp1 : px.one = true) (hp2 : px2.one = true) (hv : ∀ σ, b2sA σ px = some a) (hw : ∀ σ, b2sA σ px2 = some b) {Q : AOut → AHeap → Prop} (hQ : ∀ b : Bool, Q (.ret (.bool b)) σ) :
    RunV Tryz.prog (.func (.func 11) [] []) [.agg [.int .i64 w, .int .i64 h, px], .agg [.int .i64 w2, .int .i64 h2, px2]] σ Q := by
  refine RunV.drop (RunV.func mixed k11 (by simp) ?_)
  simp (disch := omega) only [c11, ↓CTL, ↓DRW, VAL, DRV, Nat.reduceBEq, Nat.reduceAdd, hp1, hp2]
  repeat' first
    | exact ⟨_, rfl, rfl, ((Ext.refl _).alloc _).alloc _, hQ _⟩
    | refine s61 (hv _) (hw _) fun _ => ?_
    | refine G_true (fun _ => ?_) (fun _ => ?_)
    | simp (disch := omega) only [↓CTL, ↓DRW, VAL, DRV, Nat.reduceBEq, Nat.reduceAdd, hp1, hp2]
theorem s73 {σ : AHeap} {x y : Int} (hx : 1 ≤ x ∧ x ≤ 100000) (hy : 0 ≤ y ∧ y ≤ 255) {Q : AOut → AHeap → Prop} (hQ : ∀ a b : Int, Q (.ret (.agg [.int .i64 a, .int .i64 b])) σ) : RunV Tryz.prog (.func (.func 73) [] []) [.agg [.int .i64 x, .int .i64 y]] σ Q := by
  refine RunV.drop (RunV.func mixed k73 (by simp) ?_)
  simp (disch := omega) only [c73, ↓CTL, ↓DRW, VAL, DRV, ROW, Nat.reduceBEq, Nat.reduceAdd]
  refine B_if (fun _ => ?_) (fun _ => ?_)
  · refine dr_go [] [] ?_ ?_; · decide
    simp (disch := omega) only [↓CTL, ↓DRW, VAL, DRV, ROW, Nat.reduceBEq, Nat.reduceAdd]
    refine ⟨_, rfl, rfl, ?_, hQ _ _⟩
    repeat first | exact Ext.refl _ | refine Ext.alloc ?_ _ | refine Ext.set ?_ (by omega) _
  · simp (disch := omega) only [↓CTL, ↓DRW, VAL, DRV, ROW, Nat.reduceBEq, Nat.reduceAdd]
    refine ⟨_, rfl, rfl, ?_, hQ _ _⟩
    repeat first | exact Ext.refl _ | refine Ext.alloc ?_ _ | refine Ext.set ?_ (by omega) _
theorem s72 {σ : AHeap} {a b c d : Int} {Q : AOut → AHeap → Prop} (hQ : ∀ x y z, Q (.ret (.tup [.agg [.int .i64 x, .int .i64 y], .bool z])) σ) : RunV Tryz.prog (.func (.func 72) [] []) [.agg [.int .i64 a, .int .i64 b], .agg [.int .i64 c, .int .i64 d]] σ Q := by
  refine RunV.drop (RunV.func mixed k72 (by simp) ?_)
  simp (disch := omega) only [c72, ↓CTL, ↓DRW, VAL, DRV, ROW, Nat.reduceBEq, Nat.reduceAdd]
  refine dr_go [] [2, 4] ?_ ?_; · decide
  simp (disch := omega) only [↓CTL, ↓DRW, VAL, DRV, ROW, Nat.reduceBEq, Nat.reduceAdd]
  refine ⟨_, rfl, rfl, ?_, hQ _ _ _⟩
  repeat first | exact Ext.refl _ | refine Ext.alloc ?_ _ | refine Ext.set ?_ (by omega) _
end Go.Proofs.YtkfahdbjndihfabGreat
namespace Go.Proofs.YtkfahdbjndihfabGreat
open Go.Tc
set_option linter.unusedSimpArgs false
set_option linter.unusedVariables false
set_option maxRecDepth 20000
def rP (x : Int × Int) : List AVal := [.int .i64 x.1, .int .i64 x.2]
theorem rP_eq {x : Int × Int} : rP x = [.int .i64 x.1, .int .i64 x.2] := id rfl
theorem s22 {σ : AHeap} {v : AVal} {l : List (Int × Int)} (hv : RV 2 rP v l) (hl : l.length ≤ 1048576) {Q : AOut → AHeap → Prop} (hQ : ∀ a b i e, Q (.ret (.tup [.agg [.int .i64 a, .int .i64 b], .int .i64 i, .int .i64 e])) σ) :
    RunV Tryz.prog (.func (.func 22) [] []) [v] σ Q := by
  refine RunV.drop (RunV.func mixed k22 (by simp) ?_)
  simp (disch := omega) only [c22, ↓CTL, ↓DRW, VAL, DRV, Nat.reduceBEq, Nat.reduceAdd, hv.S]
  refine B_if (fun _ => ?_) (fun hl16 => ?_)
  · simp (disch := omega) only [↓CTL, ↓DRW, VAL, DRV, ROW, Nat.reduceBEq, Nat.reduceAdd, hv.S]
    refine ⟨_, rfl, rfl, ?_, hQ _ _ _ _⟩
    repeat first | exact Ext.refl _ | refine Ext.alloc ?_ _ | refine Ext.set ?_ (by omega) _
  simp (disch := omega) only [↓CTL, ↓DRW, VAL, DRV, ROW, Nat.reduceBEq, Nat.reduceAdd, hv.S]
  refine A_loopV (α := Nat) m22_0 (fun i => [(18, .int .i64 i)]) (fun i s => i ≤ l.length ∧ Ext (σ.alloc (.cells 2 [[.int .i64 0, .int .i64 0]])) s ∧ ∀ k, k < i → (1 ≤ (l.getD k default).1 ∧ (l.getD k default).1 ≤ 100000) ∧ (0 ≤ (l.getD k default).2 ∧ (l.getD k default).2 ≤ 255)) (fun i => l.length - i) rfl (fun _ => rfl) ⟨0, ?_, Nat.zero_le _, .refl _, by omega⟩ ?_
  · simp only [↓CTL, VAL, Nat.reduceBEq]; rfl
  · rintro i f s ⟨hi, hE, hR⟩
    obtain ⟨g0, g1, g2⟩ := hE.one
    simp (disch := omega) only [↓CTL, ↓DRW, VAL, DRV, Nat.reduceBEq, Nat.reduceAdd, m22_0, hv.S]
    refine B_if (fun hlt => ?_) (fun hge => ?_)
    · simp (disch := omega) only [↓CTL, ↓DRW, VAL, DRV, ROW, Nat.reduceBEq, Nat.reduceAdd, m22_0, hv.S, rP_eq]
      repeat' first
        | refine out_spec mixed k60 _ _ _ _ ?_
        | refine B_if (fun _ => ?_) (fun _ => ?_)
        | refine G_false (fun _ => ?_) (fun _ => ?_)
        | (refine ⟨_, rfl, rfl, ?_, hQ _ _ _ _⟩; repeat first | exact g2 | refine Ext.alloc ?_ _ | refine Ext.set ?_ (by omega) _)
        | simp (disch := omega) only [↓CTL, ↓DRW, VAL, DRV, ROW, Nat.reduceBEq, Nat.reduceAdd, m22_0, hv.S, g0]
      refine ⟨i + 1, rfl, ⟨by omega, hE.alloc _, fun k hk => ?_⟩, by omega⟩
      by_cases hki : k = i
      · subst hki
        simp only [Int.toNat_natCast] at *
        omega
      · exact hR k (by omega)
    · simp (disch := omega) only [↓CTL, ↓DRW, VAL, DRV, ROW, Nat.reduceBEq, Nat.reduceAdd, m22_0, hv.S]
      have hil : i = l.length := by omega
      refine A_loopV (α := Nat × Int × Int) m22_1 (fun x => [(35, .int .i64 x.1)]) (fun x t => x.1 ≤ l.length ∧ Ext s t ∧ s.next + 1 ≤ t.next ∧ t.objs s.next = some (.cells 2 [[.int .i64 x.2.1, .int .i64 x.2.2]])) (fun x => l.length - x.1) rfl (fun _ => rfl) ⟨(0, 0, 10000000), ?_, Nat.zero_le _, ?_, ?_, ?_⟩ ?_
      · simp only [↓CTL, VAL, Nat.reduceBEq]; rfl
      · repeat first | exact Ext.refl _ | refine Ext.alloc ?_ _ | refine Ext.set ?_ (by omega) _
      · simp only [VAL]; omega
      · simp (disch := omega) only [VAL]
      · rintro ⟨k, a, b⟩ f t ⟨hk, hE2, hn2, h7⟩
        dsimp only at hk h7 ⊢
        have g0' := (hE2.2 σ.next (by omega)).trans g0
        have hE3 := g2.trans hE2
        have e3 := hE3.1
        have e2 := hE2.1
        simp (disch := omega) only [↓CTL, ↓DRW, VAL, DRV, Nat.reduceBEq, Nat.reduceAdd, m22_1, hv.S]
        refine B_if (fun hlt => ?_) (fun hge => ?_)
        · have hrk := hR k (by omega)
          simp (disch := omega) only [↓CTL, ↓DRW, VAL, DRV, ROW, Nat.reduceBEq, Nat.reduceAdd, m22_1, hv.S, rP_eq]
          refine dg_go [2, 3] [] ?_ ?_; · decide
          dsimp only [ghL, ghH, isGh, bares, AVal.bare, cond]
          simp (disch := omega) only [↓CTL, ↓DRW, VAL, DRV, ROW, Nat.reduceBEq, Nat.reduceAdd, m22_1, hv.S, h7, Int.toNat_natCast]
          refine s73 hrk.1 hrk.2 fun c d => ?_
          simp (disch := omega) only [↓CTL, ↓DRW, VAL, DRV, ROW, Nat.reduceBEq, Nat.reduceAdd, m22_1, hv.S, h7, Int.toNat_natCast]
          refine s72 fun x y z => ?_
          simp (disch := omega) only [↓CTL, ↓DRW, VAL, DRV, ROW, Nat.reduceBEq, Nat.reduceAdd, m22_1, hv.S, h7, Int.toNat_natCast]
          refine B_ifb (fun _ => ?_) (fun _ => ?_)
          · simp (disch := omega) only [↓CTL, ↓DRW, VAL, DRV, ROW, Nat.reduceBEq, Nat.reduceAdd, m22_1, hv.S, h7, g0', Int.toNat_natCast]
            refine ⟨_, rfl, rfl, ?_, hQ _ _ _ _⟩
            repeat first | exact hE3 | refine Ext.alloc ?_ _ | refine Ext.set ?_ (by omega) _
          · simp (disch := omega) only [↓CTL, ↓DRW, VAL, DRV, ROW, Nat.reduceBEq, Nat.reduceAdd, m22_1, hv.S, h7, Int.toNat_natCast]
            refine ⟨(k + 1, x, y), rfl, ⟨by dsimp only; omega, ?_, ?_, ?_⟩, by dsimp only; omega⟩
            · repeat first | exact hE2 | refine Ext.alloc ?_ _ | refine Ext.set ?_ (by omega) _
            · first | omega | (simp only [VAL]; omega)
            · simp (disch := omega) only [VAL]
        · simp (disch := omega) only [↓CTL, ↓DRW, VAL, DRV, ROW, Nat.reduceBEq, Nat.reduceAdd, m22_1, hv.S, h7, g0']
          refine ⟨_, rfl, rfl, ?_, hQ _ _ _ _⟩
          repeat first | exact hE3 | refine Ext.alloc ?_ _ | refine Ext.set ?_ (by omega) _
end Go.Proofs.YtkfahdbjndihfabGreat
namespace Go.Proofs.YtkfahdbjndihfabGreat
open Go.Tc
set_option linter.unusedSimpArgs false
set_option linter.unusedVariables false
set_option maxRecDepth 20000
structure Fr where
  w : Int
  h : Int
  px : AVal
  l : List Int
  deriving Inhabited
def Fr.row (x : Fr) : List AVal := [.int .i64 x.w, .int .i64 x.h, x.px]
theorem Fr.row_eq {x : Fr} : x.row = [.int .i64 x.w, .int .i64 x.h, x.px] := id rfl
structure Fr.ok (x : Fr) : Prop where
  w : 1 ≤ x.w ∧ x.w ≤ 48
  h : 1 ≤ x.h ∧ x.h ≤ 48
  l : (x.l.length : Int) = x.w * x.h
theorem s74 {σ : AHeap} {v : AVal} {fs : List Fr} (hv : EV σ 3 Fr.row v fs) (hf : ∀ f ∈ fs, EV σ 1 rU f.px f.l) (hl : fs.length ≤ 1048576) {Q : AOut → AHeap → Prop}
    (hQ : ∀ e : Int, (e = 0 → 1 ≤ fs.length ∧ fs.length ≤ 24 ∧ ∀ k, k < fs.length → (fs.getD k default).ok ∧ (fs.getD k default).w = (fs.getD 0 default).w ∧ (fs.getD k default).h = (fs.getD 0 default).h) → Q (.ret (.int .i64 e)) σ) :
    RunV Tryz.prog (.func (.func 74) [] []) [v] σ Q := by
  refine RunV.drop (RunV.func mixed k74 (by simp) ?_)
  have hlen := hv.len
  simp (disch := omega) only [c74, ↓CTL, ↓DRW, VAL, DRV, Nat.reduceBEq, Nat.reduceAdd, hlen]
  refine out_spec mixed k60 _ _ _ _ ?_
  simp (disch := omega) only [↓CTL, ↓DRW, VAL, DRV, Nat.reduceBEq, Nat.reduceAdd, hlen]
  refine B_if (fun _ => ?_) (fun _ => ?_)
  · simp (disch := omega) only [↓CTL, ↓DRW, VAL, DRV, Nat.reduceBEq, Nat.reduceAdd, hlen]
    exact ⟨_, rfl, rfl, .refl _, hQ _ (by omega)⟩
  simp (disch := omega) only [↓CTL, ↓DRW, VAL, DRV, Nat.reduceBEq, Nat.reduceAdd, hlen]
  refine A_loopV (α := Nat) m74_0 (fun i => [(11, .int .i64 i)]) (fun i s => i ≤ fs.length ∧ Ext σ s ∧ ∀ k, k < i → (fs.getD k default).ok ∧ (fs.getD k default).w = (fs.getD 0 default).w ∧ (fs.getD k default).h = (fs.getD 0 default).h) (fun i => fs.length - i) rfl (fun _ => rfl) ⟨0, ?_, Nat.zero_le _, .refl _, by omega⟩ ?_
  · simp only [↓CTL, VAL, Nat.reduceBEq]; rfl
  · rintro i f s ⟨hi, hE, hR⟩
    simp (disch := omega) only [↓CTL, ↓DRW, VAL, DRV, Nat.reduceBEq, Nat.reduceAdd, m74_0]
    refine B_if (fun hlt => ?_) (fun hge => ?_)
    · have hvs := (hv s hE).S
      have hfi := hf _ (getD_mem (l := fs) (j := i) (by omega))
      have ho := hfi.one
      simp (disch := omega) only [↓CTL, ↓DRW, VAL, DRV, ROW, Nat.reduceBEq, Nat.reduceAdd, m74_0, hvs, Fr.row_eq, Int.toNat_natCast, ho]
      refine s7 (hfi _ (hE.alloc _)) fun e he => ?_
      simp (disch := omega) only [↓CTL, ↓DRW, VAL, DRV, ROW, Nat.reduceBEq, Nat.reduceAdd, m74_0, hvs, Fr.row_eq, Int.toNat_natCast, ho]
      refine B_if (fun _ => ?_) (fun he0 => ?_)
      · simp (disch := omega) only [↓CTL, ↓DRW, VAL, DRV, Nat.reduceBEq, Nat.reduceAdd, hlen]
        exact ⟨_, rfl, rfl, hE.alloc _, hQ _ (by omega)⟩
      have hva := (hv _ (hE.alloc (.cells 3 [[.int .i64 (fs.getD i default).w, .int .i64 (fs.getD i default).h, (fs.getD i default).px]]))).S
      simp (disch := omega) only [↓CTL, ↓DRW, VAL, DRV, ROW, Nat.reduceBEq, Nat.reduceAdd, m74_0, hva, Fr.row_eq, Int.toNat_natCast, Int.toNat_zero, ho]
      refine dr_go [] [] ?_ ?_; · decide
      simp (disch := omega) only [↓CTL, ↓DRW, VAL, DRV, ROW, Nat.reduceBEq, Nat.reduceAdd, m74_0, hva, Fr.row_eq, Int.toNat_natCast, Int.toNat_zero, ho]
      have fin : ∀ e : Int, e ≠ 0 → Q (.ret (.int .i64 e)) σ := fun e h => hQ e (by omega)
      repeat' first
        | refine G_false (fun _ => ?_) (fun _ => ?_)
        | refine B_if (fun _ => ?_) (fun _ => ?_)
        | exact ⟨_, rfl, rfl, hE.alloc _, fin _ (by omega)⟩
        | simp (disch := omega) only [↓CTL, ↓DRW, VAL, DRV, ROW, Nat.reduceBEq, Nat.reduceAdd, m74_0, hva, Fr.row_eq, Int.toNat_natCast, Int.toNat_zero, ho]
      refine ⟨i + 1, rfl, ⟨by omega, hE.alloc _, fun k hk => ?_⟩, by omega⟩
      by_cases hki : k = i
      · subst hki
        obtain ⟨h1, h2, h3, h4, h5⟩ := he (by omega)
        exact ⟨⟨⟨h1, h2⟩, ⟨h3, h4⟩, h5⟩, by omega, by omega⟩
      · exact hR k (by omega)
    · simp (disch := omega) only [↓CTL, ↓DRW, VAL, DRV, ROW, Nat.reduceBEq, Nat.reduceAdd, m74_0]
      exact ⟨_, rfl, rfl, hE, hQ _ fun _ => ⟨by omega, by omega, fun k hk => hR k (by omega)⟩⟩
theorem s68 {σ : AHeap} {w h a b c d : Int} {px : AVal} (hp : px.one = true) (hw : 0 ≤ w ∧ w ≤ 48) (hh : 0 ≤ h ∧ h ≤ 48) {Q : AOut → AHeap → Prop}
    (hQ : ∀ z : Bool, (z = false → (a ≤ b ∧ c ≤ d) ∧ 0 ≤ a ∧ b ≤ w - 1 ∧ 0 ≤ c ∧ d ≤ h - 1) → Q (.ret (.bool z)) σ) :
    RunV Tryz.prog (.func (.func 68) [] []) [.agg [.int .i64 w, .int .i64 h, px], .agg [.int .i64 a, .int .i64 b, .int .i64 c, .int .i64 d]] σ Q := by
  refine RunV.drop (RunV.func mixed k68 (by simp) ?_)
  simp (disch := omega) only [c68, ↓CTL, ↓DRW, VAL, DRV, ROW, Nat.reduceBEq, Nat.reduceAdd, hp]
  repeat' first
    | exact ⟨_, rfl, rfl, ((Ext.refl _).alloc _).alloc _, hQ _ fun hz => by
        first
          | exact absurd hz (by decide)
          | (simp only [decide_eq_false_iff_not, Decidable.not_not] at hz; omega)⟩
    | refine s64 hp _ _ (by omega) (by omega) ?_
    | refine G_false (fun _ => ?_) (fun _ => ?_)
    | simp (disch := omega) only [↓CTL, ↓DRW, VAL, DRV, ROW, Nat.reduceBEq, Nat.reduceAdd, hp]
end Go.Proofs.YtkfahdbjndihfabGreat
namespace Go.Proofs.YtkfahdbjndihfabGreat
open Go.Tc
set_option linter.unusedSimpArgs false
set_option linter.unusedVariables false
set_option maxRecDepth 20000
theorem s109 {σ : AHeap} {x y : Int} {Q : AOut → AHeap → Prop} (hQ : ∀ n : Int, Q (.ret (.int .i64 n)) σ) : RunV Tryz.prog (.func (.func 109) [] []) [.int .i64 x, .int .i64 y] σ Q := by
  refine RunV.func mixed k109 (by simp) ?_
  simp (disch := omega) only [c109, ↓CTL, ↓DRW, VAL, DRV, ROW, Nat.reduceBEq, Nat.reduceAdd]
  exact hQ _
theorem s108 {σ : AHeap} {a b n y : Int} {N1 N2 : Nat} (h1 : σ.objs N1 = some (.cells 2 [[.int .i64 a, .int .i64 b]])) (h2 : σ.objs N2 = some (.cells 1 [[.int .i64 n]])) :
    RunV Tryz.prog (.func (.func 108) [] [.ptr N1 0 0, .ptr N2 0 0]) [.int .i64 y] σ (fun o s => ∃ b, o = .ret (.bool b) ∧ s = σ) := by
  refine RunV.func mixed k108 (by simp) ?_
  simp (disch := omega) only [c108, ↓CTL, ↓DRW, VAL, DRV, ROW, Nat.reduceBEq, Nat.reduceAdd]
  refine dr_go [4] [] ?_ ?_; · decide
  simp (disch := omega) only [↓CTL, ↓DRW, VAL, DRV, ROW, Nat.reduceBEq, Nat.reduceAdd, h1, h2]
  refine s109 fun m => ?_
  simp (disch := omega) only [↓CTL, ↓DRW, VAL, DRV, ROW, Nat.reduceBEq, Nat.reduceAdd, h1, h2]
  exact ⟨_, rfl⟩
theorem s110 {σ : AHeap} {a b n y : Int} {N1 N2 : Nat} (h1 : σ.objs N1 = some (.cells 2 [[.int .i64 a, .int .i64 b]])) (h2 : σ.objs N2 = some (.cells 1 [[.int .i64 n]])) :
    RunV Tryz.prog (.func (.func 110) [] [.ptr N1 0 0, .ptr N2 0 0]) [.int .i64 y] σ (fun o s => ∃ b, o = .ret (.bool b) ∧ s = σ) := by
  refine RunV.func mixed k110 (by simp) ?_
  simp (disch := omega) only [c110, ↓CTL, ↓DRW, VAL, DRV, ROW, Nat.reduceBEq, Nat.reduceAdd]
  refine dr_go [4] [] ?_ ?_; · decide
  simp (disch := omega) only [↓CTL, ↓DRW, VAL, DRV, ROW, Nat.reduceBEq, Nat.reduceAdd, h1, h2]
  refine s109 fun m => ?_
  simp (disch := omega) only [↓CTL, ↓DRW, VAL, DRV, ROW, Nat.reduceBEq, Nat.reduceAdd, h1, h2]
  exact ⟨_, rfl⟩
theorem s107 {σ : AHeap} {n : Int} {fn : AVal} (hn : 0 ≤ n ∧ n ≤ 1000000) (hf : ∀ y : Int, RunV Tryz.prog fn [.int .i64 y] σ (fun o s => ∃ b, o = .ret (.bool b) ∧ s = σ)) {Q : AOut → AHeap → Prop} (hQ : ∀ m : Int, 0 ≤ m → m ≤ n → Q (.ret (.int .i64 m)) σ) :
    RunV Tryz.prog (.func (.func 107) [] []) [.int .i64 n, fn] σ Q := by
  refine RunV.func mixed k107 (by simp) ?_
  simp (disch := omega) only [c107, ↓CTL, ↓DRW, VAL, DRV, ROW, Nat.reduceBEq, Nat.reduceAdd]
  refine A_loopV (α := Int × Int) m107_0 (fun x => [(5, .int .i64 x.1), (6, .int .i64 x.2)]) (fun x s => 0 ≤ x.1 ∧ x.1 ≤ x.2 ∧ x.2 ≤ n ∧ s = σ) (fun x => (x.2 - x.1).toNat) rfl (fun _ => rfl) ⟨(0, n), ?_, Int.le_refl _, hn.1, Int.le_refl _, rfl⟩ ?_
  · simp only [↓CTL, VAL, Nat.reduceBEq]
  · rintro ⟨i, j⟩ f s ⟨h0, h1, h2, rfl⟩
    dsimp only at h0 h1 h2 ⊢
    simp (disch := omega) only [↓CTL, ↓DRW, VAL, DRV, Nat.reduceBEq, Nat.reduceAdd, m107_0]
    refine B_if (fun hlt => ?_) (fun hge => ?_)
    · simp (disch := omega) only [↓CTL, ↓DRW, VAL, DRV, Nat.reduceBEq, Nat.reduceAdd, m107_0]
      rw [mid_eq (by omega) (by omega)]
      have hm1 : i ≤ (i + j) / 2 := by omega
      have hm2 : (i + j) / 2 < j := by omega
      generalize (i + j) / 2 = m at hm1 hm2
      refine (hf m).mono fun o s' hs => ?_
      obtain ⟨b, rfl, rfl⟩ := hs
      simp (disch := omega) only [↓CTL, ↓DRW, VAL, DRV, Nat.reduceBEq, Nat.reduceAdd, m107_0]
      refine B_ifb (fun _ => ?_) (fun _ => ?_)
      · simp (disch := omega) only [↓CTL, ↓DRW, VAL, DRV, Nat.reduceBEq, Nat.reduceAdd, m107_0]
        exact ⟨(m + 1, j), ⟨rfl, rfl⟩, by dsimp only; omega, by dsimp only; omega⟩
      · simp (disch := omega) only [↓CTL, ↓DRW, VAL, DRV, Nat.reduceBEq, Nat.reduceAdd, m107_0]
        exact ⟨(i, m), ⟨rfl, rfl⟩, by dsimp only; omega, by dsimp only; omega⟩
    · simp (disch := omega) only [↓CTL, ↓DRW, VAL, DRV, Nat.reduceBEq, Nat.reduceAdd, m107_0]
      exact hQ _ (by omega) (by omega)
theorem s75 {σ : AHeap} {x y : Int} (hx : 0 ≤ x ∧ x ≤ 255) {Q : AOut → AHeap → Prop} (hQ : ∀ a b : Int, Q (.ret (.agg [.int .i64 a, .int .i64 b])) σ) : RunV Tryz.prog (.func (.func 75) [] []) [.int .i64 x, .int .i64 y] σ Q := by
  refine RunV.drop (RunV.func mixed k75 (by simp) ?_)
  simp (disch := omega) only [c75, ↓CTL, ↓DRW, VAL, DRV, ROW, Nat.reduceBEq, Nat.reduceAdd]
  refine s73 (by omega) hx fun a b => ?_
  simp (disch := omega) only [↓CTL, ↓DRW, VAL, DRV, ROW, Nat.reduceBEq, Nat.reduceAdd]
  refine s107 (by omega) (fun z => s108 (a := a) (b := b) (n := y) ?_ ?_) fun lo h1 h2 => ?_
  · simp (disch := omega) only [VAL]
  · simp (disch := omega) only [VAL]
  simp (disch := omega) only [↓CTL, ↓DRW, VAL, DRV, ROW, Nat.reduceBEq, Nat.reduceAdd]
  refine s107 (by omega) (fun z => s110 (a := a) (b := b) (n := y) ?_ ?_) fun hi h3 h4 => ?_
  · simp (disch := omega) only [VAL]
  · simp (disch := omega) only [VAL]
  simp (disch := omega) only [↓CTL, ↓DRW, VAL, DRV, ROW, Nat.reduceBEq, Nat.reduceAdd]
  refine ⟨_, rfl, rfl, ?_, hQ _ _⟩
  repeat first | exact Ext.refl _ | refine Ext.alloc ?_ _ | refine Ext.set ?_ (by omega) _
end Go.Proofs.YtkfahdbjndihfabGreat
namespace Go.Proofs.YtkfahdbjndihfabGreat
open Go.Tc
set_option linter.unusedSimpArgs false
set_option linter.unusedVariables false
set_option maxRecDepth 20000
structure FlI (σ : AHeap) (a b c d w h : Int) (px u v : AVal) (L : List (Int × Int)) (W : List Int) (s : AHeap) : Prop where
  ext : Ext σ s
  nx : σ.next + 1 + 1 ≤ s.next
  h0 : s.objs σ.next = some (.cells 4 [[.int .i64 a, .int .i64 b, .int .i64 c, .int .i64 d]])
  h1 : s.objs (σ.next + 1) = some (.cells 3 [[.int .i64 w, .int .i64 h, px]])
  ou : OwnS s (σ.next + 1 + 1) 2 rP u L
  ov : OwnS s (σ.next + 1 + 1) 1 rI v W
  sep : Sep u v
theorem FlI.mono {σ s t : AHeap} {a b c d w h : Int} {px u v : AVal} {L : List (Int × Int)} {W : List Int} (H : FlI σ a b c d w h px u v L W s) (hE : Ext s t) : FlI σ a b c d w h px u v L W t :=
  ⟨H.ext.trans hE, Nat.le_trans H.nx hE.1, (hE.2 _ (by have := H.nx; omega)).trans H.h0, (hE.2 _ (by have := H.nx; omega)).trans H.h1, H.ou.ext hE, H.ov.ext hE, H.sep⟩
theorem s26 {σ : AHeap} {v : AVal} {fs : List Fr} {a b c d : Int} (hv : EV σ 3 Fr.row v fs) (hf : ∀ f ∈ fs, EV σ 1 rU f.px f.l ∧ ∀ x ∈ f.l, 0 ≤ x ∧ x ≤ 255) (hl : fs.length ≤ 1048576) :
    RunV Tryz.prog (.func (.func 26) [] []) [v, .agg [.int .i64 a, .int .i64 b, .int .i64 c, .int .i64 d]] σ (fun o s => ∃ u w e L W, o = .ret (.tup [u, w, .int .i64 e]) ∧ Ext σ s ∧ OwnS s σ.next 2 rP u L ∧ OwnS s σ.next 1 rI w W ∧ L.length ≤ 100 ∧ W.length ≤ 100) := by
  refine RunV.func mixed k26 (by simp) ?_
  simp (disch := omega) only [c26, ↓CTL, ↓DRW, VAL, DRV, ROW, Nat.reduceBEq, Nat.reduceAdd]
  refine s74 (hv.mono ((Ext.refl _).alloc _)) (fun f h => (hf f h).1.mono ((Ext.refl _).alloc _)) hl fun e he => ?_
  simp (disch := omega) only [↓CTL, ↓DRW, VAL, DRV, ROW, Nat.reduceBEq, Nat.reduceAdd]
  refine B_if (fun _ => ?_) (fun he0 => ?_)
  · simp (disch := omega) only [↓CTL, ↓DRW, VAL, DRV, ROW, Nat.reduceBEq, Nat.reduceAdd]
    exact ⟨_, _, _, [], [], rfl, (Ext.refl _).alloc _, .nil, .nil, by simp, by simp⟩
  obtain ⟨hl1, hl2, hok⟩ := he (by omega)
  have hf0 := hf _ (getD_mem (l := fs) (j := 0) (by omega))
  have hk0 := (hok 0 (by omega)).1
  have hw0 := hk0.w
  have hh0 := hk0.h
  have hva := (hv _ ((Ext.refl _).alloc (.cells 4 [[.int .i64 a, .int .i64 b, .int .i64 c, .int .i64 d]]))).S
  simp (disch := omega) only [↓CTL, ↓DRW, VAL, DRV, ROW, Nat.reduceBEq, Nat.reduceAdd, hva, Fr.row_eq, Int.toNat_zero, hf0.1.one]
  refine s68 hf0.1.one (by omega) (by omega) fun z hz => ?_
  simp (disch := omega) only [↓CTL, ↓DRW, VAL, DRV, ROW, Nat.reduceBEq, Nat.reduceAdd, hva, Fr.row_eq, Int.toNat_zero, hf0.1.one]
  refine B_ifb (fun _ => ?_) (fun hz0 => ?_)
  · simp (disch := omega) only [↓CTL, ↓DRW, VAL, DRV, ROW, Nat.reduceBEq, Nat.reduceAdd]
    refine ⟨_, _, _, [], [], rfl, ?_, .nil, .nil, by simp, by simp⟩
    repeat first | exact Ext.refl _ | refine Ext.alloc ?_ _ | refine Ext.set ?_ (by omega) _
  have hz' := hz hz0
  have hlen := hv.len
  simp (disch := omega) only [↓CTL, ↓DRW, VAL, DRV, ROW, FILL, Nat.reduceBEq, Nat.reduceAdd, hva]
  obtain ⟨gs, hg, hgl, hgf, hgk⟩ : ∃ gs, EV σ 3 Fr.row (slV 3 v 1 fs.length) gs ∧ gs.length = fs.length - 1 ∧ (∀ f ∈ gs, f ∈ fs) ∧ ∀ k, k < gs.length → gs.getD k default = fs.getD (k + 1) default := by
    refine ⟨_, hv.sub (by omega) (by omega) (Int.le_refl _), by simp, fun f h => List.mem_of_mem_drop (List.mem_of_mem_take h), fun k hk => ?_⟩
    simp only [List.length_take, List.length_drop] at hk
    simp only [List.getD_eq_getElem?_getD]
    rw [List.getElem?_take, if_pos (by omega), List.getElem?_drop, Nat.add_comm]
    rfl
  generalize slV 3 v 1 fs.length = v2 at hg
  have hlen2 := hg.len
  simp (disch := omega) only [↓CTL, ↓DRW, VAL, DRV, ROW, FILL, Nat.reduceBEq, Nat.reduceAdd, hlen2]
  generalize hf00 : fs.getD 0 default = f0 at hf0 hk0 hw0 hh0 hz' hok
  refine A_loopV (α := Nat × AVal × AVal × List (Int × Int) × List Int) m26_0 (fun x => [(32, .int .i64 x.1), (4, x.2.1), (5, x.2.2.1)]) (fun x s => x.1 ≤ gs.length ∧ x.2.2.2.1.length ≤ x.1 + 1 ∧ x.2.2.2.2.length ≤ x.1 ∧ FlI σ a b c d f0.w f0.h f0.px x.2.1 x.2.2.1 x.2.2.2.1 x.2.2.2.2 s) (fun x => gs.length - x.1) rfl (fun _ => rfl)
    ⟨(0, .ms 2 (σ.next + 1 + 1) 0 1 true, .nilS, [(1000, 1000)], []), ?_, Nat.zero_le _, by simp, by simp, ?_⟩ ?_
  · simp only [↓CTL, VAL, Nat.reduceBEq]; first | rfl | exact ⟨rfl, rfl⟩
  · constructor
    · repeat first | exact Ext.refl _ | refine Ext.alloc ?_ _ | refine Ext.set ?_ (by omega) _
    · simp only [VAL]; omega
    · simp (disch := omega) only [VAL]
    · simp (disch := omega) only [VAL]
    · exact .inr ⟨σ.next + 1 + 1, _, rfl, by omega, by simp only [VAL]; omega, by simp (disch := omega) only [VAL]; rfl⟩
    · exact .nil
    · exact Sep.nil.symm
  · rintro ⟨i, u, w, L, W⟩ f s ⟨hi, hL, hW, hI⟩
    dsimp only at hi hL hW hI ⊢
    simp (disch := omega) only [↓CTL, ↓DRW, VAL, DRV, Nat.reduceBEq, Nat.reduceAdd, m26_0]
    refine B_if (fun hlt => ?_) (fun hge => ?_)
    · have hvs := (hg s hI.ext).S
      have hfi := hf _ (hgf _ (getD_mem (l := gs) (j := i) (by omega)))
      have hki := hok (i + 1) (by omega)
      rw [← hgk i (by omega)] at hki
      generalize hgi : gs.getD i default = fi at hfi hki
      have ho := hfi.1.one
      have g0 := hI.h0
      have g1 := hI.h1
      have gn := hI.nx
      simp (disch := omega) only [↓CTL, ↓DRW, VAL, DRV, ROW, Nat.reduceBEq, Nat.reduceAdd, m26_0, hvs, Int.toNat_natCast, hgi, Fr.row_eq, ho, g0, g1]
      refine A_loopV (α := Int × Bool × Int × Int) m26_1 (fun x => [(13, .int .i64 x.1), (11, .bool x.2.1)]) (fun x t => c ≤ x.1 ∧ x.1 ≤ 100 ∧ Ext s t ∧ s.next + 1 + 1 + 1 ≤ t.next ∧ t.objs (s.next + 1) = some (.cells 3 [[.int .i64 fi.w, .int .i64 fi.h, fi.px]]) ∧ t.objs (s.next + 1 + 1) = some (.cells 2 [[.int .i64 x.2.2.1, .int .i64 x.2.2.2]])) (fun x => (100 - x.1).toNat) rfl (fun _ => rfl)
        ⟨(c, true, 1, 100000), ?_, Int.le_refl _, by dsimp only; omega, ?_, ?_, ?_, ?_⟩ ?_
      · simp only [↓CTL, VAL, Nat.reduceBEq]
      · repeat first | exact Ext.refl _ | refine Ext.alloc ?_ _ | refine Ext.set ?_ (by omega) _
      · simp only [VAL]; omega
      · simp (disch := omega) only [VAL]
      · simp (disch := omega) only [VAL]
      · rintro ⟨y, z, p, q⟩ f t ⟨hy1, hy2, hE2, hn2, k1, k2⟩
        dsimp only at hy1 hy2 k1 k2 ⊢
        have k0 := (hI.mono hE2).h0
        simp (disch := omega) only [↓CTL, ↓DRW, VAL, DRV, ROW, Nat.reduceBEq, Nat.reduceAdd, m26_1, k0]
        refine B_if (fun hlt2 => ?_) (fun hge2 => ?_)
        · simp (disch := omega) only [↓CTL, ↓DRW, VAL, DRV, ROW, Nat.reduceBEq, Nat.reduceAdd, m26_1, k0]
          refine A_loopV (α := Int × Bool × Int × Int) m26_2 (fun x => [(14, .int .i64 x.1), (11, .bool x.2.1)]) (fun x t => a ≤ x.1 ∧ x.1 ≤ 100 ∧ Ext s t ∧ s.next + 1 + 1 + 1 ≤ t.next ∧ t.objs (s.next + 1) = some (.cells 3 [[.int .i64 fi.w, .int .i64 fi.h, fi.px]]) ∧ t.objs (s.next + 1 + 1) = some (.cells 2 [[.int .i64 x.2.2.1, .int .i64 x.2.2.2]])) (fun x => (100 - x.1).toNat) rfl (fun _ => rfl)
            ⟨(a, z, p, q), ?_, Int.le_refl _, by dsimp only; omega, hE2, hn2, k1, k2⟩ ?_
          · simp only [↓CTL, VAL, Nat.reduceBEq]; try exact ⟨rfl, rfl⟩
          · rintro ⟨x, z, p, q⟩ f t ⟨hx1, hx2, hE2, hn2, k1, k2⟩
            dsimp only at hx1 hx2 k1 k2 ⊢
            have hIt := hI.mono hE2
            have k0 := hIt.h0
            have kb := hIt.h1
            have hof0 := hf0.1.one
            simp (disch := omega) only [↓CTL, ↓DRW, VAL, DRV, ROW, Nat.reduceBEq, Nat.reduceAdd, m26_2, k0]
            refine G_true (fun hlt3 => ?_) (fun hge3 => ?_)
            · simp (disch := omega) only [↓CTL, ↓DRW, VAL, DRV, ROW, Nat.reduceBEq, Nat.reduceAdd, m26_2, k0]
              refine B_ifb (fun hz1 => ?_) (fun hz2 => ?_)
              · simp (disch := omega) only [↓CTL, ↓DRW, VAL, DRV, ROW, Nat.reduceBEq, Nat.reduceAdd, m26_2, k0]
                refine dr_go [4, 8, 9, 10] [] ?_ ?_; · decide
                simp (disch := omega) only [↓CTL, ↓DRW, VAL, DRV, ROW, Nat.reduceBEq, Nat.reduceAdd, m26_2, k0, kb, k1, k2, ho, hof0]
                have b0 := hf0.2 _ (getD_mem (l := f0.l) (j := (y * f0.w + x).toNat) (by have := place (n := f0.l.length) (w := f0.w) (h := f0.h) (x := x) (y := y) (by omega) (by omega) hk0.l (by omega) (by omega); omega))
                refine s65 (fun s' hs' => hf0.1 s' ((hIt.ext).trans hs')) _ _ (by omega) (by omega) hk0.l (by omega) (by omega) ?_
                simp (disch := omega) only [↓CTL, ↓DRW, VAL, DRV, ROW, Nat.reduceBEq, Nat.reduceAdd, m26_2, k0, kb, k1, k2, ho, hof0]
                refine s65 (fun s' hs' => hfi.1 s' ((hIt.ext).trans hs')) _ _ (by omega) (by omega) hki.1.l (by omega) (by omega) ?_
                simp (disch := omega) only [↓CTL, ↓DRW, VAL, DRV, ROW, Nat.reduceBEq, Nat.reduceAdd, m26_2, k0, kb, k1, k2, ho, hof0]
                refine s75 (by omega) fun c1 d1 => ?_
                simp (disch := omega) only [↓CTL, ↓DRW, VAL, DRV, ROW, Nat.reduceBEq, Nat.reduceAdd, m26_2, k0, kb, k1, k2, ho, hof0]
                refine s72 fun x1 y1 z1 => ?_
                simp (disch := omega) only [↓CTL, ↓DRW, VAL, DRV, ROW, Nat.reduceBEq, Nat.reduceAdd, m26_2, k0, kb, k1, k2, ho, hof0]
                exact ⟨(x + 1, z1, x1, y1), ⟨rfl, rfl⟩, ⟨by dsimp only; omega, by dsimp only; omega, hE2.set (by omega) _, hn2, rfl⟩, by dsimp only; omega⟩
              · simp (disch := omega) only [↓CTL, ↓DRW, VAL, DRV, ROW, Nat.reduceBEq, Nat.reduceAdd, m26_2, k0]
                exact ⟨(y + 1, z, p, q), ⟨rfl, rfl⟩, ⟨by dsimp only; omega, by dsimp only; omega, hE2, hn2, k1, k2⟩, by dsimp only; omega⟩
            · simp (disch := omega) only [↓CTL, ↓DRW, VAL, DRV, ROW, Nat.reduceBEq, Nat.reduceAdd, m26_2, k0]
              exact ⟨(y + 1, z, p, q), ⟨rfl, rfl⟩, ⟨by dsimp only; omega, by dsimp only; omega, hE2, hn2, k1, k2⟩, by dsimp only; omega⟩
        · simp (disch := omega) only [↓CTL, ↓DRW, VAL, DRV, ROW, Nat.reduceBEq, Nat.reduceAdd, m26_1, k0]
          have hI2 := hI.mono hE2
          have e2 := hE2.1
          have fin : ∀ (t' : AHeap) (w' : AVal) (W' : List Int) (p' q' : Int), t.next ≤ t'.next → W'.length ≤ i + 1 → FlI σ a b c d f0.w f0.h f0.px u w' L W' t' → ∃ u' t3, appA (t'.alloc (.cells 2 [[.int .i64 p', .int .i64 q']])) 2 16 u (.ms 2 t'.next 0 1 true) = some (u', t3) ∧ FlI σ a b c d f0.w f0.h f0.px u' w' (L ++ [(p', q')]) W' t3 := by
            intro t' w' W' p' q' hn' hW' hI'
            obtain ⟨u', t3, ha, j1, j2, j3, j4⟩ := hI'.ou.lit (x := (p', q')) (row := [.int .i64 p', .int .i64 q']) (bytes := 16) (ex := true) rfl (by omega) (sumLen_ok (by omega) (by omega))
            obtain ⟨j5, j6⟩ := hI'.ou.other hI'.ov hI'.sep j2 j3 j4
            have hx := hI'.nx
            exact ⟨u', t3, ha, hI'.ou.appE (by omega) hI'.ext j2 j3, by omega, (j3 _ (by omega) (hI'.ou.off_old (by omega))).trans hI'.h0, (j3 _ (by omega) (hI'.ou.off_old (by omega))).trans hI'.h1, j1, j5, j6⟩
          refine B_ifb (fun hz1 => ?_) (fun hz2 => ?_)
          · obtain ⟨w', t', ha, j1, j2, j3, j4⟩ := hI2.ov.lit (x := (i : Int) + 1) (row := [.int .i64 ((i : Int) + 1)]) (bytes := 8) (ex := true) rfl (by omega) (sumLen_ok (by omega) (by omega))
            obtain ⟨j5, j6⟩ := hI2.ov.other hI2.ou hI2.sep.symm j2 j3 j4
            have q2 := (j3 (s.next + 1 + 1) (by omega) (hI.ov.off_new (by omega))).trans k2
            have hI3 : FlI σ a b c d f0.w f0.h f0.px u w' L (W ++ [(i : Int) + 1]) (t'.set (s.next + 1 + 1) (.cells 2 [[.int .i64 0, .int .i64 0]])) := by
              refine ⟨(hI2.ov.appE (by omega) hI2.ext j2 j3).set (by omega) _, by simp only [VAL]; omega, ?_, ?_, j5.set (hI.ou.off_new (by omega)) _, j1.set (j4 _ (by omega) (hI.ov.off_new (by omega))) _, j6.symm⟩
              · rw [objs_else (by omega)]
                exact (j3 _ (by omega) (hI2.ov.off_old (by omega))).trans hI2.h0
              · rw [objs_else (by omega)]
                exact (j3 _ (by omega) (hI2.ov.off_old (by omega))).trans hI2.h1
            obtain ⟨u', t3, hb, hI4⟩ := fin _ _ _ 0 0 (by simp only [VAL]; omega) (by simp; omega) hI3
            simp only [AHeap.next_set] at hb
            simp (disch := omega) only [↓CTL, ↓DRW, VAL, DRV, FILL, Nat.reduceBEq, Nat.reduceAdd, m26_0, ha, q2, hb]
            exact ⟨(i + 1, u', w', L ++ [(0, 0)], W ++ [(i : Int) + 1]), ⟨rfl, rfl, rfl⟩, ⟨by dsimp only; omega, by simp; omega, by simp; omega, hI4⟩, by dsimp only; omega⟩
          · obtain ⟨u', t3, hb, hI4⟩ := fin t w W p q (Nat.le_refl _) (by omega) hI2
            simp (disch := omega) only [↓CTL, ↓DRW, VAL, DRV, FILL, Nat.reduceBEq, Nat.reduceAdd, m26_0, k2, hb]
            exact ⟨(i + 1, u', w, L ++ [(p, q)], W), ⟨rfl, rfl, rfl⟩, ⟨by dsimp only; omega, by simp; omega, by dsimp only; omega, hI4⟩, by dsimp only; omega⟩
    · simp (disch := omega) only [↓CTL, ↓DRW, VAL, DRV, ROW, Nat.reduceBEq, Nat.reduceAdd, m26_0]
      exact ⟨_, _, _, L, W, rfl, hI.ext, hI.ou.weak (by omega), hI.ov.weak (by omega), by omega, by omega⟩
end Go.Proofs.YtkfahdbjndihfabGreat
namespace Go.Proofs.YtkfahdbjndihfabGreat
open Go.Tc
set_option linter.unusedSimpArgs false
set_option linter.unusedVariables false
set_option maxRecDepth 20000
theorem orI_spec {f : FuncId} (hk : compFunc Tryz.prog f = some (18, c67, [.t 2])) {σ : AHeap} {v : AVal} {l : List Int} (hv : TV σ 1 rI v l) (hl : l.length ≤ 4611686018427387904) {Q : AOut → AHeap → Prop} (hQ : ∀ r : Int, (r = 0 → ∀ x ∈ l, x = 0) → Q (.ret (.int .i64 r)) σ) :
    RunV Tryz.prog (.func (.func f) [] []) [v] σ Q := by
  refine RunV.func mixed hk (by simp) ?_
  simp (disch := omega) only [c67, ↓CTL, ↓DRW, VAL, DRV, Nat.reduceBEq, Nat.reduceAdd, hv.S]
  refine A_loopV (α := Nat) m67_0 (fun i => [(8, .int .i64 i)]) (fun i s => i ≤ l.length ∧ (∀ k, k < i → l.getD k default = 0) ∧ s = σ) (fun i => l.length - i) rfl (fun _ => rfl) ⟨0, ?_, Nat.zero_le _, by omega, rfl⟩ ?_
  · simp only [↓CTL, VAL, Nat.reduceBEq]; try rfl
  · rintro i f s ⟨hi, hz, rfl⟩
    simp (disch := omega) only [↓CTL, ↓DRW, VAL, DRV, Nat.reduceBEq, Nat.reduceAdd, m67_0, hv.S]
    refine B_if (fun hlt => ?_) (fun hge => ?_)
    · simp (disch := omega) only [↓CTL, ↓DRW, VAL, DRV, Nat.reduceBEq, Nat.reduceAdd, m67_0, hv.S, rI_eq, Int.toNat_natCast]
      refine B_if (fun hne => ?_) (fun heq => ?_)
      · simp (disch := omega) only [↓CTL, ↓DRW, VAL, DRV, Nat.reduceBEq, Nat.reduceAdd, m67_0, hv.S, rI_eq, Int.toNat_natCast]
        exact hQ _ fun h => absurd h hne
      · simp (disch := omega) only [↓CTL, ↓DRW, VAL, DRV, Nat.reduceBEq, Nat.reduceAdd, m67_0, hv.S, rI_eq, Int.toNat_natCast]
        refine ⟨i + 1, rfl, ⟨by omega, fun k hk => ?_⟩, by omega⟩
        by_cases hki : k = i
        · subst hki; omega
        · exact hz k (by omega)
    · simp (disch := omega) only [↓CTL, ↓DRW, VAL, DRV, Nat.reduceBEq, Nat.reduceAdd, m67_0, hv.S]
      refine hQ _ fun _ x hx => ?_
      obtain ⟨k, hk, rfl⟩ := List.getElem_of_mem hx
      have := hz k (by omega)
      simpa [List.getD_eq_getElem?_getD, hk] using this
theorem s106 {σ : AHeap} {v : AVal} {l : List Int} (hv : TV σ 1 rI v l) (hl : l.length ≤ 4611686018427387904) {Q : AOut → AHeap → Prop} (hQ : ∀ r : Int, Q (.ret (.int .i64 r)) σ) :
    RunV Tryz.prog (.func (.func 106) [] []) [v] σ Q := by
  refine RunV.func mixed k106 (by simp) ?_
  simp (disch := omega) only [c106, ↓CTL, ↓DRW, VAL, DRV, Nat.reduceBEq, Nat.reduceAdd]
  refine orI_spec k117 hv hl fun r _ => ?_
  simp (disch := omega) only [↓CTL, ↓DRW, VAL, DRV, Nat.reduceBEq, Nat.reduceAdd]
  exact hQ _
theorem s71 {σ : AHeap} {a b c d e f : Int} {Q : AOut → AHeap → Prop} (hQ : ∀ r : Int, Q (.ret (.int .i64 r)) σ) :
    RunV Tryz.prog (.func (.func 71) [] []) [.agg [.int .i64 a, .int .i64 b, .int .i64 c], .agg [.int .i64 d, .int .i64 e, .int .i64 f]] σ Q := by
  refine RunV.drop (RunV.func mixed k71 (by simp) ?_)
  simp (disch := omega) only [c71, ↓CTL, ↓DRW, VAL, DRV, Nat.reduceBEq, Nat.reduceAdd]
  refine dr_go [7, 10, 14, 18, 31] [] ?_ ?_; · decide
  simp (disch := omega) only [↓CTL, ↓DRW, VAL, DRV, Nat.reduceBEq, Nat.reduceAdd]
  refine s69 _ fun x1 _ => ?_
  simp (disch := omega) only [↓CTL, ↓DRW, VAL, DRV, Nat.reduceBEq, Nat.reduceAdd]
  refine s69 _ fun x2 _ => ?_
  simp (disch := omega) only [↓CTL, ↓DRW, VAL, DRV, Nat.reduceBEq, Nat.reduceAdd]
  refine s69 _ fun x3 _ => ?_
  simp (disch := omega) only [↓CTL, ↓DRW, VAL, DRV, Nat.reduceBEq, Nat.reduceAdd]
  refine s69 _ fun x4 _ => ?_
  simp (disch := omega) only [↓CTL, ↓DRW, VAL, DRV, FILL, Nat.reduceBEq, Nat.reduceAdd]
  refine s106 (l := [_, _, _, _]) (.ms (l0 := [_, _, _, _]) (i := 0) (by simp (disch := omega) only [VAL]; rfl) (by simp) rfl) (by simp) fun r => ?_
  simp (disch := omega) only [↓CTL, ↓DRW, VAL, DRV, Nat.reduceBEq, Nat.reduceAdd]
  refine ⟨_, rfl, rfl, ?_, hQ _⟩
  repeat first | exact Ext.refl _ | refine Ext.alloc ?_ _ | refine Ext.set ?_ (by omega) _
structure Shift where
  x : Int
  y : Int
  sum : Int
  deriving Inhabited
def Shift.row (z : Shift) : List AVal := [.int .i64 z.x, .int .i64 z.y, .int .i64 z.sum]
theorem Shift.row_eq {z : Shift} : z.row = [.int .i64 z.x, .int .i64 z.y, .int .i64 z.sum] := id rfl
theorem s70 {σ : AHeap} {v fn : AVal} {l : List Shift} (hv : EV σ 3 Shift.row v l) (h1 : 1 ≤ l.length) (hl : l.length ≤ 1000000)
    (hf : ∀ s (x y : Shift), RunV Tryz.prog fn [.agg x.row, .agg y.row] s (fun o s' => ∃ r, o = .ret (.int .i64 r) ∧ s' = s)) {Q : AOut → AHeap → Prop} (hQ : ∀ x : Shift, Q (.ret (.agg [.int .i64 x.x, .int .i64 x.y, .int .i64 x.sum])) σ) :
    RunV Tryz.prog (.func (.func 70) [] []) [v, fn] σ Q := by
  refine RunV.drop (RunV.func mixed k70 (by simp) ?_)
  have hS := (hv _ ((Ext.refl _).alloc (.cells 3 [[.int .i64 0, .int .i64 0, .int .i64 0]]))).S
  simp (disch := omega) only [c70, ↓CTL, ↓DRW, VAL, DRV, Nat.reduceBEq, Nat.reduceAdd, hS, Shift.row_eq]
  refine A_loopV (α := Nat × Shift) m70_0 (fun x => [(6, .int .i64 x.1)]) (fun x s => 1 ≤ x.1 ∧ x.1 ≤ l.length ∧ Ext σ s ∧ σ.next + 1 + 1 ≤ s.next ∧ s.objs σ.next = some (.cells 3 [[.int .i64 0, .int .i64 0, .int .i64 0]]) ∧ s.objs (σ.next + 1) = some (.cells 3 [[.int .i64 x.2.x, .int .i64 x.2.y, .int .i64 x.2.sum]])) (fun x => l.length - x.1) rfl (fun _ => rfl)
    ⟨(1, l.getD (Int.toNat 0) default), ?_, Nat.le_refl _, h1, ?_, ?_, ?_, ?_⟩ ?_
  · simp only [↓CTL, VAL, Nat.reduceBEq]; try rfl
  · repeat first | exact Ext.refl _ | refine Ext.alloc ?_ _ | refine Ext.set ?_ (by omega) _
  · simp only [VAL]; omega
  · simp (disch := omega) only [VAL]
  · simp (disch := omega) only [VAL]
  · rintro ⟨i, x⟩ f s ⟨hi1, hi, hE, hn, g0, g1⟩
    dsimp only at hi1 hi g0 g1 ⊢
    have hS := (hv s hE).S
    have hlen := hv.len
    simp (disch := omega) only [↓CTL, ↓DRW, VAL, DRV, Nat.reduceBEq, Nat.reduceAdd, m70_0, hlen]
    refine B_if (fun hlt => ?_) (fun hge => ?_)
    · simp (disch := omega) only [↓CTL, ↓DRW, VAL, DRV, Nat.reduceBEq, Nat.reduceAdd, m70_0, hS]
      refine dr_go [6] [] ?_ ?_; · decide
      simp (disch := omega) only [↓CTL, ↓DRW, VAL, DRV, ROW, Nat.reduceBEq, Nat.reduceAdd, m70_0, hS, Shift.row_eq, g1, Int.toNat_natCast]
      refine (hf s (l.getD i default) x).mono fun o s' hs => ?_
      obtain ⟨r, rfl, rfl⟩ := hs
      simp (disch := omega) only [↓CTL, ↓DRW, VAL, DRV, ROW, Nat.reduceBEq, Nat.reduceAdd, m70_0, hS, Shift.row_eq, g1, Int.toNat_natCast]
      refine B_if (fun _ => ?_) (fun _ => ?_)
      · simp (disch := omega) only [↓CTL, ↓DRW, VAL, DRV, ROW, Nat.reduceBEq, Nat.reduceAdd, m70_0, hS, Shift.row_eq, g0, g1, Int.toNat_natCast]
        exact ⟨(i + 1, l.getD i default), rfl, ⟨by dsimp only; omega, by dsimp only; omega, hE.set (by omega) _, hn, rfl⟩, by dsimp only; omega⟩
      · simp (disch := omega) only [↓CTL, ↓DRW, VAL, DRV, ROW, Nat.reduceBEq, Nat.reduceAdd, m70_0, hS, Shift.row_eq, g1, Int.toNat_natCast]
        exact ⟨(i + 1, x), rfl, ⟨by dsimp only; omega, by dsimp only; omega, hE, hn, g0, rfl⟩, by dsimp only; omega⟩
    · simp (disch := omega) only [↓CTL, ↓DRW, VAL, DRV, ROW, Nat.reduceBEq, Nat.reduceAdd, m70_0, g0, g1]
      exact ⟨_, rfl, rfl, hE.set (by omega) _, hQ x⟩
end Go.Proofs.YtkfahdbjndihfabGreat
namespace Go.Proofs.YtkfahdbjndihfabGreat
open Go.Tc
set_option linter.unusedSimpArgs false
set_option linter.unusedVariables false
set_option maxRecDepth 20000
set_option maxHeartbeats 4000000
structure StI (σ : AHeap) (w h w2 h2 a b c d : Int) (px px2 u : AVal) (L : List Shift) (s : AHeap) : Prop where
  ext : Ext σ s
  nx : σ.next + 1 + 1 + 1 + 1 + 1 + 1 ≤ s.next
  h6 : s.objs (σ.next + 1 + 1) = some (.cells 4 [[.int .i64 a, .int .i64 b, .int .i64 c, .int .i64 d]])
  h8 : s.objs (σ.next + 1 + 1 + 1) = some (.cells 3 [[.int .i64 0, .int .i64 0, .int .i64 0]])
  h10 : s.objs (σ.next + 1 + 1 + 1 + 1) = some (.cells 3 [[.int .i64 w, .int .i64 h, px]])
  h11 : s.objs (σ.next + 1 + 1 + 1 + 1 + 1) = some (.cells 3 [[.int .i64 w2, .int .i64 h2, px2]])
  own : OwnS s (σ.next + 1 + 1 + 1 + 1 + 1 + 1) 3 Shift.row u L
theorem StI.mono {σ s t : AHeap} {w h w2 h2 a b c d : Int} {px px2 u : AVal} {L : List Shift} (H : StI σ w h w2 h2 a b c d px px2 u L s) (hE : Ext s t) : StI σ w h w2 h2 a b c d px px2 u L t :=
  ⟨H.ext.trans hE, Nat.le_trans H.nx hE.1, (hE.2 _ (by have := H.nx; omega)).trans H.h6, (hE.2 _ (by have := H.nx; omega)).trans H.h8, (hE.2 _ (by have := H.nx; omega)).trans H.h10, (hE.2 _ (by have := H.nx; omega)).trans H.h11, H.own.ext hE⟩
theorem StI.app {σ s : AHeap} {w h w2 h2 a b c d : Int} {px px2 u : AVal} {L : List Shift} (H : StI σ w h w2 h2 a b c d px px2 u L s) (hL : L.length ≤ 100000) (x y z : Int) :
    ∃ u' t, appA (s.alloc (.cells 3 [[.int .i64 x, .int .i64 y, .int .i64 z]])) 3 24 u (.ms 3 s.next 0 1 true) = some (u', t) ∧ StI σ w h w2 h2 a b c d px px2 u' (L ++ [⟨x, y, z⟩]) t := by
  have hn := H.nx
  obtain ⟨u', t, ha, j1, j2, j3, j4⟩ := H.own.lit (x := ⟨x, y, z⟩) (row := [.int .i64 x, .int .i64 y, .int .i64 z]) (bytes := 24) (ex := true) rfl (by omega) (sumLen_ok (by omega) (by omega))
  have k := fun M (hM : M < σ.next + 1 + 1 + 1 + 1 + 1 + 1) => j3 M (by omega) (H.own.off_old hM)
  exact ⟨u', t, ha, H.own.appE (by omega) H.ext j2 j3, by omega, (k _ (by omega)).trans H.h6, (k _ (by omega)).trans H.h8, (k _ (by omega)).trans H.h10, (k _ (by omega)).trans H.h11, j1⟩
theorem s19 {σ : AHeap} {w h w2 h2 a b c d reach : Int} {px px2 : AVal} {l l2 : List Int} (hp : RV 1 rU px l) (hp2 : RV 1 rU px2 l2) (hl : l.length ≤ 1048576) (hl2 : l2.length ≤ 1048576) {Q : AOut → AHeap → Prop}
    (hQ : ∀ x y z e, Q (.ret (.tup [.agg [.int .i64 x, .int .i64 y, .int .i64 z], .int .i64 e])) σ) :
    RunV Tryz.prog (.func (.func 19) [] []) [.agg [.int .i64 w, .int .i64 h, px], .agg [.int .i64 w2, .int .i64 h2, px2], .agg [.int .i64 a, .int .i64 b, .int .i64 c, .int .i64 d], .int .i64 reach] σ Q := by
  refine RunV.drop (RunV.func mixed k19 (by simp) ?_)
  have ho := (hp σ).one
  have ho2 := (hp2 σ).one
  simp (disch := omega) only [c19, ↓CTL, ↓DRW, VAL, DRV, Nat.reduceBEq, Nat.reduceAdd, ho, ho2]
  refine dg_go [] [2] ?_ ?_; · decide
  dsimp only [ghL, ghH, isGh, bares, AVal.bare, cond]
  simp (disch := omega) only [↓CTL, ↓DRW, VAL, DRV, Nat.reduceBEq, Nat.reduceAdd, ho, ho2]
  refine dr_go [1, 3, 5] [] ?_ ?_; · decide
  simp (disch := omega) only [↓CTL, ↓DRW, VAL, DRV, Nat.reduceBEq, Nat.reduceAdd, ho, ho2]
  refine s7 (hp _) fun e1 he1 => ?_
  simp (disch := omega) only [↓CTL, ↓DRW, VAL, DRV, Nat.reduceBEq, Nat.reduceAdd, ho, ho2]
  refine s7 (hp2 _) fun e2 he2 => ?_
  simp (disch := omega) only [↓CTL, ↓DRW, VAL, DRV, FILL, Nat.reduceBEq, Nat.reduceAdd, ho, ho2]
  refine orI_spec k67 (l := [e1, e2]) (.ms (l0 := [e1, e2]) (i := 0) (by simp (disch := omega) only [VAL]; rfl) (by simp) rfl) (by simp) fun r hr => ?_
  simp (disch := omega) only [↓CTL, ↓DRW, VAL, DRV, FILL, Nat.reduceBEq, Nat.reduceAdd, ho, ho2]
  refine B_if (fun _ => ?_) (fun hr0 => ?_)
  · simp (disch := omega) only [↓CTL, ↓DRW, VAL, DRV, FILL, Nat.reduceBEq, Nat.reduceAdd, ho, ho2]
    refine ⟨_, rfl, rfl, ?_, hQ _ _ _ _⟩
    repeat first | exact Ext.refl _ | refine Ext.alloc ?_ _ | refine Ext.set ?_ (by omega) _
  have hz := hr (by omega)
  obtain ⟨hw1, hw2, hh1, hh2, hlen⟩ := he1 (hz e1 (by simp))
  obtain ⟨hw3, hw4, hh3, hh4, hlen2⟩ := he2 (hz e2 (by simp))
  simp (disch := omega) only [↓CTL, ↓DRW, VAL, DRV, FILL, Nat.reduceBEq, Nat.reduceAdd, ho, ho2]
  repeat' first
    | refine s68 ho (by omega) (by omega) fun z hz' => ?_
    | refine out_spec mixed k60 _ _ _ _ ?_
    | refine G_false (fun _ => ?_) (fun _ => ?_)
    | refine B_if (fun _ => ?_) (fun _ => ?_)
    | refine B_ifb (fun _ => ?_) (fun hzf => ?_)
    | (refine ⟨_, rfl, rfl, ?_, hQ _ _ _ _⟩; repeat first | exact Ext.refl _ | refine Ext.alloc ?_ _ | refine Ext.set ?_ (by omega) _)
    | simp (disch := omega) only [↓CTL, ↓DRW, VAL, DRV, FILL, Nat.reduceBEq, Nat.reduceAdd, ho, ho2]
  obtain ⟨⟨hab, hcd⟩, ha0, hbw, hc0, hdh⟩ := hz' hzf
  have hwe : w = w2 := by omega
  have hhe : h = h2 := by omega
  refine A_loopV (α := Int × AVal × List Shift) m19_0 (fun x => [(13, .int .i64 x.1), (12, x.2.1)]) (fun x s => -reach ≤ x.1 ∧ x.1 ≤ reach + 1 ∧ (0 < x.1 → 1 ≤ x.2.2.length) ∧ (x.2.2.length : Int) ≤ 30 * (x.1 + reach) ∧ StI σ w h w2 h2 a b c d px px2 x.2.1 x.2.2 s) (fun x => (100 - x.1).toNat) rfl (fun _ => rfl)
    ⟨(0 - reach, .nilS, []), ?_, by dsimp only; omega, by dsimp only; omega, by dsimp only; omega, by simp; omega, ?_⟩ ?_
  · simp only [↓CTL, VAL, Nat.reduceBEq]; try first | rfl | exact ⟨rfl, rfl⟩
  · constructor
    · repeat first | exact Ext.refl _ | refine Ext.alloc ?_ _ | refine Ext.set ?_ (by omega) _
    · simp only [VAL]; omega
    · simp (disch := omega) only [VAL]
    · simp (disch := omega) only [VAL]
    · simp (disch := omega) only [VAL]
    · simp (disch := omega) only [VAL]
    · exact .nil
  · rintro ⟨y, u, L⟩ f s ⟨hy1, hy2, hL1, hL2, hI⟩
    dsimp only at hy1 hy2 hL1 hL2 hI ⊢
    have hO := hI.own.ev
    have g8 := hI.h8
    simp (disch := omega) only [↓CTL, ↓DRW, VAL, DRV, Nat.reduceBEq, Nat.reduceAdd, m19_0]
    refine B_if (fun hlt => ?_) (fun hge => ?_)
    · simp (disch := omega) only [↓CTL, ↓DRW, VAL, DRV, Nat.reduceBEq, Nat.reduceAdd, m19_0]
      refine A_loopV (α := Int × AVal × List Shift) m19_1 (fun x => [(14, .int .i64 x.1), (12, x.2.1)]) (fun x s => -reach ≤ x.1 ∧ x.1 ≤ reach + 1 ∧ (0 < y ∨ (y = 0 ∧ 0 < x.1) → 1 ≤ x.2.2.length) ∧ (x.2.2.length : Int) ≤ 30 * (y + reach) + (x.1 + reach) ∧ StI σ w h w2 h2 a b c d px px2 x.2.1 x.2.2 s) (fun x => (100 - x.1).toNat) rfl (fun _ => rfl)
        ⟨(0 - reach, u, L), ?_, by dsimp only; omega, by dsimp only; omega, by dsimp only; omega, by dsimp only; omega, hI⟩ ?_
      · simp only [↓CTL, VAL, Nat.reduceBEq]; try first | rfl | exact ⟨rfl, rfl⟩
      · rintro ⟨x, u, L⟩ f s ⟨hx1, hx2, hL1, hL2, hI⟩
        dsimp only at hx1 hx2 hL1 hL2 hI ⊢
        simp (disch := omega) only [↓CTL, ↓DRW, VAL, DRV, Nat.reduceBEq, Nat.reduceAdd, m19_1]
        refine B_if (fun hlt2 => ?_) (fun hge2 => ?_)
        · have g6 := hI.h6
          have gn := hI.nx
          simp (disch := omega) only [↓CTL, ↓DRW, VAL, DRV, ROW, Nat.reduceBEq, Nat.reduceAdd, m19_1, g6]
          refine A_loopV (α := Int × Int) m19_2 (fun p => [(16, .int .i64 p.1)]) (fun p t => c ≤ p.1 ∧ p.1 ≤ 100 ∧ Ext s t ∧ s.next + 1 ≤ t.next ∧ t.objs s.next = some (.cells 3 [[.int .i64 x, .int .i64 y, .int .i64 p.2]])) (fun p => (100 - p.1).toNat) rfl (fun _ => rfl)
            ⟨(c, 0), ?_, Int.le_refl _, by dsimp only; omega, ?_, ?_, ?_⟩ ?_
          · simp only [↓CTL, VAL, Nat.reduceBEq]; try first | rfl | exact ⟨rfl, rfl⟩
          · repeat first | exact Ext.refl _ | refine Ext.alloc ?_ _ | refine Ext.set ?_ (by omega) _
          · simp only [VAL]; omega
          · simp (disch := omega) only [VAL]
          · rintro ⟨bb, sm⟩ f t ⟨hb1, hb2, hE2, hn2, k1⟩
            dsimp only at hb1 hb2 k1 ⊢
            have g6' := (hI.mono hE2).h6
            simp (disch := omega) only [↓CTL, ↓DRW, VAL, DRV, ROW, Nat.reduceBEq, Nat.reduceAdd, m19_2, g6']
            refine B_if (fun hlt3 => ?_) (fun hge3 => ?_)
            · simp (disch := omega) only [↓CTL, ↓DRW, VAL, DRV, ROW, Nat.reduceBEq, Nat.reduceAdd, m19_2, g6']
              refine A_loopV (α := Int × Int) m19_3 (fun p => [(17, .int .i64 p.1)]) (fun p t => a ≤ p.1 ∧ p.1 ≤ 100 ∧ Ext s t ∧ s.next + 1 ≤ t.next ∧ t.objs s.next = some (.cells 3 [[.int .i64 x, .int .i64 y, .int .i64 p.2]])) (fun p => (100 - p.1).toNat) rfl (fun _ => rfl)
                ⟨(a, sm), ?_, Int.le_refl _, by dsimp only; omega, hE2, hn2, k1⟩ ?_
              · simp only [↓CTL, VAL, Nat.reduceBEq]; try first | rfl | exact ⟨rfl, rfl⟩
              · rintro ⟨aa, sm⟩ f t ⟨ha1, ha2, hE2, hn2, k1⟩
                dsimp only at ha1 ha2 k1 ⊢
                have hIt := hI.mono hE2
                have g6' := hIt.h6
                have g10 := hIt.h10
                have g11 := hIt.h11
                simp (disch := omega) only [↓CTL, ↓DRW, VAL, DRV, ROW, Nat.reduceBEq, Nat.reduceAdd, m19_3, g6']
                refine B_if (fun hlt4 => ?_) (fun hge4 => ?_)
                · simp (disch := omega) only [↓CTL, ↓DRW, VAL, DRV, ROW, Nat.reduceBEq, Nat.reduceAdd, m19_3, g6', g10, g11, ho, ho2]
                  refine s64 ho2 _ _ (by omega) (by omega) ?_
                  simp (disch := omega) only [↓CTL, ↓DRW, VAL, DRV, ROW, Nat.reduceBEq, Nat.reduceAdd, m19_3, g6', g10, g11, ho, ho2]
                  refine B_if (fun hout => ?_) (fun hin => ?_)
                  · simp (disch := omega) only [↓CTL, ↓DRW, VAL, DRV, ROW, Nat.reduceBEq, Nat.reduceAdd, m19_3, m19_1]
                    refine ⟨(x + 1, u, L), ⟨rfl, rfl⟩, ⟨by dsimp only; omega, by dsimp only; omega, fun h0 => ?_, by dsimp only; omega, hIt⟩, by dsimp only; omega⟩
                    dsimp only at h0
                    by_cases hxy : x = 0 ∧ y = 0
                    · omega
                    · exact hL1 (by omega)
                  · simp (disch := omega) only [↓CTL, ↓DRW, VAL, DRV, ROW, Nat.reduceBEq, Nat.reduceAdd, m19_3]
                    refine dr_go [5, 13, 15] [] ?_ ?_; · decide
                    simp (disch := omega) only [↓CTL, ↓DRW, VAL, DRV, ROW, Nat.reduceBEq, Nat.reduceAdd, m19_3, g6', g10, g11, k1, ho, ho2]
                    refine s65 (fun s' _ => hp s') _ _ (by omega) (by omega) hlen (by omega) (by omega) ?_
                    simp (disch := omega) only [↓CTL, ↓DRW, VAL, DRV, ROW, Nat.reduceBEq, Nat.reduceAdd, m19_3, g6', g10, g11, k1, ho, ho2]
                    refine s65 (fun s' _ => hp2 s') _ _ (by omega) (by omega) hlen2 (by omega) (by omega) ?_
                    simp (disch := omega) only [↓CTL, ↓DRW, VAL, DRV, ROW, Nat.reduceBEq, Nat.reduceAdd, m19_3, g6', g10, g11, k1, ho, ho2]
                    refine s69 _ fun z _ => ?_
                    simp (disch := omega) only [↓CTL, ↓DRW, VAL, DRV, ROW, Nat.reduceBEq, Nat.reduceAdd, m19_3, g6', g10, g11, k1, ho, ho2]
                    exact ⟨(aa + 1, _), rfl, ⟨by dsimp only; omega, by dsimp only; omega, hE2.set (Nat.le_refl _) _, hn2, rfl⟩, by dsimp only; omega⟩
                · simp (disch := omega) only [↓CTL, ↓DRW, VAL, DRV, ROW, Nat.reduceBEq, Nat.reduceAdd, m19_3]
                  exact ⟨(bb + 1, sm), rfl, ⟨by dsimp only; omega, by dsimp only; omega, hE2, hn2, k1⟩, by dsimp only; omega⟩
            · obtain ⟨u', t3, hb, hI4⟩ := (hI.mono hE2).app (by omega) x y sm
              simp (disch := omega) only [↓CTL, ↓DRW, VAL, DRV, FILL, Nat.reduceBEq, Nat.reduceAdd, m19_2, k1, hb]
              exact ⟨(x + 1, u', L ++ [⟨x, y, sm⟩]), ⟨rfl, rfl⟩, ⟨by dsimp only; omega, by dsimp only; omega, fun _ => by simp, by simp; omega, hI4⟩, by dsimp only; omega⟩
        · simp (disch := omega) only [↓CTL, ↓DRW, VAL, DRV, Nat.reduceBEq, Nat.reduceAdd, m19_1]
          exact ⟨(y + 1, u, L), ⟨rfl, rfl⟩, ⟨by dsimp only; omega, by dsimp only; omega, by dsimp only; omega, by dsimp only; omega, hI⟩, by dsimp only; omega⟩
    · simp (disch := omega) only [↓CTL, ↓DRW, VAL, DRV, Nat.reduceBEq, Nat.reduceAdd, m19_0]
      refine s70 hO (hL1 (by omega)) (by omega) (fun s x y => s71 fun r => ⟨_, rfl, rfl⟩) fun z => ?_
      simp (disch := omega) only [↓CTL, ↓DRW, VAL, DRV, ROW, Nat.reduceBEq, Nat.reduceAdd, m19_0, g8]
      exact ⟨_, rfl, rfl, hI.ext.set (by omega) _, hQ _ _ _ _⟩
end Go.Proofs.YtkfahdbjndihfabGreat
namespace Go.Proofs.YtkfahdbjndihfabGreat
open Go.Tc
set_option linter.unusedSimpArgs false
set_option linter.unusedVariables false
set_option maxRecDepth 20000
set_option maxHeartbeats 4000000
theorem s85 {σ : AHeap} {a b n : Int} {Q : AOut → AHeap → Prop} (hQ : ∀ x y, Q (.ret (.agg [.int .i64 x, .int .i64 y])) σ) : RunV Tryz.prog (.func (.func 85) [] []) [.agg [.int .i64 a, .int .i64 b], .int .i64 n] σ Q := by
  refine RunV.drop (RunV.func mixed k85 (by simp) ?_)
  simp (disch := omega) only [c85, ↓CTL, ↓DRW, VAL, DRV, ROW, Nat.reduceBEq, Nat.reduceAdd]
  refine ⟨_, rfl, rfl, ?_, hQ _ _⟩
  repeat first | exact Ext.refl _ | refine Ext.alloc ?_ _ | refine Ext.set ?_ (by omega) _
structure Spot where
  a : Int
  b : Int
  c : Int
  d : Int
  n : Int
  deriving Inhabited
def Spot.row (x : Spot) : List AVal := [.int .i64 x.a, .int .i64 x.b, .int .i64 x.c, .int .i64 x.d, .int .i64 x.n]
theorem Spot.row_eq {x : Spot} : x.row = [.int .i64 x.a, .int .i64 x.b, .int .i64 x.c, .int .i64 x.d, .int .i64 x.n] := id rfl
theorem st_rU {l : List Int} {i : Nat} {x : Int} (h : i < l.length) : storeO (some (.cells 1 (l.map rU))) 1 i 0 (.int .u8 x) = some (.cells 1 ((l.set i x).map rU)) := storeO_map x h rfl rfl (fun _ => rfl) rfl
theorem st_area {l : List Spot} {i : Nat} {a b c d : Int} (h : i < l.length) : storeO (some (.cells 5 (l.map Spot.row))) 4 i 0 (.agg [.int .i64 a, .int .i64 b, .int .i64 c, .int .i64 d]) = some (.cells 5 ((l.set i ⟨a, b, c, d, (l.getD i default).n⟩).map Spot.row)) :=
  storeO_fld _ h rfl (fun _ => by simp [Spot.row]) rfl rfl
theorem st_n {l : List Spot} {i : Nat} {n : Int} (h : i < l.length) : storeO (some (.cells 5 (l.map Spot.row))) 1 i 4 (.int .i64 n) = some (.cells 5 ((l.set i ⟨(l.getD i default).a, (l.getD i default).b, (l.getD i default).c, (l.getD i default).d, n⟩).map Spot.row)) :=
  storeO_fld _ h rfl (fun _ => by simp [Spot.row]) rfl rfl
theorem st_nset {l : List Spot} {i j : Nat} {y : Spot} {n : Int} (h : i < l.length) : storeO (some (.cells 5 ((l.set j y).map Spot.row))) 1 i 4 (.int .i64 n) = some (.cells 5 (((l.set j y).set i ⟨((l.set j y).getD i default).a, ((l.set j y).getD i default).b, ((l.set j y).getD i default).c, ((l.set j y).getD i default).d, n⟩).map Spot.row)) :=
  st_n (by rw [List.length_set]; exact h)
def nz (l : List Int) : Nat := l.countP (fun x => x != 0)
def fvT (Np Nl Nf : Nat) : AVal := .func (.func 84) [] [.ptr Np 0 0, .ptr Nl 0 0, .ptr Nf 0 0]
structure SpI (w h : Int) (px u : AVal) (Np Nl Nf : Nat) (M : List Int) (L : List Spot) (s : AHeap) : Prop where
  hp : s.objs Np = some (.cells 3 [[.int .i64 w, .int .i64 h, px]])
  hl : s.objs Nl = some (.cells 1 [[u]])
  hf : s.objs Nf = some (.cells 1 [[.func (.func 84) [] [.ptr Np 0 0, .ptr Nl 0 0, .ptr Nf 0 0]]])
  op : OwnS s 0 1 rU px M
  ou : OwnS s 0 5 Spot.row u L
  o1 : Off px Np
  o2 : Off px Nl
  o3 : Off px Nf
  o4 : Off u Np
  o5 : Off u Nl
  o6 : Off u Nf
  sep : Sep px u
def SpF (px u : AVal) (s t : AHeap) : Prop := s.next ≤ t.next ∧ ∀ N, N < s.next → Off px N → Off u N → t.objs N = s.objs N
theorem SpF.refl {px u : AVal} {s : AHeap} : SpF px u s s := ⟨Nat.le_refl _, fun _ _ _ _ => rfl⟩
theorem SpF.trans {px u : AVal} {s t r : AHeap} (h : SpF px u s t) (k : SpF px u t r) : SpF px u s r :=
  ⟨Nat.le_trans h.1 k.1, fun N hN h1 h2 => (k.2 N (Nat.lt_of_lt_of_le hN h.1) h1 h2).trans (h.2 N hN h1 h2)⟩
theorem s84 {w h : Int} {px u : AVal} {Np Nl Nf : Nat} (hw : 0 ≤ w ∧ w ≤ 48) (hh : 0 ≤ h ∧ h ≤ 48) : ∀ (k : Nat) (s : AHeap) (M : List Int) (L : List Spot) (x y : Int), nz M < k → (M.length : Int) = w * h → 1 ≤ L.length → L.length ≤ 10000 → -1 ≤ x ∧ x ≤ 100 → -1 ≤ y ∧ y ≤ 100 →
    SpI w h px u Np Nl Nf M L s → RunV Tryz.prog (.func (.func 84) [] [.ptr Np 0 0, .ptr Nl 0 0, .ptr Nf 0 0]) [.int .i64 x, .int .i64 y] s (fun o s' => o = .ret (.tup []) ∧ ∃ M' L', M'.length = M.length ∧ L'.length = L.length ∧ nz M' ≤ nz M ∧ SpI w h px u Np Nl Nf M' L' s' ∧ SpF px u s s') := by
  intro k
  induction k with
  | zero => intro s M L x y hk; omega
  | succ k ih =>
    intro s M L x y hk hM hL hL2 hx hy hI
    have hp1 := hI.op.one
    have g1 := hI.hp
    have g2 := hI.hl
    have g3 := hI.hf
    refine RunV.func mixed k84 (by simp) ?_
    simp (disch := omega) only [c84, ↓CTL, ↓DRW, VAL, DRV, Nat.reduceBEq, Nat.reduceAdd, hp1, g1, g2, g3]
    refine s64 hp1 _ _ (by omega) (by omega) ?_
    simp (disch := omega) only [↓CTL, ↓DRW, VAL, DRV, Nat.reduceBEq, Nat.reduceAdd, hp1, g1, g2, g3]
    refine G_false (fun hin => ?_) (fun hout => ?_)
    rotate_left
    · simp (disch := omega) only [↓CTL, ↓DRW, VAL, DRV, Nat.reduceBEq, Nat.reduceAdd, hp1, g1, g2, g3]
      exact ⟨M, L, rfl, rfl, Nat.le_refl _, hI, .refl⟩
    simp (disch := omega) only [↓CTL, ↓DRW, VAL, DRV, Nat.reduceBEq, Nat.reduceAdd, hp1, g1, g2, g3]
    refine s65 (fun s' hs' => (hI.op.ext hs').tv) _ _ hw hh hM (by omega) (by omega) ?_
    simp (disch := omega) only [↓CTL, ↓DRW, VAL, DRV, Nat.reduceBEq, Nat.reduceAdd, hp1, g1, g2, g3]
    refine B_if (fun hz0 => ?_) (fun hz1 => ?_)
    · simp (disch := omega) only [↓CTL, ↓DRW, VAL, DRV, Nat.reduceBEq, Nat.reduceAdd, hp1, g1, g2, g3]
      exact ⟨M, L, rfl, rfl, Nat.le_refl _, hI, .refl⟩
    have hpl := place (n := M.length) hw hh hM (show 0 ≤ x ∧ x ≤ w - 1 by omega) (show 0 ≤ y ∧ y ≤ h - 1 by omega)
    have hmul : y * w + x < 10000 := by
      have : w * h ≤ 48 * 48 := Int.mul_le_mul hw.2 hh.2 hh.1 (by omega)
      omega
    obtain ⟨hp', hl', hf', hop, hou, o1, o2, o3, o4, o5, o6, hsep⟩ := hI
    rcases hop with ⟨_, rfl⟩ | ⟨Nb, ex, rfl, _, hNb, hb⟩
    · simp at hpl; omega
    rcases hou with ⟨_, rfl⟩ | ⟨Nu, ex2, rfl, _, hNu, hu⟩
    · simp at hL
    have nNb : Nu ≠ Nb := by
      rintro rfl
      exact hsep Nu (fun h => h _ _ _ _ rfl) _ _ _ _ rfl
    have b1 : Nb ≠ Np := fun h => o1 _ _ _ _ (by rw [h])
    have b2 : Nb ≠ Nl := fun h => o2 _ _ _ _ (by rw [h])
    have b3 : Nb ≠ Nf := fun h => o3 _ _ _ _ (by rw [h])
    have u1 : Nu ≠ Np := fun h => o4 _ _ _ _ (by rw [h])
    have u2 : Nu ≠ Nl := fun h => o5 _ _ _ _ (by rw [h])
    have u3 : Nu ≠ Nf := fun h => o6 _ _ _ _ (by rw [h])
    have hyw : 0 ≤ y * w := Int.mul_nonneg (by omega) (by omega)
    have ew : IntKind.i64.wrap (y * w) = y * w := wrap_in (by omega) (by omega)
    simp (disch := omega) only [↓CTL, ↓DRW, VAL, DRV, ROW, st_rU, Nat.reduceBEq, Nat.reduceAdd, g1, g2, g3, hb, hu, ew]
    refine dr_go [7, 14] [] ?_ ?_; · decide
    simp (disch := omega) only [↓CTL, ↓DRW, VAL, DRV, ROW, Spot.row_eq, Nat.reduceBEq, Nat.reduceAdd, g1, g2, g3, hb, hu, ew]
    refine s85 fun c1 c2 => ?_
    simp (disch := omega) only [↓CTL, ↓DRW, VAL, DRV, ROW, Spot.row_eq, Nat.reduceBEq, Nat.reduceAdd, g1, g2, g3, hb, hu, ew]
    refine s85 fun c3 c4 => ?_
    simp (disch := omega) only [↓CTL, ↓DRW, VAL, DRV, ROW, st_area, st_nset, Spot.row_eq, List.length_set, Nat.reduceBEq, Nat.reduceAdd, g1, g2, g3, hb, hu, ew]
    have hMv : M.getD (y * w + x).toNat default ≠ 0 := by
      intro h0
      rw [h0] at hz1
      exact hz1 rfl
    have hi : (y * w + x).toNat < M.length := by omega
    have hM0 : nz (M.set (y * w + x).toNat 0) < nz M := by
      unfold nz
      have hget : M.getD (y * w + x).toNat default = M[(y * w + x).toNat] := by rw [List.getD_eq_getElem?_getD, List.getElem?_eq_getElem hi]; rfl
      rw [hget] at hMv
      rw [List.countP_set hi]
      have hpos : 0 < M.countP (fun x => x != 0) := List.countP_pos_iff.2 ⟨_, List.getElem_mem hi, by simpa using hMv⟩
      simp [hMv]
      omega
    generalize hM1 : M.set (y * w + x).toNat 0 = M1 at hM0
    have hM1l : M1.length = M.length := by rw [← hM1, List.length_set]
    generalize hL1 : ((L.set ((L.length : Int) - 1).toNat _).set _ _ : List Spot) = L1
    have hL1l : L1.length = L.length := by rw [← hL1, List.length_set, List.length_set]
    have hI1 : SpI w h (.ms 1 Nb 0 M.length ex) (.ms 5 Nu 0 L.length ex2) Np Nl Nf M1 L1 ((s.set Nb (.cells 1 (M1.map rU))).set Nu (.cells 5 (L1.map Spot.row))) := by
      refine ⟨?_, ?_, ?_, .inr ⟨Nb, ex, by rw [hM1l], Nat.zero_le _, hNb, ?_⟩, .inr ⟨Nu, ex2, by rw [hL1l], Nat.zero_le _, hNu, ?_⟩, o1, o2, o3, o4, o5, o6, hsep⟩
      all_goals simp (disch := omega) only [VAL, g1, g2, g3]
    have hF1 : SpF (.ms 1 Nb 0 M.length ex) (.ms 5 Nu 0 L.length ex2) s ((s.set Nb (.cells 1 (M1.map rU))).set Nu (.cells 5 (L1.map Spot.row))) := by
      refine ⟨Nat.le_refl _, fun N hN h1 h2 => ?_⟩
      have q1 : N ≠ Nb := fun h => h1 _ _ _ _ (by rw [h])
      have q2 : N ≠ Nu := fun h => h2 _ _ _ _ (by rw [h])
      simp (disch := omega) only [VAL]
    clear g1 g2 g3 hp' hl' hf' hu hb
    generalize ((s.set Nb (.cells 1 (M1.map rU))).set Nu (.cells 5 (L1.map Spot.row))) = s1 at hI1 hF1
    refine A_loopV (α := Int × List Int × List Spot) m84_0 (fun p => [(8, .int .i64 p.1)]) (fun p t => -1 ≤ p.1 ∧ p.1 ≤ y + 2 ∧ p.2.1.length = M.length ∧ p.2.2.length = L.length ∧ nz p.2.1 < nz M ∧ SpI w h (.ms 1 Nb 0 M.length ex) (.ms 5 Nu 0 L.length ex2) Np Nl Nf p.2.1 p.2.2 t ∧ SpF (.ms 1 Nb 0 M.length ex) (.ms 5 Nu 0 L.length ex2) s t) (fun p => (y + 2 - p.1).toNat) rfl (fun _ => rfl)
      ⟨(y - 1, M1, L1), ?_, by dsimp only; omega, by dsimp only; omega, hM1l, hL1l, hM0, hI1, hF1⟩ ?_
    · simp only [↓CTL, VAL, Nat.reduceBEq]; try first | rfl | exact ⟨rfl, rfl⟩
    · rintro ⟨b, M2, L2⟩ f t ⟨hb1, hb2, hM2, hL2', hn2, hI2, hF2⟩
      dsimp only at hb1 hb2 hM2 hL2' hn2 hI2 hF2 ⊢
      simp (disch := omega) only [↓CTL, ↓DRW, VAL, DRV, Nat.reduceBEq, Nat.reduceAdd, m84_0]
      refine B_if (fun hlt => ?_) (fun hge => ?_)
      · simp (disch := omega) only [↓CTL, ↓DRW, VAL, DRV, Nat.reduceBEq, Nat.reduceAdd, m84_0]
        refine A_loopV (α := Int × List Int × List Spot) m84_1 (fun p => [(9, .int .i64 p.1)]) (fun p t => -1 ≤ p.1 ∧ p.1 ≤ x + 2 ∧ p.2.1.length = M.length ∧ p.2.2.length = L.length ∧ nz p.2.1 < nz M ∧ SpI w h (.ms 1 Nb 0 M.length ex) (.ms 5 Nu 0 L.length ex2) Np Nl Nf p.2.1 p.2.2 t ∧ SpF (.ms 1 Nb 0 M.length ex) (.ms 5 Nu 0 L.length ex2) s t) (fun p => (x + 2 - p.1).toNat) rfl (fun _ => rfl)
          ⟨(x - 1, M2, L2), ?_, by dsimp only; omega, by dsimp only; omega, hM2, hL2', hn2, hI2, hF2⟩ ?_
        · simp only [↓CTL, VAL, Nat.reduceBEq]; try first | rfl | exact ⟨rfl, rfl⟩
        · rintro ⟨a, M3, L3⟩ f t ⟨ha1, ha2, hM3, hL3, hn3, hI3, hF3⟩
          dsimp only at ha1 ha2 hM3 hL3 hn3 hI3 hF3 ⊢
          simp (disch := omega) only [↓CTL, ↓DRW, VAL, DRV, Nat.reduceBEq, Nat.reduceAdd, m84_1]
          refine B_if (fun hlt2 => ?_) (fun hge2 => ?_)
          · have g3 := hI3.hf
            simp (disch := omega) only [↓CTL, ↓DRW, VAL, DRV, Nat.reduceBEq, Nat.reduceAdd, m84_1, g3]
            refine (ih t M3 L3 a b (by omega) (by omega) (by omega) (by omega) (by omega) (by omega) hI3).mono fun o s' hs => ?_
            obtain ⟨rfl, M4, L4, hM4, hL4, hn4, hI4, hF4⟩ := hs
            simp (disch := omega) only [↓CTL, ↓DRW, VAL, DRV, Nat.reduceBEq, Nat.reduceAdd, m84_1]
            exact ⟨(a + 1, M4, L4), rfl, ⟨by dsimp only; omega, by dsimp only; omega, by dsimp only; omega, by dsimp only; omega, by dsimp only; omega, hI4, hF3.trans hF4⟩, by dsimp only; omega⟩
          · simp (disch := omega) only [↓CTL, ↓DRW, VAL, DRV, Nat.reduceBEq, Nat.reduceAdd, m84_1]
            exact ⟨(b + 1, M3, L3), rfl, ⟨by dsimp only; omega, by dsimp only; omega, hM3, hL3, hn3, hI3, hF3⟩, by dsimp only; omega⟩
      · simp (disch := omega) only [↓CTL, ↓DRW, VAL, DRV, Nat.reduceBEq, Nat.reduceAdd, m84_0]
        exact ⟨M2, L2, hM2, hL2', by omega, hI2, hF2⟩
end Go.Proofs.YtkfahdbjndihfabGreat
namespace Go.Proofs.YtkfahdbjndihfabGreat
open Go.Tc
set_option linter.unusedSimpArgs false
set_option linter.unusedVariables false
set_option maxRecDepth 20000
set_option maxHeartbeats 4000000
structure SpJ (σ : AHeap) (w h : Int) (px u : AVal) (Np : Nat) (len : Nat) (M : List Int) (L : List Spot) (s : AHeap) : Prop where
  i : SpI w h px u Np (σ.next + 1) (Np + 1) M L s
  ext : Ext σ s
  nx : Np + 1 + 1 ≤ s.next
  ob : ∀ K, K < σ.next + 2 → Off u K
  pb : ∀ K, K < σ.next + 2 → Off px K
  ml : M.length = len
theorem s39 {σ : AHeap} {w h : Int} {px : AVal} {l : List Int} (hp : RV 1 rU px l) (ho : ∀ M, Off px M) (hl : l.length ≤ 1048576) :
    RunV Tryz.prog (.func (.func 39) [] []) [.agg [.int .i64 w, .int .i64 h, px]] σ (fun o s => ∃ u e L, o = .ret (.tup [u, .int .i64 e]) ∧ Ext σ s ∧ OwnS s σ.next 5 Spot.row u L ∧ L.length ≤ 10000) := by
  refine RunV.func mixed k39 (by simp) ?_
  simp (disch := omega) only [c39, ↓CTL, ↓DRW, VAL, DRV, Nat.reduceBEq, Nat.reduceAdd, (hp σ).one]
  refine s7 (hp _) fun e he => ?_
  simp (disch := omega) only [↓CTL, ↓DRW, VAL, DRV, Nat.reduceBEq, Nat.reduceAdd, (hp σ).one]
  refine B_if (fun _ => ?_) (fun he0 => ?_)
  · simp (disch := omega) only [↓CTL, ↓DRW, VAL, DRV, ROW, Nat.reduceBEq, Nat.reduceAdd, (hp σ).one]
    refine ⟨_, _, [], rfl, ?_, .nil, by simp⟩
    repeat first | exact Ext.refl _ | refine Ext.alloc ?_ _ | refine Ext.set ?_ (by omega) _
  obtain ⟨hw1, hw2, hh1, hh2, hlen⟩ := he (by omega)
  simp (disch := omega) only [↓CTL, ↓DRW, VAL, DRV, Nat.reduceBEq, Nat.reduceAdd, (hp σ).one]
  refine clone_spec mixed k83 (hp _) (fun M _ => ho M) (sumLen_ok (by omega) (by omega)) fun p1 s1 hE1 hO1 => ?_
  obtain ⟨g1, g2, n1, hE⟩ := hE1.two
  simp (disch := omega) only [↓CTL, ↓DRW, VAL, DRV, Nat.reduceBEq, Nat.reduceAdd, (hp σ).one, hO1.one, g1, g2]
  have hNp : σ.next + 2 ≤ s1.next := n1
  refine A_loopV (α := Nat × AVal × List Int × List Spot) m39_0 (fun x => [(23, .int .i64 x.1)]) (fun x s => x.1 ≤ h.toNat ∧ x.2.2.2.length ≤ 48 * x.1 ∧ SpJ σ w h p1 x.2.1 s1.next l.length x.2.2.1 x.2.2.2 s) (fun x => h.toNat - x.1) rfl (fun _ => rfl) ⟨(0, .nilS, l, []), ?_, Nat.zero_le _, by simp, ?_⟩ ?_
  · simp only [↓CTL, VAL, Nat.reduceBEq]; try rfl
  · refine ⟨⟨?_, ?_, ?_, ?_, .nil, hO1.off_new (Nat.le_refl _), hO1.off_old (by simp only [VAL]; omega), hO1.off_new (by omega), ?_, ?_, ?_, Sep.nil.symm⟩, ?_, ?_, ?_, fun K hK => hO1.off_old (by simp only [VAL]; omega), rfl⟩
    · simp (disch := omega) only [VAL]
    · simp (disch := omega) only [VAL, g2]
    · simp (disch := omega) only [VAL]
    · refine (((((hO1.set ?_ _).alloc _).set ?_ _).alloc _).set ?_ _).weak (Nat.zero_le _)
      · exact hO1.off_old (by simp only [VAL]; omega)
      · exact hO1.off_new (Nat.le_refl _)
      · exact hO1.off_new (by omega)
    · exact fun _ _ _ _ h => by cases h
    · exact fun _ _ _ _ h => by cases h
    · exact fun _ _ _ _ h => by cases h
    · repeat first | exact hE | refine Ext.alloc ?_ _ | refine Ext.set ?_ (by omega) _
    · simp only [VAL]; omega
    · exact fun _ _ _ _ _ _ h => by cases h
  · rintro ⟨y, u, M, L⟩ f s ⟨hy, hL, hJ⟩
    dsimp only at hy hL hJ ⊢
    have g0 := hJ.i.hp
    have gl := hJ.i.hl
    have hpo := hJ.i.op.one
    have huo := hJ.i.ou.one
    simp (disch := omega) only [↓CTL, ↓DRW, VAL, DRV, Nat.reduceBEq, Nat.reduceAdd, m39_0]
    refine B_if (fun hlt => ?_) (fun hge => ?_)
    · simp (disch := omega) only [↓CTL, ↓DRW, VAL, DRV, ROW, Nat.reduceBEq, Nat.reduceAdd, m39_0, g0]
      refine A_loopV (α := Nat × AVal × List Int × List Spot) m39_1 (fun x => [(29, .int .i64 x.1)]) (fun x s => x.1 ≤ w.toNat ∧ x.2.2.2.length ≤ 48 * y + x.1 ∧ SpJ σ w h p1 x.2.1 s1.next l.length x.2.2.1 x.2.2.2 s) (fun x => w.toNat - x.1) rfl (fun _ => rfl) ⟨(0, u, M, L), ?_, Nat.zero_le _, hL, hJ⟩ ?_
      · simp only [↓CTL, VAL, Nat.reduceBEq]; try rfl
      · rintro ⟨x, u, M, L⟩ f s ⟨hx, hL, hJ⟩
        dsimp only at hx hL hJ ⊢
        have g0 := hJ.i.hp
        have gl := hJ.i.hl
        have gf := hJ.i.hf
        have hpo := hJ.i.op.one
        have huo := hJ.i.ou.one
        have hml := hJ.ml
        simp (disch := omega) only [↓CTL, ↓DRW, VAL, DRV, Nat.reduceBEq, Nat.reduceAdd, m39_1]
        refine B_if (fun hlt2 => ?_) (fun hge2 => ?_)
        · simp (disch := omega) only [↓CTL, ↓DRW, VAL, DRV, ROW, Nat.reduceBEq, Nat.reduceAdd, m39_1, g0, hpo]
          refine s65 (fun s' hs' => (hJ.i.op.ext hs').tv) _ _ (by omega) (by omega) (by omega) (by omega) (by omega) ?_
          simp (disch := omega) only [↓CTL, ↓DRW, VAL, DRV, ROW, Nat.reduceBEq, Nat.reduceAdd, m39_1, g0, hpo]
          refine B_if (fun _ => ?_) (fun _ => ?_)
          · obtain ⟨u', t, ha, j1, j2, j3, j4⟩ := hJ.i.ou.lit (x := ⟨x, x, y, y, 0⟩) (row := [.int .i64 x, .int .i64 x, .int .i64 y, .int .i64 y, .int .i64 0]) (bytes := 40) (ex := true) rfl (Nat.zero_le _) (sumLen_ok (by omega) (by omega))
            obtain ⟨j5, j6⟩ := hJ.i.ou.other hJ.i.op hJ.i.sep.symm j2 j3 j4
            have hnx := hJ.nx
            have q0 := (j3 s1.next (by omega) hJ.i.o4).trans g0
            have q1 := (j3 (σ.next + 1) (by omega) hJ.i.o5).trans gl
            have q2 := (j3 (s1.next + 1) (by omega) hJ.i.o6).trans gf
            have huo' := j1.one
            have hob' : ∀ K, K < σ.next + 2 → Off u' K := fun K hK => j4 K (by omega) (hJ.ob K hK)
            have hJ' : SpJ σ w h p1 u' s1.next l.length M (L ++ [⟨x, x, y, y, 0⟩]) (t.set (σ.next + 1) (.cells 1 [[u']])) := by
              refine ⟨⟨?_, ?_, ?_, j5.set hJ.i.o2 _, j1.set (hob' _ (by omega)) _, hJ.i.o1, hJ.i.o2, hJ.i.o3, j4 _ (by omega) hJ.i.o4, hob' _ (by omega), j4 _ (by omega) hJ.i.o6, j6.symm⟩, ?_, by simp only [VAL]; omega, hob', hJ.pb, hml⟩
              · simp (disch := omega) only [VAL, q0]
              · simp (disch := omega) only [VAL]
              · simp (disch := omega) only [VAL, q2]
              · refine Ext.set ⟨?_, fun K hK => ?_⟩ (by omega) _
                · have := hJ.ext.1; omega
                · exact (j3 K (by omega) (hJ.ob K (by omega))).trans (hJ.ext.2 K hK)
            simp (disch := omega) only [↓CTL, ↓DRW, VAL, DRV, FILL, Nat.reduceBEq, Nat.reduceAdd, m39_1, gl, ha, huo', q1, q2]
            refine (s84 (by omega) (by omega) _ _ M (L ++ [⟨x, x, y, y, 0⟩]) x y (Nat.lt_succ_self _) (by omega) (by simp) (by simp; omega) (by omega) (by omega) hJ'.i).mono fun o s' hs => ?_
            obtain ⟨rfl, M4, L4, hM4, hL4, hn4, hI4, hF4⟩ := hs
            simp (disch := omega) only [↓CTL, ↓DRW, VAL, DRV, ROW, Nat.reduceBEq, Nat.reduceAdd, m39_1]
            have f1 := hF4.1
            simp only [AHeap.next_set] at f1
            have f2 := hJ'.nx
            refine ⟨(x + 1, u', M4, L4), rfl, ⟨by dsimp only; omega, by dsimp only; rw [hL4]; simp; omega, hI4, ⟨?_, fun K hK => ?_⟩, by omega, hob', hJ.pb, by dsimp only; omega⟩, by dsimp only; omega⟩
            · have := hJ'.ext.1; simp only [AHeap.next_set] at this; omega
            · exact (hF4.2 K (by simp only [AHeap.next_set]; omega) (hJ.pb K (by omega)) (hob' K (by omega))).trans (hJ'.ext.2 K hK)
          · simp (disch := omega) only [↓CTL, ↓DRW, VAL, DRV, ROW, Nat.reduceBEq, Nat.reduceAdd, m39_1, g0, hpo]
            exact ⟨(x + 1, u, M, L), rfl, ⟨by dsimp only; omega, by dsimp only; omega, hJ⟩, by dsimp only; omega⟩
        · simp (disch := omega) only [↓CTL, ↓DRW, VAL, DRV, ROW, Nat.reduceBEq, Nat.reduceAdd, m39_1]
          exact ⟨(y + 1, u, M, L), rfl, ⟨by dsimp only; omega, by dsimp only; omega, hJ⟩, by dsimp only; omega⟩
    · simp (disch := omega) only [↓CTL, ↓DRW, VAL, DRV, ROW, Nat.reduceBEq, Nat.reduceAdd, m39_0, gl, huo]
      exact ⟨_, _, L, rfl, hJ.ext.set (by omega) _, (hJ.i.ou.lift fun K hK => hJ.ob K (by omega)).set (hJ.ob _ (by omega)) _, by omega⟩
end Go.Proofs.YtkfahdbjndihfabGreat
namespace Go.Proofs.YtkfahdbjndihfabGreat
open Go.Tc
set_option linter.unusedSimpArgs false
set_option linter.unusedVariables false
set_option maxRecDepth 20000
set_option maxHeartbeats 4000000
def eqLen (l : List Int) : Nat := l.findIdx (fun x => decide (x ≠ l.getD 0 default))
theorem eqLen_le (l : List Int) : eqLen l ≤ l.length := List.findIdx_le_length
theorem eqLen_pos {l : List Int} (h : 1 ≤ l.length) : 1 ≤ eqLen l := by
  cases l with
  | nil => simp at h
  | cons a l => simp [eqLen, List.findIdx_cons]
theorem s119 {σ : AHeap} {v : AVal} {l : List Int} {N : Nat} (hN : σ.objs N = some (.cells 1 [[v]])) (hv : TV σ 1 rU v l) (h1 : 1 ≤ l.length) (x : Int) :
    RunV Tryz.prog (.func (.func 119) [] [.ptr N 0 0]) [.int .u8 x] σ (fun o s => o = .ret (.bool (decide (x ≠ l.getD 0 default))) ∧ s = σ) := by
  refine RunV.func mixed k119 (by simp) ?_
  have hS := hv.S
  simp (disch := omega) only [c119, ↓CTL, ↓DRW, VAL, DRV, Nat.reduceBEq, Nat.reduceAdd, hN, hS, rU_eq, Int.toNat_zero]
theorem s114 {σ : AHeap} {v : AVal} {l : List Int} (hv : EV σ 1 rU v l) (h1 : 1 ≤ l.length) (hl : l.length ≤ 1000000) {Q : AOut → AHeap → Prop} (hQ : Q (.ret (.int .i64 (eqLen l))) σ) :
    RunV Tryz.prog (.func (.func 114) [] []) [v] σ Q := by
  refine RunV.drop (RunV.func mixed k114 (by simp) ?_)
  have hs := hv _ ((Ext.refl _).alloc (.cells 1 [[v]]))
  simp (disch := omega) only [c114, ↓CTL, ↓DRW, VAL, DRV, Nat.reduceBEq, Nat.reduceAdd, hv.one]
  refine indexFunc_fst mixed k118 hs (by omega) (fun x => .int .u8 x) (fun x => rfl) (fun x => decide (x ≠ l.getD 0 default)) (fun x _ => s119 (objs_new rfl) hs h1 x) ?_
  have hle := eqLen_le l
  rw [show l.findIdx (fun x => decide (x ≠ l.getD 0 default)) = eqLen l from rfl]
  by_cases hlt : eqLen l < l.length
  · rw [if_pos hlt]
    simp (disch := omega) only [↓CTL, ↓DRW, VAL, DRV, Nat.reduceBEq, Nat.reduceAdd, hv.len]
    exact ⟨_, rfl, rfl, (Ext.refl _).alloc _, hQ⟩
  · rw [if_neg hlt]
    simp (disch := omega) only [↓CTL, ↓DRW, VAL, DRV, Nat.reduceBEq, Nat.reduceAdd, hv.len]
    have : eqLen l = l.length := by omega
    rw [this] at hQ
    exact ⟨_, rfl, rfl, (Ext.refl _).alloc _, hQ⟩
theorem slV_one {σ : AHeap} {m : Nat} {v : AVal} {l : List Int} (h : EV σ m rU v l) {a b : Int} (h0 : 0 ≤ a) (h1 : a ≤ b) (h2 : b ≤ l.length) : (slV m v a b).one = true := (h.sub h0 h1 h2).one
theorem s113 {σb : AHeap} {v0 : AVal} {l0 : List Int} {N B : Nat} (hN : σb.next ≤ N) (hv0 : EV σb 1 rU v0 l0) (hl0 : l0.length ≤ 1000) :
    IterX Tryz.prog (.func (.func 113) [] [.ptr N 0 0]) (· = N) (fun s => Ext σb s) (fun s => s.objs N = some (.cells 1 [[v0]]) ∧ N < s.next ∧ B ≤ s.next)
      (fun s args => ∃ w pl, args = [w] ∧ OwnS s B 1 rU w pl ∧ pl.length ≤ 1002) l0.length := by
  intro yv J E hyo hJe hJs hJd hy s0 hJ0 ⟨hP1, hP2, hP3⟩
  refine RunV.func mixed k113 (by simp) ?_
  simp (disch := omega) only [c113, ↓CTL, ↓DRW, VAL, DRV, Nat.reduceBEq, Nat.reduceAdd]
  refine A_loopV (α := AVal × List Int × Nat) m113_0 (fun _ => []) (fun x s => J x.2.2 s ∧ s.objs N = some (.cells 1 [[x.1]]) ∧ EV σb 1 rU x.1 x.2.1 ∧ x.2.2 + x.2.1.length ≤ l0.length ∧ N < s.next ∧ B ≤ s.next) (fun x => x.2.1.length) rfl (fun _ => rfl)
    ⟨(v0, l0, 0), ?_, hJ0, hP1, hv0, by simp, hP2, hP3⟩ ?_
  · simp only [↓CTL, VAL, Nat.reduceBEq]; try trivial
  · rintro ⟨v, l, k⟩ f s ⟨hJ, g1, hv, hk, hn1, hn2⟩
    dsimp only at hJ g1 hv hk hn1 hn2 ⊢
    have hD := hJd _ _ hJ
    have hlen := hv.len
    have hone := hv.one
    simp (disch := omega) only [↓CTL, ↓DRW, VAL, DRV, Nat.reduceBEq, Nat.reduceAdd, m113_0, g1, hlen]
    refine B_if (fun hlt => ?_) (fun hge => ?_)
    · simp (disch := omega) only [↓CTL, ↓DRW, VAL, DRV, Nat.reduceBEq, Nat.reduceAdd, m113_0, g1, hlen]
      refine s114 (hv.mono hD) (by omega) (by omega) ?_
      have hS := (hv s hD).S
      have hle := eqLen_le l
      have hpos := eqLen_pos (l := l) (by omega)
      simp (disch := omega) only [↓CTL, ↓DRW, VAL, DRV, FILL, Nat.reduceBEq, Nat.reduceAdd, m113_0, g1, hS, rU_eq]
      have fin : ∀ (t : AHeap) (W : AVal) (pl : List Int), J k t → t.objs N = some (.cells 1 [[v]]) → OwnS t B 1 rU W pl → pl.length ≤ 1002 → N < t.next → B ≤ t.next →
          RunV Tryz.prog yv [W] t (fun o s' => s'.objs N = some (.cells 1 [[v]]) ∧ N < s'.next ∧ B ≤ s'.next ∧ ((o = .ret (.bool true) ∧ J (k + 1) s') ∨ (o = .ret (.bool false) ∧ E s'))) := by
        intro t W pl h1 h2 h3 h4 h5 h6
        refine (hy k t [W] (by omega) h1 ⟨W, pl, rfl, h3, h4⟩).mono fun o s' hs => ?_
        obtain ⟨hx, hnx, hs⟩ := hs
        exact ⟨(hx N rfl).trans h2, by omega, by omega, hs⟩
      refine B_if (fun hn3 => ?_) (fun hn3 => ?_)
      · simp (disch := omega) only [↓CTL, ↓DRW, VAL, DRV, Nat.reduceBEq, Nat.reduceAdd, m113_0, g1, hS]
        refine A_loopV (α := Nat) m113_1 (fun n => [(3, .int .i64 n)]) (fun n t => n ≤ l.length ∧ t = s.alloc (.cells 1 [[.int .u8 (IntKind.u8.wrap (128 + (eqLen l : Int)))], [.int .u8 (l.getD (Int.toNat 0) default)]])) (fun n => l.length - n) rfl (fun _ => rfl) ⟨0, ?_, Nat.zero_le _, rfl⟩ ?_
        · simp only [↓CTL, VAL, Nat.reduceBEq]; try rfl
        · rintro n f t ⟨hn, rfl⟩
          have hs1 := (hv _ (hD.alloc (.cells 1 [[.int .u8 (IntKind.u8.wrap (128 + (eqLen l : Int)))], [.int .u8 (l.getD (Int.toNat 0) default)]]))).S
          simp (disch := omega) only [↓CTL, ↓DRW, VAL, DRV, Nat.reduceBEq, Nat.reduceAdd, m113_1, g1, hlen]
          refine G_true (fun hlt2 => ?_) (fun hge2 => ?_)
          · simp (disch := omega) only [↓CTL, ↓DRW, VAL, DRV, Nat.reduceBEq, Nat.reduceAdd, m113_1, g1, hs1]
            have hsub := (hv.sub (a := n) (b := l.length) (by omega) (by omega) (Int.le_refl _)).mono (hD.alloc (.cells 1 [[.int .u8 (IntKind.u8.wrap (128 + (eqLen l : Int)))], [.int .u8 (l.getD (Int.toNat 0) default)]]))
            refine s114 hsub (by simp; omega) (by simp; omega) ?_
            simp (disch := omega) only [↓CTL, ↓DRW, VAL, DRV, Nat.reduceBEq, Nat.reduceAdd, m113_1, g1, hs1]
            refine B_if (fun _ => ?_) (fun hq => ?_)
            · simp (disch := omega) only [↓CTL, ↓DRW, VAL, DRV, Nat.reduceBEq, Nat.reduceAdd, m113_1, g1, hs1]
              exact ⟨n + 1, rfl, by omega, by omega⟩
            · have hn1' : 1 ≤ n := by
                apply Classical.byContradiction
                intro h0
                have : n = 0 := by omega
                subst this
                simp at hq
                omega
              simp (disch := omega) only [↓CTL, ↓DRW, VAL, DRV, FILL, Nat.reduceBEq, Nat.reduceAdd, m113_1, g1, hs1]
              have hsn := hv.sub (a := 0) (b := n) (Int.le_refl _) (by omega) (by omega)
              have hD2 := (hD.alloc (.cells 1 [[.int .u8 (IntKind.u8.wrap (128 + (eqLen l : Int)))], [.int .u8 (l.getD (Int.toNat 0) default)]])).alloc (.cells 1 [[.int .u8 (IntKind.u8.wrap (n : Int))]])
              have hJ2 := hJe _ _ _ hJ (((Ext.refl s).alloc (.cells 1 [[.int .u8 (IntKind.u8.wrap (128 + (eqLen l : Int)))], [.int .u8 (l.getD (Int.toNat 0) default)]])).alloc (.cells 1 [[.int .u8 (IntKind.u8.wrap (n : Int))]]))
              obtain ⟨W, t2, ha, j1, j2, j3, j4⟩ := OwnS.app (bytes := 1) (show OwnS ((s.alloc (.cells 1 [[.int .u8 (IntKind.u8.wrap (128 + (eqLen l : Int)))], [.int .u8 (l.getD (Int.toNat 0) default)]])).alloc (.cells 1 [[.int .u8 (IntKind.u8.wrap (n : Int))]])) (s.next + 1) 1 rU (.ms 1 (s.next + 1) 0 1 true) [IntKind.u8.wrap (n : Int)] from .inr ⟨s.next + 1, true, rfl, Nat.le_refl _, by simp only [VAL]; omega, objs_new rfl⟩) (hsn _ hD2).elems (by simp only [VAL]; omega) (sumLen_ok (by simp; omega) (by simp; omega))
              simp only [AHeap.next_alloc] at j2 j3
              have hE2 : Ext s t2 := ⟨by omega, fun M hM => (j3 M (by omega) (fun _ _ _ _ h => by cases h; omega)).trans (by simp (disch := omega) only [VAL])⟩
              have g3 := (hE2.2 N hn1).trans g1
              have jo := j1.one
              simp (disch := omega) only [↓CTL, ↓DRW, VAL, DRV, Nat.reduceBEq, Nat.reduceAdd, m113_1, ha]
              refine (fin t2 W _ (hJe _ _ _ hJ hE2) g3 (j1.weak (by omega)) (by simp; omega) (by omega) (by omega)).mono fun o s' hs => ?_
              obtain ⟨q1, q2, q3, hs⟩ := hs
              rcases hs with ⟨rfl, hJ'⟩ | ⟨rfl, hE'⟩
              · have hS' := (hv s' (hJd _ _ hJ')).S
                simp (disch := omega) only [↓CTL, ↓DRW, VAL, DRV, Nat.reduceBEq, Nat.reduceAdd, m113_1, q1, hS', slV_one hv, Bool.not_true]
                refine ⟨(slV 1 v n l.length, _, k + 1), ⟨hJs _ _ _ _ rfl hJ', by simp (disch := omega) only [VAL], hv.sub (by omega) (by omega) (Int.le_refl _), ?_, by first | omega | (simp only [VAL]; omega), by first | omega | (simp only [VAL]; omega)⟩, ?_⟩
                all_goals
                  dsimp only
                  simp only [List.length_take, List.length_drop]
                  omega
              · simp (disch := omega) only [↓CTL, ↓DRW, VAL, DRV, Nat.reduceBEq, Nat.reduceAdd, m113_1, Bool.not_false]
                exact ⟨⟨_, rfl⟩, .inr hE'⟩
          · simp (disch := omega) only [↓CTL, ↓DRW, VAL, DRV, FILL, Nat.reduceBEq, Nat.reduceAdd, m113_1, g1, hs1]
            have hsn := hv.sub (a := 0) (b := n) (Int.le_refl _) (by omega) (by omega)
            have hD2 := (hD.alloc (.cells 1 [[.int .u8 (IntKind.u8.wrap (128 + (eqLen l : Int)))], [.int .u8 (l.getD (Int.toNat 0) default)]])).alloc (.cells 1 [[.int .u8 (IntKind.u8.wrap (n : Int))]])
            have hJ2 := hJe _ _ _ hJ (((Ext.refl s).alloc (.cells 1 [[.int .u8 (IntKind.u8.wrap (128 + (eqLen l : Int)))], [.int .u8 (l.getD (Int.toNat 0) default)]])).alloc (.cells 1 [[.int .u8 (IntKind.u8.wrap (n : Int))]]))
            obtain ⟨W, t2, ha, j1, j2, j3, j4⟩ := OwnS.app (bytes := 1) (show OwnS ((s.alloc (.cells 1 [[.int .u8 (IntKind.u8.wrap (128 + (eqLen l : Int)))], [.int .u8 (l.getD (Int.toNat 0) default)]])).alloc (.cells 1 [[.int .u8 (IntKind.u8.wrap (n : Int))]])) (s.next + 1) 1 rU (.ms 1 (s.next + 1) 0 1 true) [IntKind.u8.wrap (n : Int)] from .inr ⟨s.next + 1, true, rfl, Nat.le_refl _, by simp only [VAL]; omega, objs_new rfl⟩) (hsn _ hD2).elems (by simp only [VAL]; omega) (sumLen_ok (by simp; omega) (by simp; omega))
            simp only [AHeap.next_alloc] at j2 j3
            have hE2 : Ext s t2 := ⟨by omega, fun M hM => (j3 M (by omega) (fun _ _ _ _ h => by cases h; omega)).trans (by simp (disch := omega) only [VAL])⟩
            have g3 := (hE2.2 N hn1).trans g1
            have jo := j1.one
            simp (disch := omega) only [↓CTL, ↓DRW, VAL, DRV, Nat.reduceBEq, Nat.reduceAdd, m113_1, ha]
            refine (fin t2 W _ (hJe _ _ _ hJ hE2) g3 (j1.weak (by omega)) (by simp; omega) (by omega) (by omega)).mono fun o s' hs => ?_
            obtain ⟨q1, q2, q3, hs⟩ := hs
            rcases hs with ⟨rfl, hJ'⟩ | ⟨rfl, hE'⟩
            · have hS' := (hv s' (hJd _ _ hJ')).S
              simp (disch := omega) only [↓CTL, ↓DRW, VAL, DRV, Nat.reduceBEq, Nat.reduceAdd, m113_1, q1, hS', slV_one hv, Bool.not_true]
              refine ⟨(slV 1 v n l.length, _, k + 1), ⟨hJs _ _ _ _ rfl hJ', by simp (disch := omega) only [VAL], hv.sub (by omega) (by omega) (Int.le_refl _), ?_, by first | omega | (simp only [VAL]; omega), by first | omega | (simp only [VAL]; omega)⟩, ?_⟩
              all_goals
                dsimp only
                simp only [List.length_take, List.length_drop]
                omega
            · simp (disch := omega) only [↓CTL, ↓DRW, VAL, DRV, Nat.reduceBEq, Nat.reduceAdd, m113_1, Bool.not_false]
              exact ⟨⟨_, rfl⟩, .inr hE'⟩
      · simp (disch := omega) only [↓CTL, ↓DRW, VAL, DRV, Nat.reduceBEq, Nat.reduceAdd, m113_0, g1, hS]
        refine (fin _ _ _ (hJe _ _ _ hJ ((Ext.refl _).alloc _)) ?_ (show OwnS _ B 1 rU _ [IntKind.u8.wrap (128 + (eqLen l : Int)), l.getD (Int.toNat 0) default] from .inr ⟨s.next, true, rfl, hn2, by simp only [VAL]; omega, objs_new rfl⟩) (by simp) (by simp only [VAL]; omega) (by simp only [VAL]; omega)).mono fun o s' hs => ?_
        · simp (disch := omega) only [VAL, g1]
        · obtain ⟨q1, q2, q3, hs⟩ := hs
          rcases hs with ⟨rfl, hJ'⟩ | ⟨rfl, hE'⟩
          · have hS' := (hv s' (hJd _ _ hJ')).S
            simp (disch := omega) only [↓CTL, ↓DRW, VAL, DRV, Nat.reduceBEq, Nat.reduceAdd, m113_0, q1, hS', slV_one hv, Bool.not_true]
            refine ⟨(slV 1 v (eqLen l) l.length, _, k + 1), ⟨hJs _ _ _ _ rfl hJ', by simp (disch := omega) only [VAL], hv.sub (by omega) (by omega) (Int.le_refl _), ?_, by first | omega | (simp only [VAL]; omega), by first | omega | (simp only [VAL]; omega)⟩, ?_⟩
            all_goals
              dsimp only
              simp only [List.length_take, List.length_drop]
              omega
          · simp (disch := omega) only [↓CTL, ↓DRW, VAL, DRV, Nat.reduceBEq, Nat.reduceAdd, m113_0, Bool.not_false]
            exact ⟨⟨_, rfl⟩, .inr hE'⟩
    · simp (disch := omega) only [↓CTL, ↓DRW, VAL, DRV, Nat.reduceBEq, Nat.reduceAdd, m113_0, g1, hlen]
      exact ⟨⟨_, rfl⟩, .inl ⟨k, by omega, hJ⟩⟩
end Go.Proofs.YtkfahdbjndihfabGreat
namespace Go.Proofs.YtkfahdbjndihfabGreat
open Go.Tc
set_option linter.unusedSimpArgs false
set_option linter.unusedVariables false
set_option maxRecDepth 20000
set_option maxHeartbeats 4000000
theorem s91 {σ : AHeap} {v : AVal} (h1 : v.one = true) {Q : AOut → AHeap → Prop} (hQ : Q (.ret (.func (.func 113) [] [.ptr σ.next 0 0])) (σ.alloc (.cells 1 [[v]]))) : RunV Tryz.prog (.func (.func 91) [] []) [v] σ Q := by
  refine RunV.func mixed k91 (by simp) ?_
  simp (disch := omega) only [c91, ↓CTL, ↓DRW, VAL, DRV, Nat.reduceBEq, Nat.reduceAdd, h1]
  exact hQ
theorem s90 {σ : AHeap} {v : AVal} {n : Int} (h1 : v.one = true) (hn : 1 ≤ n) {Q : AOut → AHeap → Prop} (hQ : Q (.ret (.func (.func 112) [] [.ptr σ.next 0 0, .ptr (σ.next + 1) 0 0])) ((σ.alloc (.cells 1 [[v]])).alloc (.cells 1 [[.int .i64 n]]))) : RunV Tryz.prog (.func (.func 90) [] []) [v, .int .i64 n] σ Q := by
  refine RunV.func mixed k90 (by simp) ?_
  simp (disch := omega) only [c90, ↓CTL, ↓DRW, VAL, DRV, Nat.reduceBEq, Nat.reduceAdd, h1]
  exact hQ
theorem s112 {σb : AHeap} {v : AVal} {l : List Int} {n : Int} {N1 N2 : Nat} (hv : EV σb 1 rU v l) (hl : l.length ≤ 1000000) (hn : 1 ≤ n ∧ n ≤ 1000000) :
    IterX Tryz.prog (.func (.func 112) [] [.ptr N1 0 0, .ptr N2 0 0]) (fun M => M = N1 ∨ M = N2) (fun s => Ext σb s) (fun s => s.objs N1 = some (.cells 1 [[v]]) ∧ s.objs N2 = some (.cells 1 [[.int .i64 n]]))
      (fun s args => ∃ w r, args = [w] ∧ EV σb 1 rU w r ∧ 1 ≤ r.length ∧ (r.length : Int) ≤ n) l.length := by
  intro yv J E hyo hJe hJs hJd hy s0 hJ0 ⟨hP1, hP2⟩
  refine RunV.func mixed k112 (by simp) ?_
  simp (disch := omega) only [c112, ↓CTL, ↓DRW, VAL, DRV, Nat.reduceBEq, Nat.reduceAdd]
  refine A_loopV (α := Int × Nat) m112_0 (fun x => [(4, .int .i64 x.1)]) (fun x s => 0 ≤ x.1 ∧ x.1 ≤ 2000000 ∧ (x.2 : Int) ≤ x.1 ∧ x.2 ≤ l.length ∧ J x.2 s ∧ s.objs N1 = some (.cells 1 [[v]]) ∧ s.objs N2 = some (.cells 1 [[.int .i64 n]])) (fun x => (2000000 - x.1).toNat) rfl (fun _ => rfl)
    ⟨(0, 0), ?_, Int.le_refl _, by dsimp only; omega, Int.le_refl _, Nat.zero_le _, hJ0, hP1, hP2⟩ ?_
  · simp only [↓CTL, VAL, Nat.reduceBEq]; try rfl
  · rintro ⟨i, k⟩ f s ⟨hi0, hi1, hki, hkl, hJ, g1, g2⟩
    dsimp only at hi0 hi1 hki hkl hJ ⊢
    have hlen := hv.len
    simp (disch := omega) only [↓CTL, ↓DRW, VAL, DRV, Nat.reduceBEq, Nat.reduceAdd, m112_0, g1, hlen]
    refine B_if (fun hlt => ?_) (fun hge => ?_)
    · simp (disch := omega) only [↓CTL, ↓DRW, VAL, DRV, Nat.reduceBEq, Nat.reduceAdd, m112_0]
      refine dr_go [] [] ?_ ?_; · decide
      have hTs := hv s (hJd _ _ hJ)
      have hS := hTs.S
      have hsl := (hTs.sub (a := i) (b := l.length) (by omega) (by omega) (Int.le_refl _)).len
      have hsll : ((l.drop i.toNat).take ((l.length : Int) - i).toNat).length = ((l.length : Int) - i).toNat := by simp; omega
      rw [hsll] at hsl
      simp (disch := omega) only [↓CTL, ↓DRW, VAL, DRV, Nat.reduceBEq, Nat.reduceAdd, m112_0, g1, g2, hS, hsl]
      have hm1 : i + min n (((l.length : Int) - i).toNat : Int) ≤ l.length := by omega
      have hm2 : i < i + min n (((l.length : Int) - i).toNat : Int) := by omega
      have hm3 : i + min n (((l.length : Int) - i).toNat : Int) ≤ i + n := by omega
      generalize i + min n (((l.length : Int) - i).toNat : Int) = j at hm1 hm2 hm3
      have h3 := (hTs.sl3 (k := .i64) (k' := .i64) (k3 := .i64) (a := i) (b := j) (by omega) (by omega) hm1).1
      simp (disch := omega) only [↓CTL, ↓DRW, VAL, DRV, Nat.reduceBEq, Nat.reduceAdd, m112_0, h3]
      refine (hy k s [slV3 1 v i j] (by omega) hJ ⟨_, _, rfl, hv.sl3 (by omega) (by omega) hm1, by simp; omega, by simp; omega⟩).mono fun o s' hs => ?_
      obtain ⟨hx, hnx, hs⟩ := hs
      have q1 := (hx N1 (.inl rfl)).trans g1
      have q2 := (hx N2 (.inr rfl)).trans g2
      rcases hs with ⟨rfl, hJ'⟩ | ⟨rfl, hE'⟩
      · simp (disch := omega) only [↓CTL, ↓DRW, VAL, DRV, Nat.reduceBEq, Nat.reduceAdd, m112_0, q1, q2, Bool.not_true]
        exact ⟨(i + n, k + 1), rfl, ⟨by dsimp only; omega, by dsimp only; omega, by dsimp only; omega, by dsimp only; omega, hJ'⟩, by dsimp only; omega⟩
      · simp (disch := omega) only [↓CTL, ↓DRW, VAL, DRV, Nat.reduceBEq, Nat.reduceAdd, m112_0, Bool.not_false]
        exact ⟨⟨_, rfl⟩, .inr hE'⟩
    · simp (disch := omega) only [↓CTL, ↓DRW, VAL, DRV, Nat.reduceBEq, Nat.reduceAdd, m112_0, g1, hlen]
      exact ⟨⟨_, rfl⟩, .inl ⟨k, hkl, hJ⟩⟩
end Go.Proofs.YtkfahdbjndihfabGreat
namespace Go.Proofs.YtkfahdbjndihfabGreat
open Go.Tc
set_option linter.unusedSimpArgs false
set_option linter.unusedVariables false
set_option maxRecDepth 20000
set_option maxHeartbeats 4000000
structure WrI (σ : AHeap) (PX : Nat → Prop) (c : Nat) (s : AHeap) : Prop where
  ext : Ext σ s
  nx : σ.next + 1 ≤ s.next
  bx : ∃ v bl, s.objs σ.next = some (.cells 1 [[v]]) ∧ OwnS s (σ.next + 1) 1 rU v bl ∧ bl.length ≤ c ∧ ∀ M, PX M → σ.next < M ∧ M < s.next ∧ Off v M
section
variable {σ s t : AHeap} {PX PX' : Nat → Prop} {c c' : Nat}
theorem WrI.ext' (h : WrI σ PX c s) (hE : Ext s t) : WrI σ PX c t := by
  obtain ⟨v, bl, h1, h2, h3, h4⟩ := h.bx
  have := h.nx
  exact ⟨h.ext.trans hE, Nat.le_trans h.nx hE.1, v, bl, (hE.2 _ (by omega)).trans h1, h2.ext hE, h3, fun M hM => ⟨(h4 M hM).1, Nat.lt_of_lt_of_le (h4 M hM).2.1 hE.1, (h4 M hM).2.2⟩⟩
theorem WrI.set (h : WrI σ PX c s) {M : Nat} (hM : PX M) (o : AObj) : WrI σ PX c (s.set M o) := by
  obtain ⟨v, bl, h1, h2, h3, h4⟩ := h.bx
  obtain ⟨q1, q2, q3⟩ := h4 M hM
  exact ⟨h.ext.set (by omega) _, h.nx, v, bl, by rw [objs_else (by omega)]; exact h1, h2.set q3 _, h3, h4⟩
theorem WrI.kill (h : WrI σ PX c s) {M : Nat} (hM : PX M) : WrI σ PX c (s.kill M) := by
  obtain ⟨v, bl, h1, h2, h3, h4⟩ := h.bx
  obtain ⟨q1, q2, q3⟩ := h4 M hM
  exact ⟨h.ext.kill (by omega), h.nx, v, bl, by rw [AHeap.objs_kill, if_neg (by omega)]; exact h1, h2.kill q3, h3, h4⟩
theorem WrI.less (h : WrI σ PX c s) (hc : c ≤ c') (hP : ∀ M, PX' M → PX M) : WrI σ PX' c' s := by
  obtain ⟨v, bl, h1, h2, h3, h4⟩ := h.bx
  exact ⟨h.ext, h.nx, v, bl, h1, h2, by omega, fun M hM => h4 M (hP M hM)⟩
theorem WrI.more (h : WrI σ PX c s) (hE : Ext s t) (hP : ∀ M, PX' M → PX M ∨ (s.next ≤ M ∧ M < t.next)) : WrI σ PX' c t := by
  obtain ⟨v, bl, h1, h2, h3, h4⟩ := h.bx
  have hn := h.nx
  refine ⟨h.ext.trans hE, Nat.le_trans h.nx hE.1, v, bl, (hE.2 _ (by omega)).trans h1, h2.ext hE, h3, fun M hM => ?_⟩
  rcases hP M hM with h' | h'
  · exact ⟨(h4 M h').1, Nat.lt_of_lt_of_le (h4 M h').2.1 hE.1, (h4 M h').2.2⟩
  · exact ⟨by omega, h'.2, h2.off_new h'.1⟩
theorem WrI.app (h : WrI σ PX c s) {w : AVal} {pl : List Int} {k : Nat} (hw : elems s 1 w = some (pl.map rU)) (hk : pl.length ≤ k) (hc : c + k ≤ 100000000000) :
    ∃ v v' t, s.objs σ.next = some (.cells 1 [[v]]) ∧ appA s 1 1 v w = some (v', t) ∧ t.objs σ.next = some (.cells 1 [[v]]) ∧ v'.one = true ∧ s.next ≤ t.next ∧ WrI σ PX (c + k) (t.set σ.next (.cells 1 [[v']])) ∧ ∀ M, M < s.next → PX M → t.objs M = s.objs M := by
  obtain ⟨v, bl, h1, h2, h3, h4⟩ := h.bx
  have hn := h.nx
  obtain ⟨v', t, ha, j1, j2, j3, j4⟩ := h2.app (bytes := 1) hw (by omega) (sumLen_ok (by omega) (by omega))
  have g := (j3 σ.next (by omega) (h2.off_old (by omega))).trans h1
  have hE : Ext σ t := ⟨by have := h.ext.1; omega, fun M hM => (j3 M (by have := h.ext.1; omega) (h2.off_old (by omega))).trans (h.ext.2 M hM)⟩
  have hv' : Off v' σ.next := j4 _ (by omega) (h2.off_old (by omega))
  refine ⟨v, v', t, h1, ha, g, j1.one, j2, ⟨hE.set (Nat.le_refl _) _, by simp only [AHeap.next_set]; omega, v', _, by simp only [VAL], j1.set hv' _, by simp; omega, fun M hM => ?_⟩, fun M hM hP => j3 M hM (h4 M hP).2.2⟩
  obtain ⟨q1, q2, q3⟩ := h4 M hM
  exact ⟨q1, by simp only [AHeap.next_set]; omega, j4 M q2 q3⟩
end
theorem s46 {σ : AHeap} {v : AVal} {fs : List Fr} (hv : EV σ 3 Fr.row v fs) (hf : ∀ f ∈ fs, EV σ 1 rU f.px f.l) (hl : fs.length ≤ 1048576) :
    RunV Tryz.prog (.func (.func 46) [] []) [v] σ (fun o s => ∃ u e bl, o = .ret (.tup [u, .int .i64 e]) ∧ Ext σ s ∧ OwnS s σ.next 1 rU u bl ∧ bl.length ≤ 10000000000) := by
  refine RunV.func mixed k46 (by simp) ?_
  simp (disch := omega) only [c46, ↓CTL, ↓DRW, VAL, DRV, ROW, Nat.reduceBEq, Nat.reduceAdd]
  refine s74 hv hf hl fun e he => ?_
  simp (disch := omega) only [↓CTL, ↓DRW, VAL, DRV, ROW, Nat.reduceBEq, Nat.reduceAdd]
  refine B_if (fun _ => ?_) (fun he0 => ?_)
  · simp (disch := omega) only [↓CTL, ↓DRW, VAL, DRV, ROW, Nat.reduceBEq, Nat.reduceAdd]
    exact ⟨_, _, [], rfl, .refl _, .nil, by simp⟩
  obtain ⟨hl1, hl2, hok⟩ := he (by omega)
  simp (disch := omega) only [↓CTL, ↓DRW, VAL, DRV, ROW, Nat.reduceBEq, Nat.reduceAdd]
  refine dg_go [] [] ?_ ?_; · decide
  dsimp only [ghL, ghH, isGh, bares, AVal.bare, cond]
  have hva := (hv _ ((Ext.refl _).alloc (.cells 1 [[.nilS]]))).S
  simp (disch := omega) only [↓CTL, ↓DRW, VAL, DRV, ROW, FILL, Nat.reduceBEq, Nat.reduceAdd, hva, Fr.row_eq, Int.toNat_zero, hv.len]
  refine A_loopV (α := Nat) m46_0 (fun i => [(32, .int .i64 i)]) (fun i s => i ≤ fs.length ∧ WrI σ (fun _ => False) (5 + i * 110813184) s) (fun i => fs.length - i) rfl (fun _ => rfl) ⟨0, ?_, Nat.zero_le _, ?_⟩ ?_
  · simp only [↓CTL, VAL, Nat.reduceBEq]; try rfl
  · refine ⟨?_, by simp only [VAL]; omega, .ms 1 (σ.next + 1) 0 5 true, [83, 78, IntKind.u8.wrap (fs.getD 0 default).w, IntKind.u8.wrap (fs.getD 0 default).h, IntKind.u8.wrap fs.length], by simp only [VAL], .inr ⟨σ.next + 1, true, rfl, Nat.le_refl _, by simp only [VAL]; omega, by simp (disch := omega) only [VAL]; rfl⟩, by simp, fun _ h => h.elim⟩
    repeat first | exact Ext.refl _ | refine Ext.alloc ?_ _ | refine Ext.set ?_ (by omega) _
  · rintro i f s ⟨hi, hW⟩
    have hnx := hW.nx
    simp (disch := omega) only [↓CTL, ↓DRW, VAL, DRV, Nat.reduceBEq, Nat.reduceAdd, m46_0]
    refine B_if (fun hlt => ?_) (fun hge => ?_)
    · have hvs := (hv s hW.ext).S
      have hfi := hf _ (getD_mem (l := fs) (j := i) (by omega))
      have hki := (hok i (by omega)).1
      generalize hgi : fs.getD i default = fi at hfi hki
      have ho := hfi.one
      have hwi := hki.w
      have hhi := hki.h
      have hpl : fi.l.length ≤ 2304 := by
        have h1 := hki.l
        have h2 : fi.w * fi.h ≤ 48 * 48 := Int.mul_le_mul hwi.2 hhi.2 (by omega) (by omega)
        omega
      simp (disch := omega) only [↓CTL, ↓DRW, ↓RK, VAL, DRV, ROW, Nat.reduceBEq, Nat.reduceAdd, m46_0, hvs, Int.toNat_natCast, hgi, Fr.row_eq, ho]
      refine s90 ho (by omega) ?_
      simp (disch := omega) only [↓CTL, ↓DRW, ↓RK, VAL, DRV, ROW, Nat.reduceBEq, Nat.reduceAdd, m46_0, ho]
      generalize hT : AHeap.alloc (AHeap.alloc _ (.cells 1 [[fi.px]])) (.cells 1 [[.int .i64 fi.w]]) = t0
      have e0 : Ext s t0 := by
        rw [← hT]
        repeat first | exact Ext.refl _ | refine Ext.alloc ?_ _ | refine Ext.set ?_ (by omega) _
      have n0 : t0.next = s.next + 1 + 1 + 1 := by rw [← hT]; simp only [VAL]
      have q1 : t0.objs (s.next + 1) = some (.cells 1 [[fi.px]]) := by rw [← hT]; simp (disch := omega) only [VAL]
      have q2 : t0.objs (s.next + 1 + 1) = some (.cells 1 [[.int .i64 fi.w]]) := by rw [← hT]; simp (disch := omega) only [VAL]
      clear hT
      refine A_rangeX (g := 112) (first := []) (caps := [.ptr (s.next + 1) 0 0, .ptr (s.next + 1 + 1) 0 0]) ?hf (s112 (n := fi.w) hfi (by omega) (by omega)) (fun k t => WrI σ (fun M => (M = s.next + 1 ∨ M = s.next + 1 + 1) ∨ M = t0.next) (5 + i * 110813184 + k * 48096) t) (fun _ _ => False) (by kernel_rfl) (fun L h => by cases h)
        (fun M hM => by omega) (fun k a b h hE => h.ext' hE) (fun k a M o hM h => h.set hM o) (fun k a h => h.ext) (fun k a h => (h.bx.choose_spec.choose_spec.2.2.2 _ (.inr rfl)).2.1) ?h0 ?hP0 ?hr ?hn (fun _ _ h => h.elim)
      case hf => simp (disch := omega) only [↓CTL, VAL, Nat.reduceBEq]
      case h0 =>
        intro lo
        refine (hW.less (PX' := fun _ => False) (c' := 5 + i * 110813184 + 0 * 48096) (by omega) (fun _ h => h)).more (e0.alloc _) fun M hM => .inr ?_
        simp only [AHeap.next_alloc]
        omega
      case hP0 =>
        intro lo
        simp (disch := omega) only [VAL, q1, q2]
      case hr =>
        rintro k t lo args hk hI hL ⟨w, r, rfl, hw, hr1, hr2⟩
        refine ⟨rfl, ?_⟩
        simp (disch := omega) only [↓CTL, ↓DRW, ↓RK, VAL, ENV, DRV, Nat.reduceBEq, Nat.reduceAdd, hL]
        intro lo'
        have hIs := hI.set (M := t0.next) (.inr rfl) (.loop lo')
        have nIs := hIs.nx
        obtain ⟨vb, blb, -, -, -, hpx⟩ := hIs.bx
        have pL := hpx t0.next (.inr rfl)
        have pN1 := hpx (s.next + 1) (.inl (.inl rfl))
        have pN2 := hpx (s.next + 1 + 1) (.inl (.inr rfl))
        have oL : (t.set t0.next (.loop lo')).objs t0.next = some (.loop lo') := by simp only [VAL]
        have hkeep : ∀ M, M = s.next + 1 ∨ M = s.next + 1 + 1 → (t.set t0.next (.loop lo')).objs M = t.objs M := fun M hM => objs_else (by omega)
        have hnt : (t.set t0.next (.loop lo')).next = t.next := rfl
        generalize t.set t0.next (.loop lo') = t1 at hIs nIs hpx pL pN1 pN2 oL hkeep hnt
        refine s91 hw.one ?_
        simp (disch := omega) only [↓CTL, ↓DRW, ↓RK, VAL, ENV, DRV, Nat.reduceBEq, Nat.reduceAdd]
        refine A_rangeX (g := 113) (first := []) (caps := [.ptr t1.next 0 0]) ?hf2 (s113 (B := t1.next + 1 + 1) (by have := hIs.ext.1; omega) hw (by omega)) (fun k2 u => WrI σ (fun M => ((M = s.next + 1 ∨ M = s.next + 1 + 1) ∨ M = t0.next) ∨ (M = t1.next ∨ M = t1.next + 1)) (5 + i * 110813184 + k * 48096 + k2 * 1002) u ∧ u.objs t0.next = some (.loop lo') ∧ (∀ M, M = s.next + 1 ∨ M = s.next + 1 + 1 → u.objs M = t1.objs M) ∧ t1.next ≤ u.next) (fun _ _ => False) (by kernel_rfl) (fun L h => ?hrd)
          (fun M hM => by subst hM; simp only [VAL]; omega) (fun k2 a b h hE => ?hx1) (fun k2 a M o hM h => ?hx2) (fun k2 a h => h.1.ext) (fun k2 a h => ?hx4) ?hx0 ?hxP ?hxr ?hxn (fun _ _ h => h.elim)
        case hf2 => simp (disch := omega) only [↓CTL, VAL, Nat.reduceBEq]
        case hrd =>
          cases h
          exact ⟨lo', by simp (disch := omega) only [VAL, oL]⟩
        case hx1 =>
          obtain ⟨a1, a2, a3, a4⟩ := h
          have b1 := (a1.bx.choose_spec.choose_spec.2.2.2 t0.next (.inl (.inr rfl))).2.1
          exact ⟨a1.ext' hE, (hE.2 _ b1).trans a2, fun M hM => (hE.2 _ (a1.bx.choose_spec.choose_spec.2.2.2 M (.inl (.inl hM))).2.1).trans (a3 M hM), Nat.le_trans a4 hE.1⟩
        case hx2 =>
          obtain ⟨a1, a2, a3, a4⟩ := h
          have hM' : M = t1.next ∨ M = t1.next + 1 := by simp only [VAL] at hM; exact hM
          exact ⟨a1.set (.inr hM') o, by rw [objs_else (by omega)]; exact a2, fun M' hM2 => by rw [objs_else (by omega)]; exact a3 M' hM2, a4⟩
        case hx4 =>
          have := (h.1.bx.choose_spec.choose_spec.2.2.2 (t1.next + 1) (.inr (.inr rfl))).2.1
          simp only [VAL]; exact this
        case hx0 =>
          intro lo2
          refine ⟨hIs.more (((Ext.refl _).alloc _).alloc _) fun M hM => ?_, by simp (disch := omega) only [VAL, oL], fun M hM => by rw [objs_old (by simp only [VAL]; omega), objs_old (by omega)], by simp only [VAL]; omega⟩
          simp only [AHeap.next_alloc]
          rcases hM with h | h
          · exact .inl h
          · exact .inr (by omega)
        case hxP =>
          intro lo2
          refine ⟨by simp (disch := omega) only [VAL], by simp only [VAL]; omega, by simp only [VAL]; omega⟩
        case hxr =>
          rintro k2 u lo2 args hk2 ⟨a1, a2, a3, a4⟩ hL2 ⟨W, pl, rfl, hOW, hpl2⟩
          refine ⟨rfl, ?_⟩
          simp only [AHeap.next_alloc] at hL2
          simp (disch := omega) only [↓CTL, ↓DRW, ↓RK, VAL, ENV, DRV, Nat.reduceBEq, Nat.reduceAdd, hL2]
          intro lo3
          have au := a1.set (M := t1.next + 1) (.inr (.inr rfl)) (.loop lo3)
          have hel := (hOW.set (M := t1.next + 1) (hOW.off_old (by omega)) (.loop lo3)).elems
          obtain ⟨v1, v2, t', b1, b2, b3, b4, b5, b6, b7⟩ := au.app hel hpl2 (by
            have : k2 * 1002 ≤ 48 * 1002 := Nat.mul_le_mul_right _ (by omega)
            have : k * 48096 ≤ 2304 * 48096 := Nat.mul_le_mul_right _ (by omega)
            omega)
          rw [objs_else (by omega)] at b1
          simp (disch := omega) only [↓CTL, ↓DRW, ↓RK, VAL, ENV, DRV, Nat.reduceBEq, Nat.reduceAdd, b1, b2, b3, b4]
          have c1 := fun M hM => (a1.bx.choose_spec.choose_spec.2.2.2 M hM).2.1
          have c2 : ∀ M, (((M = s.next + 1 ∨ M = s.next + 1 + 1) ∨ M = t0.next) ∨ (M = t1.next ∨ M = t1.next + 1)) → M ≠ t1.next + 1 → (t'.set σ.next (.cells 1 [[v2]])).objs M = u.objs M := fun M hM hn => by
            have e1 := au.ext.1
            have e2 := (a1.bx.choose_spec.choose_spec.2.2.2 M hM).1
            rw [objs_else (by omega), b7 M (c1 M hM) hM, objs_else hn]
          have c3 : (t'.set σ.next (.cells 1 [[v2]])).objs (t1.next + 1) = some (.loop lo3) := by
            have e2 := (a1.bx.choose_spec.choose_spec.2.2.2 (t1.next + 1) (.inr (.inr rfl))).1
            rw [objs_else (by omega), b7 _ (c1 _ (.inr (.inr rfl))) (.inr (.inr rfl))]
            simp only [VAL]
          rw [objs_else (by have := au.ext.1; have e2 := (a1.bx.choose_spec.choose_spec.2.2.2 (t1.next + 1) (.inr (.inr rfl))).1; omega)] at c3
          simp only [AHeap.next_set] at b5
          refine ⟨c3, fun lo4 => ⟨⟨fun M hM => ?_, b5⟩, (b6.set (M := t1.next + 1) (.inr (.inr rfl)) _).less (by rw [Nat.add_mul]; omega) (fun _ h => h), ?_, fun M hM => ?_, by first | omega | (simp only [AHeap.next_set]; omega)⟩⟩
          · subst hM
            rw [objs_else (by omega), c2 _ (.inr (.inl rfl)) (by omega)]
          · have := c2 t0.next (.inl (.inr rfl)) (by omega)
            rw [objs_else (by omega)] at this
            exact this.trans a2
          · show ((t'.set σ.next (.cells 1 [[v2]])).set (t1.next + 1) (.loop lo4)).objs M = t1.objs M
            rw [objs_else (by omega), c2 _ (.inl (.inl hM)) (by omega)]; exact a3 M hM
        case hxn =>
          intro m u hm ⟨a1, a2, a3, a4⟩
          simp (disch := omega) only [↓CTL, ↓DRW, ↓RK, VAL, ENV, DRV, Nat.reduceBEq, Nat.reduceAdd]
          have ak := a1.kill (M := t1.next + 1) (.inr (.inr rfl))
          refine ⟨a2, fun lo4 => ⟨⟨fun M hM => ?_, by first | omega | (simp only [AHeap.next_set, AHeap.next_kill]; omega)⟩, (ak.set (M := t0.next) (.inl (.inr rfl)) _).less ?_ (fun M hM => .inl hM)⟩⟩
          · rw [objs_else (by omega), AHeap.objs_kill, if_neg (by omega), a3 M hM, hkeep M hM]
          · have : m * 1002 ≤ 48 * 1002 := Nat.mul_le_mul_right _ (by omega)
            rw [Nat.add_mul]; omega
      case hn =>
        intro m t hm hI
        simp (disch := omega) only [↓CTL, ↓DRW, ↓RK, VAL, ENV, DRV, Nat.reduceBEq, Nat.reduceAdd, m46_0]
        refine ⟨i + 1, rfl, ⟨by omega, (hI.kill (.inr rfl)).less ?_ (fun _ h => h.elim)⟩, by omega⟩
        have : m * 48096 ≤ 2304 * 48096 := Nat.mul_le_mul_right _ (by omega)
        omega
    · obtain ⟨u, bl, g1, hO, hbl, _⟩ := hW.bx
      have ho := hO.one
      simp (disch := omega) only [↓CTL, ↓DRW, VAL, DRV, ROW, Nat.reduceBEq, Nat.reduceAdd, m46_0, g1, ho]
      refine s44 hO.tv (by omega) fun n => ?_
      obtain ⟨u', t, ha, j1, j2, j3, j4⟩ := hO.lits (bytes := 1) (n := 2) (ex := true) (xs := [IntKind.u8.wrap (n.fdiv (2 ^ (min (Int.toNat 8) IntKind.i64.bits))), IntKind.u8.wrap n]) (rows := [[.int .u8 (IntKind.u8.wrap (n.fdiv (2 ^ (min (Int.toNat 8) IntKind.i64.bits))))], [.int .u8 (IntKind.u8.wrap n)]]) rfl rfl (by omega) (sumLen_ok (by simp; omega) (by simp; omega))
      simp (disch := omega) only [↓CTL, ↓DRW, VAL, DRV, FILL, Nat.reduceBEq, Nat.reduceAdd, m46_0, g1, ho, ha]
      refine ⟨_, _, _, rfl, hO.appE (by omega) hW.ext j2 j3, j1.weak (by omega), ?_⟩
      simp; omega
end Go.Proofs.YtkfahdbjndihfabGreat
