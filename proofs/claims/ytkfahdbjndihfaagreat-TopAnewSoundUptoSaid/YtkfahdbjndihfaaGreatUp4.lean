/- Proved here: the law TopAnewSound returns true for every argument of bulk at most 1048576 and leaves it as it was; no other condition. (part 4 of 5.) -/
import Derived.Test.YtkfahdbjndihfaaGreatUp3
import Derived.Test.YtkfahdbjndihfaaGreatChecked
set_option linter.unusedSimpArgs false
set_option linter.unusedVariables false
set_option linter.unnecessarySimpa false
namespace Go.Proofs.YtkfahdbjndihfaaGreat
open Go.Tc
def c3 : ACode :=
 .seq (.ops [
   ⟨(some 1), .box (.t 0), none, []⟩,
   ⟨(some 2), .mv (.c (.bool false)), none, []⟩])
 (.seq (.ops [
   ⟨(some 3), .alloc [.nilS, .nilS], none, []⟩,
   ⟨(some 4), .alloc [.nilS, .nilS], none, []⟩])
 (.seq (.ops [
   ⟨(some 6), .load true 26 (.t 1), none, []⟩,
   ⟨(some 7), .callF 4 [(.t 6), (.t 3)], none, []⟩])
 (.seq (.ops [
   ⟨(some 8), .mkF (.func 6) [] [(.t 1)], none, []⟩,
   ⟨(some 9), .callF 5 [(.t 8)], none, []⟩,
   ⟨(some 10), .mv (.t 9), none, []⟩,
   ⟨(some 11), .mkF (.func 12) [] [(.t 1)], (some (10, true)), []⟩,
   ⟨(some 12), .callF 5 [(.t 11)], (some (10, true)), []⟩,
   ⟨(some 13), .pick (.t 10) (.t 12) (.c (.bool false)), none, []⟩,
   ⟨(some 14), .mv (.t 13), none, []⟩,
   ⟨(some 15), .mkF (.func 16) [] [(.t 1)], (some (14, true)), []⟩,
   ⟨(some 16), .callF 5 [(.t 15)], (some (14, true)), []⟩,
   ⟨(some 17), .pick (.t 14) (.t 16) (.c (.bool false)), none, []⟩,
   ⟨(some 18), .mv (.t 17), none, []⟩,
   ⟨(some 19), .mkF (.func 21) [] [(.t 1)], (some (18, true)), []⟩,
   ⟨(some 20), .callF 5 [(.t 19)], (some (18, true)), []⟩,
   ⟨(some 21), .pick (.t 18) (.t 20) (.c (.bool false)), none, []⟩,
   ⟨(some 22), .mv (.t 21), none, []⟩,
   ⟨(some 23), .mkF (.func 24) [] [(.t 1)], (some (22, true)), []⟩,
   ⟨(some 24), .callF 5 [(.t 23)], (some (22, true)), []⟩,
   ⟨(some 25), .pick (.t 22) (.t 24) (.c (.bool false)), none, []⟩,
   ⟨(some 26), .mv (.t 25), none, []⟩,
   ⟨(some 27), .mkF (.func 26) [] [(.t 1)], (some (26, true)), []⟩,
   ⟨(some 28), .callF 5 [(.t 27)], (some (26, true)), []⟩,
   ⟨(some 29), .pick (.t 26) (.t 28) (.c (.bool false)), none, []⟩,
   ⟨(some 30), .mv (.t 29), none, []⟩,
   ⟨(some 31), .mkF (.func 32) [] [(.t 1)], (some (30, true)), []⟩,
   ⟨(some 32), .callF 5 [(.t 31)], (some (30, true)), []⟩,
   ⟨(some 33), .pick (.t 30) (.t 32) (.c (.bool false)), none, []⟩,
   ⟨(some 34), .mv (.t 33), none, []⟩,
   ⟨(some 35), .mkF (.func 34) [] [(.t 1)], (some (34, true)), []⟩,
   ⟨(some 36), .callF 5 [(.t 35)], (some (34, true)), []⟩,
   ⟨(some 37), .pick (.t 34) (.t 36) (.c (.bool false)), none, []⟩,
   ⟨(some 38), .mv (.t 37), none, []⟩,
   ⟨(some 39), .mkF (.func 39) [] [(.t 1)], (some (38, true)), []⟩,
   ⟨(some 40), .callF 5 [(.t 39)], (some (38, true)), []⟩,
   ⟨(some 41), .pick (.t 38) (.t 40) (.c (.bool false)), none, []⟩,
   ⟨(some 42), .mv (.t 41), none, []⟩,
   ⟨(some 43), .mkF (.func 42) [] [(.t 1)], (some (42, true)), []⟩,
   ⟨(some 44), .callF 5 [(.t 43)], (some (42, true)), []⟩,
   ⟨(some 45), .pick (.t 42) (.t 44) (.c (.bool false)), none, []⟩,
   ⟨(some 46), .mv (.t 45), none, []⟩,
   ⟨(some 47), .mkF (.func 45) [] [(.t 1)], (some (46, true)), []⟩,
   ⟨(some 48), .callF 5 [(.t 47)], (some (46, true)), []⟩,
   ⟨(some 49), .pick (.t 46) (.t 48) (.c (.bool false)), none, []⟩,
   ⟨(some 50), .mv (.t 49), none, []⟩,
   ⟨(some 51), .mkF (.func 48) [] [(.t 1)], (some (50, true)), []⟩,
   ⟨(some 52), .callF 5 [(.t 51)], (some (50, true)), []⟩,
   ⟨(some 53), .pick (.t 50) (.t 52) (.c (.bool false)), none, []⟩,
   ⟨(some 54), .mv (.t 53), none, []⟩,
   ⟨(some 55), .mkF (.func 51) [] [(.t 1)], (some (54, true)), []⟩,
   ⟨(some 56), .callF 5 [(.t 55)], (some (54, true)), []⟩,
   ⟨(some 57), .pick (.t 54) (.t 56) (.c (.bool false)), none, []⟩,
   ⟨(some 5), .mv (.t 57), none, []⟩])
 (.seq (.ops [
   ⟨(some 58), .load true 26 (.t 1), none, []⟩,
   ⟨(some 59), .callF 4 [(.t 58), (.t 4)], none, []⟩])
 (.seq (.ops [
   ⟨(some 60), .mv (.t 5), none, []⟩,
   ⟨(some 61), .mv (.t 60), none, []⟩,
   ⟨(some 62), .load true 2 (.t 3), (some (61, true)), []⟩,
   ⟨(some 63), .load true 2 (.t 4), (some (61, true)), []⟩,
   ⟨(some 64), .callF 54 [(.t 62), (.t 63)], (some (61, true)), []⟩,
   ⟨(some 65), .pick (.t 61) (.t 64) (.c (.bool false)), none, []⟩,
   ⟨(some 66), .mv (.t 65), none, []⟩,
   ⟨(some 67), .callF 55 [], (some (66, true)), []⟩,
   ⟨(some 68), .pick (.t 66) (.t 67) (.c (.bool false)), none, []⟩,
   ⟨(some 2), .mv (.t 68), none, []⟩])
 (.ret))))))
theorem k3 : compFunc Tryz.prog 3 = some (69, c3, [.t 2]) := by kernel_rfl
def c4 : ACode :=
 .seq (.ops [
   ⟨(some 2), .box (.t 0), none, []⟩])
 (.seq (.ops [
   ⟨(some 4), .mv (.t 1), none, []⟩,
   ⟨(some 5), .fa 0 (.t 2), none, []⟩,
   ⟨(some 6), .load true 3 (.t 5), none, []⟩,
   ⟨(some 7), .callF 56 [(.t 4), (.t 6)], none, []⟩])
 (.seq (.ops [
   ⟨(some 8), .mv (.t 1), none, []⟩,
   ⟨(some 9), .fa 3 (.t 2), none, []⟩,
   ⟨(some 10), .load true 3 (.t 9), none, []⟩,
   ⟨(some 11), .callF 56 [(.t 8), (.t 10)], none, []⟩])
 (.seq (.ops [
   ⟨(some 12), .mv (.t 1), none, []⟩,
   ⟨(some 13), .fa 6 (.t 2), none, []⟩,
   ⟨(some 14), .load false 1 (.t 13), none, []⟩,
   ⟨(some 15), .callF 14 [(.t 12), (.t 14)], none, []⟩])
 (.seq (.ops [
   ⟨(some 16), .mv (.t 1), none, []⟩,
   ⟨(some 17), .fa 7 (.t 2), none, []⟩,
   ⟨(some 18), .load true 5 (.t 17), none, []⟩,
   ⟨(some 19), .callF 57 [(.t 16), (.t 18)], none, []⟩])
 (.seq (.ops [
   ⟨(some 20), .mv (.t 1), none, []⟩,
   ⟨(some 21), .fa 12 (.t 2), none, []⟩,
   ⟨(some 22), .load false 1 (.t 21), none, []⟩,
   ⟨(some 23), .callF 14 [(.t 20), (.t 22)], none, []⟩])
 (.seq (.ops [
   ⟨(some 24), .mv (.t 1), none, []⟩,
   ⟨(some 25), .fa 13 (.t 2), none, []⟩,
   ⟨(some 26), .load false 1 (.t 25), none, []⟩,
   ⟨(some 27), .callF 14 [(.t 24), (.t 26)], none, []⟩])
 (.seq (.ops [
   ⟨(some 28), .mv (.t 1), none, []⟩,
   ⟨(some 29), .fa 14 (.t 2), none, []⟩,
   ⟨(some 30), .load false 1 (.t 29), none, []⟩,
   ⟨(some 31), .callF 14 [(.t 28), (.t 30)], none, []⟩])
 (.seq (.ops [
   ⟨(some 32), .mv (.t 1), none, []⟩,
   ⟨(some 33), .fa 15 (.t 2), none, []⟩,
   ⟨(some 34), .load false 1 (.t 33), none, []⟩,
   ⟨(some 35), .callF 14 [(.t 32), (.t 34)], none, []⟩])
 (.seq (.ops [
   ⟨(some 36), .mv (.t 1), none, []⟩,
   ⟨(some 37), .fa 16 (.t 2), none, []⟩,
   ⟨(some 38), .load false 1 (.t 37), none, []⟩,
   ⟨(some 39), .callF 14 [(.t 36), (.t 38)], none, []⟩])
 (.seq (.ops [
   ⟨(some 40), .mv (.t 1), none, []⟩,
   ⟨(some 41), .fa 17 (.t 2), none, []⟩,
   ⟨(some 42), .load false 1 (.t 41), none, []⟩,
   ⟨(some 43), .callF 58 [(.t 40), (.t 42)], none, []⟩])
 (.seq (.ops [
   ⟨(some 44), .mv (.t 1), none, []⟩,
   ⟨(some 45), .fa 18 (.t 2), none, []⟩,
   ⟨(some 46), .load false 1 (.t 45), none, []⟩,
   ⟨(some 47), .callF 36 [(.t 44), (.t 46)], none, []⟩])
 (.seq (.ops [
   ⟨(some 48), .mv (.t 1), none, []⟩,
   ⟨(some 49), .fa 19 (.t 2), none, []⟩,
   ⟨(some 50), .load false 1 (.t 49), none, []⟩,
   ⟨(some 51), .callF 14 [(.t 48), (.t 50)], none, []⟩])
 (.seq (.ops [
   ⟨(some 52), .mv (.t 1), none, []⟩,
   ⟨(some 53), .fa 20 (.t 2), none, []⟩,
   ⟨(some 54), .load false 1 (.t 53), none, []⟩,
   ⟨(some 55), .callF 36 [(.t 52), (.t 54)], none, []⟩])
 (.seq (.ops [
   ⟨(some 56), .mv (.t 1), none, []⟩,
   ⟨(some 57), .fa 21 (.t 2), none, []⟩,
   ⟨(some 58), .load false 1 (.t 57), none, []⟩,
   ⟨(some 59), .callF 36 [(.t 56), (.t 58)], none, []⟩])
 (.seq (.ops [
   ⟨(some 60), .mv (.t 1), none, []⟩,
   ⟨(some 61), .fa 22 (.t 2), none, []⟩,
   ⟨(some 62), .load false 1 (.t 61), none, []⟩,
   ⟨(some 63), .callF 14 [(.t 60), (.t 62)], none, []⟩])
 (.seq (.ops [
   ⟨(some 64), .mv (.t 1), none, []⟩,
   ⟨(some 65), .fa 23 (.t 2), none, []⟩,
   ⟨(some 66), .load false 1 (.t 65), none, []⟩,
   ⟨(some 67), .callF 36 [(.t 64), (.t 66)], none, []⟩])
 (.seq (.ops [
   ⟨(some 68), .mv (.t 1), none, []⟩,
   ⟨(some 69), .fa 24 (.t 2), none, []⟩,
   ⟨(some 70), .load false 1 (.t 69), none, []⟩,
   ⟨(some 71), .callF 14 [(.t 68), (.t 70)], none, []⟩])
 (.ops [
   ⟨(some 72), .mv (.t 1), none, []⟩,
   ⟨(some 73), .fa 25 (.t 2), none, []⟩,
   ⟨(some 74), .load false 1 (.t 73), none, []⟩,
   ⟨(some 75), .callF 14 [(.t 72), (.t 74)], none, []⟩]))))))))))))))))))
theorem k4 : compFunc Tryz.prog 4 = some (76, c4, []) := by kernel_rfl
def c5 : ACode :=
 .seq (.ops [
   ⟨(some 2), .mv (.c (.bool false)), none, []⟩])
 (.seq (.ops [
   ⟨(some 3), .alloc [.nilS, .nilS], none, []⟩,
   ⟨(some 4), .alloc [.nilS, .nilS], none, []⟩])
 (.seq (.ops [
   ⟨(some 6), .mv (.t 0), none, []⟩,
   ⟨(some 7), .callV (.t 6) [(.t 3)], none, []⟩,
   ⟨(some 5), .mv (.t 7), none, []⟩])
 (.seq (.ops [
   ⟨(some 8), .mv (.t 5), none, []⟩,
   ⟨(some 9), .callV (.t 8) [], none, []⟩])
 (.seq (.ops [
   ⟨(some 10), .mv (.t 0), none, []⟩,
   ⟨(some 11), .callV (.t 10) [(.t 4)], none, []⟩])
 (.seq (.ops [
   ⟨(some 12), .load true 2 (.t 3), none, []⟩,
   ⟨(some 13), .load true 2 (.t 4), none, []⟩,
   ⟨(some 14), .callF 54 [(.t 12), (.t 13)], none, []⟩,
   ⟨(some 2), .mv (.t 14), none, []⟩])
 (.ret))))))
theorem k5 : compFunc Tryz.prog 5 = some (15, c5, [.t 2]) := by kernel_rfl
def c6 : ACode :=
 .seq (.ops [
   ⟨(some 3), .mv (.c .nilF), none, []⟩])
 (.seq (.ops [
   ⟨(some 7), .fa 0 (.t 1), none, []⟩,
   ⟨(some 8), .load true 3 (.t 7), none, []⟩,
   ⟨(some 9), .fa 3 (.t 1), none, []⟩,
   ⟨(some 10), .load true 3 (.t 9), none, []⟩,
   ⟨(some 11), .fa 6 (.t 1), none, []⟩,
   ⟨(some 12), .load false 1 (.t 11), none, []⟩,
   ⟨(some 13), .callF 7 [(.t 8), (.t 10), (.t 12)], none, []⟩,
   ⟨(some 6), .mv (.t 13), none, []⟩,
   ⟨(some 14), .ext (.t 6) 0, none, []⟩,
   ⟨(some 15), .ext (.t 6) 1, none, []⟩,
   ⟨(some 4), .alloc [.nilS], none, []⟩,
   ⟨none, .store 1 (.t 4) (.t 14), none, []⟩,
   ⟨(some 5), .mv (.t 15), none, []⟩])
 (.seq (.ops [
   ⟨(some 16), .mv (.t 0), none, []⟩,
   ⟨(some 17), .load false 1 (.t 4), none, []⟩,
   ⟨(some 18), .callF 8 [(.t 16), (.t 17)], none, []⟩])
 (.seq (.ops [
   ⟨(some 19), .mv (.t 0), none, []⟩,
   ⟨(some 20), .mv (.t 5), none, []⟩,
   ⟨(some 21), .callF 9 [(.t 19), (.t 20)], none, []⟩])
 (.seq (.ops [
   ⟨(some 22), .mkF (.func 10) [] [(.t 4)], none, []⟩,
   ⟨(some 3), .mv (.t 22), none, []⟩])
 (.ret)))))
theorem k6 : compFunc Tryz.prog 6 = some (23, c6, [.t 3]) := by kernel_rfl
def c7 : ACode :=
 .seq (.ops [
   ⟨(some 3), .box (.t 0), none, []⟩,
   ⟨(some 4), .box (.t 1), none, []⟩,
   ⟨(some 6), .mv (.c .nilS), none, []⟩,
   ⟨(some 7), .mv (.c (.int .i64 0)), none, []⟩])
 (.seq (.ops [
   ⟨(some 17), .load true 3 (.t 3), none, []⟩,
   ⟨(some 18), .callF 59 [(.t 17)], none, []⟩,
   ⟨(some 8), .mv (.t 18), none, []⟩])
 (.seq (.seq (.ops [
   ⟨(some 19), .mv (.t 8), none, []⟩,
   ⟨(some 20), .bin .eql .int (.t 19) (.c (.int .i64 0)), none, []⟩])
 (.cond (.t 20)
  (.ops [
    ⟨(some 21), .load true 3 (.t 4), none, []⟩,
    ⟨(some 22), .callF 59 [(.t 21)], none, []⟩,
    ⟨(some 8), .mv (.t 22), none, []⟩])
  (.skip)))
 (.seq (.ops [
   ⟨(some 23), .mkM (.one (.int .i64)), none, []⟩,
   ⟨(some 24), .mv (.c (.agg [])), none, []⟩,
   ⟨(some 25), .mkI 91 (.t 24), none, []⟩,
   ⟨none, .upd (.one (.int .i64)) (.t 23) (.c (.int .i64 1)) (.t 25), none, []⟩,
   ⟨(some 26), .mv (.c (.agg [])), none, []⟩,
   ⟨(some 27), .mkI 92 (.t 26), none, []⟩,
   ⟨none, .upd (.one (.int .i64)) (.t 23) (.c (.int .i64 2)) (.t 27), none, []⟩,
   ⟨(some 28), .mv (.t 23), none, []⟩,
   ⟨(some 9), .mv (.t 28), none, []⟩])
 (.seq (.ops [
   ⟨(some 30), .mv (.t 9), none, []⟩,
   ⟨(some 31), .mv (.t 2), none, []⟩,
   ⟨(some 32), .look (.one (.int .i64)) .nilI (.t 30) (.t 31) true, none, []⟩,
   ⟨(some 29), .mv (.t 32), none, []⟩,
   ⟨(some 33), .ext (.t 29) 0, none, []⟩,
   ⟨(some 34), .ext (.t 29) 1, none, []⟩,
   ⟨(some 10), .mv (.t 33), none, []⟩,
   ⟨(some 11), .mv (.t 34), none, []⟩])
 (.seq (.block 0 (.seq (.ops [
   ⟨(some 36), .mv (.t 8), none, []⟩,
   ⟨(some 37), .bin .neq .int (.t 36) (.c (.int .i64 0)), none, []⟩,
   ⟨(some 35), .mv (.t 37), none, []⟩])
 (.cond (.t 35)
  (.seq (.ops [
    ⟨(some 38), .mv (.t 8), none, []⟩,
    ⟨(some 6), .mv (.c .nilS), none, []⟩,
    ⟨(some 7), .mv (.t 38), none, []⟩])
  (.ret))
  (.seq (.ops [
    ⟨(some 40), .fa 0 (.t 3), none, []⟩,
    ⟨(some 41), .load false 1 (.t 40), none, []⟩,
    ⟨(some 42), .fa 0 (.t 4), none, []⟩,
    ⟨(some 43), .load false 1 (.t 42), none, []⟩,
    ⟨(some 44), .bin .neq .int (.t 41) (.t 43), none, []⟩,
    ⟨(some 45), .mv (.t 44), none, []⟩,
    ⟨(some 46), .fa 1 (.t 3), (some (45, false)), []⟩,
    ⟨(some 47), .load false 1 (.t 46), (some (45, false)), []⟩,
    ⟨(some 48), .fa 1 (.t 4), (some (45, false)), []⟩,
    ⟨(some 49), .load false 1 (.t 48), (some (45, false)), []⟩,
    ⟨(some 50), .bin .neq .int (.t 47) (.t 49), (some (45, false)), []⟩,
    ⟨(some 51), .pick (.t 45) (.c (.bool true)) (.t 50), none, []⟩,
    ⟨(some 52), .mv (.t 51), none, []⟩,
    ⟨(some 53), .mv (.t 11), (some (52, false)), []⟩,
    ⟨(some 54), .un .not (.t 53), (some (52, false)), []⟩,
    ⟨(some 55), .pick (.t 52) (.c (.bool true)) (.t 54), none, []⟩,
    ⟨(some 39), .mv (.t 55), none, []⟩])
  (.cond (.t 39)
   (.seq (.ops [
     ⟨(some 6), .mv (.c .nilS), none, []⟩,
     ⟨(some 7), .mv (.c (.int .i64 2)), none, []⟩])
   (.ret))
   (.skip))))))
 (.seq (.ops [
   ⟨(some 56), .fa 1 (.t 3), none, []⟩,
   ⟨(some 57), .load false 1 (.t 56), none, []⟩,
   ⟨(some 58), .mkS [(.int .i64 0), (.int .i64 0)] 16 (.t 57) (.t 57), none, []⟩,
   ⟨(some 12), .mv (.t 58), none, []⟩])
 (.seq (.seq (.ops [
   ⟨(some 59), .fa 1 (.t 3), none, []⟩,
   ⟨(some 60), .load false 1 (.t 59), none, []⟩,
   ⟨(some 61), .mv (.c (.int .i64 0)), none, []⟩])
 (.block 1 (.loop (.seq (.ops [
    ⟨(some 62), .bin .lss .int (.t 61) (.t 60), none, []⟩])
  (.seq (.cond (.t 62)
   (.skip)
   (.exit 1))
  (.seq (.block 2 (.seq (.ops [
    ⟨(some 63), .mv (.t 61), none, []⟩,
    ⟨(some 13), .mv (.t 63), none, []⟩])
  (.seq (.ops [
    ⟨(some 64), .mv (.t 13), none, []⟩,
    ⟨(some 65), .fa 0 (.t 3), none, []⟩,
    ⟨(some 66), .load false 1 (.t 65), none, []⟩,
    ⟨(some 67), .bin .mul .int (.t 64) (.t 66), none, []⟩,
    ⟨(some 14), .mv (.t 67), none, []⟩])
  (.block 3 (.loop (.seq (.seq (.ops [
     ⟨(some 68), .mv (.t 14), none, []⟩,
     ⟨(some 69), .mv (.t 13), none, []⟩,
     ⟨(some 70), .bin .add .int (.t 69) (.c (.int .i64 1)), none, []⟩,
     ⟨(some 71), .fa 0 (.t 3), none, []⟩,
     ⟨(some 72), .load false 1 (.t 71), none, []⟩,
     ⟨(some 73), .bin .mul .int (.t 70) (.t 72), none, []⟩,
     ⟨(some 74), .bin .lss .int (.t 68) (.t 73), none, []⟩])
   (.cond (.t 74)
    (.skip)
    (.exit 3)))
   (.seq (.block 4 (.seq (.dr [
     ⟨(some 77), .fa 2 (.t 3), none, []⟩,
     ⟨(some 78), .load false 1 (.t 77), none, [0]⟩,
     ⟨(some 79), .mv (.t 14), none, []⟩,
     ⟨(some 80), .ixS 1 (.t 78) (.t 79), none, [1, 2]⟩,
     ⟨(some 81), .load false 1 (.t 80), none, [3]⟩,
     ⟨(some 82), .fa 2 (.t 3), none, []⟩,
     ⟨(some 83), .load false 1 (.t 82), none, [5]⟩,
     ⟨(some 84), .mv (.t 14), none, []⟩,
     ⟨(some 85), .ixS 1 (.t 83) (.t 84), none, [6, 7]⟩,
     ⟨(some 86), .load false 1 (.t 85), none, [8]⟩,
     ⟨(some 15), .mv (.t 81), none, [4, 0, 1, 2, 3, 4]⟩,
     ⟨(some 16), .mv (.t 86), none, [9, 10, 0, 1, 2, 3, 4, 5, 6, 7, 8, 9, 10]⟩])
   (.seq (.seq (.ops [
     ⟨(some 87), .fa 2 (.t 4), none, []⟩,
     ⟨(some 88), .load false 1 (.t 87), none, []⟩,
     ⟨(some 89), .mv (.t 14), none, []⟩,
     ⟨(some 90), .ixS 1 (.t 88) (.t 89), none, []⟩,
     ⟨(some 91), .load false 1 (.t 90), none, []⟩,
     ⟨(some 92), .bin .neq .int (.t 91) (.c (.int .u8 0)), none, []⟩])
   (.cond (.t 92)
    (.ops [
      ⟨(some 15), .mv (.c (.int .u8 0)), none, []⟩,
      ⟨(some 16), .mv (.c (.int .u8 255)), none, []⟩])
    (.skip)))
   (.seq (.dr [
     ⟨(some 93), .mv (.t 12), none, []⟩,
     ⟨(some 94), .mv (.t 13), none, []⟩,
     ⟨(some 95), .ixS 2 (.t 93) (.t 94), none, [0, 1]⟩,
     ⟨(some 96), .fa 0 (.t 95), none, [2]⟩,
     ⟨(some 97), .load false 1 (.t 96), none, [3]⟩,
     ⟨(some 98), .mv (.t 10), none, []⟩,
     ⟨(some 99), .mv (.t 15), none, []⟩,
     ⟨(some 100), .callI (.t 98) "telecine/sound.level" [(.t 99)], none, [5, 6]⟩,
     ⟨(some 101), .bin .add .int (.t 97) (.t 100), none, [4, 7]⟩,
     ⟨(some 102), .ixS 2 (.t 93) (.t 94), none, [0, 1, 0, 1, 2, 3, 4, 5, 6, 7, 8]⟩,
     ⟨(some 103), .fa 0 (.t 102), none, [9, 0, 1, 2, 3, 4, 5, 6, 7, 8]⟩,
     ⟨none, .store 1 (.t 103) (.t 101), none, [10, 8, 7, 0, 1, 2, 3, 4, 5, 6, 7, 8]⟩])
   (.dr [
     ⟨(some 104), .mv (.t 12), none, []⟩,
     ⟨(some 105), .mv (.t 13), none, []⟩,
     ⟨(some 106), .ixS 2 (.t 104) (.t 105), none, [0, 1]⟩,
     ⟨(some 107), .fa 1 (.t 106), none, [2]⟩,
     ⟨(some 108), .load false 1 (.t 107), none, [3]⟩,
     ⟨(some 109), .mv (.t 10), none, []⟩,
     ⟨(some 110), .mv (.t 16), none, []⟩,
     ⟨(some 111), .callI (.t 109) "telecine/sound.level" [(.t 110)], none, [5, 6]⟩,
     ⟨(some 112), .bin .add .int (.t 108) (.t 111), none, [4, 7]⟩,
     ⟨(some 113), .ixS 2 (.t 104) (.t 105), none, [0, 1, 0, 1, 2, 3, 4, 5, 6, 7, 8]⟩,
     ⟨(some 114), .fa 1 (.t 113), none, [9, 0, 1, 2, 3, 4, 5, 6, 7, 8]⟩,
     ⟨none, .store 1 (.t 114) (.t 112), none, [10, 8, 7, 0, 1, 2, 3, 4, 5, 6, 7, 8]⟩])))))
   (.ops [
     ⟨(some 75), .mv (.t 14), none, []⟩,
     ⟨(some 76), .bin .add .int (.t 75) (.c (.int .i64 1)), none, []⟩,
     ⟨(some 14), .mv (.t 76), none, []⟩]))))))))
  (.ops [
    ⟨(some 115), .bin .add .int (.t 61) (.c (.int .i64 1)), none, []⟩,
    ⟨(some 61), .mv (.t 115), none, []⟩])))))))
 (.seq (.ops [
   ⟨(some 116), .mv (.t 12), none, []⟩,
   ⟨(some 6), .mv (.t 116), none, []⟩,
   ⟨(some 7), .mv (.c (.int .i64 0)), none, []⟩])
 (.ret)))))))))
def m7_0 : List Nat := [62, 63, 13, 64, 65, 66, 67, 14, 68, 69, 70, 71, 72, 73, 74, 77, 78, 79, 80, 81, 82, 83, 84, 85, 86, 15, 16, 87, 88, 89, 90, 91, 92, 93, 94, 95, 96, 97, 98, 99, 100, 101, 102, 103, 104, 105, 106, 107, 108, 109, 110, 111, 112, 113, 114, 75, 76, 115, 61]
def m7_1 : List Nat := [68, 69, 70, 71, 72, 73, 74, 77, 78, 79, 80, 81, 82, 83, 84, 85, 86, 15, 16, 87, 88, 89, 90, 91, 92, 93, 94, 95, 96, 97, 98, 99, 100, 101, 102, 103, 104, 105, 106, 107, 108, 109, 110, 111, 112, 113, 114, 75, 76, 14]
theorem k7 : compFunc Tryz.prog 7 = some (117, c7, [.t 6, .t 7]) := by kernel_rfl
def c8 : ACode :=
 .ops [
   ⟨(some 4), .mv (.t 0), none, []⟩,
   ⟨(some 5), .mv (.t 1), none, []⟩,
   ⟨(some 6), .callF 60 [(.t 4), (.t 5), (.f 23)], none, []⟩]
theorem k8 : compFunc Tryz.prog 8 = some (7, c8, []) := by kernel_rfl
def c9 : ACode :=
 .ops [
   ⟨(some 4), .mv (.t 0), none, []⟩,
   ⟨(some 5), .mv (.t 0), none, []⟩,
   ⟨(some 6), .nilck (.t 5), none, []⟩,
   ⟨(some 7), .fa 0 (.t 6), none, []⟩,
   ⟨(some 8), .load false 1 (.t 7), none, []⟩,
   ⟨(some 9), .mv (.t 1), none, []⟩,
   ⟨(some 10), .buildS 1 [(.int .i64 0)] 1 [(0, (.t 9))], none, []⟩,
   ⟨(some 11), .app 1 8 (.t 8) (.t 10), none, []⟩,
   ⟨(some 12), .nilck (.t 4), none, []⟩,
   ⟨(some 13), .fa 0 (.t 12), none, []⟩,
   ⟨none, .store 1 (.t 13) (.t 11), none, []⟩]
theorem k9 : compFunc Tryz.prog 9 = some (14, c9, []) := by kernel_rfl
def c10 : ACode :=
 .ops [
   ⟨(some 1), .callF 11 [(.t 0)], none, []⟩]
theorem k10 : compFunc Tryz.prog 10 = some (2, c10, []) := by kernel_rfl
def c11 : ACode :=
 .ops [
   ⟨(some 2), .mv (.t 0), none, []⟩,
   ⟨(some 3), .nilck (.t 2), none, []⟩,
   ⟨(some 4), .load false 1 (.t 3), none, []⟩,
   ⟨(some 5), .callF 61 [(.t 4), (.f 62)], none, []⟩]
theorem k11 : compFunc Tryz.prog 11 = some (6, c11, []) := by kernel_rfl
def c12 : ACode :=
 .seq (.ops [
   ⟨(some 3), .mv (.c .nilF), none, []⟩])
 (.seq (.ops [
   ⟨(some 8), .fa 7 (.t 1), none, []⟩,
   ⟨(some 9), .load true 5 (.t 8), none, []⟩,
   ⟨(some 10), .callF 13 [(.t 9)], none, []⟩,
   ⟨(some 7), .mv (.t 10), none, []⟩,
   ⟨(some 11), .ext (.t 7) 0, none, []⟩,
   ⟨(some 12), .ext (.t 7) 1, none, []⟩,
   ⟨(some 13), .ext (.t 7) 2, none, []⟩,
   ⟨(some 4), .mv (.t 11), none, []⟩,
   ⟨(some 5), .mv (.t 12), none, []⟩,
   ⟨(some 6), .mv (.t 13), none, []⟩])
 (.seq (.ops [
   ⟨(some 14), .mv (.t 0), none, []⟩,
   ⟨(some 15), .mv (.t 4), none, []⟩,
   ⟨(some 16), .callF 14 [(.t 14), (.t 15)], none, []⟩])
 (.seq (.ops [
   ⟨(some 17), .mv (.t 0), none, []⟩,
   ⟨(some 18), .mv (.t 5), none, []⟩,
   ⟨(some 19), .callF 14 [(.t 17), (.t 18)], none, []⟩])
 (.seq (.ops [
   ⟨(some 20), .mv (.t 0), none, []⟩,
   ⟨(some 21), .mv (.t 6), none, []⟩,
   ⟨(some 22), .callF 9 [(.t 20), (.t 21)], none, []⟩])
 (.seq (.ops [
   ⟨(some 3), .mv (.f 15), none, []⟩])
 (.ret))))))
theorem k12 : compFunc Tryz.prog 12 = some (23, c12, [.t 3]) := by kernel_rfl
def c13 : ACode :=
 .seq (.ops [
   ⟨(some 1), .box (.t 0), none, []⟩,
   ⟨(some 2), .mv (.c (.int .i64 0)), none, []⟩,
   ⟨(some 3), .mv (.c (.int .i64 0)), none, []⟩,
   ⟨(some 4), .mv (.c (.int .i64 0)), none, []⟩])
 (.seq (.block 0 (.seq (.ops [
   ⟨(some 11), .fa 0 (.t 1), none, []⟩,
   ⟨(some 12), .load false 1 (.t 11), none, []⟩,
   ⟨(some 13), .callF 63 [(.t 12), (.c (.int .i64 1)), (.c (.int .i64 20000))], none, []⟩,
   ⟨(some 14), .mv (.t 13), none, []⟩,
   ⟨(some 15), .fa 1 (.t 1), (some (14, false)), []⟩,
   ⟨(some 16), .fa 0 (.t 15), (some (14, false)), []⟩,
   ⟨(some 17), .load false 1 (.t 16), (some (14, false)), []⟩,
   ⟨(some 18), .callF 63 [(.t 17), (.c (.int .i64 1)), (.c (.int .i64 4000))], (some (14, false)), []⟩,
   ⟨(some 19), .pick (.t 14) (.c (.bool true)) (.t 18), none, []⟩,
   ⟨(some 20), .mv (.t 19), none, []⟩,
   ⟨(some 21), .fa 1 (.t 1), (some (20, false)), []⟩,
   ⟨(some 22), .fa 1 (.t 21), (some (20, false)), []⟩,
   ⟨(some 23), .load false 1 (.t 22), (some (20, false)), []⟩,
   ⟨(some 24), .callF 63 [(.t 23), (.c (.int .i64 1)), (.c (.int .i64 4000))], (some (20, false)), []⟩,
   ⟨(some 25), .pick (.t 20) (.c (.bool true)) (.t 24), none, []⟩,
   ⟨(some 10), .mv (.t 25), none, []⟩])
 (.cond (.t 10)
  (.seq (.ops [
    ⟨(some 2), .mv (.c (.int .i64 1)), none, []⟩,
    ⟨(some 3), .mv (.c (.int .i64 0)), none, []⟩,
    ⟨(some 4), .mv (.c (.int .i64 7)), none, []⟩])
  (.ret))
  (.seq (.ops [
    ⟨(some 27), .fa 1 (.t 1), none, []⟩,
    ⟨(some 28), .fa 0 (.t 27), none, []⟩,
    ⟨(some 29), .load false 1 (.t 28), none, []⟩,
    ⟨(some 30), .fa 1 (.t 1), none, []⟩,
    ⟨(some 31), .fa 1 (.t 30), none, []⟩,
    ⟨(some 32), .load false 1 (.t 31), none, []⟩,
    ⟨(some 33), .bin .gtr .int (.t 29) (.t 32), none, []⟩,
    ⟨(some 26), .mv (.t 33), none, []⟩])
  (.cond (.t 26)
   (.seq (.ops [
     ⟨(some 2), .mv (.c (.int .i64 1)), none, []⟩,
     ⟨(some 3), .mv (.c (.int .i64 0)), none, []⟩,
     ⟨(some 4), .mv (.c (.int .i64 2)), none, []⟩])
   (.ret))
   (.seq (.ops [
     ⟨(some 35), .fa 3 (.t 1), none, []⟩,
     ⟨(some 36), .load false 1 (.t 35), none, []⟩,
     ⟨(some 37), .lenS (.t 36), none, []⟩,
     ⟨(some 38), .bin .gtr .int (.t 37) (.c (.int .i64 40)), none, []⟩,
     ⟨(some 34), .mv (.t 38), none, []⟩])
   (.cond (.t 34)
    (.seq (.ops [
      ⟨(some 2), .mv (.c (.int .i64 2)), none, []⟩,
      ⟨(some 3), .mv (.c (.int .i64 0)), none, []⟩,
      ⟨(some 4), .mv (.c (.int .i64 3)), none, []⟩])
    (.ret))
    (.skip))))))))
 (.seq (.seq (.ops [
   ⟨(some 39), .fa 3 (.t 1), none, []⟩,
   ⟨(some 40), .load false 1 (.t 39), none, []⟩,
   ⟨(some 41), .lenS (.t 40), none, []⟩,
   ⟨(some 42), .mv (.c (.int .i64 0)), none, []⟩])
 (.block 1 (.loop (.seq (.ops [
    ⟨(some 43), .bin .lss .int (.t 42) (.t 41), none, []⟩])
  (.seq (.cond (.t 43)
   (.skip)
   (.exit 1))
  (.seq (.block 2 (.seq (.ops [
    ⟨(some 44), .mv (.t 42), none, []⟩,
    ⟨(some 45), .ixS 3 (.t 40) (.t 42), none, []⟩,
    ⟨(some 46), .load true 3 (.t 45), none, []⟩,
    ⟨(some 6), .alloc [(.int .i64 0), (.int .i64 0), (.int .i64 0)], none, []⟩,
    ⟨(some 5), .mv (.t 44), none, []⟩,
    ⟨none, .store 3 (.t 6) (.t 46), none, []⟩])
  (.block 3 (.seq (.ops [
    ⟨(some 48), .fa 0 (.t 6), none, []⟩,
    ⟨(some 49), .load false 1 (.t 48), none, []⟩,
    ⟨(some 50), .fa 0 (.t 1), none, []⟩,
    ⟨(some 51), .load false 1 (.t 50), none, []⟩,
    ⟨(some 52), .bin .sub .int (.t 51) (.c (.int .i64 1)), none, []⟩,
    ⟨(some 53), .callF 63 [(.t 49), (.c (.int .i64 0)), (.t 52)], none, []⟩,
    ⟨(some 47), .mv (.t 53), none, []⟩])
  (.cond (.t 47)
   (.seq (.ops [
     ⟨(some 54), .mv (.t 5), none, []⟩,
     ⟨(some 2), .mv (.c (.int .i64 2)), none, []⟩,
     ⟨(some 3), .mv (.t 54), none, []⟩,
     ⟨(some 4), .mv (.c (.int .i64 4)), none, []⟩])
   (.ret))
   (.seq (.ops [
     ⟨(some 56), .fa 1 (.t 6), none, []⟩,
     ⟨(some 57), .load false 1 (.t 56), none, []⟩,
     ⟨(some 58), .callF 63 [(.t 57), (.c (.int .i64 0)), (.c (.int .i64 100000000))], none, []⟩,
     ⟨(some 59), .mv (.t 58), none, []⟩,
     ⟨(some 60), .fa 2 (.t 6), (some (59, false)), []⟩,
     ⟨(some 61), .load false 1 (.t 60), (some (59, false)), []⟩,
     ⟨(some 62), .callF 63 [(.t 61), (.c (.int .i64 0)), (.c (.int .i64 100000000))], (some (59, false)), []⟩,
     ⟨(some 63), .pick (.t 59) (.c (.bool true)) (.t 62), none, []⟩,
     ⟨(some 55), .mv (.t 63), none, []⟩])
   (.cond (.t 55)
    (.seq (.ops [
      ⟨(some 64), .mv (.t 5), none, []⟩,
      ⟨(some 2), .mv (.c (.int .i64 2)), none, []⟩,
      ⟨(some 3), .mv (.t 64), none, []⟩,
      ⟨(some 4), .mv (.c (.int .i64 7)), none, []⟩])
    (.ret))
    (.skip))))))))
  (.ops [
    ⟨(some 65), .bin .add .int (.t 42) (.c (.int .i64 1)), none, []⟩,
    ⟨(some 42), .mv (.t 65), none, []⟩])))))))
 (.seq (.seq (.ops [
   ⟨(some 66), .fa 4 (.t 1), none, []⟩,
   ⟨(some 67), .load false 1 (.t 66), none, []⟩,
   ⟨(some 68), .lenS (.t 67), none, []⟩,
   ⟨(some 69), .callF 63 [(.t 68), (.c (.int .i64 1)), (.c (.int .i64 16))], none, []⟩])
 (.cond (.t 69)
  (.seq (.ops [
    ⟨(some 2), .mv (.c (.int .i64 3)), none, []⟩,
    ⟨(some 3), .mv (.c (.int .i64 0)), none, []⟩,
    ⟨(some 4), .mv (.c (.int .i64 3)), none, []⟩])
  (.ret))
  (.skip)))
 (.seq (.ops [
   ⟨(some 7), .mv (.c (.int .i64 0)), none, []⟩])
 (.seq (.seq (.ops [
   ⟨(some 70), .fa 4 (.t 1), none, []⟩,
   ⟨(some 71), .load false 1 (.t 70), none, []⟩,
   ⟨(some 72), .lenS (.t 71), none, []⟩,
   ⟨(some 73), .mv (.c (.int .i64 0)), none, []⟩])
 (.block 4 (.loop (.seq (.ops [
    ⟨(some 74), .bin .lss .int (.t 73) (.t 72), none, []⟩])
  (.seq (.cond (.t 74)
   (.skip)
   (.exit 4))
  (.seq (.block 5 (.seq (.ops [
    ⟨(some 75), .mv (.t 73), none, []⟩,
    ⟨(some 76), .ixS 1 (.t 71) (.t 73), none, []⟩,
    ⟨(some 77), .load false 1 (.t 76), none, []⟩,
    ⟨(some 8), .mv (.t 75), none, []⟩,
    ⟨(some 9), .mv (.t 77), none, []⟩])
  (.seq (.block 6 (.seq (.ops [
    ⟨(some 79), .mv (.t 9), none, []⟩,
    ⟨(some 80), .callF 63 [(.t 79), (.c (.int .i64 1)), (.c (.int .i64 4000000))], none, []⟩,
    ⟨(some 78), .mv (.t 80), none, []⟩])
  (.cond (.t 78)
   (.seq (.ops [
     ⟨(some 81), .mv (.t 8), none, []⟩,
     ⟨(some 2), .mv (.c (.int .i64 3)), none, []⟩,
     ⟨(some 3), .mv (.t 81), none, []⟩,
     ⟨(some 4), .mv (.c (.int .i64 7)), none, []⟩])
   (.ret))
   (.seq (.ops [
     ⟨(some 83), .mv (.t 9), none, []⟩,
     ⟨(some 84), .mv (.t 7), none, []⟩,
     ⟨(some 85), .bin .leq .int (.t 83) (.t 84), none, []⟩,
     ⟨(some 82), .mv (.t 85), none, []⟩])
   (.cond (.t 82)
    (.seq (.ops [
      ⟨(some 86), .mv (.t 8), none, []⟩,
      ⟨(some 2), .mv (.c (.int .i64 3)), none, []⟩,
      ⟨(some 3), .mv (.t 86), none, []⟩,
      ⟨(some 4), .mv (.c (.int .i64 2)), none, []⟩])
    (.ret))
    (.skip))))))
  (.ops [
    ⟨(some 87), .mv (.t 9), none, []⟩,
    ⟨(some 7), .mv (.t 87), none, []⟩]))))
  (.ops [
    ⟨(some 88), .bin .add .int (.t 73) (.c (.int .i64 1)), none, []⟩,
    ⟨(some 73), .mv (.t 88), none, []⟩])))))))
 (.seq (.ops [
   ⟨(some 2), .mv (.c (.int .i64 0)), none, []⟩,
   ⟨(some 3), .mv (.c (.int .i64 0)), none, []⟩,
   ⟨(some 4), .mv (.c (.int .i64 0)), none, []⟩])
 (.ret)))))))
def m13_0 : List Nat := [43, 44, 45, 46, 6, 5, 48, 49, 50, 51, 52, 53, 47, 54, 2, 3, 4, 56, 57, 58, 59, 60, 61, 62, 63, 55, 64, 65, 42]
def m13_1 : List Nat := [74, 75, 76, 77, 8, 9, 79, 80, 78, 81, 2, 3, 4, 83, 84, 85, 82, 86, 87, 7, 88, 73]
theorem k13 : compFunc Tryz.prog 13 = some (89, c13, [.t 2, .t 3, .t 4]) := by kernel_rfl
def c14 : ACode :=
 .ops [
   ⟨(some 4), .mv (.t 0), none, []⟩,
   ⟨(some 5), .mv (.t 0), none, []⟩,
   ⟨(some 6), .nilck (.t 5), none, []⟩,
   ⟨(some 7), .fa 0 (.t 6), none, []⟩,
   ⟨(some 8), .load false 1 (.t 7), none, []⟩,
   ⟨(some 9), .mv (.t 1), none, []⟩,
   ⟨(some 10), .buildS 1 [(.int .i64 0)] 1 [(0, (.t 9))], none, []⟩,
   ⟨(some 11), .app 1 8 (.t 8) (.t 10), none, []⟩,
   ⟨(some 12), .nilck (.t 4), none, []⟩,
   ⟨(some 13), .fa 0 (.t 12), none, []⟩,
   ⟨none, .store 1 (.t 13) (.t 11), none, []⟩]
theorem k14 : compFunc Tryz.prog 14 = some (14, c14, []) := by kernel_rfl
def c15 : ACode :=
 .skip
theorem k15 : compFunc Tryz.prog 15 = some (0, c15, []) := by kernel_rfl
def c16 : ACode :=
 .seq (.ops [
   ⟨(some 3), .mv (.c .nilF), none, []⟩])
 (.seq (.ops [
   ⟨(some 7), .fa 7 (.t 1), none, []⟩,
   ⟨(some 8), .load true 5 (.t 7), none, []⟩,
   ⟨(some 9), .callF 17 [(.t 8)], none, []⟩,
   ⟨(some 6), .mv (.t 9), none, []⟩,
   ⟨(some 10), .ext (.t 6) 0, none, []⟩,
   ⟨(some 11), .ext (.t 6) 1, none, []⟩,
   ⟨(some 4), .alloc [.nilS], none, []⟩,
   ⟨none, .store 1 (.t 4) (.t 10), none, []⟩,
   ⟨(some 5), .mv (.t 11), none, []⟩])
 (.seq (.ops [
   ⟨(some 12), .mv (.t 0), none, []⟩,
   ⟨(some 13), .load false 1 (.t 4), none, []⟩,
   ⟨(some 14), .callF 18 [(.t 12), (.t 13)], none, []⟩])
 (.seq (.ops [
   ⟨(some 15), .mv (.t 0), none, []⟩,
   ⟨(some 16), .mv (.t 5), none, []⟩,
   ⟨(some 17), .callF 9 [(.t 15), (.t 16)], none, []⟩])
 (.seq (.ops [
   ⟨(some 18), .mkF (.func 19) [] [(.t 4)], none, []⟩,
   ⟨(some 3), .mv (.t 18), none, []⟩])
 (.ret)))))
theorem k16 : compFunc Tryz.prog 16 = some (19, c16, [.t 3]) := by kernel_rfl
def c17 : ACode :=
 .seq (.ops [
   ⟨(some 1), .box (.t 0), none, []⟩,
   ⟨(some 2), .mv (.c .nilS), none, []⟩,
   ⟨(some 3), .mv (.c (.int .i64 0)), none, []⟩])
 (.seq (.ops [
   ⟨(some 7), .load true 5 (.t 1), none, []⟩,
   ⟨(some 8), .callF 64 [(.t 7)], none, []⟩,
   ⟨(some 6), .mv (.t 8), none, []⟩,
   ⟨(some 9), .ext (.t 6) 0, none, []⟩,
   ⟨(some 10), .ext (.t 6) 1, none, []⟩,
   ⟨(some 4), .mv (.t 9), none, []⟩,
   ⟨(some 5), .mv (.t 10), none, []⟩])
 (.seq (.seq (.ops [
   ⟨(some 11), .mv (.t 5), none, []⟩,
   ⟨(some 12), .bin .neq .int (.t 11) (.c (.int .i64 0)), none, []⟩])
 (.cond (.t 12)
  (.seq (.ops [
    ⟨(some 13), .mv (.t 5), none, []⟩,
    ⟨(some 2), .mv (.c .nilS), none, []⟩,
    ⟨(some 3), .mv (.t 13), none, []⟩])
  (.ret))
  (.skip)))
 (.seq (.ops [
   ⟨(some 14), .mv (.t 4), none, []⟩,
   ⟨(some 15), .nilck (.t 14), none, []⟩,
   ⟨(some 16), .fa 6 (.t 15), none, []⟩,
   ⟨(some 17), .load false 1 (.t 16), none, []⟩,
   ⟨(some 2), .mv (.t 17), none, []⟩,
   ⟨(some 3), .mv (.c (.int .i64 0)), none, []⟩])
 (.ret))))
theorem k17 : compFunc Tryz.prog 17 = some (18, c17, [.t 2, .t 3]) := by kernel_rfl
def c18 : ACode :=
 .ops [
   ⟨(some 4), .mv (.t 0), none, []⟩,
   ⟨(some 5), .mv (.t 1), none, []⟩,
   ⟨(some 6), .callF 65 [(.t 4), (.t 5), (.f 66)], none, []⟩]
theorem k18 : compFunc Tryz.prog 18 = some (7, c18, []) := by kernel_rfl
def c19 : ACode :=
 .ops [
   ⟨(some 1), .callF 20 [(.t 0)], none, []⟩]
theorem k19 : compFunc Tryz.prog 19 = some (2, c19, []) := by kernel_rfl
def c20 : ACode :=
 .ops [
   ⟨(some 2), .mv (.t 0), none, []⟩,
   ⟨(some 3), .nilck (.t 2), none, []⟩,
   ⟨(some 4), .load false 1 (.t 3), none, []⟩,
   ⟨(some 5), .callF 67 [(.t 4), (.f 68)], none, []⟩]
theorem k20 : compFunc Tryz.prog 20 = some (6, c20, []) := by kernel_rfl
def c21 : ACode :=
 .seq (.ops [
   ⟨(some 3), .mv (.c .nilF), none, []⟩])
 (.seq (.ops [
   ⟨(some 7), .fa 7 (.t 1), none, []⟩,
   ⟨(some 8), .load true 5 (.t 7), none, []⟩,
   ⟨(some 9), .fa 12 (.t 1), none, []⟩,
   ⟨(some 10), .load false 1 (.t 9), none, []⟩,
   ⟨(some 11), .callF 22 [(.t 8), (.t 10)], none, []⟩,
   ⟨(some 6), .mv (.t 11), none, []⟩,
   ⟨(some 12), .ext (.t 6) 0, none, []⟩,
   ⟨(some 13), .ext (.t 6) 1, none, []⟩,
   ⟨(some 4), .alloc [(.int .i64 0), (.int .i64 0)], none, []⟩,
   ⟨none, .store 2 (.t 4) (.t 12), none, []⟩,
   ⟨(some 5), .mv (.t 13), none, []⟩])
 (.seq (.ops [
   ⟨(some 14), .mv (.t 0), none, []⟩,
   ⟨(some 15), .load true 2 (.t 4), none, []⟩,
   ⟨(some 16), .callF 23 [(.t 14), (.t 15)], none, []⟩])
 (.seq (.ops [
   ⟨(some 17), .mv (.t 0), none, []⟩,
   ⟨(some 18), .mv (.t 5), none, []⟩,
   ⟨(some 19), .callF 9 [(.t 17), (.t 18)], none, []⟩])
 (.seq (.ops [
   ⟨(some 3), .mv (.f 15), none, []⟩])
 (.ret)))))
theorem k21 : compFunc Tryz.prog 21 = some (20, c21, [.t 3]) := by kernel_rfl
def c22 : ACode :=
 .seq (.ops [
   ⟨(some 2), .box (.t 0), none, []⟩,
   ⟨(some 4), .alloc [(.int .i64 0), (.int .i64 0)], none, []⟩,
   ⟨(some 5), .mv (.c (.int .i64 0)), none, []⟩])
 (.seq (.ops [
   ⟨(some 9), .load true 5 (.t 2), none, []⟩,
   ⟨(some 10), .callF 64 [(.t 9)], none, []⟩,
   ⟨(some 8), .mv (.t 10), none, []⟩,
   ⟨(some 11), .ext (.t 8) 0, none, []⟩,
   ⟨(some 12), .ext (.t 8) 1, none, []⟩,
   ⟨(some 6), .mv (.t 11), none, []⟩,
   ⟨(some 7), .mv (.t 12), none, []⟩])
 (.seq (.block 0 (.seq (.ops [
   ⟨(some 14), .mv (.t 7), none, []⟩,
   ⟨(some 15), .bin .neq .int (.t 14) (.c (.int .i64 0)), none, []⟩,
   ⟨(some 13), .mv (.t 15), none, []⟩])
 (.cond (.t 13)
  (.seq (.ops [
    ⟨(some 16), .build [(.int .i64 0), (.int .i64 0)] [], none, []⟩,
    ⟨(some 17), .mv (.t 7), none, []⟩,
    ⟨none, .store 2 (.t 4) (.t 16), none, []⟩,
    ⟨(some 5), .mv (.t 17), none, []⟩])
  (.ret))
  (.seq (.ops [
    ⟨(some 19), .mv (.t 1), none, []⟩,
    ⟨(some 20), .fa 0 (.t 2), none, []⟩,
    ⟨(some 21), .load false 1 (.t 20), none, []⟩,
    ⟨(some 22), .bin .sub .int (.t 21) (.c (.int .i64 1)), none, []⟩,
    ⟨(some 23), .callF 63 [(.t 19), (.c (.int .i64 0)), (.t 22)], none, []⟩,
    ⟨(some 18), .mv (.t 23), none, []⟩])
  (.cond (.t 18)
   (.seq (.ops [
     ⟨(some 24), .build [(.int .i64 0), (.int .i64 0)] [], none, []⟩,
     ⟨none, .store 2 (.t 4) (.t 24), none, []⟩,
     ⟨(some 5), .mv (.c (.int .i64 7)), none, []⟩])
   (.ret))
   (.seq (.ops [
     ⟨(some 26), .fa 3 (.t 2), none, []⟩,
     ⟨(some 27), .load false 1 (.t 26), none, []⟩,
     ⟨(some 28), .lenS (.t 27), none, []⟩,
     ⟨(some 29), .bin .eql .int (.t 28) (.c (.int .i64 0)), none, []⟩,
     ⟨(some 25), .mv (.t 29), none, []⟩])
   (.cond (.t 25)
    (.seq (.ops [
      ⟨(some 30), .build [(.int .i64 0), (.int .i64 0)] [], none, []⟩,
      ⟨none, .store 2 (.t 4) (.t 30), none, []⟩,
      ⟨(some 5), .mv (.c (.int .i64 9)), none, []⟩])
    (.ret))
    (.skip))))))))
 (.seq (.ops [
   ⟨(some 31), .mv (.t 6), none, []⟩,
   ⟨(some 32), .mv (.t 1), none, []⟩,
   ⟨(some 33), .callF 69 [(.t 31), (.t 32)], none, []⟩,
   ⟨none, .store 2 (.t 4) (.t 33), none, []⟩,
   ⟨(some 5), .mv (.c (.int .i64 0)), none, []⟩])
 (.ret))))
theorem k22 : compFunc Tryz.prog 22 = some (34, c22, [.cell 4 true 2, .t 5]) := by kernel_rfl
def c23 : ACode :=
 .seq (.ops [
   ⟨(some 3), .box (.t 1), none, []⟩])
 (.seq (.ops [
   ⟨(some 4), .mv (.t 0), none, []⟩,
   ⟨(some 5), .fa 0 (.t 3), none, []⟩,
   ⟨(some 6), .load false 1 (.t 5), none, []⟩,
   ⟨(some 7), .callF 14 [(.t 4), (.t 6)], none, []⟩])
 (.ops [
   ⟨(some 8), .mv (.t 0), none, []⟩,
   ⟨(some 9), .fa 1 (.t 3), none, []⟩,
   ⟨(some 10), .load false 1 (.t 9), none, []⟩,
   ⟨(some 11), .callF 14 [(.t 8), (.t 10)], none, []⟩]))
theorem k23 : compFunc Tryz.prog 23 = some (12, c23, []) := by kernel_rfl
def c24 : ACode :=
 .seq (.ops [
   ⟨(some 3), .mv (.c .nilF), none, []⟩])
 (.seq (.ops [
   ⟨(some 8), .fa 7 (.t 1), none, []⟩,
   ⟨(some 9), .load true 5 (.t 8), none, []⟩,
   ⟨(some 10), .fa 13 (.t 1), none, []⟩,
   ⟨(some 11), .load false 1 (.t 10), none, []⟩,
   ⟨(some 12), .fa 14 (.t 1), none, []⟩,
   ⟨(some 13), .load false 1 (.t 12), none, []⟩,
   ⟨(some 14), .callF 25 [(.t 9), (.t 11), (.t 13)], none, []⟩,
   ⟨(some 7), .mv (.t 14), none, []⟩,
   ⟨(some 15), .ext (.t 7) 0, none, []⟩,
   ⟨(some 16), .ext (.t 7) 1, none, []⟩,
   ⟨(some 17), .ext (.t 7) 2, none, []⟩,
   ⟨(some 4), .mv (.t 15), none, []⟩,
   ⟨(some 5), .mv (.t 16), none, []⟩,
   ⟨(some 6), .mv (.t 17), none, []⟩])
 (.seq (.ops [
   ⟨(some 18), .mv (.t 0), none, []⟩,
   ⟨(some 19), .mv (.t 4), none, []⟩,
   ⟨(some 20), .callF 14 [(.t 18), (.t 19)], none, []⟩])
 (.seq (.ops [
   ⟨(some 21), .mv (.t 0), none, []⟩,
   ⟨(some 22), .mv (.t 5), none, []⟩,
   ⟨(some 23), .callF 14 [(.t 21), (.t 22)], none, []⟩])
 (.seq (.ops [
   ⟨(some 24), .mv (.t 0), none, []⟩,
   ⟨(some 25), .mv (.t 6), none, []⟩,
   ⟨(some 26), .callF 9 [(.t 24), (.t 25)], none, []⟩])
 (.seq (.ops [
   ⟨(some 3), .mv (.f 15), none, []⟩])
 (.ret))))))
theorem k24 : compFunc Tryz.prog 24 = some (27, c24, [.t 3]) := by kernel_rfl
def c25 : ACode :=
 .seq (.ops [
   ⟨(some 3), .box (.t 0), none, []⟩,
   ⟨(some 5), .box (.t 2), none, []⟩,
   ⟨(some 6), .alloc [(.int .i64 0)], none, []⟩,
   ⟨(some 7), .alloc [(.int .i64 0)], none, []⟩,
   ⟨(some 8), .mv (.c (.int .i64 0)), none, []⟩])
 (.seq (.ops [
   ⟨(some 14), .load true 5 (.t 3), none, []⟩,
   ⟨(some 15), .callF 64 [(.t 14)], none, []⟩,
   ⟨(some 13), .mv (.t 15), none, []⟩,
   ⟨(some 16), .ext (.t 13) 0, none, []⟩,
   ⟨(some 17), .ext (.t 13) 1, none, []⟩,
   ⟨(some 9), .mv (.t 16), none, []⟩,
   ⟨(some 8), .mv (.t 17), none, []⟩])
 (.seq (.block 0 (.seq (.ops [
   ⟨(some 19), .mv (.t 8), none, []⟩,
   ⟨(some 20), .bin .neq .int (.t 19) (.c (.int .i64 0)), none, []⟩,
   ⟨(some 18), .mv (.t 20), none, []⟩])
 (.cond (.t 18)
  (.seq (.ops [
    ⟨(some 21), .mv (.t 8), none, []⟩,
    ⟨none, .store 1 (.t 6) (.c (.int .i64 0)), none, []⟩,
    ⟨none, .store 1 (.t 7) (.c (.int .i64 0)), none, []⟩,
    ⟨(some 8), .mv (.t 21), none, []⟩])
  (.ret))
  (.seq (.ops [
    ⟨(some 23), .mv (.t 1), none, []⟩,
    ⟨(some 24), .callF 63 [(.t 23), (.c (.int .i64 1)), (.c (.int .i64 4000000))], none, []⟩,
    ⟨(some 25), .mv (.t 24), none, []⟩,
    ⟨(some 26), .load false 1 (.t 5), (some (25, false)), []⟩,
    ⟨(some 27), .callF 63 [(.t 26), (.c (.int .i64 (-1000000000))), (.c (.int .i64 1000000000))], (some (25, false)), []⟩,
    ⟨(some 28), .pick (.t 25) (.c (.bool true)) (.t 27), none, []⟩,
    ⟨(some 22), .mv (.t 28), none, []⟩])
  (.cond (.t 22)
   (.seq (.ops [
     ⟨none, .store 1 (.t 6) (.c (.int .i64 0)), none, []⟩,
     ⟨none, .store 1 (.t 7) (.c (.int .i64 0)), none, []⟩,
     ⟨(some 8), .mv (.c (.int .i64 7)), none, []⟩])
   (.ret))
   (.seq (.ops [
     ⟨(some 30), .fa 3 (.t 3), none, []⟩,
     ⟨(some 31), .load false 1 (.t 30), none, []⟩,
     ⟨(some 32), .lenS (.t 31), none, []⟩,
     ⟨(some 33), .bin .eql .int (.t 32) (.c (.int .i64 0)), none, []⟩,
     ⟨(some 29), .mv (.t 33), none, []⟩])
   (.cond (.t 29)
    (.seq (.ops [
      ⟨none, .store 1 (.t 6) (.c (.int .i64 0)), none, []⟩,
      ⟨none, .store 1 (.t 7) (.c (.int .i64 0)), none, []⟩,
      ⟨(some 8), .mv (.c (.int .i64 9)), none, []⟩])
    (.ret))
    (.skip))))))))
 (.seq (.ops [
   ⟨none, .store 1 (.t 6) (.c (.int .i64 (-1))), none, []⟩])
 (.seq (.seq (.ops [
   ⟨(some 34), .mv (.t 9), none, []⟩,
   ⟨(some 35), .mv (.t 1), none, []⟩,
   ⟨(some 36), .callF 70 [(.t 34), (.t 35)], none, []⟩])
 (.block 1 (.rangeF (.t 36) [37, 38] (.seq (.ops [
    ⟨(some 10), .mv (.t 37), none, []⟩])
  (.ops [
    ⟨(some 11), .alloc [(.int .i64 0), (.int .i64 0)], none, []⟩,
    ⟨none, .store 2 (.t 11) (.t 38), none, []⟩]))
  (.block 2 (.seq (.ops [
    ⟨(some 39), .fa 1 (.t 11), none, []⟩,
    ⟨(some 40), .load false 1 (.t 39), none, []⟩,
    ⟨(some 41), .load false 1 (.t 5), none, []⟩,
    ⟨(some 42), .bin .sub .int (.t 40) (.t 41), none, []⟩,
    ⟨(some 43), .load false 1 (.t 5), none, []⟩,
    ⟨(some 44), .fa 0 (.t 11), none, []⟩,
    ⟨(some 45), .load false 1 (.t 44), none, []⟩,
    ⟨(some 46), .bin .sub .int (.t 43) (.t 45), none, []⟩,
    ⟨(some 47), .mx [(.t 42), (.t 46)], none, []⟩,
    ⟨(some 12), .mv (.t 47), none, []⟩])
  (.seq (.ops [
    ⟨(some 48), .mv (.t 12), none, []⟩,
    ⟨(some 49), .load false 1 (.t 6), none, []⟩,
    ⟨(some 50), .bin .gtr .int (.t 48) (.t 49), none, []⟩])
  (.cond (.t 50)
   (.ops [
     ⟨(some 51), .mv (.t 12), none, []⟩,
     ⟨(some 52), .mv (.t 10), none, []⟩,
     ⟨none, .store 1 (.t 6) (.t 51), none, []⟩,
     ⟨none, .store 1 (.t 7) (.t 52), none, []⟩])
   (.skip))))))))
 (.seq (.dr [
   ⟨(some 53), .load false 1 (.t 6), none, []⟩,
   ⟨(some 54), .load false 1 (.t 7), none, []⟩,
   ⟨none, .store 1 (.t 6) (.t 53), none, [0, 0]⟩,
   ⟨none, .store 1 (.t 7) (.t 54), none, [1, 2, 0, 1, 2]⟩,
   ⟨(some 8), .mv (.c (.int .i64 0)), none, [3, 0, 1, 2, 3]⟩])
 (.ret))))))
theorem k25 : compFunc Tryz.prog 25 = some (55, c25, [.cell 6 false 1, .cell 7 false 1, .t 8]) := by kernel_rfl
def c26 : ACode :=
 .seq (.ops [
   ⟨(some 3), .mv (.c .nilF), none, []⟩])
 (.seq (.ops [
   ⟨(some 8), .fa 7 (.t 1), none, []⟩,
   ⟨(some 9), .load true 5 (.t 8), none, []⟩,
   ⟨(some 10), .callF 27 [(.t 9)], none, []⟩,
   ⟨(some 7), .mv (.t 10), none, []⟩,
   ⟨(some 11), .ext (.t 7) 0, none, []⟩,
   ⟨(some 12), .ext (.t 7) 1, none, []⟩,
   ⟨(some 13), .ext (.t 7) 2, none, []⟩,
   ⟨(some 4), .alloc [(.int .i64 0), (.int .i64 0), (.int .i64 0)], none, []⟩,
   ⟨(some 5), .alloc [.nilS], none, []⟩,
   ⟨none, .store 3 (.t 4) (.t 11), none, []⟩,
   ⟨none, .store 1 (.t 5) (.t 12), none, []⟩,
   ⟨(some 6), .mv (.t 13), none, []⟩])
 (.seq (.ops [
   ⟨(some 14), .mv (.t 0), none, []⟩,
   ⟨(some 15), .load true 3 (.t 4), none, []⟩,
   ⟨(some 16), .callF 28 [(.t 14), (.t 15)], none, []⟩])
 (.seq (.ops [
   ⟨(some 17), .mv (.t 0), none, []⟩,
   ⟨(some 18), .load false 1 (.t 5), none, []⟩,
   ⟨(some 19), .callF 29 [(.t 17), (.t 18)], none, []⟩])
 (.seq (.ops [
   ⟨(some 20), .mv (.t 0), none, []⟩,
   ⟨(some 21), .mv (.t 6), none, []⟩,
   ⟨(some 22), .callF 9 [(.t 20), (.t 21)], none, []⟩])
 (.seq (.ops [
   ⟨(some 23), .mkF (.func 30) [] [(.t 5)], none, []⟩,
   ⟨(some 3), .mv (.t 23), none, []⟩])
 (.ret))))))
theorem k26 : compFunc Tryz.prog 26 = some (24, c26, [.t 3]) := by kernel_rfl
def c27 : ACode :=
 .seq (.ops [
   ⟨(some 1), .box (.t 0), none, []⟩,
   ⟨(some 2), .alloc [(.int .i64 0), (.int .i64 0), (.int .i64 0)], none, []⟩,
   ⟨(some 3), .mv (.c .nilS), none, []⟩,
   ⟨(some 4), .mv (.c (.int .i64 0)), none, []⟩])
 (.seq (.ops [
   ⟨(some 13), .load true 5 (.t 1), none, []⟩,
   ⟨(some 14), .callF 64 [(.t 13)], none, []⟩,
   ⟨(some 12), .mv (.t 14), none, []⟩,
   ⟨(some 15), .ext (.t 12) 0, none, []⟩,
   ⟨(some 16), .ext (.t 12) 1, none, []⟩,
   ⟨(some 5), .mv (.t 15), none, []⟩,
   ⟨(some 4), .mv (.t 16), none, []⟩])
 (.seq (.block 0 (.seq (.ops [
   ⟨(some 18), .mv (.t 4), none, []⟩,
   ⟨(some 19), .bin .neq .int (.t 18) (.c (.int .i64 0)), none, []⟩,
   ⟨(some 17), .mv (.t 19), none, []⟩])
 (.cond (.t 17)
  (.seq (.ops [
    ⟨(some 20), .load true 3 (.t 2), none, []⟩,
    ⟨(some 21), .mv (.t 4), none, []⟩,
    ⟨none, .store 3 (.t 2) (.t 20), none, []⟩,
    ⟨(some 3), .mv (.c .nilS), none, []⟩,
    ⟨(some 4), .mv (.t 21), none, []⟩])
  (.ret))
  (.seq (.ops [
    ⟨(some 23), .fa 3 (.t 1), none, []⟩,
    ⟨(some 24), .load false 1 (.t 23), none, []⟩,
    ⟨(some 25), .lenS (.t 24), none, []⟩,
    ⟨(some 26), .bin .eql .int (.t 25) (.c (.int .i64 0)), none, []⟩,
    ⟨(some 22), .mv (.t 26), none, []⟩])
  (.cond (.t 22)
   (.seq (.ops [
     ⟨(some 27), .load true 3 (.t 2), none, []⟩,
     ⟨none, .store 3 (.t 2) (.t 27), none, []⟩,
     ⟨(some 3), .mv (.c .nilS), none, []⟩,
     ⟨(some 4), .mv (.c (.int .i64 9)), none, []⟩])
   (.ret))
   (.skip))))))
 (.seq (.seq (.ops [
   ⟨(some 28), .fa 4 (.t 1), none, []⟩,
   ⟨(some 29), .load false 1 (.t 28), none, []⟩,
   ⟨(some 30), .lenS (.t 29), none, []⟩,
   ⟨(some 31), .mv (.c (.int .i64 0)), none, []⟩])
 (.block 1 (.loop (.seq (.ops [
    ⟨(some 32), .bin .lss .int (.t 31) (.t 30), none, []⟩])
  (.seq (.cond (.t 32)
   (.skip)
   (.exit 1))
  (.seq (.block 2 (.seq (.ops [
    ⟨(some 33), .ixS 1 (.t 29) (.t 31), none, []⟩,
    ⟨(some 34), .load false 1 (.t 33), none, []⟩,
    ⟨(some 7), .mv (.t 34), none, []⟩])
  (.seq (.ops [
    ⟨(some 35), .mv (.t 7), none, []⟩,
    ⟨(some 36), .build [(.int .i64 0), (.int .i64 0), (.int .i64 0), (.int .i64 0)] [(0, 1, (.t 35))], none, []⟩,
    ⟨(some 8), .alloc [(.int .i64 0), (.int .i64 0), (.int .i64 0), (.int .i64 0)], none, []⟩,
    ⟨none, .store 4 (.t 8) (.t 36), none, []⟩])
  (.seq (.ops [
    ⟨(some 9), .alloc [(.int .i64 0), (.int .i64 0)], none, []⟩])
  (.seq (.seq (.ops [
    ⟨(some 37), .mv (.t 5), none, []⟩,
    ⟨(some 38), .mv (.t 7), none, []⟩,
    ⟨(some 39), .callF 70 [(.t 37), (.t 38)], none, []⟩])
  (.block 3 (.rangeF (.t 39) [40, 41] (.seq (.ops [
     ⟨(some 10), .mv (.t 40), none, []⟩])
   (.ops [
     ⟨(some 11), .alloc [(.int .i64 0), (.int .i64 0)], none, []⟩,
     ⟨none, .store 2 (.t 11) (.t 41), none, []⟩]))
   (.block 4 (.seq (.seq (.ops [
     ⟨(some 42), .mv (.t 10), none, []⟩,
     ⟨(some 43), .bin .eql .int (.t 42) (.c (.int .i64 0)), none, []⟩,
     ⟨(some 44), .mv (.t 43), none, []⟩,
     ⟨(some 45), .fa 1 (.t 11), (some (44, false)), []⟩,
     ⟨(some 46), .load false 1 (.t 45), (some (44, false)), []⟩,
     ⟨(some 47), .fa 1 (.t 9), (some (44, false)), []⟩,
     ⟨(some 48), .load false 1 (.t 47), (some (44, false)), []⟩,
     ⟨(some 49), .bin .gtr .int (.t 46) (.t 48), (some (44, false)), []⟩,
     ⟨(some 50), .pick (.t 44) (.c (.bool true)) (.t 49), none, []⟩])
   (.cond (.t 50)
    (.dr [
      ⟨(some 51), .mv (.t 10), none, []⟩,
      ⟨(some 52), .fa 1 (.t 11), none, []⟩,
      ⟨(some 53), .load false 1 (.t 52), none, [1]⟩,
      ⟨(some 54), .fa 1 (.t 8), none, [0]⟩,
      ⟨none, .store 1 (.t 54) (.t 51), none, [3, 0, 0]⟩,
      ⟨(some 55), .fa 1 (.t 9), none, [0, 1, 2, 3, 4]⟩,
      ⟨none, .store 1 (.t 55) (.t 53), none, [5, 2, 4, 0, 1, 2, 3, 4]⟩])
    (.skip)))
   (.seq (.ops [
     ⟨(some 56), .mv (.t 10), none, []⟩,
     ⟨(some 57), .bin .eql .int (.t 56) (.c (.int .i64 0)), none, []⟩,
     ⟨(some 58), .mv (.t 57), none, []⟩,
     ⟨(some 59), .fa 0 (.t 11), (some (58, false)), []⟩,
     ⟨(some 60), .load false 1 (.t 59), (some (58, false)), []⟩,
     ⟨(some 61), .fa 0 (.t 9), (some (58, false)), []⟩,
     ⟨(some 62), .load false 1 (.t 61), (some (58, false)), []⟩,
     ⟨(some 63), .bin .lss .int (.t 60) (.t 62), (some (58, false)), []⟩,
     ⟨(some 64), .pick (.t 58) (.c (.bool true)) (.t 63), none, []⟩])
   (.cond (.t 64)
    (.dr [
      ⟨(some 65), .mv (.t 10), none, []⟩,
      ⟨(some 66), .fa 0 (.t 11), none, []⟩,
      ⟨(some 67), .load false 1 (.t 66), none, [1]⟩,
      ⟨(some 68), .fa 2 (.t 8), none, [0]⟩,
      ⟨none, .store 1 (.t 68) (.t 65), none, [3, 0, 0]⟩,
      ⟨(some 69), .fa 0 (.t 9), none, [0, 1, 2, 3, 4]⟩,
      ⟨none, .store 1 (.t 69) (.t 67), none, [5, 2, 4, 0, 1, 2, 3, 4]⟩])
    (.skip))))))))
  (.seq (.ops [
    ⟨(some 70), .fa 1 (.t 9), none, []⟩,
    ⟨(some 71), .load false 1 (.t 70), none, []⟩,
    ⟨(some 72), .fa 0 (.t 9), none, []⟩,
    ⟨(some 73), .load false 1 (.t 72), none, []⟩,
    ⟨(some 74), .bin .sub .int (.t 71) (.t 73), none, []⟩,
    ⟨(some 75), .bin .add .int (.t 74) (.c (.int .i64 1)), none, []⟩,
    ⟨(some 76), .callF 71 [(.t 75)], none, []⟩,
    ⟨(some 77), .fa 3 (.t 8), none, []⟩,
    ⟨none, .store 1 (.t 77) (.t 76), none, []⟩])
  (.seq (.seq (.ops [
    ⟨(some 78), .mv (.t 3), none, []⟩,
    ⟨(some 79), .lenS (.t 78), none, []⟩,
    ⟨(some 80), .bin .eql .int (.t 79) (.c (.int .i64 0)), none, []⟩,
    ⟨(some 81), .mv (.t 80), none, []⟩,
    ⟨(some 82), .fa 3 (.t 8), (some (81, false)), []⟩,
    ⟨(some 83), .load false 1 (.t 82), (some (81, false)), []⟩,
    ⟨(some 84), .fa 2 (.t 2), (some (81, false)), []⟩,
    ⟨(some 85), .load false 1 (.t 84), (some (81, false)), []⟩,
    ⟨(some 86), .bin .lss .int (.t 83) (.t 85), (some (81, false)), []⟩,
    ⟨(some 87), .pick (.t 81) (.c (.bool true)) (.t 86), none, []⟩])
  (.cond (.t 87)
   (.dr [
     ⟨(some 88), .mv (.t 7), none, []⟩,
     ⟨(some 89), .fa 1 (.t 9), none, []⟩,
     ⟨(some 90), .load false 1 (.t 89), none, [1]⟩,
     ⟨(some 91), .fa 0 (.t 9), none, []⟩,
     ⟨(some 92), .load false 1 (.t 91), none, [3]⟩,
     ⟨(some 93), .bin .add .int (.t 90) (.t 92), none, [2, 4]⟩,
     ⟨(some 94), .callF 71 [(.t 93)], none, [5]⟩,
     ⟨(some 95), .fa 3 (.t 8), none, []⟩,
     ⟨(some 96), .load false 1 (.t 95), none, [7]⟩,
     ⟨(some 97), .build [(.int .i64 0), (.int .i64 0), (.int .i64 0)] [(0, 1, (.t 88)), (1, 1, (.t 94)), (2, 1, (.t 96))], none, [0, 6, 8]⟩,
     ⟨none, .store 3 (.t 2) (.t 97), none, [9, 6, 0, 1, 2, 3, 4, 5, 6, 7, 8, 9]⟩])
   (.skip)))
  (.ops [
    ⟨(some 98), .mv (.t 3), none, []⟩,
    ⟨(some 99), .load true 4 (.t 8), none, []⟩,
    ⟨(some 100), .buildS 4 [(.int .i64 0), (.int .i64 0), (.int .i64 0), (.int .i64 0)] 1 [(0, (.t 99))], none, []⟩,
    ⟨(some 101), .app 4 32 (.t 98) (.t 100), none, []⟩,
    ⟨(some 3), .mv (.t 101), none, []⟩]))))))))
  (.ops [
    ⟨(some 102), .bin .add .int (.t 31) (.c (.int .i64 1)), none, []⟩,
    ⟨(some 31), .mv (.t 102), none, []⟩])))))))
 (.seq (.ops [
   ⟨(some 103), .load true 3 (.t 2), none, []⟩,
   ⟨(some 104), .mv (.t 3), none, []⟩,
   ⟨none, .store 3 (.t 2) (.t 103), none, []⟩,
   ⟨(some 3), .mv (.t 104), none, []⟩,
   ⟨(some 4), .mv (.c (.int .i64 0)), none, []⟩])
 (.ret)))))
def m27_0 : List Nat := [32, 33, 34, 7, 35, 36, 8, 9, 37, 38, 39, 70, 71, 72, 73, 74, 75, 76, 77, 78, 79, 80, 81, 82, 83, 84, 85, 86, 87, 88, 89, 90, 91, 92, 93, 94, 95, 96, 97, 98, 99, 100, 101, 3, 102, 31]
theorem k27 : compFunc Tryz.prog 27 = some (105, c27, [.cell 2 true 3, .t 3, .t 4]) := by kernel_rfl
def c28 : ACode :=
 .seq (.ops [
   ⟨(some 3), .box (.t 1), none, []⟩])
 (.seq (.ops [
   ⟨(some 4), .mv (.t 0), none, []⟩,
   ⟨(some 5), .fa 0 (.t 3), none, []⟩,
   ⟨(some 6), .load false 1 (.t 5), none, []⟩,
   ⟨(some 7), .callF 14 [(.t 4), (.t 6)], none, []⟩])
 (.seq (.ops [
   ⟨(some 8), .mv (.t 0), none, []⟩,
   ⟨(some 9), .fa 1 (.t 3), none, []⟩,
   ⟨(some 10), .load false 1 (.t 9), none, []⟩,
   ⟨(some 11), .callF 14 [(.t 8), (.t 10)], none, []⟩])
 (.ops [
   ⟨(some 12), .mv (.t 0), none, []⟩,
   ⟨(some 13), .fa 2 (.t 3), none, []⟩,
   ⟨(some 14), .load false 1 (.t 13), none, []⟩,
   ⟨(some 15), .callF 14 [(.t 12), (.t 14)], none, []⟩])))
theorem k28 : compFunc Tryz.prog 28 = some (16, c28, []) := by kernel_rfl
def c29 : ACode :=
 .ops [
   ⟨(some 4), .mv (.t 0), none, []⟩,
   ⟨(some 5), .mv (.t 1), none, []⟩,
   ⟨(some 6), .callF 72 [(.t 4), (.t 5), (.f 73)], none, []⟩]
theorem k29 : compFunc Tryz.prog 29 = some (7, c29, []) := by kernel_rfl
def c30 : ACode :=
 .ops [
   ⟨(some 1), .callF 31 [(.t 0)], none, []⟩]
theorem k30 : compFunc Tryz.prog 30 = some (2, c30, []) := by kernel_rfl
def c31 : ACode :=
 .ops [
   ⟨(some 2), .mv (.t 0), none, []⟩,
   ⟨(some 3), .nilck (.t 2), none, []⟩,
   ⟨(some 4), .load false 1 (.t 3), none, []⟩,
   ⟨(some 5), .callF 74 [(.t 4), (.f 75)], none, []⟩]
theorem k31 : compFunc Tryz.prog 31 = some (6, c31, []) := by kernel_rfl
def c32 : ACode :=
 .seq (.ops [
   ⟨(some 3), .mv (.c .nilF), none, []⟩])
 (.seq (.ops [
   ⟨(some 7), .fa 15 (.t 1), none, []⟩,
   ⟨(some 8), .load false 1 (.t 7), none, []⟩,
   ⟨(some 9), .fa 16 (.t 1), none, []⟩,
   ⟨(some 10), .load false 1 (.t 9), none, []⟩,
   ⟨(some 11), .fa 17 (.t 1), none, []⟩,
   ⟨(some 12), .load false 1 (.t 11), none, []⟩,
   ⟨(some 13), .fa 12 (.t 1), none, []⟩,
   ⟨(some 14), .load false 1 (.t 13), none, []⟩,
   ⟨(some 15), .callF 33 [(.t 8), (.t 10), (.t 12), (.t 14)], none, []⟩,
   ⟨(some 6), .mv (.t 15), none, []⟩,
   ⟨(some 16), .ext (.t 6) 0, none, []⟩,
   ⟨(some 17), .ext (.t 6) 1, none, []⟩,
   ⟨(some 4), .mv (.t 16), none, []⟩,
   ⟨(some 5), .mv (.t 17), none, []⟩])
 (.seq (.ops [
   ⟨(some 18), .mv (.t 0), none, []⟩,
   ⟨(some 19), .mv (.t 4), none, []⟩,
   ⟨(some 20), .callF 14 [(.t 18), (.t 19)], none, []⟩])
 (.seq (.ops [
   ⟨(some 21), .mv (.t 0), none, []⟩,
   ⟨(some 22), .mv (.t 5), none, []⟩,
   ⟨(some 23), .callF 9 [(.t 21), (.t 22)], none, []⟩])
 (.seq (.ops [
   ⟨(some 3), .mv (.f 15), none, []⟩])
 (.ret)))))
theorem k32 : compFunc Tryz.prog 32 = some (24, c32, [.t 3]) := by kernel_rfl
def c33 : ACode :=
 .seq (.ops [
   ⟨(some 8), .mv (.c (.int .i64 0)), none, []⟩,
   ⟨(some 9), .mv (.c (.int .i64 0)), none, []⟩])
 (.seq (.seq (.ops [
   ⟨(some 13), .mv (.t 1), none, []⟩,
   ⟨(some 14), .callF 63 [(.t 13), (.c (.int .i64 0)), (.c (.int .i64 100))], none, []⟩])
 (.cond (.t 14)
  (.seq (.ops [
    ⟨(some 8), .mv (.c (.int .i64 0)), none, []⟩,
    ⟨(some 9), .mv (.c (.int .i64 7)), none, []⟩])
  (.ret))
  (.skip)))
 (.seq (.ops [
   ⟨(some 16), .mv (.t 0), none, []⟩,
   ⟨(some 17), .mv (.t 2), none, []⟩,
   ⟨(some 18), .mv (.t 3), none, []⟩,
   ⟨(some 19), .callF 76 [(.t 16), (.t 17), (.t 18)], none, []⟩,
   ⟨(some 15), .mv (.t 19), none, []⟩,
   ⟨(some 20), .ext (.t 15) 0, none, []⟩,
   ⟨(some 21), .ext (.t 15) 1, none, []⟩,
   ⟨(some 10), .mv (.t 20), none, []⟩,
   ⟨(some 11), .mv (.t 21), none, []⟩])
 (.seq (.block 0 (.seq (.ops [
   ⟨(some 23), .mv (.t 11), none, []⟩,
   ⟨(some 24), .bin .neq .int (.t 23) (.c (.int .i64 0)), none, []⟩,
   ⟨(some 22), .mv (.t 24), none, []⟩])
 (.cond (.t 22)
  (.seq (.ops [
    ⟨(some 25), .mv (.t 11), none, []⟩,
    ⟨(some 8), .mv (.c (.int .i64 0)), none, []⟩,
    ⟨(some 9), .mv (.t 25), none, []⟩])
  (.ret))
  (.seq (.ops [
    ⟨(some 27), .mv (.t 3), none, []⟩,
    ⟨(some 28), .mv (.t 1), none, []⟩,
    ⟨(some 29), .bin .add .int (.t 27) (.t 28), none, []⟩,
    ⟨(some 30), .mv (.t 0), none, []⟩,
    ⟨(some 31), .bin .geq .int (.t 29) (.t 30), none, []⟩,
    ⟨(some 26), .mv (.t 31), none, []⟩])
  (.cond (.t 26)
   (.seq (.ops [
     ⟨(some 8), .mv (.c (.int .i64 0)), none, []⟩,
     ⟨(some 9), .mv (.c (.int .i64 7)), none, []⟩])
   (.ret))
   (.skip))))))
 (.seq (.ops [
   ⟨(some 33), .mv (.t 0), none, []⟩,
   ⟨(some 34), .mv (.t 2), none, []⟩,
   ⟨(some 35), .mv (.t 3), none, []⟩,
   ⟨(some 36), .mv (.t 1), none, []⟩,
   ⟨(some 37), .bin .add .int (.t 35) (.t 36), none, []⟩,
   ⟨(some 38), .callF 76 [(.t 33), (.t 34), (.t 37)], none, []⟩,
   ⟨(some 32), .mv (.t 38), none, []⟩,
   ⟨(some 39), .ext (.t 32) 0, none, []⟩,
   ⟨(some 40), .ext (.t 32) 1, none, []⟩,
   ⟨(some 12), .mv (.t 39), none, []⟩,
   ⟨(some 11), .mv (.t 40), none, []⟩])
 (.seq (.seq (.ops [
   ⟨(some 41), .mv (.t 11), none, []⟩,
   ⟨(some 42), .bin .neq .int (.t 41) (.c (.int .i64 0)), none, []⟩])
 (.cond (.t 42)
  (.seq (.ops [
    ⟨(some 8), .mv (.c (.int .i64 0)), none, []⟩,
    ⟨(some 9), .mv (.c (.int .i64 190)), none, []⟩])
  (.ret))
  (.skip)))
 (.seq (.ops [
   ⟨(some 43), .mv (.t 1), none, []⟩,
   ⟨(some 44), .mv (.t 12), none, []⟩,
   ⟨(some 45), .bin .sub .int (.t 43) (.t 44), none, []⟩,
   ⟨(some 46), .mv (.t 10), none, []⟩,
   ⟨(some 47), .bin .add .int (.t 45) (.t 46), none, []⟩,
   ⟨(some 8), .mv (.t 47), none, []⟩,
   ⟨(some 9), .mv (.c (.int .i64 0)), none, []⟩])
 (.ret)))))))
theorem k33 : compFunc Tryz.prog 33 = some (48, c33, [.t 8, .t 9]) := by kernel_rfl
def c34 : ACode :=
 .seq (.ops [
   ⟨(some 3), .mv (.c .nilF), none, []⟩])
 (.seq (.ops [
   ⟨(some 7), .fa 18 (.t 1), none, []⟩,
   ⟨(some 8), .load false 1 (.t 7), none, []⟩,
   ⟨(some 9), .fa 19 (.t 1), none, []⟩,
   ⟨(some 10), .load false 1 (.t 9), none, []⟩,
   ⟨(some 11), .callF 35 [(.t 8), (.t 10)], none, []⟩,
   ⟨(some 6), .mv (.t 11), none, []⟩,
   ⟨(some 12), .ext (.t 6) 0, none, []⟩,
   ⟨(some 13), .ext (.t 6) 1, none, []⟩,
   ⟨(some 4), .alloc [.nilS], none, []⟩,
   ⟨none, .store 1 (.t 4) (.t 12), none, []⟩,
   ⟨(some 5), .mv (.t 13), none, []⟩])
 (.seq (.ops [
   ⟨(some 14), .mv (.t 0), none, []⟩,
   ⟨(some 15), .load false 1 (.t 4), none, []⟩,
   ⟨(some 16), .callF 36 [(.t 14), (.t 15)], none, []⟩])
 (.seq (.ops [
   ⟨(some 17), .mv (.t 0), none, []⟩,
   ⟨(some 18), .mv (.t 5), none, []⟩,
   ⟨(some 19), .callF 9 [(.t 17), (.t 18)], none, []⟩])
 (.seq (.ops [
   ⟨(some 20), .mkF (.func 37) [] [(.t 4)], none, []⟩,
   ⟨(some 3), .mv (.t 20), none, []⟩])
 (.ret)))))
theorem k34 : compFunc Tryz.prog 34 = some (21, c34, [.t 3]) := by kernel_rfl
def c35 : ACode :=
 .seq (.ops [
   ⟨(some 4), .mv (.c .nilS), none, []⟩,
   ⟨(some 5), .mv (.c (.int .i64 0)), none, []⟩])
 (.seq (.seq (.ops [
   ⟨(some 14), .mv (.t 0), none, []⟩,
   ⟨(some 15), .callF 77 [(.t 14), (.c (.int .i64 1000000))], none, []⟩,
   ⟨(some 6), .mv (.t 15), none, []⟩])
 (.seq (.ops [
   ⟨(some 16), .mv (.t 6), none, []⟩,
   ⟨(some 17), .bin .neq .int (.t 16) (.c (.int .i64 0)), none, []⟩])
 (.cond (.t 17)
  (.seq (.ops [
    ⟨(some 18), .mv (.t 6), none, []⟩,
    ⟨(some 4), .mv (.c .nilS), none, []⟩,
    ⟨(some 5), .mv (.t 18), none, []⟩])
  (.ret))
  (.skip))))
 (.seq (.block 0 (.seq (.ops [
   ⟨(some 20), .mv (.t 0), none, []⟩,
   ⟨(some 21), .lenS (.t 20), none, []⟩,
   ⟨(some 22), .bin .eql .int (.t 21) (.c (.int .i64 0)), none, []⟩,
   ⟨(some 19), .mv (.t 22), none, []⟩])
 (.cond (.t 19)
  (.seq (.ops [
    ⟨(some 4), .mv (.c .nilS), none, []⟩,
    ⟨(some 5), .mv (.c (.int .i64 9)), none, []⟩])
  (.ret))
  (.seq (.ops [
    ⟨(some 24), .mv (.t 1), none, []⟩,
    ⟨(some 25), .mv (.t 0), none, []⟩,
    ⟨(some 26), .lenS (.t 25), none, []⟩,
    ⟨(some 27), .mn [(.c (.int .i64 500)), (.t 26)], none, []⟩,
    ⟨(some 28), .callF 63 [(.t 24), (.c (.int .i64 1)), (.t 27)], none, []⟩,
    ⟨(some 23), .mv (.t 28), none, []⟩])
  (.cond (.t 23)
   (.seq (.ops [
     ⟨(some 4), .mv (.c .nilS), none, []⟩,
     ⟨(some 5), .mv (.c (.int .i64 7)), none, []⟩])
   (.ret))
   (.skip))))))
 (.seq (.ops [
   ⟨(some 7), .mv (.c (.int .i64 0)), none, []⟩])
 (.seq (.ops [
   ⟨(some 29), .mkM (.one (.int .i64)), none, []⟩,
   ⟨(some 30), .mkM (.one (.int .i64)), none, []⟩,
   ⟨(some 8), .mv (.t 29), none, []⟩,
   ⟨(some 9), .mv (.t 30), none, []⟩])
 (.seq (.seq (.ops [
   ⟨(some 31), .mv (.t 0), none, []⟩,
   ⟨(some 32), .lenS (.t 31), none, []⟩,
   ⟨(some 33), .mv (.c (.int .i64 0)), none, []⟩])
 (.block 1 (.loop (.seq (.ops [
    ⟨(some 34), .bin .lss .int (.t 33) (.t 32), none, []⟩])
  (.seq (.cond (.t 34)
   (.skip)
   (.exit 1))
  (.seq (.block 2 (.seq (.ops [
    ⟨(some 35), .mv (.t 33), none, []⟩,
    ⟨(some 36), .ixS 1 (.t 31) (.t 33), none, []⟩,
    ⟨(some 37), .load false 1 (.t 36), none, []⟩,
    ⟨(some 10), .mv (.t 35), none, []⟩,
    ⟨(some 11), .mv (.t 37), none, []⟩])
  (.seq (.ops [
    ⟨(some 38), .mv (.t 7), none, []⟩,
    ⟨(some 39), .mv (.t 11), none, []⟩,
    ⟨(some 40), .bin .add .int (.t 38) (.t 39), none, []⟩,
    ⟨(some 7), .mv (.t 40), none, []⟩])
  (.seq (.ops [
    ⟨(some 41), .mv (.t 8), none, []⟩,
    ⟨(some 42), .mv (.t 10), none, []⟩,
    ⟨(some 43), .mv (.t 1), none, []⟩,
    ⟨(some 44), .bin .rem .int (.t 42) (.t 43), none, []⟩,
    ⟨(some 45), .look (.one (.int .i64)) (.int .i64 0) (.t 41) (.t 44) false, none, []⟩,
    ⟨(some 46), .mv (.t 11), none, []⟩,
    ⟨(some 47), .bin .add .int (.t 45) (.t 46), none, []⟩,
    ⟨none, .upd (.one (.int .i64)) (.t 41) (.t 44) (.t 47), none, []⟩])
  (.ops [
    ⟨(some 48), .mv (.t 9), none, []⟩,
    ⟨(some 49), .mv (.t 10), none, []⟩,
    ⟨(some 50), .mv (.t 1), none, []⟩,
    ⟨(some 51), .bin .rem .int (.t 49) (.t 50), none, []⟩,
    ⟨(some 52), .look (.one (.int .i64)) (.int .i64 0) (.t 48) (.t 51) false, none, []⟩,
    ⟨(some 53), .bin .add .int (.t 52) (.c (.int .i64 1)), none, []⟩,
    ⟨none, .upd (.one (.int .i64)) (.t 48) (.t 51) (.t 53), none, []⟩])))))
  (.ops [
    ⟨(some 54), .bin .add .int (.t 33) (.c (.int .i64 1)), none, []⟩,
    ⟨(some 33), .mv (.t 54), none, []⟩])))))))
 (.seq (.ops [
   ⟨(some 55), .mv (.t 1), none, []⟩,
   ⟨(some 56), .mkS [(.int .i64 0)] 8 (.t 55) (.t 55), none, []⟩,
   ⟨(some 12), .mv (.t 56), none, []⟩])
 (.seq (.seq (.ops [
   ⟨(some 57), .mv (.t 12), none, []⟩,
   ⟨(some 58), .lenS (.t 57), none, []⟩,
   ⟨(some 59), .mv (.c (.int .i64 0)), none, []⟩])
 (.block 3 (.loop (.seq (.ops [
    ⟨(some 60), .bin .lss .int (.t 59) (.t 58), none, []⟩])
  (.seq (.cond (.t 60)
   (.skip)
   (.exit 3))
  (.seq (.block 4 (.seq (.ops [
    ⟨(some 61), .mv (.t 59), none, []⟩,
    ⟨(some 13), .mv (.t 61), none, []⟩])
  (.ops [
    ⟨(some 62), .mv (.t 12), none, []⟩,
    ⟨(some 63), .mv (.t 13), none, []⟩,
    ⟨(some 64), .mv (.t 8), none, []⟩,
    ⟨(some 65), .mv (.t 13), none, []⟩,
    ⟨(some 66), .look (.one (.int .i64)) (.int .i64 0) (.t 64) (.t 65) false, none, []⟩,
    ⟨(some 67), .mv (.t 9), none, []⟩,
    ⟨(some 68), .mv (.t 13), none, []⟩,
    ⟨(some 69), .look (.one (.int .i64)) (.int .i64 0) (.t 67) (.t 68) false, none, []⟩,
    ⟨(some 70), .callF 78 [(.t 66), (.t 69)], none, []⟩,
    ⟨(some 71), .mv (.t 7), none, []⟩,
    ⟨(some 72), .mv (.t 0), none, []⟩,
    ⟨(some 73), .lenS (.t 72), none, []⟩,
    ⟨(some 74), .callF 78 [(.t 71), (.t 73)], none, []⟩,
    ⟨(some 75), .bin .sub .int (.t 70) (.t 74), none, []⟩,
    ⟨(some 76), .ixS 1 (.t 62) (.t 63), none, []⟩,
    ⟨none, .store 1 (.t 76) (.t 75), none, []⟩])))
  (.ops [
    ⟨(some 77), .bin .add .int (.t 59) (.c (.int .i64 1)), none, []⟩,
    ⟨(some 59), .mv (.t 77), none, []⟩])))))))
 (.seq (.ops [
   ⟨(some 78), .mv (.t 12), none, []⟩,
   ⟨(some 4), .mv (.t 78), none, []⟩,
   ⟨(some 5), .mv (.c (.int .i64 0)), none, []⟩])
 (.ret)))))))))
def m35_0 : List Nat := [34, 35, 36, 37, 10, 11, 38, 39, 40, 7, 41, 42, 43, 44, 45, 46, 47, 48, 49, 50, 51, 52, 53, 54, 33]
def m35_1 : List Nat := [60, 61, 13, 62, 63, 64, 65, 66, 67, 68, 69, 70, 71, 72, 73, 74, 75, 76, 77, 59]
theorem k35 : compFunc Tryz.prog 35 = some (79, c35, [.t 4, .t 5]) := by kernel_rfl
def c36 : ACode :=
 .ops [
   ⟨(some 4), .mv (.t 0), none, []⟩,
   ⟨(some 5), .mv (.t 1), none, []⟩,
   ⟨(some 6), .callF 79 [(.t 4), (.t 5), (.f 14)], none, []⟩]
theorem k36 : compFunc Tryz.prog 36 = some (7, c36, []) := by kernel_rfl
def c37 : ACode :=
 .ops [
   ⟨(some 1), .callF 38 [(.t 0)], none, []⟩]
theorem k37 : compFunc Tryz.prog 37 = some (2, c37, []) := by kernel_rfl
def c38 : ACode :=
 .ops [
   ⟨(some 2), .mv (.t 0), none, []⟩,
   ⟨(some 3), .nilck (.t 2), none, []⟩,
   ⟨(some 4), .load false 1 (.t 3), none, []⟩,
   ⟨(some 5), .callF 80 [(.t 4), (.f 81)], none, []⟩]
theorem k38 : compFunc Tryz.prog 38 = some (6, c38, []) := by kernel_rfl
def c39 : ACode :=
 .seq (.ops [
   ⟨(some 3), .mv (.c .nilF), none, []⟩])
 (.seq (.ops [
   ⟨(some 7), .fa 18 (.t 1), none, []⟩,
   ⟨(some 8), .load false 1 (.t 7), none, []⟩,
   ⟨(some 9), .fa 20 (.t 1), none, []⟩,
   ⟨(some 10), .load false 1 (.t 9), none, []⟩,
   ⟨(some 11), .callF 40 [(.t 8), (.t 10)], none, []⟩,
   ⟨(some 6), .mv (.t 11), none, []⟩,
   ⟨(some 12), .ext (.t 6) 0, none, []⟩,
   ⟨(some 13), .ext (.t 6) 1, none, []⟩,
   ⟨(some 4), .alloc [.nilS], none, []⟩,
   ⟨none, .store 1 (.t 4) (.t 12), none, []⟩,
   ⟨(some 5), .mv (.t 13), none, []⟩])
 (.seq (.ops [
   ⟨(some 14), .mv (.t 0), none, []⟩,
   ⟨(some 15), .load false 1 (.t 4), none, []⟩,
   ⟨(some 16), .callF 36 [(.t 14), (.t 15)], none, []⟩])
 (.seq (.ops [
   ⟨(some 17), .mv (.t 0), none, []⟩,
   ⟨(some 18), .mv (.t 5), none, []⟩,
   ⟨(some 19), .callF 9 [(.t 17), (.t 18)], none, []⟩])
 (.seq (.ops [
   ⟨(some 20), .mkF (.func 41) [] [(.t 4)], none, []⟩,
   ⟨(some 3), .mv (.t 20), none, []⟩])
 (.ret)))))
theorem k39 : compFunc Tryz.prog 39 = some (21, c39, [.t 3]) := by kernel_rfl
def c40 : ACode :=
 .seq (.ops [
   ⟨(some 4), .mv (.c .nilS), none, []⟩,
   ⟨(some 5), .mv (.c (.int .i64 0)), none, []⟩])
 (.seq (.ops [
   ⟨(some 6), .mv (.t 0), none, []⟩,
   ⟨(some 7), .mv (.t 1), none, []⟩,
   ⟨(some 8), .callF 82 [(.t 6), (.t 7), (.c (.int .i64 (-1)))], none, []⟩,
   ⟨(some 9), .ext (.t 8) 0, none, []⟩,
   ⟨(some 10), .ext (.t 8) 1, none, []⟩,
   ⟨(some 4), .mv (.t 9), none, []⟩,
   ⟨(some 5), .mv (.t 10), none, []⟩])
 (.ret))
theorem k40 : compFunc Tryz.prog 40 = some (11, c40, [.t 4, .t 5]) := by kernel_rfl
def c41 : ACode :=
 .ops [
   ⟨(some 1), .callF 38 [(.t 0)], none, []⟩]
theorem k41 : compFunc Tryz.prog 41 = some (2, c41, []) := by kernel_rfl
def c42 : ACode :=
 .seq (.ops [
   ⟨(some 3), .mv (.c .nilF), none, []⟩])
 (.seq (.ops [
   ⟨(some 7), .fa 18 (.t 1), none, []⟩,
   ⟨(some 8), .load false 1 (.t 7), none, []⟩,
   ⟨(some 9), .fa 20 (.t 1), none, []⟩,
   ⟨(some 10), .load false 1 (.t 9), none, []⟩,
   ⟨(some 11), .callF 43 [(.t 8), (.t 10)], none, []⟩,
   ⟨(some 6), .mv (.t 11), none, []⟩,
   ⟨(some 12), .ext (.t 6) 0, none, []⟩,
   ⟨(some 13), .ext (.t 6) 1, none, []⟩,
   ⟨(some 4), .alloc [.nilS], none, []⟩,
   ⟨none, .store 1 (.t 4) (.t 12), none, []⟩,
   ⟨(some 5), .mv (.t 13), none, []⟩])
 (.seq (.ops [
   ⟨(some 14), .mv (.t 0), none, []⟩,
   ⟨(some 15), .load false 1 (.t 4), none, []⟩,
   ⟨(some 16), .callF 36 [(.t 14), (.t 15)], none, []⟩])
 (.seq (.ops [
   ⟨(some 17), .mv (.t 0), none, []⟩,
   ⟨(some 18), .mv (.t 5), none, []⟩,
   ⟨(some 19), .callF 9 [(.t 17), (.t 18)], none, []⟩])
 (.seq (.ops [
   ⟨(some 20), .mkF (.func 44) [] [(.t 4)], none, []⟩,
   ⟨(some 3), .mv (.t 20), none, []⟩])
 (.ret)))))
theorem k42 : compFunc Tryz.prog 42 = some (21, c42, [.t 3]) := by kernel_rfl
def c43 : ACode :=
 .seq (.ops [
   ⟨(some 4), .mv (.c .nilS), none, []⟩,
   ⟨(some 5), .mv (.c (.int .i64 0)), none, []⟩])
 (.seq (.ops [
   ⟨(some 6), .mv (.t 0), none, []⟩,
   ⟨(some 7), .mv (.t 1), none, []⟩,
   ⟨(some 8), .callF 82 [(.t 6), (.t 7), (.c (.int .i64 1))], none, []⟩,
   ⟨(some 9), .ext (.t 8) 0, none, []⟩,
   ⟨(some 10), .ext (.t 8) 1, none, []⟩,
   ⟨(some 4), .mv (.t 9), none, []⟩,
   ⟨(some 5), .mv (.t 10), none, []⟩])
 (.ret))
theorem k43 : compFunc Tryz.prog 43 = some (11, c43, [.t 4, .t 5]) := by kernel_rfl
def c44 : ACode :=
 .ops [
   ⟨(some 1), .callF 38 [(.t 0)], none, []⟩]
theorem k44 : compFunc Tryz.prog 44 = some (2, c44, []) := by kernel_rfl
def c45 : ACode :=
 .seq (.ops [
   ⟨(some 3), .mv (.c .nilF), none, []⟩])
 (.seq (.ops [
   ⟨(some 8), .fa 18 (.t 1), none, []⟩,
   ⟨(some 9), .load false 1 (.t 8), none, []⟩,
   ⟨(some 10), .fa 21 (.t 1), none, []⟩,
   ⟨(some 11), .load false 1 (.t 10), none, []⟩,
   ⟨(some 12), .fa 22 (.t 1), none, []⟩,
   ⟨(some 13), .load false 1 (.t 12), none, []⟩,
   ⟨(some 14), .callF 46 [(.t 9), (.t 11), (.t 13)], none, []⟩,
   ⟨(some 7), .mv (.t 14), none, []⟩,
   ⟨(some 15), .ext (.t 7) 0, none, []⟩,
   ⟨(some 16), .ext (.t 7) 1, none, []⟩,
   ⟨(some 17), .ext (.t 7) 2, none, []⟩,
   ⟨(some 4), .alloc [.nilS], none, []⟩,
   ⟨(some 5), .alloc [.nilS], none, []⟩,
   ⟨none, .store 1 (.t 4) (.t 15), none, []⟩,
   ⟨none, .store 1 (.t 5) (.t 16), none, []⟩,
   ⟨(some 6), .mv (.t 17), none, []⟩])
 (.seq (.ops [
   ⟨(some 18), .mv (.t 0), none, []⟩,
   ⟨(some 19), .load false 1 (.t 4), none, []⟩,
   ⟨(some 20), .callF 36 [(.t 18), (.t 19)], none, []⟩])
 (.seq (.ops [
   ⟨(some 21), .mv (.t 0), none, []⟩,
   ⟨(some 22), .load false 1 (.t 5), none, []⟩,
   ⟨(some 23), .callF 36 [(.t 21), (.t 22)], none, []⟩])
 (.seq (.ops [
   ⟨(some 24), .mv (.t 0), none, []⟩,
   ⟨(some 25), .mv (.t 6), none, []⟩,
   ⟨(some 26), .callF 9 [(.t 24), (.t 25)], none, []⟩])
 (.seq (.ops [
   ⟨(some 27), .mkF (.func 47) [] [(.t 4), (.t 5)], none, []⟩,
   ⟨(some 3), .mv (.t 27), none, []⟩])
 (.ret))))))
theorem k45 : compFunc Tryz.prog 45 = some (28, c45, [.t 3]) := by kernel_rfl
def c46 : ACode :=
 .seq (.ops [
   ⟨(some 6), .mv (.c .nilS), none, []⟩,
   ⟨(some 7), .mv (.c .nilS), none, []⟩,
   ⟨(some 8), .mv (.c (.int .i64 0)), none, []⟩])
 (.seq (.ops [
   ⟨(some 18), .mv (.t 0), none, []⟩,
   ⟨(some 19), .mv (.t 1), none, []⟩,
   ⟨(some 20), .mv (.t 2), none, []⟩,
   ⟨(some 21), .callF 83 [(.t 18), (.t 19), (.t 20)], none, []⟩,
   ⟨(some 17), .mv (.t 21), none, []⟩,
   ⟨(some 22), .ext (.t 17) 0, none, []⟩,
   ⟨(some 23), .ext (.t 17) 1, none, []⟩,
   ⟨(some 24), .ext (.t 17) 2, none, []⟩,
   ⟨(some 9), .mv (.t 22), none, []⟩,
   ⟨(some 10), .mv (.t 23), none, []⟩,
   ⟨(some 8), .mv (.t 24), none, []⟩])
 (.seq (.seq (.ops [
   ⟨(some 25), .mv (.t 8), none, []⟩,
   ⟨(some 26), .bin .neq .int (.t 25) (.c (.int .i64 0)), none, []⟩])
 (.cond (.t 26)
  (.seq (.ops [
    ⟨(some 27), .mv (.t 8), none, []⟩,
    ⟨(some 6), .mv (.c .nilS), none, []⟩,
    ⟨(some 7), .mv (.c .nilS), none, []⟩,
    ⟨(some 8), .mv (.t 27), none, []⟩])
  (.ret))
  (.skip)))
 (.seq (.ops [
   ⟨(some 28), .mv (.t 0), none, []⟩,
   ⟨(some 29), .callF 84 [(.t 28)], none, []⟩,
   ⟨(some 6), .mv (.t 29), none, []⟩])
 (.seq (.seq (.ops [
   ⟨(some 30), .mv (.t 9), none, []⟩,
   ⟨(some 31), .lenS (.t 30), none, []⟩,
   ⟨(some 32), .mv (.c (.int .i64 0)), none, []⟩])
 (.block 0 (.loop (.seq (.ops [
    ⟨(some 33), .bin .lss .int (.t 32) (.t 31), none, []⟩])
  (.seq (.cond (.t 33)
   (.skip)
   (.exit 0))
  (.seq (.block 1 (.seq (.ops [
    ⟨(some 34), .ixS 2 (.t 30) (.t 32), none, []⟩,
    ⟨(some 35), .load true 2 (.t 34), none, []⟩,
    ⟨(some 12), .alloc [(.int .i64 0), (.int .i64 0)], none, []⟩,
    ⟨none, .store 2 (.t 12) (.t 35), none, []⟩])
  (.seq (.dr [
    ⟨(some 36), .fa 0 (.t 12), none, []⟩,
    ⟨(some 37), .load false 1 (.t 36), none, [0]⟩,
    ⟨(some 38), .bin .eql .int (.t 37) (.c (.int .i64 0)), none, [1]⟩,
    ⟨(some 39), .fa 1 (.t 12), none, []⟩,
    ⟨(some 40), .load false 1 (.t 39), none, [3]⟩,
    ⟨(some 41), .mv (.t 0), none, []⟩,
    ⟨(some 42), .lenS (.t 41), none, [5]⟩,
    ⟨(some 43), .bin .sub .int (.t 42) (.c (.int .i64 1)), none, [6]⟩,
    ⟨(some 44), .bin .eql .int (.t 40) (.t 43), none, [4, 7]⟩,
    ⟨(some 13), .mv (.t 38), none, [2, 0, 1, 2]⟩,
    ⟨(some 14), .mv (.t 44), none, [8, 9, 0, 1, 2, 3, 4, 5, 6, 7, 8, 9]⟩])
  (.seq (.ops [
    ⟨(some 15), .mv (.c (.int .i64 0)), none, []⟩,
    ⟨(some 16), .mv (.c (.int .i64 0)), none, []⟩])
  (.seq (.block 2 (.seq (.ops [
    ⟨(some 58), .mv (.t 13), none, []⟩,
    ⟨(some 59), .mv (.t 58), none, []⟩,
    ⟨(some 60), .mv (.t 14), (some (59, true)), []⟩,
    ⟨(some 61), .pick (.t 59) (.t 60) (.c (.bool false)), none, []⟩,
    ⟨(some 57), .mv (.t 61), none, []⟩])
  (.cond (.t 57)
   (.seq (.ops [
     ⟨(some 6), .mv (.c .nilS), none, []⟩,
     ⟨(some 7), .mv (.c .nilS), none, []⟩,
     ⟨(some 8), .mv (.c (.int .i64 9)), none, []⟩])
   (.ret))
   (.seq (.ops [
     ⟨(some 63), .mv (.t 13), none, []⟩,
     ⟨(some 62), .mv (.t 63), none, []⟩])
   (.cond (.t 62)
    (.dr [
      ⟨(some 64), .mv (.t 6), none, []⟩,
      ⟨(some 65), .fa 1 (.t 12), none, []⟩,
      ⟨(some 66), .load false 1 (.t 65), none, [1]⟩,
      ⟨(some 67), .bin .add .int (.t 66) (.c (.int .i64 1)), none, [2]⟩,
      ⟨(some 68), .ixS 1 (.t 64) (.t 67), none, [0, 3]⟩,
      ⟨(some 69), .load false 1 (.t 68), none, [4]⟩,
      ⟨(some 70), .mv (.t 6), none, []⟩,
      ⟨(some 71), .fa 1 (.t 12), none, []⟩,
      ⟨(some 72), .load false 1 (.t 71), none, [7]⟩,
      ⟨(some 73), .bin .add .int (.t 72) (.c (.int .i64 1)), none, [8]⟩,
      ⟨(some 74), .ixS 1 (.t 70) (.t 73), none, [6, 9]⟩,
      ⟨(some 75), .load false 1 (.t 74), none, [10]⟩,
      ⟨(some 15), .mv (.t 69), none, [5, 0, 1, 2, 3, 4, 5]⟩,
      ⟨(some 16), .mv (.t 75), none, [11, 12, 0, 1, 2, 3, 4, 5, 6, 7, 8, 9, 10, 11, 12]⟩])
    (.seq (.ops [
      ⟨(some 77), .mv (.t 14), none, []⟩,
      ⟨(some 76), .mv (.t 77), none, []⟩])
    (.cond (.t 76)
     (.dr [
       ⟨(some 78), .mv (.t 6), none, []⟩,
       ⟨(some 79), .fa 0 (.t 12), none, []⟩,
       ⟨(some 80), .load false 1 (.t 79), none, [1]⟩,
       ⟨(some 81), .bin .sub .int (.t 80) (.c (.int .i64 1)), none, [2]⟩,
       ⟨(some 82), .ixS 1 (.t 78) (.t 81), none, [0, 3]⟩,
       ⟨(some 83), .load false 1 (.t 82), none, [4]⟩,
       ⟨(some 84), .mv (.t 6), none, []⟩,
       ⟨(some 85), .fa 0 (.t 12), none, []⟩,
       ⟨(some 86), .load false 1 (.t 85), none, [7]⟩,
       ⟨(some 87), .bin .sub .int (.t 86) (.c (.int .i64 1)), none, [8]⟩,
       ⟨(some 88), .ixS 1 (.t 84) (.t 87), none, [6, 9]⟩,
       ⟨(some 89), .load false 1 (.t 88), none, [10]⟩,
       ⟨(some 15), .mv (.t 83), none, [5, 0, 1, 2, 3, 4, 5]⟩,
       ⟨(some 16), .mv (.t 89), none, [11, 12, 0, 1, 2, 3, 4, 5, 6, 7, 8, 9, 10, 11, 12]⟩])
     (.dr [
       ⟨(some 45), .mv (.t 6), none, []⟩,
       ⟨(some 46), .fa 0 (.t 12), none, []⟩,
       ⟨(some 47), .load false 1 (.t 46), none, [1]⟩,
       ⟨(some 48), .bin .sub .int (.t 47) (.c (.int .i64 1)), none, [2]⟩,
       ⟨(some 49), .ixS 1 (.t 45) (.t 48), none, [0, 3]⟩,
       ⟨(some 50), .load false 1 (.t 49), none, [4]⟩,
       ⟨(some 51), .mv (.t 6), none, []⟩,
       ⟨(some 52), .fa 1 (.t 12), none, []⟩,
       ⟨(some 53), .load false 1 (.t 52), none, [7]⟩,
       ⟨(some 54), .bin .add .int (.t 53) (.c (.int .i64 1)), none, [8]⟩,
       ⟨(some 55), .ixS 1 (.t 51) (.t 54), none, [6, 9]⟩,
       ⟨(some 56), .load false 1 (.t 55), none, [10]⟩,
       ⟨(some 15), .mv (.t 50), none, [5, 0, 1, 2, 3, 4, 5]⟩,
       ⟨(some 16), .mv (.t 56), none, [11, 12, 0, 1, 2, 3, 4, 5, 6, 7, 8, 9, 10, 11, 12]⟩]))))))))
  (.seq (.ops [
    ⟨(some 90), .mv (.t 7), none, []⟩,
    ⟨(some 91), .mv (.t 6), none, []⟩,
    ⟨(some 92), .fa 0 (.t 12), none, []⟩,
    ⟨(some 93), .load false 1 (.t 92), none, []⟩,
    ⟨(some 94), .fa 1 (.t 12), none, []⟩,
    ⟨(some 95), .load false 1 (.t 94), none, []⟩,
    ⟨(some 96), .bin .add .int (.t 95) (.c (.int .i64 1)), none, []⟩,
    ⟨(some 97), .slS 1 (.t 91) (some (.t 93)) (some (.t 96)) none, none, []⟩,
    ⟨(some 98), .app 1 8 (.t 90) (.t 97), none, []⟩,
    ⟨(some 7), .mv (.t 98), none, []⟩])
  (.dr [
    ⟨(some 99), .mv (.t 6), none, []⟩,
    ⟨(some 100), .fa 0 (.t 12), none, []⟩,
    ⟨(some 101), .load false 1 (.t 100), none, [1]⟩,
    ⟨(some 102), .slS 1 (.t 99) (some (.t 101)) none none, none, [0, 2]⟩,
    ⟨(some 103), .mv (.t 15), none, []⟩,
    ⟨(some 104), .mv (.t 16), none, []⟩,
    ⟨(some 105), .fa 1 (.t 12), none, []⟩,
    ⟨(some 106), .load false 1 (.t 105), none, [6]⟩,
    ⟨(some 107), .fa 0 (.t 12), none, []⟩,
    ⟨(some 108), .load false 1 (.t 107), none, [8]⟩,
    ⟨(some 109), .bin .sub .int (.t 106) (.t 108), none, [7, 9]⟩,
    ⟨(some 110), .bin .add .int (.t 109) (.c (.int .i64 1)), none, [10]⟩,
    ⟨(some 111), .callF 85 [(.t 103), (.t 104), (.t 110)], none, [4, 5, 11]⟩,
    ⟨(some 112), .cpy 1 (.t 102) (.t 111), none, [3, 12, 12]⟩])))))))
  (.ops [
    ⟨(some 113), .bin .add .int (.t 32) (.c (.int .i64 1)), none, []⟩,
    ⟨(some 32), .mv (.t 113), none, []⟩])))))))
 (.seq (.ops [
   ⟨(some 114), .mv (.t 6), none, []⟩,
   ⟨(some 115), .mv (.t 7), none, []⟩,
   ⟨(some 6), .mv (.t 114), none, []⟩,
   ⟨(some 7), .mv (.t 115), none, []⟩,
   ⟨(some 8), .mv (.c (.int .i64 0)), none, []⟩])
 (.ret))))))
def m46_0 : List Nat := [33, 34, 35, 12, 36, 37, 38, 39, 40, 41, 42, 43, 44, 13, 14, 15, 16, 58, 59, 60, 61, 57, 6, 7, 8, 63, 62, 64, 65, 66, 67, 68, 69, 70, 71, 72, 73, 74, 75, 77, 76, 78, 79, 80, 81, 82, 83, 84, 85, 86, 87, 88, 89, 45, 46, 47, 48, 49, 50, 51, 52, 53, 54, 55, 56, 90, 91, 92, 93, 94, 95, 96, 97, 98, 99, 100, 101, 102, 103, 104, 105, 106, 107, 108, 109, 110, 111, 112, 113, 32]
theorem k46 : compFunc Tryz.prog 46 = some (116, c46, [.t 6, .t 7, .t 8]) := by kernel_rfl
def c47 : ACode :=
 .seq (.ops [
   ⟨(some 2), .callF 38 [(.t 0)], none, []⟩])
 (.ops [
   ⟨(some 3), .callF 38 [(.t 1)], none, []⟩])
theorem k47 : compFunc Tryz.prog 47 = some (4, c47, []) := by kernel_rfl
def c48 : ACode :=
 .seq (.ops [
   ⟨(some 3), .mv (.c .nilF), none, []⟩])
 (.seq (.ops [
   ⟨(some 7), .fa 18 (.t 1), none, []⟩,
   ⟨(some 8), .load false 1 (.t 7), none, []⟩,
   ⟨(some 9), .fa 23 (.t 1), none, []⟩,
   ⟨(some 10), .load false 1 (.t 9), none, []⟩,
   ⟨(some 11), .fa 21 (.t 1), none, []⟩,
   ⟨(some 12), .load false 1 (.t 11), none, []⟩,
   ⟨(some 13), .fa 22 (.t 1), none, []⟩,
   ⟨(some 14), .load false 1 (.t 13), none, []⟩,
   ⟨(some 15), .callF 49 [(.t 8), (.t 10), (.t 12), (.t 14)], none, []⟩,
   ⟨(some 6), .mv (.t 15), none, []⟩,
   ⟨(some 16), .ext (.t 6) 0, none, []⟩,
   ⟨(some 17), .ext (.t 6) 1, none, []⟩,
   ⟨(some 4), .alloc [.nilS], none, []⟩,
   ⟨none, .store 1 (.t 4) (.t 16), none, []⟩,
   ⟨(some 5), .mv (.t 17), none, []⟩])
 (.seq (.ops [
   ⟨(some 18), .mv (.t 0), none, []⟩,
   ⟨(some 19), .load false 1 (.t 4), none, []⟩,
   ⟨(some 20), .callF 36 [(.t 18), (.t 19)], none, []⟩])
 (.seq (.ops [
   ⟨(some 21), .mv (.t 0), none, []⟩,
   ⟨(some 22), .mv (.t 5), none, []⟩,
   ⟨(some 23), .callF 9 [(.t 21), (.t 22)], none, []⟩])
 (.seq (.ops [
   ⟨(some 24), .mkF (.func 50) [] [(.t 4)], none, []⟩,
   ⟨(some 3), .mv (.t 24), none, []⟩])
 (.ret)))))
theorem k48 : compFunc Tryz.prog 48 = some (25, c48, [.t 3]) := by kernel_rfl
def c49 : ACode :=
 .seq (.ops [
   ⟨(some 5), .box (.t 1), none, []⟩,
   ⟨(some 8), .mv (.c .nilS), none, []⟩,
   ⟨(some 9), .mv (.c (.int .i64 0)), none, []⟩])
 (.seq (.ops [
   ⟨(some 18), .mv (.t 0), none, []⟩,
   ⟨(some 19), .mv (.t 2), none, []⟩,
   ⟨(some 20), .mv (.t 3), none, []⟩,
   ⟨(some 21), .callF 83 [(.t 18), (.t 19), (.t 20)], none, []⟩,
   ⟨(some 17), .mv (.t 21), none, []⟩,
   ⟨(some 22), .ext (.t 17) 0, none, []⟩,
   ⟨(some 23), .ext (.t 17) 1, none, []⟩,
   ⟨(some 24), .ext (.t 17) 2, none, []⟩,
   ⟨(some 10), .mv (.t 22), none, []⟩,
   ⟨(some 11), .mv (.t 23), none, []⟩,
   ⟨(some 12), .mv (.t 24), none, []⟩])
 (.seq (.block 0 (.seq (.ops [
   ⟨(some 26), .mv (.t 12), none, []⟩,
   ⟨(some 27), .bin .neq .int (.t 26) (.c (.int .i64 0)), none, []⟩,
   ⟨(some 25), .mv (.t 27), none, []⟩])
 (.cond (.t 25)
  (.seq (.ops [
    ⟨(some 28), .mv (.t 12), none, []⟩,
    ⟨(some 8), .mv (.c .nilS), none, []⟩,
    ⟨(some 9), .mv (.t 28), none, []⟩])
  (.ret))
  (.seq (.ops [
    ⟨(some 30), .mv (.t 11), none, []⟩,
    ⟨(some 31), .load false 1 (.t 5), none, []⟩,
    ⟨(some 32), .lenS (.t 31), none, []⟩,
    ⟨(some 33), .bin .neq .int (.t 30) (.t 32), none, []⟩,
    ⟨(some 29), .mv (.t 33), none, []⟩])
  (.cond (.t 29)
   (.seq (.ops [
     ⟨(some 8), .mv (.c .nilS), none, []⟩,
     ⟨(some 9), .mv (.c (.int .i64 2)), none, []⟩])
   (.ret))
   (.skip))))))
 (.seq (.ops [
   ⟨(some 34), .mv (.t 0), none, []⟩,
   ⟨(some 35), .callF 84 [(.t 34)], none, []⟩,
   ⟨(some 13), .alloc [.nilS], none, []⟩,
   ⟨none, .store 1 (.t 13) (.t 35), none, []⟩])
 (.seq (.seq (.ops [
   ⟨(some 36), .mv (.t 10), none, []⟩,
   ⟨(some 37), .callF 86 [(.t 36)], none, []⟩])
 (.block 1 (.rangeF (.t 37) [38, 39] (.ops [
    ⟨(some 15), .alloc [(.int .i64 0), (.int .i64 0)], none, []⟩,
    ⟨none, .store 2 (.t 15) (.t 39), none, []⟩])
  (.block 2 (.seq (.ops [
    ⟨(some 40), .load false 1 (.t 5), none, []⟩,
    ⟨(some 41), .lenS (.t 40), none, []⟩,
    ⟨(some 42), .fa 1 (.t 15), none, []⟩,
    ⟨(some 43), .load false 1 (.t 42), none, []⟩,
    ⟨(some 44), .fa 0 (.t 15), none, []⟩,
    ⟨(some 45), .load false 1 (.t 44), none, []⟩,
    ⟨(some 46), .bin .sub .int (.t 43) (.t 45), none, []⟩,
    ⟨(some 47), .bin .add .int (.t 46) (.c (.int .i64 1)), none, []⟩,
    ⟨(some 48), .bin .sub .int (.t 41) (.t 47), none, []⟩,
    ⟨(some 16), .mv (.t 48), none, []⟩])
  (.seq (.dr [
    ⟨(some 49), .load false 1 (.t 13), none, []⟩,
    ⟨(some 50), .fa 0 (.t 15), none, []⟩,
    ⟨(some 51), .load false 1 (.t 50), none, [1]⟩,
    ⟨(some 52), .slS 1 (.t 49) (some (.t 51)) none none, none, [0, 2]⟩,
    ⟨(some 53), .load false 1 (.t 5), none, []⟩,
    ⟨(some 54), .mv (.t 16), none, []⟩,
    ⟨(some 55), .slS 1 (.t 53) (some (.t 54)) none none, none, [4, 5]⟩,
    ⟨(some 56), .cpy 1 (.t 52) (.t 55), none, [3, 6]⟩])
  (.ops [
    ⟨(some 57), .load false 1 (.t 5), none, []⟩,
    ⟨(some 58), .mv (.t 16), none, []⟩,
    ⟨(some 59), .slS 1 (.t 57) none (some (.t 58)) none, none, []⟩,
    ⟨none, .store 1 (.t 5) (.t 59), none, []⟩])))))))
 (.seq (.ops [
   ⟨(some 60), .load false 1 (.t 13), none, []⟩,
   ⟨(some 8), .mv (.t 60), none, []⟩,
   ⟨(some 9), .mv (.c (.int .i64 0)), none, []⟩])
 (.ret))))))
theorem k49 : compFunc Tryz.prog 49 = some (61, c49, [.t 8, .t 9]) := by kernel_rfl
def c50 : ACode :=
 .ops [
   ⟨(some 1), .callF 38 [(.t 0)], none, []⟩]
theorem k50 : compFunc Tryz.prog 50 = some (2, c50, []) := by kernel_rfl
def c51 : ACode :=
 .seq (.ops [
   ⟨(some 3), .mv (.c .nilF), none, []⟩])
 (.seq (.ops [
   ⟨(some 7), .fa 18 (.t 1), none, []⟩,
   ⟨(some 8), .load false 1 (.t 7), none, []⟩,
   ⟨(some 9), .fa 14 (.t 1), none, []⟩,
   ⟨(some 10), .load false 1 (.t 9), none, []⟩,
   ⟨(some 11), .fa 24 (.t 1), none, []⟩,
   ⟨(some 12), .load false 1 (.t 11), none, []⟩,
   ⟨(some 13), .fa 25 (.t 1), none, []⟩,
   ⟨(some 14), .load false 1 (.t 13), none, []⟩,
   ⟨(some 15), .callF 52 [(.t 8), (.t 10), (.t 12), (.t 14)], none, []⟩,
   ⟨(some 6), .mv (.t 15), none, []⟩,
   ⟨(some 16), .ext (.t 6) 0, none, []⟩,
   ⟨(some 17), .ext (.t 6) 1, none, []⟩,
   ⟨(some 4), .alloc [.nilS], none, []⟩,
   ⟨none, .store 1 (.t 4) (.t 16), none, []⟩,
   ⟨(some 5), .mv (.t 17), none, []⟩])
 (.seq (.ops [
   ⟨(some 18), .mv (.t 0), none, []⟩,
   ⟨(some 19), .load false 1 (.t 4), none, []⟩,
   ⟨(some 20), .callF 36 [(.t 18), (.t 19)], none, []⟩])
 (.seq (.ops [
   ⟨(some 21), .mv (.t 0), none, []⟩,
   ⟨(some 22), .mv (.t 5), none, []⟩,
   ⟨(some 23), .callF 9 [(.t 21), (.t 22)], none, []⟩])
 (.seq (.ops [
   ⟨(some 24), .mkF (.func 53) [] [(.t 4)], none, []⟩,
   ⟨(some 3), .mv (.t 24), none, []⟩])
 (.ret)))))
theorem k51 : compFunc Tryz.prog 51 = some (25, c51, [.t 3]) := by kernel_rfl
def c52 : ACode :=
 .seq (.ops [
   ⟨(some 8), .mv (.c .nilS), none, []⟩,
   ⟨(some 9), .mv (.c (.int .i64 0)), none, []⟩])
 (.seq (.seq (.ops [
   ⟨(some 15), .mv (.t 0), none, []⟩,
   ⟨(some 16), .callF 77 [(.t 15), (.c (.int .i64 1000000))], none, []⟩,
   ⟨(some 10), .mv (.t 16), none, []⟩])
 (.seq (.ops [
   ⟨(some 17), .mv (.t 10), none, []⟩,
   ⟨(some 18), .bin .neq .int (.t 17) (.c (.int .i64 0)), none, []⟩])
 (.cond (.t 18)
  (.seq (.ops [
    ⟨(some 19), .mv (.t 10), none, []⟩,
    ⟨(some 8), .mv (.c .nilS), none, []⟩,
    ⟨(some 9), .mv (.t 19), none, []⟩])
  (.ret))
  (.skip))))
 (.seq (.block 0 (.seq (.ops [
   ⟨(some 21), .mv (.t 0), none, []⟩,
   ⟨(some 22), .lenS (.t 21), none, []⟩,
   ⟨(some 23), .bin .eql .int (.t 22) (.c (.int .i64 0)), none, []⟩,
   ⟨(some 20), .mv (.t 23), none, []⟩])
 (.cond (.t 20)
  (.seq (.ops [
    ⟨(some 8), .mv (.c .nilS), none, []⟩,
    ⟨(some 9), .mv (.c (.int .i64 9)), none, []⟩])
  (.ret))
  (.seq (.ops [
    ⟨(some 25), .mv (.t 1), none, []⟩,
    ⟨(some 26), .callF 63 [(.t 25), (.c (.int .i64 0)), (.c (.int .i64 4000000))], none, []⟩,
    ⟨(some 27), .mv (.t 26), none, []⟩,
    ⟨(some 28), .mv (.t 2), (some (27, false)), []⟩,
    ⟨(some 29), .callF 63 [(.t 28), (.c (.int .i64 0)), (.c (.int .i64 4000000))], (some (27, false)), []⟩,
    ⟨(some 30), .pick (.t 27) (.c (.bool true)) (.t 29), none, []⟩,
    ⟨(some 31), .mv (.t 30), none, []⟩,
    ⟨(some 32), .mv (.t 3), (some (31, false)), []⟩,
    ⟨(some 33), .callF 63 [(.t 32), (.c (.int .i64 0)), (.c (.int .i64 4000))], (some (31, false)), []⟩,
    ⟨(some 34), .pick (.t 31) (.c (.bool true)) (.t 33), none, []⟩,
    ⟨(some 24), .mv (.t 34), none, []⟩])
  (.cond (.t 24)
   (.seq (.ops [
     ⟨(some 8), .mv (.c .nilS), none, []⟩,
     ⟨(some 9), .mv (.c (.int .i64 7)), none, []⟩])
   (.ret))
   (.skip))))))
 (.seq (.ops [
   ⟨(some 35), .mv (.t 3), none, []⟩,
   ⟨(some 36), .mkS [(.int .i64 0)] 8 (.t 35) (.t 35), none, []⟩,
   ⟨(some 11), .mv (.t 36), none, []⟩])
 (.seq (.seq (.ops [
   ⟨(some 37), .mv (.t 11), none, []⟩,
   ⟨(some 38), .lenS (.t 37), none, []⟩,
   ⟨(some 39), .mv (.c (.int .i64 0)), none, []⟩])
 (.block 1 (.loop (.seq (.ops [
    ⟨(some 40), .bin .lss .int (.t 39) (.t 38), none, []⟩])
  (.seq (.cond (.t 40)
   (.skip)
   (.exit 1))
  (.seq (.block 2 (.seq (.ops [
    ⟨(some 41), .mv (.t 39), none, []⟩,
    ⟨(some 12), .mv (.t 41), none, []⟩])
  (.seq (.ops [
    ⟨(some 42), .mv (.t 1), none, []⟩,
    ⟨(some 43), .mv (.t 12), none, []⟩,
    ⟨(some 44), .mv (.t 2), none, []⟩,
    ⟨(some 45), .bin .mul .int (.t 43) (.t 44), none, []⟩,
    ⟨(some 46), .bin .add .int (.t 42) (.t 45), none, []⟩,
    ⟨(some 13), .mv (.t 46), none, []⟩])
  (.seq (.ops [
    ⟨(some 47), .mv (.t 13), none, []⟩,
    ⟨(some 48), .bin .quo .int (.t 47) (.c (.int .i64 1000)), none, []⟩,
    ⟨(some 49), .mv (.t 0), none, []⟩,
    ⟨(some 50), .lenS (.t 49), none, []⟩,
    ⟨(some 51), .bin .sub .int (.t 50) (.c (.int .i64 1)), none, []⟩,
    ⟨(some 52), .mn [(.t 48), (.t 51)], none, []⟩,
    ⟨(some 14), .mv (.t 52), none, []⟩])
  (.seq (.ops [
    ⟨(some 53), .mv (.t 11), none, []⟩,
    ⟨(some 54), .mv (.t 12), none, []⟩,
    ⟨(some 55), .mv (.t 0), none, []⟩,
    ⟨(some 56), .mv (.t 14), none, []⟩,
    ⟨(some 57), .ixS 1 (.t 55) (.t 56), none, []⟩,
    ⟨(some 58), .load false 1 (.t 57), none, []⟩,
    ⟨(some 59), .ixS 1 (.t 53) (.t 54), none, []⟩,
    ⟨none, .store 1 (.t 59) (.t 58), none, []⟩])
  (.seq (.ops [
    ⟨(some 60), .mv (.t 14), none, []⟩,
    ⟨(some 61), .bin .add .int (.t 60) (.c (.int .i64 1)), none, []⟩,
    ⟨(some 62), .mv (.t 0), none, []⟩,
    ⟨(some 63), .lenS (.t 62), none, []⟩,
    ⟨(some 64), .bin .lss .int (.t 61) (.t 63), none, []⟩])
  (.cond (.t 64)
   (.dr [
     ⟨(some 65), .mv (.t 11), none, []⟩,
     ⟨(some 66), .mv (.t 12), none, []⟩,
     ⟨(some 67), .ixS 1 (.t 65) (.t 66), none, [0, 1]⟩,
     ⟨(some 68), .load false 1 (.t 67), none, [2]⟩,
     ⟨(some 69), .mv (.t 0), none, []⟩,
     ⟨(some 70), .mv (.t 14), none, []⟩,
     ⟨(some 71), .bin .add .int (.t 70) (.c (.int .i64 1)), none, [5]⟩,
     ⟨(some 72), .ixS 1 (.t 69) (.t 71), none, [4, 6]⟩,
     ⟨(some 73), .load false 1 (.t 72), none, [7]⟩,
     ⟨(some 74), .mv (.t 0), none, []⟩,
     ⟨(some 75), .mv (.t 14), none, []⟩,
     ⟨(some 76), .ixS 1 (.t 74) (.t 75), none, [9, 10]⟩,
     ⟨(some 77), .load false 1 (.t 76), none, [11]⟩,
     ⟨(some 78), .bin .sub .int (.t 73) (.t 77), none, [8, 12]⟩,
     ⟨(some 79), .mv (.t 13), none, []⟩,
     ⟨(some 80), .bin .rem .int (.t 79) (.c (.int .i64 1000)), none, [14]⟩,
     ⟨(some 81), .bin .mul .int (.t 78) (.t 80), none, [13, 15]⟩,
     ⟨(some 82), .callF 78 [(.t 81), (.c (.int .i64 1000))], none, [16]⟩,
     ⟨(some 83), .bin .add .int (.t 68) (.t 82), none, [3, 17]⟩,
     ⟨(some 84), .ixS 1 (.t 65) (.t 66), none, [0, 1, 0, 1, 2, 3, 4, 5, 6, 7, 8, 9, 10, 11, 12, 13, 14, 15, 16, 17, 18]⟩,
     ⟨none, .store 1 (.t 84) (.t 83), none, [19, 18, 17, 0, 1, 2, 3, 4, 5, 6, 7, 8, 9, 10, 11, 12, 13, 14, 15, 16, 17, 18]⟩])
   (.skip))))))))
  (.ops [
    ⟨(some 85), .bin .add .int (.t 39) (.c (.int .i64 1)), none, []⟩,
    ⟨(some 39), .mv (.t 85), none, []⟩])))))))
 (.seq (.ops [
   ⟨(some 86), .mv (.t 11), none, []⟩,
   ⟨(some 8), .mv (.t 86), none, []⟩,
   ⟨(some 9), .mv (.c (.int .i64 0)), none, []⟩])
 (.ret))))))
def m52_0 : List Nat := [40, 41, 12, 42, 43, 44, 45, 46, 13, 47, 48, 49, 50, 51, 52, 14, 53, 54, 55, 56, 57, 58, 59, 60, 61, 62, 63, 64, 65, 66, 67, 68, 69, 70, 71, 72, 73, 74, 75, 76, 77, 78, 79, 80, 81, 82, 83, 84, 85, 39]
theorem k52 : compFunc Tryz.prog 52 = some (87, c52, [.t 8, .t 9]) := by kernel_rfl
def c53 : ACode :=
 .ops [
   ⟨(some 1), .callF 38 [(.t 0)], none, []⟩]
theorem k53 : compFunc Tryz.prog 53 = some (2, c53, []) := by kernel_rfl
def c54 : ACode :=
 .seq (.ops [
   ⟨(some 2), .box (.t 0), none, []⟩,
   ⟨(some 3), .box (.t 1), none, []⟩,
   ⟨(some 4), .mv (.c (.bool false)), none, []⟩])
 (.seq (.seq (.ops [
   ⟨(some 7), .fa 0 (.t 2), none, []⟩,
   ⟨(some 8), .load false 1 (.t 7), none, []⟩,
   ⟨(some 9), .lenS (.t 8), none, []⟩,
   ⟨(some 10), .fa 0 (.t 3), none, []⟩,
   ⟨(some 11), .load false 1 (.t 10), none, []⟩,
   ⟨(some 12), .lenS (.t 11), none, []⟩,
   ⟨(some 13), .bin .neq .int (.t 9) (.t 12), none, []⟩,
   ⟨(some 14), .mv (.t 13), none, []⟩,
   ⟨(some 15), .fa 1 (.t 2), (some (14, false)), []⟩,
   ⟨(some 16), .load false 1 (.t 15), (some (14, false)), []⟩,
   ⟨(some 17), .lenS (.t 16), (some (14, false)), []⟩,
   ⟨(some 18), .fa 1 (.t 3), (some (14, false)), []⟩,
   ⟨(some 19), .load false 1 (.t 18), (some (14, false)), []⟩,
   ⟨(some 20), .lenS (.t 19), (some (14, false)), []⟩,
   ⟨(some 21), .bin .neq .int (.t 17) (.t 20), (some (14, false)), []⟩,
   ⟨(some 22), .pick (.t 14) (.c (.bool true)) (.t 21), none, []⟩])
 (.cond (.t 22)
  (.seq (.ops [
    ⟨(some 4), .mv (.c (.bool false)), none, []⟩])
  (.ret))
  (.skip)))
 (.seq (.seq (.ops [
   ⟨(some 5), .mv (.c (.int .i64 0)), none, []⟩])
 (.block 0 (.loop (.seq (.seq (.ops [
    ⟨(some 23), .mv (.t 5), none, []⟩,
    ⟨(some 24), .fa 0 (.t 2), none, []⟩,
    ⟨(some 25), .load false 1 (.t 24), none, []⟩,
    ⟨(some 26), .lenS (.t 25), none, []⟩,
    ⟨(some 27), .bin .lss .int (.t 23) (.t 26), none, []⟩])
  (.cond (.t 27)
   (.skip)
   (.exit 0)))
  (.seq (.block 1 (.seq (.dr [
    ⟨(some 30), .fa 0 (.t 2), none, []⟩,
    ⟨(some 31), .load false 1 (.t 30), none, [0]⟩,
    ⟨(some 32), .mv (.t 5), none, []⟩,
    ⟨(some 33), .ixS 1 (.t 31) (.t 32), none, [1, 2]⟩,
    ⟨(some 34), .load false 1 (.t 33), none, [3]⟩,
    ⟨(some 35), .fa 0 (.t 3), none, []⟩,
    ⟨(some 36), .load false 1 (.t 35), none, [5]⟩,
    ⟨(some 37), .mv (.t 5), none, []⟩,
    ⟨(some 38), .ixS 1 (.t 36) (.t 37), none, [6, 7]⟩,
    ⟨(some 39), .load false 1 (.t 38), none, [8]⟩,
    ⟨(some 40), .bin .neq .int (.t 34) (.t 39), none, [4, 9]⟩])
  (.cond (.t 40)
   (.seq (.ops [
     ⟨(some 4), .mv (.c (.bool false)), none, []⟩])
   (.ret))
   (.skip))))
  (.ops [
    ⟨(some 28), .mv (.t 5), none, []⟩,
    ⟨(some 29), .bin .add .int (.t 28) (.c (.int .i64 1)), none, []⟩,
    ⟨(some 5), .mv (.t 29), none, []⟩]))))))
 (.seq (.seq (.ops [
   ⟨(some 6), .mv (.c (.int .i64 0)), none, []⟩])
 (.block 2 (.loop (.seq (.seq (.ops [
    ⟨(some 41), .mv (.t 6), none, []⟩,
    ⟨(some 42), .fa 1 (.t 2), none, []⟩,
    ⟨(some 43), .load false 1 (.t 42), none, []⟩,
    ⟨(some 44), .lenS (.t 43), none, []⟩,
    ⟨(some 45), .bin .lss .int (.t 41) (.t 44), none, []⟩])
  (.cond (.t 45)
   (.skip)
   (.exit 2)))
  (.seq (.block 3 (.seq (.dr [
    ⟨(some 48), .fa 1 (.t 2), none, []⟩,
    ⟨(some 49), .load false 1 (.t 48), none, [0]⟩,
    ⟨(some 50), .mv (.t 6), none, []⟩,
    ⟨(some 51), .ixS 1 (.t 49) (.t 50), none, [1, 2]⟩,
    ⟨(some 52), .load false 1 (.t 51), none, [3]⟩,
    ⟨(some 53), .fa 1 (.t 3), none, []⟩,
    ⟨(some 54), .load false 1 (.t 53), none, [5]⟩,
    ⟨(some 55), .mv (.t 6), none, []⟩,
    ⟨(some 56), .ixS 1 (.t 54) (.t 55), none, [6, 7]⟩,
    ⟨(some 57), .load false 1 (.t 56), none, [8]⟩,
    ⟨(some 58), .bin .neq .str (.t 52) (.t 57), none, [4, 9]⟩])
  (.cond (.t 58)
   (.seq (.ops [
     ⟨(some 4), .mv (.c (.bool false)), none, []⟩])
   (.ret))
   (.skip))))
  (.ops [
    ⟨(some 46), .mv (.t 6), none, []⟩,
    ⟨(some 47), .bin .add .int (.t 46) (.c (.int .i64 1)), none, []⟩,
    ⟨(some 6), .mv (.t 47), none, []⟩]))))))
 (.seq (.ops [
   ⟨(some 4), .mv (.c (.bool true)), none, []⟩])
 (.ret)))))
def m54_0 : List Nat := [23, 24, 25, 26, 27, 30, 31, 32, 33, 34, 35, 36, 37, 38, 39, 40, 4, 28, 29, 5]
def m54_1 : List Nat := [41, 42, 43, 44, 45, 48, 49, 50, 51, 52, 53, 54, 55, 56, 57, 58, 4, 46, 47, 6]
theorem k54 : compFunc Tryz.prog 54 = some (59, c54, [.t 4]) := by kernel_rfl
def c55 : ACode :=
 .seq (.ops [
   ⟨(some 0), .mv (.c (.bool false)), none, []⟩])
 (.seq (.ops [
   ⟨(some 18), .callF 87 [], none, []⟩,
   ⟨(some 17), .mv (.t 18), none, []⟩,
   ⟨(some 19), .ext (.t 17) 0, none, []⟩,
   ⟨(some 20), .ext (.t 17) 1, none, []⟩,
   ⟨(some 1), .alloc [(.int .i64 0), (.int .i64 0), .nilS], none, []⟩,
   ⟨(some 2), .alloc [(.int .i64 0), (.int .i64 0), .nilS], none, []⟩,
   ⟨none, .store 3 (.t 1) (.t 19), none, []⟩,
   ⟨none, .store 3 (.t 2) (.t 20), none, []⟩])
 (.seq (.ops [
   ⟨(some 22), .load true 3 (.t 1), none, []⟩,
   ⟨(some 23), .load true 3 (.t 2), none, []⟩,
   ⟨(some 24), .callF 7 [(.t 22), (.t 23), (.c (.int .i64 2))], none, []⟩,
   ⟨(some 21), .mv (.t 24), none, []⟩,
   ⟨(some 25), .ext (.t 21) 0, none, []⟩,
   ⟨(some 26), .ext (.t 21) 1, none, []⟩,
   ⟨(some 3), .mv (.t 25), none, []⟩,
   ⟨(some 4), .mv (.t 26), none, []⟩])
 (.seq (.ops [
   ⟨(some 28), .callF 88 [], none, []⟩,
   ⟨(some 29), .callF 27 [(.t 28)], none, []⟩,
   ⟨(some 27), .mv (.t 29), none, []⟩,
   ⟨(some 30), .ext (.t 27) 0, none, []⟩,
   ⟨(some 31), .ext (.t 27) 1, none, []⟩,
   ⟨(some 32), .ext (.t 27) 2, none, []⟩,
   ⟨(some 5), .alloc [(.int .i64 0), (.int .i64 0), (.int .i64 0)], none, []⟩,
   ⟨none, .store 3 (.t 5) (.t 30), none, []⟩,
   ⟨(some 6), .mv (.t 31), none, []⟩,
   ⟨(some 7), .mv (.t 32), none, []⟩])
 (.seq (.ops [
   ⟨(some 34), .callF 88 [], none, []⟩,
   ⟨(some 35), .callF 22 [(.t 34), (.c (.int .i64 75))], none, []⟩,
   ⟨(some 33), .mv (.t 35), none, []⟩,
   ⟨(some 36), .ext (.t 33) 0, none, []⟩,
   ⟨(some 37), .ext (.t 33) 1, none, []⟩,
   ⟨(some 8), .alloc [(.int .i64 0), (.int .i64 0)], none, []⟩,
   ⟨none, .store 2 (.t 8) (.t 36), none, []⟩,
   ⟨(some 9), .mv (.t 37), none, []⟩])
 (.seq (.ops [
   ⟨(some 39), .callF 88 [], none, []⟩,
   ⟨(some 40), .callF 22 [(.t 39), (.c (.int .i64 100))], none, []⟩,
   ⟨(some 38), .mv (.t 40), none, []⟩,
   ⟨(some 41), .ext (.t 38) 0, none, []⟩,
   ⟨(some 42), .ext (.t 38) 1, none, []⟩,
   ⟨(some 10), .alloc [(.int .i64 0), (.int .i64 0)], none, []⟩,
   ⟨none, .store 2 (.t 10) (.t 41), none, []⟩,
   ⟨(some 11), .mv (.t 42), none, []⟩])
 (.seq (.ops [
   ⟨(some 44), .build [(.int .i64 0), (.int .i64 0)] [(0, 1, (.c (.int .i64 30))), (1, 1, (.c (.int .i64 39)))], none, []⟩,
   ⟨(some 45), .buildS 2 [(.int .i64 0), (.int .i64 0)] 1 [(0, (.t 44))], none, []⟩,
   ⟨(some 46), .callF 33 [(.c (.int .i64 100)), (.c (.int .i64 20)), (.t 45), (.c (.int .i64 25))], none, []⟩,
   ⟨(some 43), .mv (.t 46), none, []⟩,
   ⟨(some 47), .ext (.t 43) 0, none, []⟩,
   ⟨(some 48), .ext (.t 43) 1, none, []⟩,
   ⟨(some 12), .mv (.t 47), none, []⟩,
   ⟨(some 13), .mv (.t 48), none, []⟩])
 (.seq (.ops [
   ⟨(some 50), .buildS 1 [(.int .i64 0)] 5 [(0, (.c (.int .i64 1))), (1, (.c (.int .i64 2))), (2, (.c (.int .i64 90))), (3, (.c (.int .i64 4))), (4, (.c (.int .i64 5)))], none, []⟩,
   ⟨(some 51), .buildS 1 [(.int .i64 0)] 1 [(0, (.c (.int .i64 2)))], none, []⟩,
   ⟨(some 52), .callF 46 [(.t 50), (.t 51), (.c (.int .i64 1))], none, []⟩,
   ⟨(some 49), .mv (.t 52), none, []⟩,
   ⟨(some 53), .ext (.t 49) 0, none, []⟩,
   ⟨(some 54), .ext (.t 49) 1, none, []⟩,
   ⟨(some 55), .ext (.t 49) 2, none, []⟩,
   ⟨(some 14), .mv (.t 53), none, []⟩,
   ⟨(some 15), .mv (.t 54), none, []⟩,
   ⟨(some 16), .mv (.t 55), none, []⟩])
 (.seq (.dr [
   ⟨(some 56), .mv (.t 4), none, []⟩,
   ⟨(some 57), .bin .eql .int (.t 56) (.c (.int .i64 0)), none, [0]⟩,
   ⟨(some 58), .mv (.t 57), none, [1]⟩,
   ⟨(some 59), .mv (.t 7), (some (58, true)), [2]⟩,
   ⟨(some 60), .bin .eql .int (.t 59) (.c (.int .i64 0)), (some (58, true)), [3, 2]⟩,
   ⟨(some 61), .pick (.t 58) (.t 60) (.c (.bool false)), none, [2, 4]⟩,
   ⟨(some 62), .mv (.t 61), none, [5, 2]⟩,
   ⟨(some 63), .mv (.t 9), (some (62, true)), [6]⟩,
   ⟨(some 64), .bin .eql .int (.t 63) (.c (.int .i64 0)), (some (62, true)), [7, 6]⟩,
   ⟨(some 65), .pick (.t 62) (.t 64) (.c (.bool false)), none, [6, 8]⟩,
   ⟨(some 66), .mv (.t 65), none, [9, 6]⟩,
   ⟨(some 67), .mv (.t 11), (some (66, true)), [10]⟩,
   ⟨(some 68), .bin .eql .int (.t 67) (.c (.int .i64 7)), (some (66, true)), [11, 10]⟩,
   ⟨(some 69), .pick (.t 66) (.t 68) (.c (.bool false)), none, [10, 12]⟩,
   ⟨(some 70), .mv (.t 69), none, [13, 10]⟩,
   ⟨(some 71), .mv (.t 13), (some (70, true)), [14]⟩,
   ⟨(some 72), .bin .eql .int (.t 71) (.c (.int .i64 0)), (some (70, true)), [15, 14]⟩,
   ⟨(some 73), .pick (.t 70) (.t 72) (.c (.bool false)), none, [14, 16]⟩,
   ⟨(some 74), .mv (.t 73), none, [17, 14]⟩,
   ⟨(some 75), .mv (.t 16), (some (74, true)), [18]⟩,
   ⟨(some 76), .bin .eql .int (.t 75) (.c (.int .i64 0)), (some (74, true)), [19, 18]⟩,
   ⟨(some 77), .pick (.t 74) (.t 76) (.c (.bool false)), none, [18, 20]⟩,
   ⟨(some 78), .mv (.t 77), none, [21, 18]⟩,
   ⟨(some 79), .mv (.t 3), (some (78, true)), [22]⟩,
   ⟨(some 80), .callF 90 [(.c (.int .i64 255)), (.c (.int .i64 510))], (some (78, true)), [22, 22]⟩,
   ⟨(some 81), .callF 90 [(.c (.int .i64 510)), (.c (.int .i64 510))], (some (78, true)), [24, 22]⟩,
   ⟨(some 82), .callF 90 [(.c (.int .i64 60)), (.c (.int .i64 315))], (some (78, true)), [25, 22]⟩,
   ⟨(some 83), .buildS 2 [(.int .i64 0), (.int .i64 0)] 3 [(0, (.t 80)), (1, (.t 81)), (2, (.t 82))], (some (78, true)), [24, 25, 26, 22]⟩,
   ⟨(some 84), .callF 89 [(.t 79), (.t 83)], (some (78, true)), [23, 27, 26, 22]⟩,
   ⟨(some 85), .pick (.t 78) (.t 84) (.c (.bool false)), none, [22, 28]⟩,
   ⟨(some 86), .mv (.t 85), none, [29, 28]⟩,
   ⟨(some 87), .load true 3 (.t 5), (some (86, true)), [30]⟩,
   ⟨(some 88), .build [(.int .i64 0), (.int .i64 0), (.int .i64 0)] [(0, 1, (.c (.int .i64 1000000))), (1, 1, (.c (.int .i64 10000))), (2, 1, (.c (.int .i64 320)))], (some (86, true)), [30]⟩,
   ⟨(some 89), .bin .eql (.struct [(0, 1, false, .int), (1, 1, false, .int), (2, 1, false, .int)]) (.t 87) (.t 88), (some (86, true)), [31, 32, 30]⟩,
   ⟨(some 90), .pick (.t 86) (.t 89) (.c (.bool false)), none, [30, 33]⟩,
   ⟨(some 91), .mv (.t 90), none, [34, 30]⟩,
   ⟨(some 92), .mv (.t 6), (some (91, true)), [35]⟩,
   ⟨(some 93), .lenS (.t 92), (some (91, true)), [36, 35]⟩,
   ⟨(some 94), .bin .eql .int (.t 93) (.c (.int .i64 2)), (some (91, true)), [37, 35]⟩,
   ⟨(some 95), .pick (.t 91) (.t 94) (.c (.bool false)), none, [35, 38]⟩,
   ⟨(some 96), .mv (.t 95), none, [39, 35]⟩,
   ⟨(some 97), .load true 2 (.t 8), (some (96, true)), [40]⟩,
   ⟨(some 98), .callF 90 [(.c (.int .i64 85050)), (.c (.int .i64 85250))], (some (96, true)), [40, 40]⟩,
   ⟨(some 99), .bin .eql (.struct [(0, 1, false, .int), (1, 1, false, .int)]) (.t 97) (.t 98), (some (96, true)), [41, 42, 40]⟩,
   ⟨(some 100), .pick (.t 96) (.t 99) (.c (.bool false)), none, [40, 43]⟩,
   ⟨(some 101), .mv (.t 100), none, [44, 42]⟩,
   ⟨(some 102), .mv (.t 12), (some (101, true)), [45]⟩,
   ⟨(some 103), .bin .eql .int (.t 102) (.c (.int .i64 10)), (some (101, true)), [46, 45]⟩,
   ⟨(some 104), .pick (.t 101) (.t 103) (.c (.bool false)), none, [45, 47]⟩,
   ⟨(some 105), .mv (.t 104), none, [48, 45]⟩,
   ⟨(some 106), .mv (.t 14), (some (105, true)), [49]⟩,
   ⟨(some 107), .buildS 1 [(.int .i64 0)] 5 [(0, (.c (.int .i64 1))), (1, (.c (.int .i64 2))), (2, (.c (.int .i64 3))), (3, (.c (.int .i64 4))), (4, (.c (.int .i64 5)))], (some (105, true)), [49]⟩,
   ⟨(some 108), .callF 91 [(.t 106), (.t 107)], (some (105, true)), [50, 51, 49, 49]⟩,
   ⟨(some 109), .pick (.t 105) (.t 108) (.c (.bool false)), none, [49, 52]⟩,
   ⟨(some 110), .mv (.t 109), none, [53, 52]⟩,
   ⟨(some 111), .mv (.t 15), (some (110, true)), [54]⟩,
   ⟨(some 112), .buildS 1 [(.int .i64 0)] 3 [(0, (.c (.int .i64 2))), (1, (.c (.int .i64 90))), (2, (.c (.int .i64 4)))], (some (110, true)), [54]⟩,
   ⟨(some 113), .callF 91 [(.t 111), (.t 112)], (some (110, true)), [55, 56, 54, 54]⟩,
   ⟨(some 114), .pick (.t 110) (.t 113) (.c (.bool false)), none, [54, 57]⟩,
   ⟨(some 0), .mv (.t 114), none, [58, 57, 0, 1, 2, 3, 4, 5, 6, 7, 8, 9, 10, 11, 12, 13, 14, 15, 16, 17, 18, 19, 20, 21, 22, 23, 24, 25, 26, 27, 28, 29, 30, 31, 32, 33, 34, 35, 36, 37, 38, 39, 40, 41, 42, 43, 44, 45, 46, 47, 48, 49, 50, 51, 52, 53, 54, 55, 56, 57, 58]⟩])
 (.ret)))))))))
theorem k55 : compFunc Tryz.prog 55 = some (115, c55, [.t 0]) := by kernel_rfl
def c56 : ACode :=
 .seq (.ops [
   ⟨(some 3), .box (.t 1), none, []⟩])
 (.seq (.ops [
   ⟨(some 4), .mv (.t 0), none, []⟩,
   ⟨(some 5), .fa 0 (.t 3), none, []⟩,
   ⟨(some 6), .load false 1 (.t 5), none, []⟩,
   ⟨(some 7), .callF 14 [(.t 4), (.t 6)], none, []⟩])
 (.seq (.ops [
   ⟨(some 8), .mv (.t 0), none, []⟩,
   ⟨(some 9), .fa 1 (.t 3), none, []⟩,
   ⟨(some 10), .load false 1 (.t 9), none, []⟩,
   ⟨(some 11), .callF 14 [(.t 8), (.t 10)], none, []⟩])
 (.ops [
   ⟨(some 12), .mv (.t 0), none, []⟩,
   ⟨(some 13), .fa 2 (.t 3), none, []⟩,
   ⟨(some 14), .load false 1 (.t 13), none, []⟩,
   ⟨(some 15), .callF 92 [(.t 12), (.t 14)], none, []⟩])))
theorem k56 : compFunc Tryz.prog 56 = some (16, c56, []) := by kernel_rfl
def c57 : ACode :=
 .seq (.ops [
   ⟨(some 3), .box (.t 1), none, []⟩])
 (.seq (.ops [
   ⟨(some 4), .mv (.t 0), none, []⟩,
   ⟨(some 5), .fa 0 (.t 3), none, []⟩,
   ⟨(some 6), .load false 1 (.t 5), none, []⟩,
   ⟨(some 7), .callF 14 [(.t 4), (.t 6)], none, []⟩])
 (.seq (.ops [
   ⟨(some 8), .mv (.t 0), none, []⟩,
   ⟨(some 9), .fa 1 (.t 3), none, []⟩,
   ⟨(some 10), .load true 2 (.t 9), none, []⟩,
   ⟨(some 11), .callF 23 [(.t 8), (.t 10)], none, []⟩])
 (.seq (.ops [
   ⟨(some 12), .mv (.t 0), none, []⟩,
   ⟨(some 13), .fa 3 (.t 3), none, []⟩,
   ⟨(some 14), .load false 1 (.t 13), none, []⟩,
   ⟨(some 15), .callF 93 [(.t 12), (.t 14)], none, []⟩])
 (.ops [
   ⟨(some 16), .mv (.t 0), none, []⟩,
   ⟨(some 17), .fa 4 (.t 3), none, []⟩,
   ⟨(some 18), .load false 1 (.t 17), none, []⟩,
   ⟨(some 19), .callF 36 [(.t 16), (.t 18)], none, []⟩]))))
theorem k57 : compFunc Tryz.prog 57 = some (20, c57, []) := by kernel_rfl
def c58 : ACode :=
 .ops [
   ⟨(some 4), .mv (.t 0), none, []⟩,
   ⟨(some 5), .mv (.t 1), none, []⟩,
   ⟨(some 6), .callF 94 [(.t 4), (.t 5), (.f 95)], none, []⟩]
theorem k58 : compFunc Tryz.prog 58 = some (7, c58, []) := by kernel_rfl
def c59 : ACode :=
 .seq (.ops [
   ⟨(some 1), .box (.t 0), none, []⟩,
   ⟨(some 2), .mv (.c (.int .i64 0)), none, []⟩])
 (.seq (.block 0 (.seq (.ops [
   ⟨(some 4), .fa 0 (.t 1), none, []⟩,
   ⟨(some 5), .load false 1 (.t 4), none, []⟩,
   ⟨(some 6), .callF 96 [(.t 5), (.c (.int .i64 1)), (.c (.int .i64 48))], none, []⟩,
   ⟨(some 7), .mv (.t 6), none, []⟩,
   ⟨(some 8), .fa 1 (.t 1), (some (7, false)), []⟩,
   ⟨(some 9), .load false 1 (.t 8), (some (7, false)), []⟩,
   ⟨(some 10), .callF 96 [(.t 9), (.c (.int .i64 1)), (.c (.int .i64 48))], (some (7, false)), []⟩,
   ⟨(some 11), .pick (.t 7) (.c (.bool true)) (.t 10), none, []⟩,
   ⟨(some 3), .mv (.t 11), none, []⟩])
 (.cond (.t 3)
  (.seq (.ops [
    ⟨(some 2), .mv (.c (.int .i64 7)), none, []⟩])
  (.ret))
  (.seq (.ops [
    ⟨(some 13), .fa 2 (.t 1), none, []⟩,
    ⟨(some 14), .load false 1 (.t 13), none, []⟩,
    ⟨(some 15), .lenS (.t 14), none, []⟩,
    ⟨(some 16), .fa 0 (.t 1), none, []⟩,
    ⟨(some 17), .load false 1 (.t 16), none, []⟩,
    ⟨(some 18), .fa 1 (.t 1), none, []⟩,
    ⟨(some 19), .load false 1 (.t 18), none, []⟩,
    ⟨(some 20), .bin .mul .int (.t 17) (.t 19), none, []⟩,
    ⟨(some 21), .bin .neq .int (.t 15) (.t 20), none, []⟩,
    ⟨(some 12), .mv (.t 21), none, []⟩])
  (.cond (.t 12)
   (.seq (.ops [
     ⟨(some 2), .mv (.c (.int .i64 2)), none, []⟩])
   (.ret))
   (.skip))))))
 (.seq (.ops [
   ⟨(some 2), .mv (.c (.int .i64 0)), none, []⟩])
 (.ret)))
theorem k59 : compFunc Tryz.prog 59 = some (22, c59, [.t 2]) := by kernel_rfl
def c60 : ACode :=
 .seq (.ops [
   ⟨(some 7), .mv (.t 0), none, []⟩,
   ⟨(some 8), .mv (.t 0), none, []⟩,
   ⟨(some 9), .nilck (.t 8), none, []⟩,
   ⟨(some 10), .fa 0 (.t 9), none, []⟩,
   ⟨(some 11), .load false 1 (.t 10), none, []⟩,
   ⟨(some 12), .mv (.t 1), none, []⟩,
   ⟨(some 13), .lenS (.t 12), none, []⟩,
   ⟨(some 14), .buildS 1 [(.int .i64 0)] 1 [(0, (.t 13))], none, []⟩,
   ⟨(some 15), .app 1 8 (.t 11) (.t 14), none, []⟩,
   ⟨(some 16), .nilck (.t 7), none, []⟩,
   ⟨(some 17), .fa 0 (.t 16), none, []⟩,
   ⟨none, .store 1 (.t 17) (.t 15), none, []⟩])
 (.seq (.ops [
   ⟨(some 6), .mv (.c (.int .i64 0)), none, []⟩])
 (.block 0 (.loop (.seq (.seq (.ops [
    ⟨(some 18), .mv (.t 6), none, []⟩,
    ⟨(some 19), .mv (.t 1), none, []⟩,
    ⟨(some 20), .lenS (.t 19), none, []⟩,
    ⟨(some 21), .bin .lss .int (.t 18) (.t 20), none, []⟩])
  (.cond (.t 21)
   (.skip)
   (.exit 0)))
  (.seq (.block 1 (.ops [
    ⟨(some 24), .mv (.t 2), none, []⟩,
    ⟨(some 25), .mv (.t 0), none, []⟩,
    ⟨(some 26), .mv (.t 1), none, []⟩,
    ⟨(some 27), .mv (.t 6), none, []⟩,
    ⟨(some 28), .ixS 2 (.t 26) (.t 27), none, []⟩,
    ⟨(some 29), .load true 2 (.t 28), none, []⟩,
    ⟨(some 30), .callV (.t 24) [(.t 25), (.t 29)], none, []⟩]))
  (.ops [
    ⟨(some 22), .mv (.t 6), none, []⟩,
    ⟨(some 23), .bin .add .int (.t 22) (.c (.int .i64 1)), none, []⟩,
    ⟨(some 6), .mv (.t 23), none, []⟩]))))))
def m60_0 : List Nat := [18, 19, 20, 21, 24, 25, 26, 27, 28, 29, 30, 22, 23, 6]
theorem k60 : compFunc Tryz.prog 60 = some (31, c60, []) := by kernel_rfl
def c61 : ACode :=
 .seq (.ops [
   ⟨(some 4), .mv (.c (.int .i64 0)), none, []⟩])
 (.block 0 (.loop (.seq (.seq (.ops [
    ⟨(some 5), .mv (.t 4), none, []⟩,
    ⟨(some 6), .mv (.t 0), none, []⟩,
    ⟨(some 7), .lenS (.t 6), none, []⟩,
    ⟨(some 8), .bin .lss .int (.t 5) (.t 7), none, []⟩])
  (.cond (.t 8)
   (.skip)
   (.exit 0)))
  (.seq (.block 1 (.ops [
    ⟨(some 11), .mv (.t 1), none, []⟩,
    ⟨(some 12), .mv (.t 0), none, []⟩,
    ⟨(some 13), .mv (.t 4), none, []⟩,
    ⟨(some 14), .ixS 2 (.t 12) (.t 13), none, []⟩,
    ⟨(some 15), .callV (.t 11) [(.t 14)], none, []⟩]))
  (.ops [
    ⟨(some 9), .mv (.t 4), none, []⟩,
    ⟨(some 10), .bin .add .int (.t 9) (.c (.int .i64 1)), none, []⟩,
    ⟨(some 4), .mv (.t 10), none, []⟩])))))
def m61_0 : List Nat := [5, 6, 7, 8, 11, 12, 13, 14, 15, 9, 10, 4]
theorem k61 : compFunc Tryz.prog 61 = some (16, c61, []) := by kernel_rfl
def c62 : ACode :=
 .seq (.ops [
   ⟨(some 2), .mv (.t 0), none, []⟩,
   ⟨(some 3), .nilck (.t 2), none, []⟩,
   ⟨(some 4), .fa 0 (.t 3), none, []⟩,
   ⟨(some 5), .callF 81 [(.t 4)], none, []⟩])
 (.ops [
   ⟨(some 6), .mv (.t 0), none, []⟩,
   ⟨(some 7), .nilck (.t 6), none, []⟩,
   ⟨(some 8), .fa 1 (.t 7), none, []⟩,
   ⟨(some 9), .callF 81 [(.t 8)], none, []⟩])
theorem k62 : compFunc Tryz.prog 62 = some (10, c62, []) := by kernel_rfl
def c63 : ACode :=
 .seq (.ops [
   ⟨(some 6), .mv (.c (.bool false)), none, []⟩])
 (.seq (.ops [
   ⟨(some 7), .mv (.t 0), none, []⟩,
   ⟨(some 8), .mv (.t 1), none, []⟩,
   ⟨(some 9), .bin .lss .int (.t 7) (.t 8), none, []⟩,
   ⟨(some 10), .mv (.t 9), none, []⟩,
   ⟨(some 11), .mv (.t 0), (some (10, false)), []⟩,
   ⟨(some 12), .mv (.t 2), (some (10, false)), []⟩,
   ⟨(some 13), .bin .gtr .int (.t 11) (.t 12), (some (10, false)), []⟩,
   ⟨(some 14), .pick (.t 10) (.c (.bool true)) (.t 13), none, []⟩,
   ⟨(some 6), .mv (.t 14), none, []⟩])
 (.ret))
theorem k63 : compFunc Tryz.prog 63 = some (15, c63, [.t 6]) := by kernel_rfl
def c64 : ACode :=
 .seq (.ops [
   ⟨(some 1), .box (.t 0), none, []⟩,
   ⟨(some 2), .mv (.c .nilP), none, []⟩,
   ⟨(some 3), .mv (.c (.int .i64 0)), none, []⟩])
 (.seq (.seq (.ops [
   ⟨(some 13), .load true 5 (.t 1), none, []⟩,
   ⟨(some 14), .callF 13 [(.t 13)], none, []⟩,
   ⟨(some 12), .mv (.t 14), none, []⟩,
   ⟨(some 15), .ext (.t 12) 0, none, []⟩,
   ⟨(some 16), .ext (.t 12) 1, none, []⟩,
   ⟨(some 17), .ext (.t 12) 2, none, []⟩,
   ⟨(some 4), .mv (.t 15), none, []⟩,
   ⟨(some 5), .mv (.t 16), none, []⟩,
   ⟨(some 6), .mv (.t 17), none, []⟩])
 (.seq (.ops [
   ⟨(some 18), .mv (.t 6), none, []⟩,
   ⟨(some 19), .bin .neq .int (.t 18) (.c (.int .i64 0)), none, []⟩])
 (.cond (.t 19)
  (.seq (.ops [
    ⟨(some 20), .mv (.t 6), none, []⟩,
    ⟨(some 2), .mv (.c .nilP), none, []⟩,
    ⟨(some 3), .mv (.t 20), none, []⟩])
  (.ret))
  (.skip))))
 (.seq (.ops [
   ⟨(some 21), .load true 5 (.t 1), none, []⟩,
   ⟨(some 22), .build [(.int .i64 0), (.int .i64 0), (.int .i64 0), .nilS, .nilS, .nilS, .nilS] [(0, 5, (.t 21))], none, []⟩,
   ⟨(some 23), .box (.t 22), none, []⟩,
   ⟨(some 7), .alloc [.nilP], none, []⟩,
   ⟨none, .store 1 (.t 7) (.t 23), none, []⟩])
 (.seq (.seq (.ops [
   ⟨(some 24), .fa 3 (.t 1), none, []⟩,
   ⟨(some 25), .load false 1 (.t 24), none, []⟩,
   ⟨(some 26), .lenS (.t 25), none, []⟩,
   ⟨(some 27), .mv (.c (.int .i64 0)), none, []⟩])
 (.block 0 (.loop (.seq (.ops [
    ⟨(some 28), .bin .lss .int (.t 27) (.t 26), none, []⟩])
  (.seq (.cond (.t 28)
   (.skip)
   (.exit 0))
  (.seq (.block 1 (.seq (.ops [
    ⟨(some 29), .mv (.t 27), none, []⟩,
    ⟨(some 30), .ixS 3 (.t 25) (.t 27), none, []⟩,
    ⟨(some 31), .load true 3 (.t 30), none, []⟩,
    ⟨(some 9), .alloc [(.int .i64 0), (.int .i64 0), (.int .i64 0)], none, []⟩,
    ⟨(some 8), .mv (.t 29), none, []⟩,
    ⟨none, .store 3 (.t 9) (.t 31), none, []⟩])
  (.seq (.ops [
    ⟨(some 32), .mkF (.func 97) [] [(.t 7), (.t 9)], none, []⟩,
    ⟨(some 10), .mv (.t 32), none, []⟩])
  (.seq (.ops [
    ⟨(some 33), .load false 1 (.t 7), none, []⟩,
    ⟨(some 34), .nilck (.t 33), none, []⟩,
    ⟨(some 35), .fa 5 (.t 34), none, []⟩,
    ⟨(some 36), .load false 1 (.t 35), none, []⟩,
    ⟨(some 37), .mv (.t 10), none, []⟩,
    ⟨(some 38), .callF 99 [(.t 36), (.t 37)], none, []⟩,
    ⟨(some 11), .mv (.t 38), none, []⟩])
  (.seq (.ops [
    ⟨(some 39), .mv (.t 11), none, []⟩,
    ⟨(some 40), .bin .geq .int (.t 39) (.c (.int .i64 0)), none, []⟩])
  (.cond (.t 40)
   (.dr [
     ⟨(some 41), .load false 1 (.t 7), none, []⟩,
     ⟨(some 42), .load false 1 (.t 7), none, []⟩,
     ⟨(some 43), .nilck (.t 42), none, [1]⟩,
     ⟨(some 44), .fa 6 (.t 43), none, [2]⟩,
     ⟨(some 45), .load false 1 (.t 44), none, [3]⟩,
     ⟨(some 46), .mv (.t 8), none, []⟩,
     ⟨(some 47), .load false 1 (.t 7), none, []⟩,
     ⟨(some 48), .nilck (.t 47), none, [6]⟩,
     ⟨(some 49), .fa 5 (.t 48), none, [7]⟩,
     ⟨(some 50), .load false 1 (.t 49), none, [8]⟩,
     ⟨(some 51), .mv (.t 11), none, []⟩,
     ⟨(some 52), .ixS 1 (.t 50) (.t 51), none, [9, 10]⟩,
     ⟨(some 53), .load false 1 (.t 52), none, [11]⟩,
     ⟨(some 54), .build [(.int .i64 0), (.int .i64 0)] [(0, 1, (.t 46)), (1, 1, (.t 53))], none, [5, 12]⟩,
     ⟨(some 55), .buildS 2 [(.int .i64 0), (.int .i64 0)] 1 [(0, (.t 54))], none, [13]⟩,
     ⟨(some 56), .app 2 16 (.t 45) (.t 55), none, [4, 14]⟩,
     ⟨(some 57), .nilck (.t 41), none, [0, 0, 1, 2, 3, 4, 5, 6, 7, 8, 9, 10, 11, 12, 13, 14, 15]⟩,
     ⟨(some 58), .fa 6 (.t 57), none, [16, 0, 1, 2, 3, 4, 5, 6, 7, 8, 9, 10, 11, 12, 13, 14, 15]⟩,
     ⟨none, .store 1 (.t 58) (.t 56), none, [17, 15, 15, 0, 1, 2, 3, 4, 5, 6, 7, 8, 9, 10, 11, 12, 13, 14, 15]⟩])
   (.dr [
     ⟨(some 59), .load false 1 (.t 7), none, []⟩,
     ⟨(some 60), .load false 1 (.t 7), none, []⟩,
     ⟨(some 61), .nilck (.t 60), none, [1]⟩,
     ⟨(some 62), .fa 5 (.t 61), none, [2]⟩,
     ⟨(some 63), .load false 1 (.t 62), none, [3]⟩,
     ⟨(some 64), .mv (.t 8), none, []⟩,
     ⟨(some 65), .buildS 1 [(.int .i64 0)] 1 [(0, (.t 64))], none, [5]⟩,
     ⟨(some 66), .app 1 8 (.t 63) (.t 65), none, [4, 6]⟩,
     ⟨(some 67), .nilck (.t 59), none, [0, 0, 1, 2, 3, 4, 5, 6, 7]⟩,
     ⟨(some 68), .fa 5 (.t 67), none, [8, 0, 1, 2, 3, 4, 5, 6, 7]⟩,
     ⟨none, .store 1 (.t 68) (.t 66), none, [9, 7, 7, 0, 1, 2, 3, 4, 5, 6, 7]⟩])))))))
  (.ops [
    ⟨(some 69), .bin .add .int (.t 27) (.c (.int .i64 1)), none, []⟩,
    ⟨(some 27), .mv (.t 69), none, []⟩])))))))
 (.seq (.ops [
   ⟨(some 70), .load false 1 (.t 7), none, []⟩,
   ⟨(some 2), .mv (.t 70), none, []⟩,
   ⟨(some 3), .mv (.c (.int .i64 0)), none, []⟩])
 (.ret)))))
def m64_0 : List Nat := [28, 29, 30, 31, 9, 8, 32, 10, 33, 34, 35, 36, 37, 38, 11, 39, 40, 41, 42, 43, 44, 45, 46, 47, 48, 49, 50, 51, 52, 53, 54, 55, 56, 57, 58, 59, 60, 61, 62, 63, 64, 65, 66, 67, 68, 69, 27]
theorem k64 : compFunc Tryz.prog 64 = some (71, c64, [.t 2, .t 3]) := by kernel_rfl
def c65 : ACode :=
 .seq (.ops [
   ⟨(some 7), .mv (.t 0), none, []⟩,
   ⟨(some 8), .mv (.t 0), none, []⟩,
   ⟨(some 9), .nilck (.t 8), none, []⟩,
   ⟨(some 10), .fa 0 (.t 9), none, []⟩,
   ⟨(some 11), .load false 1 (.t 10), none, []⟩,
   ⟨(some 12), .mv (.t 1), none, []⟩,
   ⟨(some 13), .lenS (.t 12), none, []⟩,
   ⟨(some 14), .buildS 1 [(.int .i64 0)] 1 [(0, (.t 13))], none, []⟩,
   ⟨(some 15), .app 1 8 (.t 11) (.t 14), none, []⟩,
   ⟨(some 16), .nilck (.t 7), none, []⟩,
   ⟨(some 17), .fa 0 (.t 16), none, []⟩,
   ⟨none, .store 1 (.t 17) (.t 15), none, []⟩])
 (.seq (.ops [
   ⟨(some 6), .mv (.c (.int .i64 0)), none, []⟩])
 (.block 0 (.loop (.seq (.seq (.ops [
    ⟨(some 18), .mv (.t 6), none, []⟩,
    ⟨(some 19), .mv (.t 1), none, []⟩,
    ⟨(some 20), .lenS (.t 19), none, []⟩,
    ⟨(some 21), .bin .lss .int (.t 18) (.t 20), none, []⟩])
  (.cond (.t 21)
   (.skip)
   (.exit 0)))
  (.seq (.block 1 (.ops [
    ⟨(some 24), .mv (.t 2), none, []⟩,
    ⟨(some 25), .mv (.t 0), none, []⟩,
    ⟨(some 26), .mv (.t 1), none, []⟩,
    ⟨(some 27), .mv (.t 6), none, []⟩,
    ⟨(some 28), .ixS 2 (.t 26) (.t 27), none, []⟩,
    ⟨(some 29), .load true 2 (.t 28), none, []⟩,
    ⟨(some 30), .callV (.t 24) [(.t 25), (.t 29)], none, []⟩]))
  (.ops [
    ⟨(some 22), .mv (.t 6), none, []⟩,
    ⟨(some 23), .bin .add .int (.t 22) (.c (.int .i64 1)), none, []⟩,
    ⟨(some 6), .mv (.t 23), none, []⟩]))))))
def m65_0 : List Nat := [18, 19, 20, 21, 24, 25, 26, 27, 28, 29, 30, 22, 23, 6]
theorem k65 : compFunc Tryz.prog 65 = some (31, c65, []) := by kernel_rfl
def c66 : ACode :=
 .seq (.ops [
   ⟨(some 3), .box (.t 1), none, []⟩])
 (.seq (.ops [
   ⟨(some 4), .mv (.t 0), none, []⟩,
   ⟨(some 5), .fa 0 (.t 3), none, []⟩,
   ⟨(some 6), .load false 1 (.t 5), none, []⟩,
   ⟨(some 7), .callF 14 [(.t 4), (.t 6)], none, []⟩])
 (.ops [
   ⟨(some 8), .mv (.t 0), none, []⟩,
   ⟨(some 9), .fa 1 (.t 3), none, []⟩,
   ⟨(some 10), .load false 1 (.t 9), none, []⟩,
   ⟨(some 11), .callF 14 [(.t 8), (.t 10)], none, []⟩]))
theorem k66 : compFunc Tryz.prog 66 = some (12, c66, []) := by kernel_rfl
def c67 : ACode :=
 .seq (.ops [
   ⟨(some 4), .mv (.c (.int .i64 0)), none, []⟩])
 (.block 0 (.loop (.seq (.seq (.ops [
    ⟨(some 5), .mv (.t 4), none, []⟩,
    ⟨(some 6), .mv (.t 0), none, []⟩,
    ⟨(some 7), .lenS (.t 6), none, []⟩,
    ⟨(some 8), .bin .lss .int (.t 5) (.t 7), none, []⟩])
  (.cond (.t 8)
   (.skip)
   (.exit 0)))
  (.seq (.block 1 (.ops [
    ⟨(some 11), .mv (.t 1), none, []⟩,
    ⟨(some 12), .mv (.t 0), none, []⟩,
    ⟨(some 13), .mv (.t 4), none, []⟩,
    ⟨(some 14), .ixS 2 (.t 12) (.t 13), none, []⟩,
    ⟨(some 15), .callV (.t 11) [(.t 14)], none, []⟩]))
  (.ops [
    ⟨(some 9), .mv (.t 4), none, []⟩,
    ⟨(some 10), .bin .add .int (.t 9) (.c (.int .i64 1)), none, []⟩,
    ⟨(some 4), .mv (.t 10), none, []⟩])))))
def m67_0 : List Nat := [5, 6, 7, 8, 11, 12, 13, 14, 15, 9, 10, 4]
theorem k67 : compFunc Tryz.prog 67 = some (16, c67, []) := by kernel_rfl
def c68 : ACode :=
 .seq (.ops [
   ⟨(some 2), .mv (.t 0), none, []⟩,
   ⟨(some 3), .nilck (.t 2), none, []⟩,
   ⟨(some 4), .fa 0 (.t 3), none, []⟩,
   ⟨(some 5), .callF 81 [(.t 4)], none, []⟩])
 (.ops [
   ⟨(some 6), .mv (.t 0), none, []⟩,
   ⟨(some 7), .nilck (.t 6), none, []⟩,
   ⟨(some 8), .fa 1 (.t 7), none, []⟩,
   ⟨(some 9), .callF 81 [(.t 8)], none, []⟩])
theorem k68 : compFunc Tryz.prog 68 = some (10, c68, []) := by kernel_rfl
def c69 : ACode :=
 .seq (.ops [
   ⟨(some 2), .box (.t 0), none, []⟩,
   ⟨(some 3), .box (.t 1), none, []⟩,
   ⟨(some 4), .alloc [(.int .i64 0), (.int .i64 0)], none, []⟩])
 (.seq (.ops [
   ⟨(some 5), .load false 1 (.t 2), none, []⟩,
   ⟨(some 6), .nilck (.t 5), none, []⟩,
   ⟨(some 7), .fa 5 (.t 6), none, []⟩,
   ⟨(some 8), .load false 1 (.t 7), none, []⟩,
   ⟨(some 9), .mkF (.func 101) [] [(.t 2), (.t 3)], none, []⟩,
   ⟨(some 10), .callF 100 [(.t 8), (.t 9)], none, []⟩,
   ⟨none, .store 2 (.t 4) (.t 10), none, []⟩])
 (.ret))
theorem k69 : compFunc Tryz.prog 69 = some (11, c69, [.cell 4 true 2]) := by kernel_rfl
def c70 : ACode :=
 .seq (.ops [
   ⟨(some 2), .box (.t 0), none, []⟩,
   ⟨(some 3), .box (.t 1), none, []⟩,
   ⟨(some 4), .mv (.c .nilF), none, []⟩])
 (.seq (.ops [
   ⟨(some 5), .mkF (.func 102) [] [(.t 2), (.t 3)], none, []⟩,
   ⟨(some 4), .mv (.t 5), none, []⟩])
 (.ret))
theorem k70 : compFunc Tryz.prog 70 = some (6, c70, [.t 4]) := by kernel_rfl
def c71 : ACode :=
 .seq (.ops [
   ⟨(some 2), .mv (.c (.int .i64 0)), none, []⟩])
 (.seq (.ops [
   ⟨(some 3), .mv (.t 0), none, []⟩,
   ⟨(some 4), .bin .shr .int (.t 3) (.c (.int .u64 1)), none, []⟩,
   ⟨(some 2), .mv (.t 4), none, []⟩])
 (.ret))
theorem k71 : compFunc Tryz.prog 71 = some (5, c71, [.t 2]) := by kernel_rfl
def c72 : ACode :=
 .seq (.ops [
   ⟨(some 7), .mv (.t 0), none, []⟩,
   ⟨(some 8), .mv (.t 0), none, []⟩,
   ⟨(some 9), .nilck (.t 8), none, []⟩,
   ⟨(some 10), .fa 0 (.t 9), none, []⟩,
   ⟨(some 11), .load false 1 (.t 10), none, []⟩,
   ⟨(some 12), .mv (.t 1), none, []⟩,
   ⟨(some 13), .lenS (.t 12), none, []⟩,
   ⟨(some 14), .buildS 1 [(.int .i64 0)] 1 [(0, (.t 13))], none, []⟩,
   ⟨(some 15), .app 1 8 (.t 11) (.t 14), none, []⟩,
   ⟨(some 16), .nilck (.t 7), none, []⟩,
   ⟨(some 17), .fa 0 (.t 16), none, []⟩,
   ⟨none, .store 1 (.t 17) (.t 15), none, []⟩])
 (.seq (.ops [
   ⟨(some 6), .mv (.c (.int .i64 0)), none, []⟩])
 (.block 0 (.loop (.seq (.seq (.ops [
    ⟨(some 18), .mv (.t 6), none, []⟩,
    ⟨(some 19), .mv (.t 1), none, []⟩,
    ⟨(some 20), .lenS (.t 19), none, []⟩,
    ⟨(some 21), .bin .lss .int (.t 18) (.t 20), none, []⟩])
  (.cond (.t 21)
   (.skip)
   (.exit 0)))
  (.seq (.block 1 (.ops [
    ⟨(some 24), .mv (.t 2), none, []⟩,
    ⟨(some 25), .mv (.t 0), none, []⟩,
    ⟨(some 26), .mv (.t 1), none, []⟩,
    ⟨(some 27), .mv (.t 6), none, []⟩,
    ⟨(some 28), .ixS 4 (.t 26) (.t 27), none, []⟩,
    ⟨(some 29), .load true 4 (.t 28), none, []⟩,
    ⟨(some 30), .callV (.t 24) [(.t 25), (.t 29)], none, []⟩]))
  (.ops [
    ⟨(some 22), .mv (.t 6), none, []⟩,
    ⟨(some 23), .bin .add .int (.t 22) (.c (.int .i64 1)), none, []⟩,
    ⟨(some 6), .mv (.t 23), none, []⟩]))))))
def m72_0 : List Nat := [18, 19, 20, 21, 24, 25, 26, 27, 28, 29, 30, 22, 23, 6]
theorem k72 : compFunc Tryz.prog 72 = some (31, c72, []) := by kernel_rfl
def c73 : ACode :=
 .seq (.ops [
   ⟨(some 3), .box (.t 1), none, []⟩])
 (.seq (.ops [
   ⟨(some 4), .mv (.t 0), none, []⟩,
   ⟨(some 5), .fa 0 (.t 3), none, []⟩,
   ⟨(some 6), .load false 1 (.t 5), none, []⟩,
   ⟨(some 7), .callF 14 [(.t 4), (.t 6)], none, []⟩])
 (.seq (.ops [
   ⟨(some 8), .mv (.t 0), none, []⟩,
   ⟨(some 9), .fa 1 (.t 3), none, []⟩,
   ⟨(some 10), .load false 1 (.t 9), none, []⟩,
   ⟨(some 11), .callF 14 [(.t 8), (.t 10)], none, []⟩])
 (.seq (.ops [
   ⟨(some 12), .mv (.t 0), none, []⟩,
   ⟨(some 13), .fa 2 (.t 3), none, []⟩,
   ⟨(some 14), .load false 1 (.t 13), none, []⟩,
   ⟨(some 15), .callF 14 [(.t 12), (.t 14)], none, []⟩])
 (.ops [
   ⟨(some 16), .mv (.t 0), none, []⟩,
   ⟨(some 17), .fa 3 (.t 3), none, []⟩,
   ⟨(some 18), .load false 1 (.t 17), none, []⟩,
   ⟨(some 19), .callF 14 [(.t 16), (.t 18)], none, []⟩]))))
theorem k73 : compFunc Tryz.prog 73 = some (20, c73, []) := by kernel_rfl
def c74 : ACode :=
 .seq (.ops [
   ⟨(some 4), .mv (.c (.int .i64 0)), none, []⟩])
 (.block 0 (.loop (.seq (.seq (.ops [
    ⟨(some 5), .mv (.t 4), none, []⟩,
    ⟨(some 6), .mv (.t 0), none, []⟩,
    ⟨(some 7), .lenS (.t 6), none, []⟩,
    ⟨(some 8), .bin .lss .int (.t 5) (.t 7), none, []⟩])
  (.cond (.t 8)
   (.skip)
   (.exit 0)))
  (.seq (.block 1 (.ops [
    ⟨(some 11), .mv (.t 1), none, []⟩,
    ⟨(some 12), .mv (.t 0), none, []⟩,
    ⟨(some 13), .mv (.t 4), none, []⟩,
    ⟨(some 14), .ixS 4 (.t 12) (.t 13), none, []⟩,
    ⟨(some 15), .callV (.t 11) [(.t 14)], none, []⟩]))
  (.ops [
    ⟨(some 9), .mv (.t 4), none, []⟩,
    ⟨(some 10), .bin .add .int (.t 9) (.c (.int .i64 1)), none, []⟩,
    ⟨(some 4), .mv (.t 10), none, []⟩])))))
def m74_0 : List Nat := [5, 6, 7, 8, 11, 12, 13, 14, 15, 9, 10, 4]
theorem k74 : compFunc Tryz.prog 74 = some (16, c74, []) := by kernel_rfl
def c75 : ACode :=
 .seq (.ops [
   ⟨(some 2), .mv (.t 0), none, []⟩,
   ⟨(some 3), .nilck (.t 2), none, []⟩,
   ⟨(some 4), .fa 0 (.t 3), none, []⟩,
   ⟨(some 5), .callF 81 [(.t 4)], none, []⟩])
 (.seq (.ops [
   ⟨(some 6), .mv (.t 0), none, []⟩,
   ⟨(some 7), .nilck (.t 6), none, []⟩,
   ⟨(some 8), .fa 1 (.t 7), none, []⟩,
   ⟨(some 9), .callF 81 [(.t 8)], none, []⟩])
 (.seq (.ops [
   ⟨(some 10), .mv (.t 0), none, []⟩,
   ⟨(some 11), .nilck (.t 10), none, []⟩,
   ⟨(some 12), .fa 2 (.t 11), none, []⟩,
   ⟨(some 13), .callF 81 [(.t 12)], none, []⟩])
 (.ops [
   ⟨(some 14), .mv (.t 0), none, []⟩,
   ⟨(some 15), .nilck (.t 14), none, []⟩,
   ⟨(some 16), .fa 3 (.t 15), none, []⟩,
   ⟨(some 17), .callF 81 [(.t 16)], none, []⟩])))
theorem k75 : compFunc Tryz.prog 75 = some (18, c75, []) := by kernel_rfl
def c76 : ACode :=
 .seq (.ops [
   ⟨(some 5), .box (.t 2), none, []⟩,
   ⟨(some 6), .mv (.c (.int .i64 0)), none, []⟩,
   ⟨(some 7), .mv (.c (.int .i64 0)), none, []⟩])
 (.seq (.ops [
   ⟨(some 12), .mv (.t 0), none, []⟩,
   ⟨(some 13), .mv (.t 1), none, []⟩,
   ⟨(some 14), .callF 103 [(.t 12), (.t 13)], none, []⟩,
   ⟨(some 11), .mv (.t 14), none, []⟩,
   ⟨(some 15), .ext (.t 11) 0, none, []⟩,
   ⟨(some 16), .ext (.t 11) 1, none, []⟩,
   ⟨(some 8), .mv (.t 15), none, []⟩,
   ⟨(some 9), .mv (.t 16), none, []⟩])
 (.seq (.block 0 (.seq (.ops [
   ⟨(some 18), .mv (.t 9), none, []⟩,
   ⟨(some 19), .bin .neq .int (.t 18) (.c (.int .i64 0)), none, []⟩,
   ⟨(some 17), .mv (.t 19), none, []⟩])
 (.cond (.t 17)
  (.seq (.ops [
    ⟨(some 20), .mv (.t 9), none, []⟩,
    ⟨(some 6), .mv (.c (.int .i64 0)), none, []⟩,
    ⟨(some 7), .mv (.t 20), none, []⟩])
  (.ret))
  (.seq (.ops [
    ⟨(some 22), .load false 1 (.t 5), none, []⟩,
    ⟨(some 23), .mv (.t 0), none, []⟩,
    ⟨(some 24), .bin .sub .int (.t 23) (.c (.int .i64 1)), none, []⟩,
    ⟨(some 25), .callF 104 [(.t 22), (.c (.int .i64 0)), (.t 24)], none, []⟩,
    ⟨(some 21), .mv (.t 25), none, []⟩])
  (.cond (.t 21)
   (.seq (.ops [
     ⟨(some 6), .mv (.c (.int .i64 0)), none, []⟩,
     ⟨(some 7), .mv (.c (.int .i64 7)), none, []⟩])
   (.ret))
   (.skip))))))
 (.seq (.ops [
   ⟨(some 26), .mkF (.func 105) [] [(.t 5)], none, []⟩,
   ⟨(some 10), .mv (.t 26), none, []⟩])
 (.seq (.seq (.ops [
   ⟨(some 27), .mv (.t 1), none, []⟩,
   ⟨(some 28), .mv (.t 10), none, []⟩,
   ⟨(some 29), .callF 107 [(.t 27), (.t 28)], none, []⟩])
 (.cond (.t 29)
  (.seq (.ops [
    ⟨(some 6), .mv (.c (.int .i64 0)), none, []⟩,
    ⟨(some 7), .mv (.c (.int .i64 4)), none, []⟩])
  (.ret))
  (.skip)))
 (.seq (.ops [
   ⟨(some 30), .load false 1 (.t 5), none, []⟩,
   ⟨(some 6), .mv (.t 30), none, []⟩,
   ⟨(some 7), .mv (.c (.int .i64 0)), none, []⟩])
 (.ret))))))
theorem k76 : compFunc Tryz.prog 76 = some (31, c76, [.t 6, .t 7]) := by kernel_rfl
def c77 : ACode :=
 .seq (.ops [
   ⟨(some 3), .box (.t 1), none, []⟩,
   ⟨(some 4), .mv (.c (.int .i64 0)), none, []⟩])
 (.seq (.block 0 (.seq (.ops [
   ⟨(some 6), .mv (.t 0), none, []⟩,
   ⟨(some 7), .lenS (.t 6), none, []⟩,
   ⟨(some 8), .bin .gtr .int (.t 7) (.c (.int .i64 4000)), none, []⟩,
   ⟨(some 5), .mv (.t 8), none, []⟩])
 (.cond (.t 5)
  (.seq (.ops [
    ⟨(some 4), .mv (.c (.int .i64 3)), none, []⟩])
  (.ret))
  (.seq (.ops [
    ⟨(some 10), .mv (.t 0), none, []⟩,
    ⟨(some 11), .mkF (.func 109) [] [(.t 3)], none, []⟩,
    ⟨(some 12), .callF 108 [(.t 10), (.t 11)], none, []⟩,
    ⟨(some 9), .mv (.t 12), none, []⟩])
  (.cond (.t 9)
   (.seq (.ops [
     ⟨(some 4), .mv (.c (.int .i64 7)), none, []⟩])
   (.ret))
   (.skip))))))
 (.seq (.ops [
   ⟨(some 4), .mv (.c (.int .i64 0)), none, []⟩])
 (.ret)))
theorem k77 : compFunc Tryz.prog 77 = some (13, c77, [.t 4]) := by kernel_rfl
def c78 : ACode :=
 .seq (.ops [
   ⟨(some 4), .mv (.c (.int .i64 0)), none, []⟩])
 (.seq (.ops [
   ⟨(some 6), .mv (.t 0), none, []⟩,
   ⟨(some 7), .mv (.t 1), none, []⟩,
   ⟨(some 8), .bin .quo .int (.t 6) (.t 7), none, []⟩,
   ⟨(some 5), .mv (.t 8), none, []⟩])
 (.seq (.seq (.ops [
   ⟨(some 9), .mv (.t 0), none, []⟩,
   ⟨(some 10), .mv (.t 1), none, []⟩,
   ⟨(some 11), .bin .rem .int (.t 9) (.t 10), none, []⟩,
   ⟨(some 12), .bin .lss .int (.t 11) (.c (.int .i64 0)), none, []⟩])
 (.cond (.t 12)
  (.ops [
    ⟨(some 13), .mv (.t 5), none, []⟩,
    ⟨(some 14), .bin .sub .int (.t 13) (.c (.int .i64 1)), none, []⟩,
    ⟨(some 5), .mv (.t 14), none, []⟩])
  (.skip)))
 (.seq (.ops [
   ⟨(some 15), .mv (.t 5), none, []⟩,
   ⟨(some 4), .mv (.t 15), none, []⟩])
 (.ret))))
theorem k78 : compFunc Tryz.prog 78 = some (16, c78, [.t 4]) := by kernel_rfl
def c79 : ACode :=
 .seq (.ops [
   ⟨(some 7), .mv (.t 0), none, []⟩,
   ⟨(some 8), .mv (.t 0), none, []⟩,
   ⟨(some 9), .nilck (.t 8), none, []⟩,
   ⟨(some 10), .fa 0 (.t 9), none, []⟩,
   ⟨(some 11), .load false 1 (.t 10), none, []⟩,
   ⟨(some 12), .mv (.t 1), none, []⟩,
   ⟨(some 13), .lenS (.t 12), none, []⟩,
   ⟨(some 14), .buildS 1 [(.int .i64 0)] 1 [(0, (.t 13))], none, []⟩,
   ⟨(some 15), .app 1 8 (.t 11) (.t 14), none, []⟩,
   ⟨(some 16), .nilck (.t 7), none, []⟩,
   ⟨(some 17), .fa 0 (.t 16), none, []⟩,
   ⟨none, .store 1 (.t 17) (.t 15), none, []⟩])
 (.seq (.ops [
   ⟨(some 6), .mv (.c (.int .i64 0)), none, []⟩])
 (.block 0 (.loop (.seq (.seq (.ops [
    ⟨(some 18), .mv (.t 6), none, []⟩,
    ⟨(some 19), .mv (.t 1), none, []⟩,
    ⟨(some 20), .lenS (.t 19), none, []⟩,
    ⟨(some 21), .bin .lss .int (.t 18) (.t 20), none, []⟩])
  (.cond (.t 21)
   (.skip)
   (.exit 0)))
  (.seq (.block 1 (.ops [
    ⟨(some 24), .mv (.t 2), none, []⟩,
    ⟨(some 25), .mv (.t 0), none, []⟩,
    ⟨(some 26), .mv (.t 1), none, []⟩,
    ⟨(some 27), .mv (.t 6), none, []⟩,
    ⟨(some 28), .ixS 1 (.t 26) (.t 27), none, []⟩,
    ⟨(some 29), .load false 1 (.t 28), none, []⟩,
    ⟨(some 30), .callV (.t 24) [(.t 25), (.t 29)], none, []⟩]))
  (.ops [
    ⟨(some 22), .mv (.t 6), none, []⟩,
    ⟨(some 23), .bin .add .int (.t 22) (.c (.int .i64 1)), none, []⟩,
    ⟨(some 6), .mv (.t 23), none, []⟩]))))))
def m79_0 : List Nat := [18, 19, 20, 21, 24, 25, 26, 27, 28, 29, 30, 22, 23, 6]
theorem k79 : compFunc Tryz.prog 79 = some (31, c79, []) := by kernel_rfl
def c80 : ACode :=
 .seq (.ops [
   ⟨(some 4), .mv (.c (.int .i64 0)), none, []⟩])
 (.block 0 (.loop (.seq (.seq (.ops [
    ⟨(some 5), .mv (.t 4), none, []⟩,
    ⟨(some 6), .mv (.t 0), none, []⟩,
    ⟨(some 7), .lenS (.t 6), none, []⟩,
    ⟨(some 8), .bin .lss .int (.t 5) (.t 7), none, []⟩])
  (.cond (.t 8)
   (.skip)
   (.exit 0)))
  (.seq (.block 1 (.ops [
    ⟨(some 11), .mv (.t 1), none, []⟩,
    ⟨(some 12), .mv (.t 0), none, []⟩,
    ⟨(some 13), .mv (.t 4), none, []⟩,
    ⟨(some 14), .ixS 1 (.t 12) (.t 13), none, []⟩,
    ⟨(some 15), .callV (.t 11) [(.t 14)], none, []⟩]))
  (.ops [
    ⟨(some 9), .mv (.t 4), none, []⟩,
    ⟨(some 10), .bin .add .int (.t 9) (.c (.int .i64 1)), none, []⟩,
    ⟨(some 4), .mv (.t 10), none, []⟩])))))
def m80_0 : List Nat := [5, 6, 7, 8, 11, 12, 13, 14, 15, 9, 10, 4]
theorem k80 : compFunc Tryz.prog 80 = some (16, c80, []) := by kernel_rfl
def c81 : ACode :=
 .ops [
   ⟨(some 2), .mv (.t 0), none, []⟩,
   ⟨(some 3), .nilck (.t 2), none, []⟩,
   ⟨none, .store 1 (.t 3) (.c (.int .i64 (-77))), none, []⟩]
theorem k81 : compFunc Tryz.prog 81 = some (4, c81, []) := by kernel_rfl
def c82 : ACode :=
 .seq (.ops [
   ⟨(some 6), .mv (.c .nilS), none, []⟩,
   ⟨(some 7), .mv (.c (.int .i64 0)), none, []⟩])
 (.seq (.seq (.ops [
   ⟨(some 12), .mv (.t 0), none, []⟩,
   ⟨(some 13), .callF 77 [(.t 12), (.c (.int .i64 4000000))], none, []⟩,
   ⟨(some 8), .mv (.t 13), none, []⟩])
 (.seq (.ops [
   ⟨(some 14), .mv (.t 8), none, []⟩,
   ⟨(some 15), .bin .neq .int (.t 14) (.c (.int .i64 0)), none, []⟩])
 (.cond (.t 15)
  (.seq (.ops [
    ⟨(some 16), .mv (.t 8), none, []⟩,
    ⟨(some 6), .mv (.c .nilS), none, []⟩,
    ⟨(some 7), .mv (.t 16), none, []⟩])
  (.ret))
  (.skip))))
 (.seq (.block 0 (.seq (.ops [
   ⟨(some 18), .mv (.t 1), none, []⟩,
   ⟨(some 19), .lenS (.t 18), none, []⟩,
   ⟨(some 20), .bin .gtr .int (.t 19) (.c (.int .i64 500)), none, []⟩,
   ⟨(some 17), .mv (.t 20), none, []⟩])
 (.cond (.t 17)
  (.seq (.ops [
    ⟨(some 6), .mv (.c .nilS), none, []⟩,
    ⟨(some 7), .mv (.c (.int .i64 3)), none, []⟩])
  (.ret))
  (.seq (.ops [
    ⟨(some 22), .mv (.t 1), none, []⟩,
    ⟨(some 23), .lenS (.t 22), none, []⟩,
    ⟨(some 24), .bin .eql .int (.t 23) (.c (.int .i64 0)), none, []⟩,
    ⟨(some 21), .mv (.t 24), none, []⟩])
  (.cond (.t 21)
   (.seq (.ops [
     ⟨(some 6), .mv (.c .nilS), none, []⟩,
     ⟨(some 7), .mv (.c (.int .i64 9)), none, []⟩])
   (.ret))
   (.skip))))))
 (.seq (.seq (.ops [
   ⟨(some 25), .mv (.t 1), none, []⟩,
   ⟨(some 26), .callF 77 [(.t 25), (.c (.int .i64 2000000))], none, []⟩,
   ⟨(some 9), .mv (.t 26), none, []⟩])
 (.seq (.ops [
   ⟨(some 27), .mv (.t 9), none, []⟩,
   ⟨(some 28), .bin .neq .int (.t 27) (.c (.int .i64 0)), none, []⟩])
 (.cond (.t 28)
  (.seq (.ops [
    ⟨(some 29), .mv (.t 9), none, []⟩,
    ⟨(some 6), .mv (.c .nilS), none, []⟩,
    ⟨(some 7), .mv (.t 29), none, []⟩])
  (.ret))
  (.skip))))
 (.seq (.ops [
   ⟨(some 30), .mv (.t 0), none, []⟩,
   ⟨(some 31), .callF 84 [(.t 30)], none, []⟩,
   ⟨(some 10), .mv (.t 31), none, []⟩])
 (.seq (.seq (.ops [
   ⟨(some 32), .mv (.t 10), none, []⟩,
   ⟨(some 33), .lenS (.t 32), none, []⟩,
   ⟨(some 34), .mv (.c (.int .i64 0)), none, []⟩])
 (.block 1 (.loop (.seq (.ops [
    ⟨(some 35), .bin .lss .int (.t 34) (.t 33), none, []⟩])
  (.seq (.cond (.t 35)
   (.skip)
   (.exit 1))
  (.seq (.block 2 (.seq (.ops [
    ⟨(some 36), .mv (.t 34), none, []⟩,
    ⟨(some 11), .mv (.t 36), none, []⟩])
  (.dr [
    ⟨(some 37), .mv (.t 10), none, []⟩,
    ⟨(some 38), .mv (.t 11), none, []⟩,
    ⟨(some 39), .ixS 1 (.t 37) (.t 38), none, [0, 1]⟩,
    ⟨(some 40), .load false 1 (.t 39), none, [2]⟩,
    ⟨(some 41), .mv (.t 2), none, []⟩,
    ⟨(some 42), .mv (.t 1), none, []⟩,
    ⟨(some 43), .mv (.t 11), none, []⟩,
    ⟨(some 44), .mv (.t 1), none, []⟩,
    ⟨(some 45), .lenS (.t 44), none, [7]⟩,
    ⟨(some 46), .bin .rem .int (.t 43) (.t 45), none, [6, 8]⟩,
    ⟨(some 47), .ixS 1 (.t 42) (.t 46), none, [5, 9]⟩,
    ⟨(some 48), .load false 1 (.t 47), none, [10]⟩,
    ⟨(some 49), .bin .mul .int (.t 41) (.t 48), none, [4, 11]⟩,
    ⟨(some 50), .bin .add .int (.t 40) (.t 49), none, [3, 12]⟩,
    ⟨(some 51), .ixS 1 (.t 37) (.t 38), none, [0, 1, 0, 1, 2, 3, 4, 5, 6, 7, 8, 9, 10, 11, 12, 13]⟩,
    ⟨none, .store 1 (.t 51) (.t 50), none, [14, 13, 0, 1, 2, 3, 4, 5, 6, 7, 8, 9, 10, 11, 12, 13]⟩])))
  (.ops [
    ⟨(some 52), .bin .add .int (.t 34) (.c (.int .i64 1)), none, []⟩,
    ⟨(some 34), .mv (.t 52), none, []⟩])))))))
 (.seq (.ops [
   ⟨(some 53), .mv (.t 10), none, []⟩,
   ⟨(some 6), .mv (.t 53), none, []⟩,
   ⟨(some 7), .mv (.c (.int .i64 0)), none, []⟩])
 (.ret)))))))
def m82_0 : List Nat := [35, 36, 11, 37, 38, 39, 40, 41, 42, 43, 44, 45, 46, 47, 48, 49, 50, 51, 52, 34]
theorem k82 : compFunc Tryz.prog 82 = some (54, c82, [.t 6, .t 7]) := by kernel_rfl
def c83 : ACode :=
 .seq (.ops [
   ⟨(some 6), .mv (.c .nilS), none, []⟩,
   ⟨(some 7), .mv (.c (.int .i64 0)), none, []⟩,
   ⟨(some 8), .mv (.c (.int .i64 0)), none, []⟩])
 (.seq (.ops [
   ⟨(some 12), .mv (.t 0), none, []⟩,
   ⟨(some 13), .callF 77 [(.t 12), (.c (.int .i64 1000000))], none, []⟩,
   ⟨(some 8), .mv (.t 13), none, []⟩])
 (.seq (.block 0 (.seq (.ops [
   ⟨(some 15), .mv (.t 8), none, []⟩,
   ⟨(some 16), .bin .neq .int (.t 15) (.c (.int .i64 0)), none, []⟩,
   ⟨(some 14), .mv (.t 16), none, []⟩])
 (.cond (.t 14)
  (.seq (.ops [
    ⟨(some 17), .mv (.t 8), none, []⟩,
    ⟨(some 6), .mv (.c .nilS), none, []⟩,
    ⟨(some 7), .mv (.c (.int .i64 0)), none, []⟩,
    ⟨(some 8), .mv (.t 17), none, []⟩])
  (.ret))
  (.seq (.ops [
    ⟨(some 19), .mv (.t 2), none, []⟩,
    ⟨(some 20), .callF 63 [(.t 19), (.c (.int .i64 0)), (.c (.int .i64 50))], none, []⟩,
    ⟨(some 18), .mv (.t 20), none, []⟩])
  (.cond (.t 18)
   (.seq (.ops [
     ⟨(some 6), .mv (.c .nilS), none, []⟩,
     ⟨(some 7), .mv (.c (.int .i64 0)), none, []⟩,
     ⟨(some 8), .mv (.c (.int .i64 7)), none, []⟩])
   (.ret))
   (.seq (.ops [
     ⟨(some 22), .mv (.t 1), none, []⟩,
     ⟨(some 23), .lenS (.t 22), none, []⟩,
     ⟨(some 24), .bin .gtr .int (.t 23) (.c (.int .i64 60)), none, []⟩,
     ⟨(some 21), .mv (.t 24), none, []⟩])
   (.cond (.t 21)
    (.seq (.ops [
      ⟨(some 6), .mv (.c .nilS), none, []⟩,
      ⟨(some 7), .mv (.c (.int .i64 0)), none, []⟩,
      ⟨(some 8), .mv (.c (.int .i64 3)), none, []⟩])
    (.ret))
    (.skip))))))))
 (.seq (.seq (.ops [
   ⟨(some 25), .mv (.t 1), none, []⟩,
   ⟨(some 26), .lenS (.t 25), none, []⟩,
   ⟨(some 27), .mv (.c (.int .i64 0)), none, []⟩])
 (.block 1 (.loop (.seq (.ops [
    ⟨(some 28), .bin .lss .int (.t 27) (.t 26), none, []⟩])
  (.seq (.cond (.t 28)
   (.skip)
   (.exit 1))
  (.seq (.block 2 (.seq (.ops [
    ⟨(some 29), .ixS 1 (.t 25) (.t 27), none, []⟩,
    ⟨(some 30), .load false 1 (.t 29), none, []⟩,
    ⟨(some 10), .mv (.t 30), none, []⟩])
  (.seq (.seq (.ops [
    ⟨(some 31), .mv (.t 10), none, []⟩,
    ⟨(some 32), .mv (.t 0), none, []⟩,
    ⟨(some 33), .lenS (.t 32), none, []⟩,
    ⟨(some 34), .bin .sub .int (.t 33) (.c (.int .i64 1)), none, []⟩,
    ⟨(some 35), .callF 63 [(.t 31), (.c (.int .i64 0)), (.t 34)], none, []⟩])
  (.cond (.t 35)
   (.seq (.ops [
     ⟨(some 6), .mv (.c .nilS), none, []⟩,
     ⟨(some 7), .mv (.c (.int .i64 0)), none, []⟩,
     ⟨(some 8), .mv (.c (.int .i64 7)), none, []⟩])
   (.ret))
   (.skip)))
  (.seq (.ops [
    ⟨(some 36), .mv (.t 10), none, []⟩,
    ⟨(some 37), .mv (.t 2), none, []⟩,
    ⟨(some 38), .bin .sub .int (.t 36) (.t 37), none, []⟩,
    ⟨(some 39), .mx [(.c (.int .i64 0)), (.t 38)], none, []⟩,
    ⟨(some 40), .mv (.t 0), none, []⟩,
    ⟨(some 41), .lenS (.t 40), none, []⟩,
    ⟨(some 42), .bin .sub .int (.t 41) (.c (.int .i64 1)), none, []⟩,
    ⟨(some 43), .mv (.t 10), none, []⟩,
    ⟨(some 44), .mv (.t 2), none, []⟩,
    ⟨(some 45), .bin .add .int (.t 43) (.t 44), none, []⟩,
    ⟨(some 46), .mn [(.t 42), (.t 45)], none, []⟩,
    ⟨(some 47), .build [(.int .i64 0), (.int .i64 0)] [(0, 1, (.t 39)), (1, 1, (.t 46))], none, []⟩,
    ⟨(some 11), .alloc [(.int .i64 0), (.int .i64 0)], none, []⟩,
    ⟨none, .store 2 (.t 11) (.t 47), none, []⟩])
  (.dr [
    ⟨(some 48), .mv (.t 6), none, []⟩,
    ⟨(some 49), .load true 2 (.t 11), none, []⟩,
    ⟨(some 50), .buildS 2 [(.int .i64 0), (.int .i64 0)] 1 [(0, (.t 49))], none, [1]⟩,
    ⟨(some 51), .app 2 16 (.t 48) (.t 50), none, [0, 2]⟩,
    ⟨(some 52), .mv (.t 7), none, []⟩,
    ⟨(some 53), .fa 1 (.t 11), none, []⟩,
    ⟨(some 54), .load false 1 (.t 53), none, [5]⟩,
    ⟨(some 55), .bin .add .int (.t 52) (.t 54), none, [4, 6]⟩,
    ⟨(some 56), .fa 0 (.t 11), none, []⟩,
    ⟨(some 57), .load false 1 (.t 56), none, [8]⟩,
    ⟨(some 58), .bin .sub .int (.t 55) (.t 57), none, [7, 9]⟩,
    ⟨(some 59), .bin .add .int (.t 58) (.c (.int .i64 1)), none, [10]⟩,
    ⟨(some 6), .mv (.t 51), none, [3, 3, 0, 1, 2, 3]⟩,
    ⟨(some 7), .mv (.t 59), none, [11, 12, 0, 1, 2, 3, 4, 5, 6, 7, 8, 9, 10, 11, 12]⟩])))))
  (.ops [
    ⟨(some 60), .bin .add .int (.t 27) (.c (.int .i64 1)), none, []⟩,
    ⟨(some 27), .mv (.t 60), none, []⟩])))))))
 (.seq (.ops [
   ⟨(some 61), .mv (.t 6), none, []⟩,
   ⟨(some 62), .mv (.t 7), none, []⟩,
   ⟨(some 6), .mv (.t 61), none, []⟩,
   ⟨(some 7), .mv (.t 62), none, []⟩,
   ⟨(some 8), .mv (.c (.int .i64 0)), none, []⟩])
 (.ret)))))
def m83_0 : List Nat := [28, 29, 30, 10, 31, 32, 33, 34, 35, 6, 7, 8, 36, 37, 38, 39, 40, 41, 42, 43, 44, 45, 46, 47, 11, 48, 49, 50, 51, 52, 53, 54, 55, 56, 57, 58, 59, 60, 27]
theorem k83 : compFunc Tryz.prog 83 = some (63, c83, [.t 6, .t 7, .t 8]) := by kernel_rfl
def c84 : ACode :=
 .seq (.ops [
   ⟨(some 2), .mv (.c .nilS), none, []⟩])
 (.seq (.seq (.ops [
   ⟨(some 3), .mv (.t 0), none, []⟩,
   ⟨(some 4), .bin .eql .slice (.t 3) (.c .nilS), none, []⟩])
 (.cond (.t 4)
  (.seq (.ops [
    ⟨(some 2), .mv (.c .nilS), none, []⟩])
  (.ret))
  (.skip)))
 (.seq (.ops [
   ⟨(some 5), .buildS 1 [(.int .i64 0)] 0 [], none, []⟩,
   ⟨(some 6), .mv (.t 0), none, []⟩,
   ⟨(some 7), .app 1 8 (.t 5) (.t 6), none, []⟩,
   ⟨(some 2), .mv (.t 7), none, []⟩])
 (.ret)))
theorem k84 : compFunc Tryz.prog 84 = some (8, c84, [.t 2]) := by kernel_rfl
def c85 : ACode :=
 .seq (.ops [
   ⟨(some 6), .mv (.c .nilS), none, []⟩])
 (.seq (.ops [
   ⟨(some 9), .mv (.t 2), none, []⟩,
   ⟨(some 10), .mkS [(.int .i64 0)] 8 (.t 9) (.t 9), none, []⟩,
   ⟨(some 7), .mv (.t 10), none, []⟩])
 (.seq (.seq (.ops [
   ⟨(some 11), .mv (.t 2), none, []⟩,
   ⟨(some 12), .mv (.c (.int .i64 0)), none, []⟩])
 (.block 0 (.loop (.seq (.ops [
    ⟨(some 13), .bin .lss .int (.t 12) (.t 11), none, []⟩])
  (.seq (.cond (.t 13)
   (.skip)
   (.exit 0))
  (.seq (.block 1 (.seq (.ops [
    ⟨(some 14), .mv (.t 12), none, []⟩,
    ⟨(some 8), .mv (.t 14), none, []⟩])
  (.ops [
    ⟨(some 15), .mv (.t 7), none, []⟩,
    ⟨(some 16), .mv (.t 8), none, []⟩,
    ⟨(some 17), .mv (.t 0), none, []⟩,
    ⟨(some 18), .mv (.t 1), none, []⟩,
    ⟨(some 19), .mv (.t 0), none, []⟩,
    ⟨(some 20), .bin .sub .int (.t 18) (.t 19), none, []⟩,
    ⟨(some 21), .mv (.t 8), none, []⟩,
    ⟨(some 22), .bin .add .int (.t 21) (.c (.int .i64 1)), none, []⟩,
    ⟨(some 23), .bin .mul .int (.t 20) (.t 22), none, []⟩,
    ⟨(some 24), .mv (.t 2), none, []⟩,
    ⟨(some 25), .bin .add .int (.t 24) (.c (.int .i64 1)), none, []⟩,
    ⟨(some 26), .callF 78 [(.t 23), (.t 25)], none, []⟩,
    ⟨(some 27), .bin .add .int (.t 17) (.t 26), none, []⟩,
    ⟨(some 28), .ixS 1 (.t 15) (.t 16), none, []⟩,
    ⟨none, .store 1 (.t 28) (.t 27), none, []⟩])))
  (.ops [
    ⟨(some 29), .bin .add .int (.t 12) (.c (.int .i64 1)), none, []⟩,
    ⟨(some 12), .mv (.t 29), none, []⟩])))))))
 (.seq (.ops [
   ⟨(some 30), .mv (.t 7), none, []⟩,
   ⟨(some 6), .mv (.t 30), none, []⟩])
 (.ret))))
def m85_0 : List Nat := [13, 14, 8, 15, 16, 17, 18, 19, 20, 21, 22, 23, 24, 25, 26, 27, 28, 29, 12]
theorem k85 : compFunc Tryz.prog 85 = some (31, c85, [.t 6]) := by kernel_rfl
def c86 : ACode :=
 .seq (.ops [
   ⟨(some 1), .box (.t 0), none, []⟩,
   ⟨(some 2), .mv (.c .nilF), none, []⟩])
 (.seq (.ops [
   ⟨(some 3), .mkF (.func 110) [] [(.t 1)], none, []⟩,
   ⟨(some 2), .mv (.t 3), none, []⟩])
 (.ret))
theorem k86 : compFunc Tryz.prog 86 = some (4, c86, [.t 2]) := by kernel_rfl
def c87 : ACode :=
 .seq (.ops [
   ⟨(some 0), .alloc [(.int .i64 0), (.int .i64 0), .nilS], none, []⟩,
   ⟨(some 1), .alloc [(.int .i64 0), (.int .i64 0), .nilS], none, []⟩])
 (.seq (.ops [
   ⟨(some 2), .buildS 1 [(.int .u8 0)] 12 [(0, (.c (.int .u8 0))), (1, (.c (.int .u8 200))), (2, (.c (.int .u8 127))), (3, (.c (.int .u8 128))), (4, (.c (.int .u8 255))), (5, (.c (.int .u8 255))), (6, (.c (.int .u8 0))), (7, (.c (.int .u8 0))), (8, (.c (.int .u8 10))), (9, (.c (.int .u8 20))), (10, (.c (.int .u8 30))), (11, (.c (.int .u8 40)))], none, []⟩,
   ⟨(some 3), .build [(.int .i64 0), (.int .i64 0), .nilS] [(0, 1, (.c (.int .i64 4))), (1, 1, (.c (.int .i64 3))), (2, 1, (.t 2))], none, []⟩,
   ⟨none, .store 3 (.t 0) (.t 3), none, []⟩])
 (.seq (.ops [
   ⟨(some 4), .load true 3 (.t 0), none, []⟩,
   ⟨(some 5), .buildS 1 [(.int .u8 0)] 12 [(0, (.c (.int .u8 0))), (1, (.c (.int .u8 1))), (2, (.c (.int .u8 0))), (3, (.c (.int .u8 0))), (4, (.c (.int .u8 0))), (5, (.c (.int .u8 0))), (6, (.c (.int .u8 0))), (7, (.c (.int .u8 0))), (8, (.c (.int .u8 0))), (9, (.c (.int .u8 0))), (10, (.c (.int .u8 0))), (11, (.c (.int .u8 255)))], none, []⟩,
   ⟨(some 6), .build [(.int .i64 0), (.int .i64 0), .nilS] [(0, 1, (.c (.int .i64 4))), (1, 1, (.c (.int .i64 3))), (2, 1, (.t 5))], none, []⟩,
   ⟨none, .store 3 (.t 0) (.t 4), none, []⟩,
   ⟨none, .store 3 (.t 1) (.t 6), none, []⟩])
 (.ret)))
theorem k87 : compFunc Tryz.prog 87 = some (7, c87, [.cell 0 true 3, .cell 1 true 3]) := by kernel_rfl
def c88 : ACode :=
 .seq (.ops [
   ⟨(some 0), .alloc [(.int .i64 0), (.int .i64 0), (.int .i64 0), .nilS, .nilS], none, []⟩])
 (.seq (.ops [
   ⟨(some 1), .callF 90 [(.c (.int .i64 990)), (.c (.int .i64 1010))], none, []⟩,
   ⟨(some 2), .build [(.int .i64 0), (.int .i64 0), (.int .i64 0)] [(0, 1, (.c (.int .i64 10))), (1, 1, (.c (.int .i64 20000))), (2, 1, (.c (.int .i64 50)))], none, []⟩,
   ⟨(some 3), .build [(.int .i64 0), (.int .i64 0), (.int .i64 0)] [(0, 1, (.c (.int .i64 60))), (1, 1, (.c (.int .i64 70000))), (2, 1, (.c (.int .i64 100)))], none, []⟩,
   ⟨(some 4), .build [(.int .i64 0), (.int .i64 0), (.int .i64 0)] [(0, 1, (.c (.int .i64 61))), (1, 1, (.c (.int .i64 72000))), (2, 1, (.c (.int .i64 10)))], none, []⟩,
   ⟨(some 5), .build [(.int .i64 0), (.int .i64 0), (.int .i64 0)] [(0, 1, (.c (.int .i64 90))), (1, 1, (.c (.int .i64 100200)))], none, []⟩,
   ⟨(some 6), .buildS 3 [(.int .i64 0), (.int .i64 0), (.int .i64 0)] 4 [(0, (.t 2)), (1, (.t 3)), (2, (.t 4)), (3, (.t 5))], none, []⟩,
   ⟨(some 7), .buildS 1 [(.int .i64 0)] 2 [(0, (.c (.int .i64 1000000))), (1, (.c (.int .i64 1005000)))], none, []⟩,
   ⟨(some 8), .build [(.int .i64 0), (.int .i64 0), (.int .i64 0), .nilS, .nilS] [(0, 1, (.c (.int .i64 100))), (1, 2, (.t 1)), (3, 1, (.t 6)), (4, 1, (.t 7))], none, []⟩,
   ⟨none, .store 5 (.t 0) (.t 8), none, []⟩])
 (.ret))
theorem k88 : compFunc Tryz.prog 88 = some (9, c88, [.cell 0 true 5]) := by kernel_rfl
def c89 : ACode :=
 .seq (.ops [
   ⟨(some 4), .mv (.c (.bool false)), none, []⟩])
 (.seq (.seq (.ops [
   ⟨(some 6), .mv (.t 0), none, []⟩,
   ⟨(some 7), .lenS (.t 6), none, []⟩,
   ⟨(some 8), .mv (.t 1), none, []⟩,
   ⟨(some 9), .lenS (.t 8), none, []⟩,
   ⟨(some 10), .bin .neq .int (.t 7) (.t 9), none, []⟩])
 (.cond (.t 10)
  (.seq (.ops [
    ⟨(some 4), .mv (.c (.bool false)), none, []⟩])
  (.ret))
  (.skip)))
 (.seq (.seq (.ops [
   ⟨(some 5), .mv (.c (.int .i64 0)), none, []⟩])
 (.block 0 (.loop (.seq (.seq (.ops [
    ⟨(some 11), .mv (.t 5), none, []⟩,
    ⟨(some 12), .mv (.t 0), none, []⟩,
    ⟨(some 13), .lenS (.t 12), none, []⟩,
    ⟨(some 14), .bin .lss .int (.t 11) (.t 13), none, []⟩])
  (.cond (.t 14)
   (.skip)
   (.exit 0)))
  (.seq (.block 1 (.seq (.dr [
    ⟨(some 17), .mv (.t 0), none, []⟩,
    ⟨(some 18), .mv (.t 5), none, []⟩,
    ⟨(some 19), .ixS 2 (.t 17) (.t 18), none, [0, 1]⟩,
    ⟨(some 20), .load true 2 (.t 19), none, [2]⟩,
    ⟨(some 21), .mv (.t 1), none, []⟩,
    ⟨(some 22), .mv (.t 5), none, []⟩,
    ⟨(some 23), .ixS 2 (.t 21) (.t 22), none, [4, 5]⟩,
    ⟨(some 24), .load true 2 (.t 23), none, [6]⟩,
    ⟨(some 25), .bin .neq (.struct [(0, 1, false, .int), (1, 1, false, .int)]) (.t 20) (.t 24), none, [3, 7]⟩])
  (.cond (.t 25)
   (.seq (.ops [
     ⟨(some 4), .mv (.c (.bool false)), none, []⟩])
   (.ret))
   (.skip))))
  (.ops [
    ⟨(some 15), .mv (.t 5), none, []⟩,
    ⟨(some 16), .bin .add .int (.t 15) (.c (.int .i64 1)), none, []⟩,
    ⟨(some 5), .mv (.t 16), none, []⟩]))))))
 (.seq (.ops [
   ⟨(some 4), .mv (.c (.bool true)), none, []⟩])
 (.ret))))
def m89_0 : List Nat := [11, 12, 13, 14, 17, 18, 19, 20, 21, 22, 23, 24, 25, 4, 15, 16, 5]
theorem k89 : compFunc Tryz.prog 89 = some (26, c89, [.t 4]) := by kernel_rfl
def c90 : ACode :=
 .seq (.ops [
   ⟨(some 4), .alloc [(.int .i64 0), (.int .i64 0)], none, []⟩])
 (.seq (.ops [
   ⟨(some 5), .mv (.t 0), none, []⟩,
   ⟨(some 6), .mv (.t 1), none, []⟩,
   ⟨(some 7), .build [(.int .i64 0), (.int .i64 0)] [(0, 1, (.t 5)), (1, 1, (.t 6))], none, []⟩,
   ⟨none, .store 2 (.t 4) (.t 7), none, []⟩])
 (.ret))
theorem k90 : compFunc Tryz.prog 90 = some (8, c90, [.cell 4 true 2]) := by kernel_rfl
def c91 : ACode :=
 .seq (.ops [
   ⟨(some 4), .mv (.c (.bool false)), none, []⟩])
 (.seq (.seq (.ops [
   ⟨(some 6), .mv (.t 0), none, []⟩,
   ⟨(some 7), .lenS (.t 6), none, []⟩,
   ⟨(some 8), .mv (.t 1), none, []⟩,
   ⟨(some 9), .lenS (.t 8), none, []⟩,
   ⟨(some 10), .bin .neq .int (.t 7) (.t 9), none, []⟩])
 (.cond (.t 10)
  (.seq (.ops [
    ⟨(some 4), .mv (.c (.bool false)), none, []⟩])
  (.ret))
  (.skip)))
 (.seq (.seq (.ops [
   ⟨(some 5), .mv (.c (.int .i64 0)), none, []⟩])
 (.block 0 (.loop (.seq (.seq (.ops [
    ⟨(some 11), .mv (.t 5), none, []⟩,
    ⟨(some 12), .mv (.t 0), none, []⟩,
    ⟨(some 13), .lenS (.t 12), none, []⟩,
    ⟨(some 14), .bin .lss .int (.t 11) (.t 13), none, []⟩])
  (.cond (.t 14)
   (.skip)
   (.exit 0)))
  (.seq (.block 1 (.seq (.dr [
    ⟨(some 17), .mv (.t 0), none, []⟩,
    ⟨(some 18), .mv (.t 5), none, []⟩,
    ⟨(some 19), .ixS 1 (.t 17) (.t 18), none, [0, 1]⟩,
    ⟨(some 20), .load false 1 (.t 19), none, [2]⟩,
    ⟨(some 21), .mv (.t 1), none, []⟩,
    ⟨(some 22), .mv (.t 5), none, []⟩,
    ⟨(some 23), .ixS 1 (.t 21) (.t 22), none, [4, 5]⟩,
    ⟨(some 24), .load false 1 (.t 23), none, [6]⟩,
    ⟨(some 25), .bin .neq .int (.t 20) (.t 24), none, [3, 7]⟩])
  (.cond (.t 25)
   (.seq (.ops [
     ⟨(some 4), .mv (.c (.bool false)), none, []⟩])
   (.ret))
   (.skip))))
  (.ops [
    ⟨(some 15), .mv (.t 5), none, []⟩,
    ⟨(some 16), .bin .add .int (.t 15) (.c (.int .i64 1)), none, []⟩,
    ⟨(some 5), .mv (.t 16), none, []⟩]))))))
 (.seq (.ops [
   ⟨(some 4), .mv (.c (.bool true)), none, []⟩])
 (.ret))))
def m91_0 : List Nat := [11, 12, 13, 14, 17, 18, 19, 20, 21, 22, 23, 24, 25, 4, 15, 16, 5]
theorem k91 : compFunc Tryz.prog 91 = some (26, c91, [.t 4]) := by kernel_rfl
def c92 : ACode :=
 .ops [
   ⟨(some 4), .mv (.t 0), none, []⟩,
   ⟨(some 5), .mv (.t 1), none, []⟩,
   ⟨(some 6), .callF 111 [(.t 4), (.t 5), (.f 112)], none, []⟩]
theorem k92 : compFunc Tryz.prog 92 = some (7, c92, []) := by kernel_rfl
def c93 : ACode :=
 .ops [
   ⟨(some 4), .mv (.t 0), none, []⟩,
   ⟨(some 5), .mv (.t 1), none, []⟩,
   ⟨(some 6), .callF 113 [(.t 4), (.t 5), (.f 114)], none, []⟩]
theorem k93 : compFunc Tryz.prog 93 = some (7, c93, []) := by kernel_rfl
def c94 : ACode :=
 .seq (.ops [
   ⟨(some 7), .mv (.t 0), none, []⟩,
   ⟨(some 8), .mv (.t 0), none, []⟩,
   ⟨(some 9), .nilck (.t 8), none, []⟩,
   ⟨(some 10), .fa 0 (.t 9), none, []⟩,
   ⟨(some 11), .load false 1 (.t 10), none, []⟩,
   ⟨(some 12), .mv (.t 1), none, []⟩,
   ⟨(some 13), .lenS (.t 12), none, []⟩,
   ⟨(some 14), .buildS 1 [(.int .i64 0)] 1 [(0, (.t 13))], none, []⟩,
   ⟨(some 15), .app 1 8 (.t 11) (.t 14), none, []⟩,
   ⟨(some 16), .nilck (.t 7), none, []⟩,
   ⟨(some 17), .fa 0 (.t 16), none, []⟩,
   ⟨none, .store 1 (.t 17) (.t 15), none, []⟩])
 (.seq (.ops [
   ⟨(some 6), .mv (.c (.int .i64 0)), none, []⟩])
 (.block 0 (.loop (.seq (.seq (.ops [
    ⟨(some 18), .mv (.t 6), none, []⟩,
    ⟨(some 19), .mv (.t 1), none, []⟩,
    ⟨(some 20), .lenS (.t 19), none, []⟩,
    ⟨(some 21), .bin .lss .int (.t 18) (.t 20), none, []⟩])
  (.cond (.t 21)
   (.skip)
   (.exit 0)))
  (.seq (.block 1 (.ops [
    ⟨(some 24), .mv (.t 2), none, []⟩,
    ⟨(some 25), .mv (.t 0), none, []⟩,
    ⟨(some 26), .mv (.t 1), none, []⟩,
    ⟨(some 27), .mv (.t 6), none, []⟩,
    ⟨(some 28), .ixS 2 (.t 26) (.t 27), none, []⟩,
    ⟨(some 29), .load true 2 (.t 28), none, []⟩,
    ⟨(some 30), .callV (.t 24) [(.t 25), (.t 29)], none, []⟩]))
  (.ops [
    ⟨(some 22), .mv (.t 6), none, []⟩,
    ⟨(some 23), .bin .add .int (.t 22) (.c (.int .i64 1)), none, []⟩,
    ⟨(some 6), .mv (.t 23), none, []⟩]))))))
def m94_0 : List Nat := [18, 19, 20, 21, 24, 25, 26, 27, 28, 29, 30, 22, 23, 6]
theorem k94 : compFunc Tryz.prog 94 = some (31, c94, []) := by kernel_rfl
def c95 : ACode :=
 .seq (.ops [
   ⟨(some 3), .box (.t 1), none, []⟩])
 (.seq (.ops [
   ⟨(some 4), .mv (.t 0), none, []⟩,
   ⟨(some 5), .fa 0 (.t 3), none, []⟩,
   ⟨(some 6), .load false 1 (.t 5), none, []⟩,
   ⟨(some 7), .callF 14 [(.t 4), (.t 6)], none, []⟩])
 (.ops [
   ⟨(some 8), .mv (.t 0), none, []⟩,
   ⟨(some 9), .fa 1 (.t 3), none, []⟩,
   ⟨(some 10), .load false 1 (.t 9), none, []⟩,
   ⟨(some 11), .callF 14 [(.t 8), (.t 10)], none, []⟩]))
theorem k95 : compFunc Tryz.prog 95 = some (12, c95, []) := by kernel_rfl
def c96 : ACode :=
 .seq (.ops [
   ⟨(some 6), .mv (.c (.bool false)), none, []⟩])
 (.seq (.ops [
   ⟨(some 7), .mv (.t 0), none, []⟩,
   ⟨(some 8), .mv (.t 1), none, []⟩,
   ⟨(some 9), .bin .lss .int (.t 7) (.t 8), none, []⟩,
   ⟨(some 10), .mv (.t 9), none, []⟩,
   ⟨(some 11), .mv (.t 0), (some (10, false)), []⟩,
   ⟨(some 12), .mv (.t 2), (some (10, false)), []⟩,
   ⟨(some 13), .bin .gtr .int (.t 11) (.t 12), (some (10, false)), []⟩,
   ⟨(some 14), .pick (.t 10) (.c (.bool true)) (.t 13), none, []⟩,
   ⟨(some 6), .mv (.t 14), none, []⟩])
 (.ret))
theorem k96 : compFunc Tryz.prog 96 = some (15, c96, [.t 6]) := by kernel_rfl
def c97 : ACode :=
 .seq (.ops [
   ⟨(some 4), .mv (.c (.bool false)), none, []⟩])
 (.seq (.ops [
   ⟨(some 6), .load false 1 (.t 1), none, []⟩,
   ⟨(some 7), .mv (.t 0), none, []⟩,
   ⟨(some 8), .fa 0 (.t 2), none, []⟩,
   ⟨(some 9), .load false 1 (.t 8), none, []⟩,
   ⟨(some 10), .callF 98 [(.t 6), (.t 7), (.t 9)], none, []⟩,
   ⟨(some 5), .alloc [(.int .i64 0), (.int .i64 0)], none, []⟩,
   ⟨none, .store 2 (.t 5) (.t 10), none, []⟩])
 (.seq (.ops [
   ⟨(some 11), .fa 0 (.t 5), none, []⟩,
   ⟨(some 12), .load false 1 (.t 11), none, []⟩,
   ⟨(some 13), .fa 1 (.t 2), none, []⟩,
   ⟨(some 14), .load false 1 (.t 13), none, []⟩,
   ⟨(some 15), .fa 2 (.t 2), none, []⟩,
   ⟨(some 16), .load false 1 (.t 15), none, []⟩,
   ⟨(some 17), .bin .add .int (.t 14) (.t 16), none, []⟩,
   ⟨(some 18), .bin .gtr .int (.t 12) (.t 17), none, []⟩,
   ⟨(some 19), .mv (.t 18), none, []⟩,
   ⟨(some 20), .fa 1 (.t 5), (some (19, false)), []⟩,
   ⟨(some 21), .load false 1 (.t 20), (some (19, false)), []⟩,
   ⟨(some 22), .fa 1 (.t 2), (some (19, false)), []⟩,
   ⟨(some 23), .load false 1 (.t 22), (some (19, false)), []⟩,
   ⟨(some 24), .fa 2 (.t 2), (some (19, false)), []⟩,
   ⟨(some 25), .load false 1 (.t 24), (some (19, false)), []⟩,
   ⟨(some 26), .bin .sub .int (.t 23) (.t 25), (some (19, false)), []⟩,
   ⟨(some 27), .bin .lss .int (.t 21) (.t 26), (some (19, false)), []⟩,
   ⟨(some 28), .pick (.t 19) (.c (.bool true)) (.t 27), none, []⟩,
   ⟨(some 4), .mv (.t 28), none, []⟩])
 (.ret)))
theorem k97 : compFunc Tryz.prog 97 = some (29, c97, [.t 4]) := by kernel_rfl
def c98 : ACode :=
 .seq (.ops [
   ⟨(some 6), .alloc [(.int .i64 0), (.int .i64 0)], none, []⟩])
 (.seq (.ops [
   ⟨(some 11), .mv (.t 0), none, []⟩,
   ⟨(some 12), .nilck (.t 11), none, []⟩,
   ⟨(some 13), .fa 0 (.t 12), none, []⟩,
   ⟨(some 14), .fa 3 (.t 13), none, []⟩,
   ⟨(some 15), .load false 1 (.t 14), none, []⟩,
   ⟨(some 16), .mv (.t 1), none, []⟩,
   ⟨(some 17), .ixS 3 (.t 15) (.t 16), none, []⟩,
   ⟨(some 18), .load true 3 (.t 17), none, []⟩,
   ⟨(some 7), .alloc [(.int .i64 0), (.int .i64 0), (.int .i64 0)], none, []⟩,
   ⟨none, .store 3 (.t 7) (.t 18), none, []⟩])
 (.seq (.ops [
   ⟨(some 19), .mv (.t 2), none, []⟩,
   ⟨(some 20), .fa 0 (.t 7), none, []⟩,
   ⟨(some 21), .load false 1 (.t 20), none, []⟩,
   ⟨(some 22), .bin .sub .int (.t 19) (.t 21), none, []⟩,
   ⟨(some 8), .mv (.t 22), none, []⟩])
 (.seq (.dr [
   ⟨(some 23), .mv (.t 8), none, []⟩,
   ⟨(some 24), .mv (.t 0), none, []⟩,
   ⟨(some 25), .nilck (.t 24), none, [1]⟩,
   ⟨(some 26), .fa 0 (.t 25), none, [2]⟩,
   ⟨(some 27), .fa 1 (.t 26), none, [3]⟩,
   ⟨(some 28), .fa 0 (.t 27), none, [4]⟩,
   ⟨(some 29), .load false 1 (.t 28), none, [5]⟩,
   ⟨(some 30), .bin .mul .int (.t 23) (.t 29), none, [0, 6]⟩,
   ⟨(some 31), .mv (.t 8), none, []⟩,
   ⟨(some 32), .mv (.t 0), none, []⟩,
   ⟨(some 33), .nilck (.t 32), none, [9]⟩,
   ⟨(some 34), .fa 0 (.t 33), none, [10]⟩,
   ⟨(some 35), .fa 1 (.t 34), none, [11]⟩,
   ⟨(some 36), .fa 1 (.t 35), none, [12]⟩,
   ⟨(some 37), .load false 1 (.t 36), none, [13]⟩,
   ⟨(some 38), .bin .mul .int (.t 31) (.t 37), none, [8, 14]⟩,
   ⟨(some 9), .mv (.t 30), none, [7, 0, 1, 2, 3, 4, 5, 6, 7]⟩,
   ⟨(some 10), .mv (.t 38), none, [15, 16, 0, 1, 2, 3, 4, 5, 6, 7, 8, 9, 10, 11, 12, 13, 14, 15, 16]⟩])
 (.seq (.ops [
   ⟨(some 39), .fa 1 (.t 7), none, []⟩,
   ⟨(some 40), .load false 1 (.t 39), none, []⟩,
   ⟨(some 41), .fa 2 (.t 7), none, []⟩,
   ⟨(some 42), .load false 1 (.t 41), none, []⟩,
   ⟨(some 43), .bin .sub .int (.t 40) (.t 42), none, []⟩,
   ⟨(some 44), .mv (.t 9), none, []⟩,
   ⟨(some 45), .mv (.t 10), none, []⟩,
   ⟨(some 46), .mn [(.t 44), (.t 45)], none, []⟩,
   ⟨(some 47), .bin .add .int (.t 43) (.t 46), none, []⟩,
   ⟨(some 48), .fa 1 (.t 7), none, []⟩,
   ⟨(some 49), .load false 1 (.t 48), none, []⟩,
   ⟨(some 50), .fa 2 (.t 7), none, []⟩,
   ⟨(some 51), .load false 1 (.t 50), none, []⟩,
   ⟨(some 52), .bin .add .int (.t 49) (.t 51), none, []⟩,
   ⟨(some 53), .mv (.t 9), none, []⟩,
   ⟨(some 54), .mv (.t 10), none, []⟩,
   ⟨(some 55), .mx [(.t 53), (.t 54)], none, []⟩,
   ⟨(some 56), .bin .add .int (.t 52) (.t 55), none, []⟩,
   ⟨(some 57), .build [(.int .i64 0), (.int .i64 0)] [(0, 1, (.t 47)), (1, 1, (.t 56))], none, []⟩,
   ⟨none, .store 2 (.t 6) (.t 57), none, []⟩])
 (.ret)))))
theorem k98 : compFunc Tryz.prog 98 = some (58, c98, [.cell 6 true 2]) := by kernel_rfl
def c99 : ACode :=
 .seq (.ops [
   ⟨(some 4), .mv (.c (.int .i64 0)), none, []⟩])
 (.seq (.seq (.ops [
   ⟨(some 6), .mv (.t 0), none, []⟩,
   ⟨(some 7), .lenS (.t 6), none, []⟩,
   ⟨(some 8), .mv (.c (.int .i64 0)), none, []⟩])
 (.block 0 (.loop (.seq (.ops [
    ⟨(some 9), .bin .lss .int (.t 8) (.t 7), none, []⟩])
  (.seq (.cond (.t 9)
   (.skip)
   (.exit 0))
  (.seq (.block 1 (.seq (.ops [
    ⟨(some 10), .mv (.t 8), none, []⟩,
    ⟨(some 5), .mv (.t 10), none, []⟩])
  (.seq (.ops [
    ⟨(some 11), .mv (.t 1), none, []⟩,
    ⟨(some 12), .mv (.t 0), none, []⟩,
    ⟨(some 13), .mv (.t 5), none, []⟩,
    ⟨(some 14), .ixS 1 (.t 12) (.t 13), none, []⟩,
    ⟨(some 15), .load false 1 (.t 14), none, []⟩,
    ⟨(some 16), .callV (.t 11) [(.t 15)], none, []⟩])
  (.cond (.t 16)
   (.seq (.ops [
     ⟨(some 17), .mv (.t 5), none, []⟩,
     ⟨(some 4), .mv (.t 17), none, []⟩])
   (.ret))
   (.skip)))))
  (.ops [
    ⟨(some 18), .bin .add .int (.t 8) (.c (.int .i64 1)), none, []⟩,
    ⟨(some 8), .mv (.t 18), none, []⟩])))))))
 (.seq (.ops [
   ⟨(some 4), .mv (.c (.int .i64 (-1))), none, []⟩])
 (.ret)))
def m99_0 : List Nat := [9, 10, 5, 11, 12, 13, 14, 15, 16, 17, 4, 18, 8]
theorem k99 : compFunc Tryz.prog 99 = some (19, c99, [.t 4]) := by kernel_rfl
def c100 : ACode :=
 .seq (.ops [
   ⟨(some 4), .alloc [(.int .i64 0), (.int .i64 0)], none, []⟩])
 (.seq (.ops [
   ⟨(some 9), .mv (.t 1), none, []⟩,
   ⟨(some 10), .mv (.t 0), none, []⟩,
   ⟨(some 11), .ixS 1 (.t 10) (.c (.int .i64 0)), none, []⟩,
   ⟨(some 12), .load false 1 (.t 11), none, []⟩,
   ⟨(some 13), .callV (.t 9) [(.t 12)], none, []⟩,
   ⟨(some 5), .alloc [(.int .i64 0), (.int .i64 0)], none, []⟩,
   ⟨none, .store 2 (.t 5) (.t 13), none, []⟩])
 (.seq (.seq (.ops [
   ⟨(some 14), .mv (.t 0), none, []⟩,
   ⟨(some 15), .slS 1 (.t 14) (some (.c (.int .i64 1))) none none, none, []⟩,
   ⟨(some 16), .lenS (.t 15), none, []⟩,
   ⟨(some 17), .mv (.c (.int .i64 0)), none, []⟩])
 (.block 0 (.loop (.seq (.ops [
    ⟨(some 18), .bin .lss .int (.t 17) (.t 16), none, []⟩])
  (.seq (.cond (.t 18)
   (.skip)
   (.exit 0))
  (.seq (.block 1 (.seq (.ops [
    ⟨(some 19), .ixS 1 (.t 15) (.t 17), none, []⟩,
    ⟨(some 20), .load false 1 (.t 19), none, []⟩,
    ⟨(some 7), .mv (.t 20), none, []⟩])
  (.seq (.ops [
    ⟨(some 21), .mv (.t 1), none, []⟩,
    ⟨(some 22), .mv (.t 7), none, []⟩,
    ⟨(some 23), .callV (.t 21) [(.t 22)], none, []⟩,
    ⟨(some 8), .alloc [(.int .i64 0), (.int .i64 0)], none, []⟩,
    ⟨none, .store 2 (.t 8) (.t 23), none, []⟩])
  (.ops [
    ⟨(some 24), .fa 0 (.t 5), none, []⟩,
    ⟨(some 25), .load false 1 (.t 24), none, []⟩,
    ⟨(some 26), .fa 0 (.t 8), none, []⟩,
    ⟨(some 27), .load false 1 (.t 26), none, []⟩,
    ⟨(some 28), .mx [(.t 25), (.t 27)], none, []⟩,
    ⟨(some 29), .fa 1 (.t 5), none, []⟩,
    ⟨(some 30), .load false 1 (.t 29), none, []⟩,
    ⟨(some 31), .fa 1 (.t 8), none, []⟩,
    ⟨(some 32), .load false 1 (.t 31), none, []⟩,
    ⟨(some 33), .mn [(.t 30), (.t 32)], none, []⟩,
    ⟨(some 34), .build [(.int .i64 0), (.int .i64 0)] [(0, 1, (.t 28)), (1, 1, (.t 33))], none, []⟩,
    ⟨none, .store 2 (.t 5) (.t 34), none, []⟩]))))
  (.ops [
    ⟨(some 35), .bin .add .int (.t 17) (.c (.int .i64 1)), none, []⟩,
    ⟨(some 17), .mv (.t 35), none, []⟩])))))))
 (.seq (.ops [
   ⟨(some 36), .load true 2 (.t 5), none, []⟩,
   ⟨none, .store 2 (.t 4) (.t 36), none, []⟩])
 (.ret))))
def m100_0 : List Nat := [18, 19, 20, 7, 21, 22, 23, 8, 24, 25, 26, 27, 28, 29, 30, 31, 32, 33, 34, 35, 17]
theorem k100 : compFunc Tryz.prog 100 = some (37, c100, [.cell 4 true 2]) := by kernel_rfl
def c101 : ACode :=
 .seq (.ops [
   ⟨(some 4), .alloc [(.int .i64 0), (.int .i64 0)], none, []⟩])
 (.seq (.ops [
   ⟨(some 5), .load false 1 (.t 1), none, []⟩,
   ⟨(some 6), .mv (.t 0), none, []⟩,
   ⟨(some 7), .load false 1 (.t 2), none, []⟩,
   ⟨(some 8), .callF 98 [(.t 5), (.t 6), (.t 7)], none, []⟩,
   ⟨none, .store 2 (.t 4) (.t 8), none, []⟩])
 (.ret))
theorem k101 : compFunc Tryz.prog 101 = some (9, c101, [.cell 4 true 2]) := by kernel_rfl
def c102 : ACode :=
 .seq (.ops [
   ⟨(some 7), .load false 1 (.t 1), none, []⟩,
   ⟨(some 8), .nilck (.t 7), none, []⟩,
   ⟨(some 9), .fa 0 (.t 8), none, []⟩,
   ⟨(some 10), .fa 0 (.t 9), none, []⟩,
   ⟨(some 11), .load false 1 (.t 10), none, []⟩,
   ⟨(some 12), .mv (.c (.int .i64 0)), none, []⟩])
 (.block 0 (.loop (.seq (.ops [
    ⟨(some 13), .bin .lss .int (.t 12) (.t 11), none, []⟩])
  (.seq (.cond (.t 13)
   (.skip)
   (.exit 0))
  (.seq (.block 1 (.seq (.ops [
    ⟨(some 14), .mv (.t 12), none, []⟩,
    ⟨(some 4), .mv (.t 14), none, []⟩])
  (.seq (.dr [
    ⟨(some 15), .load false 1 (.t 2), none, []⟩,
    ⟨(some 16), .mv (.t 4), none, []⟩,
    ⟨(some 17), .bin .mul .int (.t 15) (.t 16), none, [0, 1]⟩,
    ⟨(some 18), .bin .quo .int (.t 17) (.c (.int .i64 1000)), none, [2]⟩,
    ⟨(some 19), .load false 1 (.t 1), none, []⟩,
    ⟨(some 20), .mv (.t 4), none, []⟩,
    ⟨(some 21), .callF 69 [(.t 19), (.t 20)], none, [4, 5]⟩,
    ⟨(some 6), .alloc [(.int .i64 0), (.int .i64 0)], none, []⟩,
    ⟨(some 5), .mv (.t 18), none, [3, 6, 0, 1, 2, 3, 7]⟩,
    ⟨none, .store 2 (.t 6) (.t 21), none, [7, 6, 8, 0, 1, 2, 3, 4, 5, 6, 7, 8]⟩])
  (.seq (.ops [
    ⟨(some 22), .mv (.t 0), none, []⟩,
    ⟨(some 23), .mv (.t 4), none, []⟩,
    ⟨(some 24), .fa 0 (.t 6), none, []⟩,
    ⟨(some 25), .load false 1 (.t 24), none, []⟩,
    ⟨(some 26), .mv (.t 5), none, []⟩,
    ⟨(some 27), .bin .sub .int (.t 25) (.t 26), none, []⟩,
    ⟨(some 28), .fa 1 (.t 6), none, []⟩,
    ⟨(some 29), .load false 1 (.t 28), none, []⟩,
    ⟨(some 30), .mv (.t 5), none, []⟩,
    ⟨(some 31), .bin .sub .int (.t 29) (.t 30), none, []⟩,
    ⟨(some 32), .build [(.int .i64 0), (.int .i64 0)] [(0, 1, (.t 27)), (1, 1, (.t 31))], none, []⟩,
    ⟨(some 33), .callV (.t 22) [(.t 23), (.t 32)], none, []⟩,
    ⟨(some 34), .un .not (.t 33), none, []⟩])
  (.cond (.t 34)
   (.ret)
   (.skip))))))
  (.ops [
    ⟨(some 35), .bin .add .int (.t 12) (.c (.int .i64 1)), none, []⟩,
    ⟨(some 12), .mv (.t 35), none, []⟩]))))))
def m102_0 : List Nat := [13, 14, 4, 15, 16, 17, 18, 19, 20, 21, 6, 5, 22, 23, 24, 25, 26, 27, 28, 29, 30, 31, 32, 33, 34, 35, 12]
theorem k102 : compFunc Tryz.prog 102 = some (36, c102, []) := by kernel_rfl
def c103 : ACode :=
 .seq (.ops [
   ⟨(some 4), .mv (.c (.int .i64 0)), none, []⟩,
   ⟨(some 5), .mv (.c (.int .i64 0)), none, []⟩])
 (.seq (.block 0 (.seq (.ops [
   ⟨(some 9), .mv (.t 0), none, []⟩,
   ⟨(some 10), .callF 104 [(.t 9), (.c (.int .i64 1)), (.c (.int .i64 200000))], none, []⟩,
   ⟨(some 8), .mv (.t 10), none, []⟩])
 (.cond (.t 8)
  (.seq (.ops [
    ⟨(some 4), .mv (.c (.int .i64 0)), none, []⟩,
    ⟨(some 5), .mv (.c (.int .i64 7)), none, []⟩])
  (.ret))
  (.seq (.ops [
    ⟨(some 12), .mv (.t 1), none, []⟩,
    ⟨(some 13), .lenS (.t 12), none, []⟩,
    ⟨(some 14), .bin .gtr .int (.t 13) (.c (.int .i64 30)), none, []⟩,
    ⟨(some 11), .mv (.t 14), none, []⟩])
  (.cond (.t 11)
   (.seq (.ops [
     ⟨(some 4), .mv (.c (.int .i64 0)), none, []⟩,
     ⟨(some 5), .mv (.c (.int .i64 3)), none, []⟩])
   (.ret))
   (.skip))))))
 (.seq (.seq (.ops [
   ⟨(some 15), .mv (.t 1), none, []⟩,
   ⟨(some 16), .lenS (.t 15), none, []⟩,
   ⟨(some 17), .mv (.c (.int .i64 0)), none, []⟩])
 (.block 1 (.loop (.seq (.ops [
    ⟨(some 18), .bin .lss .int (.t 17) (.t 16), none, []⟩])
  (.seq (.cond (.t 18)
   (.skip)
   (.exit 1))
  (.seq (.block 2 (.seq (.ops [
    ⟨(some 19), .ixS 2 (.t 15) (.t 17), none, []⟩,
    ⟨(some 20), .load true 2 (.t 19), none, []⟩,
    ⟨(some 7), .alloc [(.int .i64 0), (.int .i64 0)], none, []⟩,
    ⟨none, .store 2 (.t 7) (.t 20), none, []⟩])
  (.seq (.block 3 (.seq (.ops [
    ⟨(some 22), .fa 0 (.t 7), none, []⟩,
    ⟨(some 23), .load false 1 (.t 22), none, []⟩,
    ⟨(some 24), .mv (.t 0), none, []⟩,
    ⟨(some 25), .bin .sub .int (.t 24) (.c (.int .i64 1)), none, []⟩,
    ⟨(some 26), .callF 104 [(.t 23), (.c (.int .i64 0)), (.t 25)], none, []⟩,
    ⟨(some 27), .mv (.t 26), none, []⟩,
    ⟨(some 28), .fa 1 (.t 7), (some (27, false)), []⟩,
    ⟨(some 29), .load false 1 (.t 28), (some (27, false)), []⟩,
    ⟨(some 30), .mv (.t 0), (some (27, false)), []⟩,
    ⟨(some 31), .bin .sub .int (.t 30) (.c (.int .i64 1)), (some (27, false)), []⟩,
    ⟨(some 32), .callF 104 [(.t 29), (.c (.int .i64 0)), (.t 31)], (some (27, false)), []⟩,
    ⟨(some 33), .pick (.t 27) (.c (.bool true)) (.t 32), none, []⟩,
    ⟨(some 21), .mv (.t 33), none, []⟩])
  (.cond (.t 21)
   (.seq (.ops [
     ⟨(some 4), .mv (.c (.int .i64 0)), none, []⟩,
     ⟨(some 5), .mv (.c (.int .i64 7)), none, []⟩])
   (.ret))
   (.seq (.ops [
     ⟨(some 35), .fa 0 (.t 7), none, []⟩,
     ⟨(some 36), .load false 1 (.t 35), none, []⟩,
     ⟨(some 37), .fa 1 (.t 7), none, []⟩,
     ⟨(some 38), .load false 1 (.t 37), none, []⟩,
     ⟨(some 39), .bin .gtr .int (.t 36) (.t 38), none, []⟩,
     ⟨(some 34), .mv (.t 39), none, []⟩])
   (.cond (.t 34)
    (.seq (.ops [
      ⟨(some 4), .mv (.c (.int .i64 0)), none, []⟩,
      ⟨(some 5), .mv (.c (.int .i64 2)), none, []⟩])
    (.ret))
    (.skip))))))
  (.ops [
    ⟨(some 40), .mv (.t 0), none, []⟩,
    ⟨(some 41), .load true 2 (.t 7), none, []⟩,
    ⟨(some 42), .callF 106 [(.t 41)], none, []⟩,
    ⟨(some 43), .bin .sub .int (.t 40) (.t 42), none, []⟩,
    ⟨(some 0), .mv (.t 43), none, []⟩]))))
  (.ops [
    ⟨(some 44), .bin .add .int (.t 17) (.c (.int .i64 1)), none, []⟩,
    ⟨(some 17), .mv (.t 44), none, []⟩])))))))
 (.seq (.ops [
   ⟨(some 45), .mv (.t 0), none, []⟩,
   ⟨(some 4), .mv (.t 45), none, []⟩,
   ⟨(some 5), .mv (.c (.int .i64 0)), none, []⟩])
 (.ret))))
def m103_0 : List Nat := [18, 19, 20, 7, 22, 23, 24, 25, 26, 27, 28, 29, 30, 31, 32, 33, 21, 4, 5, 35, 36, 37, 38, 39, 34, 40, 41, 42, 43, 0, 44, 17]
theorem k103 : compFunc Tryz.prog 103 = some (46, c103, [.t 4, .t 5]) := by kernel_rfl
def c104 : ACode :=
 .seq (.ops [
   ⟨(some 6), .mv (.c (.bool false)), none, []⟩])
 (.seq (.ops [
   ⟨(some 7), .mv (.t 0), none, []⟩,
   ⟨(some 8), .mv (.t 1), none, []⟩,
   ⟨(some 9), .bin .lss .int (.t 7) (.t 8), none, []⟩,
   ⟨(some 10), .mv (.t 9), none, []⟩,
   ⟨(some 11), .mv (.t 0), (some (10, false)), []⟩,
   ⟨(some 12), .mv (.t 2), (some (10, false)), []⟩,
   ⟨(some 13), .bin .gtr .int (.t 11) (.t 12), (some (10, false)), []⟩,
   ⟨(some 14), .pick (.t 10) (.c (.bool true)) (.t 13), none, []⟩,
   ⟨(some 6), .mv (.t 14), none, []⟩])
 (.ret))
theorem k104 : compFunc Tryz.prog 104 = some (15, c104, [.t 6]) := by kernel_rfl
def c105 : ACode :=
 .seq (.ops [
   ⟨(some 2), .box (.t 0), none, []⟩,
   ⟨(some 3), .mv (.c (.bool false)), none, []⟩])
 (.seq (.seq (.ops [
   ⟨(some 4), .load false 1 (.t 1), none, []⟩,
   ⟨(some 5), .fa 1 (.t 2), none, []⟩,
   ⟨(some 6), .load false 1 (.t 5), none, []⟩,
   ⟨(some 7), .bin .gtr .int (.t 4) (.t 6), none, []⟩])
 (.cond (.t 7)
  (.seq (.dr [
    ⟨(some 8), .load false 1 (.t 1), none, []⟩,
    ⟨(some 9), .load true 2 (.t 2), none, []⟩,
    ⟨(some 10), .callF 106 [(.t 9)], none, [1]⟩,
    ⟨(some 11), .bin .sub .int (.t 8) (.t 10), none, [0, 2]⟩,
    ⟨none, .store 1 (.t 1) (.t 11), none, [3, 2, 0, 1, 2, 3]⟩])
  (.seq (.ops [
    ⟨(some 3), .mv (.c (.bool false)), none, []⟩])
  (.ret)))
  (.skip)))
 (.seq (.ops [
   ⟨(some 12), .load false 1 (.t 1), none, []⟩,
   ⟨(some 13), .fa 0 (.t 2), none, []⟩,
   ⟨(some 14), .load false 1 (.t 13), none, []⟩,
   ⟨(some 15), .bin .geq .int (.t 12) (.t 14), none, []⟩,
   ⟨(some 3), .mv (.t 15), none, []⟩])
 (.ret)))
theorem k105 : compFunc Tryz.prog 105 = some (16, c105, [.t 3]) := by kernel_rfl
def c106 : ACode :=
 .seq (.ops [
   ⟨(some 1), .box (.t 0), none, []⟩,
   ⟨(some 2), .mv (.c (.int .i64 0)), none, []⟩])
 (.seq (.ops [
   ⟨(some 3), .fa 1 (.t 1), none, []⟩,
   ⟨(some 4), .load false 1 (.t 3), none, []⟩,
   ⟨(some 5), .fa 0 (.t 1), none, []⟩,
   ⟨(some 6), .load false 1 (.t 5), none, []⟩,
   ⟨(some 7), .bin .sub .int (.t 4) (.t 6), none, []⟩,
   ⟨(some 8), .bin .add .int (.t 7) (.c (.int .i64 1)), none, []⟩,
   ⟨(some 2), .mv (.t 8), none, []⟩])
 (.ret))
theorem k106 : compFunc Tryz.prog 106 = some (9, c106, [.t 2]) := by kernel_rfl
def c107 : ACode :=
 .seq (.ops [
   ⟨(some 4), .mv (.c (.bool false)), none, []⟩])
 (.seq (.ops [
   ⟨(some 5), .mv (.t 0), none, []⟩,
   ⟨(some 6), .mv (.t 1), none, []⟩,
   ⟨(some 7), .callF 115 [(.t 5), (.t 6)], none, []⟩,
   ⟨(some 8), .bin .geq .int (.t 7) (.c (.int .i64 0)), none, []⟩,
   ⟨(some 4), .mv (.t 8), none, []⟩])
 (.ret))
theorem k107 : compFunc Tryz.prog 107 = some (9, c107, [.t 4]) := by kernel_rfl
def c108 : ACode :=
 .seq (.ops [
   ⟨(some 4), .mv (.c (.bool false)), none, []⟩])
 (.seq (.ops [
   ⟨(some 5), .mv (.t 0), none, []⟩,
   ⟨(some 6), .mv (.t 1), none, []⟩,
   ⟨(some 7), .callF 99 [(.t 5), (.t 6)], none, []⟩,
   ⟨(some 8), .bin .geq .int (.t 7) (.c (.int .i64 0)), none, []⟩,
   ⟨(some 4), .mv (.t 8), none, []⟩])
 (.ret))
theorem k108 : compFunc Tryz.prog 108 = some (9, c108, [.t 4]) := by kernel_rfl
def c109 : ACode :=
 .seq (.ops [
   ⟨(some 3), .mv (.c (.bool false)), none, []⟩])
 (.seq (.ops [
   ⟨(some 4), .mv (.t 0), none, []⟩,
   ⟨(some 5), .load false 1 (.t 1), none, []⟩,
   ⟨(some 6), .un .neg (.t 5), none, []⟩,
   ⟨(some 7), .load false 1 (.t 1), none, []⟩,
   ⟨(some 8), .callF 63 [(.t 4), (.t 6), (.t 7)], none, []⟩,
   ⟨(some 3), .mv (.t 8), none, []⟩])
 (.ret))
theorem k109 : compFunc Tryz.prog 109 = some (9, c109, [.t 3]) := by kernel_rfl
def c110 : ACode :=
 .seq (.ops [
   ⟨(some 4), .load false 1 (.t 1), none, []⟩,
   ⟨(some 5), .lenS (.t 4), none, []⟩,
   ⟨(some 6), .bin .sub .int (.t 5) (.c (.int .i64 1)), none, []⟩,
   ⟨(some 3), .mv (.t 6), none, []⟩])
 (.block 0 (.loop (.seq (.seq (.ops [
    ⟨(some 7), .mv (.t 3), none, []⟩,
    ⟨(some 8), .bin .geq .int (.t 7) (.c (.int .i64 0)), none, []⟩])
  (.cond (.t 8)
   (.skip)
   (.exit 0)))
  (.seq (.block 1 (.seq (.ops [
    ⟨(some 11), .mv (.t 0), none, []⟩,
    ⟨(some 12), .mv (.t 3), none, []⟩,
    ⟨(some 13), .load false 1 (.t 1), none, []⟩,
    ⟨(some 14), .mv (.t 3), none, []⟩,
    ⟨(some 15), .ixS 2 (.t 13) (.t 14), none, []⟩,
    ⟨(some 16), .load true 2 (.t 15), none, []⟩,
    ⟨(some 17), .callV (.t 11) [(.t 12), (.t 16)], none, []⟩,
    ⟨(some 18), .un .not (.t 17), none, []⟩])
  (.cond (.t 18)
   (.ret)
   (.skip))))
  (.ops [
    ⟨(some 9), .mv (.t 3), none, []⟩,
    ⟨(some 10), .bin .sub .int (.t 9) (.c (.int .i64 1)), none, []⟩,
    ⟨(some 3), .mv (.t 10), none, []⟩])))))
def m110_0 : List Nat := [7, 8, 11, 12, 13, 14, 15, 16, 17, 18, 9, 10, 3]
theorem k110 : compFunc Tryz.prog 110 = some (19, c110, []) := by kernel_rfl
def c111 : ACode :=
 .seq (.ops [
   ⟨(some 7), .mv (.t 0), none, []⟩,
   ⟨(some 8), .mv (.t 0), none, []⟩,
   ⟨(some 9), .nilck (.t 8), none, []⟩,
   ⟨(some 10), .fa 0 (.t 9), none, []⟩,
   ⟨(some 11), .load false 1 (.t 10), none, []⟩,
   ⟨(some 12), .mv (.t 1), none, []⟩,
   ⟨(some 13), .lenS (.t 12), none, []⟩,
   ⟨(some 14), .buildS 1 [(.int .i64 0)] 1 [(0, (.t 13))], none, []⟩,
   ⟨(some 15), .app 1 8 (.t 11) (.t 14), none, []⟩,
   ⟨(some 16), .nilck (.t 7), none, []⟩,
   ⟨(some 17), .fa 0 (.t 16), none, []⟩,
   ⟨none, .store 1 (.t 17) (.t 15), none, []⟩])
 (.seq (.ops [
   ⟨(some 6), .mv (.c (.int .i64 0)), none, []⟩])
 (.block 0 (.loop (.seq (.seq (.ops [
    ⟨(some 18), .mv (.t 6), none, []⟩,
    ⟨(some 19), .mv (.t 1), none, []⟩,
    ⟨(some 20), .lenS (.t 19), none, []⟩,
    ⟨(some 21), .bin .lss .int (.t 18) (.t 20), none, []⟩])
  (.cond (.t 21)
   (.skip)
   (.exit 0)))
  (.seq (.block 1 (.ops [
    ⟨(some 24), .mv (.t 2), none, []⟩,
    ⟨(some 25), .mv (.t 0), none, []⟩,
    ⟨(some 26), .mv (.t 1), none, []⟩,
    ⟨(some 27), .mv (.t 6), none, []⟩,
    ⟨(some 28), .ixS 1 (.t 26) (.t 27), none, []⟩,
    ⟨(some 29), .load false 1 (.t 28), none, []⟩,
    ⟨(some 30), .callV (.t 24) [(.t 25), (.t 29)], none, []⟩]))
  (.ops [
    ⟨(some 22), .mv (.t 6), none, []⟩,
    ⟨(some 23), .bin .add .int (.t 22) (.c (.int .i64 1)), none, []⟩,
    ⟨(some 6), .mv (.t 23), none, []⟩]))))))
def m111_0 : List Nat := [18, 19, 20, 21, 24, 25, 26, 27, 28, 29, 30, 22, 23, 6]
theorem k111 : compFunc Tryz.prog 111 = some (31, c111, []) := by kernel_rfl
def c112 : ACode :=
 .ops [
   ⟨(some 4), .mv (.t 0), none, []⟩,
   ⟨(some 5), .mv (.t 0), none, []⟩,
   ⟨(some 6), .nilck (.t 5), none, []⟩,
   ⟨(some 7), .fa 0 (.t 6), none, []⟩,
   ⟨(some 8), .load false 1 (.t 7), none, []⟩,
   ⟨(some 9), .mv (.t 1), none, []⟩,
   ⟨(some 10), .conv (.int .i64) (.t 9), none, []⟩,
   ⟨(some 11), .buildS 1 [(.int .i64 0)] 1 [(0, (.t 10))], none, []⟩,
   ⟨(some 12), .app 1 8 (.t 8) (.t 11), none, []⟩,
   ⟨(some 13), .nilck (.t 4), none, []⟩,
   ⟨(some 14), .fa 0 (.t 13), none, []⟩,
   ⟨none, .store 1 (.t 14) (.t 12), none, []⟩]
theorem k112 : compFunc Tryz.prog 112 = some (15, c112, []) := by kernel_rfl
def c113 : ACode :=
 .seq (.ops [
   ⟨(some 7), .mv (.t 0), none, []⟩,
   ⟨(some 8), .mv (.t 0), none, []⟩,
   ⟨(some 9), .nilck (.t 8), none, []⟩,
   ⟨(some 10), .fa 0 (.t 9), none, []⟩,
   ⟨(some 11), .load false 1 (.t 10), none, []⟩,
   ⟨(some 12), .mv (.t 1), none, []⟩,
   ⟨(some 13), .lenS (.t 12), none, []⟩,
   ⟨(some 14), .buildS 1 [(.int .i64 0)] 1 [(0, (.t 13))], none, []⟩,
   ⟨(some 15), .app 1 8 (.t 11) (.t 14), none, []⟩,
   ⟨(some 16), .nilck (.t 7), none, []⟩,
   ⟨(some 17), .fa 0 (.t 16), none, []⟩,
   ⟨none, .store 1 (.t 17) (.t 15), none, []⟩])
 (.seq (.ops [
   ⟨(some 6), .mv (.c (.int .i64 0)), none, []⟩])
 (.block 0 (.loop (.seq (.seq (.ops [
    ⟨(some 18), .mv (.t 6), none, []⟩,
    ⟨(some 19), .mv (.t 1), none, []⟩,
    ⟨(some 20), .lenS (.t 19), none, []⟩,
    ⟨(some 21), .bin .lss .int (.t 18) (.t 20), none, []⟩])
  (.cond (.t 21)
   (.skip)
   (.exit 0)))
  (.seq (.block 1 (.ops [
    ⟨(some 24), .mv (.t 2), none, []⟩,
    ⟨(some 25), .mv (.t 0), none, []⟩,
    ⟨(some 26), .mv (.t 1), none, []⟩,
    ⟨(some 27), .mv (.t 6), none, []⟩,
    ⟨(some 28), .ixS 3 (.t 26) (.t 27), none, []⟩,
    ⟨(some 29), .load true 3 (.t 28), none, []⟩,
    ⟨(some 30), .callV (.t 24) [(.t 25), (.t 29)], none, []⟩]))
  (.ops [
    ⟨(some 22), .mv (.t 6), none, []⟩,
    ⟨(some 23), .bin .add .int (.t 22) (.c (.int .i64 1)), none, []⟩,
    ⟨(some 6), .mv (.t 23), none, []⟩]))))))
def m113_0 : List Nat := [18, 19, 20, 21, 24, 25, 26, 27, 28, 29, 30, 22, 23, 6]
theorem k113 : compFunc Tryz.prog 113 = some (31, c113, []) := by kernel_rfl
def c114 : ACode :=
 .seq (.ops [
   ⟨(some 3), .box (.t 1), none, []⟩])
 (.seq (.ops [
   ⟨(some 4), .mv (.t 0), none, []⟩,
   ⟨(some 5), .fa 0 (.t 3), none, []⟩,
   ⟨(some 6), .load false 1 (.t 5), none, []⟩,
   ⟨(some 7), .callF 14 [(.t 4), (.t 6)], none, []⟩])
 (.seq (.ops [
   ⟨(some 8), .mv (.t 0), none, []⟩,
   ⟨(some 9), .fa 1 (.t 3), none, []⟩,
   ⟨(some 10), .load false 1 (.t 9), none, []⟩,
   ⟨(some 11), .callF 14 [(.t 8), (.t 10)], none, []⟩])
 (.ops [
   ⟨(some 12), .mv (.t 0), none, []⟩,
   ⟨(some 13), .fa 2 (.t 3), none, []⟩,
   ⟨(some 14), .load false 1 (.t 13), none, []⟩,
   ⟨(some 15), .callF 14 [(.t 12), (.t 14)], none, []⟩])))
theorem k114 : compFunc Tryz.prog 114 = some (16, c114, []) := by kernel_rfl
def c115 : ACode :=
 .seq (.ops [
   ⟨(some 4), .mv (.c (.int .i64 0)), none, []⟩])
 (.seq (.seq (.ops [
   ⟨(some 6), .mv (.t 0), none, []⟩,
   ⟨(some 7), .lenS (.t 6), none, []⟩,
   ⟨(some 8), .mv (.c (.int .i64 0)), none, []⟩])
 (.block 0 (.loop (.seq (.ops [
    ⟨(some 9), .bin .lss .int (.t 8) (.t 7), none, []⟩])
  (.seq (.cond (.t 9)
   (.skip)
   (.exit 0))
  (.seq (.block 1 (.seq (.ops [
    ⟨(some 10), .mv (.t 8), none, []⟩,
    ⟨(some 5), .mv (.t 10), none, []⟩])
  (.seq (.ops [
    ⟨(some 11), .mv (.t 1), none, []⟩,
    ⟨(some 12), .mv (.t 0), none, []⟩,
    ⟨(some 13), .mv (.t 5), none, []⟩,
    ⟨(some 14), .ixS 2 (.t 12) (.t 13), none, []⟩,
    ⟨(some 15), .load true 2 (.t 14), none, []⟩,
    ⟨(some 16), .callV (.t 11) [(.t 15)], none, []⟩])
  (.cond (.t 16)
   (.seq (.ops [
     ⟨(some 17), .mv (.t 5), none, []⟩,
     ⟨(some 4), .mv (.t 17), none, []⟩])
   (.ret))
   (.skip)))))
  (.ops [
    ⟨(some 18), .bin .add .int (.t 8) (.c (.int .i64 1)), none, []⟩,
    ⟨(some 8), .mv (.t 18), none, []⟩])))))))
 (.seq (.ops [
   ⟨(some 4), .mv (.c (.int .i64 (-1))), none, []⟩])
 (.ret)))
def m115_0 : List Nat := [9, 10, 5, 11, 12, 13, 14, 15, 16, 17, 4, 18, 8]
theorem k115 : compFunc Tryz.prog 115 = some (19, c115, [.t 4]) := by kernel_rfl
def c131 : ACode :=
 .seq (.ops [
   ⟨(some 2), .box (.t 0), none, []⟩,
   ⟨(some 4), .mv (.c (.int .i64 0)), none, []⟩])
 (.seq (.seq (.ops [
   ⟨(some 5), .mv (.t 1), none, []⟩,
   ⟨(some 6), .bin .lss .int (.t 5) (.c (.int .u8 128)), none, []⟩])
 (.cond (.t 6)
  (.seq (.ops [
    ⟨(some 4), .mv (.c (.int .i64 0)), none, []⟩])
  (.ret))
  (.skip)))
 (.seq (.ops [
   ⟨(some 4), .mv (.c (.int .i64 1)), none, []⟩])
 (.ret)))
theorem k131 : compFunc Tryz.prog 131 = some (7, c131, [.t 4]) := by kernel_rfl
def c132 : ACode :=
 .seq (.ops [
   ⟨(some 2), .box (.t 0), none, []⟩,
   ⟨(some 4), .mv (.c (.int .i64 0)), none, []⟩])
 (.seq (.ops [
   ⟨(some 5), .mv (.t 1), none, []⟩,
   ⟨(some 6), .conv (.int .i64) (.t 5), none, []⟩,
   ⟨(some 4), .mv (.t 6), none, []⟩])
 (.ret))
theorem k132 : compFunc Tryz.prog 132 = some (7, c132, [.t 4]) := by kernel_rfl
end Go.Proofs.YtkfahdbjndihfaaGreat
namespace Go.Proofs.YtkfahdbjndihfaaGreat
open Go.Tc
set_option linter.unusedSimpArgs false
theorem mixed : Tryz.prog.follows .mixedOrders = true := by kernel_rfl
abbrev fn (f : FuncId) : AVal := .func (.func f) [] []
theorem s59 (σ : AHeap) (w h : Int) (px : AVal) (n : Nat) (hp : px.one = true) (hn : lenOfS px = some n) {Q : AOut → AHeap → Prop}
    (hQ : ∀ e : Int, (e = 0 → 1 ≤ w ∧ w ≤ 48 ∧ 1 ≤ h ∧ h ≤ 48 ∧ (n : Int) = w * h) → Q (.ret (.int .i64 e)) σ) :
    RunV Tryz.prog (.func (.func 59) [] []) [.agg [.int .i64 w, .int .i64 h, px]] σ Q := by
  have hb : 1 ≤ w → w ≤ 48 → 1 ≤ h → h ≤ 48 → 0 ≤ w * h ∧ w * h ≤ 48 * 48 := fun h1 h2 h3 h4 => ⟨Int.mul_nonneg (by omega) (by omega), Int.mul_le_mul h2 h4 (by omega) (by omega)⟩
  refine RunV.drop (RunV.func mixed k59 (by simp) ?_)
  simp (disch := omega) only [c59, ↓CTL, VAL, Nat.reduceBEq, Nat.reduceAdd, hp, hn]
  repeat' first
    | refine out_spec mixed k96 _ _ _ _ ?_
    | refine B_if (fun _ => ?_) (fun _ => ?_)
    | refine G_false (fun _ => ?_) (fun _ => ?_)
    | refine ⟨_, rfl, rfl, (Ext.refl _).alloc _, hQ _ fun _ => ?_⟩
    | omega
    | simp (disch := omega) only [↓CTL, VAL, Nat.reduceBEq, Nat.reduceAdd, hp, hn]
structure Mark where
  frame : Int
  sample : Int
  error : Int
  deriving Inhabited
def Mark.row (x : Mark) : List AVal := [.int .i64 x.frame, .int .i64 x.sample, .int .i64 x.error]
theorem Mark.row_eq {x : Mark} : x.row = [.int .i64 x.frame, .int .i64 x.sample, .int .i64 x.error] := id rfl
theorem s13 (σ : AHeap) (frames lo hi : Int) (mv sv : AVal) (marks : List Mark) (speeds : List Int) (hm : RV 3 Mark.row mv marks) (hs : RV 1 rI sv speeds) {Q : AOut → AHeap → Prop}
    (hQ : ∀ p a e : Int, (e = 0 → 1 ≤ frames ∧ frames ≤ 20000 ∧ marks.length ≤ 40 ∧ speeds.length ≤ 16) → Q (.ret (.tup [.int .i64 p, .int .i64 a, .int .i64 e])) σ) :
    RunV Tryz.prog (.func (.func 13) [] []) [.agg [.int .i64 frames, .int .i64 lo, .int .i64 hi, mv, sv]] σ Q := by
  refine RunV.drop (RunV.func mixed k13 (by simp) ?_)
  simp (disch := omega) only [c13, ↓CTL, VAL, Nat.reduceBEq, Nat.reduceAdd, hm.S, hs.S]
  repeat' first
    | refine out_spec mixed k63 _ _ _ _ ?_
    | refine B_if (fun _ => ?_) (fun _ => ?_)
    | refine G_false (fun _ => ?_) (fun _ => ?_)
    | refine ⟨_, rfl, rfl, (Ext.refl _).alloc _, hQ _ _ _ fun _ => ?_⟩
    | omega
    | simp (disch := omega) only [↓CTL, VAL, Nat.reduceBEq, Nat.reduceAdd, hm.S, hs.S]
  refine A_loopV (α := Nat) m13_0 (fun i => [(42, .int .i64 i)]) (fun i s => i ≤ marks.length ∧ Ext (σ.alloc (.cells 5 [[.int .i64 frames, .int .i64 lo, .int .i64 hi, mv, sv]])) s) (fun i => marks.length - i) rfl (fun _ => rfl) ⟨0, ?_, Nat.zero_le _, .refl _⟩ ?_
  · simp only [↓CTL, VAL, Nat.reduceBEq]; rfl
  · rintro i f s ⟨hi, hE⟩
    have hN := hE.2 σ.next (by simp)
    have hlt := hE.1
    rw [objs_new rfl] at hN
    simp only [AHeap.next_alloc] at hlt
    simp (disch := omega) only [↓CTL, VAL, Nat.reduceBEq, Nat.reduceAdd, hm.S, hs.S, m13_0]
    repeat' first
      | refine out_spec mixed k63 _ _ _ _ ?_
      | refine B_if (fun _ => ?_) (fun _ => ?_)
      | refine G_false (fun _ => ?_) (fun _ => ?_)
      | refine ⟨_, rfl, rfl, (hE.of_alloc).alloc _, hQ _ _ _ fun _ => ?_⟩
      | refine ⟨_, rfl, rfl, hE.of_alloc, hQ _ _ _ fun _ => ?_⟩
      | exact ⟨i + 1, rfl, ⟨by omega, hE.alloc _⟩, by omega⟩
      | omega
      | simp (disch := omega) only [↓CTL, VAL, Nat.reduceBEq, Nat.reduceAdd, hm.S, hs.S, m13_0, hN, Mark.row_eq]
    refine A_loopV (α := Nat × Int) m13_1 (fun x => [(73, .int .i64 x.1), (7, .int .i64 x.2)]) (fun x s' => x.1 ≤ speeds.length ∧ s' = s) (fun x => speeds.length - x.1) rfl (fun _ => rfl) ⟨(0, 0), ?_, Nat.zero_le _, rfl⟩ ?_
    · simp only [↓CTL, VAL, Nat.reduceBEq]; rfl
    · rintro ⟨k, b⟩ f s' ⟨hk, rfl⟩
      simp (disch := omega) only [↓CTL, VAL, Nat.reduceBEq, Nat.reduceAdd, hm.S, hs.S, m13_1]
      repeat' first
        | refine out_spec mixed k63 _ _ _ _ ?_
        | refine B_if (fun _ => ?_) (fun _ => ?_)
        | refine G_false (fun _ => ?_) (fun _ => ?_)
        | refine ⟨_, rfl, rfl, hE.of_alloc, hQ _ _ _ fun _ => ?_⟩
        | exact ⟨(k + 1, _), ⟨rfl, rfl⟩, by dsimp only; omega, by dsimp only; omega⟩
        | omega
        | simp (disch := omega) only [↓CTL, VAL, Nat.reduceBEq, Nat.reduceAdd, hm.S, hs.S, m13_1, hN, rI_eq]
end Go.Proofs.YtkfahdbjndihfaaGreat
namespace Go.Proofs.YtkfahdbjndihfaaGreat
open Go.Tc
set_option linter.unusedSimpArgs false
structure Sync where
  frames : Int
  lo : Int
  hi : Int
  mv : AVal
  sv : AVal
  tv : AVal
  kv : AVal
def Sync.row (y : Sync) : List AVal := [.int .i64 y.frames, .int .i64 y.lo, .int .i64 y.hi, y.mv, y.sv, y.tv, y.kv]
theorem Sync.row_eq {y : Sync} : y.row = [.int .i64 y.frames, .int .i64 y.lo, .int .i64 y.hi, y.mv, y.sv, y.tv, y.kv] := id rfl
def aLo (y : Sync) (m : Mark) (frame : Int) : Int :=
  IntKind.i64.wrap (IntKind.i64.wrap (m.sample - m.error) + min (IntKind.i64.wrap (IntKind.i64.wrap (frame - m.frame) * y.lo)) (IntKind.i64.wrap (IntKind.i64.wrap (frame - m.frame) * y.hi)))
def aHi (y : Sync) (m : Mark) (frame : Int) : Int :=
  IntKind.i64.wrap (IntKind.i64.wrap (m.sample + m.error) + max (IntKind.i64.wrap (IntKind.i64.wrap (frame - m.frame) * y.lo)) (IntKind.i64.wrap (IntKind.i64.wrap (frame - m.frame) * y.hi)))
theorem s98 {σ : AHeap} {N : Nat} {y : Sync} {marks : List Mark} (hN : σ.objs N = some (.cells 7 [y.row])) (hl : N < σ.next) (hm : RV 3 Mark.row y.mv marks) {k : Int} (h0 : 0 ≤ k) (h1 : k < marks.length) (frame : Int) {Q : AOut → AHeap → Prop}
    (hQ : Q (.ret (.agg [.int .i64 (aLo y (marks.getD k.toNat default) frame), .int .i64 (aHi y (marks.getD k.toNat default) frame)])) σ) : RunV Tryz.prog (.func (.func 98) [] []) [.ptr N 0 0, .int .i64 k, .int .i64 frame] σ Q := by
  refine RunV.drop (RunV.func mixed k98 (by simp) ?_)
  rw [Sync.row_eq] at hN
  simp (disch := omega) only [c98, ↓CTL, ↓DRW, VAL, DRV, Nat.reduceBEq, Nat.reduceAdd, hm.S, hN, Mark.row_eq]
  refine dr_go [] [] ?_ ?_; · decide
  simp (disch := omega) only [↓CTL, ↓DRW, VAL, DRV, Nat.reduceBEq, Nat.reduceAdd, hm.S, hN, Mark.row_eq]
  exact ⟨_, rfl, rfl, by repeat first | exact Ext.refl _ | refine Ext.alloc ?_ _ | refine Ext.set ?_ (by omega) _, hQ⟩
theorem s101 {σ : AHeap} {N A B : Nat} {y : Sync} {marks : List Mark} (hA : σ.objs A = some (.cells 1 [[.ptr N 0 0]])) {frame : Int} (hB : σ.objs B = some (.cells 1 [[.int .i64 frame]])) (hN : σ.objs N = some (.cells 7 [y.row]))
    (lA : A < σ.next) (lB : B < σ.next) (lN : N < σ.next) (hm : RV 3 Mark.row y.mv marks) {k : Int} (h0 : 0 ≤ k) (h1 : k < marks.length) {Q : AOut → AHeap → Prop}
    (hQ : Q (.ret (.agg [.int .i64 (aLo y (marks.getD k.toNat default) frame), .int .i64 (aHi y (marks.getD k.toNat default) frame)])) σ) : RunV Tryz.prog (.func (.func 101) [] [.ptr A 0 0, .ptr B 0 0]) [.int .i64 k] σ Q := by
  refine RunV.drop (RunV.func mixed k101 (by simp) ?_)
  simp (disch := omega) only [c101, ↓CTL, ↓DRW, VAL, DRV, Nat.reduceBEq, Nat.reduceAdd, hA, hB]
  refine s98 (by rw [objs_old (by omega)]; exact hN) (by simp only [AHeap.next_alloc]; omega) hm h0 h1 _ ?_
  simp (disch := omega) only [↓CTL, ↓DRW, VAL, DRV, Nat.reduceBEq, Nat.reduceAdd, hA, hB]
  exact ⟨_, rfl, rfl, by repeat first | exact Ext.refl _ | refine Ext.alloc ?_ _ | refine Ext.set ?_ (by omega) _, hQ⟩
def nMax (p : Int → Int) : List Int → Int
  | [] => 0
  | x :: xs => xs.foldl (fun a x => max a (p x)) (p x)
def nMin (p : Int → Int) : List Int → Int
  | [] => 0
  | x :: xs => xs.foldl (fun a x => min a (p x)) (p x)
theorem nMax_add (p : Int → Int) {l : List Int} (h : l ≠ []) (x : Int) : nMax p (l ++ [x]) = max (nMax p l) (p x) := by
  cases l with
  | nil => exact absurd rfl h
  | cons a l => simp [nMax, List.foldl_append]
theorem nMin_add (p : Int → Int) {l : List Int} (h : l ≠ []) (x : Int) : nMin p (l ++ [x]) = min (nMin p l) (p x) := by
  cases l with
  | nil => exact absurd rfl h
  | cons a l => simp [nMin, List.foldl_append]
theorem take_step {l : List Int} {i : Nat} (h : i < l.length) : l.take (i + 1) = l.take i ++ [l.getD i default] := by
  rw [List.take_add_one, List.getElem?_eq_getElem h, List.getD_eq_getElem?_getD, List.getElem?_eq_getElem h]; rfl
theorem s100 {σ : AHeap} {v fv : AVal} {l : List Int} (hv : TV σ 1 rI v l) (hk : ∀ s, Ext σ s → TV s 1 rI v l) (hl : l ≠ []) (hb : l.length ≤ 1000000)
    (p q : Int → Int) (hf : ∀ s x, Ext σ s → x ∈ l → RunV Tryz.prog fv [.int .i64 x] s (fun o s' => o = .ret (.agg [.int .i64 (p x), .int .i64 (q x)]) ∧ s' = s)) {Q : AOut → AHeap → Prop}
    (hQ : Q (.ret (.agg [.int .i64 (nMax p l), .int .i64 (nMin q l)])) σ) : RunV Tryz.prog (.func (.func 100) [] []) [v, fv] σ Q := by
  have hpos : 0 < l.length := List.length_pos_iff.2 hl
  have hmem : ∀ i : Nat, i < l.length → l.getD i default ∈ l := fun i hi => by
    rw [List.getD_eq_getElem?_getD, List.getElem?_eq_getElem hi]; exact List.getElem_mem _
  refine RunV.drop (RunV.func mixed k100 (by simp) ?_)
  have h1 := (hk (σ.alloc (.cells 2 [[.int .i64 0, .int .i64 0]])) ((Ext.refl _).alloc _)).S
  simp (disch := omega) only [c100, ↓CTL, ↓DRW, VAL, DRV, Nat.reduceBEq, Nat.reduceAdd, h1, rI_eq]
  refine (hf _ _ ((Ext.refl _).alloc _) (hmem 0 hpos)).mono fun o s h => ?_
  obtain ⟨rfl, rfl⟩ := h
  simp (disch := omega) only [↓CTL, ↓DRW, VAL, DRV, Nat.reduceBEq, Nat.reduceAdd, hv.S, (hv.sub (a := 1) (b := l.length) (by omega) (by omega) (by omega)).len, List.length_take, List.length_drop]
  have hlen : min ((l.length : Int) - 1).toNat (l.length - Int.toNat 1) = l.length - 1 := by omega
  simp only [hlen]
  refine A_loopV (α := Nat) m100_0 (fun i => [(17, .int .i64 i)]) (fun i s => i ≤ l.length - 1 ∧ Ext σ s ∧ σ.next + 2 ≤ s.next ∧ s.objs σ.next = some (.cells 2 [[.int .i64 0, .int .i64 0]]) ∧ s.objs (σ.next + 1) = some (.cells 2 [[.int .i64 (nMax p (l.take (i + 1))), .int .i64 (nMin q (l.take (i + 1)))]])) (fun i => l.length - i) rfl (fun _ => rfl) ⟨0, ?_, ?_⟩ ?_
  · simp only [↓CTL, VAL, Nat.reduceBEq]; rfl
  · simp (disch := omega) only [VAL]
    refine ⟨by omega, by repeat first | exact Ext.refl _ | refine Ext.alloc ?_ _ | refine Ext.set ?_ (by omega) _, by omega, ?_⟩
    have : l.take 1 = [l.getD 0 default] := by rw [take_step (i := 0) hpos]; rfl
    rw [this]; rfl
  · rintro i f s ⟨hi, hE, hn, hc, hxy⟩
    have h2 := ((hk s hE).sub (a := 1) (b := l.length) (by omega) (by omega) (by omega))
    have hlen2 : ((List.drop (Int.toNat 1) l).take ((l.length : Int) - 1).toNat).length = l.length - 1 := by rw [List.length_take, List.length_drop]; exact hlen
    have h3 := h2.S
    rw [hlen2] at h3
    simp (disch := omega) only [↓CTL, ↓DRW, VAL, DRV, Nat.reduceBEq, Nat.reduceAdd, m100_0, h3]
    refine B_if (fun hlt => ?_) (fun hge => ?_)
    · simp (disch := omega) only [↓CTL, ↓DRW, VAL, DRV, Nat.reduceBEq, Nat.reduceAdd, m100_0, h3, rI_eq]
      refine (hf _ _ hE (?_ : _ ∈ l)).mono fun o s' h => ?_
      · refine List.mem_of_mem_drop (i := Int.toNat 1) (List.mem_of_mem_take (i := ((l.length : Int) - 1).toNat) ?_)
        rw [List.getD_eq_getElem?_getD, List.getElem?_eq_getElem (by rw [hlen2]; omega)]; exact List.getElem_mem _
      obtain ⟨rfl, rfl⟩ := h
      have hne : l.take (i + 1) ≠ [] := by intro h; have := congrArg List.length h; rw [List.length_take, List.length_nil] at this; omega
      have hel : ((l.drop (Int.toNat 1)).take ((l.length : Int) - 1).toNat).getD ((i : Int).toNat) default = l.getD (i + 1) default := by
        simp only [List.getD_eq_getElem?_getD]
        rw [List.getElem?_take, if_pos (by omega), List.getElem?_drop]
        congr 2; simp; omega
      simp (disch := omega) only [↓CTL, ↓DRW, VAL, DRV, Nat.reduceBEq, Nat.reduceAdd, m100_0, h3, hxy, hc]
      refine ⟨i + 1, rfl, ⟨by omega, by repeat first | exact hE | refine Ext.alloc ?_ _ | refine Ext.set ?_ (by omega) _, by omega, ?_⟩, by omega⟩
      rw [take_step (i := i + 1) (by omega), nMax_add _ hne, nMin_add _ hne, hel]
    · simp (disch := omega) only [↓CTL, ↓DRW, VAL, DRV, Nat.reduceBEq, Nat.reduceAdd, m100_0, h3, hxy, hc]
      have : i + 1 = l.length := by omega
      rw [this, List.take_length] at hxy ⊢
      exact ⟨_, rfl, rfl, by repeat first | exact hE | refine Ext.alloc ?_ _ | refine Ext.set ?_ (by omega) _, hQ⟩
theorem s69 {σ : AHeap} {N : Nat} {y : Sync} {marks : List Mark} {taken : List Int} (hN : σ.objs N = some (.cells 7 [y.row])) (lN : N < σ.next) (hm : RV 3 Mark.row y.mv marks)
    (ht : ∀ s, Ext σ s → TV s 1 rI y.tv taken) (hne : taken ≠ []) (hb : taken.length ≤ 1000000) (hin : ∀ k ∈ taken, 0 ≤ k ∧ k < marks.length) (frame : Int) {Q : AOut → AHeap → Prop}
    (hQ : Q (.ret (.agg [.int .i64 (nMax (fun k => aLo y (marks.getD k.toNat default) frame) taken), .int .i64 (nMin (fun k => aHi y (marks.getD k.toNat default) frame) taken)])) σ) : RunV Tryz.prog (.func (.func 69) [] []) [.ptr N 0 0, .int .i64 frame] σ Q := by
  refine RunV.drop (RunV.func mixed k69 (by simp) ?_)
  simp (disch := omega) only [c69, ↓CTL, ↓DRW, VAL, DRV, Nat.reduceBEq, Nat.reduceAdd, hN, Sync.row_eq]
  have hE : Ext σ (((σ.alloc (.cells 1 [[.ptr N 0 0]])).alloc (.cells 1 [[.int .i64 frame]])).alloc (.cells 2 [[.int .i64 0, .int .i64 0]])) := by repeat first | exact Ext.refl _ | refine Ext.alloc ?_ _
  refine s100 (ht _ hE) (fun s h => ht s (hE.trans h)) hne hb (fun k => aLo y (marks.getD k.toNat default) frame) (fun k => aHi y (marks.getD k.toNat default) frame) (fun s x h hx => ?_) ?_
  · have e0 := h.1
    simp only [AHeap.next_alloc] at e0
    have e1 := h.2 σ.next (by simp only [AHeap.next_alloc]; omega)
    have e2 := h.2 (σ.next + 1) (by simp only [AHeap.next_alloc]; omega)
    have e3 := h.2 N (by simp only [AHeap.next_alloc]; omega)
    simp (disch := omega) only [VAL, hN] at e1 e2 e3
    exact s101 e1 e2 e3 (by omega) (by omega) (by omega) hm (hin x hx).1 (hin x hx).2 ⟨rfl, rfl⟩
  · simp (disch := omega) only [↓CTL, ↓DRW, VAL, DRV, Nat.reduceBEq, Nat.reduceAdd]
    exact ⟨_, rfl, rfl, by repeat first | exact Ext.refl _ | refine Ext.alloc ?_ _ | refine Ext.set ?_ (by omega) _, hQ⟩
theorem s97 {σ : AHeap} {N A B : Nat} {y : Sync} {x : Mark} {marks : List Mark} (hA : σ.objs A = some (.cells 1 [[.ptr N 0 0]])) (hB : σ.objs B = some (.cells 3 [x.row])) (hN : σ.objs N = some (.cells 7 [y.row]))
    (lA : A < σ.next) (lB : B < σ.next) (lN : N < σ.next) (hm : RV 3 Mark.row y.mv marks) {k : Int} (h0 : 0 ≤ k) (h1 : k < marks.length) {Q : AOut → AHeap → Prop} (hQ : ∀ b, Q (.ret (.bool b)) σ) :
    RunV Tryz.prog (.func (.func 97) [] [.ptr A 0 0, .ptr B 0 0]) [.int .i64 k] σ Q := by
  refine RunV.drop (RunV.func mixed k97 (by simp) ?_)
  rw [Mark.row_eq] at hB
  simp (disch := omega) only [c97, ↓CTL, ↓DRW, VAL, DRV, Nat.reduceBEq, Nat.reduceAdd, hA, hB]
  refine s98 hN lN hm h0 h1 _ ?_
  simp (disch := omega) only [↓CTL, ↓DRW, VAL, DRV, Nat.reduceBEq, Nat.reduceAdd, hA, hB]
  repeat' first
    | refine G_false (fun _ => ?_) (fun _ => ?_)
    | exact ⟨_, rfl, rfl, by repeat first | exact Ext.refl _ | refine Ext.alloc ?_ _ | refine Ext.set ?_ (by omega) _, hQ _⟩
    | simp (disch := omega) only [↓CTL, ↓DRW, VAL, DRV, Nat.reduceBEq, Nat.reduceAdd, hA, hB]
end Go.Proofs.YtkfahdbjndihfaaGreat
namespace Go.Proofs.YtkfahdbjndihfaaGreat
open Go.Tc
set_option linter.unusedSimpArgs false
structure Strike where
  mark : Int
  by_ : Int
  deriving Inhabited
def Strike.row (x : Strike) : List AVal := [.int .i64 x.mark, .int .i64 x.by_]
theorem Strike.row_eq {x : Strike} : x.row = [.int .i64 x.mark, .int .i64 x.by_] := id rfl
structure Begun (σ s : AHeap) (N : Nat) (y : Sync) (marks : List Mark) (taken : List Int) (struck : List Strike) : Prop where
  ext : Ext σ s
  lo : σ.next ≤ N
  hi : N < s.next
  obj : s.objs N = some (.cells 7 [y.row])
  frames : y.frames ≤ 20000
  tk : OwnS s σ.next 1 rI y.tv taken
  st : OwnS s σ.next 2 Strike.row y.kv struck
  toff : Off y.tv N
  soff : Off y.kv N
  inr : ∀ k ∈ taken, 0 ≤ k ∧ k < marks.length
  ne : marks ≠ [] → taken ≠ []
  tl : taken.length ≤ 40
  sl : struck.length ≤ 40
structure BInv (σ s : AHeap) (y : Sync) (marks : List Mark) (i : Nat) (taken : List Int) (struck : List Strike) : Prop where
  il : i ≤ marks.length
  ext : Ext σ s
  n : σ.next + 3 ≤ s.next
  obj : s.objs (σ.next + 1) = some (.cells 7 [y.row])
  box : s.objs (σ.next + 2) = some (.cells 1 [[.ptr (σ.next + 1) 0 0]])
  tk : OwnS s (σ.next + 3) 1 rI y.tv taken
  st : OwnS s (σ.next + 3) 2 Strike.row y.kv struck
  dis : ∀ M, ¬ Off y.tv M → Off y.kv M
  inr : ∀ k ∈ taken, 0 ≤ k ∧ k < marks.length
  ne : 0 < i → taken ≠ []
  tl : taken.length ≤ i
  sl : struck.length ≤ i
theorem s64 {σ : AHeap} {frames lo hi0 : Int} {mv sv : AVal} {marks : List Mark} {speeds : List Int} (hm : RV 3 Mark.row mv marks) (hs : RV 1 rI sv speeds) {Q : AOut → AHeap → Prop}
    (hbad : ∀ s (e : Int), Ext σ s → e ≠ 0 → Q (.ret (.tup [.nilP, .int .i64 e])) s)
    (hok : ∀ s N tv kv taken struck, Begun σ s N ⟨frames, lo, hi0, mv, sv, tv, kv⟩ marks taken struck → speeds.length ≤ 16 → Q (.ret (.tup [.ptr N 0 0, .int .i64 0])) s) :
    RunV Tryz.prog (.func (.func 64) [] []) [.agg [.int .i64 frames,   .int .i64 lo, .int .i64 hi0, mv, sv]] σ Q := by
  refine RunV.func mixed k64 (by simp) ?_
  simp (disch := omega) only [c64, ↓CTL, ↓DRW, VAL, DRV, Nat.reduceBEq, Nat.reduceAdd, hm.S, hs.S]
  refine s13 _ _ _ _ _ _ _ _ hm hs fun p a e he => ?_
  simp (disch := omega) only [↓CTL, ↓DRW, VAL, DRV, Nat.reduceBEq, Nat.reduceAdd, hm.S, hs.S]
  refine B_if (fun h0 => ?_) (fun h0 => ?_)
  · simp (disch := omega) only [↓CTL, ↓DRW, VAL, DRV, Nat.reduceBEq, Nat.reduceAdd]
    exact hbad _ _ ((Ext.refl _).alloc _) h0
  have he' := he (by omega)
  simp (disch := omega) only [↓CTL, ↓DRW, VAL, DRV, Nat.reduceBEq, Nat.reduceAdd, hm.S, hs.S]
  refine A_loopV (α := Nat × AVal × AVal × List Int × List Strike) m64_0 (fun x => [(27, .int .i64 x.1)]) (fun x s => BInv σ s ⟨frames, lo, hi0, mv, sv, x.2.1, x.2.2.1⟩ marks x.1 x.2.2.2.1 x.2.2.2.2) (fun x => marks.length - x.1) rfl (fun _ => rfl) ⟨(0, .nilS, .nilS, [], []), ?_, ?_⟩ ?_
  · simp only [↓CTL, VAL, Nat.reduceBEq]; rfl
  · refine ⟨Nat.zero_le _, by repeat first | exact Ext.refl _ | refine Ext.alloc ?_ _ | refine Ext.set ?_ (by omega) _, by simp only [VAL]; omega, ?_, ?_, .nil, .nil, ?_, by simp, by omega, by simp, by simp⟩
    · simp (disch := omega) only [VAL, Sync.row_eq]
    · simp (disch := omega) only [VAL]
    · intro M _ _ _ _ _ h; cases h
  · rintro ⟨i, tv, kv, taken, struck⟩ f s hI
    dsimp only at hI ⊢
    have hi := hI.il
    have hn := hI.n
    have hO := hI.obj
    rw [Sync.row_eq] at hO
    have hB := hI.box
    have htl := hI.tl
    have hsl := hI.sl
    simp (disch := omega) only [↓CTL, ↓DRW, VAL, DRV, Nat.reduceBEq, Nat.reduceAdd, hm.S, hs.S, m64_0]
    refine B_if (fun hlt => ?_) (fun hge => ?_)
    · simp (disch := omega) only [↓CTL, ↓DRW, VAL, DRV, Nat.reduceBEq, Nat.reduceAdd, hm.S, hs.S, m64_0, hO, hB, Mark.row_eq]
      refine indexFunc_any mixed k99 (v := tv) (l := taken) (r := rI) ?_ (by omega) (fun x => .int .i64 x) (fun x => rfl) (fun x hx => ?_) fun n hn1 hn2 hn3 => ?_
      · exact (hI.tk.alloc _).tv
      · refine s97 (N := σ.next + 1) (x := marks.getD ((i : Int).toNat) default) (y := ⟨frames, lo, hi0, mv, sv, tv, kv⟩) ?_ (objs_new rfl) ?_ ?_ ?_ ?_ hm (hI.inr x hx).1 (hI.inr x hx).2 fun b => ⟨b, rfl, rfl⟩
        · simp (disch := omega) only [VAL, hB]
        · simp (disch := omega) only [VAL, hO, Sync.row_eq]
        all_goals simp only [VAL]; omega
      simp (disch := omega) only [↓CTL, ↓DRW, VAL, DRV, Nat.reduceBEq, Nat.reduceAdd, hm.S, hs.S, m64_0, hO, hB]
      refine B_if (fun hk => ?_) (fun hk => ?_)
      · simp (disch := omega) only [↓CTL, ↓DRW, VAL, DRV, Nat.reduceBEq, Nat.reduceAdd, m64_0, hO, hB]
        refine dr_go [] [0, 1, 4] ?_ ?_; · decide
        have ht := (hI.tk.alloc (.cells 3 [[AVal.int .i64 (marks.getD (i : Int).toNat default).frame, AVal.int .i64 (marks.getD (i : Int).toNat default).sample, AVal.int .i64 (marks.getD (i : Int).toNat default).error]])).tv.S
        simp (disch := omega) only [↓CTL, ↓DRW, VAL, DRV, FILL, Nat.reduceBEq, Nat.reduceAdd, m64_0, hO, hB, ht, rI_eq]
        obtain ⟨kv', s', hap, hk1, hk2, hk3, hk4⟩ := OwnS.app (bytes := 16) (w := .ms 2 (s.next + 1) 0 1 true) (xs := [Strike.mk i (taken.getD n.toNat default)]) ((hI.st.alloc (.cells 3 [[AVal.int .i64 (marks.getD (i : Int).toNat default).frame, AVal.int .i64 (marks.getD (i : Int).toNat default).sample, AVal.int .i64 (marks.getD (i : Int).toNat default).error]])).alloc (.cells 2 [[AVal.int .i64 i, AVal.int .i64 (taken.getD n.toNat default)]]))
          (elems_one (objs_new rfl)) (by simp only [VAL]; omega) (sumLen_ok (by simp only [VAL]; omega) (by simp only [VAL]; omega))
        simp only [AHeap.next_alloc] at hk2 hk3 hk4
        have h1 := hk3 (σ.next + 1) (by omega) (hI.st.off_old (by omega))
        have h2 := hk3 (σ.next + 2) (by omega) (hI.st.off_old (by omega))
        simp (disch := omega) only [VAL, hO, hB] at h1 h2
        have hT := hI.tk.keep (s' := s') (by omega) fun M hM hM2 hO' => by
          have := hk3 M (by omega) (hI.dis M hO')
          simpa (disch := omega) only [VAL] using this
        have e1 := hI.ext.1
        have hE' : Ext σ s' := ⟨by omega, fun N hN => by
          have := hk3 N (by omega) (hI.st.off_old (by omega))
          simp (disch := omega) only [VAL] at this
          exact this.trans (hI.ext.2 N hN)⟩
        simp (disch := omega) only [↓CTL, ↓DRW, VAL, DRV, FILL, Nat.reduceBEq, Nat.reduceAdd, m64_0, hap, hk1.one, h1, h2, hO, hB]
        refine ⟨fun h => absurd h (by decide), ?_⟩
        exact ⟨(i + 1, tv, kv', taken, struck ++ [Strike.mk i (taken.getD n.toNat default)]), rfl, ⟨by dsimp only; omega, hE'.set (by omega) _, by rw [AHeap.next_set]; omega, by rw [objs_here, Sync.row_eq], by simp (disch := omega) only [VAL, h2], hT.set (hI.tk.off_old (by omega)) _, hk1.set (hk4 _ (by omega) (hI.st.off_old (by omega))) _,
          fun M hM => hk4 M (by have := mt (fun h => hI.tk.off_new (M := M) h) hM; omega) (hI.dis M hM), hI.inr, fun _ => by intro h; subst h; simp at hn2; omega, by dsimp only; omega, by simp; omega⟩, by dsimp only; omega⟩
      · simp (disch := omega) only [↓CTL, ↓DRW, VAL, DRV, Nat.reduceBEq, Nat.reduceAdd, m64_0, hO, hB]
        refine dr_go [] [0, 1, 4] ?_ ?_; · decide
        have ht := (hI.tk.alloc (.cells 3 [[AVal.int .i64 (marks.getD (i : Int).toNat default).frame, AVal.int .i64 (marks.getD (i : Int).toNat default).sample, AVal.int .i64 (marks.getD (i : Int).toNat default).error]])).tv.S
        simp (disch := omega) only [↓CTL, ↓DRW, VAL, DRV, FILL, Nat.reduceBEq, Nat.reduceAdd, m64_0, hO, hB, ht, rI_eq]
        obtain ⟨tv', s', hap, hk1, hk2, hk3, hk4⟩ := OwnS.app (bytes := 8) (w := .ms 1 (s.next + 1) 0 1 true) (xs := [(i : Int)]) ((hI.tk.alloc (.cells 3 [[AVal.int .i64 (marks.getD (i : Int).toNat default).frame, AVal.int .i64 (marks.getD (i : Int).toNat default).sample, AVal.int .i64 (marks.getD (i : Int).toNat default).error]])).alloc (.cells 1 [[AVal.int .i64 i]]))
          (elems_one (objs_new rfl)) (by simp only [VAL]; omega) (sumLen_ok (by simp only [VAL]; omega) (by simp only [VAL]; omega))
        simp only [AHeap.next_alloc] at hk2 hk3 hk4
        have h1 := hk3 (σ.next + 1) (by omega) (hI.tk.off_old (by omega))
        have h2 := hk3 (σ.next + 2) (by omega) (hI.tk.off_old (by omega))
        simp (disch := omega) only [VAL, hO, hB] at h1 h2
        have hdis : ∀ M, ¬ Off kv M → Off tv M := fun M h => Classical.byContradiction fun h' => h (hI.dis M h')
        have hT := hI.st.keep (s' := s') (by omega) fun M hM hM2 hO' => by
          have := hk3 M (by omega) (hdis M hO')
          simpa (disch := omega) only [VAL] using this
        have e1 := hI.ext.1
        have hE' : Ext σ s' := ⟨by omega, fun N hN => by
          have := hk3 N (by omega) (hI.tk.off_old (by omega))
          simp (disch := omega) only [VAL] at this
          exact this.trans (hI.ext.2 N hN)⟩
        simp (disch := omega) only [↓CTL, ↓DRW, VAL, DRV, FILL, Nat.reduceBEq, Nat.reduceAdd, m64_0, hap, hk1.one, h1, h2, hO, hB]
        refine ⟨fun h => absurd h (by decide), ?_⟩
        exact ⟨(i + 1, tv', kv, taken ++ [(i : Int)], struck), rfl, ⟨by dsimp only; omega, hE'.set (by omega) _, by rw [AHeap.next_set]; omega, by rw [objs_here, Sync.row_eq], by simp (disch := omega) only [VAL, h2], hk1.set (hk4 _ (by omega) (hI.tk.off_old (by omega))) _, hT.set (hI.st.off_old (by omega)) _,
          fun M hM => Classical.byContradiction fun h' => hM (hk4 M (by have := mt (fun h => hI.st.off_new (M := M) h) h'; omega) (hdis M h')), fun k hk => by
            rcases List.mem_append.1 hk with h | h
            · exact hI.inr k h
            · simp at h; omega, fun _ => by simp, by simp; omega, by dsimp only; omega⟩, by dsimp only; omega⟩
    · simp (disch := omega) only [↓CTL, ↓DRW, VAL, DRV, Nat.reduceBEq, Nat.reduceAdd, m64_0, hO, hB]
      refine hok _ _ tv kv taken struck ⟨hI.ext, by omega, by omega, hI.obj, he'.2.1, hI.tk.weak (by omega), hI.st.weak (by omega), hI.tk.off_old (by omega), hI.st.off_old (by omega), hI.inr, fun h => hI.ne ?_, by omega, by omega⟩ he'.2.2.2
      have := List.length_pos_iff.2 h
      omega
end Go.Proofs.YtkfahdbjndihfaaGreat
namespace Go.Proofs.YtkfahdbjndihfaaGreat
open Go.Tc
set_option linter.unusedSimpArgs false
structure FB (A B N : Nat) (y : Sync) (speed : Int) (taken : List Int) (s : AHeap) : Prop where
  a : A < s.next
  b : B < s.next
  n : N < s.next
  oa : s.objs A = some (.cells 1 [[.ptr N 0 0]])
  ob : s.objs B = some (.cells 1 [[.int .i64 speed]])
  on : s.objs N = some (.cells 7 [y.row])
  tv : ∀ s', Ext s s' → TV s' 1 rI y.tv taken
theorem s102 {A B N : Nat} {y : Sync} {speed : Int} {marks : List Mark} {taken : List Int} (hm : RV 3 Mark.row y.mv marks) (hne : taken ≠ []) (hb : taken.length ≤ 1000000) (hin : ∀ k ∈ taken, 0 ≤ k ∧ k < marks.length) (hf : y.frames ≤ 20000) :
    Iter Tryz.prog (.func (.func 102) [] [.ptr A 0 0, .ptr B 0 0]) (FB A B N y speed taken) (fun k args => ∃ a b : Int, args = [.int .i64 k, .agg [.int .i64 a, .int .i64 b]]) (fun m => m = y.frames.toNat) := by
  intro yv J E σ0 hy hE hB h0 hr
  refine RunV.func mixed k102 (by simp) ?_
  have hB0 := hB 0 σ0 h0
  have hA1 := hB0.oa
  have hN1 := hB0.on
  rw [Sync.row_eq] at hN1
  simp (disch := omega) only [c102, ↓CTL, ↓DRW, VAL, DRV, Nat.reduceBEq, Nat.reduceAdd, hA1, hN1]
  refine A_loopV (α := Nat) m102_0 (fun i => [(12, .int .i64 i)]) (fun i s => i ≤ y.frames.toNat ∧ J i s) (fun i => y.frames.toNat - i) rfl (fun _ => rfl) ⟨0, ?_, Nat.zero_le _, h0⟩ ?_
  · simp only [↓CTL, VAL, Nat.reduceBEq]; rfl
  · rintro i f s ⟨hi, hJ⟩
    have hS := hB i s hJ
    have hA := hS.oa
    have hBb := hS.ob
    simp (disch := omega) only [↓CTL, ↓DRW, VAL, DRV, Nat.reduceBEq, Nat.reduceAdd, m102_0]
    refine B_if (fun hlt => ?_) (fun hge => ?_)
    · simp (disch := omega) only [↓CTL, ↓DRW, VAL, DRV, Nat.reduceBEq, Nat.reduceAdd, m102_0]
      refine dr_go [6] [0, 4, 6] ?_ ?_; · decide
      simp (disch := omega) only [↓CTL, ↓DRW, VAL, DRV, Nat.reduceBEq, Nat.reduceAdd, m102_0, hA, hBb]
      refine s69 hS.on hS.n hm hS.tv hne hb hin _ ?_
      have hsame : ∀ s', Ext s s' → sameC Tryz.prog (.func (.func 69) [] []) [.ptr N 0 0, .int .i64 i] s' (.agg [.int .i64 (nMax (fun k => aLo y (marks.getD k.toNat default) i) taken), .int .i64 (nMin (fun k => aHi y (marks.getD k.toNat default) i) taken)]) :=
        fun s' hE' => s69 (by rw [hE'.2 _ hS.n]; exact hS.on) (Nat.lt_of_lt_of_le hS.n hE'.1) hm (fun s2 h2 => hS.tv s2 (hE'.trans h2)) hne hb hin _ ⟨rfl, rfl⟩
      have hl := hS.a
      have hl2 := hS.b
      simp (disch := omega) only [↓CTL, ↓DRW, VAL, DRV, Nat.reduceBEq, Nat.reduceAdd, m102_0, hA, hBb]
      refine ⟨fun _ => hsame _ (.refl _), fun _ => hsame _ ((Ext.refl _).alloc _), fun _ => hsame _ ((Ext.refl _).alloc _), ?_⟩
      refine (hr i _ [.int .i64 i, .agg [_, _]] (hE i s _ hJ ((Ext.refl _).alloc _)) ⟨_, _, rfl⟩).mono fun o s' h => ?_
      rcases h with ⟨rfl, hJ'⟩ | ⟨rfl, hE'⟩
      · simp (disch := omega) only [↓CTL, ↓DRW, VAL, DRV, Nat.reduceBEq, Nat.reduceAdd, m102_0, Bool.not_true]
        exact ⟨i + 1, rfl, ⟨by omega, hJ'⟩, by omega⟩
      · simp (disch := omega) only [↓CTL, ↓DRW, VAL, DRV, Nat.reduceBEq, Nat.reduceAdd, m102_0, Bool.not_false]
        exact ⟨⟨_, rfl⟩, .inr hE'⟩
    · simp (disch := omega) only [↓CTL, ↓DRW, VAL, DRV, Nat.reduceBEq, Nat.reduceAdd, m102_0]
      have : i = y.frames.toNat := by omega
      exact ⟨⟨_, rfl⟩, .inl ⟨_, rfl, this ▸ hJ⟩⟩
end Go.Proofs.YtkfahdbjndihfaaGreat
namespace Go.Proofs.YtkfahdbjndihfaaGreat
open Go.Tc
set_option linter.unusedSimpArgs false
theorem s17 {σ : AHeap} {frames lo hi : Int} {mv sv : AVal} {marks : List Mark} {speeds : List Int} (hm : RV 3 Mark.row mv marks) (hs : RV 1 rI sv speeds) :
    RunV Tryz.prog (.func (.func 17) [] []) [.agg [.int .i64 frames, .int .i64 lo, .int .i64 hi, mv, sv]] σ (fun o s => ∃ kv e struck, o = .ret (.tup [kv, .int .i64 e]) ∧ Ext σ s ∧ OwnS s σ.next 2 Strike.row kv struck ∧ struck.length ≤ 1048576) := by
  refine RunV.func mixed k17 (by simp) ?_
  simp (disch := omega) only [c17, ↓CTL, ↓DRW, VAL, DRV, Nat.reduceBEq, Nat.reduceAdd, hm.S, hs.S]
  refine s64 hm hs (fun s e hE he => ?_) fun s N tv kv taken struck hB _ => ?_
  · simp (disch := omega) only [↓CTL, ↓DRW, VAL, DRV, Nat.reduceBEq, Nat.reduceAdd]
    exact ⟨_, _, [], rfl, hE.of_alloc, .nil, by simp⟩
  · have hO := hB.obj
    rw [Sync.row_eq] at hO
    simp (disch := omega) only [↓CTL, ↓DRW, VAL, DRV, Nat.reduceBEq, Nat.reduceAdd, ne_eq, not_true_eq_false, decide_false]
    simp (disch := omega) only [↓CTL, ↓DRW, VAL, DRV, Nat.reduceBEq, Nat.reduceAdd, hO]
    exact ⟨_, _, struck, rfl, hB.ext.of_alloc, hB.st.weak (by simp), by have := hB.sl; omega⟩
theorem s22 {σ : AHeap} {frames lo hi : Int} {mv sv : AVal} {marks : List Mark} {speeds : List Int} (hm : RV 3 Mark.row mv marks) (hs : RV 1 rI sv speeds) (frame : Int) {Q : AOut → AHeap → Prop}
    (hQ : ∀ a b e : Int, Q (.ret (.tup [.agg [.int .i64 a, .int .i64 b], .int .i64 e])) σ) :
    RunV Tryz.prog (.func (.func 22) [] []) [.agg [.int .i64 frames, .int .i64 lo, .int .i64 hi, mv, sv], .int .i64 frame] σ Q := by
  refine RunV.drop (RunV.func mixed k22 (by simp) ?_)
  simp (disch := omega) only [c22, ↓CTL, ↓DRW, VAL, DRV, Nat.reduceBEq, Nat.reduceAdd, hm.S, hs.S]
  refine s64 hm hs (fun s e hE he => ?_) fun s N tv kv taken struck hB _ => ?_
  · obtain ⟨h1, h2, h3, h4⟩ := hE.two
    simp (disch := omega) only [↓CTL, ↓DRW, VAL, DRV, Nat.reduceBEq, Nat.reduceAdd, h1, h2]
    exact ⟨_, rfl, rfl, by repeat first | exact h4 | refine Ext.alloc ?_ _ | refine Ext.set ?_ (by omega) _, hQ _ _ _⟩
  · obtain ⟨h1, h2, h3, h4⟩ := hB.ext.two
    simp (disch := omega) only [↓CTL, ↓DRW, VAL, DRV, Nat.reduceBEq, Nat.reduceAdd, h1, h2, ne_eq, not_true_eq_false, decide_false]
    repeat' first
      | refine out_spec mixed k63 _ _ _ _ ?_
      | refine B_if (fun _ => ?_) (fun _ => ?_)
      | refine G_false (fun _ => ?_) (fun _ => ?_)
      | exact ⟨_, rfl, rfl, by repeat first | exact h4 | refine Ext.alloc ?_ _ | refine Ext.set ?_ (by omega) _, hQ _ _ _⟩
      | simp (disch := omega) only [↓CTL, ↓DRW, VAL, DRV, Nat.reduceBEq, Nat.reduceAdd, h1, h2, hm.S, hs.S]
    have hne : marks ≠ [] := by rintro rfl; simp_all
    have htl := hB.tl
    refine s69 hB.obj hB.hi hm (fun s' h => (hB.tk.ext h).tv) (hB.ne hne) (by omega) hB.inr _ ?_
    simp (disch := omega) only [↓CTL, ↓DRW, VAL, DRV, Nat.reduceBEq, Nat.reduceAdd, h1, h2, hm.S, hs.S]
    exact ⟨_, rfl, rfl, by repeat first | exact h4 | refine Ext.alloc ?_ _ | refine Ext.set ?_ (by omega) _, hQ _ _ _⟩
theorem s70 {σ : AHeap} {N : Nat} {speed : Int} {Q : AOut → AHeap → Prop} (hQ : Q (.ret (.func (.func 102) [] [.ptr σ.next 0 0, .ptr (σ.next + 1) 0 0])) ((σ.alloc (.cells 1 [[.ptr N 0 0]])).alloc (.cells 1 [[.int .i64 speed]]))) :
    RunV Tryz.prog (.func (.func 70) [] []) [.ptr N 0 0, .int .i64 speed] σ Q := by
  refine RunV.func mixed k70 (by simp) ?_
  simp (disch := omega) only [c70, ↓CTL, ↓DRW, VAL, DRV, Nat.reduceBEq, Nat.reduceAdd]
  exact hQ
structure OInv (σ : AHeap) (n N : Nat) (y : Sync) (speed from_ : Int) (taken : List Int) (t : AHeap) : Prop where
  nx : n + 3 ≤ t.next
  oa : t.objs n = some (.cells 1 [[.ptr N 0 0]])
  ob : t.objs (n + 1) = some (.cells 1 [[.int .i64 speed]])
  on : t.objs N = some (.cells 7 [y.row])
  fr : t.objs (σ.next + 1) = some (.cells 1 [[.int .i64 from_]])
  x : ∃ a, t.objs (σ.next + 2) = some (.cells 1 [[.int .i64 a]])
  z : ∃ b, t.objs (σ.next + 3) = some (.cells 1 [[.int .i64 b]])
  ext : Ext σ t
  tk : OwnS t (σ.next + 4) 1 rI y.tv taken
  to : ∀ M, n ≤ M → Off y.tv M
theorem OInv.ext' {σ : AHeap} {n N : Nat} {y : Sync} {speed from_ : Int} {taken : List Int} {t t' : AHeap} (h : OInv σ n N y speed from_ taken t) (hN : N < n) (hn : σ.next + 4 ≤ n) (hE : Ext t t') : OInv σ n N y speed from_ taken t' := by
  have := h.nx
  obtain ⟨a, ha⟩ := h.x
  obtain ⟨b, hb⟩ := h.z
  exact ⟨Nat.le_trans h.nx hE.1, by rw [hE.2 _ (by omega)]; exact h.oa, by rw [hE.2 _ (by omega)]; exact h.ob, by rw [hE.2 _ (by omega)]; exact h.on, by rw [hE.2 _ (by omega)]; exact h.fr, ⟨a, by rw [hE.2 _ (by omega)]; exact ha⟩, ⟨b, by rw [hE.2 _ (by omega)]; exact hb⟩, h.ext.trans hE, h.tk.ext hE, h.to⟩
theorem OInv.set {σ : AHeap} {n N : Nat} {y : Sync} {speed from_ : Int} {taken : List Int} {t : AHeap} (h : OInv σ n N y speed from_ taken t) (hN : N < n) (hn : σ.next + 4 ≤ n) {M : Nat} (hM : n + 2 ≤ M) (o : AObj) : OInv σ n N y speed from_ taken (t.set M o) := by
  obtain ⟨a, ha⟩ := h.x
  obtain ⟨b, hb⟩ := h.z
  exact ⟨h.nx, by rw [objs_else (by omega)]; exact h.oa, by rw [objs_else (by omega)]; exact h.ob, by rw [objs_else (by omega)]; exact h.on, by rw [objs_else (by omega)]; exact h.fr, ⟨a, by rw [objs_else (by omega)]; exact ha⟩, ⟨b, by rw [objs_else (by omega)]; exact hb⟩, h.ext.set (by omega) _, h.tk.set (h.to M (by omega)) _, h.to⟩
theorem OInv.set2 {σ : AHeap} {n N : Nat} {y : Sync} {speed from_ : Int} {taken : List Int} {t : AHeap} (h : OInv σ n N y speed from_ taken t) (hN : σ.next + 4 ≤ N) (hn : σ.next + 4 ≤ n) (a b : Int) :
    OInv σ n N y speed from_ taken ((t.set (σ.next + 2) (.cells 1 [[.int .i64 a]])).set (σ.next + 3) (.cells 1 [[.int .i64 b]])) :=
  ⟨h.nx, by rw [objs_else (by omega), objs_else (by omega)]; exact h.oa, by rw [objs_else (by omega), objs_else (by omega)]; exact h.ob, by rw [objs_else (by omega), objs_else (by omega)]; exact h.on, by rw [objs_else (by omega), objs_else (by omega)]; exact h.fr, ⟨a, by rw [objs_else (by omega), objs_here]⟩, ⟨b, objs_here⟩, (h.ext.set (by omega) _).set (by omega) _, (h.tk.set (h.tk.off_old (by omega)) _).set (h.tk.off_old (by omega)) _, h.to⟩
theorem s25 {σ : AHeap} {frames lo hi : Int} {mv sv : AVal} {marks : List Mark} {speeds : List Int} (hm : RV 3 Mark.row mv marks) (hs : RV 1 rI sv speeds) (speed from_ : Int) {Q : AOut → AHeap → Prop}
    (hQ : ∀ a b e : Int, Q (.ret (.tup [.int .i64 a, .int .i64 b, .int .i64 e])) σ) :
    RunV Tryz.prog (.func (.func 25) [] []) [.agg [.int .i64 frames, .int .i64 lo, .int .i64 hi, mv, sv], .int .i64 speed, .int .i64 from_] σ Q := by
  refine RunV.drop (RunV.func mixed k25 (by simp) ?_)
  simp (disch := omega) only [c25, ↓CTL, ↓DRW, VAL, DRV, Nat.reduceBEq, Nat.reduceAdd, hm.S, hs.S]
  refine s64 hm hs (fun s e hE he => ?_) fun s N tv kv taken struck hB _ => ?_
  · obtain ⟨h1, h2, h3, h4, h5, h6⟩ := hE.four
    simp (disch := omega) only [↓CTL, ↓DRW, VAL, DRV, Nat.reduceBEq, Nat.reduceAdd, h1, h2, h3, h4]
    exact ⟨_, rfl, rfl, by repeat first | exact h6 | refine Ext.alloc ?_ _ | refine Ext.set ?_ (by omega) _, hQ _ _ _⟩
  · obtain ⟨h1, h2, h3, h4, h5, h6⟩ := hB.ext.four
    have hlN := hB.lo
    have hN2 := hB.hi
    simp only [AHeap.next_alloc] at hlN
    simp (disch := omega) only [↓CTL, ↓DRW, VAL, DRV, Nat.reduceBEq, Nat.reduceAdd, h1, h2, h3, h4, ne_eq, not_true_eq_false, decide_false]
    repeat' first
      | refine out_spec mixed k63 _ _ _ _ ?_
      | refine B_if (fun _ => ?_) (fun _ => ?_)
      | refine G_false (fun _ => ?_) (fun _ => ?_)
      | exact ⟨_, rfl, rfl, by repeat first | exact h6 | refine Ext.alloc ?_ _ | refine Ext.set ?_ (by omega) _, hQ _ _ _⟩
      | refine s70 ?_
      | simp (disch := omega) only [↓CTL, ↓DRW, ↓RK, VAL, DRV, Nat.reduceBEq, Nat.reduceAdd, h1, h2, h3, h4, hm.S, hs.S]
    have hne : marks ≠ [] := by rintro rfl; simp_all
    have htl := hB.tl
    refine A_rangeI (g := 102) (first := []) (caps := [.ptr s.next 0 0, .ptr (s.next + 1) 0 0]) ?_ (s102 (y := ⟨frames, lo, hi, mv, sv, tv, kv⟩) (N := N) (speed := speed) hm (hB.ne hne) (by omega) hB.inr hB.frames) (fun _ t => OInv σ s.next N ⟨frames, lo, hi, mv, sv, tv, kv⟩ speed from_ taken t) (fun _ _ => False) (by kernel_rfl) (fun L h => by cases h)
      (fun k t t' h hE => h.ext' hN2 h5 hE) (fun k t lo h => h.set hN2 h5 (by simp only [VAL]; omega) _) (fun k t h => ?_) (fun k t h => by have := h.nx; simp only [VAL]; omega) ?_ ?_ ?_ (fun _ _ h => h.elim)
    · simp (disch := omega) only [↓CTL, VAL, Nat.reduceBEq]
    · have := h.nx
      exact ⟨by omega, by omega, by omega, h.oa, h.ob, h.on, fun s' hE => (h.tk.ext hE).tv⟩
    · intro lo
      refine ⟨by simp only [VAL]; omega, ?_, ?_, ?_, ?_, ⟨-1, ?_⟩, ⟨0, ?_⟩, by repeat first | exact h6 | refine Ext.alloc ?_ _ | refine Ext.set ?_ (by omega) _, ?_, fun M hM => hB.tk.off_new hM⟩
      all_goals try (simp (disch := omega) only [VAL, h1, h2, h3, h4, hB.obj]; done)
      exact (((hB.tk.set (hB.tk.off_old (by simp only [VAL]; omega)) _).alloc _).alloc _).alloc _ |>.weak (by simp only [VAL]; omega)
    · rintro k t lo args hI hL ⟨a, b, rfl⟩
      refine ⟨rfl, ?_⟩
      have hnx := hI.nx
      obtain ⟨x, hx⟩ := hI.x
      obtain ⟨z, hz⟩ := hI.z
      have hfr := hI.fr
      simp only [AHeap.next_alloc, AHeap.next_set] at hL
      simp (disch := omega) only [↓CTL, ↓DRW, ↓RK, VAL, ENV, DRV, Nat.reduceBEq, Nat.reduceAdd, hx, hz, hfr, hL]
      intro lo'
      refine B_if (fun _ => ?_) (fun _ => ?_)
      · simp (disch := omega) only [↓CTL, ↓DRW, ↓RK, VAL, ENV, DRV, Nat.reduceBEq, Nat.reduceAdd, hx, hz, hfr, hL]
        exact fun lo2 => (((hI.set hN2 h5 (by omega) _).ext' hN2 h5 ((Ext.refl _).alloc _)).set2 (by omega) h5 _ _).set hN2 h5 (by omega) _
      · simp (disch := omega) only [↓CTL, ↓DRW, ↓RK, VAL, ENV, DRV, Nat.reduceBEq, Nat.reduceAdd, hx, hz, hfr, hL]
        exact fun lo2 => ((hI.set hN2 h5 (by omega) _).ext' hN2 h5 ((Ext.refl _).alloc _)).set hN2 h5 (by omega) _
    · intro m t hm' hI
      obtain ⟨x, hx⟩ := hI.x
      obtain ⟨z, hz⟩ := hI.z
      have hnx := hI.nx
      have kx : ∀ M, M < s.next + 2 → (t.kill (s.next + 2)).objs M = t.objs M := fun M hM => by rw [AHeap.objs_kill, if_neg (by omega)]
      simp only [AHeap.next_alloc, AHeap.next_set]
      simp (disch := omega) only [↓CTL, ↓DRW, ↓RK, VAL, ENV, DRV, Nat.reduceBEq, Nat.reduceAdd]
      refine dr_go [] [1] ?_ ?_; · decide
      simp (disch := omega) only [↓CTL, ↓DRW, ↓RK, VAL, ENV, DRV, Nat.reduceBEq, Nat.reduceAdd, kx, hx, hz]
      exact ⟨_, rfl, rfl, by repeat first | exact hI.ext | refine Ext.alloc ?_ _ | refine Ext.set ?_ (by omega) _ | refine Ext.kill ?_ (by omega), hQ _ _ _⟩
end Go.Proofs.YtkfahdbjndihfaaGreat
namespace Go.Proofs.YtkfahdbjndihfaaGreat
open Go.Tc
set_option linter.unusedSimpArgs false
theorem half_spec (σ : AHeap) (n : Int) {Q : AOut → AHeap → Prop} (hQ : ∀ r, Q (.ret (.int .i64 r)) σ) : RunV Tryz.prog (.func (.func 71) [] []) [.int .i64 n] σ Q := by
  refine RunV.func mixed k71 (by simp) ?_
  simp (disch := omega) only [c71, ↓CTL, ↓DRW, VAL, DRV, Nat.reduceBEq, Nat.reduceAdd]
  exact hQ _
structure Proof4 where
  a : Int
  b : Int
  c : Int
  d : Int
  deriving Inhabited
def Proof4.row (x : Proof4) : List AVal := [.int .i64 x.a, .int .i64 x.b, .int .i64 x.c, .int .i64 x.d]
theorem Proof4.row_eq {x : Proof4} : x.row = [.int .i64 x.a, .int .i64 x.b, .int .i64 x.c, .int .i64 x.d] := id rfl
structure FI (σ : AHeap) (n N : Nat) (y : Sync) (taken : List Int) (pv : AVal) (ps : List Proof4) (t : AHeap) : Prop where
  nx : n ≤ t.next
  ext : Ext σ t
  fit : ∃ a b c, t.objs (σ.next + 1) = some (.cells 3 [[.int .i64 a, .int .i64 b, .int .i64 c]])
  on : t.objs N = some (.cells 7 [y.row])
  tk : OwnS t (σ.next + 2) 1 rI y.tv taken
  pr : OwnS t n 4 Proof4.row pv ps
  to : ∀ M, n ≤ M → Off y.tv M
structure FJ (t : AHeap) (N : Nat) (speed : Int) (u : AHeap) : Prop where
  nx : t.next + 4 < u.next
  ext : Ext t u
  p : ∃ x : Proof4, u.objs t.next = some (.cells 4 [x.row])
  e : ∃ a b, u.objs (t.next + 1) = some (.cells 2 [[.int .i64 a, .int .i64 b]])
  oa : u.objs (t.next + 2) = some (.cells 1 [[.ptr N 0 0]])
  ob : u.objs (t.next + 3) = some (.cells 1 [[.int .i64 speed]])
theorem FJ.ext' {t : AHeap} {N : Nat} {speed : Int} {u u' : AHeap} (h : FJ t N speed u) (hE : Ext u u') : FJ t N speed u' := by
  have := h.nx
  obtain ⟨x, hx⟩ := h.p
  obtain ⟨a, b, he⟩ := h.e
  exact ⟨Nat.lt_of_lt_of_le h.nx hE.1, h.ext.trans hE, ⟨x, by rw [hE.2 _ (by omega)]; exact hx⟩, ⟨a, b, by rw [hE.2 _ (by omega)]; exact he⟩, by rw [hE.2 _ (by omega)]; exact h.oa, by rw [hE.2 _ (by omega)]; exact h.ob⟩
theorem FJ.set {t : AHeap} {N : Nat} {speed : Int} {u : AHeap} (h : FJ t N speed u) {M : Nat} (hM : t.next + 4 ≤ M) (o : AObj) : FJ t N speed (u.set M o) := by
  obtain ⟨x, hx⟩ := h.p
  obtain ⟨a, b, he⟩ := h.e
  exact ⟨h.nx, h.ext.set (by omega) _, ⟨x, by rw [objs_else (by omega)]; exact hx⟩, ⟨a, b, by rw [objs_else (by omega)]; exact he⟩, by rw [objs_else (by omega)]; exact h.oa, by rw [objs_else (by omega)]; exact h.ob⟩
theorem FJ.setp {t : AHeap} {N : Nat} {speed : Int} {u : AHeap} (h : FJ t N speed u) (x y z w : Int) : FJ t N speed (u.set t.next (.cells 4 [[.int .i64 x, .int .i64 y, .int .i64 z, .int .i64 w]])) := by
  obtain ⟨a, b, he⟩ := h.e
  exact ⟨h.nx, h.ext.set (by omega) _, ⟨⟨x, y, z, w⟩, objs_here⟩, ⟨a, b, by rw [objs_else (by omega)]; exact he⟩, by rw [objs_else (by omega)]; exact h.oa, by rw [objs_else (by omega)]; exact h.ob⟩
theorem FJ.sete {t : AHeap} {N : Nat} {speed : Int} {u : AHeap} (h : FJ t N speed u) (a b : Int) : FJ t N speed (u.set (t.next + 1) (.cells 2 [[.int .i64 a, .int .i64 b]])) := by
  obtain ⟨x, hx⟩ := h.p
  exact ⟨h.nx, h.ext.set (by omega) _, ⟨x, by rw [objs_else (by omega)]; exact hx⟩, ⟨a, b, objs_here⟩, by rw [objs_else (by omega)]; exact h.oa, by rw [objs_else (by omega)]; exact h.ob⟩
theorem FI.app {σ t u W : AHeap} {n N : Nat} {y : Sync} {taken : List Int} {pv : AVal} {ps : List Proof4} {speed r : Int} {x : Proof4} (hI : FI σ n N y taken pv ps t) (hn : σ.next + 2 ≤ N) (hN : N < n) (hJ : FJ t N speed u)
    (hW : W.next = u.next) (hfit : ∃ a b c, W.objs (σ.next + 1) = some (.cells 3 [[.int .i64 a, .int .i64 b, .int .i64 c]])) (hold : ∀ M, M < t.next → M ≠ σ.next + 1 → W.objs M = u.objs M) (hl : ps.length ≤ 1000000) :
    ∃ v' s', appA (W.alloc (.cells 4 [[.int .i64 x.a, .int .i64 x.b, .int .i64 x.c, .int .i64 r]])) 4 32 pv (.ms 4 u.next 0 1 true) = some (v', s') ∧ FI σ n N y taken v' (ps ++ [⟨x.a, x.b, x.c, r⟩]) s' := by
  have hux := hJ.nx
  have hnx := hI.nx
  have hpr : OwnS W n 4 Proof4.row pv ps := (hI.pr.ext hJ.ext).keep (by omega) fun M h1 h2 hO => hold M (by have := mt (fun h => hI.pr.off_new (M := M) h) hO; omega) (by omega)
  have htk : OwnS W (σ.next + 2) 1 rI y.tv taken := (hI.tk.ext hJ.ext).keep (by omega) fun M h1 h2 hO => hold M (by have := mt (fun h => hI.tk.off_new (M := M) h) hO; omega) (by omega)
  obtain ⟨v', s', hap, hk1, hk2, hk3, hk4⟩ := OwnS.app (bytes := 32) (w := .ms 4 u.next 0 1 true) (xs := [Proof4.mk x.a x.b x.c r]) (hpr.alloc (.cells 4 [[.int .i64 x.a, .int .i64 x.b, .int .i64 x.c, .int .i64 r]])) (elems_one (objs_new hW.symm)) (by simp only [VAL]; omega) (sumLen_ok (by simp only [VAL]; omega) (by simp only [VAL]; omega))
  simp only [AHeap.next_alloc] at hk2 hk3 hk4
  refine ⟨v', s', hap, ⟨by omega, ⟨by have := hI.ext.1; omega, fun M hM => ?_⟩, ?_, ?_, ?_, hk1, hI.to⟩⟩
  · have := hI.ext.1
    rw [hk3 M (by omega) (hpr.off_old (by omega)), objs_old (by omega), hold M (by omega) (by omega), hJ.ext.2 M (by omega), hI.ext.2 M hM]
  · obtain ⟨a, b, c, h⟩ := hfit
    exact ⟨a, b, c, by rw [hk3 _ (by omega) (hpr.off_old (by omega)), objs_old (by omega)]; exact h⟩
  · rw [hk3 _ (by omega) (hpr.off_old (by omega)), objs_old (by omega), hold _ (by omega) (by omega), hJ.ext.2 _ (by omega)]; exact hI.on
  · refine OwnS.keep (htk.alloc (.cells 4 [[.int .i64 x.a, .int .i64 x.b, .int .i64 x.c, .int .i64 r]])) (by simp only [AHeap.next_alloc]; omega) fun M h1 h2 hO => hk3 M h2 (hpr.off_old (Nat.lt_of_not_le fun h => hO (hI.to M h)))
theorem FI.app2 {σ t u W : AHeap} {n N : Nat} {y : Sync} {taken : List Int} {pv : AVal} {ps : List Proof4} {speed r : Int} {x : Proof4} {K : AVal → AHeap → Prop} (hI : FI σ n N y taken pv ps t) (hn : σ.next + 2 ≤ N) (hN : N < n) (hJ : FJ t N speed u) (hl : ps.length ≤ 1000000)
    (hK : ∀ v' s', FI σ n N y taken v' (ps ++ [⟨x.a, x.b, x.c, r⟩]) s' → K v' s')
    (hW : W.next = u.next) (hfit : ∃ a b c, W.objs (σ.next + 1) = some (.cells 3 [[.int .i64 a, .int .i64 b, .int .i64 c]])) (hold : ∀ M, M < t.next → M ≠ σ.next + 1 → W.objs M = u.objs M) :
    k2 (appA (W.alloc (.cells 4 [[.int .i64 x.a, .int .i64 x.b, .int .i64 x.c, .int .i64 r]])) 4 32 pv (.ms 4 u.next 0 1 true)) K {} := by
  obtain ⟨v', s', h1, h2⟩ := FI.app hI hn hN hJ hW hfit hold hl
  rw [h1]
  exact hK v' s' h2
theorem s27 {σ : AHeap} {frames lo hi : Int} {mv sv : AVal} {marks : List Mark} {speeds : List Int} (hm : RV 3 Mark.row mv marks) (hs : RV 1 rI sv speeds) :
    RunV Tryz.prog (.func (.func 27) [] []) [.agg [.int .i64 frames, .int .i64 lo, .int .i64 hi, mv, sv]] σ (fun o s => ∃ a b c pv e ps, o = .ret (.tup [.agg [.int .i64 a, .int .i64 b, .int .i64 c], pv, .int .i64 e]) ∧ Ext σ s ∧ OwnS s σ.next 4 Proof4.row pv ps ∧ ps.length ≤ 1048576) := by
  refine RunV.func mixed k27 (by simp) ?_
  simp (disch := omega) only [c27, ↓CTL, ↓DRW, VAL, DRV, Nat.reduceBEq, Nat.reduceAdd, hm.S, hs.S]
  refine s64 hm hs (fun s e hE he => ?_) fun s N tv kv taken struck hB hsl => ?_
  · obtain ⟨h1, h2, h3, h4⟩ := hE.two
    simp (disch := omega) only [↓CTL, ↓DRW, VAL, DRV, Nat.reduceBEq, Nat.reduceAdd, h1, h2]
    exact ⟨_, _, _, _, _, [], rfl, by repeat first | exact h4 | refine Ext.alloc ?_ _ | refine Ext.set ?_ (by omega) _, .nil, by simp⟩
  · obtain ⟨h1, h2, h3, h4⟩ := hB.ext.two
    have hlN := hB.lo
    have hN2 := hB.hi
    simp only [AHeap.next_alloc] at hlN
    simp (disch := omega) only [↓CTL, ↓DRW, VAL, DRV, Nat.reduceBEq, Nat.reduceAdd, h1, h2, ne_eq, not_true_eq_false, decide_false]
    repeat' first
      | refine B_if (fun _ => ?_) (fun _ => ?_)
      | exact ⟨_, _, _, _, _, [], rfl, by repeat first | exact h4 | refine Ext.alloc ?_ _ | refine Ext.set ?_ (by omega) _, .nil, by simp⟩
      | simp (disch := omega) only [↓CTL, ↓DRW, ↓RK, VAL, DRV, Nat.reduceBEq, Nat.reduceAdd, h1, h2, hm.S, hs.S]
    have hne : marks ≠ [] := by rintro rfl; simp_all
    have htl := hB.tl
    refine A_loopV (α := Nat × AVal × List Proof4) m27_0 (fun x => [(31, .int .i64 x.1), (3, x.2.1)]) (fun x t => x.1 ≤ speeds.length ∧ x.2.2.length = x.1 ∧ FI σ s.next N ⟨frames, lo, hi, mv, sv, tv, kv⟩ taken x.2.1 x.2.2 t) (fun x => speeds.length - x.1) rfl (fun _ => rfl) ⟨(0, .nilS, []), ?_, Nat.zero_le _, rfl, ?_⟩ ?_
    · simp only [↓CTL, VAL, Nat.reduceBEq]; rfl
    · exact ⟨Nat.le_refl _, h4, ⟨_, _, _, h2⟩, hB.obj, hB.tk.weak (by simp only [VAL]; omega), .nil, fun M hM => hB.tk.off_new hM⟩
    · rintro ⟨i, pv, ps⟩ f t ⟨hi', hpl, hI⟩
      dsimp only at hi' hpl hI ⊢
      obtain ⟨fa, fb, fc, hfit⟩ := hI.fit
      have hnx := hI.nx
      simp (disch := omega) only [↓CTL, ↓DRW, ↓RK, VAL, DRV, Nat.reduceBEq, Nat.reduceAdd, hm.S, hs.S, m27_0]
      refine B_if (fun hlt => ?_) (fun hge => ?_)
      · simp (disch := omega) only [↓CTL, ↓DRW, ↓RK, VAL, DRV, Nat.reduceBEq, Nat.reduceAdd, hm.S, hs.S, m27_0, rI_eq]
        refine s70 ?_
        simp (disch := omega) only [↓CTL, ↓DRW, ↓RK, VAL, DRV, Nat.reduceBEq, Nat.reduceAdd, hm.S, hs.S, m27_0, rI_eq]
        refine A_rangeI (g := 102) (first := []) (caps := [.ptr (t.next + 2) 0 0, .ptr (t.next + 3) 0 0]) ?_ (s102 (y := ⟨frames, lo, hi, mv, sv, tv, kv⟩) (N := N) (speed := speeds.getD (i : Int).toNat default) (taken := taken) hm (hB.ne hne) (by omega) hB.inr hB.frames) (fun _ u => FJ t N (speeds.getD (i : Int).toNat default) u) (fun _ _ => False) (by kernel_rfl) (fun L h => by cases h)
          (fun k t t' h hE => h.ext' hE) (fun k t lo h => h.set (by simp only [VAL]; omega) _) (fun k u h => ?_) (fun k t h => by have := h.nx; simp only [VAL]; omega) ?_ ?_ ?_ (fun _ _ h => h.elim)
        · simp (disch := omega) only [↓CTL, VAL, Nat.reduceBEq]
        · have := h.nx
          exact ⟨by omega, by omega, by omega, h.oa, h.ob, by rw [h.ext.2 _ (by omega)]; exact hI.on, fun s' hE => (hI.tk.ext (h.ext.trans hE)).tv⟩
        · intro lo
          refine ⟨by simp only [VAL]; omega, by repeat first | exact Ext.refl _ | refine Ext.alloc ?_ _ | refine Ext.set ?_ (by omega) _, ⟨⟨speeds.getD (i : Int).toNat default, 0, 0, 0⟩, ?_⟩, ⟨0, 0, ?_⟩, ?_, ?_⟩
          all_goals try simp (disch := omega) only [VAL, Proof4.row_eq]
        · rintro k u lo' args hJ hL ⟨a, b, rfl⟩
          refine ⟨rfl, ?_⟩
          have hux := hJ.nx
          obtain ⟨x, hx⟩ := hJ.p
          rw [Proof4.row_eq] at hx
          obtain ⟨ea, eb, he⟩ := hJ.e
          simp only [AHeap.next_alloc, AHeap.next_set] at hL
          simp (disch := omega) only [↓CTL, ↓DRW, ↓RK, VAL, ENV, DRV, Nat.reduceBEq, Nat.reduceAdd, hx, he, hL]
          intro lo2
          repeat' first
            | refine B_if (fun _ => ?_) (fun _ => ?_)
            | refine G_false (fun _ => ?_) (fun _ => ?_)
            | (refine dr_go [] [2] ?h ?_; case h => decide)
            | (refine ⟨hL, fun lo3 => ?_⟩; repeat first | exact hJ | refine FJ.ext' ?_ ((Ext.refl _).alloc _) | refine FJ.setp ?_ _ _ _ _ | refine FJ.sete ?_ _ _ | refine FJ.set ?_ (by omega) _)
            | (intro lo3; repeat first | exact hJ | refine FJ.ext' ?_ ((Ext.refl _).alloc _) | refine FJ.setp ?_ _ _ _ _ | refine FJ.sete ?_ _ _ | refine FJ.set ?_ (by omega) _)
            | simp (disch := omega) only [↓CTL, ↓DRW, ↓RK, VAL, ENV, DRV, Nat.reduceBEq, Nat.reduceAdd, hx, he, hL]
        · intro m u hm' hJ
          have hux := hJ.nx
          obtain ⟨x, hx⟩ := hJ.p
          rw [Proof4.row_eq] at hx
          obtain ⟨ea, eb, he⟩ := hJ.e
          have hfit' : u.objs (σ.next + 1) = _ := (hJ.ext.2 _ (by omega)).trans hfit
          simp only [AHeap.next_alloc, AHeap.next_set]
          simp (disch := omega) only [↓CTL, ↓DRW, ↓RK, VAL, ENV, DRV, Nat.reduceBEq, Nat.reduceAdd, hx, he]
          refine half_spec _ _ fun r => ?_
          simp (disch := omega) only [↓CTL, ↓DRW, ↓RK, VAL, ENV, DRV, Nat.reduceBEq, Nat.reduceAdd, hx, he, hI.pr.len]
          repeat' first
            | refine B_if (fun _ => ?_) (fun _ => ?_)
            | refine G_false (fun _ => ?_) (fun _ => ?_)
            | refine half_spec _ _ fun _ => ?_
            | (refine dr_go [] [2] ?h ?_; case h => decide)
            | (refine dr_go [6] [] ?h ?_; case h => decide)
            | simp (disch := omega) only [↓CTL, ↓DRW, ↓RK, VAL, ENV, DRV, FILL, Nat.reduceBEq, Nat.reduceAdd, hx, he, hfit', hI.pr.len]
          all_goals
            refine FI.app2 hI (by omega) (by omega) hJ (by omega) (fun v' s' hF => ?_) rfl ?_ fun M h1 h2 => ?_
            · simp (disch := omega) only [↓CTL, ↓DRW, ↓RK, VAL, ENV, DRV, FILL, Nat.reduceBEq, Nat.reduceAdd]
              exact ⟨(i + 1, v', ps ++ [⟨x.a, x.b, x.c, _⟩]), ⟨rfl, rfl⟩, ⟨by dsimp only; omega, by simp [hpl], hF⟩, by dsimp only; omega⟩
            · simp (disch := omega) only [VAL, hfit']
              exact ⟨_, _, _, rfl⟩
            · simp (disch := omega) only [VAL]
      · simp (disch := omega) only [↓CTL, ↓DRW, ↓RK, VAL, DRV, Nat.reduceBEq, Nat.reduceAdd, m27_0, hfit]
        exact ⟨_, _, _, _, _, ps, rfl, by repeat first | exact hI.ext | refine Ext.alloc ?_ _ | refine Ext.set ?_ (by omega) _, (hI.pr.weak (by omega)).set (hI.pr.off_old (by omega)) _, by omega⟩
end Go.Proofs.YtkfahdbjndihfaaGreat
namespace Go.Proofs.YtkfahdbjndihfaaGreat
open Go.Tc
set_option linter.unusedSimpArgs false
structure Cut where
  from_ : Int
  until_ : Int
  deriving Inhabited
def Cut.row (x : Cut) : List AVal := [.int .i64 x.from_, .int .i64 x.until_]
theorem Cut.row_eq {x : Cut} : x.row = [.int .i64 x.from_, .int .i64 x.until_] := id rfl
theorem s106 (σ : AHeap) (a b : Int) {Q : AOut → AHeap → Prop} (hQ : Q (.ret (.int .i64 (IntKind.i64.wrap (IntKind.i64.wrap (b - a) + 1)))) σ) : RunV Tryz.prog (.func (.func 106) [] []) [.agg [.int .i64 a, .int .i64 b]] σ Q := by
  refine RunV.drop (RunV.func mixed k106 (by simp) ?_)
  simp (disch := omega) only [c106, ↓CTL, ↓DRW, VAL, DRV, Nat.reduceBEq, Nat.reduceAdd]
  exact ⟨_, rfl, rfl, (Ext.refl _).alloc _, hQ⟩
theorem s103 (σ : AHeap) (frames : Int) (cv : AVal) (cuts : List Cut) (hc : RV 2 Cut.row cv cuts) {Q : AOut → AHeap → Prop} (hQ : ∀ n e : Int, (e = 0 → 1 ≤ frames ∧ frames ≤ 200000) → Q (.ret (.tup [.int .i64 n, .int .i64 e])) σ) :
    RunV Tryz.prog (.func (.func 103) [] []) [.int .i64 frames, cv] σ Q := by
  refine RunV.drop (RunV.func mixed k103 (by simp) ?_)
  simp (disch := omega) only [c103, ↓CTL, ↓DRW, VAL, DRV, Nat.reduceBEq, Nat.reduceAdd]
  repeat' first
    | refine out_spec mixed k104 _ _ _ _ ?_
    | refine B_if (fun _ => ?_) (fun _ => ?_)
    | refine G_false (fun _ => ?_) (fun _ => ?_)
    | exact ⟨_, rfl, rfl, Ext.refl _, hQ _ _ fun _ => by omega⟩
    | simp (disch := omega) only [↓CTL, ↓DRW, VAL, DRV, Nat.reduceBEq, Nat.reduceAdd, hc.S]
  refine A_loopV (α := Nat × Int) m103_0 (fun x => [(17, .int .i64 x.1), (0, .int .i64 x.2)]) (fun x s => x.1 ≤ cuts.length ∧ Ext σ s) (fun x => cuts.length - x.1) rfl (fun _ => rfl) ⟨(0, frames), ?_, Nat.zero_le _, .refl _⟩ ?_
  · simp only [↓CTL, VAL, Nat.reduceBEq]; rfl
  · rintro ⟨i, n⟩ f s ⟨hi, hE⟩
    dsimp only at hi ⊢
    simp (disch := omega) only [↓CTL, ↓DRW, VAL, DRV, Nat.reduceBEq, Nat.reduceAdd, hc.S, m103_0]
    repeat' first
      | refine out_spec mixed k104 _ _ _ _ ?_
      | refine s106 _ _ _ ?_
      | refine B_if (fun _ => ?_) (fun _ => ?_)
      | refine G_false (fun _ => ?_) (fun _ => ?_)
      | exact ⟨_, rfl, rfl, by repeat first | exact hE | refine Ext.alloc ?_ _ | refine Ext.set ?_ (by omega) _, hQ _ _ fun _ => by omega⟩
      | exact ⟨(i + 1, _), ⟨rfl, rfl⟩, ⟨by dsimp only; omega, by repeat first | exact hE | refine Ext.alloc ?_ _ | refine Ext.set ?_ (by omega) _⟩, by dsimp only; omega⟩
      | simp (disch := omega) only [↓CTL, ↓DRW, VAL, DRV, Nat.reduceBEq, Nat.reduceAdd, hc.S, m103_0, Cut.row_eq]
theorem s105 {σ s : AHeap} {x : Cut} (hE : Ext σ s) (hn : σ.next < s.next) (hb : ∃ f, s.objs σ.next = some (.cells 1 [[.int .i64 f]])) :
    RunV Tryz.prog (.func (.func 105) [] [.ptr σ.next 0 0]) [.agg [.int .i64 x.from_, .int .i64 x.until_]] s (fun o s' => (∃ b, o = .ret (.bool b)) ∧ Ext σ s' ∧ σ.next < s'.next ∧ ∃ f, s'.objs σ.next = some (.cells 1 [[.int .i64 f]])) := by
  refine RunV.func mixed k105 (by simp) ?_
  obtain ⟨f, hf⟩ := hb
  simp (disch := omega) only [c105, ↓CTL, ↓DRW, VAL, DRV, Nat.reduceBEq, Nat.reduceAdd, hf]
  repeat' first
    | refine B_if (fun _ => ?_) (fun _ => ?_)
    | (refine dr_go [2] [] ?h ?_; case h => decide)
    | refine s106 _ _ _ ?_
    | exact ⟨⟨_, rfl⟩, by repeat first | exact hE | refine Ext.alloc ?_ _ | refine Ext.set ?_ (by omega) _, by omega, _, rfl⟩
    | simp (disch := omega) only [↓CTL, ↓DRW, VAL, DRV, Nat.reduceBEq, Nat.reduceAdd, hf]
theorem s76 (σ : AHeap) (frames frame : Int) (cv : AVal) (cuts : List Cut) (hc : RV 2 Cut.row cv cuts) (hl : cuts.length ≤ 4611686018427387904) {Q : AOut → AHeap → Prop} (hQ : ∀ n e : Int, Q (.ret (.tup [.int .i64 n, .int .i64 e])) σ) :
    RunV Tryz.prog (.func (.func 76) [] []) [.int .i64 frames, cv, .int .i64 frame] σ Q := by
  refine RunV.drop (RunV.func mixed k76 (by simp) ?_)
  simp (disch := omega) only [c76, ↓CTL, ↓DRW, VAL, DRV, Nat.reduceBEq, Nat.reduceAdd]
  refine s103 _ _ _ _ hc fun n e _ => ?_
  simp (disch := omega) only [↓CTL, ↓DRW, VAL, DRV, Nat.reduceBEq, Nat.reduceAdd]
  repeat' first
    | refine out_spec mixed k104 _ _ _ _ ?_
    | refine B_if (fun _ => ?_) (fun _ => ?_)
    | exact ⟨_, rfl, rfl, (Ext.refl _).alloc _, hQ _ _⟩
    | simp (disch := omega) only [↓CTL, ↓DRW, VAL, DRV, Nat.reduceBEq, Nat.reduceAdd]
  refine containsFunc_inv mixed k107 k115 (fun s => Ext σ s ∧ σ.next < s.next ∧ ∃ f, s.objs σ.next = some (.cells 1 [[.int .i64 f]])) (fun s _ => hc s) ⟨(Ext.refl _).alloc _, by simp, _, objs_new rfl⟩ hl (fun x => .agg [.int .i64 x.from_, .int .i64 x.until_]) (fun x => rfl) (fun s x _ h => (s105 h.1 h.2.1 h.2.2).mono fun _ _ h => h) fun b s h => ?_
  obtain ⟨hE, hn, f, hf⟩ := h
  simp (disch := omega) only [↓CTL, ↓DRW, VAL, DRV, Nat.reduceBEq, Nat.reduceAdd]
  refine B_ifb (fun _ => ?_) (fun _ => ?_)
  all_goals
    simp (disch := omega) only [↓CTL, ↓DRW, VAL, DRV, Nat.reduceBEq, Nat.reduceAdd, hf]
    exact ⟨_, rfl, rfl, hE, hQ _ _⟩
theorem s33 (σ : AHeap) (frames lead frame : Int) (cv : AVal) (cuts : List Cut) (hc : RV 2 Cut.row cv cuts) (hl : cuts.length ≤ 4611686018427387904) {Q : AOut → AHeap → Prop} (hQ : ∀ n e : Int, Q (.ret (.tup [.int .i64 n, .int .i64 e])) σ) :
    RunV Tryz.prog (.func (.func 33) [] []) [.int .i64 frames, .int .i64 lead, cv, .int .i64 frame] σ Q := by
  refine RunV.func mixed k33 (by simp) ?_
  simp (disch := omega) only [c33, ↓CTL, ↓DRW, VAL, DRV, Nat.reduceBEq, Nat.reduceAdd]
  repeat' first
    | refine out_spec mixed k63 _ _ _ _ ?_
    | refine s76 _ _ _ _ _ hc hl fun _ _ => ?_
    | refine B_if (fun _ => ?_) (fun _ => ?_)
    | exact hQ _ _
    | simp (disch := omega) only [↓CTL, ↓DRW, VAL, DRV, Nat.reduceBEq, Nat.reduceAdd]
end Go.Proofs.YtkfahdbjndihfaaGreat
namespace Go.Proofs.YtkfahdbjndihfaaGreat
open Go.Tc
set_option linter.unusedSimpArgs false
theorem s78 (σ : AHeap) (a b : Int) (hb : b ≠ 0) {Q : AOut → AHeap → Prop} (hQ : ∀ r, Q (.ret (.int .i64 r)) σ) : RunV Tryz.prog (.func (.func 78) [] []) [.int .i64 a, .int .i64 b] σ Q := by
  refine RunV.func mixed k78 (by simp) ?_
  simp (disch := omega) only [c78, ↓CTL, ↓DRW, VAL, DRV, Nat.reduceBEq, Nat.reduceAdd]
  refine B_if (fun _ => ?_) (fun _ => ?_)
  all_goals
    simp (disch := omega) only [↓CTL, ↓DRW, VAL, DRV, Nat.reduceBEq, Nat.reduceAdd]
    exact hQ _
theorem s109 (σ : AHeap) (n most : Int) (N : Nat) (hN : σ.objs N = some (.cells 1 [[.int .i64 most]])) : RunV Tryz.prog (.func (.func 109) [] [.ptr N 0 0]) [.int .i64 n] σ (fun o s => ∃ b, o = .ret (.bool b) ∧ s = σ) := by
  refine RunV.func mixed k109 (by simp) ?_
  simp (disch := omega) only [c109, ↓CTL, ↓DRW, VAL, DRV, Nat.reduceBEq, Nat.reduceAdd, hN]
  refine out_spec mixed k63 _ _ _ _ ?_
  simp (disch := omega) only [↓CTL, ↓DRW, VAL, DRV, Nat.reduceBEq, Nat.reduceAdd]
  exact ⟨_, rfl⟩
theorem s77 (σ : AHeap) (v : AVal) (l : List Int) (hv : RV 1 rI v l) (hl : l.length ≤ 4611686018427387904) (most : Int) {Q : AOut → AHeap → Prop} (hQ : ∀ e : Int, (e = 0 → l.length ≤ 4000) → Q (.ret (.int .i64 e)) σ) :
    RunV Tryz.prog (.func (.func 77) [] []) [v, .int .i64 most] σ Q := by
  refine RunV.drop (RunV.func mixed k77 (by simp) ?_)
  simp (disch := omega) only [c77, ↓CTL, ↓DRW, VAL, DRV, Nat.reduceBEq, Nat.reduceAdd, hv.S]
  refine B_if (fun _ => ?_) (fun _ => ?_)
  · simp (disch := omega) only [↓CTL, ↓DRW, VAL, DRV, Nat.reduceBEq, Nat.reduceAdd]
    exact ⟨_, rfl, rfl, (Ext.refl _).alloc _, hQ _ fun _ => by omega⟩
  · simp (disch := omega) only [↓CTL, ↓DRW, VAL, DRV, Nat.reduceBEq, Nat.reduceAdd]
    refine containsFunc_any mixed k108 k99 (hv _) hl (fun x => .int .i64 x) (fun x => rfl) (fun x _ => s109 _ _ most _ (objs_new rfl)) fun b => ?_
    simp (disch := omega) only [↓CTL, ↓DRW, VAL, DRV, Nat.reduceBEq, Nat.reduceAdd]
    refine B_ifb (fun _ => ?_) (fun _ => ?_)
    all_goals
      simp (disch := omega) only [↓CTL, ↓DRW, VAL, DRV, Nat.reduceBEq, Nat.reduceAdd]
      exact ⟨_, rfl, rfl, (Ext.refl _).alloc _, hQ _ fun _ => by omega⟩
theorem s35 (σ : AHeap) (v : AVal) (l : List Int) (hv : RV 1 rI v l) (hl : l.length ≤ 4611686018427387904) (period : Int) :
    RunV Tryz.prog (.func (.func 35) [] []) [v, .int .i64 period] σ (fun o s => ∃ r e l', o = .ret (.tup [r, .int .i64 e]) ∧ Ext σ s ∧ OwnS s σ.next 1 rI r l' ∧ l'.length ≤ 1048576) := by
  refine RunV.func mixed k35 (by simp) ?_
  simp (disch := omega) only [c35, ↓CTL, ↓DRW, VAL, DRV, Nat.reduceBEq, Nat.reduceAdd, hv.S]
  refine s77 _ _ _ hv hl _ fun e he => ?_
  repeat' first
    | refine out_spec mixed k63 _ _ _ _ ?_
    | refine B_if (fun _ => ?_) (fun _ => ?_)
    | exact ⟨_, _, [], rfl, .refl _, .nil, by simp⟩
    | simp (disch := omega) only [↓CTL, ↓DRW, VAL, DRV, Nat.reduceBEq, Nat.reduceAdd, hv.S]
  have he' := he (by omega)
  refine A_loopV (α := Nat × Int × (AKey → Option Int) × (AKey → Option Int) × Nat × Nat) m35_0 (fun x => [(33, .int .i64 x.1), (7, .int .i64 x.2.1)])
    (fun x s => x.1 ≤ l.length ∧ Ext σ s ∧ σ.next + 2 ≤ s.next ∧ s.objs σ.next = some (.map (.one (.int .i64)) (mapF eI x.2.2.1) x.2.2.2.2.1) ∧ s.objs (σ.next + 1) = some (.map (.one (.int .i64)) (mapF eI x.2.2.2.1) x.2.2.2.2.2) ∧
      (∀ k n, x.2.2.2.1 k = some n → 1 ≤ n ∧ n ≤ x.1) ∧ (∀ k : Nat, k < x.1 → (k : Int) < period → ∃ n, x.2.2.2.1 (.one (.int k)) = some n)) (fun x => l.length - x.1) rfl (fun _ => rfl) ⟨(0, 0, fun _ => none, fun _ => none, 0, 0), ?_, ?_⟩ ?_
  · simp only [↓CTL, VAL, Nat.reduceBEq]; rfl
  · refine ⟨Nat.zero_le _, by repeat first | exact Ext.refl _ | refine Ext.alloc ?_ _, by simp only [VAL]; omega, ?_, ?_, by simp, by simp⟩
    all_goals simp (disch := omega) only [VAL]; rfl
  · rintro ⟨i, all, g1, g2, n1, n2⟩ f s ⟨hi, hE, hn, h1, h2, hA, hB⟩
    dsimp only at hi h1 h2 hA hB ⊢
    simp (disch := omega) only [↓CTL, ↓DRW, VAL, DRV, Nat.reduceBEq, Nat.reduceAdd, hv.S, m35_0]
    refine B_if (fun hlt => ?_) (fun hge => ?_)
    · simp (disch := omega) only [↓CTL, ↓DRW, VAL, DRV, MAP, Nat.reduceBEq, Nat.reduceAdd, hv.S, m35_0, rI_eq, h1, h2]
      have hq : 0 ≤ (g2 (.one (.int ((i : Int).tmod period)))).getD 0 ∧ (g2 (.one (.int ((i : Int).tmod period)))).getD 0 ≤ i := by
        cases hg : g2 (.one (.int ((i : Int).tmod period))) with
        | none => simp
        | some q => have := hA _ _ hg; simp only [Option.getD_some]; omega
      refine ⟨(i + 1, _, mputT g1 _ _, mputT g2 (.one (.int ((i : Int).tmod period))) (IntKind.i64.wrap ((g2 (.one (.int ((i : Int).tmod period)))).getD 0 + 1)), _, _), ⟨rfl, rfl⟩, ⟨by dsimp only; omega, (hE.set (by omega) _).set (by omega) _, hn, rfl, rfl, fun k n hk => ?_, fun k hk hp => ?_⟩, by dsimp only; omega⟩
      · dsimp only at hk ⊢
        rw [wrap_in (by omega) (by omega)] at hk
        by_cases h : k = .one (.int ((i : Int).tmod period))
        · subst h
          rw [mputT_same] at hk
          cases hk
          omega
        · rw [mputT_ne h] at hk
          have := hA k n hk
          omega
      · dsimp only at hk ⊢
        by_cases h : (AKey.one (.int (k : Int))) = .one (.int ((i : Int).tmod period))
        · rw [h, mputT_same]; exact ⟨_, rfl⟩
        · rw [mputT_ne h]
          refine hB k ?_ hp
          have : k ≠ i := by
            rintro rfl
            rw [Int.tmod_eq_of_lt (by omega) hp] at h
            exact h rfl
          omega
    · have hil : i = l.length := by omega
      subst hil
      simp (disch := omega) only [↓CTL, ↓DRW, VAL, DRV, MAP, ROW, Nat.reduceBEq, Nat.reduceAdd, hv.S, m35_0, rI_eq, h1, h2]
      refine A_loopV (α := Nat × List Int) m35_1 (fun x => [(59, .int .i64 x.1)]) (fun x t => x.1 ≤ period.toNat ∧ x.2.length = period.toNat ∧ t = s.alloc (.cells 1 (x.2.map rI))) (fun x => period.toNat - x.1) rfl (fun _ => rfl) ⟨(0, List.replicate period.toNat 0), ?_, Nat.zero_le _, by simp, rfl⟩ ?_
      · simp only [↓CTL, VAL, Nat.reduceBEq]; rfl
      · rintro ⟨k, r⟩ f' t ⟨hk, hr, rfl⟩
        dsimp only at hk hr ⊢
        simp (disch := omega) only [↓CTL, ↓DRW, VAL, DRV, Nat.reduceBEq, Nat.reduceAdd, m35_1]
        refine B_if (fun hlt2 => ?_) (fun hge2 => ?_)
        · obtain ⟨n, hg⟩ := hB k (by omega) (by omega)
          have hn1 := hA _ _ hg
          have hng : (g2 (.one (.int (k : Int)))).getD 0 ≠ 0 := by rw [hg]; simp only [Option.getD_some]; omega
          simp (disch := omega) only [↓CTL, ↓DRW, VAL, DRV, MAP, ROW, Nat.reduceBEq, Nat.reduceAdd, hv.S, m35_1, rI_eq, h1, h2]
          refine s78 _ _ _ hng fun x => ?_
          simp (disch := omega) only [↓CTL, ↓DRW, VAL, DRV, MAP, ROW, Nat.reduceBEq, Nat.reduceAdd, hv.S, m35_1, rI_eq, h1, h2]
          refine s78 _ _ _ (by omega) fun x' => ?_
          simp (disch := omega) only [↓CTL, ↓DRW, VAL, DRV, MAP, ROW, Nat.reduceBEq, Nat.reduceAdd, hv.S, m35_1, h1, h2, Int.toNat_natCast]
          exact ⟨(k + 1, _), rfl, ⟨by dsimp only; omega, by simp only [List.length_set]; exact hr, rfl⟩, by dsimp only; omega⟩
        · simp (disch := omega) only [↓CTL, ↓DRW, VAL, DRV, Nat.reduceBEq, Nat.reduceAdd, m35_1]
          exact ⟨_, _, r, rfl, hE.alloc _, .inr ⟨s.next, _, by rw [hr], hE.1, by simp, objs_new rfl⟩, by omega⟩
end Go.Proofs.YtkfahdbjndihfaaGreat
namespace Go.Proofs.YtkfahdbjndihfaaGreat
open Go.Tc
set_option linter.unusedSimpArgs false
theorem RV.noname {α : Type} [Inhabited α] {m : Nat} {f : α → List AVal} {v : AVal} {l : List α} (h : RV m f v l) (hl : l ≠ []) : ∀ M, Off v M := by
  intro M m' i len ex hv
  subst hv
  have h0 := h ⟨fun _ => none, 0⟩
  have hlen := h0.len
  simp only [lenOfS, Option.some.injEq] at hlen
  have hpos := List.length_pos_iff.2 hl
  obtain ⟨p, hp, _, hld⟩ := h0.el 0 (Int.le_refl _) (by omega)
  rcases h0.sh with h1 | ⟨N, i', len', ex', h1⟩ | ⟨rows, i', len', ex', h1⟩
  · cases h1
  · cases h1
    rw [ix_ms (Int.le_refl _) (by omega)] at hp
    cases hp
    obtain ⟨q, hq, hld⟩ := hld 0 true 0
    cases hq
    simp [loadA, Go.Tc.rowAt, partA] at hld
  · cases h1
theorem s84 {σ : AHeap} {v : AVal} {l : List Int} (hv : RV 1 rI v l) (hn : ∀ M, Off v M) (hl : l.length ≤ 1000000) {Q : AOut → AHeap → Prop} (hQ : ∀ u s, Ext σ s → OwnS s σ.next 1 rI u l → Q (.ret u) s) :
    RunV Tryz.prog (.func (.func 84) [] []) [v] σ Q := clone_spec mixed k84 (hv σ) (fun M _ => hn M) (sumLen_ok (by omega) (by omega)) hQ
theorem s82 {σ : AHeap} {v w : AVal} {l hum : List Int} (hv : RV 1 rI v l) (hw : RV 1 rI w hum) (hn : ∀ M, Off v M) (hl : l.length ≤ 4611686018427387904) (hl2 : hum.length ≤ 4611686018427387904) (times : Int) :
    RunV Tryz.prog (.func (.func 82) [] []) [v, w, .int .i64 times] σ (fun o s => ∃ r e l', o = .ret (.tup [r, .int .i64 e]) ∧ Ext σ s ∧ OwnS s σ.next 1 rI r l' ∧ l'.length ≤ 1048576) := by
  refine RunV.func mixed k82 (by simp) ?_
  simp (disch := omega) only [c82, ↓CTL, ↓DRW, VAL, DRV, Nat.reduceBEq, Nat.reduceAdd, hv.S, hw.S]
  refine s77 _ _ _ hv hl _ fun e he => ?_
  repeat' first
    | refine s77 _ _ _ hw hl2 _ fun e' he' => ?_
    | refine B_if (fun _ => ?_) (fun _ => ?_)
    | exact ⟨_, _, [], rfl, .refl _, .nil, by simp⟩
    | simp (disch := omega) only [↓CTL, ↓DRW, VAL, DRV, Nat.reduceBEq, Nat.reduceAdd, hv.S, hw.S]
  have he1 := he (by omega)
  refine s84 hv hn (by omega) fun u s hE hO => ?_
  simp (disch := omega) only [↓CTL, ↓DRW, VAL, DRV, Nat.reduceBEq, Nat.reduceAdd, hO.len]
  refine A_loopV (α := Nat × List Int) m82_0 (fun x => [(34, .int .i64 x.1)]) (fun x t => x.1 ≤ l.length ∧ x.2.length = l.length ∧ Ext σ t ∧ OwnS t σ.next 1 rI u x.2) (fun x => l.length - x.1) rfl (fun _ => rfl) ⟨(0, l), ?_, Nat.zero_le _, rfl, hE, hO⟩ ?_
  · simp only [↓CTL, VAL, Nat.reduceBEq]; rfl
  · rintro ⟨i, l'⟩ f t ⟨hi, hll, hE', hO'⟩
    dsimp only at hi hll hO' ⊢
    simp (disch := omega) only [↓CTL, ↓DRW, VAL, DRV, Nat.reduceBEq, Nat.reduceAdd, m82_0]
    refine B_if (fun hlt => ?_) (fun hge => ?_)
    · rcases hO' with ⟨rfl, rfl⟩ | ⟨N, ex, rfl, h1, h2, h3⟩
      · simp at hll; omega
      have hm1 : 0 ≤ (i : Int).tmod hum.length := Int.tmod_nonneg _ (by omega)
      have hm2 : (i : Int).tmod hum.length < hum.length := Int.tmod_lt_of_pos _ (by omega)
      simp (disch := omega) only [↓CTL, ↓DRW, VAL, DRV, Nat.reduceBEq, Nat.reduceAdd, m82_0]
      refine dr_go [] [] ?_ ?_; · decide
      simp (disch := omega) only [↓CTL, ↓DRW, VAL, DRV, ROW, Nat.reduceBEq, Nat.reduceAdd, m82_0, h3, hw.S, rI_eq, Int.toNat_natCast]
      exact ⟨(i + 1, _), rfl, ⟨by dsimp only; omega, by simp only [List.length_set]; exact hll, hE'.set h1 _, .inr ⟨N, ex, by simp only [List.length_set], h1, h2, objs_here⟩⟩, by dsimp only; omega⟩
    · simp (disch := omega) only [↓CTL, ↓DRW, VAL, DRV, Nat.reduceBEq, Nat.reduceAdd, m82_0]
      exact ⟨_, _, l', rfl, hE', hO', by omega⟩
theorem s40 {σ : AHeap} {v w : AVal} {l hum : List Int} (hv : RV 1 rI v l) (hw : RV 1 rI w hum) (hn : ∀ M, Off v M) (hl : l.length ≤ 4611686018427387904) (hl2 : hum.length ≤ 4611686018427387904) :
    RunV Tryz.prog (.func (.func 40) [] []) [v, w] σ (fun o s => ∃ r e l', o = .ret (.tup [r, .int .i64 e]) ∧ Ext σ s ∧ OwnS s σ.next 1 rI r l' ∧ l'.length ≤ 1048576) := by
  refine RunV.func mixed k40 (by simp) ?_
  simp (disch := omega) only [c40, ↓CTL, ↓DRW, VAL, DRV, Nat.reduceBEq, Nat.reduceAdd]
  refine (s82 hv hw hn hl hl2 _).mono fun o s ⟨r, e, l', ho, h1, h2⟩ => ?_
  subst ho
  simp (disch := omega) only [↓CTL, ↓DRW, VAL, DRV, Nat.reduceBEq, Nat.reduceAdd]
  exact ⟨_, _, l', rfl, h1, h2⟩
theorem s43 {σ : AHeap} {v w : AVal} {l hum : List Int} (hv : RV 1 rI v l) (hw : RV 1 rI w hum) (hn : ∀ M, Off v M) (hl : l.length ≤ 4611686018427387904) (hl2 : hum.length ≤ 4611686018427387904) :
    RunV Tryz.prog (.func (.func 43) [] []) [v, w] σ (fun o s => ∃ r e l', o = .ret (.tup [r, .int .i64 e]) ∧ Ext σ s ∧ OwnS s σ.next 1 rI r l' ∧ l'.length ≤ 1048576) := by
  refine RunV.func mixed k43 (by simp) ?_
  simp (disch := omega) only [c43, ↓CTL, ↓DRW, VAL, DRV, Nat.reduceBEq, Nat.reduceAdd]
  refine (s82 hv hw hn hl hl2 _).mono fun o s ⟨r, e, l', ho, h1, h2⟩ => ?_
  subst ho
  simp (disch := omega) only [↓CTL, ↓DRW, VAL, DRV, Nat.reduceBEq, Nat.reduceAdd]
  exact ⟨_, _, l', rfl, h1, h2⟩
structure Span where
  lo : Int
  hi : Int
  deriving Inhabited
def Span.row (x : Span) : List AVal := [.int .i64 x.lo, .int .i64 x.hi]
theorem Span.row_eq {x : Span} : x.row = [.int .i64 x.lo, .int .i64 x.hi] := id rfl
def spanSum : List Span → Int
  | [] => 0
  | x :: xs => (x.hi - x.lo + 1) + spanSum xs
theorem spanSum_add (l : List Span) (x : Span) : spanSum (l ++ [x]) = spanSum l + (x.hi - x.lo + 1) := by
  induction l with
  | nil => simp [spanSum]
  | cons a l ih => simp only [List.cons_append, spanSum, ih]; omega
theorem s83 {σ : AHeap} {v w : AVal} {l sp : List Int} (hv : RV 1 rI v l) (hw : RV 1 rI w sp) (hl : l.length ≤ 4611686018427387904) (hl2 : sp.length ≤ 4611686018427387904) (reach : Int) {Q : AOut → AHeap → Prop}
    (hbad : ∀ e : Int, ∀ s, e ≠ 0 → Ext σ s → Q (.ret (.tup [.nilS, .int .i64 0, .int .i64 e])) s)
    (hok : ∀ u (spans : List Span) s, Ext σ s → OwnS s σ.next 2 Span.row u spans → l.length ≤ 4000 → spans.length ≤ 60 → (∀ x ∈ spans, 0 ≤ x.lo ∧ x.lo ≤ x.hi ∧ x.hi ≤ (l.length : Int) - 1) → spanSum spans ≤ 60 * 4000 → Q (.ret (.tup [u, .int .i64 (spanSum spans), .int .i64 0])) s) :
    RunV Tryz.prog (.func (.func 83) [] []) [v, w, .int .i64 reach] σ Q := by
  refine RunV.func mixed k83 (by simp) ?_
  simp (disch := omega) only [c83, ↓CTL, ↓DRW, VAL, DRV, Nat.reduceBEq, Nat.reduceAdd, hv.S, hw.S]
  refine s77 _ _ _ hv hl _ fun e he => ?_
  repeat' first
    | refine out_spec mixed k63 _ _ _ _ ?_
    | refine B_if (fun _ => ?_) (fun _ => ?_)
    | exact hbad _ _ (by first | assumption | omega) (.refl _)
    | simp (disch := omega) only [↓CTL, ↓DRW, VAL, DRV, Nat.reduceBEq, Nat.reduceAdd, hv.S, hw.S]
  have he1 := he (by omega)
  refine A_loopV (α := Nat × AVal × List Span) m83_0 (fun x => [(27, .int .i64 x.1), (6, x.2.1), (7, .int .i64 (spanSum x.2.2))]) (fun x t => x.1 ≤ sp.length ∧ x.2.2.length = x.1 ∧ Ext σ t ∧ OwnS t σ.next 2 Span.row x.2.1 x.2.2 ∧ (∀ y ∈ x.2.2, 0 ≤ y.lo ∧ y.lo ≤ y.hi ∧ y.hi ≤ (l.length : Int) - 1) ∧ 0 ≤ spanSum x.2.2 ∧ spanSum x.2.2 ≤ x.1 * 4000) (fun x => sp.length - x.1) rfl (fun _ => rfl) ⟨(0, .nilS, []), ?_, Nat.zero_le _, rfl, .refl _, .nil, by simp, by simp [spanSum]⟩ ?_
  · simp only [↓CTL, VAL, Nat.reduceBEq]; exact ⟨rfl, rfl⟩
  · rintro ⟨i, u, spans⟩ f t ⟨hi, hsl, hE, hO, hin, hs0, hs1⟩
    dsimp only at hi hsl hO hin hs0 hs1 ⊢
    simp (disch := omega) only [↓CTL, ↓DRW, VAL, DRV, Nat.reduceBEq, Nat.reduceAdd, hw.S, m83_0]
    refine B_if (fun hlt => ?_) (fun hge => ?_)
    · simp (disch := omega) only [↓CTL, ↓DRW, VAL, DRV, Nat.reduceBEq, Nat.reduceAdd, hw.S, hv.S, m83_0, rI_eq]
      refine out_spec mixed k63 _ _ _ _ ?_
      simp (disch := omega) only [↓CTL, ↓DRW, VAL, DRV, Nat.reduceBEq, Nat.reduceAdd, hw.S, hv.S, m83_0, rI_eq]
      refine B_if (fun _ => ?_) (fun hat => ?_)
      · simp (disch := omega) only [↓CTL, ↓DRW, VAL, DRV, Nat.reduceBEq, Nat.reduceAdd, hw.S, hv.S, m83_0, rI_eq]
        exact hbad _ _ (by omega) hE
      · simp (disch := omega) only [↓CTL, ↓DRW, VAL, DRV, Nat.reduceBEq, Nat.reduceAdd, hw.S, hv.S, m83_0, rI_eq]
        refine dr_go [] [2, 3, 6, 9] ?_ ?_; · decide
        simp (disch := omega) only [↓CTL, ↓DRW, VAL, DRV, FILL, Nat.reduceBEq, Nat.reduceAdd, hw.S, hv.S, m83_0, rI_eq]
        obtain ⟨u', t', hap, k1, k2, k3, k4⟩ := OwnS.app (bytes := 16) (w := .ms 2 (t.next + 1) 0 1 true) (xs := [Span.mk (max 0 (sp.getD (i : Int).toNat default - reach)) (min ((l.length : Int) - 1) (sp.getD (i : Int).toNat default + reach))])
          ((hO.alloc (.cells 2 [[.int .i64 (max 0 (sp.getD (i : Int).toNat default - reach)), .int .i64 (min ((l.length : Int) - 1) (sp.getD (i : Int).toNat default + reach))]])).alloc (.cells 2 [[.int .i64 (max 0 (sp.getD (i : Int).toNat default - reach)), .int .i64 (min ((l.length : Int) - 1) (sp.getD (i : Int).toNat default + reach))]]))
          (elems_one (objs_new rfl)) (by have := hE.1; simp only [VAL]; omega) (sumLen_ok (by simp only [VAL]; omega) (by simp only [VAL]; omega))
        simp only [AHeap.next_alloc] at k2 k3
        have e1 := hE.1
        have h11 := k3 t.next (by omega) (hO.off_new (Nat.le_refl _))
        simp (disch := omega) only [VAL] at h11
        have hE' : Ext σ t' := ⟨by omega, fun M hM => by
          have := k3 M (by omega) (hO.off_old hM)
          simp (disch := omega) only [VAL] at this
          exact this.trans (hE.2 M hM)⟩
        simp (disch := omega) only [↓CTL, ↓DRW, VAL, DRV, FILL, Nat.reduceBEq, Nat.reduceAdd, hap, h11, m83_0]
        refine ⟨(i + 1, u', spans ++ [Span.mk (max 0 (sp.getD (i : Int).toNat default - reach)) (min ((l.length : Int) - 1) (sp.getD (i : Int).toNat default + reach))]), ⟨rfl, rfl, ?_⟩, ⟨by dsimp only; omega, by simp [hsl], hE', k1, fun y hy => ?_, ?_, ?_⟩, by dsimp only; omega⟩
        · rw [spanSum_add]
          dsimp only
          congr 1
          omega
        · rcases List.mem_append.1 hy with h | h
          · exact hin y h
          · rw [List.mem_singleton] at h; subst h; dsimp only; omega
        · rw [spanSum_add]; dsimp only; omega
        · rw [spanSum_add]; dsimp only; omega
    · simp (disch := omega) only [↓CTL, ↓DRW, VAL, DRV, Nat.reduceBEq, Nat.reduceAdd, m83_0]
      exact hok _ spans _ hE hO he1 (by omega) hin (by omega)
theorem s85 {σ : AHeap} {a b n : Int} (h0 : 0 ≤ n) (h1 : n ≤ 100000) {Q : AOut → AHeap → Prop} (hQ : ∀ u (l : List Int), RV 1 rI u l → Q (.ret u) σ) : RunV Tryz.prog (.func (.func 85) [] []) [.int .i64 a, .int .i64 b, .int .i64 n] σ Q := by
  refine RunV.freezeOwn (f := rI) (m := 1) (R := fun _ => True) (fun x v hv => by simp [rI] at hv; subst hv; exact ⟨rfl, rfl⟩) (RunV.func mixed k85 (by simp) ?_) fun v l h _ => hQ v l h
  simp (disch := omega) only [c85, ↓CTL, ↓DRW, VAL, DRV, ROW, Nat.reduceBEq, Nat.reduceAdd]
  refine A_loopV (α := Nat × List Int) m85_0 (fun x => [(12, .int .i64 x.1)]) (fun x t => x.1 ≤ n.toNat ∧ x.2.length = n.toNat ∧ t = σ.alloc (.cells 1 (x.2.map rI))) (fun x => n.toNat - x.1) rfl (fun _ => rfl) ⟨(0, List.replicate n.toNat 0), ?_, Nat.zero_le _, by simp, rfl⟩ ?_
  · simp only [↓CTL, VAL, Nat.reduceBEq]; rfl
  · rintro ⟨k, r⟩ f' t ⟨hk, hr, rfl⟩
    dsimp only at hk hr ⊢
    simp (disch := omega) only [↓CTL, ↓DRW, VAL, DRV, Nat.reduceBEq, Nat.reduceAdd, m85_0]
    refine B_if (fun hlt2 => ?_) (fun hge2 => ?_)
    · simp (disch := omega) only [↓CTL, ↓DRW, VAL, DRV, ROW, Nat.reduceBEq, Nat.reduceAdd, m85_0]
      refine s78 _ _ _ (by omega) fun x => ?_
      simp (disch := omega) only [↓CTL, ↓DRW, VAL, DRV, ROW, Nat.reduceBEq, Nat.reduceAdd, m85_0, Int.toNat_natCast]
      exact ⟨(k + 1, _), rfl, ⟨by dsimp only; omega, by simp only [List.length_set]; exact hr, rfl⟩, by dsimp only; omega⟩
    · simp (disch := omega) only [↓CTL, ↓DRW, VAL, DRV, Nat.reduceBEq, Nat.reduceAdd, m85_0]
      exact ⟨_, r, rfl, (Ext.refl _).alloc _, .inr ⟨σ.next, _, by rw [hr], Nat.le_refl _, by simp, objs_new rfl⟩⟩
theorem s52 {σ : AHeap} {v : AVal} {l : List Int} (hv : RV 1 rI v l) (hl : l.length ≤ 4611686018427387904) (begin_ step many : Int) :
    RunV Tryz.prog (.func (.func 52) [] []) [v, .int .i64 begin_, .int .i64 step, .int .i64 many] σ (fun o s => ∃ r e l', o = .ret (.tup [r, .int .i64 e]) ∧ Ext σ s ∧ OwnS s σ.next 1 rI r l' ∧ l'.length ≤ 1048576) := by
  refine RunV.func mixed k52 (by simp) ?_
  simp (disch := omega) only [c52, ↓CTL, ↓DRW, VAL, DRV, Nat.reduceBEq, Nat.reduceAdd, hv.S]
  refine s77 _ _ _ hv hl _ fun e he => ?_
  repeat' first
    | refine out_spec mixed k63 _ _ _ _ ?_
    | refine B_if (fun _ => ?_) (fun _ => ?_)
    | refine G_false (fun _ => ?_) (fun _ => ?_)
    | exact ⟨_, _, [], rfl, .refl _, .nil, by simp⟩
    | simp (disch := omega) only [↓CTL, ↓DRW, VAL, DRV, ROW, Nat.reduceBEq, Nat.reduceAdd, hv.S]
  have he1 := he (by omega)
  refine A_loopV (α := Nat × List Int) m52_0 (fun x => [(39, .int .i64 x.1)]) (fun x t => x.1 ≤ many.toNat ∧ x.2.length = many.toNat ∧ t = σ.alloc (.cells 1 (x.2.map rI))) (fun x => many.toNat - x.1) rfl (fun _ => rfl) ⟨(0, List.replicate many.toNat 0), ?_, Nat.zero_le _, by simp, rfl⟩ ?_
  · simp only [↓CTL, VAL, Nat.reduceBEq]; rfl
  · rintro ⟨k, r⟩ f' t ⟨hk, hr, rfl⟩
    dsimp only at hk hr ⊢
    simp (disch := omega) only [↓CTL, ↓DRW, VAL, DRV, Nat.reduceBEq, Nat.reduceAdd, m52_0]
    refine B_if (fun hlt2 => ?_) (fun hge2 => ?_)
    · have hks : 0 ≤ (k : Int) * step ∧ (k : Int) * step ≤ 4000 * 4000000 := ⟨Int.mul_nonneg (by omega) (by omega), Int.mul_le_mul (by omega) (by omega) (by omega) (by omega)⟩
      have hx0 : 0 ≤ (begin_ + (k : Int) * step).tdiv 1000 := Int.tdiv_nonneg (by omega) (by omega)
      have hx1 : (begin_ + (k : Int) * step).tdiv 1000 ≤ begin_ + (k : Int) * step := by
        rw [Int.tdiv_eq_ediv_of_nonneg (by omega)]; omega
      simp (disch := omega) only [↓CTL, ↓DRW, VAL, DRV, ROW, Nat.reduceBEq, Nat.reduceAdd, m52_0, hv.S, rI_eq, Int.toNat_natCast]
      refine B_if (fun hlt3 => ?_) (fun hge3 => ?_)
      · simp (disch := omega) only [↓CTL, ↓DRW, VAL, DRV, ROW, Nat.reduceBEq, Nat.reduceAdd, m52_0, hv.S, rI_eq, Int.toNat_natCast, List.length_set]
        refine dr_go [17] [] ?_ ?_; · decide
        simp (disch := omega) only [↓CTL, ↓DRW, VAL, DRV, ROW, Nat.reduceBEq, Nat.reduceAdd, m52_0, hv.S, rI_eq, Int.toNat_natCast, List.length_set]
        refine s78 _ _ _ (by omega) fun x => ?_
        simp (disch := omega) only [↓CTL, ↓DRW, VAL, DRV, ROW, Nat.reduceBEq, Nat.reduceAdd, m52_0, hv.S, rI_eq, Int.toNat_natCast, List.length_set]
        exact ⟨(k + 1, _), rfl, ⟨by dsimp only; omega, by simp only [List.length_set]; exact hr, rfl⟩, by dsimp only; omega⟩
      · simp (disch := omega) only [↓CTL, ↓DRW, VAL, DRV, ROW, Nat.reduceBEq, Nat.reduceAdd, m52_0, hv.S, rI_eq, Int.toNat_natCast]
        exact ⟨(k + 1, _), rfl, ⟨by dsimp only; omega, by simp only [List.length_set]; exact hr, rfl⟩, by dsimp only; omega⟩
    · simp (disch := omega) only [↓CTL, ↓DRW, VAL, DRV, Nat.reduceBEq, Nat.reduceAdd, m52_0]
      exact ⟨_, _, r, rfl, (Ext.refl _).alloc _, .inr ⟨σ.next, _, by rw [hr], Nat.le_refl _, by simp, objs_new rfl⟩, by omega⟩
end Go.Proofs.YtkfahdbjndihfaaGreat
namespace Go.Proofs.YtkfahdbjndihfaaGreat
open Go.Tc
set_option linter.unusedSimpArgs false
set_option maxRecDepth 20000
structure BLI (σ : AHeap) (n1 n2 : Nat) (u av kv : AVal) (spans : List Span) (after kept : List Int) (t : AHeap) : Prop where
  nx : n2 ≤ t.next
  ext : Ext σ t
  sp : OwnS t σ.next 2 Span.row u spans
  so : ∀ M, n1 ≤ M → Off u M
  af : OwnS t n1 1 rI av after
  ao : ∀ M, n2 ≤ M → Off av M
  kp : OwnS t n2 1 rI kv kept
theorem s46 {σ : AHeap} {v w : AVal} {l sp : List Int} (hv : RV 1 rI v l) (hw : RV 1 rI w sp) (hn : ∀ M, Off v M) (hl : l.length ≤ 4611686018427387904) (hl2 : sp.length ≤ 4611686018427387904) (reach : Int) :
    RunV Tryz.prog (.func (.func 46) [] []) [v, w, .int .i64 reach] σ (fun o s => ∃ a k e la lk, o = .ret (.tup [a, k, .int .i64 e]) ∧ Ext σ s ∧ OwnS s σ.next 1 rI a la ∧ OwnS s σ.next 1 rI k lk ∧ (∀ M, ¬ Off a M → Off k M) ∧ la.length ≤ 1048576 ∧ lk.length ≤ 1048576) := by
  refine RunV.func mixed k46 (by simp) ?_
  simp (disch := omega) only [c46, ↓CTL, ↓DRW, VAL, DRV, Nat.reduceBEq, Nat.reduceAdd]
  have hnil : ∀ M, ¬ Off AVal.nilS M → Off AVal.nilS M := fun M _ _ _ _ _ h => by cases h
  refine s83 hv hw hl hl2 reach (fun e s he hE => ?_) fun u spans s hE hO hll hsl hin hsum => ?_
  · simp (disch := omega) only [↓CTL, ↓DRW, VAL, DRV, Nat.reduceBEq, Nat.reduceAdd]
    exact ⟨_, _, _, [], [], rfl, hE, .nil, .nil, hnil, by simp, by simp⟩
  simp (disch := omega) only [↓CTL, ↓DRW, VAL, DRV, Nat.reduceBEq, Nat.reduceAdd]
  refine s84 hv hn (by omega) fun av s2 hE2 hA => ?_
  have hO2 := hO.ext hE2
  simp (disch := omega) only [↓CTL, ↓DRW, VAL, DRV, Nat.reduceBEq, Nat.reduceAdd, hO2.len]
  have e1 := hE.1
  have e2 := hE2.1
  refine A_loopV (α := Nat × AVal × List Int × List Int) m46_0 (fun x => [(32, .int .i64 x.1), (6, av), (7, x.2.1)]) (fun x t => x.1 ≤ spans.length ∧ x.2.2.1.length ≤ x.1 * 4000 ∧ x.2.2.2.length = l.length ∧ BLI σ s.next s2.next u av x.2.1 spans x.2.2.2 x.2.2.1 t) (fun x => spans.length - x.1) rfl (fun _ => rfl)
    ⟨(0, .nilS, [], l), ?_, Nat.zero_le _, by simp, rfl, ⟨Nat.le_refl _, hE.trans hE2, hO2, fun M hM => hO.off_new hM, hA, fun M hM => hA.off_new hM, .nil⟩⟩ ?_
  · simp only [↓CTL, VAL, Nat.reduceBEq]; rfl
  · rintro ⟨i, kv, kept, after⟩ f t ⟨hi, hkl, hal, hI⟩
    dsimp only at hi hkl hal hI ⊢
    have hnx := hI.nx
    simp (disch := omega) only [↓CTL, ↓DRW, VAL, DRV, Nat.reduceBEq, Nat.reduceAdd, m46_0]
    refine B_if (fun hlt => ?_) (fun hge => ?_)
    · have hx := hin (spans.getD i default) (by rw [List.getD_eq_getElem?_getD, List.getElem?_eq_getElem (by omega)]; exact List.getElem_mem _)
      generalize hxx : spans.getD i default = x at hx
      have hat := (hI.af.alloc (.cells 2 [[.int .i64 x.lo, .int .i64 x.hi]])).tv
      have hat' := hat.S
      rw [hal] at hat'
      simp (disch := omega) only [↓CTL, ↓DRW, VAL, DRV, Nat.reduceBEq, Nat.reduceAdd, m46_0, hI.sp.tv.S, hxx, Span.row_eq, Int.toNat_natCast]
      refine dr_go [] [] ?_ ?_; · decide
      simp (disch := omega) only [↓CTL, ↓DRW, VAL, DRV, Nat.reduceBEq, Nat.reduceAdd, m46_0, hv.S]
      repeat' first
        | refine B_if (fun _ => ?_) (fun _ => ?_)
        | refine G_true (fun _ => ?_) (fun _ => ?_)
        | (refine dr_go [] [] ?h ?_; case h => decide)
        | exact ⟨_, _, _, [], [], rfl, hI.ext.alloc _, .nil, .nil, hnil, by simp, by simp⟩
        | simp (disch := omega) only [↓CTL, ↓DRW, VAL, DRV, Nat.reduceBEq, Nat.reduceAdd, m46_0, hv.S, hat', rI_eq]
      all_goals
        have hsub := hat.sub (a := x.lo) (b := x.hi + 1) (by omega) (by omega) (by omega)
        have hlen : ((after.drop x.lo.toNat).take (x.hi + 1 - x.lo).toNat).length ≤ 4000 := by rw [List.length_take]; omega
        obtain ⟨kv', t2, hap, k1, k2, k3, k4⟩ := OwnS.app (bytes := 8) (hI.kp.alloc (.cells 2 [[.int .i64 x.lo, .int .i64 x.hi]])) hsub.elems (by simp only [VAL]; omega) (sumLen_ok (by omega) (by omega))
        simp only [AHeap.next_alloc] at k2 k3
        have hkeep : ∀ M, M < s2.next → t2.objs M = t.objs M := fun M hM => by
          have := k3 M (by omega) (hI.kp.off_old hM)
          simp (disch := omega) only [VAL] at this
          exact this
        have hb := k3 t.next (by omega) (hI.kp.off_new (Nat.le_refl _))
        simp (disch := omega) only [VAL] at hb
        have hA2 := hI.af.keep (s' := t2) (by omega) fun M _ _ hM => hkeep M (Nat.lt_of_not_le fun h => hM (hI.ao M h))
        have hS2 := hI.sp.keep (s' := t2) (by omega) fun M _ _ hM => hkeep M (by have := Nat.lt_of_not_le fun h => hM (hI.so M h); omega)
        have hE3 : Ext σ t2 := ⟨by have := hI.ext.1; omega, fun M hM => (hkeep M (by omega)).trans (hI.ext.2 M hM)⟩
        simp (disch := omega) only [↓CTL, ↓DRW, VAL, DRV, Nat.reduceBEq, Nat.reduceAdd, m46_0, hap]
        refine dr_go [12] [] ?_ ?_; · decide
        simp (disch := omega) only [↓CTL, ↓DRW, VAL, DRV, Nat.reduceBEq, Nat.reduceAdd, m46_0, hb, hat']
        refine s85 (by omega) (by omega) fun v2 l2 hv2 => ?_
        obtain ⟨n, t3, la', hcp, c1, c2, c3, c4⟩ := hA2.cpy (a := x.lo) (by omega) (by omega) (hv2 t2).elems
        rw [hal] at hcp
        simp (disch := omega) only [↓CTL, ↓DRW, VAL, DRV, Nat.reduceBEq, Nat.reduceAdd, m46_0, hb, hcp]
        refine ⟨(i + 1, kv', kept ++ (after.drop x.lo.toNat).take (x.hi + 1 - x.lo).toNat, la'), ⟨rfl, rfl⟩, ⟨by dsimp only; omega, by rw [List.length_append]; dsimp only; omega, by dsimp only; omega, ⟨by omega, ⟨by have := hE3.1; omega, fun M hM => (c4 M (hI.af.off_old (by omega))).trans (hE3.2 M hM)⟩, ?_, hI.so, c1, hI.ao, ?_⟩⟩, by dsimp only; omega⟩
        · exact hS2.keep (by omega) fun M _ _ hM => c4 M (hI.af.off_old (Nat.lt_of_not_le fun h => hM (hI.so M h)))
        · refine k1.keep (by omega) fun M h1 _ _ => c4 M (hI.ao M h1)
    · simp (disch := omega) only [↓CTL, ↓DRW, VAL, DRV, Nat.reduceBEq, Nat.reduceAdd, m46_0]
      exact ⟨_, _, _, after, kept, rfl, hI.ext, hI.af.weak e1, hI.kp.weak (by omega), fun M hM => hI.kp.off_old (Nat.lt_of_not_le fun h => hM (hI.ao M h)), by omega, by omega⟩
end Go.Proofs.YtkfahdbjndihfaaGreat
namespace Go.Proofs.YtkfahdbjndihfaaGreat
open Go.Tc
set_option linter.unusedSimpArgs false
set_option maxRecDepth 20000
theorem take_step' {α : Type} [Inhabited α] {l : List α} {i : Nat} (h : i < l.length) : l.take (i + 1) = l.take i ++ [l.getD i default] := by
  rw [List.take_add_one, List.getElem?_eq_getElem h, List.getD_eq_getElem?_getD, List.getElem?_eq_getElem h]; rfl
theorem spanSum_nonneg {l : List Span} (h : ∀ x ∈ l, x.lo ≤ x.hi) : 0 ≤ spanSum l := by
  induction l with
  | nil => exact Int.le_refl _
  | cons a l ih =>
    have h1 := h a (by simp)
    have h2 := ih fun x hx => h x (by simp [hx])
    simp only [spanSum]; omega
theorem s86 {σ : AHeap} {u : AVal} (hu : u.one = true) {Q : AOut → AHeap → Prop} (hQ : Q (.ret (.func (.func 110) [] [.ptr σ.next 0 0])) (σ.alloc (.cells 1 [[u]]))) :
    RunV Tryz.prog (.func (.func 86) [] []) [u] σ Q := by
  refine RunV.func mixed k86 (by simp) ?_
  simp (disch := omega) only [c86, ↓CTL, ↓DRW, VAL, DRV, Nat.reduceBEq, Nat.reduceAdd, hu]
  exact hQ
structure UI (σ : AHeap) (n1 n2 : Nat) (u av : AVal) (spans : List Span) (m j : Nat) (t : AHeap) : Prop where
  nx : n2 + 2 < t.next
  ext : Ext σ t
  kb : ∃ kv kl, t.objs σ.next = some (.cells 1 [[kv]]) ∧ RV 1 rI kv kl ∧ (kl.length : Int) = spanSum (spans.take j) ∧ kl.length ≤ 240000
  ab : t.objs n2 = some (.cells 1 [[av]])
  ub : t.objs (n2 + 1) = some (.cells 1 [[u]])
  sp : OwnS t (σ.next + 1) 2 Span.row u spans
  so : ∀ M, n1 ≤ M → Off u M
  af : ∃ after : List Int, OwnS t n1 1 rI av after ∧ after.length = m
  ao : ∀ M, n2 ≤ M → Off av M
theorem UI.ext' {σ : AHeap} {n1 n2 : Nat} {u av : AVal} {spans : List Span} {m j : Nat} {t t' : AHeap} (h : UI σ n1 n2 u av spans m j t) (hn : σ.next < n2) (hE : Ext t t') : UI σ n1 n2 u av spans m j t' := by
  have := h.nx
  obtain ⟨kv, kl, h1, h2, h3⟩ := h.kb
  obtain ⟨af, a1, a2⟩ := h.af
  exact ⟨Nat.lt_of_lt_of_le h.nx hE.1, h.ext.trans hE, ⟨kv, kl, by rw [hE.2 _ (by omega)]; exact h1, h2, h3⟩, by rw [hE.2 _ (by omega)]; exact h.ab, by rw [hE.2 _ (by omega)]; exact h.ub, h.sp.ext hE, h.so, ⟨af, a1.ext hE, a2⟩, h.ao⟩
theorem UI.set {σ : AHeap} {n1 n2 : Nat} {u av : AVal} {spans : List Span} {m j : Nat} {t : AHeap} (h : UI σ n1 n2 u av spans m j t) (hn : σ.next < n2) (hn1 : n1 ≤ n2) {M : Nat} (hM : n2 + 2 ≤ M) (o : AObj) : UI σ n1 n2 u av spans m j (t.set M o) := by
  obtain ⟨kv, kl, h1, h2, h3⟩ := h.kb
  obtain ⟨af, a1, a2⟩ := h.af
  exact ⟨h.nx, h.ext.set (by omega) _, ⟨kv, kl, by rw [objs_else (by omega)]; exact h1, h2, h3⟩, by rw [objs_else (by omega)]; exact h.ab, by rw [objs_else (by omega)]; exact h.ub, h.sp.set (h.so _ (by omega)) _, h.so, ⟨af, a1.set (h.ao _ (by omega)) _, a2⟩, h.ao⟩
theorem s49 {σ : AHeap} {v w kv : AVal} {l sp kept : List Int} (hv : RV 1 rI v l) (hw : RV 1 rI w sp) (hk : RV 1 rI kv kept) (hn : ∀ M, Off v M) (hl : l.length ≤ 4611686018427387904) (hl2 : sp.length ≤ 4611686018427387904) (reach : Int) :
    RunV Tryz.prog (.func (.func 49) [] []) [v, kv, w, .int .i64 reach] σ (fun o s => ∃ a e la, o = .ret (.tup [a, .int .i64 e]) ∧ Ext σ s ∧ OwnS s σ.next 1 rI a la ∧ la.length ≤ 1048576) := by
  refine RunV.func mixed k49 (by simp) ?_
  simp (disch := omega) only [c49, ↓CTL, ↓DRW, VAL, DRV, Nat.reduceBEq, Nat.reduceAdd, hk.S]
  refine s83 hv hw hl hl2 reach (fun e s he hE => ?_) fun u spans s hE hO hll hsl hin hsum => ?_
  · simp (disch := omega) only [↓CTL, ↓DRW, VAL, DRV, Nat.reduceBEq, Nat.reduceAdd]
    exact ⟨_, _, [], rfl, hE.of_alloc, .nil, by simp⟩
  obtain ⟨hb, e1, hE1⟩ := hE.one
  simp (disch := omega) only [↓CTL, ↓DRW, VAL, DRV, Nat.reduceBEq, Nat.reduceAdd, hb, hk.S]
  refine B_if (fun _ => ?_) (fun hmany => ?_)
  · simp (disch := omega) only [↓CTL, ↓DRW, VAL, DRV, Nat.reduceBEq, Nat.reduceAdd, hb, hk.S]
    exact ⟨_, _, [], rfl, hE1, .nil, by simp⟩
  simp (disch := omega) only [↓CTL, ↓DRW, VAL, DRV, Nat.reduceBEq, Nat.reduceAdd, hb, hk.S]
  refine s84 hv hn (by omega) fun av s2 hE2 hA => ?_
  have hO2 := hO.ext hE2
  have e2 := hE2.1
  have hb2 := (hE2.2 σ.next (by omega)).trans hb
  simp (disch := omega) only [↓CTL, ↓DRW, VAL, DRV, Nat.reduceBEq, Nat.reduceAdd, hA.one]
  refine s86 hO.one ?_
  simp (disch := omega) only [↓CTL, ↓DRW, ↓RK, VAL, DRV, Nat.reduceBEq, Nat.reduceAdd]
  refine A_rangeI (g := 110) (first := []) (caps := [.ptr (s2.next + 1) 0 0]) ?_ (back_iter (A := s2.next + 1) (v := u) (r := Span.row) (l := spans) (m := 2) (g := true) mixed k110 (by omega) (fun x => .agg [.int .i64 x.lo, .int .i64 x.hi]) (fun x => rfl)) (fun k t => k ≤ spans.length ∧ UI σ s.next s2.next u av spans l.length (spans.length - k) t) (fun _ _ => False) (by kernel_rfl) (fun L h => by cases h)
    (fun k t t' h hE => ⟨h.1, h.2.ext' (by omega) hE⟩) (fun k t lo h => ⟨h.1, h.2.set (by omega) (by omega) (by simp only [AHeap.next_alloc, AHeap.next_set]; omega) _⟩) (fun k t h => ⟨h.2.ub, h.2.sp.tv⟩) (fun k t h => by have := h.2.nx; simp only [AHeap.next_alloc, AHeap.next_set]; omega) ?_ ?_ ?_ (fun _ _ h => h.elim)
  · simp (disch := omega) only [↓CTL, VAL, Nat.reduceBEq]
  · intro lo
    refine ⟨Nat.zero_le _, by simp only [AHeap.next_alloc, AHeap.next_set]; omega, ?_, ⟨kv, kept, ?_, hk, ?_⟩, ?_, ?_, ?_, fun M hM => hO.off_new hM, ⟨l, ?_, rfl⟩, fun M hM => hA.off_new hM⟩
    · exact hE1.trans (hE2.trans (by repeat first | exact Ext.refl _ | refine Ext.alloc ?_ _ | refine Ext.set ?_ (by omega) _))
    · simp (disch := omega) only [VAL, hb2]
    · rw [Nat.sub_zero, List.take_length]; exact ⟨by omega, by omega⟩
    · simp (disch := omega) only [VAL]
    · simp (disch := omega) only [VAL]
    · exact hO2.ext (by repeat first | exact Ext.refl _ | refine Ext.alloc ?_ _ | refine Ext.set ?_ (by omega) _)
    · exact hA.ext (by repeat first | exact Ext.refl _ | refine Ext.alloc ?_ _ | refine Ext.set ?_ (by omega) _)
  · rintro k t lo args ⟨hk', hI⟩ hL ⟨hkl, rfl⟩
    refine ⟨rfl, ?_⟩
    have hnx := hI.nx
    obtain ⟨kv', kl, hkb, hkr, hks, hkb4⟩ := hI.kb
    obtain ⟨after, hA2, hal⟩ := hI.af
    have hab := hI.ab
    have hx := hin (spans.getD (spans.length - 1 - k) default) (by rw [List.getD_eq_getElem?_getD, List.getElem?_eq_getElem (by omega)]; exact List.getElem_mem _)
    have hts := take_step' (l := spans) (i := spans.length - 1 - k) (by omega)
    rw [show spans.length - 1 - k + 1 = spans.length - k by omega] at hts
    rw [hts, spanSum_add] at hks
    have hnn := spanSum_nonneg (l := spans.take (spans.length - 1 - k)) fun x hx => (hin x (List.mem_of_mem_take hx)).2.1
    generalize spans.getD (spans.length - 1 - k) default = x at hx hks
    simp only [AHeap.next_alloc, AHeap.next_set] at hL
    simp (disch := omega) only [↓CTL, ↓DRW, ↓RK, VAL, ENV, DRV, Nat.reduceBEq, Nat.reduceAdd, hL]
    intro lo'
    have hA3 := (hA2.set (hI.ao (s2.next + 1 + 1) (by omega)) (.loop lo')).alloc (.cells 2 [[.int .i64 x.lo, .int .i64 x.hi]])
    have hA3' := hA3.tv.S
    rw [hal] at hA3'
    simp (disch := omega) only [↓CTL, ↓DRW, ↓RK, VAL, ENV, DRV, Nat.reduceBEq, Nat.reduceAdd, hL, hkb, hab, hkr.S, hA3']
    refine dr_go [] [] ?_ ?_; · decide
    simp (disch := omega) only [↓CTL, ↓DRW, ↓RK, VAL, ENV, DRV, Nat.reduceBEq, Nat.reduceAdd, hL, hkb, hab, hkr.S, hA3']
    obtain ⟨n, t3, la', hcp, c1, c2, c3, c4⟩ := hA3.cpy (a := x.lo) (by omega) (by omega) ((hkr.sub (a := (kl.length : Int) - (x.hi - x.lo + 1)) (b := kl.length) (by omega) (by omega) (by omega)) _).elems
    rw [hal] at hcp
    simp only [AHeap.next_alloc, AHeap.next_set] at c3
    have d1 := c4 σ.next (hA3.off_old (by omega))
    have d2 := c4 (s2.next + 1 + 1) (hI.ao _ (by omega))
    have d3 := c4 s2.next (hI.ao _ (by omega))
    have d4 := c4 (s2.next + 1) (hI.ao _ (by omega))
    have hub := hI.ub
    simp (disch := omega) only [VAL, hkb, hab, hub] at d1 d2 d3 d4
    have hkr' := hkr.sub (a := 0) (b := (kl.length : Int) - (x.hi - x.lo + 1)) (by omega) (by omega) (by omega)
    simp (disch := omega) only [↓CTL, ↓DRW, ↓RK, VAL, ENV, DRV, Nat.reduceBEq, Nat.reduceAdd, hcp, d1, d2, hkr.S, hkr'.S]
    intro lo''
    have e3 := hI.ext.1
    have hE3 : Ext σ t3 := ⟨by omega, fun M hM => by
      have := c4 M (hA3.off_old (by omega))
      simp (disch := omega) only [VAL] at this
      exact this.trans (hI.ext.2 M hM)⟩
    refine ⟨by omega, ⟨by simp only [AHeap.next_set]; omega, (hE3.set (Nat.le_refl _) _).set (by omega) _, ⟨_, _, ?_, hkr', ?_⟩, ?_, ?_, ?_, hI.so, ⟨la', ?_, by omega⟩, hI.ao⟩⟩
    · simp (disch := omega) only [VAL]
    · rw [show spans.length - (k + 1) = spans.length - 1 - k by omega, List.length_take, List.length_drop]
      exact ⟨by omega, by omega⟩
    · simp (disch := omega) only [VAL, d3]
    · simp (disch := omega) only [VAL, d4]
    · have h1 := ((hI.sp.set (hI.so (s2.next + 1 + 1) (by omega)) (.loop lo')).alloc (.cells 2 [[.int .i64 x.lo, .int .i64 x.hi]])).keep (s' := t3) (by simp only [AHeap.next_alloc, AHeap.next_set]; omega) fun M _ _ hM => c4 M (hA3.off_old (Nat.lt_of_not_le fun h => hM (hI.so M h)))
      exact (h1.set (h1.off_old (by omega)) _).set (hI.so _ (by omega)) _
    · exact (c1.set (c1.off_old (by omega)) _).set (hI.ao _ (by omega)) _
  · rintro m t hm' ⟨_, hI⟩
    have hab := hI.ab
    have hnx := hI.nx
    obtain ⟨after, hA2, hal⟩ := hI.af
    simp only [AHeap.next_alloc, AHeap.next_set]
    simp (disch := omega) only [↓CTL, ↓DRW, ↓RK, VAL, ENV, DRV, Nat.reduceBEq, Nat.reduceAdd, hab]
    exact ⟨_, _, after, rfl, hI.ext.kill (by omega), (hA2.weak (by omega)).kill (hI.ao _ (by omega)), by omega⟩
end Go.Proofs.YtkfahdbjndihfaaGreat
