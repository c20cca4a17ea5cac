/- The evaluator and what it gives of the functions, part 3. No conditions of ours: a law's row is in YtanlmanifpknoaaLFnCouplesCalm. -/
import Derived.Test.YtanlmanifpknoaaE2
import Derived.IntWalk
namespace Go.Proofs.Ytanlmanifpknoaa.Ev
def ir87_c : C := (.seq (.reg false [] [⟨(some 2), none, (.mv (.k .nil))⟩]) (.seq (.reg false [] [⟨(some 3), none, (.bsl false 1 0 (.int .i64 0) [])⟩, ⟨(some 4), none, (.mv (.v 0))⟩, ⟨(some 5), none, (.app false 1 (.v 3) (.v 4))⟩, ⟨(some 2), none, (.mv (.v 5))⟩]) .ret))
def ir87 : Fn := ⟨.own, 1, 6, [(.tmp 2)], ir87_c⟩
def ir81_c : C := (.seq (.reg false [] [⟨(some 3), none, (.box (.v 0))⟩, ⟨(some 4), none, (.box (.v 1))⟩, ⟨(some 5), none, (.box (.v 2))⟩]) (.seq (.reg false [] [⟨(some 6), none, (.alc 1 [.nilf])⟩]) (.seq (.reg false [] [⟨(some 7), none, (.mkf 100 [] [(.v 3), (.v 4), (.v 5), (.v 6)])⟩, ⟨none, none, (.st 1 (.v 6) (.v 7))⟩]) (.reg false [] [⟨(some 8), none, (.ld false 1 (.v 6))⟩, ⟨(some 9), none, (.callv (.v 8) [(.k (.int .i64 0)), (.k .nil)])⟩]))))
def ir81 : Fn := ⟨.ref, 3, 10, [], ir81_c⟩
def ir63_d0 : C := (.seq (.reg false [] [⟨(some 8), none, (.bin .lss .none (.v 7) (.v 6))⟩]) (.seq (.cond (.v 8) .skip (.exit 0)) (.seq (.block 1 (.seq (.reg false [] [⟨(some 9), none, (.ixa 1 (.v 5) (.v 7))⟩, ⟨(some 10), none, (.ld false 1 (.v 9))⟩, ⟨(some 4), none, (.mv (.v 10))⟩]) (.seq (.seq (.reg false [] [⟨(some 11), none, (.mv (.v 4))⟩, ⟨(some 12), none, (.bin .rem .none (.v 11) (.k (.int .i64 2)))⟩, ⟨(some 13), none, (.bin .eql .none (.v 12) (.k (.int .i64 0)))⟩, ⟨(some 14), none, (.mv (.v 13))⟩, ⟨(some 15), (some (14, false)), (.mv (.v 0))⟩, ⟨(some 16), (some (14, false)), (.mv (.v 4))⟩, ⟨(some 17), (some (14, false)), (.bin .sub .none (.v 16) (.k (.int .i64 1)))⟩, ⟨(some 18), (some (14, false)), (.call 92 [(.v 15), (.v 17)])⟩, ⟨(some 19), none, (.pick (.v 14) (.k (.bool true)) (.v 18))⟩]) (.cond (.v 19) (.exit 1) .skip)) (.seq (.reg false [] [⟨(some 20), none, (.mv (.v 0))⟩, ⟨(some 21), none, (.call 90 [(.v 20), (.k (.clo 93 [] []))])⟩]) (.cond (.v 21) (.seq (.reg false [] [⟨(some 2), none, (.mv (.k (.bool false)))⟩]) .ret) .skip))))) (.reg false [] [⟨(some 22), none, (.bin .add .none (.v 7) (.k (.int .i64 1)))⟩, ⟨(some 7), none, (.mv (.v 22))⟩]))))
def ir63_b0 : C := ir63_d0
def ir63_l0 : C := .loop true [0, 5, 6, 7] ir63_b0
def ir63_c : C := (.seq (.reg false [] [⟨(some 2), none, (.mv (.k (.bool false)))⟩]) (.seq (.seq (.reg false [] [⟨(some 5), none, (.mv (.v 0))⟩, ⟨(some 6), none, (.len 1 (.v 5))⟩, ⟨(some 7), none, (.mv (.k (.int .i64 0)))⟩]) (.block 0 ir63_l0)) (.seq (.reg false [] [⟨(some 2), none, (.mv (.k (.bool true)))⟩]) .ret)))
def ir63 : Fn := ⟨.own, 1, 23, [(.tmp 2)], ir63_c⟩
def ir71_d0 : C := (.seq (.reg false [] [⟨(some 12), none, (.bin .lss .none (.v 11) (.v 10))⟩]) (.seq (.cond (.v 12) .skip (.exit 0)) (.seq (.block 1 (.seq (.reg false [] [⟨(some 13), none, (.mv (.v 11))⟩, ⟨(some 14), none, (.ixa 1 (.v 9) (.v 11))⟩, ⟨(some 15), none, (.ld false 1 (.v 14))⟩, ⟨(some 7), none, (.mv (.v 13))⟩, ⟨(some 8), none, (.mv (.v 15))⟩]) (.seq (.reg false [] [⟨(some 16), none, (.mv (.v 8))⟩, ⟨(some 17), none, (.mv (.v 1))⟩, ⟨(some 18), none, (.mv (.v 2))⟩, ⟨(some 19), none, (.call 40 [(.v 16), (.v 17), (.v 18)])⟩, ⟨(some 20), none, (.un .not (.v 19))⟩, ⟨(some 21), none, (.mv (.v 20))⟩, ⟨(some 22), (some (21, false)), (.mv (.v 7))⟩, ⟨(some 23), (some (21, false)), (.bin .gtr .none (.v 22) (.k (.int .i64 0)))⟩, ⟨(some 24), (some (21, false)), (.mv (.v 23))⟩, ⟨(some 25), (some (24, true)), (.mv (.v 0))⟩, ⟨(some 26), (some (24, true)), (.mv (.v 7))⟩, ⟨(some 27), (some (24, true)), (.bin .sub .none (.v 26) (.k (.int .i64 1)))⟩, ⟨(some 28), (some (24, true)), (.ixa 1 (.v 25) (.v 27))⟩, ⟨(some 29), (some (24, true)), (.ld false 1 (.v 28))⟩, ⟨(some 30), (some (24, true)), (.mv (.v 8))⟩, ⟨(some 31), (some (24, true)), (.bin .geq .none (.v 29) (.v 30))⟩, ⟨(some 32), (some (21, false)), (.pick (.v 24) (.v 31) (.k (.bool false)))⟩, ⟨(some 33), none, (.pick (.v 21) (.k (.bool true)) (.v 32))⟩]) (.cond (.v 33) (.seq (.reg false [] [⟨(some 6), none, (.mv (.k (.bool false)))⟩]) .ret) .skip)))) (.reg false [] [⟨(some 34), none, (.bin .add .none (.v 11) (.k (.int .i64 1)))⟩, ⟨(some 11), none, (.mv (.v 34))⟩]))))
def ir71_b0 : C := ir71_d0
def ir71_l0 : C := .loop true [0, 1, 2, 9, 10, 11] ir71_b0
def ir71_c : C := (.seq (.reg false [] [⟨(some 6), none, (.mv (.k (.bool false)))⟩]) (.seq (.seq (.reg false [] [⟨(some 9), none, (.mv (.v 0))⟩, ⟨(some 10), none, (.len 1 (.v 9))⟩, ⟨(some 11), none, (.mv (.k (.int .i64 0)))⟩]) (.block 0 ir71_l0)) (.seq (.reg false [] [⟨(some 6), none, (.mv (.k (.bool true)))⟩]) .ret)))
def ir71 : Fn := ⟨.own, 3, 35, [(.tmp 6)], ir71_c⟩
def ir72_d0 : C := (.seq (.seq (.reg false [] [⟨(some 18), none, (.mv (.v 6))⟩, ⟨(some 19), none, (.mv (.v 0))⟩, ⟨(some 20), none, (.bin .lss .none (.v 18) (.v 19))⟩]) (.cond (.v 20) .skip (.exit 2))) (.seq (.block 3 (.seq (.reg false [] [⟨(some 23), none, (.mv (.v 1))⟩, ⟨(some 24), none, (.mv (.v 6))⟩, ⟨(some 25), none, (.bin .mul .none (.k (.int .i64 2)) (.v 24))⟩, ⟨(some 26), none, (.bin .shr .none (.v 23) (.v 25))⟩, ⟨(some 27), none, (.bin .rem .none (.v 26) (.k (.int .i64 2)))⟩, ⟨(some 28), none, (.bin .eql .none (.v 27) (.k (.int .i64 1)))⟩]) (.cond (.v 28) (.seq (.reg false [] [⟨(some 4), none, (.mv (.k (.bool false)))⟩]) .ret) .skip))) (.reg false [] [⟨(some 21), none, (.mv (.v 6))⟩, ⟨(some 22), none, (.bin .add .none (.v 21) (.k (.int .i64 1)))⟩, ⟨(some 6), none, (.mv (.v 22))⟩])))
def ir72_b0 : C := ir72_d0
def ir72_l0 : C := .loop true [0, 1, 5, 6] ir72_b0
def ir72_d1 : C := (.seq (.seq (.reg false [] [⟨(some 7), none, (.mv (.v 5))⟩, ⟨(some 8), none, (.mv (.v 0))⟩, ⟨(some 9), none, (.bin .lss .none (.v 7) (.v 8))⟩]) (.cond (.v 9) .skip (.exit 0))) (.seq (.block 1 (.seq (.seq (.reg false [] [⟨(some 12), none, (.mv (.v 1))⟩, ⟨(some 13), none, (.mv (.v 5))⟩, ⟨(some 14), none, (.bin .mul .none (.k (.int .i64 2)) (.v 13))⟩, ⟨(some 15), none, (.bin .shr .none (.v 12) (.v 14))⟩, ⟨(some 16), none, (.bin .rem .none (.v 15) (.k (.int .i64 4)))⟩, ⟨(some 17), none, (.bin .neq .none (.v 16) (.k (.int .i64 2)))⟩]) (.cond (.v 17) (.exit 1) .skip)) (.seq (.reg false [] [⟨(some 6), none, (.mv (.k (.int .i64 0)))⟩]) (.block 2 ir72_l0)))) (.reg false [] [⟨(some 10), none, (.mv (.v 5))⟩, ⟨(some 11), none, (.bin .add .none (.v 10) (.k (.int .i64 1)))⟩, ⟨(some 5), none, (.mv (.v 11))⟩])))
def ir72_b1 : C := ir72_d1
def ir72_l1 : C := .loop true [0, 1, 5] ir72_b1
def ir72_c : C := (.seq (.reg false [] [⟨(some 4), none, (.mv (.k (.bool false)))⟩]) (.seq (.seq (.reg false [] [⟨(some 5), none, (.mv (.k (.int .i64 0)))⟩]) (.block 0 ir72_l1)) (.seq (.reg false [] [⟨(some 4), none, (.mv (.k (.bool true)))⟩]) .ret)))
def ir72 : Fn := ⟨.own, 2, 29, [(.tmp 4)], ir72_c⟩
def ir69_d0 : C := (.seq (.reg false [] [⟨(some 9), none, (.bin .lss .none (.v 8) (.v 7))⟩]) (.seq (.cond (.v 9) .skip (.exit 0)) (.seq (.block 1 (.seq (.reg false [] [⟨(some 10), none, (.ixa 1 (.v 6) (.v 8))⟩, ⟨(some 11), none, (.ld false 1 (.v 10))⟩, ⟨(some 5), none, (.mv (.v 11))⟩]) (.reg false [] [⟨(some 12), none, (.mv (.v 3))⟩, ⟨(some 13), none, (.mv (.v 5))⟩, ⟨(some 14), none, (.bin .shl .none (.k (.int .i64 1)) (.v 13))⟩, ⟨(some 15), none, (.bin .or .none (.v 12) (.v 14))⟩, ⟨(some 3), none, (.mv (.v 15))⟩]))) (.reg false [] [⟨(some 16), none, (.bin .add .none (.v 8) (.k (.int .i64 1)))⟩, ⟨(some 8), none, (.mv (.v 16))⟩]))))
def ir69_b0 : C := ir69_d0
def ir69_l0 : C := .loop true [3, 6, 7, 8] ir69_b0
def ir69_c : C := (.seq (.reg false [] [⟨(some 2), none, (.mv (.k (.int .i64 0)))⟩]) (.seq (.reg false [] [⟨(some 3), none, (.mv (.k (.int .i64 0)))⟩]) (.seq (.seq (.reg false [] [⟨(some 6), none, (.mv (.v 0))⟩, ⟨(some 7), none, (.len 1 (.v 6))⟩, ⟨(some 8), none, (.mv (.k (.int .i64 0)))⟩]) (.block 0 ir69_l0)) (.seq (.reg false [] [⟨(some 17), none, (.mv (.v 3))⟩, ⟨(some 2), none, (.mv (.v 17))⟩]) .ret))))
def ir69 : Fn := ⟨.own, 1, 18, [(.tmp 2)], ir69_c⟩
def ir100_d0 : C := (.seq (.seq (.reg false [] [⟨(some 11), none, (.mv (.v 8))⟩, ⟨(some 12), none, (.ld false 1 (.v 2))⟩, ⟨(some 13), none, (.len 1 (.v 12))⟩, ⟨(some 14), none, (.bin .lss .none (.v 11) (.v 13))⟩, ⟨(some 15), none, (.mv (.v 14))⟩, ⟨(some 16), (some (15, true)), (.mv (.v 1))⟩, ⟨(some 17), (some (15, true)), (.len 1 (.v 16))⟩, ⟨(some 18), (some (15, true)), (.ld false 1 (.v 3))⟩, ⟨(some 19), (some (15, true)), (.bin .lss .none (.v 17) (.v 18))⟩, ⟨(some 20), none, (.pick (.v 15) (.v 19) (.k (.bool false)))⟩]) (.cond (.v 20) .skip (.exit 0))) (.seq (.block 1 (.seq (.reg true [0, 1, 0, 0, 12, 28, 60, 127, 255] [⟨(some 23), none, (.mv (.v 1))⟩, ⟨(some 24), none, (.call 101 [(.v 23)])⟩, ⟨(some 25), none, (.ld false 1 (.v 2))⟩, ⟨(some 26), none, (.mv (.v 8))⟩, ⟨(some 27), none, (.ixa 1 (.v 25) (.v 26))⟩, ⟨(some 28), none, (.ld false 1 (.v 27))⟩, ⟨(some 29), none, (.bsl false 1 1 (.int .i64 0) [(0, (.v 28))])⟩, ⟨(some 30), none, (.app false 1 (.v 24) (.v 29))⟩, ⟨(some 9), none, (.mv (.v 30))⟩]) (.seq (.reg false [] [⟨(some 31), none, (.ld false 1 (.v 4))⟩, ⟨(some 32), none, (.mv (.v 9))⟩, ⟨(some 33), none, (.callv (.v 31) [(.v 32)])⟩]) (.reg false [] [⟨(some 34), none, (.ld false 1 (.v 5))⟩, ⟨(some 35), none, (.mv (.v 8))⟩, ⟨(some 36), none, (.bin .add .none (.v 35) (.k (.int .i64 1)))⟩, ⟨(some 37), none, (.mv (.v 9))⟩, ⟨(some 38), none, (.callv (.v 34) [(.v 36), (.v 37)])⟩])))) (.reg false [] [⟨(some 21), none, (.mv (.v 8))⟩, ⟨(some 22), none, (.bin .add .none (.v 21) (.k (.int .i64 1)))⟩, ⟨(some 8), none, (.mv (.v 22))⟩])))
def ir100_b0 : C := ir100_d0
def ir100_l0 : C := .loop false [1, 2, 3, 4, 5, 8] ir100_b0
def ir100_c : C := (.seq (.reg false [] [⟨(some 10), none, (.mv (.v 0))⟩, ⟨(some 8), none, (.mv (.v 10))⟩]) (.block 0 ir100_l0))
def ir100 : Fn := ⟨.ref, 6, 39, [], ir100_c⟩
def ir92_c : C := (.seq (.reg false [] [⟨(some 4), none, (.mv (.k (.bool false)))⟩]) (.seq (.reg false [] [⟨(some 5), none, (.mv (.v 0))⟩, ⟨(some 6), none, (.mv (.v 1))⟩, ⟨(some 7), none, (.call 104 [(.v 5), (.v 6)])⟩, ⟨(some 8), none, (.bin .geq .none (.v 7) (.k (.int .i64 0)))⟩, ⟨(some 4), none, (.mv (.v 8))⟩]) .ret))
def ir92 : Fn := ⟨.own, 2, 9, [(.tmp 4)], ir92_c⟩
def ir90_c : C := (.seq (.reg false [] [⟨(some 4), none, (.mv (.k (.bool false)))⟩]) (.seq (.reg false [] [⟨(some 5), none, (.mv (.v 0))⟩, ⟨(some 6), none, (.mv (.v 1))⟩, ⟨(some 7), none, (.call 103 [(.v 5), (.v 6)])⟩, ⟨(some 8), none, (.bin .geq .none (.v 7) (.k (.int .i64 0)))⟩, ⟨(some 4), none, (.mv (.v 8))⟩]) .ret))
def ir90 : Fn := ⟨.own, 2, 9, [(.tmp 4)], ir90_c⟩
def ir93_c : C := (.seq (.reg false [] [⟨(some 2), none, (.mv (.k (.bool false)))⟩]) (.seq (.reg false [] [⟨(some 3), none, (.mv (.v 0))⟩, ⟨(some 4), none, (.bin .rem .none (.v 3) (.k (.int .i64 2)))⟩, ⟨(some 5), none, (.bin .eql .none (.v 4) (.k (.int .i64 0)))⟩, ⟨(some 2), none, (.mv (.v 5))⟩]) .ret))
def ir93 : Fn := ⟨.own, 1, 6, [(.tmp 2)], ir93_c⟩
def ir104_d0 : C := (.seq (.reg false [] [⟨(some 9), none, (.bin .lss .none (.v 8) (.v 7))⟩]) (.seq (.cond (.v 9) .skip (.exit 0)) (.seq (.block 1 (.seq (.reg false [] [⟨(some 10), none, (.mv (.v 8))⟩, ⟨(some 5), none, (.mv (.v 10))⟩]) (.seq (.reg false [] [⟨(some 11), none, (.mv (.v 1))⟩, ⟨(some 12), none, (.mv (.v 0))⟩, ⟨(some 13), none, (.mv (.v 5))⟩, ⟨(some 14), none, (.ixa 1 (.v 12) (.v 13))⟩, ⟨(some 15), none, (.ld false 1 (.v 14))⟩, ⟨(some 16), none, (.bin .eql .none (.v 11) (.v 15))⟩]) (.cond (.v 16) (.seq (.reg false [] [⟨(some 17), none, (.mv (.v 5))⟩, ⟨(some 4), none, (.mv (.v 17))⟩]) .ret) .skip)))) (.reg false [] [⟨(some 18), none, (.bin .add .none (.v 8) (.k (.int .i64 1)))⟩, ⟨(some 8), none, (.mv (.v 18))⟩]))))
def ir104_b0 : C := ir104_d0
def ir104_l0 : C := .loop true [0, 1, 7, 8] ir104_b0
def ir104_c : C := (.seq (.reg false [] [⟨(some 4), none, (.mv (.k (.int .i64 0)))⟩]) (.seq (.seq (.reg false [] [⟨(some 6), none, (.mv (.v 0))⟩, ⟨(some 7), none, (.len 1 (.v 6))⟩, ⟨(some 8), none, (.mv (.k (.int .i64 0)))⟩]) (.block 0 ir104_l0)) (.seq (.reg false [] [⟨(some 4), none, (.mv (.k (.int .i64 (-1))))⟩]) .ret)))
def ir104 : Fn := ⟨.own, 2, 19, [(.tmp 4)], ir104_c⟩
def ir103_d0 : C := (.seq (.reg false [] [⟨(some 9), none, (.bin .lss .none (.v 8) (.v 7))⟩]) (.seq (.cond (.v 9) .skip (.exit 0)) (.seq (.block 1 (.seq (.reg false [] [⟨(some 10), none, (.mv (.v 8))⟩, ⟨(some 5), none, (.mv (.v 10))⟩]) (.seq (.reg false [] [⟨(some 11), none, (.mv (.v 1))⟩, ⟨(some 12), none, (.mv (.v 0))⟩, ⟨(some 13), none, (.mv (.v 5))⟩, ⟨(some 14), none, (.ixa 1 (.v 12) (.v 13))⟩, ⟨(some 15), none, (.ld false 1 (.v 14))⟩, ⟨(some 16), none, (.callv (.v 11) [(.v 15)])⟩]) (.cond (.v 16) (.seq (.reg false [] [⟨(some 17), none, (.mv (.v 5))⟩, ⟨(some 4), none, (.mv (.v 17))⟩]) .ret) .skip)))) (.reg false [] [⟨(some 18), none, (.bin .add .none (.v 8) (.k (.int .i64 1)))⟩, ⟨(some 8), none, (.mv (.v 18))⟩]))))
def ir103_b0 : C := ir103_d0
def ir103_l0 : C := .loop true [0, 1, 7, 8] ir103_b0
def ir103_c : C := (.seq (.reg false [] [⟨(some 4), none, (.mv (.k (.int .i64 0)))⟩]) (.seq (.seq (.reg false [] [⟨(some 6), none, (.mv (.v 0))⟩, ⟨(some 7), none, (.len 1 (.v 6))⟩, ⟨(some 8), none, (.mv (.k (.int .i64 0)))⟩]) (.block 0 ir103_l0)) (.seq (.reg false [] [⟨(some 4), none, (.mv (.k (.int .i64 (-1))))⟩]) .ret)))
def ir103 : Fn := ⟨.own, 2, 19, [(.tmp 4)], ir103_c⟩
def ir40_c : C := (.seq (.reg false [] [⟨(some 6), none, (.mv (.k (.bool false)))⟩]) (.seq (.reg false [] [⟨(some 7), none, (.mv (.v 0))⟩, ⟨(some 8), none, (.mv (.v 1))⟩, ⟨(some 9), none, (.bin .geq .none (.v 7) (.v 8))⟩, ⟨(some 10), none, (.mv (.v 9))⟩, ⟨(some 11), (some (10, true)), (.mv (.v 0))⟩, ⟨(some 12), (some (10, true)), (.mv (.v 2))⟩, ⟨(some 13), (some (10, true)), (.bin .leq .none (.v 11) (.v 12))⟩, ⟨(some 14), none, (.pick (.v 10) (.v 13) (.k (.bool false)))⟩, ⟨(some 6), none, (.mv (.v 14))⟩]) .ret))
def ir40 : Fn := ⟨.own, 3, 15, [(.tmp 6)], ir40_c⟩
def ir57_c : C := (.seq (.reg false [] [⟨(some 6), none, (.mv (.k (.bool false)))⟩]) (.seq (.reg false [] [⟨(some 7), none, (.mv (.v 1))⟩, ⟨(some 8), none, (.mv (.v 0))⟩, ⟨(some 9), none, (.bin .leq .none (.v 7) (.v 8))⟩, ⟨(some 10), none, (.mv (.v 9))⟩, ⟨(some 11), (some (10, true)), (.mv (.v 0))⟩, ⟨(some 12), (some (10, true)), (.mv (.v 2))⟩, ⟨(some 13), (some (10, true)), (.bin .leq .none (.v 11) (.v 12))⟩, ⟨(some 14), none, (.pick (.v 10) (.v 13) (.k (.bool false)))⟩, ⟨(some 6), none, (.mv (.v 14))⟩]) .ret))
def ir57 : Fn := ⟨.own, 3, 15, [(.tmp 6)], ir57_c⟩
def ir5_c : C := (.seq (.reg false [] [⟨(some 4), none, (.mv (.k (.bool false)))⟩]) (.seq (.reg false [] [⟨(some 5), none, (.mv (.v 0))⟩, ⟨(some 6), none, (.len 1 (.v 5))⟩, ⟨(some 7), none, (.bin .gtr .none (.v 6) (.k (.int .i64 1048576)))⟩, ⟨(some 8), none, (.mv (.v 7))⟩, ⟨(some 9), (some (8, false)), (.mv (.v 1))⟩, ⟨(some 10), (some (8, false)), (.len 1 (.v 9))⟩, ⟨(some 11), (some (8, false)), (.mv (.v 0))⟩, ⟨(some 12), (some (8, false)), (.len 1 (.v 11))⟩, ⟨(some 13), (some (8, false)), (.bin .sub .none (.k (.int .i64 1048576)) (.v 12))⟩, ⟨(some 14), (some (8, false)), (.bin .gtr .none (.v 10) (.v 13))⟩, ⟨(some 15), none, (.pick (.v 8) (.k (.bool true)) (.v 14))⟩, ⟨(some 4), none, (.mv (.v 15))⟩]) .ret))
def ir5 : Fn := ⟨.own, 2, 16, [(.tmp 4)], ir5_c⟩
def ir43_c : C := (.seq (.reg false [] [⟨(some 4), none, (.mv (.k (.int .i64 0)))⟩]) (.seq (.seq (.reg false [] [⟨(some 6), none, (.mv (.v 1))⟩, ⟨(some 7), none, (.bin .leq .none (.v 6) (.k (.int .i64 1)))⟩]) (.cond (.v 7) (.seq (.reg false [] [⟨(some 4), none, (.mv (.k (.int .i64 0)))⟩]) .ret) .skip)) (.seq (.reg false [] [⟨(some 8), none, (.mv (.v 0))⟩, ⟨(some 9), none, (.call 77 [(.v 8)])⟩, ⟨(some 5), none, (.mv (.v 9))⟩]) (.seq (.seq (.reg false [] [⟨(some 10), none, (.mv (.v 1))⟩, ⟨(some 11), none, (.bin .gtr .none (.v 10) (.k (.int .i64 200)))⟩]) (.cond (.v 11) (.reg false [] [⟨(some 12), none, (.mv (.v 5))⟩, ⟨(some 13), none, (.bin .mul .none (.v 12) (.k (.int .i64 256)))⟩, ⟨(some 14), none, (.mv (.v 0))⟩, ⟨(some 15), none, (.call 77 [(.v 14)])⟩, ⟨(some 16), none, (.bin .add .none (.v 13) (.v 15))⟩, ⟨(some 5), none, (.mv (.v 16))⟩]) .skip)) (.seq (.reg false [] [⟨(some 17), none, (.mv (.v 5))⟩, ⟨(some 18), none, (.mv (.v 1))⟩, ⟨(some 19), none, (.bin .rem .none (.v 17) (.v 18))⟩, ⟨(some 4), none, (.mv (.v 19))⟩]) .ret)))))
def ir43 : Fn := ⟨.ref, 2, 20, [(.tmp 4)], ir43_c⟩
def ir66_d0 : C := (.seq (.seq (.reg false [] [⟨(some 7), none, (.mv (.v 6))⟩, ⟨(some 8), none, (.mv (.v 1))⟩, ⟨(some 9), none, (.bin .lss .none (.v 7) (.v 8))⟩]) (.cond (.v 9) .skip (.exit 0))) (.seq (.block 1 (.seq (.reg false [] [⟨(some 12), none, (.mv (.v 0))⟩, ⟨(some 13), none, (.call 42 [(.v 12), (.k (.int .i64 3))])⟩]) (.cond (.v 13) (.reg false [] [⟨(some 14), none, (.mv (.v 5))⟩, ⟨(some 15), none, (.mv (.v 6))⟩, ⟨(some 16), none, (.bsl false 1 1 (.int .i64 0) [(0, (.v 15))])⟩, ⟨(some 17), none, (.app false 1 (.v 14) (.v 16))⟩, ⟨(some 5), none, (.mv (.v 17))⟩]) .skip))) (.reg false [] [⟨(some 10), none, (.mv (.v 6))⟩, ⟨(some 11), none, (.bin .add .none (.v 10) (.k (.int .i64 1)))⟩, ⟨(some 6), none, (.mv (.v 11))⟩])))
def ir66_b0 : C := ir66_d0
def ir66_l0 : C := .loop false [0, 1, 5, 6] ir66_b0
def ir66_c : C := (.seq (.reg false [] [⟨(some 4), none, (.mv (.k .nil))⟩]) (.seq (.reg false [] [⟨(some 5), none, (.mv (.k .nil))⟩]) (.seq (.seq (.reg false [] [⟨(some 6), none, (.mv (.k (.int .i64 0)))⟩]) (.block 0 ir66_l0)) (.seq (.seq (.reg false [] [⟨(some 18), none, (.mv (.v 0))⟩, ⟨(some 19), none, (.call 42 [(.v 18), (.k (.int .i64 14))])⟩]) (.cond (.v 19) (.reg false [] [⟨(some 20), none, (.mv (.v 5))⟩, ⟨(some 21), none, (.mv (.v 0))⟩, ⟨(some 22), none, (.mv (.v 1))⟩, ⟨(some 23), none, (.bsl false 1 4 (.int .i64 0) [(0, (.k (.int .i64 (-1)))), (1, (.k (.int .i64 0))), (2, (.v 22)), (3, (.k (.int .i64 4611686018427387904)))])⟩, ⟨(some 24), none, (.call 70 [(.v 21), (.v 23)])⟩, ⟨(some 25), none, (.bsl false 1 1 (.int .i64 0) [(0, (.v 24))])⟩, ⟨(some 26), none, (.app false 1 (.v 20) (.v 25))⟩, ⟨(some 5), none, (.mv (.v 26))⟩]) .skip)) (.seq (.reg false [] [⟨(some 27), none, (.mv (.v 5))⟩, ⟨(some 4), none, (.mv (.v 27))⟩]) .ret)))))
def ir66 : Fn := ⟨.ref, 2, 28, [(.tmp 4)], ir66_c⟩
def ir42_c : C := (.seq (.reg false [] [⟨(some 4), none, (.mv (.k (.bool false)))⟩]) (.seq (.reg false [] [⟨(some 5), none, (.mv (.v 0))⟩, ⟨(some 6), none, (.mv (.v 1))⟩, ⟨(some 7), none, (.call 43 [(.v 5), (.v 6)])⟩, ⟨(some 8), none, (.bin .eql .none (.v 7) (.k (.int .i64 0)))⟩, ⟨(some 4), none, (.mv (.v 8))⟩]) .ret))
def ir42 : Fn := ⟨.ref, 2, 9, [(.tmp 4)], ir42_c⟩
def ir77_c : C := (.seq (.reg false [] [⟨(some 2), none, (.mv (.k (.int .i64 0)))⟩]) (.seq (.reg false [] [⟨(some 3), none, (.mv (.k (.int .i64 0)))⟩]) (.seq (.seq (.reg true [0, 1, 3, 7, 0, 16, 48, 112, 240, 511] [⟨(some 4), none, (.mv (.v 0))⟩, ⟨(some 5), none, (.nck (.v 4))⟩, ⟨(some 6), none, (.fad 1 (.v 5))⟩, ⟨(some 7), none, (.ld false 1 (.v 6))⟩, ⟨(some 8), none, (.mv (.v 0))⟩, ⟨(some 9), none, (.nck (.v 8))⟩, ⟨(some 10), none, (.fad 0 (.v 9))⟩, ⟨(some 11), none, (.ld false 1 (.v 10))⟩, ⟨(some 12), none, (.len 1 (.v 11))⟩, ⟨(some 13), none, (.bin .lss .none (.v 7) (.v 12))⟩]) (.cond (.v 13) (.reg true [0, 1, 3, 7, 0, 16, 48, 112, 255, 511, 1023, 2047] [⟨(some 14), none, (.mv (.v 0))⟩, ⟨(some 15), none, (.nck (.v 14))⟩, ⟨(some 16), none, (.fad 0 (.v 15))⟩, ⟨(some 17), none, (.ld false 1 (.v 16))⟩, ⟨(some 18), none, (.mv (.v 0))⟩, ⟨(some 19), none, (.nck (.v 18))⟩, ⟨(some 20), none, (.fad 1 (.v 19))⟩, ⟨(some 21), none, (.ld false 1 (.v 20))⟩, ⟨(some 22), none, (.ixa 1 (.v 17) (.v 21))⟩, ⟨(some 23), none, (.ld false 1 (.v 22))⟩, ⟨(some 24), none, (.cnv (.int .i64) (.v 23))⟩, ⟨(some 3), none, (.mv (.v 24))⟩]) .skip)) (.seq (.reg false [] [⟨(some 25), none, (.mv (.v 0))⟩, ⟨(some 26), none, (.nck (.v 25))⟩, ⟨(some 27), none, (.fad 1 (.v 26))⟩, ⟨(some 28), none, (.ld false 1 (.v 27))⟩, ⟨(some 29), none, (.bin .add .none (.v 28) (.k (.int .i64 1)))⟩, ⟨(some 30), none, (.nck (.v 25))⟩, ⟨(some 31), none, (.fad 1 (.v 30))⟩, ⟨none, none, (.st 1 (.v 31) (.v 29))⟩]) (.seq (.reg false [] [⟨(some 32), none, (.mv (.v 0))⟩, ⟨(some 33), none, (.mv (.v 0))⟩, ⟨(some 34), none, (.nck (.v 33))⟩, ⟨(some 35), none, (.fad 2 (.v 34))⟩, ⟨(some 36), none, (.ld false 1 (.v 35))⟩, ⟨(some 37), none, (.bin .mul .none (.v 36) (.k (.int .u64 6364136223846793005)))⟩, ⟨(some 38), none, (.mv (.v 3))⟩, ⟨(some 39), none, (.cnv (.int .u64) (.v 38))⟩, ⟨(some 40), none, (.bin .add .none (.v 37) (.v 39))⟩, ⟨(some 41), none, (.bin .add .none (.v 40) (.k (.int .u64 1442695040888963407)))⟩, ⟨(some 42), none, (.nck (.v 32))⟩, ⟨(some 43), none, (.fad 2 (.v 42))⟩, ⟨none, none, (.st 1 (.v 43) (.v 41))⟩]) (.seq (.seq (.reg true [0, 1, 3, 7, 0, 16, 48, 112, 240, 511] [⟨(some 44), none, (.mv (.v 0))⟩, ⟨(some 45), none, (.nck (.v 44))⟩, ⟨(some 46), none, (.fad 1 (.v 45))⟩, ⟨(some 47), none, (.ld false 1 (.v 46))⟩, ⟨(some 48), none, (.mv (.v 0))⟩, ⟨(some 49), none, (.nck (.v 48))⟩, ⟨(some 50), none, (.fad 0 (.v 49))⟩, ⟨(some 51), none, (.ld false 1 (.v 50))⟩, ⟨(some 52), none, (.len 1 (.v 51))⟩, ⟨(some 53), none, (.bin .leq .none (.v 47) (.v 52))⟩]) (.cond (.v 53) (.seq (.reg false [] [⟨(some 54), none, (.mv (.v 3))⟩, ⟨(some 2), none, (.mv (.v 54))⟩]) .ret) .skip)) (.seq (.reg false [] [⟨(some 55), none, (.mv (.v 0))⟩, ⟨(some 56), none, (.nck (.v 55))⟩, ⟨(some 57), none, (.fad 2 (.v 56))⟩, ⟨(some 58), none, (.ld false 1 (.v 57))⟩, ⟨(some 59), none, (.bin .shr .none (.v 58) (.k (.int .u64 40)))⟩, ⟨(some 60), none, (.bin .and .none (.v 59) (.k (.int .u64 255)))⟩, ⟨(some 61), none, (.cnv (.int .i64) (.v 60))⟩, ⟨(some 2), none, (.mv (.v 61))⟩]) .ret)))))))
def ir77 : Fn := ⟨.ref, 1, 62, [(.tmp 2)], ir77_c⟩
def ir70_c : C := (.seq (.reg false [] [⟨(some 4), none, (.mv (.k (.int .i64 0)))⟩]) (.seq (.reg false [] [⟨(some 5), none, (.mv (.v 1))⟩, ⟨(some 6), none, (.mv (.v 0))⟩, ⟨(some 7), none, (.mv (.v 1))⟩, ⟨(some 8), none, (.len 1 (.v 7))⟩, ⟨(some 9), none, (.call 43 [(.v 6), (.v 8)])⟩, ⟨(some 10), none, (.ixa 1 (.v 5) (.v 9))⟩, ⟨(some 11), none, (.ld false 1 (.v 10))⟩, ⟨(some 4), none, (.mv (.v 11))⟩]) .ret))
def ir70 : Fn := ⟨.ref, 2, 12, [(.tmp 4)], ir70_c⟩
def ir27_d0 : C := (.seq (.seq (.reg false [] [⟨(some 6), none, (.mv (.v 5))⟩, ⟨(some 7), none, (.mv (.v 0))⟩, ⟨(some 8), none, (.len 1 (.v 7))⟩, ⟨(some 9), none, (.bin .lss .none (.v 6) (.v 8))⟩, ⟨(some 10), none, (.mv (.v 9))⟩, ⟨(some 11), (some (10, true)), (.mv (.v 5))⟩, ⟨(some 12), (some (10, true)), (.mv (.v 1))⟩, ⟨(some 13), (some (10, true)), (.len 1 (.v 12))⟩, ⟨(some 14), (some (10, true)), (.bin .lss .none (.v 11) (.v 13))⟩, ⟨(some 15), none, (.pick (.v 10) (.v 14) (.k (.bool false)))⟩]) (.cond (.v 15) .skip (.exit 0))) (.seq (.block 1 (.seq (.reg true [0, 0, 3, 7, 0, 0, 48, 112, 255] [⟨(some 18), none, (.mv (.v 0))⟩, ⟨(some 19), none, (.mv (.v 5))⟩, ⟨(some 20), none, (.ixa 1 (.v 18) (.v 19))⟩, ⟨(some 21), none, (.ld false 1 (.v 20))⟩, ⟨(some 22), none, (.mv (.v 1))⟩, ⟨(some 23), none, (.mv (.v 5))⟩, ⟨(some 24), none, (.ixa 1 (.v 22) (.v 23))⟩, ⟨(some 25), none, (.ld false 1 (.v 24))⟩, ⟨(some 26), none, (.bin .neq .none (.v 21) (.v 25))⟩]) (.cond (.v 26) (.seq (.reg true [0, 0, 3, 7, 0, 0, 48, 112, 255, 511] [⟨(some 27), none, (.mv (.v 0))⟩, ⟨(some 28), none, (.mv (.v 5))⟩, ⟨(some 29), none, (.ixa 1 (.v 27) (.v 28))⟩, ⟨(some 30), none, (.ld false 1 (.v 29))⟩, ⟨(some 31), none, (.mv (.v 1))⟩, ⟨(some 32), none, (.mv (.v 5))⟩, ⟨(some 33), none, (.ixa 1 (.v 31) (.v 32))⟩, ⟨(some 34), none, (.ld false 1 (.v 33))⟩, ⟨(some 35), none, (.bin .lss .none (.v 30) (.v 34))⟩, ⟨(some 4), none, (.mv (.v 35))⟩]) .ret) .skip))) (.reg false [] [⟨(some 16), none, (.mv (.v 5))⟩, ⟨(some 17), none, (.bin .add .none (.v 16) (.k (.int .i64 1)))⟩, ⟨(some 5), none, (.mv (.v 17))⟩])))
def ir27_b0 : C := ir27_d0
def ir27_l0 : C := .loop true [0, 1, 5] ir27_b0
def ir27_c : C := (.seq (.reg false [] [⟨(some 4), none, (.mv (.k (.bool false)))⟩]) (.seq (.seq (.reg false [] [⟨(some 5), none, (.mv (.k (.int .i64 0)))⟩]) (.block 0 ir27_l0)) (.seq (.reg false [] [⟨(some 36), none, (.mv (.v 0))⟩, ⟨(some 37), none, (.len 1 (.v 36))⟩, ⟨(some 38), none, (.mv (.v 1))⟩, ⟨(some 39), none, (.len 1 (.v 38))⟩, ⟨(some 40), none, (.bin .lss .none (.v 37) (.v 39))⟩, ⟨(some 4), none, (.mv (.v 40))⟩]) .ret)))
def ir27 : Fn := ⟨.own, 2, 41, [(.tmp 4)], ir27_c⟩
def ir32_d0 : C := (.seq (.reg false [] [⟨(some 14), none, (.bin .lss .none (.v 13) (.v 12))⟩]) (.seq (.cond (.v 14) .skip (.exit 0)) (.seq (.block 1 (.seq (.reg false [] [⟨(some 15), none, (.mv (.v 13))⟩, ⟨(some 5), none, (.mv (.v 15))⟩]) (.seq (.reg true [0, 0, 3, 7, 0, 0, 48, 112, 255] [⟨(some 16), none, (.mv (.v 0))⟩, ⟨(some 17), none, (.mv (.v 5))⟩, ⟨(some 18), none, (.ixa 1 (.v 16) (.v 17))⟩, ⟨(some 19), none, (.ld false 1 (.v 18))⟩, ⟨(some 20), none, (.mv (.v 1))⟩, ⟨(some 21), none, (.mv (.v 5))⟩, ⟨(some 22), none, (.ixa 1 (.v 20) (.v 21))⟩, ⟨(some 23), none, (.ld false 1 (.v 22))⟩, ⟨(some 24), none, (.bin .neq .none (.v 19) (.v 23))⟩]) (.cond (.v 24) (.seq (.reg false [] [⟨(some 4), none, (.mv (.k (.bool false)))⟩]) .ret) .skip)))) (.reg false [] [⟨(some 25), none, (.bin .add .none (.v 13) (.k (.int .i64 1)))⟩, ⟨(some 13), none, (.mv (.v 25))⟩]))))
def ir32_b0 : C := ir32_d0
def ir32_l0 : C := .loop true [0, 1, 12, 13] ir32_b0
def ir32_c : C := (.seq (.reg false [] [⟨(some 4), none, (.mv (.k (.bool false)))⟩]) (.seq (.seq (.reg false [] [⟨(some 6), none, (.mv (.v 0))⟩, ⟨(some 7), none, (.len 1 (.v 6))⟩, ⟨(some 8), none, (.mv (.v 1))⟩, ⟨(some 9), none, (.len 1 (.v 8))⟩, ⟨(some 10), none, (.bin .neq .none (.v 7) (.v 9))⟩]) (.cond (.v 10) (.seq (.reg false [] [⟨(some 4), none, (.mv (.k (.bool false)))⟩]) .ret) .skip)) (.seq (.seq (.reg false [] [⟨(some 11), none, (.mv (.v 0))⟩, ⟨(some 12), none, (.len 1 (.v 11))⟩, ⟨(some 13), none, (.mv (.k (.int .i64 0)))⟩]) (.block 0 ir32_l0)) (.seq (.reg false [] [⟨(some 4), none, (.mv (.k (.bool true)))⟩]) .ret))))
def ir32 : Fn := ⟨.own, 2, 26, [(.tmp 4)], ir32_c⟩
def ir61_c : C := (.seq (.reg false [] [⟨(some 6), none, (.box (.v 1))⟩, ⟨(some 7), none, (.box (.v 2))⟩, ⟨(some 10), none, (.mv (.k (.bool false)))⟩]) (.seq (.reg false [] [⟨(some 11), none, (.mv (.v 0))⟩, ⟨(some 12), none, (.len 1 (.v 11))⟩, ⟨(some 13), none, (.mv (.v 3))⟩, ⟨(some 14), none, (.mv (.v 4))⟩, ⟨(some 15), none, (.call 57 [(.v 12), (.v 13), (.v 14)])⟩, ⟨(some 16), none, (.mv (.v 15))⟩, ⟨(some 17), (some (16, true)), (.mv (.v 0))⟩, ⟨(some 18), (some (16, true)), (.mkf 91 [] [(.v 6), (.v 7)])⟩, ⟨(some 19), (some (16, true)), (.call 90 [(.v 17), (.v 18)])⟩, ⟨(some 20), (some (16, true)), (.un .not (.v 19))⟩, ⟨(some 21), none, (.pick (.v 16) (.v 20) (.k (.bool false)))⟩, ⟨(some 10), none, (.mv (.v 21))⟩]) .ret))
def ir61 : Fn := ⟨.own, 5, 22, [(.tmp 10)], ir61_c⟩
def ir62_d0 : C := (.seq (.seq (.reg false [] [⟨(some 4), none, (.mv (.v 3))⟩, ⟨(some 5), none, (.mv (.v 0))⟩, ⟨(some 6), none, (.len 1 (.v 5))⟩, ⟨(some 7), none, (.bin .lss .none (.v 4) (.v 6))⟩]) (.cond (.v 7) .skip (.exit 0))) (.seq (.block 1 (.seq (.reg true [0, 0, 3, 7, 0, 0, 32, 112, 240, 511] [⟨(some 10), none, (.mv (.v 0))⟩, ⟨(some 11), none, (.mv (.v 3))⟩, ⟨(some 12), none, (.ixa 1 (.v 10) (.v 11))⟩, ⟨(some 13), none, (.ld false 1 (.v 12))⟩, ⟨(some 14), none, (.mv (.v 0))⟩, ⟨(some 15), none, (.mv (.v 3))⟩, ⟨(some 16), none, (.bin .sub .none (.v 15) (.k (.int .i64 1)))⟩, ⟨(some 17), none, (.ixa 1 (.v 14) (.v 16))⟩, ⟨(some 18), none, (.ld false 1 (.v 17))⟩, ⟨(some 19), none, (.bin .leq .none (.v 13) (.v 18))⟩]) (.cond (.v 19) (.seq (.reg false [] [⟨(some 2), none, (.mv (.k (.bool false)))⟩]) .ret) .skip))) (.reg false [] [⟨(some 8), none, (.mv (.v 3))⟩, ⟨(some 9), none, (.bin .add .none (.v 8) (.k (.int .i64 1)))⟩, ⟨(some 3), none, (.mv (.v 9))⟩])))
def ir62_b0 : C := ir62_d0
def ir62_l0 : C := .loop true [0, 3] ir62_b0
def ir62_c : C := (.seq (.reg false [] [⟨(some 2), none, (.mv (.k (.bool false)))⟩]) (.seq (.seq (.reg false [] [⟨(some 3), none, (.mv (.k (.int .i64 1)))⟩]) (.block 0 ir62_l0)) (.seq (.reg false [] [⟨(some 2), none, (.mv (.k (.bool true)))⟩]) .ret)))
def ir62 : Fn := ⟨.own, 1, 20, [(.tmp 2)], ir62_c⟩
def ir91_c : C := (.seq (.reg false [] [⟨(some 4), none, (.mv (.k (.bool false)))⟩]) (.seq (.reg false [] [⟨(some 5), none, (.mv (.v 0))⟩, ⟨(some 6), none, (.ld false 1 (.v 1))⟩, ⟨(some 7), none, (.ld false 1 (.v 2))⟩, ⟨(some 8), none, (.call 57 [(.v 5), (.v 6), (.v 7)])⟩, ⟨(some 9), none, (.un .not (.v 8))⟩, ⟨(some 4), none, (.mv (.v 9))⟩]) .ret))
def ir91 : Fn := ⟨.own, 3, 10, [(.tmp 4)], ir91_c⟩
def ir11_d0 : C := (.seq (.reg false [] [⟨(some 14), none, (.bin .lss .none (.v 13) (.v 12))⟩]) (.seq (.cond (.v 14) .skip (.exit 0)) (.seq (.block 1 (.seq (.reg false [] [⟨(some 15), none, (.mv (.v 13))⟩, ⟨(some 5), none, (.mv (.v 15))⟩]) (.seq (.reg true [0, 0, 3, 7, 0, 0, 48, 112, 255, 511] [⟨(some 16), none, (.mv (.v 0))⟩, ⟨(some 17), none, (.mv (.v 5))⟩, ⟨(some 18), none, (.ixa 1 (.v 16) (.v 17))⟩, ⟨(some 19), none, (.ld false 1 (.v 18))⟩, ⟨(some 20), none, (.mv (.v 1))⟩, ⟨(some 21), none, (.mv (.v 5))⟩, ⟨(some 22), none, (.ixa 1 (.v 20) (.v 21))⟩, ⟨(some 23), none, (.ld false 1 (.v 22))⟩, ⟨(some 24), none, (.call 32 [(.v 19), (.v 23)])⟩, ⟨(some 25), none, (.un .not (.v 24))⟩]) (.cond (.v 25) (.seq (.reg false [] [⟨(some 4), none, (.mv (.k (.bool false)))⟩]) .ret) .skip)))) (.reg false [] [⟨(some 26), none, (.bin .add .none (.v 13) (.k (.int .i64 1)))⟩, ⟨(some 13), none, (.mv (.v 26))⟩]))))
def ir11_b0 : C := ir11_d0
def ir11_l0 : C := .loop true [0, 1, 12, 13] ir11_b0
def ir11_c : C := (.seq (.reg false [] [⟨(some 4), none, (.mv (.k (.bool false)))⟩]) (.seq (.seq (.reg false [] [⟨(some 6), none, (.mv (.v 0))⟩, ⟨(some 7), none, (.len 1 (.v 6))⟩, ⟨(some 8), none, (.mv (.v 1))⟩, ⟨(some 9), none, (.len 1 (.v 8))⟩, ⟨(some 10), none, (.bin .neq .none (.v 7) (.v 9))⟩]) (.cond (.v 10) (.seq (.reg false [] [⟨(some 4), none, (.mv (.k (.bool false)))⟩]) .ret) .skip)) (.seq (.seq (.reg false [] [⟨(some 11), none, (.mv (.v 0))⟩, ⟨(some 12), none, (.len 1 (.v 11))⟩, ⟨(some 13), none, (.mv (.k (.int .i64 0)))⟩]) (.block 0 ir11_l0)) (.seq (.reg false [] [⟨(some 4), none, (.mv (.k (.bool true)))⟩]) .ret))))
def ir11 : Fn := ⟨.own, 2, 27, [(.tmp 4)], ir11_c⟩
def ir4_d0 : C := (.seq (.reg false [] [⟨(some 320), none, (.bin .lss .none (.v 319) (.v 318))⟩]) (.seq (.cond (.v 320) .skip (.exit 6)) (.seq (.block 7 (.seq (.reg false [] [⟨(some 321), none, (.ixa 1 (.v 317) (.v 319))⟩, ⟨(some 322), none, (.ld false 1 (.v 321))⟩, ⟨(some 47), none, (.mv (.v 322))⟩]) (.reg false [] [⟨(some 323), none, (.mv (.v 43))⟩, ⟨(some 324), none, (.mv (.v 323))⟩, ⟨(some 325), (some (324, true)), (.mv (.v 47))⟩, ⟨(some 326), (some (324, true)), (.bin .rem .none (.v 325) (.k (.int .i64 2)))⟩, ⟨(some 327), (some (324, true)), (.bin .eql .none (.v 326) (.k (.int .i64 1)))⟩, ⟨(some 328), none, (.pick (.v 324) (.v 327) (.k (.bool false)))⟩, ⟨(some 43), none, (.mv (.v 328))⟩]))) (.reg false [] [⟨(some 329), none, (.bin .add .none (.v 319) (.k (.int .i64 1)))⟩, ⟨(some 319), none, (.mv (.v 329))⟩]))))
def ir4_b0 : C := ir4_d0
def ir4_l0 : C := .loop true [33, 34, 43, 302, 303, 304, 317, 318, 319] ir4_b0
def ir4_d1 : C := (.seq (.reg false [] [⟨(some 305), none, (.bin .lss .none (.v 304) (.v 303))⟩]) (.seq (.cond (.v 305) .skip (.exit 4)) (.seq (.block 5 (.seq (.reg false [] [⟨(some 306), none, (.ixa 1 (.v 302) (.v 304))⟩, ⟨(some 307), none, (.ld false 1 (.v 306))⟩, ⟨(some 45), none, (.mv (.v 307))⟩]) (.seq (.seq (.reg false [] [⟨(some 308), none, (.mv (.v 45))⟩, ⟨(some 309), none, (.bin .rem .none (.v 308) (.k (.int .i64 2)))⟩, ⟨(some 310), none, (.bin .eql .none (.v 309) (.k (.int .i64 0)))⟩, ⟨(some 311), none, (.mv (.v 310))⟩, ⟨(some 312), (some (311, false)), (.mv (.v 33))⟩, ⟨(some 313), (some (311, false)), (.mv (.v 45))⟩, ⟨(some 314), (some (311, false)), (.bin .sub .none (.v 313) (.k (.int .i64 1)))⟩, ⟨(some 315), (some (311, false)), (.call 33 [(.v 312), (.v 314)])⟩, ⟨(some 316), none, (.pick (.v 311) (.k (.bool true)) (.v 315))⟩]) (.cond (.v 316) (.exit 5) .skip)) (.seq (.reg false [] [⟨(some 317), none, (.mv (.v 33))⟩, ⟨(some 318), none, (.len 1 (.v 317))⟩, ⟨(some 319), none, (.mv (.k (.int .i64 0)))⟩]) (.block 6 ir4_l0))))) (.reg false [] [⟨(some 330), none, (.bin .add .none (.v 304) (.k (.int .i64 1)))⟩, ⟨(some 304), none, (.mv (.v 330))⟩]))))
def ir4_b1 : C := ir4_d1
def ir4_l1 : C := .loop true [33, 34, 43, 302, 303, 304] ir4_b1
def ir4_d2 : C := (.seq (.reg false [] [⟨(some 278), none, (.bin .lss .none (.v 277) (.v 276))⟩]) (.seq (.cond (.v 278) .skip (.exit 2)) (.seq (.block 3 (.seq (.reg false [] [⟨(some 279), none, (.ixa 1 (.v 275) (.v 277))⟩, ⟨(some 280), none, (.ld false 1 (.v 279))⟩, ⟨(some 42), none, (.mv (.v 280))⟩]) (.reg false [] [⟨(some 281), none, (.mv (.v 40))⟩, ⟨(some 282), none, (.mv (.v 281))⟩, ⟨(some 283), (some (282, false)), (.mv (.v 42))⟩, ⟨(some 284), (some (282, false)), (.mv (.v 27))⟩, ⟨(some 285), (some (282, false)), (.call 32 [(.v 283), (.v 284)])⟩, ⟨(some 286), none, (.pick (.v 282) (.k (.bool true)) (.v 285))⟩, ⟨(some 40), none, (.mv (.v 286))⟩]))) (.reg false [] [⟨(some 287), none, (.bin .add .none (.v 277) (.k (.int .i64 1)))⟩, ⟨(some 277), none, (.mv (.v 287))⟩]))))
def ir4_b2 : C := ir4_d2
def ir4_l2 : C := .loop true [26, 27, 28, 33, 34, 35, 39, 40, 275, 276, 277] ir4_b2
def ir4_d3 : C := (.seq (.reg false [] [⟨(some 126), none, (.bin .lss .none (.v 125) (.v 124))⟩]) (.seq (.cond (.v 126) .skip (.exit 0)) (.seq (.block 1 (.seq (.reg false [] [⟨(some 127), none, (.mv (.v 125))⟩, ⟨(some 128), none, (.ixa 1 (.v 123) (.v 125))⟩, ⟨(some 129), none, (.ld false 1 (.v 128))⟩, ⟨(some 15), none, (.mv (.v 127))⟩, ⟨(some 16), none, (.mv (.v 129))⟩]) (.seq (.reg false [] [⟨(some 131), none, (.ld true 2 (.v 5))⟩, ⟨(some 132), none, (.ld true 2 (.v 6))⟩, ⟨(some 133), none, (.mv (.v 16))⟩, ⟨(some 134), none, (.call 24 [(.v 131), (.v 132), (.v 133)])⟩, ⟨(some 130), none, (.mv (.v 134))⟩, ⟨(some 135), none, (.ext (.v 130) 0)⟩, ⟨(some 136), none, (.ext (.v 130) 1)⟩, ⟨(some 17), none, (.alc 2 [.nil, (.bool false)])⟩, ⟨none, none, (.st 2 (.v 17) (.v 135))⟩, ⟨(some 18), none, (.mv (.v 136))⟩]) (.seq (.reg false [] [⟨(some 138), none, (.ld true 2 (.v 5))⟩, ⟨(some 139), none, (.ld true 2 (.v 17))⟩, ⟨(some 140), none, (.call 20 [(.v 138), (.v 139)])⟩, ⟨(some 137), none, (.mv (.v 140))⟩, ⟨(some 141), none, (.ext (.v 137) 0)⟩, ⟨(some 142), none, (.ext (.v 137) 1)⟩, ⟨(some 19), none, (.mv (.v 141))⟩, ⟨(some 20), none, (.mv (.v 142))⟩]) (.seq (.reg false [] [⟨(some 144), none, (.fad 0 (.v 5))⟩, ⟨(some 145), none, (.ld false 1 (.v 144))⟩, ⟨(some 146), none, (.mv (.v 16))⟩, ⟨(some 147), none, (.call 25 [(.v 145), (.v 146)])⟩, ⟨(some 143), none, (.mv (.v 147))⟩, ⟨(some 148), none, (.ext (.v 143) 0)⟩, ⟨(some 149), none, (.ext (.v 143) 1)⟩, ⟨(some 21), none, (.mv (.v 148))⟩, ⟨(some 22), none, (.mv (.v 149))⟩]) (.seq (.reg false [] [⟨(some 151), none, (.ld true 2 (.v 5))⟩, ⟨(some 152), none, (.ld true 2 (.v 17))⟩, ⟨(some 153), none, (.mv (.v 16))⟩, ⟨(some 154), none, (.call 24 [(.v 151), (.v 152), (.v 153)])⟩, ⟨(some 150), none, (.mv (.v 154))⟩, ⟨(some 155), none, (.ext (.v 150) 0)⟩, ⟨(some 156), none, (.ext (.v 150) 1)⟩, ⟨(some 23), none, (.alc 2 [.nil, (.bool false)])⟩, ⟨none, none, (.st 2 (.v 23) (.v 155))⟩, ⟨(some 24), none, (.mv (.v 156))⟩]) (.seq (.reg false [] [⟨(some 157), none, (.mv (.v 18))⟩, ⟨(some 158), none, (.un .not (.v 157))⟩, ⟨(some 159), none, (.mv (.v 158))⟩, ⟨(some 160), (some (159, false)), (.mv (.v 20))⟩, ⟨(some 161), (some (159, false)), (.un .not (.v 160))⟩, ⟨(some 162), none, (.pick (.v 159) (.k (.bool true)) (.v 161))⟩, ⟨(some 163), none, (.mv (.v 162))⟩, ⟨(some 164), (some (163, false)), (.mv (.v 19))⟩, ⟨(some 165), (some (163, false)), (.un .not (.v 164))⟩, ⟨(some 166), none, (.pick (.v 163) (.k (.bool true)) (.v 165))⟩, ⟨(some 167), none, (.mv (.v 166))⟩, ⟨(some 168), (some (167, false)), (.mv (.v 22))⟩, ⟨(some 169), (some (167, false)), (.un .not (.v 168))⟩, ⟨(some 170), none, (.pick (.v 167) (.k (.bool true)) (.v 169))⟩, ⟨(some 171), none, (.mv (.v 170))⟩, ⟨(some 172), (some (171, false)), (.mv (.v 21))⟩, ⟨(some 173), (some (171, false)), (.un .not (.v 172))⟩, ⟨(some 174), none, (.pick (.v 171) (.k (.bool true)) (.v 173))⟩, ⟨(some 175), none, (.mv (.v 174))⟩, ⟨(some 176), (some (175, false)), (.mv (.v 24))⟩, ⟨(some 177), (some (175, false)), (.un .not (.v 176))⟩, ⟨(some 178), none, (.pick (.v 175) (.k (.bool true)) (.v 177))⟩, ⟨(some 179), none, (.mv (.v 178))⟩, ⟨(some 180), (some (179, false)), (.ld true 2 (.v 23))⟩, ⟨(some 181), (some (179, false)), (.ld true 2 (.v 6))⟩, ⟨(some 182), (some (179, false)), (.call 26 [(.v 180), (.v 181)])⟩, ⟨(some 183), (some (179, false)), (.un .not (.v 182))⟩, ⟨(some 184), none, (.pick (.v 179) (.k (.bool true)) (.v 183))⟩, ⟨(some 185), none, (.mv (.v 184))⟩, ⟨(some 186), (some (185, false)), (.mv (.v 16))⟩, ⟨(some 187), (some (185, false)), (.len 1 (.v 186))⟩, ⟨(some 188), (some (185, false)), (.bin .lss .none (.v 187) (.k (.int .i64 1)))⟩, ⟨(some 189), none, (.pick (.v 185) (.k (.bool true)) (.v 188))⟩, ⟨(some 190), none, (.mv (.v 189))⟩, ⟨(some 191), (some (190, false)), (.mv (.v 16))⟩, ⟨(some 192), (some (190, false)), (.len 1 (.v 191))⟩, ⟨(some 193), (some (190, false)), (.fad 1 (.v 5))⟩, ⟨(some 194), (some (190, false)), (.ld false 1 (.v 193))⟩, ⟨(some 195), (some (190, false)), (.bin .gtr .none (.v 192) (.v 194))⟩, ⟨(some 196), none, (.pick (.v 190) (.k (.bool true)) (.v 195))⟩, ⟨(some 197), none, (.mv (.v 196))⟩, ⟨(some 198), (some (197, false)), (.mv (.v 15))⟩, ⟨(some 199), (some (197, false)), (.bin .gtr .none (.v 198) (.k (.int .i64 0)))⟩, ⟨(some 200), (some (197, false)), (.mv (.v 199))⟩, ⟨(some 201), (some (200, true)), (.mv (.v 7))⟩, ⟨(some 202), (some (200, true)), (.mv (.v 15))⟩, ⟨(some 203), (some (200, true)), (.bin .sub .none (.v 202) (.k (.int .i64 1)))⟩, ⟨(some 204), (some (200, true)), (.ixa 1 (.v 201) (.v 203))⟩, ⟨(some 205), (some (200, true)), (.ld false 1 (.v 204))⟩, ⟨(some 206), (some (200, true)), (.mv (.v 16))⟩, ⟨(some 207), (some (200, true)), (.call 27 [(.v 205), (.v 206)])⟩, ⟨(some 208), (some (200, true)), (.un .not (.v 207))⟩, ⟨(some 209), (some (197, false)), (.pick (.v 200) (.v 208) (.k (.bool false)))⟩, ⟨(some 210), none, (.pick (.v 197) (.k (.bool true)) (.v 209))⟩]) (.cond (.v 210) (.seq (.reg false [] [⟨(some 4), none, (.mv (.k (.bool false)))⟩]) .ret) .skip)))))))) (.reg false [] [⟨(some 211), none, (.bin .add .none (.v 125) (.k (.int .i64 1)))⟩, ⟨(some 125), none, (.mv (.v 211))⟩]))))
def ir4_b3 : C := ir4_d3
def ir4_l3 : C := .loop true [1, 5, 6, 7, 123, 124, 125] ir4_b3
def ir4_c : C := (.seq (.reg false [] [⟨(some 4), none, (.mv (.k (.bool false)))⟩]) (.seq (.seq (.reg false [] [⟨(some 48), none, (.mv (.v 0))⟩, ⟨(some 49), none, (.mv (.v 1))⟩, ⟨(some 50), none, (.call 5 [(.v 48), (.v 49)])⟩]) (.cond (.v 50) (.seq (.reg false [] [⟨(some 4), none, (.mv (.k (.bool true)))⟩]) .ret) .skip)) (.seq (.reg false [] [⟨(some 52), none, (.mv (.v 0))⟩, ⟨(some 53), none, (.call 17 [(.v 52)])⟩, ⟨(some 51), none, (.mv (.v 53))⟩, ⟨(some 54), none, (.ext (.v 51) 0)⟩, ⟨(some 55), none, (.ext (.v 51) 1)⟩, ⟨(some 5), none, (.alc 2 [(.int .i64 0), (.int .i64 0)])⟩, ⟨(some 6), none, (.alc 2 [.nil, (.bool false)])⟩, ⟨none, none, (.st 2 (.v 5) (.v 54))⟩, ⟨none, none, (.st 2 (.v 6) (.v 55))⟩]) (.seq (.reg false [] [⟨(some 57), none, (.ld true 2 (.v 5))⟩, ⟨(some 58), none, (.ld true 2 (.v 6))⟩, ⟨(some 59), none, (.call 18 [(.v 57), (.v 58)])⟩, ⟨(some 56), none, (.mv (.v 59))⟩, ⟨(some 60), none, (.ext (.v 56) 0)⟩, ⟨(some 61), none, (.ext (.v 56) 1)⟩, ⟨(some 7), none, (.mv (.v 60))⟩, ⟨(some 8), none, (.mv (.v 61))⟩]) (.seq (.reg false [] [⟨(some 63), none, (.ld true 2 (.v 5))⟩, ⟨(some 64), none, (.ld true 2 (.v 6))⟩, ⟨(some 65), none, (.call 19 [(.v 63), (.v 64)])⟩, ⟨(some 62), none, (.mv (.v 65))⟩, ⟨(some 66), none, (.ext (.v 62) 0)⟩, ⟨(some 67), none, (.ext (.v 62) 1)⟩, ⟨(some 9), none, (.mv (.v 66))⟩, ⟨(some 10), none, (.mv (.v 67))⟩]) (.seq (.reg false [] [⟨(some 69), none, (.ld true 2 (.v 5))⟩, ⟨(some 70), none, (.ld true 2 (.v 6))⟩, ⟨(some 71), none, (.call 20 [(.v 69), (.v 70)])⟩, ⟨(some 68), none, (.mv (.v 71))⟩, ⟨(some 72), none, (.ext (.v 68) 0)⟩, ⟨(some 73), none, (.ext (.v 68) 1)⟩, ⟨(some 11), none, (.mv (.v 72))⟩, ⟨(some 12), none, (.mv (.v 73))⟩]) (.seq (.reg false [] [⟨(some 75), none, (.ld true 2 (.v 5))⟩, ⟨(some 76), none, (.ld true 2 (.v 6))⟩, ⟨(some 77), none, (.call 21 [(.v 75), (.v 76)])⟩, ⟨(some 74), none, (.mv (.v 77))⟩, ⟨(some 78), none, (.ext (.v 74) 0)⟩, ⟨(some 79), none, (.ext (.v 74) 1)⟩, ⟨(some 13), none, (.mv (.v 78))⟩, ⟨(some 14), none, (.mv (.v 79))⟩]) (.seq (.seq (.reg true [0, 0, 3, 7, 15, 15, 63, 127, 255, 511, 1023, 1023, 4095, 8191, 16383, 32767, 32767, 131071, 262143, 524287, 1048575, 1048575, 3145727, 7340031, 15728639, 33554431, 67108863, 134217727, 268435455, 536870911, 1073741823, 2147483647, 4294967295, 8589934591, 17179869183, 34359738367, 68719476735, 137438953471, 68719476735, 549755813887, 1099511627775, 2199023255551] [⟨(some 80), none, (.mv (.v 8))⟩, ⟨(some 81), none, (.mv (.v 10))⟩, ⟨(some 82), none, (.bin .neq .bool (.v 80) (.v 81))⟩, ⟨(some 83), none, (.mv (.v 82))⟩, ⟨(some 84), (some (83, false)), (.mv (.v 7))⟩, ⟨(some 85), (some (83, false)), (.mv (.v 9))⟩, ⟨(some 86), (some (83, false)), (.call 11 [(.v 84), (.v 85)])⟩, ⟨(some 87), (some (83, false)), (.un .not (.v 86))⟩, ⟨(some 88), none, (.pick (.v 83) (.k (.bool true)) (.v 87))⟩, ⟨(some 89), none, (.mv (.v 88))⟩, ⟨(some 90), (some (89, false)), (.mv (.v 12))⟩, ⟨(some 91), (some (89, false)), (.mv (.v 14))⟩, ⟨(some 92), (some (89, false)), (.bin .neq .bool (.v 90) (.v 91))⟩, ⟨(some 93), none, (.pick (.v 89) (.k (.bool true)) (.v 92))⟩, ⟨(some 94), none, (.mv (.v 93))⟩, ⟨(some 95), (some (94, false)), (.mv (.v 11))⟩, ⟨(some 96), (some (94, false)), (.mv (.v 13))⟩, ⟨(some 97), (some (94, false)), (.bin .neq .bool (.v 95) (.v 96))⟩, ⟨(some 98), none, (.pick (.v 94) (.k (.bool true)) (.v 97))⟩, ⟨(some 99), none, (.mv (.v 98))⟩, ⟨(some 100), (some (99, false)), (.mv (.v 8))⟩, ⟨(some 101), (some (99, false)), (.mv (.v 12))⟩, ⟨(some 102), (some (99, false)), (.mv (.v 101))⟩, ⟨(some 103), (some (102, true)), (.mv (.v 11))⟩, ⟨(some 104), (some (99, false)), (.pick (.v 102) (.v 103) (.k (.bool false)))⟩, ⟨(some 105), (some (99, false)), (.bin .neq .bool (.v 100) (.v 104))⟩, ⟨(some 106), none, (.pick (.v 99) (.k (.bool true)) (.v 105))⟩, ⟨(some 107), none, (.mv (.v 106))⟩, ⟨(some 108), (some (107, false)), (.mv (.v 12))⟩, ⟨(some 109), (some (107, false)), (.mv (.v 108))⟩, ⟨(some 110), (some (109, true)), (.ld true 2 (.v 5))⟩, ⟨(some 111), (some (109, true)), (.call 22 [(.v 110)])⟩, ⟨(some 112), (some (109, true)), (.un .not (.v 111))⟩, ⟨(some 113), (some (107, false)), (.pick (.v 109) (.v 112) (.k (.bool false)))⟩, ⟨(some 114), none, (.pick (.v 107) (.k (.bool true)) (.v 113))⟩, ⟨(some 115), none, (.mv (.v 114))⟩, ⟨(some 116), (some (115, false)), (.ld true 2 (.v 5))⟩, ⟨(some 117), (some (115, false)), (.call 22 [(.v 116)])⟩, ⟨(some 118), (some (115, false)), (.ld true 2 (.v 5))⟩, ⟨(some 119), (some (115, false)), (.call 23 [(.v 118)])⟩, ⟨(some 120), (some (115, false)), (.bin .neq .bool (.v 117) (.v 119))⟩, ⟨(some 121), none, (.pick (.v 115) (.k (.bool true)) (.v 120))⟩]) (.cond (.v 121) (.seq (.reg false [] [⟨(some 4), none, (.mv (.k (.bool false)))⟩]) .ret) .skip)) (.seq (.seq (.reg false [] [⟨(some 122), none, (.mv (.v 8))⟩]) (.cond (.v 122) (.seq (.reg false [] [⟨(some 123), none, (.mv (.v 7))⟩, ⟨(some 124), none, (.len 1 (.v 123))⟩, ⟨(some 125), none, (.mv (.k (.int .i64 0)))⟩]) (.block 0 ir4_l3)) .skip)) (.seq (.reg false [] [⟨(some 213), none, (.mv (.v 1))⟩, ⟨(some 214), none, (.call 28 [(.v 213)])⟩, ⟨(some 212), none, (.mv (.v 214))⟩, ⟨(some 215), none, (.ext (.v 212) 0)⟩, ⟨(some 216), none, (.ext (.v 212) 1)⟩, ⟨(some 217), none, (.ext (.v 212) 2)⟩, ⟨(some 25), none, (.alc 2 [(.int .i64 0), (.int .i64 0)])⟩, ⟨(some 26), none, (.alc 2 [.nil, (.bool false)])⟩, ⟨none, none, (.st 2 (.v 25) (.v 215))⟩, ⟨none, none, (.st 2 (.v 26) (.v 216))⟩, ⟨(some 27), none, (.mv (.v 217))⟩]) (.seq (.reg false [] [⟨(some 219), none, (.ld true 2 (.v 25))⟩, ⟨(some 220), none, (.ld true 2 (.v 26))⟩, ⟨(some 221), none, (.mv (.v 27))⟩, ⟨(some 222), none, (.call 24 [(.v 219), (.v 220), (.v 221)])⟩, ⟨(some 218), none, (.mv (.v 222))⟩, ⟨(some 223), none, (.ext (.v 218) 0)⟩, ⟨(some 224), none, (.ext (.v 218) 1)⟩, ⟨(some 28), none, (.alc 2 [.nil, (.bool false)])⟩, ⟨none, none, (.st 2 (.v 28) (.v 223))⟩, ⟨(some 29), none, (.mv (.v 224))⟩]) (.seq (.reg false [] [⟨(some 226), none, (.ld true 2 (.v 25))⟩, ⟨(some 227), none, (.ld true 2 (.v 26))⟩, ⟨(some 228), none, (.mv (.v 27))⟩, ⟨(some 229), none, (.call 29 [(.v 226), (.v 227), (.v 228)])⟩, ⟨(some 225), none, (.mv (.v 229))⟩, ⟨(some 230), none, (.ext (.v 225) 0)⟩, ⟨(some 231), none, (.ext (.v 225) 1)⟩, ⟨(some 30), none, (.alc 2 [.nil, (.bool false)])⟩, ⟨none, none, (.st 2 (.v 30) (.v 230))⟩, ⟨(some 31), none, (.mv (.v 231))⟩]) (.seq (.reg false [] [⟨(some 233), none, (.mv (.v 1))⟩, ⟨(some 234), none, (.call 30 [(.v 233)])⟩, ⟨(some 232), none, (.mv (.v 234))⟩, ⟨(some 235), none, (.ext (.v 232) 0)⟩, ⟨(some 236), none, (.ext (.v 232) 1)⟩, ⟨(some 32), none, (.mv (.v 235))⟩, ⟨(some 33), none, (.mv (.v 236))⟩]) (.seq (.reg false [] [⟨(some 238), none, (.mv (.v 32))⟩, ⟨(some 239), none, (.mv (.v 33))⟩, ⟨(some 240), none, (.call 25 [(.v 238), (.v 239)])⟩, ⟨(some 237), none, (.mv (.v 240))⟩, ⟨(some 241), none, (.ext (.v 237) 0)⟩, ⟨(some 242), none, (.ext (.v 237) 1)⟩, ⟨(some 34), none, (.mv (.v 241))⟩, ⟨(some 35), none, (.mv (.v 242))⟩]) (.seq (.reg false [] [⟨(some 244), none, (.mv (.v 32))⟩, ⟨(some 245), none, (.mv (.v 33))⟩, ⟨(some 246), none, (.call 31 [(.v 244), (.v 245)])⟩, ⟨(some 243), none, (.mv (.v 246))⟩, ⟨(some 247), none, (.ext (.v 243) 0)⟩, ⟨(some 248), none, (.ext (.v 243) 1)⟩, ⟨(some 36), none, (.mv (.v 247))⟩, ⟨(some 37), none, (.mv (.v 248))⟩]) (.seq (.seq (.reg false [] [⟨(some 249), none, (.mv (.v 29))⟩, ⟨(some 250), none, (.mv (.v 31))⟩, ⟨(some 251), none, (.bin .neq .bool (.v 249) (.v 250))⟩, ⟨(some 252), none, (.mv (.v 251))⟩, ⟨(some 253), (some (252, false)), (.ld true 2 (.v 28))⟩, ⟨(some 254), (some (252, false)), (.ld true 2 (.v 30))⟩, ⟨(some 255), (some (252, false)), (.call 26 [(.v 253), (.v 254)])⟩, ⟨(some 256), (some (252, false)), (.un .not (.v 255))⟩, ⟨(some 257), none, (.pick (.v 252) (.k (.bool true)) (.v 256))⟩, ⟨(some 258), none, (.mv (.v 257))⟩, ⟨(some 259), (some (258, false)), (.mv (.v 35))⟩, ⟨(some 260), (some (258, false)), (.mv (.v 37))⟩, ⟨(some 261), (some (258, false)), (.bin .neq .bool (.v 259) (.v 260))⟩, ⟨(some 262), none, (.pick (.v 258) (.k (.bool true)) (.v 261))⟩, ⟨(some 263), none, (.mv (.v 262))⟩, ⟨(some 264), (some (263, false)), (.mv (.v 34))⟩, ⟨(some 265), (some (263, false)), (.mv (.v 36))⟩, ⟨(some 266), (some (263, false)), (.bin .neq .bool (.v 264) (.v 265))⟩, ⟨(some 267), none, (.pick (.v 263) (.k (.bool true)) (.v 266))⟩]) (.cond (.v 267) (.seq (.reg false [] [⟨(some 4), none, (.mv (.k (.bool false)))⟩]) .ret) .skip)) (.seq (.seq (.reg false [] [⟨(some 268), none, (.mv (.v 29))⟩]) (.cond (.v 268) (.seq (.reg false [] [⟨(some 270), none, (.ld true 2 (.v 25))⟩, ⟨(some 271), none, (.ld true 2 (.v 26))⟩, ⟨(some 272), none, (.call 18 [(.v 270), (.v 271)])⟩, ⟨(some 269), none, (.mv (.v 272))⟩, ⟨(some 273), none, (.ext (.v 269) 0)⟩, ⟨(some 274), none, (.ext (.v 269) 1)⟩, ⟨(some 38), none, (.mv (.v 273))⟩, ⟨(some 39), none, (.mv (.v 274))⟩]) (.seq (.reg false [] [⟨(some 40), none, (.mv (.k (.bool false)))⟩]) (.seq (.seq (.reg false [] [⟨(some 275), none, (.mv (.v 38))⟩, ⟨(some 276), none, (.len 1 (.v 275))⟩, ⟨(some 277), none, (.mv (.k (.int .i64 0)))⟩]) (.block 2 ir4_l2)) (.seq (.reg false [] [⟨(some 288), none, (.mv (.v 39))⟩, ⟨(some 289), none, (.un .not (.v 288))⟩, ⟨(some 290), none, (.mv (.v 289))⟩, ⟨(some 291), (some (290, false)), (.mv (.v 40))⟩, ⟨(some 292), (some (290, false)), (.un .not (.v 291))⟩, ⟨(some 293), none, (.pick (.v 290) (.k (.bool true)) (.v 292))⟩, ⟨(some 294), none, (.mv (.v 293))⟩, ⟨(some 295), (some (294, false)), (.fad 1 (.v 28))⟩, ⟨(some 296), (some (294, false)), (.ld false 1 (.v 295))⟩, ⟨(some 297), (some (294, false)), (.fad 1 (.v 26))⟩, ⟨(some 298), (some (294, false)), (.ld false 1 (.v 297))⟩, ⟨(some 299), (some (294, false)), (.bin .eql .bool (.v 296) (.v 298))⟩, ⟨(some 300), none, (.pick (.v 294) (.k (.bool true)) (.v 299))⟩]) (.cond (.v 300) (.seq (.reg false [] [⟨(some 4), none, (.mv (.k (.bool false)))⟩]) .ret) .skip))))) .skip)) (.seq (.seq (.reg false [] [⟨(some 301), none, (.mv (.v 35))⟩]) (.cond (.v 301) (.seq (.reg false [] [⟨(some 43), none, (.mv (.k (.bool true)))⟩]) (.seq (.seq (.reg false [] [⟨(some 302), none, (.mv (.v 33))⟩, ⟨(some 303), none, (.len 1 (.v 302))⟩, ⟨(some 304), none, (.mv (.k (.int .i64 0)))⟩]) (.block 4 ir4_l1)) (.seq (.reg false [] [⟨(some 331), none, (.mv (.v 43))⟩, ⟨(some 332), none, (.mv (.v 34))⟩, ⟨(some 333), none, (.bin .eql .bool (.v 331) (.v 332))⟩, ⟨(some 4), none, (.mv (.v 333))⟩]) .ret))) .skip)) (.seq (.reg false [] [⟨(some 4), none, (.mv (.k (.bool true)))⟩]) .ret)))))))))))))))))))
def ir4 : Fn := ⟨.own, 2, 334, [(.tmp 4)], ir4_c⟩
def ir17_c : C := (.seq (.reg false [] [⟨(some 2), none, (.alc 2 [(.int .i64 0), (.int .i64 0)])⟩, ⟨(some 3), none, (.alc 2 [.nil, (.bool false)])⟩]) (.seq (.reg false [] [⟨(some 4), none, (.mv (.v 0))⟩, ⟨(some 5), none, (.call 48 [(.v 4)])⟩, ⟨(some 6), none, (.ext (.v 5) 0)⟩, ⟨(some 7), none, (.ext (.v 5) 1)⟩, ⟨none, none, (.st 2 (.v 2) (.v 6))⟩, ⟨none, none, (.st 2 (.v 3) (.v 7))⟩]) .ret))
def ir17 : Fn := ⟨.ownF, 1, 8, [(.cell 2 true 2), (.cell 3 true 2)], ir17_c⟩
def ir18_c : C := (.seq (.reg false [] [⟨(some 2), none, (.box (.v 0))⟩, ⟨(some 3), none, (.box (.v 1))⟩, ⟨(some 4), none, (.mv (.k .nil))⟩, ⟨(some 5), none, (.mv (.k (.bool false)))⟩]) (.seq (.seq (.reg false [] [⟨(some 6), none, (.ld true 2 (.v 2))⟩, ⟨(some 7), none, (.ld true 2 (.v 3))⟩, ⟨(some 8), none, (.call 49 [(.v 6), (.v 7)])⟩, ⟨(some 9), none, (.un .not (.v 8))⟩, ⟨(some 10), none, (.mv (.v 9))⟩, ⟨(some 11), (some (10, false)), (.ld true 2 (.v 3))⟩, ⟨(some 12), (some (10, false)), (.call 50 [(.v 11)])⟩, ⟨(some 13), (some (10, false)), (.un .not (.v 12))⟩, ⟨(some 14), none, (.pick (.v 10) (.k (.bool true)) (.v 13))⟩]) (.cond (.v 14) (.seq (.reg false [] [⟨(some 4), none, (.mv (.k .nil))⟩, ⟨(some 5), none, (.mv (.k (.bool false)))⟩]) .ret) .skip)) (.seq (.reg false [] [⟨(some 15), none, (.ld true 2 (.v 2))⟩, ⟨(some 16), none, (.ld true 2 (.v 3))⟩, ⟨(some 17), none, (.call 51 [(.v 15), (.v 16)])⟩, ⟨(some 4), none, (.mv (.v 17))⟩, ⟨(some 5), none, (.mv (.k (.bool true)))⟩]) .ret)))
def ir18 : Fn := ⟨.ownF, 2, 18, [(.tmp 4), (.tmp 5)], ir18_c⟩
def ir19_d0 : C := (.seq (.reg false [] [⟨(some 26), none, (.bin .lss .none (.v 25) (.v 24))⟩]) (.seq (.cond (.v 26) .skip (.exit 0)) (.seq (.block 1 (.seq (.reg false [] [⟨(some 27), none, (.ixa 1 (.v 23) (.v 25))⟩, ⟨(some 28), none, (.ld false 1 (.v 27))⟩, ⟨(some 8), none, (.mv (.v 28))⟩]) (.reg false [] [⟨(some 29), none, (.mv (.v 6))⟩, ⟨(some 30), none, (.mv (.v 8))⟩, ⟨(some 31), none, (.call 56 [(.v 30)])⟩, ⟨(some 32), none, (.bsl false 1 1 .nil [(0, (.v 31))])⟩, ⟨(some 33), none, (.app false 1 (.v 29) (.v 32))⟩, ⟨(some 6), none, (.mv (.v 33))⟩]))) (.reg false [] [⟨(some 34), none, (.bin .add .none (.v 25) (.k (.int .i64 1)))⟩, ⟨(some 25), none, (.mv (.v 34))⟩]))))
def ir19_b0 : C := ir19_d0
def ir19_l0 : C := .loop true [6, 23, 24, 25] ir19_b0
def ir19_c : C := (.seq (.reg false [] [⟨(some 2), none, (.box (.v 0))⟩, ⟨(some 3), none, (.box (.v 1))⟩, ⟨(some 4), none, (.mv (.k .nil))⟩, ⟨(some 5), none, (.mv (.k (.bool false)))⟩]) (.seq (.seq (.reg true [0, 0, 3, 7, 15, 31, 31, 95, 255, 511, 1023] [⟨(some 9), none, (.ld true 2 (.v 2))⟩, ⟨(some 10), none, (.ld true 2 (.v 3))⟩, ⟨(some 11), none, (.call 52 [(.v 9), (.v 10)])⟩, ⟨(some 12), none, (.un .not (.v 11))⟩, ⟨(some 13), none, (.mv (.v 12))⟩, ⟨(some 14), (some (13, false)), (.ld true 2 (.v 2))⟩, ⟨(some 15), (some (13, false)), (.ld true 2 (.v 3))⟩, ⟨(some 16), (some (13, false)), (.call 54 [(.v 15)])⟩, ⟨(some 17), (some (13, false)), (.call 53 [(.v 14), (.v 16)])⟩, ⟨(some 18), (some (13, false)), (.un .not (.v 17))⟩, ⟨(some 19), none, (.pick (.v 13) (.k (.bool true)) (.v 18))⟩]) (.cond (.v 19) (.seq (.reg false [] [⟨(some 4), none, (.mv (.k .nil))⟩, ⟨(some 5), none, (.mv (.k (.bool false)))⟩]) .ret) .skip)) (.seq (.reg false [] [⟨(some 6), none, (.mv (.k .nil))⟩]) (.seq (.seq (.reg true [0, 0, 2, 7, 15, 0] [⟨(some 20), none, (.ld true 2 (.v 2))⟩, ⟨(some 21), none, (.ld true 2 (.v 3))⟩, ⟨(some 22), none, (.call 54 [(.v 21)])⟩, ⟨(some 23), none, (.call 55 [(.v 20), (.v 22)])⟩, ⟨(some 24), none, (.len 1 (.v 23))⟩, ⟨(some 25), none, (.mv (.k (.int .i64 0)))⟩]) (.block 0 ir19_l0)) (.seq (.reg false [] [⟨(some 35), none, (.mv (.v 6))⟩, ⟨(some 4), none, (.mv (.v 35))⟩, ⟨(some 5), none, (.mv (.k (.bool true)))⟩]) .ret)))))
def ir19 : Fn := ⟨.ownF, 2, 36, [(.tmp 4), (.tmp 5)], ir19_c⟩
def ir20_c : C := (.seq (.reg false [] [⟨(some 2), none, (.box (.v 0))⟩, ⟨(some 3), none, (.box (.v 1))⟩, ⟨(some 4), none, (.mv (.k (.bool false)))⟩, ⟨(some 5), none, (.mv (.k (.bool false)))⟩]) (.seq (.seq (.reg false [] [⟨(some 6), none, (.ld true 2 (.v 2))⟩, ⟨(some 7), none, (.ld true 2 (.v 3))⟩, ⟨(some 8), none, (.call 49 [(.v 6), (.v 7)])⟩, ⟨(some 9), none, (.un .not (.v 8))⟩]) (.cond (.v 9) (.seq (.reg false [] [⟨(some 4), none, (.mv (.k (.bool false)))⟩, ⟨(some 5), none, (.mv (.k (.bool false)))⟩]) .ret) .skip)) (.seq (.reg false [] [⟨(some 10), none, (.ld true 2 (.v 3))⟩, ⟨(some 11), none, (.call 50 [(.v 10)])⟩, ⟨(some 4), none, (.mv (.v 11))⟩, ⟨(some 5), none, (.mv (.k (.bool true)))⟩]) .ret)))
def ir20 : Fn := ⟨.own, 2, 12, [(.tmp 4), (.tmp 5)], ir20_c⟩
def ir21_c : C := (.seq (.reg false [] [⟨(some 2), none, (.box (.v 0))⟩, ⟨(some 3), none, (.box (.v 1))⟩, ⟨(some 4), none, (.mv (.k (.bool false)))⟩, ⟨(some 5), none, (.mv (.k (.bool false)))⟩]) (.seq (.seq (.reg false [] [⟨(some 6), none, (.ld true 2 (.v 2))⟩, ⟨(some 7), none, (.ld true 2 (.v 3))⟩, ⟨(some 8), none, (.call 52 [(.v 6), (.v 7)])⟩, ⟨(some 9), none, (.un .not (.v 8))⟩]) (.cond (.v 9) (.seq (.reg false [] [⟨(some 4), none, (.mv (.k (.bool false)))⟩, ⟨(some 5), none, (.mv (.k (.bool false)))⟩]) .ret) .skip)) (.seq (.reg true [0, 0, 2, 7, 15, 31] [⟨(some 10), none, (.ld true 2 (.v 2))⟩, ⟨(some 11), none, (.ld true 2 (.v 3))⟩, ⟨(some 12), none, (.call 54 [(.v 11)])⟩, ⟨(some 13), none, (.call 53 [(.v 10), (.v 12)])⟩, ⟨(some 4), none, (.mv (.v 13))⟩, ⟨(some 5), none, (.mv (.k (.bool true)))⟩]) .ret)))
def ir21 : Fn := ⟨.own, 2, 14, [(.tmp 4), (.tmp 5)], ir21_c⟩
def ir22_c : C := (.seq (.reg false [] [⟨(some 1), none, (.box (.v 0))⟩, ⟨(some 2), none, (.mv (.k (.bool false)))⟩]) (.seq (.reg false [] [⟨(some 3), none, (.fad 0 (.v 1))⟩, ⟨(some 4), none, (.ld false 1 (.v 3))⟩, ⟨(some 5), none, (.call 57 [(.v 4), (.k (.int .i64 1)), (.k (.int .i64 4))])⟩, ⟨(some 6), none, (.mv (.v 5))⟩, ⟨(some 7), (some (6, true)), (.fad 1 (.v 1))⟩, ⟨(some 8), (some (6, true)), (.ld false 1 (.v 7))⟩, ⟨(some 9), (some (6, true)), (.call 57 [(.v 8), (.k (.int .i64 1)), (.k (.int .i64 4))])⟩, ⟨(some 10), none, (.pick (.v 6) (.v 9) (.k (.bool false)))⟩, ⟨(some 2), none, (.mv (.v 10))⟩]) .ret))
def ir22 : Fn := ⟨.own, 1, 11, [(.tmp 2)], ir22_c⟩
def ir23_c : C := (.seq (.reg false [] [⟨(some 1), none, (.box (.v 0))⟩, ⟨(some 2), none, (.mv (.k (.bool false)))⟩]) (.seq (.reg false [] [⟨(some 3), none, (.ld true 2 (.v 1))⟩, ⟨(some 4), none, (.call 58 [(.v 3)])⟩, ⟨(some 2), none, (.mv (.v 4))⟩]) .ret))
def ir23 : Fn := ⟨.own, 1, 5, [(.tmp 2)], ir23_c⟩
def ir24_c : C := (.seq (.reg false [] [⟨(some 3), none, (.box (.v 0))⟩, ⟨(some 4), none, (.box (.v 1))⟩, ⟨(some 6), none, (.alc 2 [.nil, (.bool false)])⟩, ⟨(some 7), none, (.mv (.k (.bool false)))⟩]) (.seq (.seq (.reg false [] [⟨(some 8), none, (.ld true 2 (.v 3))⟩, ⟨(some 9), none, (.ld true 2 (.v 4))⟩, ⟨(some 10), none, (.call 49 [(.v 8), (.v 9)])⟩, ⟨(some 11), none, (.un .not (.v 10))⟩, ⟨(some 12), none, (.mv (.v 11))⟩, ⟨(some 13), (some (12, false)), (.ld true 2 (.v 4))⟩, ⟨(some 14), (some (12, false)), (.call 50 [(.v 13)])⟩, ⟨(some 15), (some (12, false)), (.un .not (.v 14))⟩, ⟨(some 16), none, (.pick (.v 12) (.k (.bool true)) (.v 15))⟩, ⟨(some 17), none, (.mv (.v 16))⟩, ⟨(some 18), (some (17, false)), (.ld true 2 (.v 3))⟩, ⟨(some 19), (some (17, false)), (.ld true 2 (.v 4))⟩, ⟨(some 20), (some (17, false)), (.mv (.v 2))⟩, ⟨(some 21), (some (17, false)), (.call 59 [(.v 18), (.v 19), (.v 20)])⟩, ⟨(some 22), (some (17, false)), (.un .not (.v 21))⟩, ⟨(some 23), none, (.pick (.v 17) (.k (.bool true)) (.v 22))⟩]) (.cond (.v 23) (.seq (.reg false [] [⟨(some 24), none, (.bld [.nil, (.bool false)] [])⟩, ⟨none, none, (.st 2 (.v 6) (.v 24))⟩, ⟨(some 7), none, (.mv (.k (.bool false)))⟩]) .ret) .skip)) (.seq (.reg false [] [⟨(some 25), none, (.ld true 2 (.v 4))⟩, ⟨(some 26), none, (.mv (.v 2))⟩, ⟨(some 27), none, (.call 60 [(.v 25), (.v 26)])⟩, ⟨none, none, (.st 2 (.v 6) (.v 27))⟩, ⟨(some 7), none, (.mv (.k (.bool true)))⟩]) .ret)))
def ir24 : Fn := ⟨.own, 3, 28, [(.cell 6 true 2), (.tmp 7)], ir24_c⟩
def ir25_c : C := (.seq (.reg false [] [⟨(some 4), none, (.mv (.k (.bool false)))⟩, ⟨(some 5), none, (.mv (.k (.bool false)))⟩]) (.seq (.seq (.reg false [] [⟨(some 6), none, (.mv (.v 0))⟩, ⟨(some 7), none, (.call 57 [(.v 6), (.k (.int .i64 1)), (.k (.int .i64 4))])⟩, ⟨(some 8), none, (.un .not (.v 7))⟩, ⟨(some 9), none, (.mv (.v 8))⟩, ⟨(some 10), (some (9, false)), (.mv (.v 1))⟩, ⟨(some 11), (some (9, false)), (.mv (.v 0))⟩, ⟨(some 12), (some (9, false)), (.bin .mul .none (.k (.int .i64 2)) (.v 11))⟩, ⟨(some 13), (some (9, false)), (.bin .sub .none (.v 12) (.k (.int .i64 1)))⟩, ⟨(some 14), (some (9, false)), (.mv (.v 0))⟩, ⟨(some 15), (some (9, false)), (.bin .mul .none (.k (.int .i64 2)) (.v 14))⟩, ⟨(some 16), (some (9, false)), (.call 61 [(.v 10), (.k (.int .i64 0)), (.v 13), (.k (.int .i64 0)), (.v 15)])⟩, ⟨(some 17), (some (9, false)), (.un .not (.v 16))⟩, ⟨(some 18), none, (.pick (.v 9) (.k (.bool true)) (.v 17))⟩, ⟨(some 19), none, (.mv (.v 18))⟩, ⟨(some 20), (some (19, false)), (.mv (.v 1))⟩, ⟨(some 21), (some (19, false)), (.call 62 [(.v 20)])⟩, ⟨(some 22), (some (19, false)), (.un .not (.v 21))⟩, ⟨(some 23), none, (.pick (.v 19) (.k (.bool true)) (.v 22))⟩]) (.cond (.v 23) (.seq (.reg false [] [⟨(some 4), none, (.mv (.k (.bool false)))⟩, ⟨(some 5), none, (.mv (.k (.bool false)))⟩]) .ret) .skip)) (.seq (.reg false [] [⟨(some 24), none, (.mv (.v 1))⟩, ⟨(some 25), none, (.call 63 [(.v 24)])⟩, ⟨(some 4), none, (.mv (.v 25))⟩, ⟨(some 5), none, (.mv (.k (.bool true)))⟩]) .ret)))
def ir25 : Fn := ⟨.own, 2, 26, [(.tmp 4), (.tmp 5)], ir25_c⟩
def ir26_c : C := (.seq (.reg false [] [⟨(some 2), none, (.box (.v 0))⟩, ⟨(some 3), none, (.box (.v 1))⟩, ⟨(some 4), none, (.mv (.k (.bool false)))⟩]) (.seq (.reg false [] [⟨(some 5), none, (.fad 1 (.v 2))⟩, ⟨(some 6), none, (.ld false 1 (.v 5))⟩, ⟨(some 7), none, (.fad 1 (.v 3))⟩, ⟨(some 8), none, (.ld false 1 (.v 7))⟩, ⟨(some 9), none, (.bin .eql .bool (.v 6) (.v 8))⟩, ⟨(some 10), none, (.mv (.v 9))⟩, ⟨(some 11), (some (10, true)), (.fad 0 (.v 2))⟩, ⟨(some 12), (some (10, true)), (.ld false 1 (.v 11))⟩, ⟨(some 13), (some (10, true)), (.fad 0 (.v 3))⟩, ⟨(some 14), (some (10, true)), (.ld false 1 (.v 13))⟩, ⟨(some 15), (some (10, true)), (.call 64 [(.v 12), (.v 14)])⟩, ⟨(some 16), none, (.pick (.v 10) (.v 15) (.k (.bool false)))⟩, ⟨(some 4), none, (.mv (.v 16))⟩]) .ret))
def ir26 : Fn := ⟨.own, 2, 17, [(.tmp 4)], ir26_c⟩
def ir28_c : C := (.seq (.reg false [] [⟨(some 2), none, (.alc 2 [(.int .i64 0), (.int .i64 0)])⟩, ⟨(some 3), none, (.alc 2 [.nil, (.bool false)])⟩, ⟨(some 4), none, (.mv (.k .nil))⟩]) (.seq (.reg false [] [⟨(some 9), none, (.mv (.v 0))⟩, ⟨(some 10), none, (.bld [.nil, (.int .i64 0), (.int .u64 0)] [(0, (1, (.v 9)))])⟩, ⟨(some 11), none, (.box (.v 10))⟩, ⟨(some 5), none, (.mv (.v 11))⟩]) (.seq (.reg false [] [⟨(some 13), none, (.mv (.v 5))⟩, ⟨(some 14), none, (.call 65 [(.v 13)])⟩, ⟨(some 12), none, (.mv (.v 14))⟩, ⟨(some 15), none, (.ext (.v 12) 0)⟩, ⟨(some 16), none, (.ext (.v 12) 1)⟩, ⟨(some 6), none, (.alc 2 [(.int .i64 0), (.int .i64 0)])⟩, ⟨(some 7), none, (.alc 2 [.nil, (.bool false)])⟩, ⟨none, none, (.st 2 (.v 6) (.v 15))⟩, ⟨none, none, (.st 2 (.v 7) (.v 16))⟩]) (.seq (.seq (.reg true [0, 0, 3, 7, 15, 15, 47, 127, 255, 511, 1023, 2047, 4095, 8191] [⟨(some 17), none, (.ld true 2 (.v 6))⟩, ⟨(some 18), none, (.ld true 2 (.v 7))⟩, ⟨(some 19), none, (.call 52 [(.v 17), (.v 18)])⟩, ⟨(some 20), none, (.mv (.v 19))⟩, ⟨(some 21), (some (20, true)), (.ld true 2 (.v 6))⟩, ⟨(some 22), (some (20, true)), (.ld true 2 (.v 7))⟩, ⟨(some 23), (some (20, true)), (.call 54 [(.v 22)])⟩, ⟨(some 24), (some (20, true)), (.call 53 [(.v 21), (.v 23)])⟩, ⟨(some 25), none, (.pick (.v 20) (.v 24) (.k (.bool false)))⟩, ⟨(some 26), none, (.mv (.v 25))⟩, ⟨(some 27), (some (26, true)), (.mv (.v 5))⟩, ⟨(some 28), (some (26, true)), (.call 42 [(.v 27), (.k (.int .i64 4))])⟩, ⟨(some 29), (some (26, true)), (.un .not (.v 28))⟩, ⟨(some 30), none, (.pick (.v 26) (.v 29) (.k (.bool false)))⟩]) (.cond (.v 30) (.seq (.reg true [0, 0, 2, 7, 15] [⟨(some 31), none, (.ld true 2 (.v 6))⟩, ⟨(some 32), none, (.ld true 2 (.v 7))⟩, ⟨(some 33), none, (.call 54 [(.v 32)])⟩, ⟨(some 34), none, (.call 55 [(.v 31), (.v 33)])⟩, ⟨(some 8), none, (.mv (.v 34))⟩]) (.seq (.reg false [] [⟨(some 35), none, (.mv (.v 8))⟩, ⟨(some 36), none, (.len 1 (.v 35))⟩, ⟨(some 37), none, (.bin .gtr .none (.v 36) (.k (.int .i64 0)))⟩]) (.cond (.v 37) (.seq (.reg true [0, 0, 0, 0, 0, 16, 56, 124, 252, 508, 1021, 2047, 4095] [⟨(some 38), none, (.ld true 2 (.v 6))⟩, ⟨(some 39), none, (.ld true 2 (.v 7))⟩, ⟨(some 40), none, (.mv (.v 8))⟩, ⟨(some 41), none, (.mv (.v 5))⟩, ⟨(some 42), none, (.mv (.v 8))⟩, ⟨(some 43), none, (.len 1 (.v 42))⟩, ⟨(some 44), none, (.call 43 [(.v 41), (.v 43)])⟩, ⟨(some 45), none, (.ixa 1 (.v 40) (.v 44))⟩, ⟨(some 46), none, (.ld false 1 (.v 45))⟩, ⟨(some 47), none, (.call 56 [(.v 46)])⟩, ⟨none, none, (.st 2 (.v 2) (.v 38))⟩, ⟨none, none, (.st 2 (.v 3) (.v 39))⟩, ⟨(some 4), none, (.mv (.v 47))⟩]) .ret) .skip))) .skip)) (.seq (.reg true [0, 0, 0, 4, 13, 31, 63] [⟨(some 48), none, (.ld true 2 (.v 6))⟩, ⟨(some 49), none, (.ld true 2 (.v 7))⟩, ⟨(some 50), none, (.mv (.v 5))⟩, ⟨(some 51), none, (.call 66 [(.v 50), (.k (.int .i64 8))])⟩, ⟨none, none, (.st 2 (.v 2) (.v 48))⟩, ⟨none, none, (.st 2 (.v 3) (.v 49))⟩, ⟨(some 4), none, (.mv (.v 51))⟩]) .ret)))))
def ir28 : Fn := ⟨.ownF, 1, 52, [(.cell 2 true 2), (.cell 3 true 2), (.tmp 4)], ir28_c⟩
def ir29_c : C := (.seq (.reg false [] [⟨(some 3), none, (.box (.v 0))⟩, ⟨(some 4), none, (.box (.v 1))⟩, ⟨(some 6), none, (.alc 2 [.nil, (.bool false)])⟩, ⟨(some 7), none, (.mv (.k (.bool false)))⟩]) (.seq (.seq (.reg true [0, 0, 3, 7, 15, 31, 31, 95, 255, 511, 1023, 2047, 4095, 4095, 12287, 4095, 65535, 131071, 262143] [⟨(some 8), none, (.ld true 2 (.v 3))⟩, ⟨(some 9), none, (.ld true 2 (.v 4))⟩, ⟨(some 10), none, (.call 52 [(.v 8), (.v 9)])⟩, ⟨(some 11), none, (.un .not (.v 10))⟩, ⟨(some 12), none, (.mv (.v 11))⟩, ⟨(some 13), (some (12, false)), (.ld true 2 (.v 3))⟩, ⟨(some 14), (some (12, false)), (.ld true 2 (.v 4))⟩, ⟨(some 15), (some (12, false)), (.call 54 [(.v 14)])⟩, ⟨(some 16), (some (12, false)), (.call 53 [(.v 13), (.v 15)])⟩, ⟨(some 17), (some (12, false)), (.un .not (.v 16))⟩, ⟨(some 18), none, (.pick (.v 12) (.k (.bool true)) (.v 17))⟩, ⟨(some 19), none, (.mv (.v 18))⟩, ⟨(some 20), (some (19, false)), (.ld true 2 (.v 3))⟩, ⟨(some 21), (some (19, false)), (.ld true 2 (.v 4))⟩, ⟨(some 22), (some (19, false)), (.call 54 [(.v 21)])⟩, ⟨(some 23), (some (19, false)), (.mv (.v 2))⟩, ⟨(some 24), (some (19, false)), (.call 67 [(.v 20), (.v 22), (.v 23)])⟩, ⟨(some 25), (some (19, false)), (.un .not (.v 24))⟩, ⟨(some 26), none, (.pick (.v 19) (.k (.bool true)) (.v 25))⟩]) (.cond (.v 26) (.seq (.reg false [] [⟨(some 27), none, (.bld [.nil, (.bool false)] [])⟩, ⟨none, none, (.st 2 (.v 6) (.v 27))⟩, ⟨(some 7), none, (.mv (.k (.bool false)))⟩]) .ret) .skip)) (.seq (.reg true [0, 0, 2, 0, 14, 30, 62, 126, 255, 511, 1023] [⟨(some 28), none, (.ld true 2 (.v 3))⟩, ⟨(some 29), none, (.ld true 2 (.v 4))⟩, ⟨(some 30), none, (.call 54 [(.v 29)])⟩, ⟨(some 31), none, (.mv (.v 2))⟩, ⟨(some 32), none, (.call 69 [(.v 31)])⟩, ⟨(some 33), none, (.bin .mul .none (.k (.int .i64 2)) (.v 32))⟩, ⟨(some 34), none, (.bin .add .none (.v 33) (.k (.int .i64 1)))⟩, ⟨(some 35), none, (.bin .xor .none (.v 30) (.v 34))⟩, ⟨(some 36), none, (.call 68 [(.v 28), (.v 35)])⟩, ⟨none, none, (.st 2 (.v 6) (.v 36))⟩, ⟨(some 7), none, (.mv (.k (.bool true)))⟩]) .ret)))
def ir29 : Fn := ⟨.own, 3, 37, [(.cell 6 true 2), (.tmp 7)], ir29_c⟩
def ir30_c : C := (.seq (.reg false [] [⟨(some 2), none, (.mv (.k (.int .i64 0)))⟩, ⟨(some 3), none, (.mv (.k .nil))⟩]) (.seq (.reg false [] [⟨(some 6), none, (.mv (.v 0))⟩, ⟨(some 7), none, (.bld [.nil, (.int .i64 0), (.int .u64 0)] [(0, (1, (.v 6)))])⟩, ⟨(some 8), none, (.box (.v 7))⟩, ⟨(some 4), none, (.mv (.v 8))⟩]) (.seq (.seq (.reg false [] [⟨(some 9), none, (.mv (.v 4))⟩, ⟨(some 10), none, (.call 42 [(.v 9), (.k (.int .i64 12))])⟩]) (.cond (.v 10) (.seq (.reg false [] [⟨(some 11), none, (.mv (.v 4))⟩, ⟨(some 12), none, (.bsl false 1 5 (.int .i64 0) [(0, (.k (.int .i64 (-1)))), (1, (.k (.int .i64 0))), (2, (.k (.int .i64 1))), (3, (.k (.int .i64 4))), (4, (.k (.int .i64 5)))])⟩, ⟨(some 13), none, (.call 70 [(.v 11), (.v 12)])⟩, ⟨(some 14), none, (.mv (.v 4))⟩, ⟨(some 15), none, (.call 66 [(.v 14), (.k (.int .i64 8))])⟩, ⟨(some 2), none, (.mv (.v 13))⟩, ⟨(some 3), none, (.mv (.v 15))⟩]) .ret) .skip)) (.seq (.reg false [] [⟨(some 16), none, (.mv (.v 4))⟩, ⟨(some 17), none, (.call 43 [(.v 16), (.k (.int .i64 4))])⟩, ⟨(some 18), none, (.bin .add .none (.k (.int .i64 1)) (.v 17))⟩, ⟨(some 5), none, (.mv (.v 18))⟩]) (.seq (.reg false [] [⟨(some 19), none, (.mv (.v 5))⟩, ⟨(some 20), none, (.mv (.v 4))⟩, ⟨(some 21), none, (.mv (.v 5))⟩, ⟨(some 22), none, (.bin .mul .none (.k (.int .i64 2)) (.v 21))⟩, ⟨(some 23), none, (.call 66 [(.v 20), (.v 22)])⟩, ⟨(some 2), none, (.mv (.v 19))⟩, ⟨(some 3), none, (.mv (.v 23))⟩]) .ret)))))
def ir30 : Fn := ⟨.ownF, 1, 24, [(.tmp 2), (.tmp 3)], ir30_c⟩
def ir31_c : C := (.seq (.reg false [] [⟨(some 4), none, (.mv (.k (.bool false)))⟩, ⟨(some 5), none, (.mv (.k (.bool false)))⟩]) (.seq (.seq (.reg false [] [⟨(some 6), none, (.mv (.v 0))⟩, ⟨(some 7), none, (.call 40 [(.v 6), (.k (.int .i64 1)), (.k (.int .i64 4))])⟩, ⟨(some 8), none, (.un .not (.v 7))⟩, ⟨(some 9), none, (.mv (.v 8))⟩, ⟨(some 10), (some (9, false)), (.mv (.v 1))⟩, ⟨(some 11), (some (9, false)), (.mv (.v 0))⟩, ⟨(some 12), (some (9, false)), (.bin .mul .none (.k (.int .i64 2)) (.v 11))⟩, ⟨(some 13), (some (9, false)), (.bin .sub .none (.v 12) (.k (.int .i64 1)))⟩, ⟨(some 14), (some (9, false)), (.call 71 [(.v 10), (.k (.int .i64 0)), (.v 13)])⟩, ⟨(some 15), (some (9, false)), (.un .not (.v 14))⟩, ⟨(some 16), none, (.pick (.v 9) (.k (.bool true)) (.v 15))⟩]) (.cond (.v 16) (.seq (.reg false [] [⟨(some 4), none, (.mv (.k (.bool false)))⟩, ⟨(some 5), none, (.mv (.k (.bool false)))⟩]) .ret) .skip)) (.seq (.reg false [] [⟨(some 17), none, (.mv (.v 0))⟩, ⟨(some 18), none, (.mv (.v 1))⟩, ⟨(some 19), none, (.call 69 [(.v 18)])⟩, ⟨(some 20), none, (.call 72 [(.v 17), (.v 19)])⟩, ⟨(some 4), none, (.mv (.v 20))⟩, ⟨(some 5), none, (.mv (.k (.bool true)))⟩]) .ret)))
def ir31 : Fn := ⟨.own, 2, 21, [(.tmp 4), (.tmp 5)], ir31_c⟩
def ir33_d0 : C := (.seq (.reg false [] [⟨(some 10), none, (.bin .lss .none (.v 9) (.v 8))⟩]) (.seq (.cond (.v 10) .skip (.exit 0)) (.seq (.block 1 (.seq (.reg false [] [⟨(some 11), none, (.ixa 1 (.v 7) (.v 9))⟩, ⟨(some 12), none, (.ld false 1 (.v 11))⟩, ⟨(some 6), none, (.mv (.v 12))⟩]) (.seq (.reg false [] [⟨(some 13), none, (.mv (.v 6))⟩, ⟨(some 14), none, (.mv (.v 1))⟩, ⟨(some 15), none, (.bin .eql .none (.v 13) (.v 14))⟩]) (.cond (.v 15) (.seq (.reg false [] [⟨(some 4), none, (.mv (.k (.bool true)))⟩]) .ret) .skip)))) (.reg false [] [⟨(some 16), none, (.bin .add .none (.v 9) (.k (.int .i64 1)))⟩, ⟨(some 9), none, (.mv (.v 16))⟩]))))
def ir33_b0 : C := ir33_d0
def ir33_l0 : C := .loop true [1, 7, 8, 9] ir33_b0
def ir33_c : C := (.seq (.reg false [] [⟨(some 4), none, (.mv (.k (.bool false)))⟩]) (.seq (.seq (.reg false [] [⟨(some 7), none, (.mv (.v 0))⟩, ⟨(some 8), none, (.len 1 (.v 7))⟩, ⟨(some 9), none, (.mv (.k (.int .i64 0)))⟩]) (.block 0 ir33_l0)) (.seq (.reg false [] [⟨(some 4), none, (.mv (.k (.bool false)))⟩]) .ret)))
def ir33 : Fn := ⟨.own, 2, 17, [(.tmp 4)], ir33_c⟩
def ir48_c : C := (.seq (.reg false [] [⟨(some 2), none, (.alc 2 [(.int .i64 0), (.int .i64 0)])⟩, ⟨(some 3), none, (.alc 2 [.nil, (.bool false)])⟩]) (.seq (.reg false [] [⟨(some 5), none, (.mv (.v 0))⟩, ⟨(some 6), none, (.bld [.nil, (.int .i64 0), (.int .u64 0)] [(0, (1, (.v 5)))])⟩, ⟨(some 7), none, (.box (.v 6))⟩, ⟨(some 4), none, (.mv (.v 7))⟩]) (.seq (.reg false [] [⟨(some 8), none, (.mv (.v 4))⟩, ⟨(some 9), none, (.call 65 [(.v 8)])⟩, ⟨(some 10), none, (.ext (.v 9) 0)⟩, ⟨(some 11), none, (.ext (.v 9) 1)⟩, ⟨none, none, (.st 2 (.v 2) (.v 10))⟩, ⟨none, none, (.st 2 (.v 3) (.v 11))⟩]) .ret)))
def ir48 : Fn := ⟨.ownF, 1, 12, [(.cell 2 true 2), (.cell 3 true 2)], ir48_c⟩
def ir49_c : C := (.seq (.reg false [] [⟨(some 2), none, (.box (.v 0))⟩, ⟨(some 3), none, (.box (.v 1))⟩, ⟨(some 4), none, (.mv (.k (.bool false)))⟩]) (.seq (.reg false [] [⟨(some 5), none, (.ld true 2 (.v 2))⟩, ⟨(some 6), none, (.call 22 [(.v 5)])⟩, ⟨(some 7), none, (.mv (.v 6))⟩, ⟨(some 8), (some (7, true)), (.fad 0 (.v 2))⟩, ⟨(some 9), (some (7, true)), (.ld false 1 (.v 8))⟩, ⟨(some 10), (some (7, true)), (.bin .mul .none (.k (.int .i64 2)) (.v 9))⟩, ⟨(some 11), (some (7, true)), (.ld true 2 (.v 3))⟩, ⟨(some 12), (some (7, true)), (.call 79 [(.v 10), (.v 11)])⟩, ⟨(some 13), none, (.pick (.v 7) (.v 12) (.k (.bool false)))⟩, ⟨(some 4), none, (.mv (.v 13))⟩]) .ret))
def ir49 : Fn := ⟨.own, 2, 14, [(.tmp 4)], ir49_c⟩
def ir50_c : C := (.seq (.reg false [] [⟨(some 1), none, (.box (.v 0))⟩, ⟨(some 2), none, (.mv (.k (.bool false)))⟩]) (.seq (.reg false [] [⟨(some 3), none, (.ld true 2 (.v 1))⟩, ⟨(some 4), none, (.call 80 [(.v 3), (.k (.bool true))])⟩, ⟨(some 5), none, (.call 63 [(.v 4)])⟩, ⟨(some 6), none, (.mv (.v 5))⟩, ⟨(some 7), (some (6, true)), (.ld true 2 (.v 1))⟩, ⟨(some 8), (some (6, true)), (.call 80 [(.v 7), (.k (.bool false))])⟩, ⟨(some 9), (some (6, true)), (.call 63 [(.v 8)])⟩, ⟨(some 10), none, (.pick (.v 6) (.v 9) (.k (.bool false)))⟩, ⟨(some 2), none, (.mv (.v 10))⟩]) .ret))
def ir50 : Fn := ⟨.own, 1, 11, [(.tmp 2)], ir50_c⟩
def ir51_c : C := (.seq (.reg false [] [⟨(some 2), none, (.box (.v 0))⟩, ⟨(some 3), none, (.box (.v 1))⟩, ⟨(some 4), none, (.mv (.k .nil))⟩]) (.seq (.reg false [] [⟨(some 6), none, (.bsl false 1 0 .nil [])⟩, ⟨(some 5), none, (.alc 1 [.nil])⟩, ⟨none, none, (.st 1 (.v 5) (.v 6))⟩]) (.seq (.reg true [0, 0, 2, 7, 0, 16, 0, 127] [⟨(some 7), none, (.ld true 2 (.v 3))⟩, ⟨(some 8), none, (.fad 1 (.v 3))⟩, ⟨(some 9), none, (.ld false 1 (.v 8))⟩, ⟨(some 10), none, (.call 80 [(.v 7), (.v 9)])⟩, ⟨(some 11), none, (.fad 1 (.v 2))⟩, ⟨(some 12), none, (.ld false 1 (.v 11))⟩, ⟨(some 13), none, (.mkf 82 [] [(.v 3), (.v 5)])⟩, ⟨(some 14), none, (.call 81 [(.v 10), (.v 12), (.v 13)])⟩]) (.seq (.reg false [] [⟨(some 15), none, (.ld false 1 (.v 5))⟩, ⟨(some 4), none, (.mv (.v 15))⟩]) .ret))))
def ir51 : Fn := ⟨.ownF, 2, 16, [(.tmp 4)], ir51_c⟩
def ir52_c : C := (.seq (.reg false [] [⟨(some 2), none, (.box (.v 0))⟩, ⟨(some 3), none, (.box (.v 1))⟩, ⟨(some 4), none, (.mv (.k (.bool false)))⟩]) (.seq (.reg true [0, 1, 3, 7, 15, 31, 7, 71, 199, 511, 1023, 2047, 4095, 8191, 16383, 32767, 65535, 4095, 262143, 524287, 1048575] [⟨(some 5), none, (.ld true 2 (.v 2))⟩, ⟨(some 6), none, (.call 58 [(.v 5)])⟩, ⟨(some 7), none, (.mv (.v 6))⟩, ⟨(some 8), (some (7, true)), (.fad 0 (.v 3))⟩, ⟨(some 9), (some (7, true)), (.ld false 1 (.v 8))⟩, ⟨(some 10), (some (7, true)), (.len 1 (.v 9))⟩, ⟨(some 11), (some (7, true)), (.fad 0 (.v 2))⟩, ⟨(some 12), (some (7, true)), (.ld false 1 (.v 11))⟩, ⟨(some 13), (some (7, true)), (.bin .mul .none (.k (.int .i64 2)) (.v 12))⟩, ⟨(some 14), (some (7, true)), (.bin .eql .none (.v 10) (.v 13))⟩, ⟨(some 15), none, (.pick (.v 7) (.v 14) (.k (.bool false)))⟩, ⟨(some 16), none, (.mv (.v 15))⟩, ⟨(some 17), (some (16, true)), (.fad 0 (.v 2))⟩, ⟨(some 18), (some (16, true)), (.ld false 1 (.v 17))⟩, ⟨(some 19), (some (16, true)), (.bin .mul .none (.k (.int .i64 2)) (.v 18))⟩, ⟨(some 20), (some (16, true)), (.mks 1 (.int .i64 0) (.v 19) (.v 19))⟩, ⟨(some 21), (some (16, true)), (.bld [.nil, (.int .i64 0)] [(0, (1, (.v 20)))])⟩, ⟨(some 22), (some (16, true)), (.ld true 2 (.v 3))⟩, ⟨(some 23), (some (16, true)), (.call 83 [(.v 21), (.v 22)])⟩, ⟨(some 24), none, (.pick (.v 16) (.v 23) (.k (.bool false)))⟩, ⟨(some 4), none, (.mv (.v 24))⟩]) .ret))
def ir52 : Fn := ⟨.own, 2, 25, [(.tmp 4)], ir52_c⟩
def ir53_c : C := (.seq (.reg false [] [⟨(some 2), none, (.box (.v 0))⟩, ⟨(some 4), none, (.mv (.k (.bool false)))⟩]) (.seq (.reg true [0, 1, 0, 4, 15, 31, 63, 127, 63, 319, 831, 63, 2111, 7999, 16383, 32767, 65535] [⟨(some 5), none, (.fad 0 (.v 2))⟩, ⟨(some 6), none, (.ld false 1 (.v 5))⟩, ⟨(some 7), none, (.mv (.v 1))⟩, ⟨(some 8), none, (.bin .quo .none (.v 7) (.k (.int .i64 2)))⟩, ⟨(some 9), none, (.call 72 [(.v 6), (.v 8)])⟩, ⟨(some 10), none, (.mv (.v 9))⟩, ⟨(some 11), (some (10, true)), (.fad 0 (.v 2))⟩, ⟨(some 12), (some (10, true)), (.ld false 1 (.v 11))⟩, ⟨(some 13), (some (10, true)), (.ld true 2 (.v 2))⟩, ⟨(some 14), (some (10, true)), (.call 84 [(.v 13)])⟩, ⟨(some 15), (some (10, true)), (.bin .sub .none (.v 14) (.k (.int .i64 1)))⟩, ⟨(some 16), (some (10, true)), (.mv (.v 1))⟩, ⟨(some 17), (some (10, true)), (.bin .quo .none (.v 16) (.k (.int .i64 2)))⟩, ⟨(some 18), (some (10, true)), (.bin .sub .none (.v 15) (.v 17))⟩, ⟨(some 19), (some (10, true)), (.call 72 [(.v 12), (.v 18)])⟩, ⟨(some 20), none, (.pick (.v 10) (.v 19) (.k (.bool false)))⟩, ⟨(some 4), none, (.mv (.v 20))⟩]) .ret))
def ir53 : Fn := ⟨.own, 2, 21, [(.tmp 4)], ir53_c⟩
def ir54_d0 : C := (.seq (.reg false [] [⟨(some 10), none, (.bin .lss .none (.v 9) (.v 8))⟩]) (.seq (.cond (.v 10) .skip (.exit 0)) (.seq (.block 1 (.seq (.reg false [] [⟨(some 11), none, (.mv (.v 9))⟩, ⟨(some 12), none, (.ixa 1 (.v 7) (.v 9))⟩, ⟨(some 13), none, (.ld false 1 (.v 12))⟩, ⟨(some 4), none, (.mv (.v 11))⟩, ⟨(some 5), none, (.mv (.v 13))⟩]) (.seq (.reg false [] [⟨(some 14), none, (.mv (.v 5))⟩]) (.cond (.v 14) (.reg false [] [⟨(some 15), none, (.mv (.v 3))⟩, ⟨(some 16), none, (.mv (.v 4))⟩, ⟨(some 17), none, (.bin .shl .none (.k (.int .i64 2)) (.v 16))⟩, ⟨(some 18), none, (.bin .or .none (.v 15) (.v 17))⟩, ⟨(some 3), none, (.mv (.v 18))⟩]) .skip)))) (.reg false [] [⟨(some 19), none, (.bin .add .none (.v 9) (.k (.int .i64 1)))⟩, ⟨(some 9), none, (.mv (.v 19))⟩]))))
def ir54_b0 : C := ir54_d0
def ir54_l0 : C := .loop true [1, 3, 7, 8, 9] ir54_b0
def ir54_c : C := (.seq (.reg false [] [⟨(some 1), none, (.box (.v 0))⟩, ⟨(some 2), none, (.mv (.k (.int .i64 0)))⟩]) (.seq (.reg false [] [⟨(some 3), none, (.mv (.k (.int .i64 0)))⟩]) (.seq (.seq (.reg false [] [⟨(some 6), none, (.fad 0 (.v 1))⟩, ⟨(some 7), none, (.ld false 1 (.v 6))⟩, ⟨(some 8), none, (.len 1 (.v 7))⟩, ⟨(some 9), none, (.mv (.k (.int .i64 0)))⟩]) (.block 0 ir54_l0)) (.seq (.seq (.reg false [] [⟨(some 20), none, (.fad 1 (.v 1))⟩, ⟨(some 21), none, (.ld false 1 (.v 20))⟩]) (.cond (.v 21) (.reg false [] [⟨(some 22), none, (.mv (.v 3))⟩, ⟨(some 23), none, (.bin .add .none (.v 22) (.k (.int .i64 1)))⟩, ⟨(some 3), none, (.mv (.v 23))⟩]) .skip)) (.seq (.reg false [] [⟨(some 24), none, (.mv (.v 3))⟩, ⟨(some 2), none, (.mv (.v 24))⟩]) .ret)))))
def ir54 : Fn := ⟨.own, 1, 25, [(.tmp 2)], ir54_c⟩
def ir55_d0 : C := (.seq (.seq (.reg true [0, 1, 3, 7, 15, 7, 7, 71, 231, 487, 1023, 2047, 4095] [⟨(some 22), none, (.mv (.v 7))⟩, ⟨(some 23), none, (.bin .gtr .none (.v 22) (.k (.int .i64 0)))⟩, ⟨(some 24), none, (.mv (.v 23))⟩, ⟨(some 25), (some (24, true)), (.mv (.v 6))⟩, ⟨(some 26), (some (24, true)), (.call 56 [(.v 25)])⟩, ⟨(some 27), (some (24, true)), (.mv (.v 5))⟩, ⟨(some 28), (some (24, true)), (.mv (.v 7))⟩, ⟨(some 29), (some (24, true)), (.bin .sub .none (.v 28) (.k (.int .i64 1)))⟩, ⟨(some 30), (some (24, true)), (.ixa 1 (.v 27) (.v 29))⟩, ⟨(some 31), (some (24, true)), (.ld false 1 (.v 30))⟩, ⟨(some 32), (some (24, true)), (.call 56 [(.v 31)])⟩, ⟨(some 33), (some (24, true)), (.call 86 [(.v 26), (.v 32)])⟩, ⟨(some 34), none, (.pick (.v 24) (.v 33) (.k (.bool false)))⟩]) (.cond (.v 34) .skip (.exit 2))) (.block 3 (.reg false [] [⟨(some 35), none, (.mv (.v 7))⟩, ⟨(some 36), none, (.bin .sub .none (.v 35) (.k (.int .i64 1)))⟩, ⟨(some 7), none, (.mv (.v 36))⟩])))
def ir55_b0 : C := ir55_d0
def ir55_l0 : C := .loop true [1, 2, 5, 6, 7] ir55_b0
def ir55_d1 : C := (.seq (.seq (.reg false [] [⟨(some 9), none, (.mv (.v 6))⟩, ⟨(some 10), none, (.ld true 2 (.v 2))⟩, ⟨(some 11), none, (.call 84 [(.v 10)])⟩, ⟨(some 12), none, (.bin .lss .none (.v 9) (.v 11))⟩]) (.cond (.v 12) .skip (.exit 0))) (.seq (.block 1 (.seq (.seq (.reg false [] [⟨(some 15), none, (.ld true 2 (.v 2))⟩, ⟨(some 16), none, (.mv (.v 1))⟩, ⟨(some 17), none, (.mv (.v 6))⟩, ⟨(some 18), none, (.call 85 [(.v 15), (.v 16), (.v 17)])⟩, ⟨(some 19), none, (.un .not (.v 18))⟩]) (.cond (.v 19) (.exit 1) .skip)) (.seq (.reg false [] [⟨(some 20), none, (.mv (.v 5))⟩, ⟨(some 21), none, (.len 1 (.v 20))⟩, ⟨(some 7), none, (.mv (.v 21))⟩]) (.seq (.block 2 ir55_l0) (.seq (.reg false [] [⟨(some 37), none, (.mv (.v 5))⟩, ⟨(some 38), none, (.mv (.v 7))⟩, ⟨(some 39), none, (.slc 1 (.v 37) none (some (.v 38)))⟩, ⟨(some 40), none, (.call 87 [(.v 39)])⟩, ⟨(some 41), none, (.mv (.v 6))⟩, ⟨(some 42), none, (.bsl false 1 1 (.int .i64 0) [(0, (.v 41))])⟩, ⟨(some 43), none, (.app false 1 (.v 40) (.v 42))⟩, ⟨(some 8), none, (.mv (.v 43))⟩]) (.reg false [] [⟨(some 44), none, (.mv (.v 8))⟩, ⟨(some 45), none, (.mv (.v 5))⟩, ⟨(some 46), none, (.mv (.v 7))⟩, ⟨(some 47), none, (.slc 1 (.v 45) (some (.v 46)) none)⟩, ⟨(some 48), none, (.app false 1 (.v 44) (.v 47))⟩, ⟨(some 5), none, (.mv (.v 48))⟩])))))) (.reg false [] [⟨(some 13), none, (.mv (.v 6))⟩, ⟨(some 14), none, (.bin .add .none (.v 13) (.k (.int .i64 1)))⟩, ⟨(some 6), none, (.mv (.v 14))⟩])))
def ir55_b1 : C := ir55_d1
def ir55_l1 : C := .loop true [1, 2, 5, 6] ir55_b1
def ir55_c : C := (.seq (.reg false [] [⟨(some 2), none, (.box (.v 0))⟩, ⟨(some 4), none, (.mv (.k .nil))⟩]) (.seq (.reg false [] [⟨(some 5), none, (.mv (.k .nil))⟩]) (.seq (.seq (.reg false [] [⟨(some 6), none, (.mv (.k (.int .i64 1)))⟩]) (.block 0 ir55_l1)) (.seq (.reg false [] [⟨(some 49), none, (.mv (.v 5))⟩, ⟨(some 4), none, (.mv (.v 49))⟩]) .ret))))
def ir55 : Fn := ⟨.own, 2, 50, [(.tmp 4)], ir55_c⟩
def ir56_d0 : C := (.seq (.seq (.reg false [] [⟨(some 5), none, (.mv (.v 0))⟩, ⟨(some 6), none, (.mv (.v 4))⟩, ⟨(some 7), none, (.bin .shr .none (.v 5) (.v 6))⟩, ⟨(some 8), none, (.bin .gtr .none (.v 7) (.k (.int .i64 0)))⟩]) (.cond (.v 8) .skip (.exit 0))) (.seq (.block 1 (.seq (.reg false [] [⟨(some 11), none, (.mv (.v 0))⟩, ⟨(some 12), none, (.mv (.v 4))⟩, ⟨(some 13), none, (.bin .shr .none (.v 11) (.v 12))⟩, ⟨(some 14), none, (.bin .rem .none (.v 13) (.k (.int .i64 2)))⟩, ⟨(some 15), none, (.bin .eql .none (.v 14) (.k (.int .i64 1)))⟩]) (.cond (.v 15) (.reg false [] [⟨(some 16), none, (.mv (.v 3))⟩, ⟨(some 17), none, (.mv (.v 4))⟩, ⟨(some 18), none, (.bsl false 1 1 (.int .i64 0) [(0, (.v 17))])⟩, ⟨(some 19), none, (.app false 1 (.v 16) (.v 18))⟩, ⟨(some 3), none, (.mv (.v 19))⟩]) .skip))) (.reg false [] [⟨(some 9), none, (.mv (.v 4))⟩, ⟨(some 10), none, (.bin .add .none (.v 9) (.k (.int .i64 1)))⟩, ⟨(some 4), none, (.mv (.v 10))⟩])))
def ir56_b0 : C := ir56_d0
def ir56_l0 : C := .loop true [0, 3, 4] ir56_b0
def ir56_c : C := (.seq (.reg false [] [⟨(some 2), none, (.mv (.k .nil))⟩]) (.seq (.reg false [] [⟨(some 3), none, (.mv (.k .nil))⟩]) (.seq (.seq (.reg false [] [⟨(some 4), none, (.mv (.k (.int .i64 0)))⟩]) (.block 0 ir56_l0)) (.seq (.reg false [] [⟨(some 20), none, (.mv (.v 3))⟩, ⟨(some 2), none, (.mv (.v 20))⟩]) .ret))))
def ir56 : Fn := ⟨.own, 1, 21, [(.tmp 2)], ir56_c⟩
def ir58_c : C := (.seq (.reg false [] [⟨(some 1), none, (.box (.v 0))⟩, ⟨(some 2), none, (.mv (.k (.bool false)))⟩]) (.seq (.reg false [] [⟨(some 3), none, (.fad 0 (.v 1))⟩, ⟨(some 4), none, (.ld false 1 (.v 3))⟩, ⟨(some 5), none, (.call 40 [(.v 4), (.k (.int .i64 1)), (.k (.int .i64 4))])⟩, ⟨(some 6), none, (.mv (.v 5))⟩, ⟨(some 7), (some (6, true)), (.fad 1 (.v 1))⟩, ⟨(some 8), (some (6, true)), (.ld false 1 (.v 7))⟩, ⟨(some 9), (some (6, true)), (.call 40 [(.v 8), (.k (.int .i64 1)), (.k (.int .i64 4))])⟩, ⟨(some 10), none, (.pick (.v 6) (.v 9) (.k (.bool false)))⟩, ⟨(some 2), none, (.mv (.v 10))⟩]) .ret))
def ir58 : Fn := ⟨.own, 1, 11, [(.tmp 2)], ir58_c⟩
def ir59_c : C := (.seq (.reg false [] [⟨(some 3), none, (.box (.v 0))⟩, ⟨(some 4), none, (.box (.v 1))⟩, ⟨(some 6), none, (.mv (.k (.bool false)))⟩]) (.seq (.reg false [] [⟨(some 7), none, (.mv (.v 2))⟩, ⟨(some 8), none, (.fad 0 (.v 3))⟩, ⟨(some 9), none, (.ld false 1 (.v 8))⟩, ⟨(some 10), none, (.bin .mul .none (.k (.int .i64 2)) (.v 9))⟩, ⟨(some 11), none, (.bin .sub .none (.v 10) (.k (.int .i64 1)))⟩, ⟨(some 12), none, (.fad 1 (.v 3))⟩, ⟨(some 13), none, (.ld false 1 (.v 12))⟩, ⟨(some 14), none, (.call 61 [(.v 7), (.k (.int .i64 0)), (.v 11), (.k (.int .i64 1)), (.v 13)])⟩, ⟨(some 15), none, (.mv (.v 14))⟩, ⟨(some 16), (some (15, true)), (.mv (.v 2))⟩, ⟨(some 17), (some (15, true)), (.call 62 [(.v 16)])⟩, ⟨(some 18), none, (.pick (.v 15) (.v 17) (.k (.bool false)))⟩, ⟨(some 19), none, (.mv (.v 18))⟩, ⟨(some 20), (some (19, true)), (.ld true 2 (.v 4))⟩, ⟨(some 21), (some (19, true)), (.mv (.v 2))⟩, ⟨(some 22), (some (19, true)), (.fad 1 (.v 4))⟩, ⟨(some 23), (some (19, true)), (.ld false 1 (.v 22))⟩, ⟨(some 24), (some (19, true)), (.call 88 [(.v 20), (.v 21), (.v 23)])⟩, ⟨(some 25), none, (.pick (.v 19) (.v 24) (.k (.bool false)))⟩, ⟨(some 26), none, (.mv (.v 25))⟩, ⟨(some 27), (some (26, true)), (.mv (.v 2))⟩, ⟨(some 28), (some (26, true)), (.call 63 [(.v 27)])⟩, ⟨(some 29), none, (.pick (.v 26) (.v 28) (.k (.bool false)))⟩, ⟨(some 30), none, (.mv (.v 29))⟩, ⟨(some 31), (some (30, true)), (.ld true 2 (.v 4))⟩, ⟨(some 32), (some (30, true)), (.mv (.v 2))⟩, ⟨(some 33), (some (30, true)), (.call 60 [(.v 31), (.v 32)])⟩, ⟨(some 34), (some (30, true)), (.call 50 [(.v 33)])⟩, ⟨(some 35), none, (.pick (.v 30) (.v 34) (.k (.bool false)))⟩, ⟨(some 6), none, (.mv (.v 35))⟩]) .ret))
def ir59 : Fn := ⟨.own, 3, 36, [(.tmp 6)], ir59_c⟩
def ir60_d0 : C := (.seq (.reg false [] [⟨(some 18), none, (.bin .lss .none (.v 17) (.v 16))⟩]) (.seq (.cond (.v 18) .skip (.exit 0)) (.seq (.block 1 (.seq (.reg false [] [⟨(some 19), none, (.ixa 1 (.v 15) (.v 17))⟩, ⟨(some 20), none, (.ld false 1 (.v 19))⟩, ⟨(some 7), none, (.mv (.v 20))⟩]) (.reg false [] [⟨(some 21), none, (.fad 0 (.v 5))⟩, ⟨(some 22), none, (.ld false 1 (.v 21))⟩, ⟨(some 23), none, (.mv (.v 7))⟩, ⟨(some 24), none, (.fad 1 (.v 5))⟩, ⟨(some 25), none, (.ld false 1 (.v 24))⟩, ⟨(some 26), none, (.ixa 1 (.v 22) (.v 23))⟩, ⟨none, none, (.st 1 (.v 26) (.v 25))⟩]))) (.reg false [] [⟨(some 27), none, (.bin .add .none (.v 17) (.k (.int .i64 1)))⟩, ⟨(some 17), none, (.mv (.v 27))⟩]))))
def ir60_b0 : C := ir60_d0
def ir60_l0 : C := .loop true [4, 5, 15, 16, 17] ir60_b0
def ir60_c : C := (.seq (.reg false [] [⟨(some 2), none, (.box (.v 0))⟩, ⟨(some 4), none, (.alc 2 [.nil, (.bool false)])⟩]) (.seq (.reg true [0, 1, 3, 0, 8, 24, 63, 0, 255] [⟨(some 8), none, (.fad 0 (.v 2))⟩, ⟨(some 9), none, (.ld false 1 (.v 8))⟩, ⟨(some 10), none, (.call 89 [(.v 9)])⟩, ⟨(some 11), none, (.fad 1 (.v 2))⟩, ⟨(some 12), none, (.ld false 1 (.v 11))⟩, ⟨(some 13), none, (.un .not (.v 12))⟩, ⟨(some 14), none, (.bld [.nil, (.bool false)] [(0, (1, (.v 10))), (1, (1, (.v 13)))])⟩, ⟨(some 5), none, (.alc 2 [.nil, (.bool false)])⟩, ⟨none, none, (.st 2 (.v 5) (.v 14))⟩]) (.seq (.seq (.reg false [] [⟨(some 15), none, (.mv (.v 1))⟩, ⟨(some 16), none, (.len 1 (.v 15))⟩, ⟨(some 17), none, (.mv (.k (.int .i64 0)))⟩]) (.block 0 ir60_l0)) (.seq (.reg false [] [⟨(some 28), none, (.ld true 2 (.v 5))⟩, ⟨none, none, (.st 2 (.v 4) (.v 28))⟩]) .ret))))
def ir60 : Fn := ⟨.own, 2, 29, [(.cell 4 true 2)], ir60_c⟩
def ir64_d0 : C := (.seq (.reg false [] [⟨(some 14), none, (.bin .lss .none (.v 13) (.v 12))⟩]) (.seq (.cond (.v 14) .skip (.exit 0)) (.seq (.block 1 (.seq (.reg false [] [⟨(some 15), none, (.mv (.v 13))⟩, ⟨(some 5), none, (.mv (.v 15))⟩]) (.seq (.reg true [0, 0, 3, 7, 0, 0, 48, 112, 255] [⟨(some 16), none, (.mv (.v 0))⟩, ⟨(some 17), none, (.mv (.v 5))⟩, ⟨(some 18), none, (.ixa 1 (.v 16) (.v 17))⟩, ⟨(some 19), none, (.ld false 1 (.v 18))⟩, ⟨(some 20), none, (.mv (.v 1))⟩, ⟨(some 21), none, (.mv (.v 5))⟩, ⟨(some 22), none, (.ixa 1 (.v 20) (.v 21))⟩, ⟨(some 23), none, (.ld false 1 (.v 22))⟩, ⟨(some 24), none, (.bin .neq .bool (.v 19) (.v 23))⟩]) (.cond (.v 24) (.seq (.reg false [] [⟨(some 4), none, (.mv (.k (.bool false)))⟩]) .ret) .skip)))) (.reg false [] [⟨(some 25), none, (.bin .add .none (.v 13) (.k (.int .i64 1)))⟩, ⟨(some 13), none, (.mv (.v 25))⟩]))))
def ir64_b0 : C := ir64_d0
def ir64_l0 : C := .loop true [0, 1, 12, 13] ir64_b0
def ir64_c : C := (.seq (.reg false [] [⟨(some 4), none, (.mv (.k (.bool false)))⟩]) (.seq (.seq (.reg false [] [⟨(some 6), none, (.mv (.v 0))⟩, ⟨(some 7), none, (.len 1 (.v 6))⟩, ⟨(some 8), none, (.mv (.v 1))⟩, ⟨(some 9), none, (.len 1 (.v 8))⟩, ⟨(some 10), none, (.bin .neq .none (.v 7) (.v 9))⟩]) (.cond (.v 10) (.seq (.reg false [] [⟨(some 4), none, (.mv (.k (.bool false)))⟩]) .ret) .skip)) (.seq (.seq (.reg false [] [⟨(some 11), none, (.mv (.v 0))⟩, ⟨(some 12), none, (.len 1 (.v 11))⟩, ⟨(some 13), none, (.mv (.k (.int .i64 0)))⟩]) (.block 0 ir64_l0)) (.seq (.reg false [] [⟨(some 4), none, (.mv (.k (.bool true)))⟩]) .ret))))
def ir64 : Fn := ⟨.own, 2, 26, [(.tmp 4)], ir64_c⟩
def ir65_d0 : C := (.seq (.seq (.reg false [] [⟨(some 26), none, (.mv (.v 6))⟩, ⟨(some 27), none, (.bin .gtr .none (.v 26) (.k (.int .i64 0)))⟩]) (.cond (.v 27) .skip (.exit 0))) (.seq (.block 1 (.seq (.reg false [] [⟨(some 30), none, (.ld true 2 (.v 4))⟩, ⟨(some 31), none, (.mv (.v 5))⟩, ⟨(some 32), none, (.call 55 [(.v 30), (.v 31)])⟩, ⟨(some 7), none, (.mv (.v 32))⟩]) (.seq (.reg false [] [⟨(some 33), none, (.mv (.v 7))⟩, ⟨(some 34), none, (.len 1 (.v 33))⟩, ⟨(some 35), none, (.bin .gtr .none (.v 34) (.k (.int .i64 0)))⟩]) (.cond (.v 35) (.reg false [] [⟨(some 36), none, (.mv (.v 5))⟩, ⟨(some 37), none, (.mv (.v 7))⟩, ⟨(some 38), none, (.mv (.v 0))⟩, ⟨(some 39), none, (.mv (.v 7))⟩, ⟨(some 40), none, (.len 1 (.v 39))⟩, ⟨(some 41), none, (.call 43 [(.v 38), (.v 40)])⟩, ⟨(some 42), none, (.ixa 1 (.v 37) (.v 41))⟩, ⟨(some 43), none, (.ld false 1 (.v 42))⟩, ⟨(some 44), none, (.bin .mul .none (.k (.int .i64 2)) (.v 43))⟩, ⟨(some 45), none, (.bin .add .none (.v 44) (.k (.int .i64 1)))⟩, ⟨(some 46), none, (.bin .xor .none (.v 36) (.v 45))⟩, ⟨(some 5), none, (.mv (.v 46))⟩]) .skip)))) (.reg false [] [⟨(some 28), none, (.mv (.v 6))⟩, ⟨(some 29), none, (.bin .sub .none (.v 28) (.k (.int .i64 1)))⟩, ⟨(some 6), none, (.mv (.v 29))⟩])))
def ir65_b0 : C := ir65_d0
def ir65_l0 : C := .loop false [0, 2, 3, 4, 5, 6] ir65_b0
def ir65_c : C := (.seq (.reg false [] [⟨(some 2), none, (.alc 2 [(.int .i64 0), (.int .i64 0)])⟩, ⟨(some 3), none, (.alc 2 [.nil, (.bool false)])⟩]) (.seq (.reg false [] [⟨(some 8), none, (.mv (.v 0))⟩, ⟨(some 9), none, (.call 94 [(.v 8)])⟩, ⟨(some 4), none, (.alc 2 [(.int .i64 0), (.int .i64 0)])⟩, ⟨none, none, (.st 2 (.v 4) (.v 9))⟩]) (.seq (.seq (.reg false [] [⟨(some 10), none, (.ld true 2 (.v 4))⟩, ⟨(some 11), none, (.call 58 [(.v 10)])⟩, ⟨(some 12), none, (.un .not (.v 11))⟩, ⟨(some 13), none, (.mv (.v 12))⟩, ⟨(some 14), (some (13, false)), (.mv (.v 0))⟩, ⟨(some 15), (some (13, false)), (.call 42 [(.v 14), (.k (.int .i64 12))])⟩, ⟨(some 16), none, (.pick (.v 13) (.k (.bool true)) (.v 15))⟩]) (.cond (.v 16) (.seq (.reg true [0, 0, 2, 6, 0, 22, 62, 55, 255] [⟨(some 17), none, (.ld true 2 (.v 4))⟩, ⟨(some 18), none, (.mv (.v 0))⟩, ⟨(some 19), none, (.call 43 [(.v 18), (.k (.int .i64 9))])⟩, ⟨(some 20), none, (.msf 1 (.bool false) (.v 19) (.v 19))⟩, ⟨(some 21), none, (.mv (.v 0))⟩, ⟨(some 22), none, (.call 42 [(.v 21), (.k (.int .i64 2))])⟩, ⟨(some 23), none, (.bld [.nil, (.bool false)] [(0, (1, (.v 20))), (1, (1, (.v 22)))])⟩, ⟨none, none, (.st 2 (.v 2) (.v 17))⟩, ⟨none, none, (.st 2 (.v 3) (.v 23))⟩]) .ret) .skip)) (.seq (.reg false [] [⟨(some 5), none, (.mv (.k (.int .i64 0)))⟩]) (.seq (.seq (.reg false [] [⟨(some 24), none, (.mv (.v 0))⟩, ⟨(some 25), none, (.call 43 [(.v 24), (.k (.int .i64 8))])⟩, ⟨(some 6), none, (.mv (.v 25))⟩]) (.block 0 ir65_l0)) (.seq (.seq (.reg false [] [⟨(some 47), none, (.mv (.v 0))⟩, ⟨(some 48), none, (.call 42 [(.v 47), (.k (.int .i64 6))])⟩]) (.cond (.v 48) (.reg false [] [⟨(some 49), none, (.mv (.v 0))⟩, ⟨(some 50), none, (.ld true 2 (.v 4))⟩, ⟨(some 51), none, (.call 84 [(.v 50)])⟩, ⟨(some 52), none, (.bin .mul .none (.k (.int .i64 2)) (.v 51))⟩, ⟨(some 53), none, (.call 43 [(.v 49), (.v 52)])⟩, ⟨(some 5), none, (.mv (.v 53))⟩]) .skip)) (.seq (.reg true [0, 0, 0, 6, 15, 31] [⟨(some 54), none, (.ld true 2 (.v 4))⟩, ⟨(some 55), none, (.ld true 2 (.v 4))⟩, ⟨(some 56), none, (.mv (.v 5))⟩, ⟨(some 57), none, (.call 68 [(.v 55), (.v 56)])⟩, ⟨none, none, (.st 2 (.v 2) (.v 54))⟩, ⟨none, none, (.st 2 (.v 3) (.v 57))⟩]) .ret)))))))
def ir65 : Fn := ⟨.ref, 1, 58, [(.cell 2 true 2), (.cell 3 true 2)], ir65_c⟩
def ir67_c : C := (.seq (.reg false [] [⟨(some 3), none, (.box (.v 0))⟩, ⟨(some 6), none, (.mv (.k (.bool false)))⟩]) (.seq (.reg true [0, 1, 0, 4, 15, 31, 63, 63, 191, 447, 959, 2047, 4095, 8191, 16383, 16383, 16383, 81919, 262143, 524287, 1048575] [⟨(some 7), none, (.mv (.v 2))⟩, ⟨(some 8), none, (.len 1 (.v 7))⟩, ⟨(some 9), none, (.fad 1 (.v 3))⟩, ⟨(some 10), none, (.ld false 1 (.v 9))⟩, ⟨(some 11), none, (.call 40 [(.v 8), (.k (.int .i64 1)), (.v 10)])⟩, ⟨(some 12), none, (.mv (.v 11))⟩, ⟨(some 13), (some (12, true)), (.mv (.v 2))⟩, ⟨(some 14), (some (12, true)), (.fad 0 (.v 3))⟩, ⟨(some 15), (some (12, true)), (.ld false 1 (.v 14))⟩, ⟨(some 16), (some (12, true)), (.bin .mul .none (.k (.int .i64 2)) (.v 15))⟩, ⟨(some 17), (some (12, true)), (.bin .sub .none (.v 16) (.k (.int .i64 1)))⟩, ⟨(some 18), (some (12, true)), (.call 71 [(.v 13), (.k (.int .i64 0)), (.v 17)])⟩, ⟨(some 19), none, (.pick (.v 12) (.v 18) (.k (.bool false)))⟩, ⟨(some 20), none, (.mv (.v 19))⟩, ⟨(some 21), (some (20, true)), (.ld true 2 (.v 3))⟩, ⟨(some 22), (some (20, true)), (.mv (.v 1))⟩, ⟨(some 23), (some (20, true)), (.mv (.v 2))⟩, ⟨(some 24), (some (20, true)), (.call 69 [(.v 23)])⟩, ⟨(some 25), (some (20, true)), (.call 85 [(.v 21), (.v 22), (.v 24)])⟩, ⟨(some 26), none, (.pick (.v 20) (.v 25) (.k (.bool false)))⟩, ⟨(some 6), none, (.mv (.v 26))⟩]) .ret))
def ir67 : Fn := ⟨.own, 3, 27, [(.tmp 6)], ir67_c⟩
def ir68_d0 : C := (.seq (.seq (.reg false [] [⟨(some 11), none, (.mv (.v 6))⟩, ⟨(some 12), none, (.fad 0 (.v 2))⟩, ⟨(some 13), none, (.ld false 1 (.v 12))⟩, ⟨(some 14), none, (.bin .mul .none (.k (.int .i64 2)) (.v 13))⟩, ⟨(some 15), none, (.bin .lss .none (.v 11) (.v 14))⟩]) (.cond (.v 15) .skip (.exit 0))) (.seq (.block 1 (.reg true [0, 1, 0, 0, 8, 28, 60, 124, 252, 511, 1023, 2047] [⟨(some 18), none, (.fad 0 (.v 5))⟩, ⟨(some 19), none, (.ld false 1 (.v 18))⟩, ⟨(some 20), none, (.mv (.v 1))⟩, ⟨(some 21), none, (.mv (.v 6))⟩, ⟨(some 22), none, (.bin .add .none (.v 21) (.k (.int .i64 1)))⟩, ⟨(some 23), none, (.bin .shr .none (.v 20) (.v 22))⟩, ⟨(some 24), none, (.bin .rem .none (.v 23) (.k (.int .i64 2)))⟩, ⟨(some 25), none, (.bin .eql .none (.v 24) (.k (.int .i64 1)))⟩, ⟨(some 26), none, (.bsl false 1 1 (.bool false) [(0, (.v 25))])⟩, ⟨(some 27), none, (.app false 1 (.v 19) (.v 26))⟩, ⟨(some 28), none, (.fad 0 (.v 5))⟩, ⟨none, none, (.st 1 (.v 28) (.v 27))⟩])) (.reg false [] [⟨(some 16), none, (.mv (.v 6))⟩, ⟨(some 17), none, (.bin .add .none (.v 16) (.k (.int .i64 1)))⟩, ⟨(some 6), none, (.mv (.v 17))⟩])))
def ir68_b0 : C := ir68_d0
def ir68_l0 : C := .loop true [1, 2, 4, 5, 6] ir68_b0
def ir68_c : C := (.seq (.reg false [] [⟨(some 2), none, (.box (.v 0))⟩, ⟨(some 4), none, (.alc 2 [.nil, (.bool false)])⟩]) (.seq (.reg false [] [⟨(some 7), none, (.mv (.v 1))⟩, ⟨(some 8), none, (.bin .rem .none (.v 7) (.k (.int .i64 2)))⟩, ⟨(some 9), none, (.bin .eql .none (.v 8) (.k (.int .i64 1)))⟩, ⟨(some 10), none, (.bld [.nil, (.bool false)] [(1, (1, (.v 9)))])⟩, ⟨(some 5), none, (.alc 2 [.nil, (.bool false)])⟩, ⟨none, none, (.st 2 (.v 5) (.v 10))⟩]) (.seq (.seq (.reg false [] [⟨(some 6), none, (.mv (.k (.int .i64 0)))⟩]) (.block 0 ir68_l0)) (.seq (.reg false [] [⟨(some 29), none, (.ld true 2 (.v 5))⟩, ⟨none, none, (.st 2 (.v 4) (.v 29))⟩]) .ret))))
def ir68 : Fn := ⟨.own, 2, 30, [(.cell 4 true 2)], ir68_c⟩
def ir79_c : C := (.seq (.reg false [] [⟨(some 3), none, (.box (.v 1))⟩, ⟨(some 4), none, (.mv (.k (.bool false)))⟩]) (.seq (.reg false [] [⟨(some 5), none, (.fad 0 (.v 3))⟩, ⟨(some 6), none, (.ld false 1 (.v 5))⟩, ⟨(some 7), none, (.len 1 (.v 6))⟩, ⟨(some 8), none, (.mv (.v 0))⟩, ⟨(some 9), none, (.bin .eql .none (.v 7) (.v 8))⟩, ⟨(some 10), none, (.mv (.v 9))⟩, ⟨(some 11), (some (10, true)), (.fad 0 (.v 3))⟩, ⟨(some 12), (some (10, true)), (.ld false 1 (.v 11))⟩, ⟨(some 13), (some (10, true)), (.fad 1 (.v 3))⟩, ⟨(some 14), (some (10, true)), (.ld false 1 (.v 13))⟩, ⟨(some 15), (some (10, true)), (.call 99 [(.v 12), (.v 14)])⟩, ⟨(some 16), none, (.pick (.v 10) (.v 15) (.k (.bool false)))⟩, ⟨(some 4), none, (.mv (.v 16))⟩]) .ret))
def ir79 : Fn := ⟨.own, 2, 17, [(.tmp 4)], ir79_c⟩
def ir80_d0 : C := (.seq (.reg false [] [⟨(some 13), none, (.bin .lss .none (.v 12) (.v 11))⟩]) (.seq (.cond (.v 13) .skip (.exit 0)) (.seq (.block 1 (.seq (.reg false [] [⟨(some 14), none, (.mv (.v 12))⟩, ⟨(some 15), none, (.ixa 1 (.v 10) (.v 12))⟩, ⟨(some 16), none, (.ld false 1 (.v 15))⟩, ⟨(some 6), none, (.mv (.v 14))⟩, ⟨(some 7), none, (.mv (.v 16))⟩]) (.seq (.reg false [] [⟨(some 17), none, (.mv (.v 7))⟩, ⟨(some 18), none, (.mv (.v 1))⟩, ⟨(some 19), none, (.bin .eql .bool (.v 17) (.v 18))⟩]) (.cond (.v 19) (.reg false [] [⟨(some 20), none, (.mv (.v 5))⟩, ⟨(some 21), none, (.mv (.v 6))⟩, ⟨(some 22), none, (.bsl false 1 1 (.int .i64 0) [(0, (.v 21))])⟩, ⟨(some 23), none, (.app false 1 (.v 20) (.v 22))⟩, ⟨(some 5), none, (.mv (.v 23))⟩]) .skip)))) (.reg false [] [⟨(some 24), none, (.bin .add .none (.v 12) (.k (.int .i64 1)))⟩, ⟨(some 12), none, (.mv (.v 24))⟩]))))
def ir80_b0 : C := ir80_d0
def ir80_l0 : C := .loop true [1, 5, 10, 11, 12] ir80_b0
def ir80_c : C := (.seq (.reg false [] [⟨(some 2), none, (.box (.v 0))⟩, ⟨(some 4), none, (.mv (.k .nil))⟩]) (.seq (.reg false [] [⟨(some 8), none, (.bsl false 1 0 (.int .i64 0) [])⟩, ⟨(some 5), none, (.mv (.v 8))⟩]) (.seq (.seq (.reg false [] [⟨(some 9), none, (.fad 0 (.v 2))⟩, ⟨(some 10), none, (.ld false 1 (.v 9))⟩, ⟨(some 11), none, (.len 1 (.v 10))⟩, ⟨(some 12), none, (.mv (.k (.int .i64 0)))⟩]) (.block 0 ir80_l0)) (.seq (.reg false [] [⟨(some 25), none, (.mv (.v 5))⟩, ⟨(some 4), none, (.mv (.v 25))⟩]) .ret))))
def ir80 : Fn := ⟨.own, 2, 26, [(.tmp 4)], ir80_c⟩
def ir82_c : C := (.seq (.reg false [] [⟨(some 4), none, (.mv (.v 0))⟩, ⟨(some 5), none, (.call 63 [(.v 4)])⟩, ⟨(some 6), none, (.mv (.v 5))⟩, ⟨(some 7), (some (6, true)), (.ld true 2 (.v 1))⟩, ⟨(some 8), (some (6, true)), (.mv (.v 0))⟩, ⟨(some 9), (some (6, true)), (.call 60 [(.v 7), (.v 8)])⟩, ⟨(some 10), (some (6, true)), (.call 50 [(.v 9)])⟩, ⟨(some 11), none, (.pick (.v 6) (.v 10) (.k (.bool false)))⟩]) (.cond (.v 11) (.reg false [] [⟨(some 12), none, (.ld false 1 (.v 2))⟩, ⟨(some 13), none, (.mv (.v 0))⟩, ⟨(some 14), none, (.bsl false 1 1 .nil [(0, (.v 13))])⟩, ⟨(some 15), none, (.app false 1 (.v 12) (.v 14))⟩, ⟨none, none, (.st 1 (.v 2) (.v 15))⟩]) .skip))
def ir82 : Fn := ⟨.ref, 3, 16, [], ir82_c⟩
def ir83_d0 : C := (.seq (.reg false [] [⟨(some 18), none, (.bin .lss .none (.v 17) (.v 16))⟩]) (.seq (.cond (.v 18) .skip (.exit 0)) (.seq (.block 1 (.seq (.reg false [] [⟨(some 19), none, (.ixa 1 (.v 15) (.v 17))⟩, ⟨(some 20), none, (.ld false 1 (.v 19))⟩, ⟨(some 6), none, (.mv (.v 20))⟩]) (.seq (.reg false [] [⟨(some 21), none, (.mv (.v 6))⟩, ⟨(some 22), none, (.fad 1 (.v 3))⟩, ⟨(some 23), none, (.ld false 1 (.v 22))⟩, ⟨(some 24), none, (.bin .eql .bool (.v 21) (.v 23))⟩]) (.cond (.v 24) (.seq (.reg false [] [⟨(some 4), none, (.mv (.k (.bool true)))⟩]) .ret) .skip)))) (.reg false [] [⟨(some 25), none, (.bin .add .none (.v 17) (.k (.int .i64 1)))⟩, ⟨(some 17), none, (.mv (.v 25))⟩]))))
def ir83_b0 : C := ir83_d0
def ir83_l0 : C := .loop true [3, 15, 16, 17] ir83_b0
def ir83_c : C := (.seq (.reg false [] [⟨(some 2), none, (.box (.v 0))⟩, ⟨(some 3), none, (.box (.v 1))⟩, ⟨(some 4), none, (.mv (.k (.bool false)))⟩]) (.seq (.seq (.reg false [] [⟨(some 7), none, (.fad 0 (.v 3))⟩, ⟨(some 8), none, (.ld false 1 (.v 7))⟩, ⟨(some 9), none, (.len 1 (.v 8))⟩, ⟨(some 10), none, (.fad 0 (.v 2))⟩, ⟨(some 11), none, (.ld false 1 (.v 10))⟩, ⟨(some 12), none, (.len 1 (.v 11))⟩, ⟨(some 13), none, (.bin .neq .none (.v 9) (.v 12))⟩]) (.cond (.v 13) (.seq (.reg false [] [⟨(some 4), none, (.mv (.k (.bool false)))⟩]) .ret) .skip)) (.seq (.seq (.reg false [] [⟨(some 14), none, (.fad 0 (.v 3))⟩, ⟨(some 15), none, (.ld false 1 (.v 14))⟩, ⟨(some 16), none, (.len 1 (.v 15))⟩, ⟨(some 17), none, (.mv (.k (.int .i64 0)))⟩]) (.block 0 ir83_l0)) (.seq (.reg false [] [⟨(some 4), none, (.mv (.k (.bool false)))⟩]) .ret))))
def ir83 : Fn := ⟨.own, 2, 26, [(.tmp 4)], ir83_c⟩
def ir84_c : C := (.seq (.reg false [] [⟨(some 1), none, (.box (.v 0))⟩, ⟨(some 2), none, (.mv (.k (.int .i64 0)))⟩]) (.seq (.reg false [] [⟨(some 3), none, (.fad 0 (.v 1))⟩, ⟨(some 4), none, (.ld false 1 (.v 3))⟩, ⟨(some 5), none, (.bin .mul .none (.k (.int .i64 2)) (.v 4))⟩, ⟨(some 6), none, (.bin .shl .none (.k (.int .i64 1)) (.v 5))⟩, ⟨(some 2), none, (.mv (.v 6))⟩]) .ret))
def ir84 : Fn := ⟨.own, 1, 7, [(.tmp 2)], ir84_c⟩
def ir85_c : C := (.seq (.reg false [] [⟨(some 3), none, (.box (.v 0))⟩, ⟨(some 6), none, (.mv (.k (.bool false)))⟩]) (.seq (.reg false [] [⟨(some 8), none, (.mv (.v 1))⟩, ⟨(some 9), none, (.bin .quo .none (.v 8) (.k (.int .i64 2)))⟩, ⟨(some 7), none, (.mv (.v 9))⟩]) (.seq (.seq (.reg false [] [⟨(some 10), none, (.mv (.v 1))⟩, ⟨(some 11), none, (.bin .rem .none (.v 10) (.k (.int .i64 2)))⟩, ⟨(some 12), none, (.bin .eql .none (.v 11) (.k (.int .i64 0)))⟩]) (.cond (.v 12) (.reg false [] [⟨(some 13), none, (.ld true 2 (.v 3))⟩, ⟨(some 14), none, (.call 84 [(.v 13)])⟩, ⟨(some 15), none, (.bin .sub .none (.v 14) (.k (.int .i64 1)))⟩, ⟨(some 16), none, (.mv (.v 7))⟩, ⟨(some 17), none, (.bin .sub .none (.v 15) (.v 16))⟩, ⟨(some 7), none, (.mv (.v 17))⟩]) .skip)) (.seq (.seq (.reg true [0, 1, 3, 7, 7, 31, 7, 127, 255, 511, 1023, 2047, 4095, 1023, 9215, 32767, 65535, 131071, 262143, 524287, 262143, 2097151, 4194303, 8388607] [⟨(some 18), none, (.mv (.v 2))⟩, ⟨(some 19), none, (.bin .eql .none (.v 18) (.k (.int .i64 0)))⟩, ⟨(some 20), none, (.mv (.v 19))⟩, ⟨(some 21), (some (20, false)), (.mv (.v 2))⟩, ⟨(some 22), (some (20, false)), (.mv (.v 7))⟩, ⟨(some 23), (some (20, false)), (.bin .and .none (.v 21) (.v 22))⟩, ⟨(some 24), (some (20, false)), (.mv (.v 2))⟩, ⟨(some 25), (some (20, false)), (.bin .neq .none (.v 23) (.v 24))⟩, ⟨(some 26), none, (.pick (.v 20) (.k (.bool true)) (.v 25))⟩, ⟨(some 27), none, (.mv (.v 26))⟩, ⟨(some 28), (some (27, false)), (.mv (.v 2))⟩, ⟨(some 29), (some (27, false)), (.call 56 [(.v 28)])⟩, ⟨(some 30), (some (27, false)), (.len 1 (.v 29))⟩, ⟨(some 31), (some (27, false)), (.fad 1 (.v 3))⟩, ⟨(some 32), (some (27, false)), (.ld false 1 (.v 31))⟩, ⟨(some 33), (some (27, false)), (.bin .gtr .none (.v 30) (.v 32))⟩, ⟨(some 34), none, (.pick (.v 27) (.k (.bool true)) (.v 33))⟩, ⟨(some 35), none, (.mv (.v 34))⟩, ⟨(some 36), (some (35, false)), (.fad 0 (.v 3))⟩, ⟨(some 37), (some (35, false)), (.ld false 1 (.v 36))⟩, ⟨(some 38), (some (35, false)), (.mv (.v 2))⟩, ⟨(some 39), (some (35, false)), (.call 72 [(.v 37), (.v 38)])⟩, ⟨(some 40), (some (35, false)), (.un .not (.v 39))⟩, ⟨(some 41), none, (.pick (.v 35) (.k (.bool true)) (.v 40))⟩]) (.cond (.v 41) (.seq (.reg false [] [⟨(some 6), none, (.mv (.k (.bool false)))⟩]) .ret) .skip)) (.seq (.reg false [] [⟨(some 42), none, (.ld true 2 (.v 3))⟩, ⟨(some 43), none, (.mv (.v 1))⟩, ⟨(some 44), none, (.mv (.v 2))⟩, ⟨(some 45), none, (.bin .mul .none (.k (.int .i64 2)) (.v 44))⟩, ⟨(some 46), none, (.bin .add .none (.v 45) (.k (.int .i64 1)))⟩, ⟨(some 47), none, (.bin .xor .none (.v 43) (.v 46))⟩, ⟨(some 48), none, (.call 53 [(.v 42), (.v 47)])⟩, ⟨(some 6), none, (.mv (.v 48))⟩]) .ret)))))
def ir85 : Fn := ⟨.own, 3, 49, [(.tmp 6)], ir85_c⟩
def ir86_d0 : C := (.seq (.seq (.reg false [] [⟨(some 6), none, (.mv (.v 5))⟩, ⟨(some 7), none, (.mv (.v 0))⟩, ⟨(some 8), none, (.len 1 (.v 7))⟩, ⟨(some 9), none, (.bin .lss .none (.v 6) (.v 8))⟩, ⟨(some 10), none, (.mv (.v 9))⟩, ⟨(some 11), (some (10, true)), (.mv (.v 5))⟩, ⟨(some 12), (some (10, true)), (.mv (.v 1))⟩, ⟨(some 13), (some (10, true)), (.len 1 (.v 12))⟩, ⟨(some 14), (some (10, true)), (.bin .lss .none (.v 11) (.v 13))⟩, ⟨(some 15), none, (.pick (.v 10) (.v 14) (.k (.bool false)))⟩]) (.cond (.v 15) .skip (.exit 0))) (.seq (.block 1 (.seq (.reg true [0, 0, 3, 7, 0, 0, 48, 112, 255] [⟨(some 18), none, (.mv (.v 0))⟩, ⟨(some 19), none, (.mv (.v 5))⟩, ⟨(some 20), none, (.ixa 1 (.v 18) (.v 19))⟩, ⟨(some 21), none, (.ld false 1 (.v 20))⟩, ⟨(some 22), none, (.mv (.v 1))⟩, ⟨(some 23), none, (.mv (.v 5))⟩, ⟨(some 24), none, (.ixa 1 (.v 22) (.v 23))⟩, ⟨(some 25), none, (.ld false 1 (.v 24))⟩, ⟨(some 26), none, (.bin .neq .none (.v 21) (.v 25))⟩]) (.cond (.v 26) (.seq (.reg true [0, 0, 3, 7, 0, 0, 48, 112, 255, 511] [⟨(some 27), none, (.mv (.v 0))⟩, ⟨(some 28), none, (.mv (.v 5))⟩, ⟨(some 29), none, (.ixa 1 (.v 27) (.v 28))⟩, ⟨(some 30), none, (.ld false 1 (.v 29))⟩, ⟨(some 31), none, (.mv (.v 1))⟩, ⟨(some 32), none, (.mv (.v 5))⟩, ⟨(some 33), none, (.ixa 1 (.v 31) (.v 32))⟩, ⟨(some 34), none, (.ld false 1 (.v 33))⟩, ⟨(some 35), none, (.bin .lss .none (.v 30) (.v 34))⟩, ⟨(some 4), none, (.mv (.v 35))⟩]) .ret) .skip))) (.reg false [] [⟨(some 16), none, (.mv (.v 5))⟩, ⟨(some 17), none, (.bin .add .none (.v 16) (.k (.int .i64 1)))⟩, ⟨(some 5), none, (.mv (.v 17))⟩])))
def ir86_b0 : C := ir86_d0
def ir86_l0 : C := .loop true [0, 1, 5] ir86_b0
def ir86_c : C := (.seq (.reg false [] [⟨(some 4), none, (.mv (.k (.bool false)))⟩]) (.seq (.seq (.reg false [] [⟨(some 5), none, (.mv (.k (.int .i64 0)))⟩]) (.block 0 ir86_l0)) (.seq (.reg false [] [⟨(some 36), none, (.mv (.v 0))⟩, ⟨(some 37), none, (.len 1 (.v 36))⟩, ⟨(some 38), none, (.mv (.v 1))⟩, ⟨(some 39), none, (.len 1 (.v 38))⟩, ⟨(some 40), none, (.bin .lss .none (.v 37) (.v 39))⟩, ⟨(some 4), none, (.mv (.v 40))⟩]) .ret)))
def ir86 : Fn := ⟨.own, 2, 41, [(.tmp 4)], ir86_c⟩
def ir88_c : C := (.seq (.reg false [] [⟨(some 3), none, (.box (.v 0))⟩, ⟨(some 5), none, (.box (.v 2))⟩, ⟨(some 6), none, (.mv (.k (.bool false)))⟩]) (.seq (.reg false [] [⟨(some 7), none, (.mv (.v 1))⟩, ⟨(some 8), none, (.mkf 102 [] [(.v 3), (.v 5)])⟩, ⟨(some 9), none, (.call 90 [(.v 7), (.v 8)])⟩, ⟨(some 10), none, (.un .not (.v 9))⟩, ⟨(some 6), none, (.mv (.v 10))⟩]) .ret))
def ir88 : Fn := ⟨.own, 3, 11, [(.tmp 6)], ir88_c⟩
def ir94_c : C := (.seq (.reg false [] [⟨(some 2), none, (.alc 2 [(.int .i64 0), (.int .i64 0)])⟩]) (.seq (.reg false [] [⟨(some 4), none, (.mv (.v 0))⟩, ⟨(some 5), none, (.call 105 [(.v 4)])⟩, ⟨(some 3), none, (.alc 2 [(.int .i64 0), (.int .i64 0)])⟩, ⟨none, none, (.st 2 (.v 3) (.v 5))⟩]) (.seq (.seq (.reg false [] [⟨(some 6), none, (.mv (.v 0))⟩, ⟨(some 7), none, (.call 43 [(.v 6), (.k (.int .i64 14))])⟩]) (.block 0 (.seq (.reg false [] [⟨(some 9), none, (.bin .eql .none (.v 7) (.k (.int .i64 0)))⟩, ⟨(some 8), none, (.mv (.v 9))⟩]) (.cond (.v 8) (.reg false [] [⟨(some 10), none, (.mv (.v 0))⟩, ⟨(some 11), none, (.bsl false 1 4 (.int .i64 0) [(0, (.k (.int .i64 (-1)))), (1, (.k (.int .i64 0))), (2, (.k (.int .i64 5))), (3, (.k (.int .i64 4611686018427387904)))])⟩, ⟨(some 12), none, (.call 70 [(.v 10), (.v 11)])⟩, ⟨(some 13), none, (.fad 0 (.v 3))⟩, ⟨none, none, (.st 1 (.v 13) (.v 12))⟩]) (.seq (.reg false [] [⟨(some 15), none, (.bin .eql .none (.v 7) (.k (.int .i64 1)))⟩, ⟨(some 14), none, (.mv (.v 15))⟩]) (.cond (.v 14) (.reg false [] [⟨(some 16), none, (.mv (.v 0))⟩, ⟨(some 17), none, (.bsl false 1 4 (.int .i64 0) [(0, (.k (.int .i64 (-1)))), (1, (.k (.int .i64 0))), (2, (.k (.int .i64 5))), (3, (.k (.int .i64 4611686018427387904)))])⟩, ⟨(some 18), none, (.call 70 [(.v 16), (.v 17)])⟩, ⟨(some 19), none, (.fad 1 (.v 3))⟩, ⟨none, none, (.st 1 (.v 19) (.v 18))⟩]) .skip)))))) (.seq (.reg false [] [⟨(some 20), none, (.ld true 2 (.v 3))⟩, ⟨none, none, (.st 2 (.v 2) (.v 20))⟩]) .ret))))
def ir94 : Fn := ⟨.ref, 1, 21, [(.cell 2 true 2)], ir94_c⟩
def ir99_c : C := (.seq (.reg false [] [⟨(some 4), none, (.mv (.k (.bool false)))⟩]) (.seq (.reg false [] [⟨(some 5), none, (.mv (.v 0))⟩, ⟨(some 6), none, (.mv (.v 1))⟩, ⟨(some 7), none, (.call 108 [(.v 5), (.v 6)])⟩, ⟨(some 8), none, (.bin .geq .none (.v 7) (.k (.int .i64 0)))⟩, ⟨(some 4), none, (.mv (.v 8))⟩]) .ret))
def ir99 : Fn := ⟨.own, 2, 9, [(.tmp 4)], ir99_c⟩
def ir102_c : C := (.seq (.reg false [] [⟨(some 4), none, (.mv (.k (.bool false)))⟩]) (.seq (.reg true [0, 1, 0, 7, 15, 0, 63, 127] [⟨(some 5), none, (.fad 0 (.v 1))⟩, ⟨(some 6), none, (.ld false 1 (.v 5))⟩, ⟨(some 7), none, (.mv (.v 0))⟩, ⟨(some 8), none, (.ixa 1 (.v 6) (.v 7))⟩, ⟨(some 9), none, (.ld false 1 (.v 8))⟩, ⟨(some 10), none, (.ld false 1 (.v 2))⟩, ⟨(some 11), none, (.bin .neq .bool (.v 9) (.v 10))⟩, ⟨(some 4), none, (.mv (.v 11))⟩]) .ret))
def ir102 : Fn := ⟨.own, 3, 12, [(.tmp 4)], ir102_c⟩
def ir105_c : C := (.seq (.reg false [] [⟨(some 2), none, (.alc 2 [(.int .i64 0), (.int .i64 0)])⟩]) (.seq (.seq (.reg false [] [⟨(some 3), none, (.mv (.v 0))⟩, ⟨(some 4), none, (.call 42 [(.v 3), (.k (.int .i64 8))])⟩]) (.cond (.v 4) (.seq (.reg false [] [⟨(some 5), none, (.mv (.v 0))⟩, ⟨(some 6), none, (.call 43 [(.v 5), (.k (.int .i64 3))])⟩, ⟨(some 7), none, (.bin .add .none (.k (.int .i64 2)) (.v 6))⟩, ⟨(some 8), none, (.bld [(.int .i64 0), (.int .i64 0)] [(0, (1, (.k (.int .i64 4)))), (1, (1, (.v 7)))])⟩, ⟨none, none, (.st 2 (.v 2) (.v 8))⟩]) .ret) .skip)) (.seq (.reg false [] [⟨(some 9), none, (.mv (.v 0))⟩, ⟨(some 10), none, (.call 43 [(.v 9), (.k (.int .i64 3))])⟩, ⟨(some 11), none, (.bin .add .none (.k (.int .i64 1)) (.v 10))⟩, ⟨(some 12), none, (.mv (.v 0))⟩, ⟨(some 13), none, (.call 43 [(.v 12), (.k (.int .i64 4))])⟩, ⟨(some 14), none, (.bin .add .none (.k (.int .i64 1)) (.v 13))⟩, ⟨(some 15), none, (.bld [(.int .i64 0), (.int .i64 0)] [(0, (1, (.v 11))), (1, (1, (.v 14)))])⟩, ⟨none, none, (.st 2 (.v 2) (.v 15))⟩]) .ret)))
def ir105 : Fn := ⟨.ref, 1, 16, [(.cell 2 true 2)], ir105_c⟩
def ir108_d0 : C := (.seq (.reg false [] [⟨(some 9), none, (.bin .lss .none (.v 8) (.v 7))⟩]) (.seq (.cond (.v 9) .skip (.exit 0)) (.seq (.block 1 (.seq (.reg false [] [⟨(some 10), none, (.mv (.v 8))⟩, ⟨(some 5), none, (.mv (.v 10))⟩]) (.seq (.reg false [] [⟨(some 11), none, (.mv (.v 1))⟩, ⟨(some 12), none, (.mv (.v 0))⟩, ⟨(some 13), none, (.mv (.v 5))⟩, ⟨(some 14), none, (.ixa 1 (.v 12) (.v 13))⟩, ⟨(some 15), none, (.ld false 1 (.v 14))⟩, ⟨(some 16), none, (.bin .eql .bool (.v 11) (.v 15))⟩]) (.cond (.v 16) (.seq (.reg false [] [⟨(some 17), none, (.mv (.v 5))⟩, ⟨(some 4), none, (.mv (.v 17))⟩]) .ret) .skip)))) (.reg false [] [⟨(some 18), none, (.bin .add .none (.v 8) (.k (.int .i64 1)))⟩, ⟨(some 8), none, (.mv (.v 18))⟩]))))
def ir108_b0 : C := ir108_d0
def ir108_l0 : C := .loop true [0, 1, 7, 8] ir108_b0
def ir108_c : C := (.seq (.reg false [] [⟨(some 4), none, (.mv (.k (.int .i64 0)))⟩]) (.seq (.seq (.reg false [] [⟨(some 6), none, (.mv (.v 0))⟩, ⟨(some 7), none, (.len 1 (.v 6))⟩, ⟨(some 8), none, (.mv (.k (.int .i64 0)))⟩]) (.block 0 ir108_l0)) (.seq (.reg false [] [⟨(some 4), none, (.mv (.k (.int .i64 (-1))))⟩]) .ret)))
def ir108 : Fn := ⟨.own, 2, 19, [(.tmp 4)], ir108_c⟩
def tab : List (Nat × Fun) := [(87, .ir ir87), (81, .ir ir81), (63, .ir ir63), (71, .ir ir71), (72, .ir ir72), (69, .ir ir69), (100, .ir ir100), (92, .ir ir92), (90, .ir ir90), (93, .ir ir93), (104, .ir ir104), (103, .ir ir103), (40, .ir ir40), (57, .ir ir57), (5, .ir ir5), (43, .ir ir43), (66, .ir ir66), (42, .ir ir42), (77, .ir ir77), (70, .ir ir70), (27, .ir ir27), (32, .ir ir32), (61, .ir ir61), (62, .ir ir62), (91, .ir ir91), (11, .ir ir11), (4, .ir ir4), (17, .ir ir17), (18, .ir ir18), (19, .ir ir19), (20, .ir ir20), (21, .ir ir21), (22, .ir ir22), (23, .ir ir23), (24, .ir ir24), (25, .ir ir25), (26, .ir ir26), (28, .ir ir28), (29, .ir ir29), (30, .ir ir30), (31, .ir ir31), (33, .ir ir33), (48, .ir ir48), (49, .ir ir49), (50, .ir ir50), (51, .ir ir51), (52, .ir ir52), (53, .ir ir53), (54, .ir ir54), (55, .ir ir55), (56, .ir ir56), (58, .ir ir58), (59, .ir ir59), (60, .ir ir60), (64, .ir ir64), (65, .ir ir65), (67, .ir ir67), (68, .ir ir68), (79, .ir ir79), (80, .ir ir80), (82, .ir ir82), (83, .ir ir83), (84, .ir ir84), (85, .ir ir85), (86, .ir ir86), (88, .ir ir88), (94, .ir ir94), (99, .ir ir99), (102, .ir ir102), (105, .ir ir105), (108, .ir ir108), (101, .prim .own (cloneP 1)), (89, .prim .own (cloneP 1))]
def env : Env := fun f => tab.lookup f
theorem x63_0 (E : Env) (s : Fr × Heap) : loopF E true [0, 5, 6, 7] ir63_b0 s = andN (execD E ir63_d0 s) (loopK E true [0, 5, 6, 7] ir63_b0) := loopF_K _ _ _ s
@[simp] theorem l63_0 (E : Env) (s : Fr × Heap) : execD E ir63_l0 s = loopF E true [0, 5, 6, 7] ir63_b0 (gcFr true [0, 5, 6, 7] s) := execD_loopF _ _ _ s
theorem x71_0 (E : Env) (s : Fr × Heap) : loopF E true [0, 1, 2, 9, 10, 11] ir71_b0 s = andN (execD E ir71_d0 s) (loopK E true [0, 1, 2, 9, 10, 11] ir71_b0) := loopF_K _ _ _ s
@[simp] theorem l71_0 (E : Env) (s : Fr × Heap) : execD E ir71_l0 s = loopF E true [0, 1, 2, 9, 10, 11] ir71_b0 (gcFr true [0, 1, 2, 9, 10, 11] s) := execD_loopF _ _ _ s
theorem x72_0 (E : Env) (s : Fr × Heap) : loopF E true [0, 1, 5, 6] ir72_b0 s = andN (execD E ir72_d0 s) (loopK E true [0, 1, 5, 6] ir72_b0) := loopF_K _ _ _ s
@[simp] theorem l72_0 (E : Env) (s : Fr × Heap) : execD E ir72_l0 s = loopF E true [0, 1, 5, 6] ir72_b0 (gcFr true [0, 1, 5, 6] s) := execD_loopF _ _ _ s
theorem x72_1 (E : Env) (s : Fr × Heap) : loopF E true [0, 1, 5] ir72_b1 s = andN (execD E ir72_d1 s) (loopK E true [0, 1, 5] ir72_b1) := loopF_K _ _ _ s
@[simp] theorem l72_1 (E : Env) (s : Fr × Heap) : execD E ir72_l1 s = loopF E true [0, 1, 5] ir72_b1 (gcFr true [0, 1, 5] s) := execD_loopF _ _ _ s
theorem x69_0 (E : Env) (s : Fr × Heap) : loopF E true [3, 6, 7, 8] ir69_b0 s = andN (execD E ir69_d0 s) (loopK E true [3, 6, 7, 8] ir69_b0) := loopF_K _ _ _ s
@[simp] theorem l69_0 (E : Env) (s : Fr × Heap) : execD E ir69_l0 s = loopF E true [3, 6, 7, 8] ir69_b0 (gcFr true [3, 6, 7, 8] s) := execD_loopF _ _ _ s
theorem x100_0 (E : Env) (s : Fr × Heap) : loopF E false [1, 2, 3, 4, 5, 8] ir100_b0 s = andN (execD E ir100_d0 s) (loopK E false [1, 2, 3, 4, 5, 8] ir100_b0) := loopF_K _ _ _ s
@[simp] theorem l100_0 (E : Env) (s : Fr × Heap) : execD E ir100_l0 s = loopF E false [1, 2, 3, 4, 5, 8] ir100_b0 (gcFr false [1, 2, 3, 4, 5, 8] s) := execD_loopF _ _ _ s
theorem x104_0 (E : Env) (s : Fr × Heap) : loopF E true [0, 1, 7, 8] ir104_b0 s = andN (execD E ir104_d0 s) (loopK E true [0, 1, 7, 8] ir104_b0) := loopF_K _ _ _ s
@[simp] theorem l104_0 (E : Env) (s : Fr × Heap) : execD E ir104_l0 s = loopF E true [0, 1, 7, 8] ir104_b0 (gcFr true [0, 1, 7, 8] s) := execD_loopF _ _ _ s
theorem x103_0 (E : Env) (s : Fr × Heap) : loopF E true [0, 1, 7, 8] ir103_b0 s = andN (execD E ir103_d0 s) (loopK E true [0, 1, 7, 8] ir103_b0) := loopF_K _ _ _ s
@[simp] theorem l103_0 (E : Env) (s : Fr × Heap) : execD E ir103_l0 s = loopF E true [0, 1, 7, 8] ir103_b0 (gcFr true [0, 1, 7, 8] s) := execD_loopF _ _ _ s
theorem x66_0 (E : Env) (s : Fr × Heap) : loopF E false [0, 1, 5, 6] ir66_b0 s = andN (execD E ir66_d0 s) (loopK E false [0, 1, 5, 6] ir66_b0) := loopF_K _ _ _ s
@[simp] theorem l66_0 (E : Env) (s : Fr × Heap) : execD E ir66_l0 s = loopF E false [0, 1, 5, 6] ir66_b0 (gcFr false [0, 1, 5, 6] s) := execD_loopF _ _ _ s
theorem x27_0 (E : Env) (s : Fr × Heap) : loopF E true [0, 1, 5] ir27_b0 s = andN (execD E ir27_d0 s) (loopK E true [0, 1, 5] ir27_b0) := loopF_K _ _ _ s
@[simp] theorem l27_0 (E : Env) (s : Fr × Heap) : execD E ir27_l0 s = loopF E true [0, 1, 5] ir27_b0 (gcFr true [0, 1, 5] s) := execD_loopF _ _ _ s
theorem x32_0 (E : Env) (s : Fr × Heap) : loopF E true [0, 1, 12, 13] ir32_b0 s = andN (execD E ir32_d0 s) (loopK E true [0, 1, 12, 13] ir32_b0) := loopF_K _ _ _ s
@[simp] theorem l32_0 (E : Env) (s : Fr × Heap) : execD E ir32_l0 s = loopF E true [0, 1, 12, 13] ir32_b0 (gcFr true [0, 1, 12, 13] s) := execD_loopF _ _ _ s
theorem x62_0 (E : Env) (s : Fr × Heap) : loopF E true [0, 3] ir62_b0 s = andN (execD E ir62_d0 s) (loopK E true [0, 3] ir62_b0) := loopF_K _ _ _ s
@[simp] theorem l62_0 (E : Env) (s : Fr × Heap) : execD E ir62_l0 s = loopF E true [0, 3] ir62_b0 (gcFr true [0, 3] s) := execD_loopF _ _ _ s
theorem x11_0 (E : Env) (s : Fr × Heap) : loopF E true [0, 1, 12, 13] ir11_b0 s = andN (execD E ir11_d0 s) (loopK E true [0, 1, 12, 13] ir11_b0) := loopF_K _ _ _ s
@[simp] theorem l11_0 (E : Env) (s : Fr × Heap) : execD E ir11_l0 s = loopF E true [0, 1, 12, 13] ir11_b0 (gcFr true [0, 1, 12, 13] s) := execD_loopF _ _ _ s
theorem x4_0 (E : Env) (s : Fr × Heap) : loopF E true [33, 34, 43, 302, 303, 304, 317, 318, 319] ir4_b0 s = andN (execD E ir4_d0 s) (loopK E true [33, 34, 43, 302, 303, 304, 317, 318, 319] ir4_b0) := loopF_K _ _ _ s
@[simp] theorem l4_0 (E : Env) (s : Fr × Heap) : execD E ir4_l0 s = loopF E true [33, 34, 43, 302, 303, 304, 317, 318, 319] ir4_b0 (gcFr true [33, 34, 43, 302, 303, 304, 317, 318, 319] s) := execD_loopF _ _ _ s
theorem x4_1 (E : Env) (s : Fr × Heap) : loopF E true [33, 34, 43, 302, 303, 304] ir4_b1 s = andN (execD E ir4_d1 s) (loopK E true [33, 34, 43, 302, 303, 304] ir4_b1) := loopF_K _ _ _ s
@[simp] theorem l4_1 (E : Env) (s : Fr × Heap) : execD E ir4_l1 s = loopF E true [33, 34, 43, 302, 303, 304] ir4_b1 (gcFr true [33, 34, 43, 302, 303, 304] s) := execD_loopF _ _ _ s
theorem x4_2 (E : Env) (s : Fr × Heap) : loopF E true [26, 27, 28, 33, 34, 35, 39, 40, 275, 276, 277] ir4_b2 s = andN (execD E ir4_d2 s) (loopK E true [26, 27, 28, 33, 34, 35, 39, 40, 275, 276, 277] ir4_b2) := loopF_K _ _ _ s
@[simp] theorem l4_2 (E : Env) (s : Fr × Heap) : execD E ir4_l2 s = loopF E true [26, 27, 28, 33, 34, 35, 39, 40, 275, 276, 277] ir4_b2 (gcFr true [26, 27, 28, 33, 34, 35, 39, 40, 275, 276, 277] s) := execD_loopF _ _ _ s
theorem x4_3 (E : Env) (s : Fr × Heap) : loopF E true [1, 5, 6, 7, 123, 124, 125] ir4_b3 s = andN (execD E ir4_d3 s) (loopK E true [1, 5, 6, 7, 123, 124, 125] ir4_b3) := loopF_K _ _ _ s
@[simp] theorem l4_3 (E : Env) (s : Fr × Heap) : execD E ir4_l3 s = loopF E true [1, 5, 6, 7, 123, 124, 125] ir4_b3 (gcFr true [1, 5, 6, 7, 123, 124, 125] s) := execD_loopF _ _ _ s
theorem x19_0 (E : Env) (s : Fr × Heap) : loopF E true [6, 23, 24, 25] ir19_b0 s = andN (execD E ir19_d0 s) (loopK E true [6, 23, 24, 25] ir19_b0) := loopF_K _ _ _ s
@[simp] theorem l19_0 (E : Env) (s : Fr × Heap) : execD E ir19_l0 s = loopF E true [6, 23, 24, 25] ir19_b0 (gcFr true [6, 23, 24, 25] s) := execD_loopF _ _ _ s
theorem x33_0 (E : Env) (s : Fr × Heap) : loopF E true [1, 7, 8, 9] ir33_b0 s = andN (execD E ir33_d0 s) (loopK E true [1, 7, 8, 9] ir33_b0) := loopF_K _ _ _ s
@[simp] theorem l33_0 (E : Env) (s : Fr × Heap) : execD E ir33_l0 s = loopF E true [1, 7, 8, 9] ir33_b0 (gcFr true [1, 7, 8, 9] s) := execD_loopF _ _ _ s
theorem x54_0 (E : Env) (s : Fr × Heap) : loopF E true [1, 3, 7, 8, 9] ir54_b0 s = andN (execD E ir54_d0 s) (loopK E true [1, 3, 7, 8, 9] ir54_b0) := loopF_K _ _ _ s
@[simp] theorem l54_0 (E : Env) (s : Fr × Heap) : execD E ir54_l0 s = loopF E true [1, 3, 7, 8, 9] ir54_b0 (gcFr true [1, 3, 7, 8, 9] s) := execD_loopF _ _ _ s
theorem x55_0 (E : Env) (s : Fr × Heap) : loopF E true [1, 2, 5, 6, 7] ir55_b0 s = andN (execD E ir55_d0 s) (loopK E true [1, 2, 5, 6, 7] ir55_b0) := loopF_K _ _ _ s
@[simp] theorem l55_0 (E : Env) (s : Fr × Heap) : execD E ir55_l0 s = loopF E true [1, 2, 5, 6, 7] ir55_b0 (gcFr true [1, 2, 5, 6, 7] s) := execD_loopF _ _ _ s
theorem x55_1 (E : Env) (s : Fr × Heap) : loopF E true [1, 2, 5, 6] ir55_b1 s = andN (execD E ir55_d1 s) (loopK E true [1, 2, 5, 6] ir55_b1) := loopF_K _ _ _ s
@[simp] theorem l55_1 (E : Env) (s : Fr × Heap) : execD E ir55_l1 s = loopF E true [1, 2, 5, 6] ir55_b1 (gcFr true [1, 2, 5, 6] s) := execD_loopF _ _ _ s
theorem x56_0 (E : Env) (s : Fr × Heap) : loopF E true [0, 3, 4] ir56_b0 s = andN (execD E ir56_d0 s) (loopK E true [0, 3, 4] ir56_b0) := loopF_K _ _ _ s
@[simp] theorem l56_0 (E : Env) (s : Fr × Heap) : execD E ir56_l0 s = loopF E true [0, 3, 4] ir56_b0 (gcFr true [0, 3, 4] s) := execD_loopF _ _ _ s
theorem x60_0 (E : Env) (s : Fr × Heap) : loopF E true [4, 5, 15, 16, 17] ir60_b0 s = andN (execD E ir60_d0 s) (loopK E true [4, 5, 15, 16, 17] ir60_b0) := loopF_K _ _ _ s
@[simp] theorem l60_0 (E : Env) (s : Fr × Heap) : execD E ir60_l0 s = loopF E true [4, 5, 15, 16, 17] ir60_b0 (gcFr true [4, 5, 15, 16, 17] s) := execD_loopF _ _ _ s
theorem x64_0 (E : Env) (s : Fr × Heap) : loopF E true [0, 1, 12, 13] ir64_b0 s = andN (execD E ir64_d0 s) (loopK E true [0, 1, 12, 13] ir64_b0) := loopF_K _ _ _ s
@[simp] theorem l64_0 (E : Env) (s : Fr × Heap) : execD E ir64_l0 s = loopF E true [0, 1, 12, 13] ir64_b0 (gcFr true [0, 1, 12, 13] s) := execD_loopF _ _ _ s
theorem x65_0 (E : Env) (s : Fr × Heap) : loopF E false [0, 2, 3, 4, 5, 6] ir65_b0 s = andN (execD E ir65_d0 s) (loopK E false [0, 2, 3, 4, 5, 6] ir65_b0) := loopF_K _ _ _ s
@[simp] theorem l65_0 (E : Env) (s : Fr × Heap) : execD E ir65_l0 s = loopF E false [0, 2, 3, 4, 5, 6] ir65_b0 (gcFr false [0, 2, 3, 4, 5, 6] s) := execD_loopF _ _ _ s
theorem x68_0 (E : Env) (s : Fr × Heap) : loopF E true [1, 2, 4, 5, 6] ir68_b0 s = andN (execD E ir68_d0 s) (loopK E true [1, 2, 4, 5, 6] ir68_b0) := loopF_K _ _ _ s
@[simp] theorem l68_0 (E : Env) (s : Fr × Heap) : execD E ir68_l0 s = loopF E true [1, 2, 4, 5, 6] ir68_b0 (gcFr true [1, 2, 4, 5, 6] s) := execD_loopF _ _ _ s
theorem x80_0 (E : Env) (s : Fr × Heap) : loopF E true [1, 5, 10, 11, 12] ir80_b0 s = andN (execD E ir80_d0 s) (loopK E true [1, 5, 10, 11, 12] ir80_b0) := loopF_K _ _ _ s
@[simp] theorem l80_0 (E : Env) (s : Fr × Heap) : execD E ir80_l0 s = loopF E true [1, 5, 10, 11, 12] ir80_b0 (gcFr true [1, 5, 10, 11, 12] s) := execD_loopF _ _ _ s
theorem x83_0 (E : Env) (s : Fr × Heap) : loopF E true [3, 15, 16, 17] ir83_b0 s = andN (execD E ir83_d0 s) (loopK E true [3, 15, 16, 17] ir83_b0) := loopF_K _ _ _ s
@[simp] theorem l83_0 (E : Env) (s : Fr × Heap) : execD E ir83_l0 s = loopF E true [3, 15, 16, 17] ir83_b0 (gcFr true [3, 15, 16, 17] s) := execD_loopF _ _ _ s
theorem x86_0 (E : Env) (s : Fr × Heap) : loopF E true [0, 1, 5] ir86_b0 s = andN (execD E ir86_d0 s) (loopK E true [0, 1, 5] ir86_b0) := loopF_K _ _ _ s
@[simp] theorem l86_0 (E : Env) (s : Fr × Heap) : execD E ir86_l0 s = loopF E true [0, 1, 5] ir86_b0 (gcFr true [0, 1, 5] s) := execD_loopF _ _ _ s
theorem x108_0 (E : Env) (s : Fr × Heap) : loopF E true [0, 1, 7, 8] ir108_b0 s = andN (execD E ir108_d0 s) (loopK E true [0, 1, 7, 8] ir108_b0) := loopF_K _ _ _ s
@[simp] theorem l108_0 (E : Env) (s : Fr × Heap) : execD E ir108_l0 s = loopF E true [0, 1, 7, 8] ir108_b0 (gcFr true [0, 1, 7, 8] s) := execD_loopF _ _ _ s
@[simp] theorem e87 : env 87 = some (.ir ir87) := rfl
@[simp] theorem m87 : ir87.mode = .own := rfl
@[simp] theorem c87 (args : List V) (H : Heap) : evCall env (den env) 87 args H = ownC (ownR env 87) H (rdL (rd H depth) args) := call_own e87 rfl args H
@[simp] theorem e81 : env 81 = some (.ir ir81) := rfl
@[simp] theorem m81 : ir81.mode = .ref := rfl
@[simp] theorem c81 (args : List V) (H : Heap) : evCall env (den env) 81 args H = refC2 (den env 81) H (callM.rdArgs H args) := call_ref e81 rfl args H
@[simp] theorem e63 : env 63 = some (.ir ir63) := rfl
@[simp] theorem m63 : ir63.mode = .own := rfl
@[simp] theorem c63 (args : List V) (H : Heap) : evCall env (den env) 63 args H = ownC (ownR env 63) H (rdL (rd H depth) args) := call_own e63 rfl args H
@[simp] theorem e71 : env 71 = some (.ir ir71) := rfl
@[simp] theorem m71 : ir71.mode = .own := rfl
@[simp] theorem c71 (args : List V) (H : Heap) : evCall env (den env) 71 args H = ownC (ownR env 71) H (rdL (rd H depth) args) := call_own e71 rfl args H
@[simp] theorem e72 : env 72 = some (.ir ir72) := rfl
@[simp] theorem m72 : ir72.mode = .own := rfl
@[simp] theorem c72 (args : List V) (H : Heap) : evCall env (den env) 72 args H = ownC (ownR env 72) H (rdL (rd H depth) args) := call_own e72 rfl args H
@[simp] theorem e69 : env 69 = some (.ir ir69) := rfl
@[simp] theorem m69 : ir69.mode = .own := rfl
@[simp] theorem c69 (args : List V) (H : Heap) : evCall env (den env) 69 args H = ownC (ownR env 69) H (rdL (rd H depth) args) := call_own e69 rfl args H
@[simp] theorem e100 : env 100 = some (.ir ir100) := rfl
@[simp] theorem m100 : ir100.mode = .ref := rfl
@[simp] theorem c100 (args : List V) (H : Heap) : evCall env (den env) 100 args H = refC2 (den env 100) H (callM.rdArgs H args) := call_ref e100 rfl args H
@[simp] theorem e92 : env 92 = some (.ir ir92) := rfl
@[simp] theorem m92 : ir92.mode = .own := rfl
@[simp] theorem c92 (args : List V) (H : Heap) : evCall env (den env) 92 args H = ownC (ownR env 92) H (rdL (rd H depth) args) := call_own e92 rfl args H
@[simp] theorem e90 : env 90 = some (.ir ir90) := rfl
@[simp] theorem m90 : ir90.mode = .own := rfl
@[simp] theorem c90 (args : List V) (H : Heap) : evCall env (den env) 90 args H = ownC (ownR env 90) H (rdL (rd H depth) args) := call_own e90 rfl args H
@[simp] theorem e93 : env 93 = some (.ir ir93) := rfl
@[simp] theorem m93 : ir93.mode = .own := rfl
@[simp] theorem c93 (args : List V) (H : Heap) : evCall env (den env) 93 args H = ownC (ownR env 93) H (rdL (rd H depth) args) := call_own e93 rfl args H
@[simp] theorem e104 : env 104 = some (.ir ir104) := rfl
@[simp] theorem m104 : ir104.mode = .own := rfl
@[simp] theorem c104 (args : List V) (H : Heap) : evCall env (den env) 104 args H = ownC (ownR env 104) H (rdL (rd H depth) args) := call_own e104 rfl args H
@[simp] theorem e103 : env 103 = some (.ir ir103) := rfl
@[simp] theorem m103 : ir103.mode = .own := rfl
@[simp] theorem c103 (args : List V) (H : Heap) : evCall env (den env) 103 args H = ownC (ownR env 103) H (rdL (rd H depth) args) := call_own e103 rfl args H
@[simp] theorem e40 : env 40 = some (.ir ir40) := rfl
@[simp] theorem m40 : ir40.mode = .own := rfl
@[simp] theorem c40 (args : List V) (H : Heap) : evCall env (den env) 40 args H = ownC (ownR env 40) H (rdL (rd H depth) args) := call_own e40 rfl args H
@[simp] theorem e57 : env 57 = some (.ir ir57) := rfl
@[simp] theorem m57 : ir57.mode = .own := rfl
@[simp] theorem c57 (args : List V) (H : Heap) : evCall env (den env) 57 args H = ownC (ownR env 57) H (rdL (rd H depth) args) := call_own e57 rfl args H
@[simp] theorem e5 : env 5 = some (.ir ir5) := rfl
@[simp] theorem m5 : ir5.mode = .own := rfl
@[simp] theorem c5 (args : List V) (H : Heap) : evCall env (den env) 5 args H = ownC (ownR env 5) H (rdL (rd H depth) args) := call_own e5 rfl args H
@[simp] theorem e43 : env 43 = some (.ir ir43) := rfl
@[simp] theorem m43 : ir43.mode = .ref := rfl
@[simp] theorem c43 (args : List V) (H : Heap) : evCall env (den env) 43 args H = refC2 (den env 43) H (callM.rdArgs H args) := call_ref e43 rfl args H
@[simp] theorem e66 : env 66 = some (.ir ir66) := rfl
@[simp] theorem m66 : ir66.mode = .ref := rfl
@[simp] theorem c66 (args : List V) (H : Heap) : evCall env (den env) 66 args H = refC2 (den env 66) H (callM.rdArgs H args) := call_ref e66 rfl args H
@[simp] theorem e42 : env 42 = some (.ir ir42) := rfl
@[simp] theorem m42 : ir42.mode = .ref := rfl
@[simp] theorem c42 (args : List V) (H : Heap) : evCall env (den env) 42 args H = refC2 (den env 42) H (callM.rdArgs H args) := call_ref e42 rfl args H
@[simp] theorem e77 : env 77 = some (.ir ir77) := rfl
@[simp] theorem m77 : ir77.mode = .ref := rfl
@[simp] theorem c77 (args : List V) (H : Heap) : evCall env (den env) 77 args H = refC2 (den env 77) H (callM.rdArgs H args) := call_ref e77 rfl args H
@[simp] theorem e70 : env 70 = some (.ir ir70) := rfl
@[simp] theorem m70 : ir70.mode = .ref := rfl
@[simp] theorem c70 (args : List V) (H : Heap) : evCall env (den env) 70 args H = refC2 (den env 70) H (callM.rdArgs H args) := call_ref e70 rfl args H
@[simp] theorem e27 : env 27 = some (.ir ir27) := rfl
@[simp] theorem m27 : ir27.mode = .own := rfl
@[simp] theorem c27 (args : List V) (H : Heap) : evCall env (den env) 27 args H = ownC (ownR env 27) H (rdL (rd H depth) args) := call_own e27 rfl args H
@[simp] theorem e32 : env 32 = some (.ir ir32) := rfl
@[simp] theorem m32 : ir32.mode = .own := rfl
@[simp] theorem c32 (args : List V) (H : Heap) : evCall env (den env) 32 args H = ownC (ownR env 32) H (rdL (rd H depth) args) := call_own e32 rfl args H
@[simp] theorem e61 : env 61 = some (.ir ir61) := rfl
@[simp] theorem m61 : ir61.mode = .own := rfl
@[simp] theorem c61 (args : List V) (H : Heap) : evCall env (den env) 61 args H = ownC (ownR env 61) H (rdL (rd H depth) args) := call_own e61 rfl args H
@[simp] theorem e62 : env 62 = some (.ir ir62) := rfl
@[simp] theorem m62 : ir62.mode = .own := rfl
@[simp] theorem c62 (args : List V) (H : Heap) : evCall env (den env) 62 args H = ownC (ownR env 62) H (rdL (rd H depth) args) := call_own e62 rfl args H
@[simp] theorem e91 : env 91 = some (.ir ir91) := rfl
@[simp] theorem m91 : ir91.mode = .own := rfl
@[simp] theorem c91 (args : List V) (H : Heap) : evCall env (den env) 91 args H = ownC (ownR env 91) H (rdL (rd H depth) args) := call_own e91 rfl args H
@[simp] theorem e11 : env 11 = some (.ir ir11) := rfl
@[simp] theorem m11 : ir11.mode = .own := rfl
@[simp] theorem c11 (args : List V) (H : Heap) : evCall env (den env) 11 args H = ownC (ownR env 11) H (rdL (rd H depth) args) := call_own e11 rfl args H
@[simp] theorem e4 : env 4 = some (.ir ir4) := rfl
@[simp] theorem m4 : ir4.mode = .own := rfl
@[simp] theorem c4 (args : List V) (H : Heap) : evCall env (den env) 4 args H = ownC (ownR env 4) H (rdL (rd H depth) args) := call_own e4 rfl args H
@[simp] theorem e17 : env 17 = some (.ir ir17) := rfl
@[simp] theorem m17 : ir17.mode = .ownF := rfl
@[simp] theorem c17 (args : List V) (H : Heap) : evCall env (den env) 17 args H = ownFC (ownFR env 17) H (rdL (rd H depth) args) := call_ownF e17 rfl args H
@[simp] theorem e18 : env 18 = some (.ir ir18) := rfl
@[simp] theorem m18 : ir18.mode = .ownF := rfl
@[simp] theorem c18 (args : List V) (H : Heap) : evCall env (den env) 18 args H = ownFC (ownFR env 18) H (rdL (rd H depth) args) := call_ownF e18 rfl args H
@[simp] theorem e19 : env 19 = some (.ir ir19) := rfl
@[simp] theorem m19 : ir19.mode = .ownF := rfl
@[simp] theorem c19 (args : List V) (H : Heap) : evCall env (den env) 19 args H = ownFC (ownFR env 19) H (rdL (rd H depth) args) := call_ownF e19 rfl args H
@[simp] theorem e20 : env 20 = some (.ir ir20) := rfl
@[simp] theorem m20 : ir20.mode = .own := rfl
@[simp] theorem c20 (args : List V) (H : Heap) : evCall env (den env) 20 args H = ownC (ownR env 20) H (rdL (rd H depth) args) := call_own e20 rfl args H
@[simp] theorem e21 : env 21 = some (.ir ir21) := rfl
@[simp] theorem m21 : ir21.mode = .own := rfl
@[simp] theorem c21 (args : List V) (H : Heap) : evCall env (den env) 21 args H = ownC (ownR env 21) H (rdL (rd H depth) args) := call_own e21 rfl args H
@[simp] theorem e22 : env 22 = some (.ir ir22) := rfl
@[simp] theorem m22 : ir22.mode = .own := rfl
@[simp] theorem c22 (args : List V) (H : Heap) : evCall env (den env) 22 args H = ownC (ownR env 22) H (rdL (rd H depth) args) := call_own e22 rfl args H
@[simp] theorem e23 : env 23 = some (.ir ir23) := rfl
@[simp] theorem m23 : ir23.mode = .own := rfl
@[simp] theorem c23 (args : List V) (H : Heap) : evCall env (den env) 23 args H = ownC (ownR env 23) H (rdL (rd H depth) args) := call_own e23 rfl args H
@[simp] theorem e24 : env 24 = some (.ir ir24) := rfl
@[simp] theorem m24 : ir24.mode = .own := rfl
@[simp] theorem c24 (args : List V) (H : Heap) : evCall env (den env) 24 args H = ownC (ownR env 24) H (rdL (rd H depth) args) := call_own e24 rfl args H
@[simp] theorem e25 : env 25 = some (.ir ir25) := rfl
@[simp] theorem m25 : ir25.mode = .own := rfl
@[simp] theorem c25 (args : List V) (H : Heap) : evCall env (den env) 25 args H = ownC (ownR env 25) H (rdL (rd H depth) args) := call_own e25 rfl args H
@[simp] theorem e26 : env 26 = some (.ir ir26) := rfl
@[simp] theorem m26 : ir26.mode = .own := rfl
@[simp] theorem c26 (args : List V) (H : Heap) : evCall env (den env) 26 args H = ownC (ownR env 26) H (rdL (rd H depth) args) := call_own e26 rfl args H
@[simp] theorem e28 : env 28 = some (.ir ir28) := rfl
@[simp] theorem m28 : ir28.mode = .ownF := rfl
@[simp] theorem c28 (args : List V) (H : Heap) : evCall env (den env) 28 args H = ownFC (ownFR env 28) H (rdL (rd H depth) args) := call_ownF e28 rfl args H
@[simp] theorem e29 : env 29 = some (.ir ir29) := rfl
@[simp] theorem m29 : ir29.mode = .own := rfl
@[simp] theorem c29 (args : List V) (H : Heap) : evCall env (den env) 29 args H = ownC (ownR env 29) H (rdL (rd H depth) args) := call_own e29 rfl args H
@[simp] theorem e30 : env 30 = some (.ir ir30) := rfl
@[simp] theorem m30 : ir30.mode = .ownF := rfl
@[simp] theorem c30 (args : List V) (H : Heap) : evCall env (den env) 30 args H = ownFC (ownFR env 30) H (rdL (rd H depth) args) := call_ownF e30 rfl args H
@[simp] theorem e31 : env 31 = some (.ir ir31) := rfl
@[simp] theorem m31 : ir31.mode = .own := rfl
@[simp] theorem c31 (args : List V) (H : Heap) : evCall env (den env) 31 args H = ownC (ownR env 31) H (rdL (rd H depth) args) := call_own e31 rfl args H
@[simp] theorem e33 : env 33 = some (.ir ir33) := rfl
@[simp] theorem m33 : ir33.mode = .own := rfl
@[simp] theorem c33 (args : List V) (H : Heap) : evCall env (den env) 33 args H = ownC (ownR env 33) H (rdL (rd H depth) args) := call_own e33 rfl args H
@[simp] theorem e48 : env 48 = some (.ir ir48) := rfl
@[simp] theorem m48 : ir48.mode = .ownF := rfl
@[simp] theorem c48 (args : List V) (H : Heap) : evCall env (den env) 48 args H = ownFC (ownFR env 48) H (rdL (rd H depth) args) := call_ownF e48 rfl args H
@[simp] theorem e49 : env 49 = some (.ir ir49) := rfl
@[simp] theorem m49 : ir49.mode = .own := rfl
@[simp] theorem c49 (args : List V) (H : Heap) : evCall env (den env) 49 args H = ownC (ownR env 49) H (rdL (rd H depth) args) := call_own e49 rfl args H
@[simp] theorem e50 : env 50 = some (.ir ir50) := rfl
@[simp] theorem m50 : ir50.mode = .own := rfl
@[simp] theorem c50 (args : List V) (H : Heap) : evCall env (den env) 50 args H = ownC (ownR env 50) H (rdL (rd H depth) args) := call_own e50 rfl args H
@[simp] theorem e51 : env 51 = some (.ir ir51) := rfl
@[simp] theorem m51 : ir51.mode = .ownF := rfl
@[simp] theorem c51 (args : List V) (H : Heap) : evCall env (den env) 51 args H = ownFC (ownFR env 51) H (rdL (rd H depth) args) := call_ownF e51 rfl args H
@[simp] theorem e52 : env 52 = some (.ir ir52) := rfl
@[simp] theorem m52 : ir52.mode = .own := rfl
@[simp] theorem c52 (args : List V) (H : Heap) : evCall env (den env) 52 args H = ownC (ownR env 52) H (rdL (rd H depth) args) := call_own e52 rfl args H
@[simp] theorem e53 : env 53 = some (.ir ir53) := rfl
@[simp] theorem m53 : ir53.mode = .own := rfl
@[simp] theorem c53 (args : List V) (H : Heap) : evCall env (den env) 53 args H = ownC (ownR env 53) H (rdL (rd H depth) args) := call_own e53 rfl args H
@[simp] theorem e54 : env 54 = some (.ir ir54) := rfl
@[simp] theorem m54 : ir54.mode = .own := rfl
@[simp] theorem c54 (args : List V) (H : Heap) : evCall env (den env) 54 args H = ownC (ownR env 54) H (rdL (rd H depth) args) := call_own e54 rfl args H
@[simp] theorem e55 : env 55 = some (.ir ir55) := rfl
@[simp] theorem m55 : ir55.mode = .own := rfl
@[simp] theorem c55 (args : List V) (H : Heap) : evCall env (den env) 55 args H = ownC (ownR env 55) H (rdL (rd H depth) args) := call_own e55 rfl args H
@[simp] theorem e56 : env 56 = some (.ir ir56) := rfl
@[simp] theorem m56 : ir56.mode = .own := rfl
@[simp] theorem c56 (args : List V) (H : Heap) : evCall env (den env) 56 args H = ownC (ownR env 56) H (rdL (rd H depth) args) := call_own e56 rfl args H
@[simp] theorem e58 : env 58 = some (.ir ir58) := rfl
@[simp] theorem m58 : ir58.mode = .own := rfl
@[simp] theorem c58 (args : List V) (H : Heap) : evCall env (den env) 58 args H = ownC (ownR env 58) H (rdL (rd H depth) args) := call_own e58 rfl args H
@[simp] theorem e59 : env 59 = some (.ir ir59) := rfl
@[simp] theorem m59 : ir59.mode = .own := rfl
@[simp] theorem c59 (args : List V) (H : Heap) : evCall env (den env) 59 args H = ownC (ownR env 59) H (rdL (rd H depth) args) := call_own e59 rfl args H
@[simp] theorem e60 : env 60 = some (.ir ir60) := rfl
@[simp] theorem m60 : ir60.mode = .own := rfl
@[simp] theorem c60 (args : List V) (H : Heap) : evCall env (den env) 60 args H = ownC (ownR env 60) H (rdL (rd H depth) args) := call_own e60 rfl args H
@[simp] theorem e64 : env 64 = some (.ir ir64) := rfl
@[simp] theorem m64 : ir64.mode = .own := rfl
@[simp] theorem c64 (args : List V) (H : Heap) : evCall env (den env) 64 args H = ownC (ownR env 64) H (rdL (rd H depth) args) := call_own e64 rfl args H
@[simp] theorem e65 : env 65 = some (.ir ir65) := rfl
@[simp] theorem m65 : ir65.mode = .ref := rfl
@[simp] theorem c65 (args : List V) (H : Heap) : evCall env (den env) 65 args H = refC2 (den env 65) H (callM.rdArgs H args) := call_ref e65 rfl args H
@[simp] theorem e67 : env 67 = some (.ir ir67) := rfl
@[simp] theorem m67 : ir67.mode = .own := rfl
@[simp] theorem c67 (args : List V) (H : Heap) : evCall env (den env) 67 args H = ownC (ownR env 67) H (rdL (rd H depth) args) := call_own e67 rfl args H
@[simp] theorem e68 : env 68 = some (.ir ir68) := rfl
@[simp] theorem m68 : ir68.mode = .own := rfl
@[simp] theorem c68 (args : List V) (H : Heap) : evCall env (den env) 68 args H = ownC (ownR env 68) H (rdL (rd H depth) args) := call_own e68 rfl args H
@[simp] theorem e79 : env 79 = some (.ir ir79) := rfl
@[simp] theorem m79 : ir79.mode = .own := rfl
@[simp] theorem c79 (args : List V) (H : Heap) : evCall env (den env) 79 args H = ownC (ownR env 79) H (rdL (rd H depth) args) := call_own e79 rfl args H
@[simp] theorem e80 : env 80 = some (.ir ir80) := rfl
@[simp] theorem m80 : ir80.mode = .own := rfl
@[simp] theorem c80 (args : List V) (H : Heap) : evCall env (den env) 80 args H = ownC (ownR env 80) H (rdL (rd H depth) args) := call_own e80 rfl args H
@[simp] theorem e82 : env 82 = some (.ir ir82) := rfl
@[simp] theorem m82 : ir82.mode = .ref := rfl
@[simp] theorem c82 (args : List V) (H : Heap) : evCall env (den env) 82 args H = refC2 (den env 82) H (callM.rdArgs H args) := call_ref e82 rfl args H
@[simp] theorem e83 : env 83 = some (.ir ir83) := rfl
@[simp] theorem m83 : ir83.mode = .own := rfl
@[simp] theorem c83 (args : List V) (H : Heap) : evCall env (den env) 83 args H = ownC (ownR env 83) H (rdL (rd H depth) args) := call_own e83 rfl args H
@[simp] theorem e84 : env 84 = some (.ir ir84) := rfl
@[simp] theorem m84 : ir84.mode = .own := rfl
@[simp] theorem c84 (args : List V) (H : Heap) : evCall env (den env) 84 args H = ownC (ownR env 84) H (rdL (rd H depth) args) := call_own e84 rfl args H
@[simp] theorem e85 : env 85 = some (.ir ir85) := rfl
@[simp] theorem m85 : ir85.mode = .own := rfl
@[simp] theorem c85 (args : List V) (H : Heap) : evCall env (den env) 85 args H = ownC (ownR env 85) H (rdL (rd H depth) args) := call_own e85 rfl args H
@[simp] theorem e86 : env 86 = some (.ir ir86) := rfl
@[simp] theorem m86 : ir86.mode = .own := rfl
@[simp] theorem c86 (args : List V) (H : Heap) : evCall env (den env) 86 args H = ownC (ownR env 86) H (rdL (rd H depth) args) := call_own e86 rfl args H
@[simp] theorem e88 : env 88 = some (.ir ir88) := rfl
@[simp] theorem m88 : ir88.mode = .own := rfl
@[simp] theorem c88 (args : List V) (H : Heap) : evCall env (den env) 88 args H = ownC (ownR env 88) H (rdL (rd H depth) args) := call_own e88 rfl args H
@[simp] theorem e94 : env 94 = some (.ir ir94) := rfl
@[simp] theorem m94 : ir94.mode = .ref := rfl
@[simp] theorem c94 (args : List V) (H : Heap) : evCall env (den env) 94 args H = refC2 (den env 94) H (callM.rdArgs H args) := call_ref e94 rfl args H
@[simp] theorem e99 : env 99 = some (.ir ir99) := rfl
@[simp] theorem m99 : ir99.mode = .own := rfl
@[simp] theorem c99 (args : List V) (H : Heap) : evCall env (den env) 99 args H = ownC (ownR env 99) H (rdL (rd H depth) args) := call_own e99 rfl args H
@[simp] theorem e102 : env 102 = some (.ir ir102) := rfl
@[simp] theorem m102 : ir102.mode = .own := rfl
@[simp] theorem c102 (args : List V) (H : Heap) : evCall env (den env) 102 args H = ownC (ownR env 102) H (rdL (rd H depth) args) := call_own e102 rfl args H
@[simp] theorem e105 : env 105 = some (.ir ir105) := rfl
@[simp] theorem m105 : ir105.mode = .ref := rfl
@[simp] theorem c105 (args : List V) (H : Heap) : evCall env (den env) 105 args H = refC2 (den env 105) H (callM.rdArgs H args) := call_ref e105 rfl args H
@[simp] theorem e108 : env 108 = some (.ir ir108) := rfl
@[simp] theorem m108 : ir108.mode = .own := rfl
@[simp] theorem c108 (args : List V) (H : Heap) : evCall env (den env) 108 args H = ownC (ownR env 108) H (rdL (rd H depth) args) := call_own e108 rfl args H
@[simp] theorem e101 : env 101 = some (.prim .own (cloneP 1)) := rfl
@[simp] theorem c101 (args : List V) (H : Heap) : evCall env (den env) 101 args H = ownC (primR (cloneP 1)) H (rdL (rd H depth) args) := call_prim e101 args H
@[simp] theorem e89 : env 89 = some (.prim .own (cloneP 1)) := rfl
@[simp] theorem c89 (args : List V) (H : Heap) : evCall env (den env) 89 args H = ownC (primR (cloneP 1)) H (rdL (rd H depth) args) := call_prim e89 args H
end Go.Proofs.Ytanlmanifpknoaa.Ev
namespace Go.Proofs.Ytanlmanifpknoaa.Ev
open Go
set_option linter.unusedVariables false
set_option linter.unusedSimpArgs false
attribute [local simp] til_getE til_length til_get til_drop til_take til_append til_nil til_cons til_replicate til_set
def inB (x a b : Int) : Bool := decide (a ≤ x ∧ x ≤ b)
theorem inB_iff (x a b : Int) : inB x a b = true ↔ a ≤ x ∧ x ≤ b := by simp [inB]
theorem w96 {n : Int} (h : -9223372036854775808 ≤ n ∧ n ≤ 9223372036854775807) : IntKind.i64.wrap n = n := IntWalk.i64_in n h

@[simp] theorem r40 (x a b : Int) : ownR env 40 [ti x, ti a, ti b] = some (.t (tb (inB x a b)), []) := by
  rw [own_ir e40 _ rfl]
  by_cases h : a ≤ x <;> simp [ir40, ir40_c, h, inB]
@[simp] theorem r57 (x a b : Int) : ownR env 57 [ti x, ti a, ti b] = some (.t (tb (inB x a b)), []) := by
  rw [own_ir e57 _ rfl]
  by_cases h : a ≤ x <;> simp [ir57, ir57_c, h, inB]
theorem r87 (l : List Int) (h : l.length ≤ 1000) : ownR env 87 [tl l] = some (.ref 0 0 l.length, [.pure 1 (til l)]) := by
  rw [own_ir e87 _ rfl]
  simp [ir87, ir87_c, show l.length ≤ 68719476736 by omega, til_flat]
end Go.Proofs.Ytanlmanifpknoaa.Ev

namespace Go.Proofs.Ytanlmanifpknoaa.Ev
open Go
set_option linter.unusedVariables false
set_option linter.unusedSimpArgs false
attribute [local simp] til_getE til_length til_get til_drop til_take til_append til_nil til_cons til_replicate til_set
end Go.Proofs.Ytanlmanifpknoaa.Ev

namespace Go.Proofs.Ytanlmanifpknoaa.Ev
open Go
set_option linter.unusedVariables false
set_option linter.unusedSimpArgs false
attribute [local simp] til_getE til_length til_get til_drop til_take til_append til_nil til_cons til_replicate til_set
end Go.Proofs.Ytanlmanifpknoaa.Ev

namespace Go.Proofs.Ytanlmanifpknoaa.Ev
open Go
set_option linter.unusedVariables false
set_option linter.unusedSimpArgs false
attribute [local simp] til_getE til_length til_get til_drop til_take til_append til_nil til_cons til_replicate til_set
def indexI (x : Int) : Nat → List Int → Int
  | _, [] => -1
  | i, y :: ys => if x = y then i else indexI x (i + 1) ys
theorem indexI_nonneg (x : Int) : ∀ (ys : List Int) (i : Nat), 0 ≤ indexI x i ys ↔ x ∈ ys
  | [], i => by simp [indexI]
  | y :: ys, i => by
    simp only [indexI]
    split
    · rename_i h; simp [h]
    · rename_i h; rw [indexI_nonneg x ys (i + 1)]; simp [h]

theorem l104 (g : List Int) (x : Int) (hg : g.length ≤ 1000000) : ∀ (d i : Nat) (R : Option (V × Heap)), i + d = g.length →
    endO [.tmp 4] (andN (outB 0 (loopF env true [0, 1, 7, 8] ir104_b0 ([(0, .t (tl g)), (1, .t (ti x)), (7, .t (ti g.length)), (8, .t (ti i))], []))) (execD env (.seq (.reg false [] [⟨some 4, none, .mv (.k (ti (-1)))⟩]) .ret))) = some (.t (ti (indexI x i (g.drop i))), [])
  | 0, i, R, hi => by
    rw [x104_0]
    have : i = g.length := by omega
    subst this
    simp [ir104_d0, indexI]
  | d + 1, i, R, hi => by
    rw [x104_0]
    have hlt : i < g.length := by omega
    have hw : IntKind.i64.wrap ((i : Int) + 1) = (i : Int) + 1 := w96 (by omega)
    have ih := l104 g x hg d (i + 1) R (by omega)
    by_cases h : x = g[i]
    · have hs : indexI x i (g.drop i) = (i : Int) := by rw [List.drop_eq_getElem_cons hlt, indexI, if_pos h]
      simp [ir104_d0, hlt, hw, ← h, hs]
    · have hs : indexI x i (g.drop i) = indexI x (i + 1) (g.drop (i + 1)) := by rw [List.drop_eq_getElem_cons hlt, indexI, if_neg h]
      simp at ih
      simp [ir104_d0, hlt, hw, hs, h, ih]
theorem r104 (g : List Int) (x : Int) (hg : g.length ≤ 1000000) : ownR env 104 [tl g, ti x] = some (.t (ti (indexI x 0 g)), []) := by
  rw [own_ir e104 _ rfl]
  have hl := l104 g x hg g.length 0 none (by omega)
  simp at hl
  simp [ir104, ir104_c, hl]
theorem r92 (g : List Int) (x : Int) (hg : g.length ≤ 1000000) : ownR env 92 [tl g, ti x] = some (.t (tb (decide (x ∈ g))), []) := by
  rw [own_ir e92 _ rfl]
  simp [ir92, ir92_c, r104 g x hg, indexI_nonneg]
@[simp] theorem r93 (x : Int) : ownR env 93 [ti x] = some (.t (tb (decide (x.tmod 2 = 0))), []) := by
  rw [own_ir e93 _ rfl]
  simp [ir93, ir93_c]
def evenI : Nat → List Int → Int
  | _, [] => -1
  | i, y :: ys => if y.tmod 2 = 0 then i else evenI (i + 1) ys
theorem evenI_nonneg : ∀ (ys : List Int) (i : Nat), 0 ≤ evenI i ys ↔ ∃ y ∈ ys, y.tmod 2 = 0
  | [], i => by simp [evenI]
  | y :: ys, i => by
    simp only [evenI]
    split
    · rename_i h; simp [h]
    · rename_i h; rw [evenI_nonneg ys (i + 1)]; simp [h]
theorem l103 (g : List Int) (hg : g.length ≤ 1000000) : ∀ (d i : Nat), i + d = g.length →
    endO [.tmp 4] (andN (outB 0 (loopF env true [0, 1, 7, 8] ir103_b0 ([(0, .t (tl g)), (1, .t (.clo 93 [] [])), (7, .t (ti g.length)), (8, .t (ti i))], []))) (execD env (.seq (.reg false [] [⟨some 4, none, .mv (.k (ti (-1)))⟩]) .ret))) = some (.t (ti (evenI i (g.drop i))), [])
  | 0, i, hi => by
    rw [x103_0]
    have : i = g.length := by omega
    subst this
    simp [ir103_d0, evenI]
  | d + 1, i, hi => by
    rw [x103_0]
    have hlt : i < g.length := by omega
    have hw : IntKind.i64.wrap ((i : Int) + 1) = (i : Int) + 1 := w96 (by omega)
    have ih := l103 g hg d (i + 1) (by omega)
    by_cases h : (g[i]).tmod 2 = 0
    · have hs : evenI i (g.drop i) = (i : Int) := by rw [List.drop_eq_getElem_cons hlt, evenI, if_pos h]
      simp [ir103_d0, hlt, hw, hs, h]
    · have hs : evenI i (g.drop i) = evenI (i + 1) (g.drop (i + 1)) := by rw [List.drop_eq_getElem_cons hlt, evenI, if_neg h]
      simp at ih
      simp [ir103_d0, hlt, hw, hs, h, ih]
theorem r103 (g : List Int) (hg : g.length ≤ 1000000) : ownR env 103 [tl g, .clo 93 [] []] = some (.t (ti (evenI 0 g)), []) := by
  rw [own_ir e103 _ rfl]
  have hl := l103 g hg g.length 0 (by omega)
  simp at hl
  simp [ir103, ir103_c, hl]
theorem r90 (g : List Int) (hg : g.length ≤ 1000000) : ownR env 90 [tl g, .clo 93 [] []] = some (.t (tb (decide (∃ y ∈ g, y.tmod 2 = 0))), []) := by
  rw [own_ir e90 _ rfl]
  simp [ir90, ir90_c, r103 g hg, evenI_nonneg]
def calmI (g l : List Int) : Bool := l.all fun k => decide (k.tmod 2 = 0) || decide (IntKind.i64.wrap (k - 1) ∈ g) || !decide (∃ y ∈ g, y.tmod 2 = 0)
theorem l63 (g : List Int) (hg : g.length ≤ 1000000) : ∀ (d i : Nat), i + d = g.length →
    endO [.tmp 2] (andN (outB 0 (loopF env true [0, 5, 6, 7] ir63_b0 ([(0, .t (tl g)), (5, .t (tl g)), (6, .t (ti g.length)), (7, .t (ti i))], []))) (execD env (.seq (.reg false [] [⟨some 2, none, .mv (.k (tb true))⟩]) .ret))) = some (.t (tb (calmI g (g.drop i))), [])
  | 0, i, hi => by
    rw [x63_0]
    have : i = g.length := by omega
    subst this
    simp [ir63_d0, calmI]
  | d + 1, i, hi => by
    rw [x63_0]
    have hlt : i < g.length := by omega
    have hw : IntKind.i64.wrap ((i : Int) + 1) = (i : Int) + 1 := w96 (by omega)
    have ih := l63 g hg d (i + 1) (by omega)
    have hs : calmI g (g.drop i) = ((decide ((g[i]).tmod 2 = 0) || decide (IntKind.i64.wrap (g[i] - 1) ∈ g) || !decide (∃ y ∈ g, y.tmod 2 = 0)) && calmI g (g.drop (i + 1))) := by rw [List.drop_eq_getElem_cons hlt]; rfl
    simp at ih
    rw [hs]
    have h43 := r92 g (IntKind.i64.wrap (g[i] - 1)) hg
    have h44 := r90 g hg
    generalize decide (∃ y ∈ g, y.tmod 2 = 0) = b3 at *
    generalize decide (IntKind.i64.wrap (g[i] - 1) ∈ g) = b2 at *
    by_cases h1 : (g[i]).tmod 2 = 0
    · simp [ir63_d0, hlt, hw, h1, ih]
    · cases b2 with
      | true => simp [ir63_d0, hlt, hw, h1, h43, ih]
      | false =>
        cases b3 with
        | true => simp [ir63_d0, hlt, hw, h1, h43, h44, ih]
        | false => simp [ir63_d0, hlt, hw, h1, h43, h44, ih]
theorem r63 (g : List Int) (hg : g.length ≤ 1000000) : ownR env 63 [tl g] = some (.t (tb (calmI g g)), []) := by
  rw [own_ir e63 _ rfl]
  have hl := l63 g hg g.length 0 (by omega)
  simp at hl
  simp [ir63, ir63_c, hl]
end Go.Proofs.Ytanlmanifpknoaa.Ev

namespace Go.Proofs.Ytanlmanifpknoaa.Ev
open Go
set_option linter.unusedVariables false
set_option linter.unusedSimpArgs false
attribute [local simp] til_getE til_length til_get til_drop til_take til_append til_nil til_cons til_replicate til_set
theorem l71 (g : List Int) (a b : Int) (hg : g.length ≤ 1000000) : ∀ (d i : Nat), i + d = g.length → 
    endO [.tmp 6] (andN (outB 0 (loopF env true [0, 1, 2, 9, 10, 11] ir71_b0 ([(0, .t (tl g)), (1, .t (ti a)), (2, .t (ti b)), (9, .t (tl g)), (10, .t (ti g.length)), (11, .t (ti i))], []))) (execD env (.seq (.reg false [] [⟨some 6, none, .mv (.k (tb true))⟩]) .ret))) =
      some (.t (tb ((g.drop i).all (fun x => inB x a b) && (List.range' i d).all fun j => decide (j = 0) || decide (g[j - 1]?.getD 0 < g[j]?.getD 0))), [])
  | 0, i, hi => by
    rw [x71_0]
    have : i = g.length := by omega
    subst this
    simp [ir71_d0]
  | d + 1, i, hi => by
    rw [x71_0]
    have hlt : i < g.length := by omega
    have hw : IntKind.i64.wrap ((i : Int) + 1) = (i : Int) + 1 := w96 (by omega)
    have hw2 : IntKind.i64.wrap ((i : Int) - 1) = (i : Int) - 1 := w96 (by omega)
    have ih := l71 g a b hg d (i + 1) (by omega)
    have hs : (g.drop i).all (fun x => inB x a b) = (inB g[i] a b && (g.drop (i + 1)).all (fun x => inB x a b)) := by rw [List.drop_eq_getElem_cons hlt]; rfl
    have hr : List.range' i (d + 1) = i :: List.range' (i + 1) d := rfl
    rw [hs, hr, List.all_cons]
    generalize (g.drop (i + 1)).all (fun x => inB x a b) = A at *
    generalize ((List.range' (i + 1) d).all fun j => decide (j = 0) || decide (g[j - 1]?.getD 0 < g[j]?.getD 0)) = R at *
    simp at ih
    cases h1 : inB g[i] a b with
    | false => simp [ir71_d0, hlt, hw, h1]
    | true =>
      rcases Nat.eq_zero_or_pos i with h0 | h0
      · subst h0
        have hw0 : IntKind.i64.wrap 1 = 1 := w96 (by omega)
        simp at ih
        simp [ir71_d0, hlt, h1, ih, hw0]
      · have e2001 : ((i : Int) - 1).toNat = i - 1 := by omega
        have e2002 : i - 1 < g.length := by omega
        by_cases h2 : g[i] ≤ g[i - 1]
        · have h3 : ¬ (g[i - 1] < g[i]) := by omega
          simp [ir71_d0, hlt, hw, hw2, h1, h0, e2001, e2002, h2, h3, ih, show (1 : Int) ≤ i by omega, show i ≠ 0 by omega]
        · have h3 : g[i - 1] < g[i] := by omega
          simp [ir71_d0, hlt, hw, hw2, h1, h0, e2001, e2002, h2, h3, ih, show (1 : Int) ≤ i by omega, show i ≠ 0 by omega]
def risesB (a b : Int) (g : List Int) : Bool := g.all (fun x => inB x a b) && (List.range' 0 g.length).all fun j => decide (j = 0) || decide (g[j - 1]?.getD 0 < g[j]?.getD 0)
theorem r71 (g : List Int) (a b : Int) (hg : g.length ≤ 1000000) : ownR env 71 [tl g, ti a, ti b] = some (.t (tb (risesB a b g)), []) := by
  rw [own_ir e71 _ rfl]
  have hl := l71 g a b hg g.length 0 (by omega)
  simp at hl
  simp [ir71, ir71_c, hl, risesB]
end Go.Proofs.Ytanlmanifpknoaa.Ev

namespace Go.Proofs.Ytanlmanifpknoaa.Ev
open Go
set_option linter.unusedVariables false
set_option linter.unusedSimpArgs false
attribute [local simp] til_getE til_length til_get til_drop til_take til_append til_nil til_cons til_replicate til_set
theorem or64 (x y : Nat) (hx : x < 2 ^ 62) (hy : y < 2 ^ 62) : orI .i64 (x : Int) (y : Int) = ((x ||| y : Nat) : Int) := by
  unfold orI
  have e : ∀ z : Nat, z < 2 ^ 62 → (BitVec.ofInt 64 (z : Int)).toNat = z := fun z hz => by
    rw [BitVec.toNat_ofInt]; omega
  have h : (BitVec.ofInt IntKind.i64.bits (x : Int) ||| BitVec.ofInt IntKind.i64.bits (y : Int)).toNat = x ||| y := by
    show (BitVec.ofInt 64 (x : Int) ||| BitVec.ofInt 64 (y : Int)).toNat = _
    rw [BitVec.toNat_or, e x hx, e y hy]
  rw [h]
  have := Nat.or_lt_two_pow hx hy
  exact w96 (by omega)
theorem shl64 (i : Nat) (hi : i ≤ 60) : shlI .i64 1 (i : Int) = ((2 ^ i : Nat) : Int) := by
  unfold shlI
  have e : min ((i : Int)).toNat IntKind.i64.bits = i := by show min ((i : Int)).toNat 64 = i; omega
  rw [e]
  have : (2 : Nat) ^ i ≤ 2 ^ 60 := Nat.pow_le_pow_right (by decide) hi
  have e2002 : (1 : Int) * 2 ^ i = ((2 ^ i : Nat) : Int) := by simp
  rw [e2002]
  generalize (2 : Nat) ^ i = M at *
  exact w96 (by omega)
theorem shr64 (N i : Nat) (hi : i ≤ 60) : shrI .i64 (N : Int) (i : Int) = ((N / 2 ^ i : Nat) : Int) := by
  unfold shrI
  have e : min ((i : Int)).toNat IntKind.i64.bits = i := by show min ((i : Int)).toNat 64 = i; omega
  rw [e, Int.fdiv_eq_ediv_of_nonneg _ (by exact Int.le_of_lt (Int.pow_pos (by decide)))]
  simp
def bitsI : List Int → Nat → Nat
  | [], N => N
  | k :: g, N => bitsI g (N ||| 2 ^ k.toNat)
theorem l69 (g : List Int) (hg : g.length ≤ 1000000) (hk : ∀ k ∈ g, 0 ≤ k ∧ k < 40) : ∀ (d i N : Nat), i + d = g.length → N < 2 ^ 61 →
    loopF env true [3, 6, 7, 8] ir69_b0 ([(3, .t (ti N)), (6, .t (tl g)), (7, .t (ti g.length)), (8, .t (ti i))], []) =
      some (.exit 0, [(3, .t (ti (bitsI (g.drop i) N : Nat))), (6, .t (tl g)), (7, .t (ti g.length)), (8, .t (ti g.length)), (9, .t (tb false))], [])
  | 0, i, N, hi, hN => by
    rw [x69_0]
    have : i = g.length := by omega
    subst this
    simp [ir69_d0, bitsI]
  | d + 1, i, N, hi, hN => by
    rw [x69_0]
    have hlt : i < g.length := by omega
    have hw : IntKind.i64.wrap ((i : Int) + 1) = (i : Int) + 1 := w96 (by omega)
    have hs : bitsI (g.drop i) N = bitsI (g.drop (i + 1)) (N ||| 2 ^ (g[i]).toNat) := by rw [List.drop_eq_getElem_cons hlt, bitsI]
    have hkk := hk g[i] (List.getElem_mem hlt)
    obtain ⟨k, hke⟩ : ∃ k : Nat, g[i] = k := ⟨(g[i]).toNat, by omega⟩
    have hp : (2 : Nat) ^ k < 2 ^ 61 := Nat.pow_lt_pow_right (by decide) (by omega)
    have hor := Nat.or_lt_two_pow hN hp
    have ih := l69 g hg hk d (i + 1) (N ||| 2 ^ k) (by omega) hor
    have h1 := shl64 k (by omega)
    have h2 := or64 N (2 ^ k) (by omega) (by omega)
    simp only [hke, Int.toNat_natCast] at hs
    rw [hs]
    generalize bitsI (g.drop (i + 1)) (N ||| 2 ^ k) = Z at ih ⊢
    generalize hM : (2 : Nat) ^ k = M at *
    generalize N ||| M = NM at *
    simp at ih
    simp [ir69_d0, hlt, hw, hke, h1, h2, ih, show ¬ ((k : Int) < 0) by omega]
theorem r69 (g : List Int) (hg : g.length ≤ 1000000) (hk : ∀ k ∈ g, 0 ≤ k ∧ k < 40) : ownR env 69 [tl g] = some (.t (ti (bitsI g 0 : Nat)), []) := by
  rw [own_ir e69 _ rfl]
  have hl := l69 g hg hk g.length 0 0 (by omega) (by decide)
  simp at hl
  simp [ir69, ir69_c, hl]
end Go.Proofs.Ytanlmanifpknoaa.Ev

namespace Go.Proofs.Ytanlmanifpknoaa.Ev
open Go
set_option linter.unusedVariables false
set_option linter.unusedSimpArgs false
attribute [local simp] til_getE til_length til_get til_drop til_take til_append til_nil til_cons til_replicate til_set
theorem l39i (a N : Nat) (ha : a ≤ 20) (i : Int) : ∀ (d j : Nat), j + d = a →
    if (List.range' j d).any (fun j => decide (N / 2 ^ (2 * j) % 2 = 1)) then ∃ fr, loopF env true [0, 1, 5, 6] ir72_b0 ([(0, .t (ti a)), (1, .t (ti N)), (5, .t (ti i)), (6, .t (ti j))], []) = some (.ret, fr, []) ∧ fr.get 4 = .t (tb false)
    else loopF env true [0, 1, 5, 6] ir72_b0 ([(0, .t (ti a)), (1, .t (ti N)), (5, .t (ti i)), (6, .t (ti j))], []) = some (.exit 2, [(0, .t (ti a)), (1, .t (ti N)), (5, .t (ti i)), (6, .t (ti a)), (18, .t (ti a)), (19, .t (ti a)), (20, .t (tb false))], [])
  | 0, j, hi => by
    rw [x72_0]
    have : j = a := by omega
    subst this
    simp [ir72_d0]
  | d + 1, j, hi => by
    rw [x72_0]
    have hlt : j < a := by omega
    have hw : IntKind.i64.wrap ((j : Int) + 1) = (j : Int) + 1 := w96 (by omega)
    have hw2 : IntKind.i64.wrap (2 * (j : Int)) = ((2 * j : Nat) : Int) := by rw [w96 (by omega)]; omega
    have hsh := shr64 N (2 * j) (by omega)
    have ih := l39i a N ha i d (j + 1) (by omega)
    have hr : List.range' j (d + 1) = j :: List.range' (j + 1) d := rfl
    rw [hr, List.any_cons]
    generalize ((List.range' (j + 1) d).any fun j => decide (N / 2 ^ (2 * j) % 2 = 1)) = R at *
    generalize N / 2 ^ (2 * j) = M at *
    generalize hJ : 2 * j = J at *
    by_cases h : M % 2 = 1
    · have h1 : (M : Int).tmod 2 = 1 := by rw [Int.tmod_eq_emod_of_nonneg (by omega)]; omega
      have h2 : (M : Int) % 2 = 1 := by omega
      simp [ir72_d0, hlt, hw2, hsh, h, h1, h2, show ¬ ((J : Int) < 0) by omega]
    · have h1 : ¬ (M : Int).tmod 2 = 1 := by rw [Int.tmod_eq_emod_of_nonneg (by omega)]; omega
      have h2 : ¬ (M : Int) % 2 = 1 := by omega
      have h3 : M % 2 = 0 := by omega
      have h4 : (M : Int) % 2 = 0 := by omega
      simp at ih
      simp [ir72_d0, hlt, hw, hw2, hsh, h, h1, h2, h3, h4, show ¬ ((J : Int) < 0) by omega, ih]
def cuB (a N : Nat) : Bool := !((List.range' 0 a).any (fun i => decide (N / 2 ^ (2 * i) % 4 = 2)) && (List.range' 0 a).any (fun j => decide (N / 2 ^ (2 * j) % 2 = 1)))
theorem l72 (a N : Nat) (ha : a ≤ 20) : ∀ (d i : Nat), i + d = a →
    endO [.tmp 4] (andN (outB 0 (loopF env true [0, 1, 5] ir72_b1 ([(0, .t (ti a)), (1, .t (ti N)), (5, .t (ti i))], []))) (execD env (.seq (.reg false [] [⟨some 4, none, .mv (.k (tb true))⟩]) .ret))) =
      some (.t (tb (!((List.range' i d).any (fun i => decide (N / 2 ^ (2 * i) % 4 = 2)) && (List.range' 0 a).any (fun j => decide (N / 2 ^ (2 * j) % 2 = 1))))), [])
  | 0, i, hi => by
    rw [x72_1]
    have : i = a := by omega
    subst this
    simp [ir72_d1]
  | d + 1, i, hi => by
    rw [x72_1]
    have hlt : i < a := by omega
    have hw : IntKind.i64.wrap ((i : Int) + 1) = (i : Int) + 1 := w96 (by omega)
    have hw2 : IntKind.i64.wrap (2 * (i : Int)) = ((2 * i : Nat) : Int) := by rw [w96 (by omega)]; omega
    have hsh := shr64 N (2 * i) (by omega)
    have hin := l39i a N ha i a 0 (by omega)
    have ih := l72 a N ha d (i + 1) (by omega)
    have hr : List.range' i (d + 1) = i :: List.range' (i + 1) d := rfl
    rw [hr, List.any_cons]
    generalize ((List.range' 0 a).any fun j => decide (N / 2 ^ (2 * j) % 2 = 1)) = B at *
    generalize ((List.range' (i + 1) d).any fun i => decide (N / 2 ^ (2 * i) % 4 = 2)) = R at *
    generalize N / 2 ^ (2 * i) = M at *
    generalize hJ : 2 * i = J at *
    simp at ih hin
    by_cases h : M % 4 = 2
    · have h1 : (M : Int).tmod 4 = 2 := by rw [Int.tmod_eq_emod_of_nonneg (by omega)]; omega
      have h2 : (M : Int) % 4 = 2 := by omega
      cases B with
      | true =>
        simp at hin
        obtain ⟨fr, k2001, k2002⟩ := hin
        simp [ir72_d1, hlt, hw, hw2, hsh, h, h1, h2, show ¬ ((J : Int) < 0) by omega, k2001, k2002]
      | false =>
        simp at hin
        simp [ir72_d1, hlt, hw, hw2, hsh, h, h1, h2, show ¬ ((J : Int) < 0) by omega, hin, ih]
    · have h1 : ¬ (M : Int).tmod 4 = 2 := by rw [Int.tmod_eq_emod_of_nonneg (by omega)]; omega
      have h2 : ¬ (M : Int) % 4 = 2 := by omega
      simp [ir72_d1, hlt, hw, hw2, hsh, h, h1, h2, show ¬ ((J : Int) < 0) by omega, ih]
theorem r72 (a N : Nat) (ha : a ≤ 20) : ownR env 72 [ti a, ti N] = some (.t (tb (cuB a N)), []) := by
  rw [own_ir e72 _ rfl]
  have hl := l72 a N ha a 0 (by omega)
  simp at hl
  simp [ir72, ir72_c, hl, cuB]
end Go.Proofs.Ytanlmanifpknoaa.Ev

namespace Go.Proofs.Ytanlmanifpknoaa.Ev
open Go
set_option linter.unusedVariables false
set_option linter.unusedSimpArgs false
attribute [local simp] til_getE til_length til_get til_drop til_take til_append til_nil til_cons til_replicate til_set
end Go.Proofs.Ytanlmanifpknoaa.Ev

namespace Go.Proofs.Ytanlmanifpknoaa.Ev
open Go
set_option linter.unusedVariables false
set_option linter.unusedSimpArgs false
attribute [local simp] til_getE til_length til_get til_drop til_take til_append til_nil til_cons til_replicate til_set
end Go.Proofs.Ytanlmanifpknoaa.Ev

namespace Go.Proofs.Ytanlmanifpknoaa.Ev
open Go
set_option linter.unusedVariables false
set_option linter.unusedSimpArgs false
attribute [local simp] til_getE til_length til_get til_drop til_take til_append til_nil til_cons til_replicate til_set
theorem risesB_in {a b : Int} {g : List Int} (h : risesB a b g = true) : ∀ k ∈ g, a ≤ k ∧ k ≤ b := fun k hk => by
  unfold risesB at h
  rw [Bool.and_eq_true, List.all_eq_true] at h
  exact (inB_iff _ _ _).1 (h.1 k hk)
end Go.Proofs.Ytanlmanifpknoaa.Ev

namespace Go.Proofs.Ytanlmanifpknoaa.Ev
open Go
set_option linter.unusedVariables false
set_option linter.unusedSimpArgs false
theorem til_snoc (l : List Int) (x : Int) : til l ++ [.int .i64 x] = til (l ++ [x]) := by simp [til]
theorem til_fold (a b : List Int) : til a ++ til b = til (a ++ b) := by simp [til]
theorem take_snoc {α : Type} (l : List α) (x : α) : (l ++ [x]).take (l.length + 1) = l ++ [x] := List.take_of_length_le (by simp)
attribute [local simp] til_getE til_length til_get til_drop til_take til_snoc til_fold take_snoc
def tll (gl : List (List Int)) : List T := gl.map fun l => .lst 1 (til l)
theorem tll_length (gl : List (List Int)) : (tll gl).length = gl.length := by simp [tll]
theorem tll_take (gl : List (List Int)) (n : Nat) : (tll gl).take n = tll (gl.take n) := by simp [tll, List.map_take]
theorem tll_get (gl : List (List Int)) (i : Nat) : (tll gl)[i]? = gl[i]?.map fun l => .lst 1 (til l) := by simp [tll]
theorem tll_getE (gl : List (List Int)) (i : Nat) (h : i < (tll gl).length) : (tll gl)[i] = .lst 1 (til (gl[i]'(by simpa [tll] using h))) := by simp [tll]
theorem tll_fold (a b : List (List Int)) : tll a ++ tll b = tll (a ++ b) := by simp [tll]
theorem tll_one (l : List Int) : [T.lst 1 (til l)] = tll [l] := rfl
def grps (most : Int) : List Int → List Int → List (List Int)
  | [], _ => []
  | x :: rest, l => if (l.length : Int) < most then (l ++ [x]) :: (grps most rest (l ++ [x]) ++ grps most rest l) else []
theorem grps_full (most : Int) (rest l : List Int) (h : ¬ (l.length : Int) < most) : grps most rest l = [] := by
  cases rest with
  | nil => rfl
  | cons x r => simp [grps, h]
theorem grps_len (most : Int) : ∀ (rest l : List Int), (grps most rest l).length + 1 ≤ 2 ^ rest.length
  | [], _ => by simp [grps]
  | x :: rest, l => by
    have h1 := grps_len most rest (l ++ [x])
    have h2 := grps_len most rest l
    simp only [grps]
    split
    · simp only [List.length_cons, List.length_append, Nat.pow_succ]
      omega
    · simp only [List.length_nil, List.length_cons, Nat.pow_succ]
      omega

attribute [local simp] tll_length tll_take tll_get tll_getE tll_fold
end Go.Proofs.Ytanlmanifpknoaa.Ev

namespace Go.Proofs.Ytanlmanifpknoaa.Ev
open Go
set_option linter.unusedVariables false
set_option linter.unusedSimpArgs false
attribute [local simp] til_getE til_length til_get til_drop til_take til_snoc til_fold take_snoc tll_length tll_take tll_get tll_getE tll_fold
def voyT (v : Int × List Int) : T := .agg [.int .i64 v.1, .lst 1 (til v.2)]
def tlv (vs : List (Int × List Int)) : List T := vs.map voyT
theorem tlv_length (vs : List (Int × List Int)) : (tlv vs).length = vs.length := by simp [tlv]
theorem tlv_take (vs : List (Int × List Int)) (n : Nat) : (tlv vs).take n = tlv (vs.take n) := by simp [tlv, List.map_take]
theorem tlv_getE (vs : List (Int × List Int)) (i : Nat) (h : i < (tlv vs).length) : (tlv vs)[i] = .agg [.int .i64 (vs[i]'(by simpa [tlv] using h)).1, .lst 1 (til (vs[i]'(by simpa [tlv] using h)).2)] := by simp [tlv, voyT]
theorem grps_lens (most : Int) : ∀ (rest l g : List Int), g ∈ grps most rest l → (g.length : Int) ≤ most
  | [], _, g, h => by simp [grps] at h
  | x :: rest, l, g, h => by
    simp only [grps] at h
    split at h
    · rename_i hlt
      simp only [List.mem_cons, List.mem_append] at h
      rcases h with rfl | h | h
      · simp; omega
      · exact grps_lens most rest (l ++ [x]) g h
      · exact grps_lens most rest l g h
    · cases h
end Go.Proofs.Ytanlmanifpknoaa.Ev

namespace Go.Proofs.Ytanlmanifpknoaa.Ev
open Go
set_option linter.unusedVariables false
set_option linter.unusedSimpArgs false
attribute [local simp] til_getE til_length til_get til_drop til_take til_snoc til_fold take_snoc til_replicate til_set
end Go.Proofs.Ytanlmanifpknoaa.Ev

namespace Go.Proofs.Ytanlmanifpknoaa.Ev
open Go
set_option linter.unusedVariables false
set_option linter.unusedSimpArgs false
attribute [local simp] til_getE til_length til_get til_drop til_take til_snoc til_fold take_snoc til_replicate til_set
end Go.Proofs.Ytanlmanifpknoaa.Ev

namespace Go.Proofs.Ytanlmanifpknoaa.Ev
open Go
set_option linter.unusedVariables false
set_option linter.unusedSimpArgs false
attribute [local simp] til_getE til_length til_get til_drop til_take til_snoc til_fold take_snoc til_replicate til_set
end Go.Proofs.Ytanlmanifpknoaa.Ev

namespace Go.Proofs.Ytanlmanifpknoaa.Ev
open Go
set_option linter.unusedVariables false
set_option linter.unusedSimpArgs false
attribute [local simp] til_getE til_length til_get til_drop til_take til_snoc til_fold take_snoc til_replicate til_set
end Go.Proofs.Ytanlmanifpknoaa.Ev

namespace Go.Proofs.Ytanlmanifpknoaa.Ev
open Go
set_option linter.unusedVariables false
set_option linter.unusedSimpArgs false
attribute [local simp] til_getE til_length til_get til_drop til_take til_snoc til_fold take_snoc til_set
end Go.Proofs.Ytanlmanifpknoaa.Ev

namespace Go.Proofs.Ytanlmanifpknoaa.Ev
open Go
set_option linter.unusedVariables false
set_option linter.unusedSimpArgs false
attribute [local simp] til_getE til_length til_get til_drop til_take til_snoc til_fold take_snoc til_set
end Go.Proofs.Ytanlmanifpknoaa.Ev

namespace Go.Proofs.Ytanlmanifpknoaa.Ev
open Go
set_option linter.unusedVariables false
set_option linter.unusedSimpArgs false
attribute [local simp] til_getE til_length til_get til_drop til_take til_snoc til_fold take_snoc til_set
end Go.Proofs.Ytanlmanifpknoaa.Ev

namespace Go.Proofs.Ytanlmanifpknoaa.Ev
open Go
set_option linter.unusedVariables false
set_option linter.unusedSimpArgs false
attribute [local simp] til_getE til_length til_get til_drop til_take til_snoc til_fold take_snoc til_set
theorem get_app2 {α : Type} {H X : List α} {i : Nat} {b : α} (h : H[i]? = some b) : (H ++ X)[i]? = some b := by
  rw [List.getElem?_append_left (List.getElem?_eq_some_iff.1 h).1]; exact h
end Go.Proofs.Ytanlmanifpknoaa.Ev

namespace Go.Proofs.Ytanlmanifpknoaa.Ev
open Go
set_option linter.unusedVariables false
set_option linter.unusedSimpArgs false
attribute [local simp] til_getE til_length til_get til_drop til_take til_snoc til_fold take_snoc til_set
def raP (v : V) (p : List V × List (Nat × Blk)) : Option (List V × List (Nat × Blk)) := some (v :: p.1, p.2)
@[simp] theorem raP_eq (v : V) (vs : List V) (l : List (Nat × Blk)) : raP v (vs, l) = some (v :: vs, l) := rfl
def raQ (H : Heap) (vs : List V) (q : T × List (Nat × Blk)) : Option (List V × List (Nat × Blk)) := andO (callM.rdArgs H vs) (fun p => some (.t q.1 :: p.1, q.2 ++ p.2))
@[simp] theorem raQ_eq (H : Heap) (vs : List V) (t : T) (l : List (Nat × Blk)) : raQ H vs (t, l) = andO (callM.rdArgs H vs) (fun p => some (.t t :: p.1, l ++ p.2)) := rfl
@[simp] theorem ra_nil (H : Heap) : callM.rdArgs H [] = some ([], []) := rfl
@[simp] theorem ra_ptr (H : Heap) (i j c : Nat) (vs : List V) : callM.rdArgs H (.ptr i j c :: vs) = andO (callM.rdArgs H vs) (raP (.ptr i j c)) := by
  simp only [callM.rdArgs]; cases callM.rdArgs H vs <;> rfl
@[simp] theorem ra_map (H : Heap) (i : Nat) (vs : List V) : callM.rdArgs H (.map i :: vs) = andO (callM.rdArgs H vs) (raP (.map i)) := by
  simp only [callM.rdArgs]; cases callM.rdArgs H vs <;> rfl
@[simp] theorem ra_clo (H : Heap) (f : FuncId) (a b : List V) (vs : List V) : callM.rdArgs H (.clo f a b :: vs) = andO (callM.rdArgs H vs) (raP (.clo f a b)) := by
  simp only [callM.rdArgs]; cases callM.rdArgs H vs <;> rfl
@[simp] theorem ra_t (H : Heap) (x : T) (vs : List V) : callM.rdArgs H (.t x :: vs) = andO (callM.rdArgs H vs) (raP (.t x)) := by
  simp only [callM.rdArgs, depth_eq, r_t6]; cases callM.rdArgs H vs <;> rfl
@[simp] theorem ra_ref (H : Heap) (i o n : Nat) (vs : List V) : callM.rdArgs H (.ref i o n :: vs) = andO (rd H 6 (.ref i o n)) (raQ H vs) := by
  simp only [callM.rdArgs, depth_eq]
  cases rd H 6 (.ref i o n) with
  | none => rfl
  | some p => simp only [andO_some, raQ]; cases callM.rdArgs H vs <;> rfl
@[simp] theorem ra_agg (H : Heap) (x : List V) (vs : List V) : callM.rdArgs H (.agg x :: vs) = andO (rd H 6 (.agg x)) (raQ H vs) := by
  simp only [callM.rdArgs, depth_eq]
  cases rd H 6 (.agg x) with
  | none => rfl
  | some p => simp only [andO_some, raQ]; cases callM.rdArgs H vs <;> rfl
@[simp] theorem refC2_some (g : List V → Heap → Option (V × Heap)) (H : Heap) (as : List V) (l : List (Nat × Blk)) : refC2 g H (some (as, l)) = g as (frz H l) := rfl
structure Steps (f : FuncId) (ps : List V) (Inv : List (List Int) → (Nat → Prop) → Heap → Prop) (ok : List Int → Prop) (M : Nat) : Prop where
  call : ∀ (i o n : Nat) (H : Heap), evCall env (den env) f (.ref i o n :: ps) H = refC2 (den env f) H (andO (rd H 6 (.ref i o n)) (raQ H ps))
  ra : ∀ H, callM.rdArgs H ps = some (ps, [])
  step : ∀ gs W H g, gs.length < M → ok g → Inv gs W H → ∃ v H' W', den env f (.t (tl g) :: ps) H = some (v, H') ∧ H.length ≤ H'.length ∧ Inv (gs ++ [g]) W' H' ∧ (∀ id, W' id → W id ∨ H.length ≤ id) ∧ (∀ id, id < H.length → ¬ W id → H'[id]? = H[id]?)
  stable : ∀ gs W H H', Inv gs W H → H.length ≤ H'.length → (∀ id, W id → H'[id]? = H[id]?) → Inv gs W H'
  small : ∀ gs W H, Inv gs W H → ∀ id, W id → id < H.length

theorem cloneB (B : T) (l : List Int) (hB : B = .nil ∧ l = [] ∨ B = tl l) (h : l.length ≤ 68719476736) : primR (cloneP 1) [B] = some (.ref 0 0 l.length, [.pure 1 (til l)]) := by
  rcases hB with ⟨rfl, rfl⟩ | rfl
  · simp [primR_E, primE, cloneP, til]
  · exact clone_til l h
theorem lenB (H : Heap) (B : T) (l : List Int) (hB : B = .nil ∧ l = [] ∨ B = tl l) : evLen H 1 (.t B) = some (l.length : Int) := by
  rcases hB with ⟨rfl, rfl⟩ | rfl <;> simp
end Go.Proofs.Ytanlmanifpknoaa.Ev

namespace Go.Proofs.Ytanlmanifpknoaa.Ev
open Go
set_option linter.unusedVariables false
set_option linter.unusedSimpArgs false
attribute [local simp] til_getE til_length til_get til_drop til_take til_snoc til_fold take_snoc til_set
structure Ext (W W' : Nat → Prop) (H H' : Heap) : Prop where
  len : H.length ≤ H'.length
  own : ∀ id, W' id → W id ∨ H.length ≤ id
  keep : ∀ id, id < H.length → ¬ W id → H'[id]? = H[id]?
theorem Ext.trans {W W' W'' : Nat → Prop} {H H' H'' : Heap} (h : Ext W W' H H') (h' : Ext W' W'' H' H'') : Ext W W'' H H'' := by
  refine ⟨Nat.le_trans h.len h'.len, fun id hid => ?_, fun id hid hn => ?_⟩
  · rcases h'.own id hid with h1 | h1
    · exact h.own id h1
    · exact .inr (Nat.le_trans h.len h1)
  · rw [h'.keep id (Nat.lt_of_lt_of_le hid h.len) (fun hw => by
      rcases h.own id hw with h1 | h1
      · exact hn h1
      · omega)]
    exact h.keep id hid hn
theorem Ext.app {W : Nat → Prop} {H : Heap} (X : Heap) : Ext W W H (H ++ X) := ⟨by simp, fun id h => .inl h, fun id hid _ => get_app hid⟩
theorem Ext.get {W W' : Nat → Prop} {H H' : Heap} (h : Ext W W' H H') {id : Nat} {b : Blk} (hb : H[id]? = some b) (hn : ¬ W id) : H'[id]? = some b := by
  rw [h.keep id (List.getElem?_eq_some_iff.1 hb).1 hn]; exact hb
theorem Ext.not {W W' : Nat → Prop} {H H' : Heap} (h : Ext W W' H H') {id : Nat} (hid : id < H.length) (hn : ¬ W id) : ¬ W' id := fun hw => by
  rcases h.own id hw with h1 | h1
  · exact hn h1
  · omega
@[simp] theorem set_app0 {α : Type} (H : List α) (a b : α) (X : List α) : (H ++ a :: X).set H.length b = H ++ b :: X := by simp
@[simp] theorem set_app1 {α : Type} (H : List α) (a a1 b : α) (X : List α) : (H ++ a :: a1 :: X).set (H.length + 1) b = H ++ a :: b :: X := by simp
@[simp] theorem set_app2 {α : Type} (H : List α) (a a1 a2 b : α) (X : List α) : (H ++ a :: a1 :: a2 :: X).set (H.length + 2) b = H ++ a :: a1 :: b :: X := by simp
def Ends (r : Option Out) (e : Ex) (H : Heap) : Prop := ∃ fr, r = some (e, fr, H)
@[simp] theorem ends_some (e e' : Ex) (fr : Fr) (H H' : Heap) : Ends (some (e, fr, H)) e' H' ↔ e = e' ∧ H = H' := by
  constructor
  · rintro ⟨_, h⟩; cases h; exact ⟨rfl, rfl⟩
  · rintro ⟨rfl, rfl⟩; exact ⟨_, rfl⟩
structure GB (H : Heap) (ip im ie io : Nat) (people : List Int) (most : Int) (f : FuncId) (ps : List V) : Prop where
  p : H[ip]? = some (.box 1 [.t (tl people)])
  m : H[im]? = some (.box 1 [.t (ti most)])
  e : H[ie]? = some (.box 1 [.clo f [] ps])
  o : H[io]? = some (.box 1 [.clo 100 [] [.ptr ip 0 0, .ptr im 0 0, .ptr ie 0 0, .ptr io 0 0]])
theorem GB.ext {H H' : Heap} {ip im ie io : Nat} {people : List Int} {most : Int} {f : FuncId} {ps : List V} (h : GB H ip im ie io people most f ps) {W W' : Nat → Prop} (he : Ext W W' H H') (h1 : ¬ W ip) (h2 : ¬ W im) (h3 : ¬ W ie) (h4 : ¬ W io) : GB H' ip im ie io people most f ps :=
  ⟨he.get h.p h1, he.get h.m h2, he.get h.e h3, he.get h.o h4⟩

section
variable {f : FuncId} {ps : List V} {Inv : List (List Int) → (Nat → Prop) → Heap → Prop} {ok : List Int → Prop} {M : Nat} (hs : Steps f ps Inv ok M) (ip im ie io : Nat) (people : List Int) (most : Int)
def Stp (r : Option (V × Heap)) (gs new : List (List Int)) (W : Nat → Prop) (H : Heap) : Prop := ∃ v H' W', r = some (v, H') ∧ Inv (gs ++ new) W' H' ∧ Ext W W' H H'
include hs in
theorem l100 (hpl : people.length ≤ 20) (hm : most ≤ 100) (l : List Int) (B : T) (hB : B = .nil ∧ l = [] ∨ B = tl l) (hl : (l.length : Int) ≤ 1000) (i0 : Nat)
    (hok : ∀ g ∈ grps most (people.drop i0) l, ok g)
    (ih : (l.length : Int) < most → ∀ (j : Nat), i0 ≤ j → (hj : j < people.length) → (∀ g ∈ grps most (people.drop (j + 1)) (l ++ [people[j]]), ok g) → ∀ gs W H, gs.length + (grps most (people.drop (j + 1)) (l ++ [people[j]])).length ≤ M → GB H ip im ie io people most f ps → ¬ W ip → ¬ W im → ¬ W ie → ¬ W io → Inv gs W H →
      Stp (Inv := Inv) (den env 100 [.t (ti ((j : Int) + 1)), .t (tl (l ++ [people[j]])), .ptr ip 0 0, .ptr im 0 0, .ptr ie 0 0, .ptr io 0 0] H) gs (grps most (people.drop (j + 1)) (l ++ [people[j]])) W H) :
    ∀ (d j : Nat) gs W H, j + d = people.length → i0 ≤ j → (∀ g ∈ grps most (people.drop j) l, ok g) → gs.length + (grps most (people.drop j) l).length ≤ M → GB H ip im ie io people most f ps → ¬ W ip → ¬ W im → ¬ W ie → ¬ W io → Inv gs W H →
    ∃ H' W', Ends (loopF env false [1, 2, 3, 4, 5, 8] ir100_b0 ([(1, .t B), (2, .ptr ip 0 0), (3, .ptr im 0 0), (4, .ptr ie 0 0), (5, .ptr io 0 0), (8, .t (ti j))], H)) (.exit 0) H' ∧ Inv (gs ++ grps most (people.drop j) l) W' H' ∧ Ext W W' H H'
  | 0, j, gs, W, H, hj, hi0, hok2, hM, hG, h1, h2, h3, h4, hI => by
    have : j = people.length := by omega
    subst this
    rw [x100_0]
    refine ⟨H, W, ?_, by simpa [grps] using hI, by simpa using Ext.app (W := W) (H := H) []⟩
    simp [ir100_d0, hG.p, hG.m]
  | d + 1, j, gs, W, H, hj, hi0, hok2, hM, hG, h1, h2, h3, h4, hI => by
    rw [x100_0]
    have hlt : j < people.length := by omega
    have hlen := fun H => lenB H B l hB
    by_cases hlm : (l.length : Int) < most
    · have hw : IntKind.i64.wrap ((j : Int) + 1) = (j : Int) + 1 := w96 (by omega)
      have hcl := cloneB B l hB (by omega)
      have hg : grps most (people.drop j) l = (l ++ [people[j]]) :: (grps most (people.drop (j + 1)) (l ++ [people[j]]) ++ grps most (people.drop (j + 1)) l) := by
        rw [List.drop_eq_getElem_cons hlt]; simp [grps, hlm]
      rw [hg] at hok2 hM ⊢
      simp only [List.length_cons, List.length_append] at hM
      have hsm := hs.small gs W H hI
      have hI1 : Inv gs W (H ++ [.dead, .pure 1 [.int .i64 people[j]], .froz 1 (til (l ++ [people[j]]))]) := hs.stable gs W H _ hI (by simp) (fun id hid => get_app (hsm id hid))
      obtain ⟨v, H2, W2, hc, hlen2, hI2, ho2, hk2⟩ := hs.step gs W _ _ (by omega) (hok2 _ (List.mem_cons_self ..)) hI1
      have hE1 : Ext W W H (H ++ [.dead, .pure 1 [.int .i64 people[j]], .froz 1 (til (l ++ [people[j]]))]) := Ext.app _
      have hE2 : Ext W W2 (H ++ [.dead, .pure 1 [.int .i64 people[j]], .froz 1 (til (l ++ [people[j]]))]) H2 := ⟨hlen2, ho2, hk2⟩
      have hE := hE1.trans hE2
      have hz : H2[H.length + 2]? = some (.froz 1 (til (l ++ [people[j]]))) := hE2.get (by simp) (fun hw => by have := hsm _ hw; omega)
      have hG2 := hG.ext hE h1 h2 h3 h4
      have hip := (List.getElem?_eq_some_iff.1 hG.p).1
      have him := (List.getElem?_eq_some_iff.1 hG.m).1
      have hie := (List.getElem?_eq_some_iff.1 hG.e).1
      have hio := (List.getElem?_eq_some_iff.1 hG.o).1
      obtain ⟨v3, H3, W3, hc3, hI3, hE3⟩ := ih hlm j hi0 hlt (fun g hg => hok2 g (List.mem_cons_of_mem _ (List.mem_append_left _ hg))) _ W2 H2 (by simp only [List.length_append, List.length_singleton]; omega) hG2 (hE.not hip h1) (hE.not him h2) (hE.not hie h3) (hE.not hio h4) hI2
      have hE4 := hE.trans hE3
      have hG3 := hG.ext hE4 h1 h2 h3 h4
      obtain ⟨H4, W4, ⟨fr', hc4⟩, hI4, hE5⟩ := l100 hpl hm l B hB hl i0 hok ih d (j + 1) _ W3 H3 (by omega) (by omega) (fun g hg => hok2 g (List.mem_cons_of_mem _ (List.mem_append_right _ hg))) (by simp only [List.length_append, List.length_singleton]; omega) hG3 (hE4.not hip h1) (hE4.not him h2) (hE4.not hie h3) (hE4.not hio h4) hI3
      refine ⟨H4, W4, ?_, by simpa using hI4, hE4.trans hE5⟩
      have gp := get_app2 (X := [.dead, .pure 1 [.int .i64 people[j]]]) hG.p
      have hpX : ∀ X, (H ++ X)[ip]? = some (.box 1 [.t (tl people)]) := fun X => get_app2 hG.p
      have heX : ∀ X, (H ++ X)[ie]? = some (.box 1 [.clo f [] ps]) := fun X => get_app2 hG.e
      simp at hc hc3 hc4 hz
      simp [ir100_d0, show l.length ≤ 68719476735 by omega, hG.p, hG.m, hlt, hlen, hlm, hcl, hpX, heX, hw, hs.call, hs.ra, hc, hz, hG2.o, hc3, hc4]
    · have hg : grps most (people.drop j) l = [] := grps_full _ _ _ hlm
      rw [hg]
      refine ⟨H, W, ?_, by simpa using hI, by simpa using Ext.app (W := W) (H := H) []⟩
      simp [ir100_d0, hG.p, hG.m, hlt, hlen, hlm]
include hs in
theorem d100 (hpl : people.length ≤ 20) (hm : most ≤ 100) : ∀ (d i : Nat) (l : List Int) (B : T), i + d = people.length → (B = .nil ∧ l = [] ∨ B = tl l) → (l.length : Int) ≤ 1000 - d → (∀ g ∈ grps most (people.drop i) l, ok g) → ∀ gs W H, gs.length + (grps most (people.drop i) l).length ≤ M → GB H ip im ie io people most f ps → ¬ W ip → ¬ W im → ¬ W ie → ¬ W io → Inv gs W H →
    Stp (Inv := Inv) (den env 100 [.t (ti i), .t B, .ptr ip 0 0, .ptr im 0 0, .ptr ie 0 0, .ptr io 0 0] H) gs (grps most (people.drop i) l) W H := by
  intro d
  induction d using Nat.strongRecOn with
  | ind d ih =>
    intro i l B hi hB hl hok gs W H hM hG h1 h2 h3 h4 hI
    obtain ⟨H', W', ⟨fr, hr⟩, hI', hE⟩ := l100 hs ip im ie io people most hpl hm l B hB (by omega) i hok (fun hlm j hij hj hok' gs W H hM hG h1 h2 h3 h4 hI => by
      have := ih (people.length - (j + 1)) (by omega) (j + 1) (l ++ [people[j]]) (tl (l ++ [people[j]])) (by omega) (.inr rfl) (by rw [List.length_append, List.length_singleton]; omega) hok' gs W H hM hG h1 h2 h3 h4 hI
      rw [Int.natCast_add, Int.natCast_one] at this
      exact this) d i gs W H hi (Nat.le_refl _) hok hM hG h1 h2 h3 h4 hI
    refine ⟨.tup [], H', W', ?_, hI', hE⟩
    rw [den_ir e100 _ _ rfl (.inl rfl)]
    simp [ir100, ir100_c, hr]
theorem d81 {f : FuncId} {caps : List V} (people : List Int) (most : Int) (hs : Steps f caps Inv ok M) (hpl : people.length ≤ 20) (hm : most ≤ 100) (hok : ∀ g ∈ grps most people [], ok g) (gs : List (List Int)) (W : Nat → Prop) (H : Heap) (hM : gs.length + (grps most people []).length ≤ M) (hI : Inv gs W H) :
    Stp (Inv := Inv) (den env 81 [.t (tl people), .t (ti most), .clo f [] caps] H) gs (grps most people []) W H := by
  have hsm := hs.small gs W H hI
  have hn : ∀ k, ¬ W (H.length + k) := fun k hw => by have := hsm _ hw; omega
  have hI1 := hs.stable gs W H (H ++ [.box 1 [.t (tl people)], .box 1 [.t (ti most)], .box 1 [.clo f [] caps], .box 1 [.clo 100 [] [.ptr H.length 0 0, .ptr (H.length + 1) 0 0, .ptr (H.length + 2) 0 0, .ptr (H.length + 3) 0 0]]]) hI (by simp) (fun id hid => get_app (hsm id hid))
  obtain ⟨v, H', W', hr, hI', hE⟩ := d100 hs H.length (H.length + 1) (H.length + 2) (H.length + 3) people most hpl hm people.length 0 [] .nil (by omega) (.inl ⟨rfl, rfl⟩) (by simp; omega) hok gs W _ hM ⟨by simp, by simp, by simp, by simp⟩ (hn 0) (hn 1) (hn 2) (hn 3) hI1
  refine ⟨.tup [], H', W', ?_, hI', (Ext.app _).trans hE⟩
  rw [den_ir e81 _ _ rfl (.inl rfl)]
  simp at hr
  simp [ir81, ir81_c, hr]
end
end Go.Proofs.Ytanlmanifpknoaa.Ev

namespace Go.Proofs.Ytanlmanifpknoaa.Ev
open Go
set_option linter.unusedVariables false
set_option linter.unusedSimpArgs false
attribute [local simp] til_getE til_length til_get til_drop til_take til_snoc til_fold take_snoc til_set
theorem grps_sub (most : Int) : ∀ (rest l g : List Int), g ∈ grps most rest l → ∀ x ∈ g, x ∈ l ∨ x ∈ rest
  | [], _, g, h => by simp [grps] at h
  | y :: rest, l, g, h => by
    intro x hx
    simp only [grps] at h
    split at h
    · rcases List.mem_cons.1 h with rfl | h
      · rcases List.mem_append.1 hx with h | h
        · exact .inl h
        · right; simp at h; simp [h]
      · rcases List.mem_append.1 h with h | h
        · rcases grps_sub most rest _ g h x hx with h | h
          · rcases List.mem_append.1 h with h | h
            · exact .inl h
            · right; simp at h; simp [h]
          · right; exact List.mem_cons_of_mem _ h
        · rcases grps_sub most rest _ g h x hx with h | h
          · exact .inl h
          · right; exact List.mem_cons_of_mem _ h
    · cases h
end Go.Proofs.Ytanlmanifpknoaa.Ev

namespace Go.Proofs.Ytanlmanifpknoaa.Ev
open Go
set_option linter.unusedVariables false
set_option linter.unusedSimpArgs false
attribute [local simp] til_getE til_length til_get til_drop til_take til_snoc til_fold take_snoc til_set
end Go.Proofs.Ytanlmanifpknoaa.Ev

namespace Go.Proofs.Ytanlmanifpknoaa.Ev
open Go
set_option linter.unusedVariables false
set_option linter.unusedSimpArgs false
attribute [local simp] til_getE til_length til_get til_drop til_take til_snoc til_fold take_snoc til_set
def tin (l : List Nat) : List T := l.map fun (n : Nat) => T.int .i64 (n : Int)
theorem tin_length (l : List Nat) : (tin l).length = l.length := by simp [tin]
theorem tin_getE (l : List Nat) (i : Nat) (h : i < (tin l).length) : (tin l)[i] = .int .i64 (l[i]'(by simpa [tin] using h) : Nat) := by simp [tin]
theorem tin_take (l : List Nat) (n : Nat) : (tin l).take n = tin (l.take n) := by simp [tin, List.map_take]
abbrev Ed := Nat × Nat × Int × List Int
def tleN (es : List Ed) : List T := es.map fun e => .agg [.int .i64 e.1, .int .i64 e.2.1, .int .i64 e.2.2.1, .lst 1 (til e.2.2.2)]
theorem tleN_length (es : List Ed) : (tleN es).length = es.length := by simp [tleN]
theorem tleN_getE (es : List Ed) (i : Nat) (h : i < (tleN es).length) : (tleN es)[i] = .agg [.int .i64 (es[i]'(by simpa [tleN] using h)).1, .int .i64 (es[i]'(by simpa [tleN] using h)).2.1, .int .i64 (es[i]'(by simpa [tleN] using h)).2.2.1, .lst 1 (til (es[i]'(by simpa [tleN] using h)).2.2.2)] := by simp [tleN]
variable {i2 i5 i6 : Nat} {many : Int} {clo : T} {dist : List Int} {ws : List (List Nat)} {Vs : List V} {H : Heap}
end Go.Proofs.Ytanlmanifpknoaa.Ev

