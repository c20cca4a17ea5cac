/- The evaluator and what it gives of the functions, part 2. No conditions of ours: a law's row is in YtgmcjejelpeioaaLFnExactCountVoyages. -/
import Derived.Test.YtgmcjejelpeioaaE1
import Derived.IntWalk
namespace Go.Proofs.Ytgmcjejelpeioaa.Ev
def ir3_c : C := (.seq (.reg false [] [⟨(some 1), none, (.box (.v 0))⟩, ⟨(some 2), none, (.mv (.k (.bool false)))⟩]) (.seq (.reg false [] [⟨(some 8), none, (.ld true 3 (.v 1))⟩, ⟨(some 9), none, (.call 9 [(.v 8)])⟩, ⟨(some 10), none, (.call 8 [(.v 9)])⟩, ⟨(some 7), none, (.mv (.v 10))⟩, ⟨(some 11), none, (.ext (.v 7) 0)⟩, ⟨(some 12), none, (.ext (.v 7) 1)⟩, ⟨(some 3), none, (.mv (.v 11))⟩, ⟨(some 4), none, (.mv (.v 12))⟩]) (.seq (.reg false [] [⟨(some 14), none, (.ld true 3 (.v 1))⟩, ⟨(some 15), none, (.call 9 [(.v 14)])⟩, ⟨(some 16), none, (.call 10 [(.v 15)])⟩, ⟨(some 13), none, (.mv (.v 16))⟩, ⟨(some 17), none, (.ext (.v 13) 0)⟩, ⟨(some 18), none, (.ext (.v 13) 1)⟩, ⟨(some 5), none, (.mv (.v 17))⟩, ⟨(some 6), none, (.mv (.v 18))⟩]) (.seq (.seq (.reg false [] [⟨(some 19), none, (.mv (.v 5))⟩, ⟨(some 20), none, (.mv (.v 3))⟩, ⟨(some 21), none, (.bin .neq .none (.v 19) (.v 20))⟩, ⟨(some 22), none, (.mv (.v 21))⟩, ⟨(some 23), (some (22, false)), (.mv (.v 6))⟩, ⟨(some 24), (some (22, false)), (.mv (.v 4))⟩, ⟨(some 25), (some (22, false)), (.bin .neq .bool (.v 23) (.v 24))⟩, ⟨(some 26), none, (.pick (.v 22) (.k (.bool true)) (.v 25))⟩]) (.cond (.v 26) (.seq (.reg false [] [⟨(some 2), none, (.mv (.k (.bool false)))⟩]) .ret) .skip)) (.seq (.reg false [] [⟨(some 2), none, (.mv (.k (.bool true)))⟩]) .ret)))))
def ir3 : Fn := ⟨.own, 1, 27, [(.tmp 2)], ir3_c⟩
def ir4_c : C := (.seq (.reg false [] [⟨(some 1), none, (.box (.v 0))⟩, ⟨(some 2), none, (.mv (.k (.bool false)))⟩]) (.seq (.reg false [] [⟨(some 8), none, (.ld true 3 (.v 1))⟩, ⟨(some 9), none, (.call 9 [(.v 8)])⟩, ⟨(some 10), none, (.call 11 [(.v 9)])⟩, ⟨(some 7), none, (.mv (.v 10))⟩, ⟨(some 11), none, (.ext (.v 7) 0)⟩, ⟨(some 12), none, (.ext (.v 7) 1)⟩, ⟨(some 3), none, (.mv (.v 11))⟩, ⟨(some 4), none, (.mv (.v 12))⟩]) (.seq (.reg false [] [⟨(some 14), none, (.ld true 3 (.v 1))⟩, ⟨(some 15), none, (.call 9 [(.v 14)])⟩, ⟨(some 16), none, (.call 12 [(.v 15)])⟩, ⟨(some 13), none, (.mv (.v 16))⟩, ⟨(some 17), none, (.ext (.v 13) 0)⟩, ⟨(some 18), none, (.ext (.v 13) 1)⟩, ⟨(some 5), none, (.mv (.v 17))⟩, ⟨(some 6), none, (.mv (.v 18))⟩]) (.seq (.seq (.reg false [] [⟨(some 19), none, (.mv (.v 5))⟩, ⟨(some 20), none, (.mv (.v 3))⟩, ⟨(some 21), none, (.bin .neq .none (.v 19) (.v 20))⟩, ⟨(some 22), none, (.mv (.v 21))⟩, ⟨(some 23), (some (22, false)), (.mv (.v 6))⟩, ⟨(some 24), (some (22, false)), (.mv (.v 4))⟩, ⟨(some 25), (some (22, false)), (.bin .neq .bool (.v 23) (.v 24))⟩, ⟨(some 26), none, (.pick (.v 22) (.k (.bool true)) (.v 25))⟩]) (.cond (.v 26) (.seq (.reg false [] [⟨(some 2), none, (.mv (.k (.bool false)))⟩]) .ret) .skip)) (.seq (.reg false [] [⟨(some 2), none, (.mv (.k (.bool true)))⟩]) .ret)))))
def ir4 : Fn := ⟨.own, 1, 27, [(.tmp 2)], ir4_c⟩
def ir5_c : C := (.seq (.reg false [] [⟨(some 1), none, (.box (.v 0))⟩, ⟨(some 2), none, (.mv (.k (.bool false)))⟩]) (.seq (.reg false [] [⟨(some 8), none, (.ld true 3 (.v 1))⟩, ⟨(some 9), none, (.call 9 [(.v 8)])⟩, ⟨(some 10), none, (.call 13 [(.v 9)])⟩, ⟨(some 7), none, (.mv (.v 10))⟩, ⟨(some 11), none, (.ext (.v 7) 0)⟩, ⟨(some 12), none, (.ext (.v 7) 1)⟩, ⟨(some 3), none, (.mv (.v 11))⟩, ⟨(some 4), none, (.mv (.v 12))⟩]) (.seq (.reg false [] [⟨(some 14), none, (.ld true 3 (.v 1))⟩, ⟨(some 15), none, (.call 9 [(.v 14)])⟩, ⟨(some 16), none, (.call 14 [(.v 15)])⟩, ⟨(some 13), none, (.mv (.v 16))⟩, ⟨(some 17), none, (.ext (.v 13) 0)⟩, ⟨(some 18), none, (.ext (.v 13) 1)⟩, ⟨(some 5), none, (.mv (.v 17))⟩, ⟨(some 6), none, (.mv (.v 18))⟩]) (.seq (.seq (.reg false [] [⟨(some 19), none, (.mv (.v 5))⟩, ⟨(some 20), none, (.mv (.v 3))⟩, ⟨(some 21), none, (.bin .neq .none (.v 19) (.v 20))⟩, ⟨(some 22), none, (.mv (.v 21))⟩, ⟨(some 23), (some (22, false)), (.mv (.v 6))⟩, ⟨(some 24), (some (22, false)), (.mv (.v 4))⟩, ⟨(some 25), (some (22, false)), (.bin .neq .bool (.v 23) (.v 24))⟩, ⟨(some 26), none, (.pick (.v 22) (.k (.bool true)) (.v 25))⟩]) (.cond (.v 26) (.seq (.reg false [] [⟨(some 2), none, (.mv (.k (.bool false)))⟩]) .ret) .skip)) (.seq (.reg false [] [⟨(some 2), none, (.mv (.k (.bool true)))⟩]) .ret)))))
def ir5 : Fn := ⟨.own, 1, 27, [(.tmp 2)], ir5_c⟩
def ir6_c : C := (.seq (.reg false [] [⟨(some 1), none, (.box (.v 0))⟩, ⟨(some 2), none, (.mv (.k (.bool false)))⟩]) (.seq (.reg false [] [⟨(some 8), none, (.ld true 3 (.v 1))⟩, ⟨(some 9), none, (.call 9 [(.v 8)])⟩, ⟨(some 10), none, (.call 15 [(.v 9)])⟩, ⟨(some 7), none, (.mv (.v 10))⟩, ⟨(some 11), none, (.ext (.v 7) 0)⟩, ⟨(some 12), none, (.ext (.v 7) 1)⟩, ⟨(some 3), none, (.mv (.v 11))⟩, ⟨(some 4), none, (.mv (.v 12))⟩]) (.seq (.reg false [] [⟨(some 14), none, (.ld true 3 (.v 1))⟩, ⟨(some 15), none, (.call 9 [(.v 14)])⟩, ⟨(some 16), none, (.call 16 [(.v 15)])⟩, ⟨(some 13), none, (.mv (.v 16))⟩, ⟨(some 17), none, (.ext (.v 13) 0)⟩, ⟨(some 18), none, (.ext (.v 13) 1)⟩, ⟨(some 5), none, (.mv (.v 17))⟩, ⟨(some 6), none, (.mv (.v 18))⟩]) (.seq (.seq (.reg false [] [⟨(some 19), none, (.mv (.v 5))⟩, ⟨(some 20), none, (.mv (.v 3))⟩, ⟨(some 21), none, (.bin .neq .none (.v 19) (.v 20))⟩, ⟨(some 22), none, (.mv (.v 21))⟩, ⟨(some 23), (some (22, false)), (.mv (.v 6))⟩, ⟨(some 24), (some (22, false)), (.mv (.v 4))⟩, ⟨(some 25), (some (22, false)), (.bin .neq .bool (.v 23) (.v 24))⟩, ⟨(some 26), none, (.pick (.v 22) (.k (.bool true)) (.v 25))⟩]) (.cond (.v 26) (.seq (.reg false [] [⟨(some 2), none, (.mv (.k (.bool false)))⟩]) .ret) .skip)) (.seq (.reg false [] [⟨(some 2), none, (.mv (.k (.bool true)))⟩]) .ret)))))
def ir6 : Fn := ⟨.own, 1, 27, [(.tmp 2)], ir6_c⟩
def ir7_c : C := (.seq (.reg false [] [⟨(some 1), none, (.box (.v 0))⟩, ⟨(some 2), none, (.mv (.k (.bool false)))⟩]) (.seq (.reg false [] [⟨(some 12), none, (.ld true 3 (.v 1))⟩, ⟨(some 13), none, (.call 9 [(.v 12)])⟩, ⟨(some 14), none, (.call 17 [(.v 13)])⟩, ⟨(some 11), none, (.mv (.v 14))⟩, ⟨(some 15), none, (.ext (.v 11) 0)⟩, ⟨(some 16), none, (.ext (.v 11) 1)⟩, ⟨(some 3), none, (.mv (.v 15))⟩, ⟨(some 4), none, (.mv (.v 16))⟩]) (.seq (.reg false [] [⟨(some 18), none, (.ld true 3 (.v 1))⟩, ⟨(some 19), none, (.call 9 [(.v 18)])⟩, ⟨(some 20), none, (.call 18 [(.v 19)])⟩, ⟨(some 17), none, (.mv (.v 20))⟩, ⟨(some 21), none, (.ext (.v 17) 0)⟩, ⟨(some 22), none, (.ext (.v 17) 1)⟩, ⟨(some 5), none, (.mv (.v 21))⟩, ⟨(some 6), none, (.mv (.v 22))⟩]) (.seq (.seq (.reg false [] [⟨(some 23), none, (.mv (.v 5))⟩, ⟨(some 24), none, (.mv (.v 3))⟩, ⟨(some 25), none, (.call 19 [(.v 23), (.v 24)])⟩, ⟨(some 26), none, (.un .not (.v 25))⟩, ⟨(some 27), none, (.mv (.v 26))⟩, ⟨(some 28), (some (27, false)), (.mv (.v 6))⟩, ⟨(some 29), (some (27, false)), (.mv (.v 4))⟩, ⟨(some 30), (some (27, false)), (.bin .neq .bool (.v 28) (.v 29))⟩, ⟨(some 31), none, (.pick (.v 27) (.k (.bool true)) (.v 30))⟩]) (.cond (.v 31) (.seq (.reg false [] [⟨(some 2), none, (.mv (.k (.bool false)))⟩]) .ret) .skip)) (.seq (.reg false [] [⟨(some 7), none, (.mv (.k (.int .i64 1)))⟩]) (.seq (.reg false [] [⟨(some 32), none, (.mv (.v 5))⟩, ⟨(some 33), none, (.mv (.v 7))⟩, ⟨(some 34), none, (.call 20 [(.v 32), (.v 33)])⟩, ⟨(some 7), none, (.mv (.v 34))⟩]) (.seq (.reg false [] [⟨(some 8), none, (.mv (.k (.int .i64 1)))⟩]) (.seq (.reg false [] [⟨(some 35), none, (.mv (.v 5))⟩, ⟨(some 36), none, (.mv (.v 8))⟩, ⟨(some 37), none, (.call 21 [(.v 35), (.v 36)])⟩, ⟨(some 8), none, (.mv (.v 37))⟩]) (.seq (.seq (.reg false [] [⟨(some 38), none, (.mv (.v 8))⟩, ⟨(some 39), none, (.bin .lss .none (.v 38) (.k (.int .i64 0)))⟩]) (.cond (.v 39) (.seq (.reg false [] [⟨(some 2), none, (.mv (.k (.bool false)))⟩]) .ret) .skip)) (.seq (.seq (.reg false [] [⟨(some 40), none, (.mv (.v 8))⟩, ⟨(some 41), none, (.mv (.v 7))⟩, ⟨(some 42), none, (.bin .neq .none (.v 40) (.v 41))⟩]) (.cond (.v 42) (.seq (.reg false [] [⟨(some 2), none, (.mv (.k (.bool false)))⟩]) .ret) .skip)) (.seq (.reg false [] [⟨(some 44), none, (.ld true 3 (.v 1))⟩, ⟨(some 45), none, (.call 9 [(.v 44)])⟩, ⟨(some 46), none, (.call 18 [(.v 45)])⟩, ⟨(some 43), none, (.mv (.v 46))⟩, ⟨(some 47), none, (.ext (.v 43) 0)⟩, ⟨(some 48), none, (.ext (.v 43) 1)⟩, ⟨(some 9), none, (.mv (.v 47))⟩, ⟨(some 10), none, (.mv (.v 48))⟩]) (.seq (.seq (.reg false [] [⟨(some 49), none, (.mv (.v 9))⟩, ⟨(some 50), none, (.mv (.v 3))⟩, ⟨(some 51), none, (.call 19 [(.v 49), (.v 50)])⟩, ⟨(some 52), none, (.un .not (.v 51))⟩, ⟨(some 53), none, (.mv (.v 52))⟩, ⟨(some 54), (some (53, false)), (.mv (.v 10))⟩, ⟨(some 55), (some (53, false)), (.mv (.v 4))⟩, ⟨(some 56), (some (53, false)), (.bin .neq .bool (.v 54) (.v 55))⟩, ⟨(some 57), none, (.pick (.v 53) (.k (.bool true)) (.v 56))⟩]) (.cond (.v 57) (.seq (.reg false [] [⟨(some 2), none, (.mv (.k (.bool false)))⟩]) .ret) .skip)) (.seq (.reg false [] [⟨(some 8), none, (.mv (.k (.int .i64 1)))⟩]) (.seq (.reg false [] [⟨(some 58), none, (.mv (.v 5))⟩, ⟨(some 59), none, (.mv (.v 8))⟩, ⟨(some 60), none, (.call 21 [(.v 58), (.v 59)])⟩, ⟨(some 8), none, (.mv (.v 60))⟩]) (.seq (.seq (.reg false [] [⟨(some 61), none, (.mv (.v 8))⟩, ⟨(some 62), none, (.bin .lss .none (.v 61) (.k (.int .i64 0)))⟩]) (.cond (.v 62) (.seq (.reg false [] [⟨(some 2), none, (.mv (.k (.bool false)))⟩]) .ret) .skip)) (.seq (.seq (.reg false [] [⟨(some 63), none, (.mv (.v 8))⟩, ⟨(some 64), none, (.mv (.v 7))⟩, ⟨(some 65), none, (.bin .neq .none (.v 63) (.v 64))⟩]) (.cond (.v 65) (.seq (.reg false [] [⟨(some 2), none, (.mv (.k (.bool false)))⟩]) .ret) .skip)) (.seq (.reg false [] [⟨(some 2), none, (.mv (.k (.bool true)))⟩]) .ret)))))))))))))))))
def ir7 : Fn := ⟨.own, 1, 66, [(.tmp 2)], ir7_c⟩
def ir8_c : C := (.seq (.reg false [] [⟨(some 1), none, (.box (.v 0))⟩, ⟨(some 2), none, (.mv (.k (.int .i64 0)))⟩, ⟨(some 3), none, (.mv (.k (.bool false)))⟩]) (.seq (.seq (.reg false [] [⟨(some 7), none, (.ld true 3 (.v 1))⟩, ⟨(some 8), none, (.call 22 [(.v 7)])⟩, ⟨(some 9), none, (.un .not (.v 8))⟩]) (.cond (.v 9) (.seq (.reg false [] [⟨(some 2), none, (.mv (.k (.int .i64 0)))⟩, ⟨(some 3), none, (.mv (.k (.bool false)))⟩]) .ret) .skip)) (.seq (.reg true [0, 0, 2, 7, 15, 31, 31, 31, 63, 383, 1023] [⟨(some 11), none, (.ld true 3 (.v 1))⟩, ⟨(some 12), none, (.ld true 3 (.v 1))⟩, ⟨(some 13), none, (.call 24 [(.v 12), (.k (.int .i64 0))])⟩, ⟨(some 14), none, (.call 23 [(.v 11), (.v 13)])⟩, ⟨(some 10), none, (.mv (.v 14))⟩, ⟨(some 15), none, (.ext (.v 10) 0)⟩, ⟨(some 16), none, (.ext (.v 10) 1)⟩, ⟨(some 17), none, (.ext (.v 10) 2)⟩, ⟨(some 4), none, (.mv (.v 15))⟩, ⟨(some 5), none, (.mv (.v 16))⟩, ⟨(some 6), none, (.mv (.v 17))⟩]) (.seq (.reg false [] [⟨(some 18), none, (.mv (.v 6))⟩, ⟨(some 2), none, (.mv (.v 18))⟩, ⟨(some 3), none, (.mv (.k (.bool true)))⟩]) .ret))))
def ir8 : Fn := ⟨.own, 1, 19, [(.tmp 2), (.tmp 3)], ir8_c⟩
def ir9_c : C := (.seq (.reg false [] [⟨(some 1), none, (.box (.v 0))⟩, ⟨(some 2), none, (.alc 3 [(.int .i64 0), (.int .i64 0), (.int .i64 0)])⟩]) (.seq (.reg false [] [⟨(some 3), none, (.alc 3 [(.int .i64 0), (.int .i64 0), (.int .i64 0)])⟩]) (.seq (.reg false [] [⟨(some 4), none, (.fad 0 (.v 1))⟩, ⟨(some 5), none, (.ld false 1 (.v 4))⟩, ⟨(some 6), none, (.fad 0 (.v 3))⟩, ⟨none, none, (.st 1 (.v 6) (.v 5))⟩]) (.seq (.reg false [] [⟨(some 7), none, (.fad 1 (.v 1))⟩, ⟨(some 8), none, (.ld false 1 (.v 7))⟩, ⟨(some 9), none, (.fad 1 (.v 3))⟩, ⟨none, none, (.st 1 (.v 9) (.v 8))⟩]) (.seq (.reg false [] [⟨(some 10), none, (.fad 2 (.v 1))⟩, ⟨(some 11), none, (.ld false 1 (.v 10))⟩, ⟨(some 12), none, (.fad 2 (.v 3))⟩, ⟨none, none, (.st 1 (.v 12) (.v 11))⟩]) (.seq (.reg false [] [⟨(some 13), none, (.ld true 3 (.v 3))⟩, ⟨none, none, (.st 3 (.v 2) (.v 13))⟩]) .ret))))))
def ir9 : Fn := ⟨.own, 1, 14, [(.cell 2 true 3)], ir9_c⟩
def ir10_c : C := (.seq (.reg false [] [⟨(some 1), none, (.box (.v 0))⟩, ⟨(some 2), none, (.mv (.k (.int .i64 0)))⟩, ⟨(some 3), none, (.mv (.k (.bool false)))⟩]) (.seq (.seq (.reg false [] [⟨(some 4), none, (.ld true 3 (.v 1))⟩, ⟨(some 5), none, (.call 25 [(.v 4)])⟩, ⟨(some 6), none, (.un .not (.v 5))⟩]) (.cond (.v 6) (.seq (.reg false [] [⟨(some 2), none, (.mv (.k (.int .i64 0)))⟩, ⟨(some 3), none, (.mv (.k (.bool false)))⟩]) .ret) .skip)) (.seq (.reg false [] [⟨(some 7), none, (.ld true 3 (.v 1))⟩, ⟨(some 8), none, (.call 26 [(.v 7)])⟩, ⟨(some 9), none, (.call 27 [(.v 8), (.k (.int .i64 0))])⟩, ⟨(some 2), none, (.mv (.v 9))⟩, ⟨(some 3), none, (.mv (.k (.bool true)))⟩]) .ret)))
def ir10 : Fn := ⟨.own, 1, 10, [(.tmp 2), (.tmp 3)], ir10_c⟩
def ir11_c : C := (.seq (.reg false [] [⟨(some 1), none, (.box (.v 0))⟩, ⟨(some 2), none, (.mv (.k (.int .i64 0)))⟩, ⟨(some 3), none, (.mv (.k (.bool false)))⟩]) (.seq (.seq (.reg false [] [⟨(some 6), none, (.ld true 3 (.v 1))⟩, ⟨(some 7), none, (.call 22 [(.v 6)])⟩, ⟨(some 8), none, (.un .not (.v 7))⟩]) (.cond (.v 8) (.seq (.reg false [] [⟨(some 2), none, (.mv (.k (.int .i64 0)))⟩, ⟨(some 3), none, (.mv (.k (.bool false)))⟩]) .ret) .skip)) (.seq (.reg false [] [⟨(some 10), none, (.ld true 3 (.v 1))⟩, ⟨(some 11), none, (.call 28 [(.v 10)])⟩, ⟨(some 9), none, (.mv (.v 11))⟩, ⟨(some 12), none, (.ext (.v 9) 0)⟩, ⟨(some 13), none, (.ext (.v 9) 1)⟩, ⟨(some 4), none, (.mv (.v 12))⟩, ⟨(some 5), none, (.mv (.v 13))⟩]) (.seq (.seq (.reg false [] [⟨(some 14), none, (.mv (.v 4))⟩, ⟨(some 15), none, (.bin .lss .none (.v 14) (.k (.int .i64 0)))⟩]) (.cond (.v 15) (.seq (.reg false [] [⟨(some 2), none, (.mv (.k (.int .i64 0)))⟩, ⟨(some 3), none, (.mv (.k (.bool false)))⟩]) .ret) .skip)) (.seq (.reg false [] [⟨(some 16), none, (.mv (.v 4))⟩, ⟨(some 2), none, (.mv (.v 16))⟩, ⟨(some 3), none, (.mv (.k (.bool true)))⟩]) .ret)))))
def ir11 : Fn := ⟨.own, 1, 17, [(.tmp 2), (.tmp 3)], ir11_c⟩
def ir12_c : C := (.seq (.reg false [] [⟨(some 1), none, (.box (.v 0))⟩, ⟨(some 2), none, (.mv (.k (.int .i64 0)))⟩, ⟨(some 3), none, (.mv (.k (.bool false)))⟩]) (.seq (.seq (.reg false [] [⟨(some 7), none, (.ld true 3 (.v 1))⟩, ⟨(some 8), none, (.call 25 [(.v 7)])⟩, ⟨(some 9), none, (.un .not (.v 8))⟩]) (.cond (.v 9) (.seq (.reg false [] [⟨(some 2), none, (.mv (.k (.int .i64 0)))⟩, ⟨(some 3), none, (.mv (.k (.bool false)))⟩]) .ret) .skip)) (.seq (.reg false [] [⟨(some 11), none, (.ld true 3 (.v 1))⟩, ⟨(some 12), none, (.call 29 [(.v 11)])⟩, ⟨(some 10), none, (.mv (.v 12))⟩, ⟨(some 13), none, (.ext (.v 10) 0)⟩, ⟨(some 14), none, (.ext (.v 10) 1)⟩, ⟨(some 15), none, (.ext (.v 10) 2)⟩, ⟨(some 4), none, (.alc 2 [(.int .i64 0), .nilf])⟩, ⟨none, none, (.st 2 (.v 4) (.v 13))⟩, ⟨(some 5), none, (.mv (.v 14))⟩, ⟨(some 6), none, (.mv (.v 15))⟩]) (.seq (.seq (.reg false [] [⟨(some 16), none, (.mv (.v 6))⟩, ⟨(some 17), none, (.un .not (.v 16))⟩]) (.cond (.v 17) (.seq (.reg false [] [⟨(some 2), none, (.mv (.k (.int .i64 0)))⟩, ⟨(some 3), none, (.mv (.k (.bool false)))⟩]) .ret) .skip)) (.seq (.reg false [] [⟨(some 18), none, (.mv (.v 5))⟩, ⟨(some 19), none, (.ixa 1 (.v 18) (.k (.int .i64 0)))⟩, ⟨(some 20), none, (.ld false 1 (.v 19))⟩, ⟨(some 2), none, (.mv (.v 20))⟩, ⟨(some 3), none, (.mv (.k (.bool true)))⟩]) .ret)))))
def ir12 : Fn := ⟨.own, 1, 21, [(.tmp 2), (.tmp 3)], ir12_c⟩
def ir13_c : C := (.seq (.reg false [] [⟨(some 1), none, (.box (.v 0))⟩, ⟨(some 2), none, (.mv (.k (.int .i64 0)))⟩, ⟨(some 3), none, (.mv (.k (.bool false)))⟩]) (.seq (.seq (.reg false [] [⟨(some 8), none, (.ld true 3 (.v 1))⟩, ⟨(some 9), none, (.call 22 [(.v 8)])⟩, ⟨(some 10), none, (.un .not (.v 9))⟩]) (.cond (.v 10) (.seq (.reg false [] [⟨(some 2), none, (.mv (.k (.int .i64 0)))⟩, ⟨(some 3), none, (.mv (.k (.bool false)))⟩]) .ret) .skip)) (.seq (.reg false [] [⟨(some 12), none, (.ld true 3 (.v 1))⟩, ⟨(some 13), none, (.call 28 [(.v 12)])⟩, ⟨(some 11), none, (.mv (.v 13))⟩, ⟨(some 14), none, (.ext (.v 11) 0)⟩, ⟨(some 15), none, (.ext (.v 11) 1)⟩, ⟨(some 4), none, (.mv (.v 14))⟩, ⟨(some 5), none, (.mv (.v 15))⟩]) (.seq (.reg false [] [⟨(some 16), none, (.fad 2 (.v 1))⟩, ⟨none, none, (.st 1 (.v 16) (.k (.int .i64 0)))⟩]) (.seq (.reg false [] [⟨(some 18), none, (.ld true 3 (.v 1))⟩, ⟨(some 19), none, (.call 28 [(.v 18)])⟩, ⟨(some 17), none, (.mv (.v 19))⟩, ⟨(some 20), none, (.ext (.v 17) 0)⟩, ⟨(some 21), none, (.ext (.v 17) 1)⟩, ⟨(some 6), none, (.mv (.v 20))⟩, ⟨(some 7), none, (.mv (.v 21))⟩]) (.seq (.seq (.reg false [] [⟨(some 22), none, (.mv (.v 4))⟩, ⟨(some 23), none, (.bin .lss .none (.v 22) (.k (.int .i64 0)))⟩, ⟨(some 24), none, (.mv (.v 23))⟩, ⟨(some 25), (some (24, false)), (.mv (.v 6))⟩, ⟨(some 26), (some (24, false)), (.bin .lss .none (.v 25) (.k (.int .i64 0)))⟩, ⟨(some 27), none, (.pick (.v 24) (.k (.bool true)) (.v 26))⟩]) (.cond (.v 27) (.seq (.reg false [] [⟨(some 2), none, (.mv (.k (.int .i64 0)))⟩, ⟨(some 3), none, (.mv (.k (.bool false)))⟩]) .ret) .skip)) (.seq (.reg false [] [⟨(some 28), none, (.mv (.v 6))⟩, ⟨(some 29), none, (.mv (.v 4))⟩, ⟨(some 30), none, (.bin .sub .none (.v 28) (.v 29))⟩, ⟨(some 2), none, (.mv (.v 30))⟩, ⟨(some 3), none, (.mv (.k (.bool true)))⟩]) .ret)))))))
def ir13 : Fn := ⟨.own, 1, 31, [(.tmp 2), (.tmp 3)], ir13_c⟩
def ir14_c : C := (.seq (.reg false [] [⟨(some 1), none, (.box (.v 0))⟩, ⟨(some 2), none, (.mv (.k (.int .i64 0)))⟩, ⟨(some 3), none, (.mv (.k (.bool false)))⟩]) (.seq (.reg false [] [⟨(some 9), none, (.ld true 3 (.v 1))⟩, ⟨(some 10), none, (.call 12 [(.v 9)])⟩, ⟨(some 8), none, (.mv (.v 10))⟩, ⟨(some 11), none, (.ext (.v 8) 0)⟩, ⟨(some 12), none, (.ext (.v 8) 1)⟩, ⟨(some 4), none, (.mv (.v 11))⟩, ⟨(some 5), none, (.mv (.v 12))⟩]) (.seq (.reg false [] [⟨(some 14), none, (.fad 0 (.v 1))⟩, ⟨(some 15), none, (.ld false 1 (.v 14))⟩, ⟨(some 16), none, (.fad 1 (.v 1))⟩, ⟨(some 17), none, (.ld false 1 (.v 16))⟩, ⟨(some 18), none, (.bld [(.int .i64 0), (.int .i64 0), (.int .i64 0)] [(0, (1, (.v 15))), (1, (1, (.v 17))), (2, (1, (.k (.int .i64 0))))])⟩, ⟨(some 19), none, (.call 12 [(.v 18)])⟩, ⟨(some 13), none, (.mv (.v 19))⟩, ⟨(some 20), none, (.ext (.v 13) 0)⟩, ⟨(some 21), none, (.ext (.v 13) 1)⟩, ⟨(some 6), none, (.mv (.v 20))⟩, ⟨(some 7), none, (.mv (.v 21))⟩]) (.seq (.seq (.reg false [] [⟨(some 22), none, (.mv (.v 5))⟩, ⟨(some 23), none, (.un .not (.v 22))⟩, ⟨(some 24), none, (.mv (.v 23))⟩, ⟨(some 25), (some (24, false)), (.mv (.v 7))⟩, ⟨(some 26), (some (24, false)), (.un .not (.v 25))⟩, ⟨(some 27), none, (.pick (.v 24) (.k (.bool true)) (.v 26))⟩]) (.cond (.v 27) (.seq (.reg false [] [⟨(some 2), none, (.mv (.k (.int .i64 0)))⟩, ⟨(some 3), none, (.mv (.k (.bool false)))⟩]) .ret) .skip)) (.seq (.reg false [] [⟨(some 28), none, (.mv (.v 6))⟩, ⟨(some 29), none, (.mv (.v 4))⟩, ⟨(some 30), none, (.bin .sub .none (.v 28) (.v 29))⟩, ⟨(some 2), none, (.mv (.v 30))⟩, ⟨(some 3), none, (.mv (.k (.bool true)))⟩]) .ret)))))
def ir14 : Fn := ⟨.own, 1, 31, [(.tmp 2), (.tmp 3)], ir14_c⟩
def ir15_c : C := (.seq (.reg false [] [⟨(some 1), none, (.box (.v 0))⟩, ⟨(some 2), none, (.mv (.k (.int .i64 0)))⟩, ⟨(some 3), none, (.mv (.k (.bool false)))⟩]) (.seq (.seq (.reg false [] [⟨(some 6), none, (.ld true 3 (.v 1))⟩, ⟨(some 7), none, (.call 22 [(.v 6)])⟩, ⟨(some 8), none, (.un .not (.v 7))⟩]) (.cond (.v 8) (.seq (.reg false [] [⟨(some 2), none, (.mv (.k (.int .i64 0)))⟩, ⟨(some 3), none, (.mv (.k (.bool false)))⟩]) .ret) .skip)) (.seq (.reg false [] [⟨(some 10), none, (.ld true 3 (.v 1))⟩, ⟨(some 11), none, (.call 28 [(.v 10)])⟩, ⟨(some 9), none, (.mv (.v 11))⟩, ⟨(some 12), none, (.ext (.v 9) 0)⟩, ⟨(some 13), none, (.ext (.v 9) 1)⟩, ⟨(some 4), none, (.mv (.v 12))⟩, ⟨(some 5), none, (.mv (.v 13))⟩]) (.seq (.seq (.reg false [] [⟨(some 14), none, (.mv (.v 4))⟩, ⟨(some 15), none, (.bin .lss .none (.v 14) (.k (.int .i64 0)))⟩]) (.cond (.v 15) (.seq (.reg false [] [⟨(some 2), none, (.mv (.k (.int .i64 0)))⟩, ⟨(some 3), none, (.mv (.k (.bool true)))⟩]) .ret) .skip)) (.seq (.reg false [] [⟨(some 16), none, (.mv (.v 5))⟩, ⟨(some 2), none, (.mv (.v 16))⟩, ⟨(some 3), none, (.mv (.k (.bool true)))⟩]) .ret)))))
def ir15 : Fn := ⟨.own, 1, 17, [(.tmp 2), (.tmp 3)], ir15_c⟩
def ir16_c : C := (.seq (.reg false [] [⟨(some 1), none, (.box (.v 0))⟩, ⟨(some 2), none, (.mv (.k (.int .i64 0)))⟩, ⟨(some 3), none, (.mv (.k (.bool false)))⟩]) (.seq (.seq (.reg false [] [⟨(some 7), none, (.ld true 3 (.v 1))⟩, ⟨(some 8), none, (.call 25 [(.v 7)])⟩, ⟨(some 9), none, (.un .not (.v 8))⟩]) (.cond (.v 9) (.seq (.reg false [] [⟨(some 2), none, (.mv (.k (.int .i64 0)))⟩, ⟨(some 3), none, (.mv (.k (.bool false)))⟩]) .ret) .skip)) (.seq (.reg false [] [⟨(some 11), none, (.ld true 3 (.v 1))⟩, ⟨(some 12), none, (.call 29 [(.v 11)])⟩, ⟨(some 10), none, (.mv (.v 12))⟩, ⟨(some 13), none, (.ext (.v 10) 0)⟩, ⟨(some 14), none, (.ext (.v 10) 1)⟩, ⟨(some 15), none, (.ext (.v 10) 2)⟩, ⟨(some 4), none, (.alc 2 [(.int .i64 0), .nilf])⟩, ⟨none, none, (.st 2 (.v 4) (.v 13))⟩, ⟨(some 5), none, (.mv (.v 14))⟩, ⟨(some 6), none, (.mv (.v 15))⟩]) (.seq (.seq (.reg false [] [⟨(some 16), none, (.mv (.v 6))⟩, ⟨(some 17), none, (.un .not (.v 16))⟩]) (.cond (.v 17) (.seq (.reg false [] [⟨(some 2), none, (.mv (.k (.int .i64 0)))⟩, ⟨(some 3), none, (.mv (.k (.bool true)))⟩]) .ret) .skip)) (.seq (.reg false [] [⟨(some 18), none, (.ld true 2 (.v 4))⟩, ⟨(some 19), none, (.mv (.v 5))⟩, ⟨(some 20), none, (.call 30 [(.v 18), (.k (.int .i64 0)), (.v 19)])⟩, ⟨(some 2), none, (.mv (.v 20))⟩, ⟨(some 3), none, (.mv (.k (.bool true)))⟩]) .ret)))))
def ir16 : Fn := ⟨.own, 1, 21, [(.tmp 2), (.tmp 3)], ir16_c⟩
def ir17_d0 : C := (.seq (.reg false [] [⟨(some 46), none, (.bin .lss .none (.v 45) (.v 44))⟩]) (.seq (.cond (.v 46) .skip (.exit 2)) (.seq (.block 3 (.seq (.reg false [] [⟨(some 47), none, (.ixa 2 (.v 43) (.v 45))⟩, ⟨(some 48), none, (.ld true 2 (.v 47))⟩, ⟨(some 11), none, (.alc 2 [(.int .i64 0), .nil])⟩, ⟨none, none, (.st 2 (.v 11) (.v 48))⟩]) (.seq (.reg false [] [⟨(some 49), none, (.ld true 2 (.v 7))⟩, ⟨(some 50), none, (.ld true 2 (.v 11))⟩, ⟨(some 51), none, (.call 33 [(.v 49), (.v 50)])⟩, ⟨(some 12), none, (.alc 2 [.nil, (.int .i64 0)])⟩, ⟨none, none, (.st 2 (.v 12) (.v 51))⟩]) (.seq (.reg false [] [⟨(some 52), none, (.mv (.v 4))⟩, ⟨(some 53), none, (.ld true 3 (.v 1))⟩, ⟨(some 54), none, (.ld true 2 (.v 12))⟩, ⟨(some 55), none, (.call 31 [(.v 53), (.v 54)])⟩, ⟨(some 56), none, (.ixa 1 (.v 52) (.v 55))⟩, ⟨(some 57), none, (.ld false 1 (.v 56))⟩, ⟨(some 58), none, (.mv (.v 8))⟩, ⟨(some 59), none, (.bin .sub .none (.v 58) (.k (.int .i64 1)))⟩, ⟨(some 60), none, (.bin .eql .none (.v 57) (.v 59))⟩]) (.cond (.v 60) (.seq (.reg false [] [⟨(some 61), none, (.mv (.v 9))⟩, ⟨(some 62), none, (.ld true 2 (.v 11))⟩, ⟨(some 63), none, (.bsl false 2 1 (.agg [(.int .i64 0), .nil]) [(0, (.v 62))])⟩, ⟨(some 64), none, (.app false 2 (.v 61) (.v 63))⟩, ⟨(some 9), none, (.mv (.v 64))⟩]) (.seq (.reg false [] [⟨(some 65), none, (.ld true 2 (.v 12))⟩, ⟨none, none, (.st 2 (.v 7) (.v 65))⟩]) (.exit 2))) .skip))))) (.reg false [] [⟨(some 66), none, (.bin .add .none (.v 45) (.k (.int .i64 1)))⟩, ⟨(some 45), none, (.mv (.v 66))⟩]))))
def ir17_b0 : C := ir17_d0
def ir17_l0 : C := .loop true [1, 4, 7, 8, 9, 43, 44, 45] ir17_b0
def ir17_d1 : C := (.seq (.seq (.reg false [] [⟨(some 37), none, (.mv (.v 8))⟩, ⟨(some 38), none, (.bin .gtr .none (.v 37) (.k (.int .i64 0)))⟩]) (.cond (.v 38) .skip (.exit 0))) (.seq (.block 1 (.seq (.reg false [] [⟨(some 41), none, (.ld true 3 (.v 1))⟩, ⟨(some 42), none, (.ld true 2 (.v 7))⟩, ⟨(some 43), none, (.call 32 [(.v 41), (.v 42)])⟩, ⟨(some 44), none, (.len 1 (.v 43))⟩, ⟨(some 45), none, (.mv (.k (.int .i64 0)))⟩]) (.block 2 ir17_l0))) (.reg false [] [⟨(some 39), none, (.mv (.v 8))⟩, ⟨(some 40), none, (.bin .sub .none (.v 39) (.k (.int .i64 1)))⟩, ⟨(some 8), none, (.mv (.v 40))⟩])))
def ir17_b1 : C := ir17_d1
def ir17_l1 : C := .loop true [1, 4, 7, 8, 9] ir17_b1
def ir17_c : C := (.seq (.reg false [] [⟨(some 1), none, (.box (.v 0))⟩, ⟨(some 2), none, (.mv (.k .nil))⟩, ⟨(some 3), none, (.mv (.k (.bool false)))⟩]) (.seq (.seq (.reg false [] [⟨(some 13), none, (.ld true 3 (.v 1))⟩, ⟨(some 14), none, (.call 22 [(.v 13)])⟩, ⟨(some 15), none, (.un .not (.v 14))⟩]) (.cond (.v 15) (.seq (.reg false [] [⟨(some 2), none, (.mv (.k .nil))⟩, ⟨(some 3), none, (.mv (.k (.bool false)))⟩]) .ret) .skip)) (.seq (.reg true [0, 0, 0, 4, 12, 30, 63, 127, 255, 255, 255, 511, 3071, 8191] [⟨(some 17), none, (.ld true 3 (.v 1))⟩, ⟨(some 18), none, (.ld true 3 (.v 1))⟩, ⟨(some 19), none, (.fad 2 (.v 1))⟩, ⟨(some 20), none, (.ld false 1 (.v 19))⟩, ⟨(some 21), none, (.bin .add .none (.v 20) (.k (.int .i64 1)))⟩, ⟨(some 22), none, (.call 24 [(.v 18), (.v 21)])⟩, ⟨(some 23), none, (.call 23 [(.v 17), (.v 22)])⟩, ⟨(some 16), none, (.mv (.v 23))⟩, ⟨(some 24), none, (.ext (.v 16) 0)⟩, ⟨(some 25), none, (.ext (.v 16) 1)⟩, ⟨(some 26), none, (.ext (.v 16) 2)⟩, ⟨(some 4), none, (.mv (.v 24))⟩, ⟨(some 5), none, (.mv (.v 25))⟩, ⟨(some 6), none, (.mv (.v 26))⟩]) (.seq (.reg false [] [⟨(some 27), none, (.ld true 3 (.v 1))⟩, ⟨(some 28), none, (.call 24 [(.v 27), (.k (.int .i64 0))])⟩, ⟨(some 7), none, (.alc 2 [.nil, (.int .i64 0)])⟩, ⟨none, none, (.st 2 (.v 7) (.v 28))⟩]) (.seq (.reg false [] [⟨(some 29), none, (.mv (.v 4))⟩, ⟨(some 30), none, (.ld true 3 (.v 1))⟩, ⟨(some 31), none, (.ld true 2 (.v 7))⟩, ⟨(some 32), none, (.call 31 [(.v 30), (.v 31)])⟩, ⟨(some 33), none, (.ixa 1 (.v 29) (.v 32))⟩, ⟨(some 34), none, (.ld false 1 (.v 33))⟩, ⟨(some 8), none, (.mv (.v 34))⟩]) (.seq (.seq (.reg false [] [⟨(some 35), none, (.mv (.v 8))⟩, ⟨(some 36), none, (.bin .lss .none (.v 35) (.k (.int .i64 0)))⟩]) (.cond (.v 36) (.seq (.reg false [] [⟨(some 2), none, (.mv (.k .nil))⟩, ⟨(some 3), none, (.mv (.k (.bool false)))⟩]) .ret) .skip)) (.seq (.reg false [] [⟨(some 9), none, (.mv (.k .nil))⟩]) (.seq (.block 0 ir17_l1) (.seq (.reg false [] [⟨(some 67), none, (.mv (.v 9))⟩, ⟨(some 2), none, (.mv (.v 67))⟩, ⟨(some 3), none, (.mv (.k (.bool true)))⟩]) .ret)))))))))
def ir17 : Fn := ⟨.ownF, 1, 68, [(.tmp 2), (.tmp 3)], ir17_c⟩
def ir18_c : C := (.seq (.reg false [] [⟨(some 1), none, (.box (.v 0))⟩, ⟨(some 2), none, (.mv (.k .nil))⟩, ⟨(some 3), none, (.mv (.k (.bool false)))⟩]) (.seq (.seq (.reg false [] [⟨(some 7), none, (.ld true 3 (.v 1))⟩, ⟨(some 8), none, (.call 25 [(.v 7)])⟩, ⟨(some 9), none, (.un .not (.v 8))⟩]) (.cond (.v 9) (.seq (.reg false [] [⟨(some 2), none, (.mv (.k .nil))⟩, ⟨(some 3), none, (.mv (.k (.bool false)))⟩]) .ret) .skip)) (.seq (.reg false [] [⟨(some 11), none, (.ld true 3 (.v 1))⟩, ⟨(some 12), none, (.call 29 [(.v 11)])⟩, ⟨(some 10), none, (.mv (.v 12))⟩, ⟨(some 13), none, (.ext (.v 10) 0)⟩, ⟨(some 14), none, (.ext (.v 10) 1)⟩, ⟨(some 15), none, (.ext (.v 10) 2)⟩, ⟨(some 4), none, (.alc 2 [(.int .i64 0), .nilf])⟩, ⟨none, none, (.st 2 (.v 4) (.v 13))⟩, ⟨(some 5), none, (.mv (.v 14))⟩, ⟨(some 6), none, (.mv (.v 15))⟩]) (.seq (.seq (.reg false [] [⟨(some 16), none, (.mv (.v 6))⟩, ⟨(some 17), none, (.un .not (.v 16))⟩]) (.cond (.v 17) (.seq (.reg false [] [⟨(some 2), none, (.mv (.k .nil))⟩, ⟨(some 3), none, (.mv (.k (.bool false)))⟩]) .ret) .skip)) (.seq (.reg false [] [⟨(some 18), none, (.ld true 2 (.v 4))⟩, ⟨(some 19), none, (.mv (.v 5))⟩, ⟨(some 20), none, (.call 34 [(.v 18), (.k (.int .i64 0)), (.v 19)])⟩, ⟨(some 2), none, (.mv (.v 20))⟩, ⟨(some 3), none, (.mv (.k (.bool true)))⟩]) .ret)))))
def ir18 : Fn := ⟨.ownF, 1, 21, [(.tmp 2), (.tmp 3)], ir18_c⟩
def ir19_d0 : C := (.seq (.seq (.reg false [] [⟨(some 11), none, (.mv (.v 5))⟩, ⟨(some 12), none, (.mv (.v 0))⟩, ⟨(some 13), none, (.len 1 (.v 12))⟩, ⟨(some 14), none, (.bin .lss .none (.v 11) (.v 13))⟩]) (.cond (.v 14) .skip (.exit 0))) (.seq (.block 1 (.seq (.reg true [0, 0, 3, 7, 0, 0, 48, 112, 255, 511] [⟨(some 17), none, (.mv (.v 0))⟩, ⟨(some 18), none, (.mv (.v 5))⟩, ⟨(some 19), none, (.ixa 2 (.v 17) (.v 18))⟩, ⟨(some 20), none, (.ld true 2 (.v 19))⟩, ⟨(some 21), none, (.mv (.v 1))⟩, ⟨(some 22), none, (.mv (.v 5))⟩, ⟨(some 23), none, (.ixa 2 (.v 21) (.v 22))⟩, ⟨(some 24), none, (.ld true 2 (.v 23))⟩, ⟨(some 25), none, (.call 35 [(.v 20), (.v 24)])⟩, ⟨(some 26), none, (.un .not (.v 25))⟩]) (.cond (.v 26) (.seq (.reg false [] [⟨(some 4), none, (.mv (.k (.bool false)))⟩]) .ret) .skip))) (.reg false [] [⟨(some 15), none, (.mv (.v 5))⟩, ⟨(some 16), none, (.bin .add .none (.v 15) (.k (.int .i64 1)))⟩, ⟨(some 5), none, (.mv (.v 16))⟩])))
def ir19_b0 : C := ir19_d0
def ir19_l0 : C := .loop true [0, 1, 5] ir19_b0
def ir19_c : C := (.seq (.reg false [] [⟨(some 4), none, (.mv (.k (.bool false)))⟩]) (.seq (.seq (.reg false [] [⟨(some 6), none, (.mv (.v 0))⟩, ⟨(some 7), none, (.len 1 (.v 6))⟩, ⟨(some 8), none, (.mv (.v 1))⟩, ⟨(some 9), none, (.len 1 (.v 8))⟩, ⟨(some 10), none, (.bin .neq .none (.v 7) (.v 9))⟩]) (.cond (.v 10) (.seq (.reg false [] [⟨(some 4), none, (.mv (.k (.bool false)))⟩]) .ret) .skip)) (.seq (.seq (.reg false [] [⟨(some 5), none, (.mv (.k (.int .i64 0)))⟩]) (.block 0 ir19_l0)) (.seq (.reg false [] [⟨(some 4), none, (.mv (.k (.bool true)))⟩]) .ret))))
def ir19 : Fn := ⟨.own, 2, 27, [(.tmp 4)], ir19_c⟩
def ir20_d0 : C := (.seq (.seq (.reg false [] [⟨(some 6), none, (.mv (.v 5))⟩, ⟨(some 7), none, (.mv (.v 0))⟩, ⟨(some 8), none, (.len 1 (.v 7))⟩, ⟨(some 9), none, (.bin .lss .none (.v 6) (.v 8))⟩]) (.cond (.v 9) .skip (.exit 0))) (.seq (.block 1 (.seq (.reg false [] [⟨(some 12), none, (.mv (.v 0))⟩, ⟨(some 13), none, (.mv (.v 5))⟩, ⟨(some 14), none, (.mv (.v 1))⟩, ⟨(some 15), none, (.ixa 2 (.v 12) (.v 13))⟩, ⟨(some 16), none, (.fad 0 (.v 15))⟩, ⟨none, none, (.st 1 (.v 16) (.v 14))⟩]) (.seq (.reg false [] [⟨(some 17), none, (.mv (.v 1))⟩, ⟨(some 18), none, (.bin .add .none (.v 17) (.k (.int .i64 1)))⟩, ⟨(some 1), none, (.mv (.v 18))⟩]) (.reg false [] [⟨(some 19), none, (.mv (.v 0))⟩, ⟨(some 20), none, (.mv (.v 5))⟩, ⟨(some 21), none, (.ixa 2 (.v 19) (.v 20))⟩, ⟨(some 22), none, (.fad 1 (.v 21))⟩, ⟨(some 23), none, (.ld false 1 (.v 22))⟩, ⟨(some 24), none, (.mv (.v 1))⟩, ⟨(some 25), none, (.call 36 [(.v 23), (.v 24)])⟩, ⟨(some 1), none, (.mv (.v 25))⟩])))) (.reg false [] [⟨(some 10), none, (.mv (.v 5))⟩, ⟨(some 11), none, (.bin .add .none (.v 10) (.k (.int .i64 1)))⟩, ⟨(some 5), none, (.mv (.v 11))⟩])))
def ir20_b0 : C := ir20_d0
def ir20_l0 : C := .loop true [0, 1, 5] ir20_b0
def ir20_c : C := (.seq (.reg false [] [⟨(some 4), none, (.mv (.k (.int .i64 0)))⟩]) (.seq (.seq (.reg false [] [⟨(some 5), none, (.mv (.k (.int .i64 0)))⟩]) (.block 0 ir20_l0)) (.seq (.reg false [] [⟨(some 26), none, (.mv (.v 1))⟩, ⟨(some 4), none, (.mv (.v 26))⟩]) .ret)))
def ir20 : Fn := ⟨.own, 2, 27, [(.tmp 4)], ir20_c⟩
def ir21_d0 : C := (.seq (.seq (.reg false [] [⟨(some 6), none, (.mv (.v 5))⟩, ⟨(some 7), none, (.mv (.v 0))⟩, ⟨(some 8), none, (.len 1 (.v 7))⟩, ⟨(some 9), none, (.bin .lss .none (.v 6) (.v 8))⟩]) (.cond (.v 9) .skip (.exit 0))) (.seq (.block 1 (.seq (.seq (.reg false [] [⟨(some 12), none, (.mv (.v 0))⟩, ⟨(some 13), none, (.mv (.v 5))⟩, ⟨(some 14), none, (.ixa 2 (.v 12) (.v 13))⟩, ⟨(some 15), none, (.fad 0 (.v 14))⟩, ⟨(some 16), none, (.ld false 1 (.v 15))⟩, ⟨(some 17), none, (.mv (.v 1))⟩, ⟨(some 18), none, (.bin .neq .none (.v 16) (.v 17))⟩]) (.cond (.v 18) (.seq (.reg false [] [⟨(some 4), none, (.mv (.k (.int .i64 (-1))))⟩]) .ret) .skip)) (.seq (.reg false [] [⟨(some 19), none, (.mv (.v 1))⟩, ⟨(some 20), none, (.bin .add .none (.v 19) (.k (.int .i64 1)))⟩, ⟨(some 1), none, (.mv (.v 20))⟩]) (.seq (.reg false [] [⟨(some 21), none, (.mv (.v 0))⟩, ⟨(some 22), none, (.mv (.v 5))⟩, ⟨(some 23), none, (.ixa 2 (.v 21) (.v 22))⟩, ⟨(some 24), none, (.fad 1 (.v 23))⟩, ⟨(some 25), none, (.ld false 1 (.v 24))⟩, ⟨(some 26), none, (.mv (.v 1))⟩, ⟨(some 27), none, (.call 37 [(.v 25), (.v 26)])⟩, ⟨(some 1), none, (.mv (.v 27))⟩]) (.seq (.reg false [] [⟨(some 28), none, (.mv (.v 1))⟩, ⟨(some 29), none, (.bin .lss .none (.v 28) (.k (.int .i64 0)))⟩]) (.cond (.v 29) (.seq (.reg false [] [⟨(some 4), none, (.mv (.k (.int .i64 (-1))))⟩]) .ret) .skip)))))) (.reg false [] [⟨(some 10), none, (.mv (.v 5))⟩, ⟨(some 11), none, (.bin .add .none (.v 10) (.k (.int .i64 1)))⟩, ⟨(some 5), none, (.mv (.v 11))⟩])))
def ir21_b0 : C := ir21_d0
def ir21_l0 : C := .loop true [0, 1, 5] ir21_b0
def ir21_c : C := (.seq (.reg false [] [⟨(some 4), none, (.mv (.k (.int .i64 0)))⟩]) (.seq (.seq (.reg false [] [⟨(some 5), none, (.mv (.k (.int .i64 0)))⟩]) (.block 0 ir21_l0)) (.seq (.reg false [] [⟨(some 30), none, (.mv (.v 1))⟩, ⟨(some 4), none, (.mv (.v 30))⟩]) .ret)))
def ir21 : Fn := ⟨.own, 2, 31, [(.tmp 4)], ir21_c⟩
def ir22_c : C := (.seq (.reg false [] [⟨(some 1), none, (.box (.v 0))⟩, ⟨(some 2), none, (.mv (.k (.bool false)))⟩]) (.seq (.reg false [] [⟨(some 3), none, (.fad 0 (.v 1))⟩, ⟨(some 4), none, (.ld false 1 (.v 3))⟩, ⟨(some 5), none, (.call 38 [(.v 4), (.k (.int .i64 1)), (.k (.int .i64 3))])⟩, ⟨(some 6), none, (.mv (.v 5))⟩, ⟨(some 7), (some (6, true)), (.fad 1 (.v 1))⟩, ⟨(some 8), (some (6, true)), (.ld false 1 (.v 7))⟩, ⟨(some 9), (some (6, true)), (.call 38 [(.v 8), (.k (.int .i64 1)), (.k (.int .i64 3))])⟩, ⟨(some 10), none, (.pick (.v 6) (.v 9) (.k (.bool false)))⟩, ⟨(some 11), none, (.mv (.v 10))⟩, ⟨(some 12), (some (11, true)), (.fad 2 (.v 1))⟩, ⟨(some 13), (some (11, true)), (.ld false 1 (.v 12))⟩, ⟨(some 14), (some (11, true)), (.call 38 [(.v 13), (.k (.int .i64 0)), (.k (.int .i64 2))])⟩, ⟨(some 15), none, (.pick (.v 11) (.v 14) (.k (.bool false)))⟩, ⟨(some 2), none, (.mv (.v 15))⟩]) .ret))
def ir22 : Fn := ⟨.own, 1, 16, [(.tmp 2)], ir22_c⟩
def ir23_d0 : C := (.seq (.reg false [] [⟨(some 76), none, (.bin .lss .none (.v 75) (.v 74))⟩]) (.seq (.cond (.v 76) .skip (.exit 6)) (.seq (.block 7 (.seq (.reg false [] [⟨(some 77), none, (.ixa 2 (.v 73) (.v 75))⟩, ⟨(some 78), none, (.ld true 2 (.v 77))⟩, ⟨(some 17), none, (.alc 2 [(.int .i64 0), .nil])⟩, ⟨none, none, (.st 2 (.v 17) (.v 78))⟩]) (.seq (.reg false [] [⟨(some 79), none, (.ld true 2 (.v 14))⟩, ⟨(some 80), none, (.ld true 2 (.v 17))⟩, ⟨(some 81), none, (.call 33 [(.v 79), (.v 80)])⟩, ⟨(some 18), none, (.alc 2 [.nil, (.int .i64 0)])⟩, ⟨none, none, (.st 2 (.v 18) (.v 81))⟩]) (.seq (.reg false [] [⟨(some 82), none, (.ld true 3 (.v 2))⟩, ⟨(some 83), none, (.ld true 2 (.v 18))⟩, ⟨(some 84), none, (.call 31 [(.v 82), (.v 83)])⟩, ⟨(some 19), none, (.mv (.v 84))⟩]) (.seq (.seq (.reg false [] [⟨(some 85), none, (.mv (.v 8))⟩, ⟨(some 86), none, (.mv (.v 19))⟩, ⟨(some 87), none, (.ixa 1 (.v 85) (.v 86))⟩, ⟨(some 88), none, (.ld false 1 (.v 87))⟩, ⟨(some 89), none, (.bin .lss .none (.v 88) (.k (.int .i64 0)))⟩]) (.cond (.v 89) (.seq (.reg false [] [⟨(some 90), none, (.mv (.v 8))⟩, ⟨(some 91), none, (.mv (.v 19))⟩, ⟨(some 92), none, (.mv (.v 8))⟩, ⟨(some 93), none, (.mv (.v 15))⟩, ⟨(some 94), none, (.ixa 1 (.v 92) (.v 93))⟩, ⟨(some 95), none, (.ld false 1 (.v 94))⟩, ⟨(some 96), none, (.bin .add .none (.v 95) (.k (.int .i64 1)))⟩, ⟨(some 97), none, (.ixa 1 (.v 90) (.v 91))⟩, ⟨none, none, (.st 1 (.v 97) (.v 96))⟩]) (.reg false [] [⟨(some 98), none, (.mv (.v 12))⟩, ⟨(some 99), none, (.ld true 2 (.v 18))⟩, ⟨(some 100), none, (.bsl false 2 1 (.agg [.nil, (.int .i64 0)]) [(0, (.v 99))])⟩, ⟨(some 101), none, (.app false 2 (.v 98) (.v 100))⟩, ⟨(some 12), none, (.mv (.v 101))⟩])) .skip)) (.seq (.reg true [0, 0, 3, 7, 0, 0, 48, 112, 240, 511] [⟨(some 102), none, (.mv (.v 8))⟩, ⟨(some 103), none, (.mv (.v 19))⟩, ⟨(some 104), none, (.ixa 1 (.v 102) (.v 103))⟩, ⟨(some 105), none, (.ld false 1 (.v 104))⟩, ⟨(some 106), none, (.mv (.v 8))⟩, ⟨(some 107), none, (.mv (.v 15))⟩, ⟨(some 108), none, (.ixa 1 (.v 106) (.v 107))⟩, ⟨(some 109), none, (.ld false 1 (.v 108))⟩, ⟨(some 110), none, (.bin .add .none (.v 109) (.k (.int .i64 1)))⟩, ⟨(some 111), none, (.bin .eql .none (.v 105) (.v 110))⟩]) (.cond (.v 111) (.reg true [0, 0, 3, 7, 0, 0, 48, 112, 255, 511, 1023] [⟨(some 112), none, (.mv (.v 9))⟩, ⟨(some 113), none, (.mv (.v 19))⟩, ⟨(some 114), none, (.ixa 1 (.v 112) (.v 113))⟩, ⟨(some 115), none, (.ld false 1 (.v 114))⟩, ⟨(some 116), none, (.mv (.v 9))⟩, ⟨(some 117), none, (.mv (.v 15))⟩, ⟨(some 118), none, (.ixa 1 (.v 116) (.v 117))⟩, ⟨(some 119), none, (.ld false 1 (.v 118))⟩, ⟨(some 120), none, (.bin .add .none (.v 115) (.v 119))⟩, ⟨(some 121), none, (.ixa 1 (.v 112) (.v 113))⟩, ⟨none, none, (.st 1 (.v 121) (.v 120))⟩]) .skip))))))) (.reg false [] [⟨(some 122), none, (.bin .add .none (.v 75) (.k (.int .i64 1)))⟩, ⟨(some 75), none, (.mv (.v 122))⟩]))))
def ir23_b0 : C := ir23_d0
def ir23_l0 : C := .loop true [2, 8, 9, 12, 13, 14, 15, 73, 74, 75] ir23_b0
def ir23_d1 : C := (.seq (.seq (.reg false [] [⟨(some 58), none, (.mv (.v 13))⟩, ⟨(some 59), none, (.mv (.v 12))⟩, ⟨(some 60), none, (.len 1 (.v 59))⟩, ⟨(some 61), none, (.bin .lss .none (.v 58) (.v 60))⟩]) (.cond (.v 61) .skip (.exit 4))) (.seq (.block 5 (.seq (.reg false [] [⟨(some 64), none, (.mv (.v 12))⟩, ⟨(some 65), none, (.mv (.v 13))⟩, ⟨(some 66), none, (.ixa 2 (.v 64) (.v 65))⟩, ⟨(some 67), none, (.ld true 2 (.v 66))⟩, ⟨(some 14), none, (.alc 2 [.nil, (.int .i64 0)])⟩, ⟨none, none, (.st 2 (.v 14) (.v 67))⟩]) (.seq (.reg false [] [⟨(some 68), none, (.ld true 3 (.v 2))⟩, ⟨(some 69), none, (.ld true 2 (.v 14))⟩, ⟨(some 70), none, (.call 31 [(.v 68), (.v 69)])⟩, ⟨(some 15), none, (.mv (.v 70))⟩]) (.seq (.reg false [] [⟨(some 71), none, (.ld true 3 (.v 2))⟩, ⟨(some 72), none, (.ld true 2 (.v 14))⟩, ⟨(some 73), none, (.call 32 [(.v 71), (.v 72)])⟩, ⟨(some 74), none, (.len 1 (.v 73))⟩, ⟨(some 75), none, (.mv (.k (.int .i64 0)))⟩]) (.block 6 ir23_l0))))) (.reg false [] [⟨(some 62), none, (.mv (.v 13))⟩, ⟨(some 63), none, (.bin .add .none (.v 62) (.k (.int .i64 1)))⟩, ⟨(some 13), none, (.mv (.v 63))⟩])))
def ir23_b1 : C := ir23_d1
def ir23_l1 : C := .loop true [2, 8, 9, 12, 13] ir23_b1
def ir23_d2 : C := (.seq (.reg false [] [⟨(some 41), none, (.bin .lss .none (.v 40) (.v 39))⟩]) (.seq (.cond (.v 41) .skip (.exit 2)) (.seq (.block 3 (.seq (.reg false [] [⟨(some 42), none, (.mv (.v 40))⟩, ⟨(some 10), none, (.mv (.v 42))⟩]) (.reg false [] [⟨(some 43), none, (.mv (.v 8))⟩, ⟨(some 44), none, (.mv (.v 10))⟩, ⟨(some 45), none, (.ixa 1 (.v 43) (.v 44))⟩, ⟨none, none, (.st 1 (.v 45) (.k (.int .i64 (-1))))⟩]))) (.reg false [] [⟨(some 46), none, (.bin .add .none (.v 40) (.k (.int .i64 1)))⟩, ⟨(some 40), none, (.mv (.v 46))⟩]))))
def ir23_b2 : C := ir23_d2
def ir23_l2 : C := .loop true [2, 3, 8, 9, 39, 40] ir23_b2
def ir23_d3 : C := (.seq (.reg false [] [⟨(some 27), none, (.bin .lss .none (.v 26) (.v 25))⟩]) (.seq (.cond (.v 27) .skip (.exit 0)) (.seq (.block 1 (.reg false [] [⟨(some 28), none, (.mv (.v 7))⟩, ⟨(some 29), none, (.fad 2 (.v 2))⟩, ⟨(some 30), none, (.ld false 1 (.v 29))⟩, ⟨(some 31), none, (.bin .add .none (.v 30) (.k (.int .i64 2)))⟩, ⟨(some 32), none, (.bin .mul .none (.v 28) (.v 31))⟩, ⟨(some 7), none, (.mv (.v 32))⟩])) (.reg false [] [⟨(some 33), none, (.bin .add .none (.v 26) (.k (.int .i64 1)))⟩, ⟨(some 26), none, (.mv (.v 33))⟩]))))
def ir23_b3 : C := ir23_d3
def ir23_l3 : C := .loop true [2, 3, 7, 25, 26] ir23_b3
def ir23_c : C := (.seq (.reg false [] [⟨(some 2), none, (.box (.v 0))⟩, ⟨(some 3), none, (.box (.v 1))⟩, ⟨(some 4), none, (.mv (.k .nil))⟩, ⟨(some 5), none, (.mv (.k .nil))⟩, ⟨(some 6), none, (.mv (.k (.int .i64 0)))⟩]) (.seq (.reg false [] [⟨(some 20), none, (.fad 2 (.v 2))⟩, ⟨(some 21), none, (.ld false 1 (.v 20))⟩, ⟨(some 22), none, (.bin .add .none (.v 21) (.k (.int .i64 2)))⟩, ⟨(some 7), none, (.mv (.v 22))⟩]) (.seq (.seq (.reg false [] [⟨(some 23), none, (.fad 0 (.v 3))⟩, ⟨(some 24), none, (.ld false 1 (.v 23))⟩, ⟨(some 25), none, (.len 1 (.v 24))⟩, ⟨(some 26), none, (.mv (.k (.int .i64 0)))⟩]) (.block 0 ir23_l3)) (.seq (.reg true [0, 1, 0, 4, 3, 31] [⟨(some 34), none, (.mv (.v 7))⟩, ⟨(some 35), none, (.mks 1 (.int .i64 0) (.v 34) (.v 34))⟩, ⟨(some 36), none, (.mv (.v 7))⟩, ⟨(some 37), none, (.mks 1 (.int .i64 0) (.v 36) (.v 36))⟩, ⟨(some 8), none, (.mv (.v 35))⟩, ⟨(some 9), none, (.mv (.v 37))⟩]) (.seq (.seq (.reg false [] [⟨(some 38), none, (.mv (.v 8))⟩, ⟨(some 39), none, (.len 1 (.v 38))⟩, ⟨(some 40), none, (.mv (.k (.int .i64 0)))⟩]) (.block 2 ir23_l2)) (.seq (.reg false [] [⟨(some 47), none, (.ld true 3 (.v 2))⟩, ⟨(some 48), none, (.ld true 2 (.v 3))⟩, ⟨(some 49), none, (.call 31 [(.v 47), (.v 48)])⟩, ⟨(some 11), none, (.mv (.v 49))⟩]) (.seq (.reg false [] [⟨(some 50), none, (.mv (.v 8))⟩, ⟨(some 51), none, (.mv (.v 11))⟩, ⟨(some 52), none, (.ixa 1 (.v 50) (.v 51))⟩, ⟨none, none, (.st 1 (.v 52) (.k (.int .i64 0)))⟩]) (.seq (.reg false [] [⟨(some 53), none, (.mv (.v 9))⟩, ⟨(some 54), none, (.mv (.v 11))⟩, ⟨(some 55), none, (.ixa 1 (.v 53) (.v 54))⟩, ⟨none, none, (.st 1 (.v 55) (.k (.int .i64 1)))⟩]) (.seq (.reg false [] [⟨(some 56), none, (.ld true 2 (.v 3))⟩, ⟨(some 57), none, (.bsl false 2 1 (.agg [.nil, (.int .i64 0)]) [(0, (.v 56))])⟩, ⟨(some 12), none, (.mv (.v 57))⟩]) (.seq (.seq (.reg false [] [⟨(some 13), none, (.mv (.k (.int .i64 0)))⟩]) (.block 4 ir23_l1)) (.seq (.reg false [] [⟨(some 123), none, (.mv (.v 8))⟩, ⟨(some 124), none, (.mv (.v 9))⟩, ⟨(some 125), none, (.mv (.v 12))⟩, ⟨(some 126), none, (.len 1 (.v 125))⟩, ⟨(some 4), none, (.mv (.v 123))⟩, ⟨(some 5), none, (.mv (.v 124))⟩, ⟨(some 6), none, (.mv (.v 126))⟩]) .ret)))))))))))
def ir23 : Fn := ⟨.own, 2, 127, [(.tmp 4), (.tmp 5), (.tmp 6)], ir23_c⟩
def ir24_d0 : C := (.seq (.seq (.reg false [] [⟨(some 8), none, (.fad 0 (.v 5))⟩, ⟨(some 9), none, (.ld false 1 (.v 8))⟩, ⟨(some 10), none, (.len 1 (.v 9))⟩, ⟨(some 11), none, (.fad 0 (.v 2))⟩, ⟨(some 12), none, (.ld false 1 (.v 11))⟩, ⟨(some 13), none, (.bin .mul .none (.k (.int .i64 2)) (.v 12))⟩, ⟨(some 14), none, (.bin .lss .none (.v 10) (.v 13))⟩]) (.cond (.v 14) .skip (.exit 0))) (.block 1 (.reg false [] [⟨(some 15), none, (.fad 0 (.v 5))⟩, ⟨(some 16), none, (.ld false 1 (.v 15))⟩, ⟨(some 17), none, (.mv (.v 1))⟩, ⟨(some 18), none, (.bsl false 1 1 (.int .i64 0) [(0, (.v 17))])⟩, ⟨(some 19), none, (.app false 1 (.v 16) (.v 18))⟩, ⟨(some 20), none, (.fad 0 (.v 5))⟩, ⟨none, none, (.st 1 (.v 20) (.v 19))⟩])))
def ir24_b0 : C := ir24_d0
def ir24_l0 : C := .loop true [1, 2, 4, 5] ir24_b0
def ir24_c : C := (.seq (.reg false [] [⟨(some 2), none, (.box (.v 0))⟩, ⟨(some 4), none, (.alc 2 [.nil, (.int .i64 0)])⟩]) (.seq (.reg false [] [⟨(some 6), none, (.mv (.v 1))⟩, ⟨(some 7), none, (.bld [.nil, (.int .i64 0)] [(1, (1, (.v 6)))])⟩, ⟨(some 5), none, (.alc 2 [.nil, (.int .i64 0)])⟩, ⟨none, none, (.st 2 (.v 5) (.v 7))⟩]) (.seq (.block 0 ir24_l0) (.seq (.reg false [] [⟨(some 21), none, (.ld true 2 (.v 5))⟩, ⟨none, none, (.st 2 (.v 4) (.v 21))⟩]) .ret))))
def ir24 : Fn := ⟨.own, 2, 22, [(.cell 4 true 2)], ir24_c⟩
def ir25_c : C := (.seq (.reg false [] [⟨(some 1), none, (.box (.v 0))⟩, ⟨(some 2), none, (.mv (.k (.bool false)))⟩]) (.seq (.reg false [] [⟨(some 3), none, (.fad 0 (.v 1))⟩, ⟨(some 4), none, (.ld false 1 (.v 3))⟩, ⟨(some 5), none, (.call 39 [(.v 4), (.k (.int .i64 1)), (.k (.int .i64 3))])⟩, ⟨(some 6), none, (.mv (.v 5))⟩, ⟨(some 7), (some (6, true)), (.fad 1 (.v 1))⟩, ⟨(some 8), (some (6, true)), (.ld false 1 (.v 7))⟩, ⟨(some 9), (some (6, true)), (.call 39 [(.v 8), (.k (.int .i64 1)), (.k (.int .i64 3))])⟩, ⟨(some 10), none, (.pick (.v 6) (.v 9) (.k (.bool false)))⟩, ⟨(some 11), none, (.mv (.v 10))⟩, ⟨(some 12), (some (11, true)), (.fad 2 (.v 1))⟩, ⟨(some 13), (some (11, true)), (.ld false 1 (.v 12))⟩, ⟨(some 14), (some (11, true)), (.call 39 [(.v 13), (.k (.int .i64 0)), (.k (.int .i64 2))])⟩, ⟨(some 15), none, (.pick (.v 11) (.v 14) (.k (.bool false)))⟩, ⟨(some 2), none, (.mv (.v 15))⟩]) .ret))
def ir25 : Fn := ⟨.own, 1, 16, [(.tmp 2)], ir25_c⟩
def ir26_c : C := (.seq (.reg false [] [⟨(some 1), none, (.box (.v 0))⟩, ⟨(some 2), none, (.alc 2 [(.int .i64 0), .nilf])⟩]) (.seq (.reg false [] [⟨(some 3), none, (.ld true 3 (.v 1))⟩, ⟨(some 4), none, (.call 40 [(.v 3)])⟩, ⟨(some 5), none, (.mkf 41 [] [(.v 1)])⟩, ⟨(some 6), none, (.bld [(.int .i64 0), .nilf] [(0, (1, (.v 4))), (1, (1, (.v 5)))])⟩, ⟨none, none, (.st 2 (.v 2) (.v 6))⟩]) .ret))
def ir26 : Fn := ⟨.ownF, 1, 7, [(.cell 2 true 2)], ir26_c⟩
def ir27_d0 : C := (.seq (.reg false [] [⟨(some 14), none, (.bin .lss .none (.v 13) (.v 12))⟩]) (.seq (.cond (.v 14) .skip (.exit 0)) (.seq (.block 1 (.seq (.reg false [] [⟨(some 15), none, (.ixa 1 (.v 11) (.v 13))⟩, ⟨(some 16), none, (.ld false 1 (.v 15))⟩, ⟨(some 7), none, (.mv (.v 16))⟩]) (.reg false [] [⟨(some 17), none, (.mv (.v 5))⟩, ⟨(some 18), none, (.mv (.v 7))⟩, ⟨(some 19), none, (.bin .geq .none (.v 18) (.k (.int .i64 0)))⟩, ⟨(some 20), none, (.call 47 [(.v 19)])⟩, ⟨(some 21), none, (.bin .add .none (.v 17) (.v 20))⟩, ⟨(some 5), none, (.mv (.v 21))⟩]))) (.reg false [] [⟨(some 22), none, (.bin .add .none (.v 13) (.k (.int .i64 1)))⟩, ⟨(some 13), none, (.mv (.v 22))⟩]))))
def ir27_b0 : C := ir27_d0
def ir27_l0 : C := .loop true [5, 11, 12, 13] ir27_b0
def ir27_c : C := (.seq (.reg false [] [⟨(some 2), none, (.box (.v 0))⟩, ⟨(some 4), none, (.mv (.k (.int .i64 0)))⟩]) (.seq (.reg false [] [⟨(some 5), none, (.mv (.k (.int .i64 0)))⟩]) (.seq (.seq (.reg false [] [⟨(some 8), none, (.ld true 2 (.v 2))⟩, ⟨(some 9), none, (.mv (.v 1))⟩, ⟨(some 10), none, (.bsl false 1 1 (.int .i64 0) [(0, (.v 9))])⟩, ⟨(some 11), none, (.call 46 [(.v 8), (.v 10)])⟩, ⟨(some 12), none, (.len 1 (.v 11))⟩, ⟨(some 13), none, (.mv (.k (.int .i64 0)))⟩]) (.block 0 ir27_l0)) (.seq (.reg false [] [⟨(some 23), none, (.mv (.v 5))⟩, ⟨(some 4), none, (.mv (.v 23))⟩]) .ret))))
def ir27 : Fn := ⟨.own, 2, 24, [(.tmp 4)], ir27_c⟩
def ir28_c : C := (.seq (.reg false [] [⟨(some 1), none, (.box (.v 0))⟩, ⟨(some 2), none, (.mv (.k (.int .i64 0)))⟩, ⟨(some 3), none, (.mv (.k (.int .i64 0)))⟩]) (.seq (.reg true [0, 0, 2, 7, 15, 31, 31, 31, 63, 383, 1023] [⟨(some 9), none, (.ld true 3 (.v 1))⟩, ⟨(some 10), none, (.ld true 3 (.v 1))⟩, ⟨(some 11), none, (.call 24 [(.v 10), (.k (.int .i64 0))])⟩, ⟨(some 12), none, (.call 23 [(.v 9), (.v 11)])⟩, ⟨(some 8), none, (.mv (.v 12))⟩, ⟨(some 13), none, (.ext (.v 8) 0)⟩, ⟨(some 14), none, (.ext (.v 8) 1)⟩, ⟨(some 15), none, (.ext (.v 8) 2)⟩, ⟨(some 4), none, (.mv (.v 13))⟩, ⟨(some 5), none, (.mv (.v 14))⟩, ⟨(some 6), none, (.mv (.v 15))⟩]) (.seq (.reg true [0, 0, 0, 4, 12, 30, 63, 127] [⟨(some 16), none, (.ld true 3 (.v 1))⟩, ⟨(some 17), none, (.ld true 3 (.v 1))⟩, ⟨(some 18), none, (.fad 2 (.v 1))⟩, ⟨(some 19), none, (.ld false 1 (.v 18))⟩, ⟨(some 20), none, (.bin .add .none (.v 19) (.k (.int .i64 1)))⟩, ⟨(some 21), none, (.call 24 [(.v 17), (.v 20)])⟩, ⟨(some 22), none, (.call 31 [(.v 16), (.v 21)])⟩, ⟨(some 7), none, (.mv (.v 22))⟩]) (.seq (.reg true [0, 0, 3, 7, 0, 0, 48, 112, 15, 511] [⟨(some 23), none, (.mv (.v 4))⟩, ⟨(some 24), none, (.mv (.v 7))⟩, ⟨(some 25), none, (.ixa 1 (.v 23) (.v 24))⟩, ⟨(some 26), none, (.ld false 1 (.v 25))⟩, ⟨(some 27), none, (.mv (.v 5))⟩, ⟨(some 28), none, (.mv (.v 7))⟩, ⟨(some 29), none, (.ixa 1 (.v 27) (.v 28))⟩, ⟨(some 30), none, (.ld false 1 (.v 29))⟩, ⟨(some 2), none, (.mv (.v 26))⟩, ⟨(some 3), none, (.mv (.v 30))⟩]) .ret))))
def ir28 : Fn := ⟨.own, 1, 31, [(.tmp 2), (.tmp 3)], ir28_c⟩
def ir29_c : C := (.seq (.reg false [] [⟨(some 1), none, (.box (.v 0))⟩, ⟨(some 2), none, (.alc 2 [(.int .i64 0), .nilf])⟩, ⟨(some 3), none, (.mv (.k .nil))⟩, ⟨(some 4), none, (.mv (.k (.bool false)))⟩]) (.seq (.reg false [] [⟨(some 7), none, (.ld true 3 (.v 1))⟩, ⟨(some 8), none, (.call 26 [(.v 7)])⟩, ⟨(some 5), none, (.alc 2 [(.int .i64 0), .nilf])⟩, ⟨none, none, (.st 2 (.v 5) (.v 8))⟩]) (.seq (.reg true [0, 0, 0, 4, 14, 30, 62, 127, 255] [⟨(some 9), none, (.ld true 2 (.v 5))⟩, ⟨(some 10), none, (.ld true 3 (.v 1))⟩, ⟨(some 11), none, (.ld true 3 (.v 1))⟩, ⟨(some 12), none, (.call 49 [(.v 11)])⟩, ⟨(some 13), none, (.call 48 [(.v 10), (.v 12)])⟩, ⟨(some 14), none, (.call 45 [(.v 13)])⟩, ⟨(some 15), none, (.bsl false 1 1 (.int .i64 0) [(0, (.v 14))])⟩, ⟨(some 16), none, (.call 46 [(.v 9), (.v 15)])⟩, ⟨(some 6), none, (.mv (.v 16))⟩]) (.seq (.reg true [0, 0, 0, 4, 12, 28, 1, 67, 255] [⟨(some 17), none, (.ld true 2 (.v 5))⟩, ⟨(some 18), none, (.mv (.v 6))⟩, ⟨(some 19), none, (.mv (.v 6))⟩, ⟨(some 20), none, (.ixa 1 (.v 19) (.k (.int .i64 0)))⟩, ⟨(some 21), none, (.ld false 1 (.v 20))⟩, ⟨(some 22), none, (.bin .geq .none (.v 21) (.k (.int .i64 0)))⟩, ⟨none, none, (.st 2 (.v 2) (.v 17))⟩, ⟨(some 3), none, (.mv (.v 18))⟩, ⟨(some 4), none, (.mv (.v 22))⟩]) .ret))))
def ir29 : Fn := ⟨.ownF, 1, 23, [(.cell 2 true 2), (.tmp 3), (.tmp 4)], ir29_c⟩
def ir30_c : C := (.seq (.reg false [] [⟨(some 3), none, (.box (.v 0))⟩, ⟨(some 6), none, (.mv (.k (.int .i64 0)))⟩]) (.seq (.reg false [] [⟨(some 7), none, (.ld true 2 (.v 3))⟩, ⟨(some 8), none, (.mv (.v 1))⟩, ⟨(some 9), none, (.mv (.v 2))⟩, ⟨(some 10), none, .mkm⟩, ⟨(some 11), none, (.call 50 [(.v 7), (.v 8), (.v 9), (.v 10), (.k (.clo 51 [] [])), (.k (.int .i64 1))])⟩, ⟨(some 6), none, (.mv (.v 11))⟩]) .ret))
def ir30 : Fn := ⟨.own, 3, 12, [(.tmp 6)], ir30_c⟩
def ir31_d0 : C := (.seq (.reg false [] [⟨(some 14), none, (.bin .lss .none (.v 13) (.v 12))⟩]) (.seq (.cond (.v 14) .skip (.exit 0)) (.seq (.block 1 (.seq (.reg false [] [⟨(some 15), none, (.ixa 1 (.v 11) (.v 13))⟩, ⟨(some 16), none, (.ld false 1 (.v 15))⟩, ⟨(some 7), none, (.mv (.v 16))⟩]) (.reg false [] [⟨(some 17), none, (.mv (.v 5))⟩, ⟨(some 18), none, (.fad 2 (.v 2))⟩, ⟨(some 19), none, (.ld false 1 (.v 18))⟩, ⟨(some 20), none, (.bin .add .none (.v 19) (.k (.int .i64 2)))⟩, ⟨(some 21), none, (.bin .mul .none (.v 17) (.v 20))⟩, ⟨(some 22), none, (.mv (.v 7))⟩, ⟨(some 23), none, (.bin .add .none (.v 21) (.v 22))⟩, ⟨(some 5), none, (.mv (.v 23))⟩]))) (.reg false [] [⟨(some 24), none, (.bin .add .none (.v 13) (.k (.int .i64 1)))⟩, ⟨(some 13), none, (.mv (.v 24))⟩]))))
def ir31_b0 : C := ir31_d0
def ir31_l0 : C := .loop true [2, 5, 11, 12, 13] ir31_b0
def ir31_c : C := (.seq (.reg false [] [⟨(some 2), none, (.box (.v 0))⟩, ⟨(some 3), none, (.box (.v 1))⟩, ⟨(some 4), none, (.mv (.k (.int .i64 0)))⟩]) (.seq (.reg false [] [⟨(some 8), none, (.fad 1 (.v 3))⟩, ⟨(some 9), none, (.ld false 1 (.v 8))⟩, ⟨(some 5), none, (.mv (.v 9))⟩]) (.seq (.seq (.reg false [] [⟨(some 10), none, (.fad 0 (.v 3))⟩, ⟨(some 11), none, (.ld false 1 (.v 10))⟩, ⟨(some 12), none, (.len 1 (.v 11))⟩, ⟨(some 13), none, (.mv (.k (.int .i64 0)))⟩]) (.block 0 ir31_l0)) (.seq (.reg false [] [⟨(some 25), none, (.mv (.v 5))⟩, ⟨(some 4), none, (.mv (.v 25))⟩]) .ret))))
def ir31 : Fn := ⟨.own, 2, 26, [(.tmp 4)], ir31_c⟩
def ir32_d0 : C := (.seq (.reg false [] [⟨(some 43), none, (.bin .lss .none (.v 42) (.v 41))⟩]) (.seq (.cond (.v 43) .skip (.exit 4)) (.seq (.block 5 (.seq (.reg false [] [⟨(some 44), none, (.ixa 1 (.v 40) (.v 42))⟩, ⟨(some 45), none, (.ld false 1 (.v 44))⟩, ⟨(some 11), none, (.mv (.v 45))⟩]) (.seq (.reg false [] [⟨(some 46), none, (.mv (.v 9))⟩, ⟨(some 47), none, (.mv (.v 11))⟩, ⟨(some 48), none, (.bld [(.int .i64 0), .nil] [(0, (1, (.v 46))), (1, (1, (.v 47)))])⟩, ⟨(some 12), none, (.alc 2 [(.int .i64 0), .nil])⟩, ⟨none, none, (.st 2 (.v 12) (.v 48))⟩]) (.seq (.reg false [] [⟨(some 49), none, (.ld true 3 (.v 2))⟩, ⟨(some 50), none, (.ld true 2 (.v 3))⟩, ⟨(some 51), none, (.ld true 2 (.v 12))⟩, ⟨(some 52), none, (.call 53 [(.v 49), (.v 50), (.v 51)])⟩]) (.cond (.v 52) (.reg false [] [⟨(some 53), none, (.mv (.v 8))⟩, ⟨(some 54), none, (.ld true 2 (.v 12))⟩, ⟨(some 55), none, (.bsl false 2 1 (.agg [(.int .i64 0), .nil]) [(0, (.v 54))])⟩, ⟨(some 56), none, (.app false 2 (.v 53) (.v 55))⟩, ⟨(some 8), none, (.mv (.v 56))⟩]) .skip))))) (.reg false [] [⟨(some 57), none, (.bin .add .none (.v 42) (.k (.int .i64 1)))⟩, ⟨(some 42), none, (.mv (.v 57))⟩]))))
def ir32_b0 : C := ir32_d0
def ir32_l0 : C := .loop true [2, 3, 5, 8, 9, 40, 41, 42] ir32_b0
def ir32_d1 : C := (.seq (.seq (.reg false [] [⟨(some 30), none, (.mv (.v 9))⟩, ⟨(some 31), none, (.fad 2 (.v 2))⟩, ⟨(some 32), none, (.ld false 1 (.v 31))⟩, ⟨(some 33), none, (.bin .add .none (.v 32) (.k (.int .i64 1)))⟩, ⟨(some 34), none, (.bin .leq .none (.v 30) (.v 33))⟩]) (.cond (.v 34) .skip (.exit 2))) (.seq (.block 3 (.seq (.reg false [] [⟨(some 37), none, (.mv (.v 5))⟩, ⟨(some 38), none, (.fad 1 (.v 2))⟩, ⟨(some 39), none, (.ld false 1 (.v 38))⟩, ⟨(some 40), none, (.call 52 [(.v 37), (.k .nil), (.k (.int .i64 0)), (.v 39)])⟩, ⟨(some 41), none, (.len 1 (.v 40))⟩, ⟨(some 42), none, (.mv (.k (.int .i64 0)))⟩]) (.block 4 ir32_l0))) (.reg false [] [⟨(some 35), none, (.mv (.v 9))⟩, ⟨(some 36), none, (.bin .add .none (.v 35) (.k (.int .i64 1)))⟩, ⟨(some 9), none, (.mv (.v 36))⟩])))
def ir32_b1 : C := ir32_d1
def ir32_l1 : C := .loop true [2, 3, 5, 8, 9] ir32_b1
def ir32_d2 : C := (.seq (.reg false [] [⟨(some 17), none, (.bin .lss .none (.v 16) (.v 15))⟩]) (.seq (.cond (.v 17) .skip (.exit 0)) (.seq (.block 1 (.seq (.reg false [] [⟨(some 18), none, (.mv (.v 16))⟩, ⟨(some 19), none, (.ixa 1 (.v 14) (.v 16))⟩, ⟨(some 20), none, (.ld false 1 (.v 19))⟩, ⟨(some 6), none, (.mv (.v 18))⟩, ⟨(some 7), none, (.mv (.v 20))⟩]) (.seq (.reg false [] [⟨(some 21), none, (.mv (.v 7))⟩, ⟨(some 22), none, (.fad 1 (.v 3))⟩, ⟨(some 23), none, (.ld false 1 (.v 22))⟩, ⟨(some 24), none, (.bin .eql .none (.v 21) (.v 23))⟩]) (.cond (.v 24) (.reg false [] [⟨(some 25), none, (.mv (.v 5))⟩, ⟨(some 26), none, (.mv (.v 6))⟩, ⟨(some 27), none, (.bsl false 1 1 (.int .i64 0) [(0, (.v 26))])⟩, ⟨(some 28), none, (.app false 1 (.v 25) (.v 27))⟩, ⟨(some 5), none, (.mv (.v 28))⟩]) .skip)))) (.reg false [] [⟨(some 29), none, (.bin .add .none (.v 16) (.k (.int .i64 1)))⟩, ⟨(some 16), none, (.mv (.v 29))⟩]))))
def ir32_b2 : C := ir32_d2
def ir32_l2 : C := .loop true [2, 3, 5, 14, 15, 16] ir32_b2
def ir32_c : C := (.seq (.reg false [] [⟨(some 2), none, (.box (.v 0))⟩, ⟨(some 3), none, (.box (.v 1))⟩, ⟨(some 4), none, (.mv (.k .nil))⟩]) (.seq (.reg false [] [⟨(some 5), none, (.mv (.k .nil))⟩]) (.seq (.seq (.reg false [] [⟨(some 13), none, (.fad 0 (.v 3))⟩, ⟨(some 14), none, (.ld false 1 (.v 13))⟩, ⟨(some 15), none, (.len 1 (.v 14))⟩, ⟨(some 16), none, (.mv (.k (.int .i64 0)))⟩]) (.block 0 ir32_l2)) (.seq (.reg false [] [⟨(some 8), none, (.mv (.k .nil))⟩]) (.seq (.seq (.reg false [] [⟨(some 9), none, (.mv (.k (.int .i64 0)))⟩]) (.block 2 ir32_l1)) (.seq (.reg false [] [⟨(some 58), none, (.mv (.v 8))⟩, ⟨(some 4), none, (.mv (.v 58))⟩]) .ret))))))
def ir32 : Fn := ⟨.ownF, 2, 59, [(.tmp 4)], ir32_c⟩
def ir33_d0 : C := (.seq (.reg false [] [⟨(some 18), none, (.bin .lss .none (.v 17) (.v 16))⟩]) (.seq (.cond (.v 18) .skip (.exit 0)) (.seq (.block 1 (.seq (.reg false [] [⟨(some 19), none, (.ixa 1 (.v 15) (.v 17))⟩, ⟨(some 20), none, (.ld false 1 (.v 19))⟩, ⟨(some 7), none, (.mv (.v 20))⟩]) (.reg false [] [⟨(some 21), none, (.fad 0 (.v 5))⟩, ⟨(some 22), none, (.ld false 1 (.v 21))⟩, ⟨(some 23), none, (.mv (.v 7))⟩, ⟨(some 24), none, (.fad 0 (.v 3))⟩, ⟨(some 25), none, (.ld false 1 (.v 24))⟩, ⟨(some 26), none, (.ixa 1 (.v 22) (.v 23))⟩, ⟨none, none, (.st 1 (.v 26) (.v 25))⟩]))) (.reg false [] [⟨(some 27), none, (.bin .add .none (.v 17) (.k (.int .i64 1)))⟩, ⟨(some 17), none, (.mv (.v 27))⟩]))))
def ir33_b0 : C := ir33_d0
def ir33_l0 : C := .loop true [3, 4, 5, 15, 16, 17] ir33_b0
def ir33_c : C := (.seq (.reg false [] [⟨(some 2), none, (.box (.v 0))⟩, ⟨(some 3), none, (.box (.v 1))⟩, ⟨(some 4), none, (.alc 2 [.nil, (.int .i64 0)])⟩]) (.seq (.reg true [0, 1, 3, 0, 8, 31, 0, 127] [⟨(some 8), none, (.fad 0 (.v 2))⟩, ⟨(some 9), none, (.ld false 1 (.v 8))⟩, ⟨(some 10), none, (.call 54 [(.v 9)])⟩, ⟨(some 11), none, (.fad 0 (.v 3))⟩, ⟨(some 12), none, (.ld false 1 (.v 11))⟩, ⟨(some 13), none, (.bld [.nil, (.int .i64 0)] [(0, (1, (.v 10))), (1, (1, (.v 12)))])⟩, ⟨(some 5), none, (.alc 2 [.nil, (.int .i64 0)])⟩, ⟨none, none, (.st 2 (.v 5) (.v 13))⟩]) (.seq (.seq (.reg false [] [⟨(some 14), none, (.fad 1 (.v 3))⟩, ⟨(some 15), none, (.ld false 1 (.v 14))⟩, ⟨(some 16), none, (.len 1 (.v 15))⟩, ⟨(some 17), none, (.mv (.k (.int .i64 0)))⟩]) (.block 0 ir33_l0)) (.seq (.reg false [] [⟨(some 28), none, (.ld true 2 (.v 5))⟩, ⟨none, none, (.st 2 (.v 4) (.v 28))⟩]) .ret))))
def ir33 : Fn := ⟨.own, 2, 29, [(.cell 4 true 2)], ir33_c⟩
def ir34_d0 : C := (.seq (.seq (.reg false [] [⟨(some 10), none, (.mv (.v 2))⟩, ⟨(some 11), none, (.mv (.v 1))⟩, ⟨(some 12), none, (.ixa 1 (.v 10) (.v 11))⟩, ⟨(some 13), none, (.ld false 1 (.v 12))⟩, ⟨(some 14), none, (.bin .gtr .none (.v 13) (.k (.int .i64 0)))⟩]) (.cond (.v 14) .skip (.exit 0))) (.block 1 (.seq (.reg false [] [⟨(some 15), none, (.ld true 2 (.v 3))⟩, ⟨(some 16), none, (.mv (.v 1))⟩, ⟨(some 17), none, (.mv (.v 2))⟩, ⟨(some 18), none, (.call 55 [(.v 15), (.v 16), (.v 17)])⟩, ⟨(some 19), none, (.ixa 4 (.v 18) (.k (.int .i64 0)))⟩, ⟨(some 20), none, (.ld true 4 (.v 19))⟩, ⟨(some 8), none, (.alc 4 [(.int .i64 0), (.int .i64 0), (.int .i64 0), .nil])⟩, ⟨none, none, (.st 4 (.v 8) (.v 20))⟩]) (.reg true [0, 0, 2, 6, 15, 0, 32, 31, 255] [⟨(some 21), none, (.mv (.v 7))⟩, ⟨(some 22), none, (.fad 2 (.v 8))⟩, ⟨(some 23), none, (.ld true 2 (.v 22))⟩, ⟨(some 24), none, (.bsl false 2 1 (.agg [(.int .i64 0), .nil]) [(0, (.v 23))])⟩, ⟨(some 25), none, (.app false 2 (.v 21) (.v 24))⟩, ⟨(some 26), none, (.fad 0 (.v 8))⟩, ⟨(some 27), none, (.ld false 1 (.v 26))⟩, ⟨(some 7), none, (.mv (.v 25))⟩, ⟨(some 1), none, (.mv (.v 27))⟩]))))
def ir34_b0 : C := ir34_d0
def ir34_l0 : C := .loop true [1, 2, 3, 7] ir34_b0
def ir34_c : C := (.seq (.reg false [] [⟨(some 3), none, (.box (.v 0))⟩, ⟨(some 6), none, (.mv (.k .nil))⟩]) (.seq (.reg false [] [⟨(some 9), none, (.bsl false 2 0 (.agg [(.int .i64 0), .nil]) [])⟩, ⟨(some 7), none, (.mv (.v 9))⟩]) (.seq (.block 0 ir34_l0) (.seq (.reg false [] [⟨(some 28), none, (.mv (.v 7))⟩, ⟨(some 6), none, (.mv (.v 28))⟩]) .ret))))
def ir34 : Fn := ⟨.ownF, 3, 29, [(.tmp 6)], ir34_c⟩
def ir35_c : C := (.seq (.reg false [] [⟨(some 2), none, (.box (.v 0))⟩, ⟨(some 3), none, (.box (.v 1))⟩, ⟨(some 4), none, (.mv (.k (.bool false)))⟩]) (.seq (.seq (.reg false [] [⟨(some 5), none, (.fad 0 (.v 2))⟩, ⟨(some 6), none, (.ld false 1 (.v 5))⟩, ⟨(some 7), none, (.fad 0 (.v 3))⟩, ⟨(some 8), none, (.ld false 1 (.v 7))⟩, ⟨(some 9), none, (.bin .neq .none (.v 6) (.v 8))⟩]) (.cond (.v 9) (.seq (.reg false [] [⟨(some 4), none, (.mv (.k (.bool false)))⟩]) .ret) .skip)) (.seq (.seq (.reg false [] [⟨(some 10), none, (.fad 1 (.v 2))⟩, ⟨(some 11), none, (.ld false 1 (.v 10))⟩, ⟨(some 12), none, (.fad 1 (.v 3))⟩, ⟨(some 13), none, (.ld false 1 (.v 12))⟩, ⟨(some 14), none, (.call 56 [(.v 11), (.v 13)])⟩, ⟨(some 15), none, (.un .not (.v 14))⟩]) (.cond (.v 15) (.seq (.reg false [] [⟨(some 4), none, (.mv (.k (.bool false)))⟩]) .ret) .skip)) (.seq (.reg false [] [⟨(some 4), none, (.mv (.k (.bool true)))⟩]) .ret))))
def ir35 : Fn := ⟨.own, 2, 16, [(.tmp 4)], ir35_c⟩
def ir36_d0 : C := (.seq (.seq (.reg false [] [⟨(some 6), none, (.mv (.v 5))⟩, ⟨(some 7), none, (.mv (.v 0))⟩, ⟨(some 8), none, (.len 1 (.v 7))⟩, ⟨(some 9), none, (.bin .lss .none (.v 6) (.v 8))⟩]) (.cond (.v 9) .skip (.exit 0))) (.seq (.block 1 (.seq (.reg false [] [⟨(some 12), none, (.mv (.v 0))⟩, ⟨(some 13), none, (.mv (.v 5))⟩, ⟨(some 14), none, (.mv (.v 1))⟩, ⟨(some 15), none, (.ixa 1 (.v 12) (.v 13))⟩, ⟨none, none, (.st 1 (.v 15) (.v 14))⟩]) (.reg false [] [⟨(some 16), none, (.mv (.v 1))⟩, ⟨(some 17), none, (.bin .add .none (.v 16) (.k (.int .i64 1)))⟩, ⟨(some 1), none, (.mv (.v 17))⟩]))) (.reg false [] [⟨(some 10), none, (.mv (.v 5))⟩, ⟨(some 11), none, (.bin .add .none (.v 10) (.k (.int .i64 1)))⟩, ⟨(some 5), none, (.mv (.v 11))⟩])))
def ir36_b0 : C := ir36_d0
def ir36_l0 : C := .loop true [0, 1, 5] ir36_b0
def ir36_c : C := (.seq (.reg false [] [⟨(some 4), none, (.mv (.k (.int .i64 0)))⟩]) (.seq (.seq (.reg false [] [⟨(some 5), none, (.mv (.k (.int .i64 0)))⟩]) (.block 0 ir36_l0)) (.seq (.reg false [] [⟨(some 18), none, (.mv (.v 1))⟩, ⟨(some 4), none, (.mv (.v 18))⟩]) .ret)))
def ir36 : Fn := ⟨.own, 2, 19, [(.tmp 4)], ir36_c⟩
def ir37_d0 : C := (.seq (.seq (.reg false [] [⟨(some 6), none, (.mv (.v 5))⟩, ⟨(some 7), none, (.mv (.v 0))⟩, ⟨(some 8), none, (.len 1 (.v 7))⟩, ⟨(some 9), none, (.bin .lss .none (.v 6) (.v 8))⟩]) (.cond (.v 9) .skip (.exit 0))) (.seq (.block 1 (.seq (.seq (.reg false [] [⟨(some 12), none, (.mv (.v 0))⟩, ⟨(some 13), none, (.mv (.v 5))⟩, ⟨(some 14), none, (.ixa 1 (.v 12) (.v 13))⟩, ⟨(some 15), none, (.ld false 1 (.v 14))⟩, ⟨(some 16), none, (.mv (.v 1))⟩, ⟨(some 17), none, (.bin .neq .none (.v 15) (.v 16))⟩]) (.cond (.v 17) (.seq (.reg false [] [⟨(some 4), none, (.mv (.k (.int .i64 (-1))))⟩]) .ret) .skip)) (.reg false [] [⟨(some 18), none, (.mv (.v 1))⟩, ⟨(some 19), none, (.bin .add .none (.v 18) (.k (.int .i64 1)))⟩, ⟨(some 1), none, (.mv (.v 19))⟩]))) (.reg false [] [⟨(some 10), none, (.mv (.v 5))⟩, ⟨(some 11), none, (.bin .add .none (.v 10) (.k (.int .i64 1)))⟩, ⟨(some 5), none, (.mv (.v 11))⟩])))
def ir37_b0 : C := ir37_d0
def ir37_l0 : C := .loop true [0, 1, 5] ir37_b0
def ir37_c : C := (.seq (.reg false [] [⟨(some 4), none, (.mv (.k (.int .i64 0)))⟩]) (.seq (.seq (.reg false [] [⟨(some 5), none, (.mv (.k (.int .i64 0)))⟩]) (.block 0 ir37_l0)) (.seq (.reg false [] [⟨(some 20), none, (.mv (.v 1))⟩, ⟨(some 4), none, (.mv (.v 20))⟩]) .ret)))
def ir37 : Fn := ⟨.own, 2, 21, [(.tmp 4)], ir37_c⟩
def ir38_c : C := (.seq (.reg false [] [⟨(some 6), none, (.mv (.k (.bool false)))⟩]) (.seq (.reg false [] [⟨(some 7), none, (.mv (.v 0))⟩, ⟨(some 8), none, (.mv (.v 1))⟩, ⟨(some 9), none, (.bin .geq .none (.v 7) (.v 8))⟩, ⟨(some 10), none, (.mv (.v 9))⟩, ⟨(some 11), (some (10, true)), (.mv (.v 0))⟩, ⟨(some 12), (some (10, true)), (.mv (.v 2))⟩, ⟨(some 13), (some (10, true)), (.bin .leq .none (.v 11) (.v 12))⟩, ⟨(some 14), none, (.pick (.v 10) (.v 13) (.k (.bool false)))⟩, ⟨(some 6), none, (.mv (.v 14))⟩]) .ret))
def ir38 : Fn := ⟨.own, 3, 15, [(.tmp 6)], ir38_c⟩
def ir39_c : C := (.seq (.reg false [] [⟨(some 6), none, (.mv (.k (.bool false)))⟩]) (.seq (.reg false [] [⟨(some 7), none, (.mv (.v 1))⟩, ⟨(some 8), none, (.mv (.v 0))⟩, ⟨(some 9), none, (.bin .leq .none (.v 7) (.v 8))⟩, ⟨(some 10), none, (.mv (.v 9))⟩, ⟨(some 11), (some (10, true)), (.mv (.v 0))⟩, ⟨(some 12), (some (10, true)), (.mv (.v 2))⟩, ⟨(some 13), (some (10, true)), (.bin .leq .none (.v 11) (.v 12))⟩, ⟨(some 14), none, (.pick (.v 10) (.v 13) (.k (.bool false)))⟩, ⟨(some 6), none, (.mv (.v 14))⟩]) .ret))
def ir39 : Fn := ⟨.own, 3, 15, [(.tmp 6)], ir39_c⟩
def ir40_d0 : C := (.seq (.reg false [] [⟨(some 7), none, (.bin .lss .none (.v 6) (.v 5))⟩]) (.seq (.cond (.v 7) .skip (.exit 0)) (.seq (.block 1 (.reg false [] [⟨(some 8), none, (.mv (.v 3))⟩, ⟨(some 9), none, (.bin .mul .none (.v 8) (.k (.int .i64 4)))⟩, ⟨(some 3), none, (.mv (.v 9))⟩])) (.reg false [] [⟨(some 10), none, (.bin .add .none (.v 6) (.k (.int .i64 1)))⟩, ⟨(some 6), none, (.mv (.v 10))⟩]))))
def ir40_b0 : C := ir40_d0
def ir40_l0 : C := .loop true [3, 5, 6] ir40_b0
def ir40_c : C := (.seq (.reg false [] [⟨(some 1), none, (.box (.v 0))⟩, ⟨(some 2), none, (.mv (.k (.int .i64 0)))⟩]) (.seq (.reg false [] [⟨(some 3), none, (.mv (.k (.int .i64 4)))⟩]) (.seq (.seq (.reg false [] [⟨(some 4), none, (.ld true 3 (.v 1))⟩, ⟨(some 5), none, (.call 57 [(.v 4)])⟩, ⟨(some 6), none, (.mv (.k (.int .i64 0)))⟩]) (.block 0 ir40_l0)) (.seq (.reg false [] [⟨(some 11), none, (.mv (.v 3))⟩, ⟨(some 2), none, (.mv (.v 11))⟩]) .ret))))
def ir40 : Fn := ⟨.own, 1, 12, [(.tmp 2)], ir40_c⟩
def ir41_d0 : C := (.seq (.reg false [] [⟨(some 17), none, (.bin .lss .none (.v 16) (.v 15))⟩]) (.seq (.cond (.v 17) .skip (.exit 0)) (.seq (.block 1 (.seq (.reg false [] [⟨(some 18), none, (.ixa 2 (.v 14) (.v 16))⟩, ⟨(some 19), none, (.ld true 2 (.v 18))⟩, ⟨(some 7), none, (.alc 2 [(.int .i64 0), .nil])⟩, ⟨none, none, (.st 2 (.v 7) (.v 19))⟩]) (.reg true [0, 0, 0, 4, 0, 16, 62, 126, 0, 510, 1022, 2047, 4095] [⟨(some 20), none, (.mv (.v 5))⟩, ⟨(some 21), none, (.ld true 2 (.v 4))⟩, ⟨(some 22), none, (.fad 0 (.v 7))⟩, ⟨(some 23), none, (.ld false 1 (.v 22))⟩, ⟨(some 24), none, (.fad 1 (.v 7))⟩, ⟨(some 25), none, (.ld false 1 (.v 24))⟩, ⟨(some 26), none, (.call 44 [(.v 21), (.v 23), (.v 25)])⟩, ⟨(some 27), none, (.call 45 [(.v 26)])⟩, ⟨(some 28), none, (.ld true 2 (.v 7))⟩, ⟨(some 29), none, (.bld [(.int .i64 0), (.int .i64 0), (.int .i64 0), .nil] [(0, (1, (.v 27))), (1, (1, (.k (.int .i64 1)))), (2, (2, (.v 28)))])⟩, ⟨(some 30), none, (.bsl false 4 1 (.agg [(.int .i64 0), (.int .i64 0), (.int .i64 0), .nil]) [(0, (.v 29))])⟩, ⟨(some 31), none, (.app false 4 (.v 20) (.v 30))⟩, ⟨(some 5), none, (.mv (.v 31))⟩]))) (.reg false [] [⟨(some 32), none, (.bin .add .none (.v 16) (.k (.int .i64 1)))⟩, ⟨(some 16), none, (.mv (.v 32))⟩]))))
def ir41_b0 : C := ir41_d0
def ir41_l0 : C := .loop true [4, 5, 14, 15, 16] ir41_b0
def ir41_c : C := (.seq (.reg false [] [⟨(some 3), none, (.mv (.k .nil))⟩]) (.seq (.reg false [] [⟨(some 8), none, (.ld true 3 (.v 1))⟩, ⟨(some 9), none, (.mv (.v 0))⟩, ⟨(some 10), none, (.call 42 [(.v 8), (.v 9)])⟩, ⟨(some 11), none, (.bsl false 4 0 (.agg [(.int .i64 0), (.int .i64 0), (.int .i64 0), .nil]) [])⟩, ⟨(some 4), none, (.alc 2 [.nil, (.int .i64 0)])⟩, ⟨none, none, (.st 2 (.v 4) (.v 10))⟩, ⟨(some 5), none, (.mv (.v 11))⟩]) (.seq (.seq (.reg false [] [⟨(some 12), none, (.ld true 3 (.v 1))⟩, ⟨(some 13), none, (.ld true 2 (.v 4))⟩, ⟨(some 14), none, (.call 43 [(.v 12), (.v 13)])⟩, ⟨(some 15), none, (.len 1 (.v 14))⟩, ⟨(some 16), none, (.mv (.k (.int .i64 0)))⟩]) (.block 0 ir41_l0)) (.seq (.reg false [] [⟨(some 33), none, (.mv (.v 5))⟩, ⟨(some 3), none, (.mv (.v 33))⟩]) .ret))))
def ir41 : Fn := ⟨.ownF, 2, 34, [(.tmp 3)], ir41_c⟩
def ir42_d0 : C := (.seq (.seq (.reg false [] [⟨(some 14), none, (.mv (.v 6))⟩, ⟨(some 15), none, (.bin .geq .none (.v 14) (.k (.int .i64 0)))⟩]) (.cond (.v 15) .skip (.exit 0))) (.seq (.block 1 (.reg false [] [⟨(some 18), none, (.fad 0 (.v 5))⟩, ⟨(some 19), none, (.ld false 1 (.v 18))⟩, ⟨(some 20), none, (.mv (.v 6))⟩, ⟨(some 21), none, (.mv (.v 1))⟩, ⟨(some 22), none, (.bin .rem .none (.v 21) (.k (.int .i64 4)))⟩, ⟨(some 23), none, (.mv (.v 1))⟩, ⟨(some 24), none, (.bin .quo .none (.v 23) (.k (.int .i64 4)))⟩, ⟨(some 25), none, (.ixa 1 (.v 19) (.v 20))⟩, ⟨none, none, (.st 1 (.v 25) (.v 22))⟩, ⟨(some 1), none, (.mv (.v 24))⟩])) (.reg false [] [⟨(some 16), none, (.mv (.v 6))⟩, ⟨(some 17), none, (.bin .sub .none (.v 16) (.k (.int .i64 1)))⟩, ⟨(some 6), none, (.mv (.v 17))⟩])))
def ir42_b0 : C := ir42_d0
def ir42_l0 : C := .loop true [1, 4, 5, 6] ir42_b0
def ir42_c : C := (.seq (.reg false [] [⟨(some 2), none, (.box (.v 0))⟩, ⟨(some 4), none, (.alc 2 [.nil, (.int .i64 0)])⟩]) (.seq (.reg false [] [⟨(some 7), none, (.ld true 3 (.v 2))⟩, ⟨(some 8), none, (.call 57 [(.v 7)])⟩, ⟨(some 9), none, (.mks 1 (.int .i64 0) (.v 8) (.v 8))⟩, ⟨(some 10), none, (.bld [.nil, (.int .i64 0)] [(0, (1, (.v 9)))])⟩, ⟨(some 5), none, (.alc 2 [.nil, (.int .i64 0)])⟩, ⟨none, none, (.st 2 (.v 5) (.v 10))⟩]) (.seq (.seq (.reg false [] [⟨(some 11), none, (.ld true 3 (.v 2))⟩, ⟨(some 12), none, (.call 57 [(.v 11)])⟩, ⟨(some 13), none, (.bin .sub .none (.v 12) (.k (.int .i64 1)))⟩, ⟨(some 6), none, (.mv (.v 13))⟩]) (.block 0 ir42_l0)) (.seq (.reg false [] [⟨(some 26), none, (.mv (.v 1))⟩, ⟨(some 27), none, (.fad 1 (.v 5))⟩, ⟨none, none, (.st 1 (.v 27) (.v 26))⟩]) (.seq (.reg false [] [⟨(some 28), none, (.ld true 2 (.v 5))⟩, ⟨none, none, (.st 2 (.v 4) (.v 28))⟩]) .ret)))))
def ir42 : Fn := ⟨.own, 2, 29, [(.cell 4 true 2)], ir42_c⟩
def ir43_d0 : C := (.seq (.reg false [] [⟨(some 17), none, (.bin .lss .none (.v 16) (.v 15))⟩]) (.seq (.cond (.v 17) .skip (.exit 0)) (.seq (.block 1 (.seq (.reg false [] [⟨(some 18), none, (.mv (.v 16))⟩, ⟨(some 7), none, (.alc 1 [(.int .i64 0)])⟩, ⟨none, none, (.st 1 (.v 7) (.v 18))⟩]) (.seq (.seq (.reg false [] [⟨(some 19), none, (.ld false 1 (.v 7))⟩, ⟨(some 20), none, (.fad 1 (.v 3))⟩, ⟨(some 21), none, (.ld false 1 (.v 20))⟩, ⟨(some 22), none, (.bin .eql .none (.v 19) (.v 21))⟩]) (.cond (.v 22) (.exit 1) .skip)) (.reg false [] [⟨(some 23), none, (.mv (.v 6))⟩, ⟨(some 24), none, (.fad 1 (.v 2))⟩, ⟨(some 25), none, (.ld false 1 (.v 24))⟩, ⟨(some 26), none, (.mkf 60 [] [(.v 2), (.v 3), (.v 7), (.v 5)])⟩, ⟨(some 27), none, (.call 59 [(.v 23), (.v 25), (.v 26)])⟩])))) (.reg false [] [⟨(some 28), none, (.bin .add .none (.v 16) (.k (.int .i64 1)))⟩, ⟨(some 16), none, (.mv (.v 28))⟩]))))
def ir43_b0 : C := ir43_d0
def ir43_l0 : C := .loop true [2, 3, 5, 6, 15, 16] ir43_b0
def ir43_c : C := (.seq (.reg false [] [⟨(some 2), none, (.box (.v 0))⟩, ⟨(some 3), none, (.box (.v 1))⟩, ⟨(some 4), none, (.mv (.k .nil))⟩]) (.seq (.reg false [] [⟨(some 8), none, (.bsl false 2 0 (.agg [(.int .i64 0), .nil]) [])⟩, ⟨(some 5), none, (.alc 1 [.nil])⟩, ⟨none, none, (.st 1 (.v 5) (.v 8))⟩]) (.seq (.reg false [] [⟨(some 9), none, (.ld true 2 (.v 3))⟩, ⟨(some 10), none, (.fad 1 (.v 3))⟩, ⟨(some 11), none, (.ld false 1 (.v 10))⟩, ⟨(some 12), none, (.call 58 [(.v 9), (.v 11)])⟩, ⟨(some 6), none, (.mv (.v 12))⟩]) (.seq (.seq (.reg false [] [⟨(some 13), none, (.ld true 3 (.v 2))⟩, ⟨(some 14), none, (.call 49 [(.v 13)])⟩, ⟨(some 15), none, (.bin .add .none (.v 14) (.k (.int .i64 1)))⟩, ⟨(some 16), none, (.mv (.k (.int .i64 0)))⟩]) (.block 0 ir43_l0)) (.seq (.reg false [] [⟨(some 29), none, (.ld false 1 (.v 5))⟩, ⟨(some 4), none, (.mv (.v 29))⟩]) .ret)))))
def ir43 : Fn := ⟨.ownF, 2, 30, [(.tmp 4)], ir43_c⟩
def ir44_d0 : C := (.seq (.reg false [] [⟨(some 18), none, (.bin .lss .none (.v 17) (.v 16))⟩]) (.seq (.cond (.v 18) .skip (.exit 0)) (.seq (.block 1 (.seq (.reg false [] [⟨(some 19), none, (.ixa 1 (.v 15) (.v 17))⟩, ⟨(some 20), none, (.ld false 1 (.v 19))⟩, ⟨(some 9), none, (.mv (.v 20))⟩]) (.reg false [] [⟨(some 21), none, (.fad 0 (.v 7))⟩, ⟨(some 22), none, (.ld false 1 (.v 21))⟩, ⟨(some 23), none, (.mv (.v 9))⟩, ⟨(some 24), none, (.mv (.v 1))⟩, ⟨(some 25), none, (.ixa 1 (.v 22) (.v 23))⟩, ⟨none, none, (.st 1 (.v 25) (.v 24))⟩]))) (.reg false [] [⟨(some 26), none, (.bin .add .none (.v 17) (.k (.int .i64 1)))⟩, ⟨(some 17), none, (.mv (.v 26))⟩]))))
def ir44_b0 : C := ir44_d0
def ir44_l0 : C := .loop true [1, 6, 7, 15, 16, 17] ir44_b0
def ir44_c : C := (.seq (.reg false [] [⟨(some 3), none, (.box (.v 0))⟩, ⟨(some 6), none, (.alc 2 [.nil, (.int .i64 0)])⟩]) (.seq (.reg false [] [⟨(some 10), none, (.fad 0 (.v 3))⟩, ⟨(some 11), none, (.ld false 1 (.v 10))⟩, ⟨(some 12), none, (.call 63 [(.v 11)])⟩, ⟨(some 13), none, (.mv (.v 1))⟩, ⟨(some 14), none, (.bld [.nil, (.int .i64 0)] [(0, (1, (.v 12))), (1, (1, (.v 13)))])⟩, ⟨(some 7), none, (.alc 2 [.nil, (.int .i64 0)])⟩, ⟨none, none, (.st 2 (.v 7) (.v 14))⟩]) (.seq (.seq (.reg false [] [⟨(some 15), none, (.mv (.v 2))⟩, ⟨(some 16), none, (.len 1 (.v 15))⟩, ⟨(some 17), none, (.mv (.k (.int .i64 0)))⟩]) (.block 0 ir44_l0)) (.seq (.reg false [] [⟨(some 27), none, (.ld true 2 (.v 7))⟩, ⟨none, none, (.st 2 (.v 6) (.v 27))⟩]) .ret))))
def ir44 : Fn := ⟨.own, 3, 28, [(.cell 6 true 2)], ir44_c⟩
def ir45_d0 : C := (.seq (.reg false [] [⟨(some 12), none, (.bin .lss .none (.v 11) (.v 10))⟩]) (.seq (.cond (.v 12) .skip (.exit 0)) (.seq (.block 1 (.seq (.reg false [] [⟨(some 13), none, (.ixa 1 (.v 9) (.v 11))⟩, ⟨(some 14), none, (.ld false 1 (.v 13))⟩, ⟨(some 5), none, (.mv (.v 14))⟩]) (.reg false [] [⟨(some 15), none, (.mv (.v 3))⟩, ⟨(some 16), none, (.bin .mul .none (.v 15) (.k (.int .i64 4)))⟩, ⟨(some 17), none, (.mv (.v 5))⟩, ⟨(some 18), none, (.bin .add .none (.v 16) (.v 17))⟩, ⟨(some 3), none, (.mv (.v 18))⟩]))) (.reg false [] [⟨(some 19), none, (.bin .add .none (.v 11) (.k (.int .i64 1)))⟩, ⟨(some 11), none, (.mv (.v 19))⟩]))))
def ir45_b0 : C := ir45_d0
def ir45_l0 : C := .loop true [3, 9, 10, 11] ir45_b0
def ir45_c : C := (.seq (.reg false [] [⟨(some 1), none, (.box (.v 0))⟩, ⟨(some 2), none, (.mv (.k (.int .i64 0)))⟩]) (.seq (.reg false [] [⟨(some 6), none, (.fad 1 (.v 1))⟩, ⟨(some 7), none, (.ld false 1 (.v 6))⟩, ⟨(some 3), none, (.mv (.v 7))⟩]) (.seq (.seq (.reg false [] [⟨(some 8), none, (.fad 0 (.v 1))⟩, ⟨(some 9), none, (.ld false 1 (.v 8))⟩, ⟨(some 10), none, (.len 1 (.v 9))⟩, ⟨(some 11), none, (.mv (.k (.int .i64 0)))⟩]) (.block 0 ir45_l0)) (.seq (.reg false [] [⟨(some 20), none, (.mv (.v 3))⟩, ⟨(some 2), none, (.mv (.v 20))⟩]) .ret))))
def ir45 : Fn := ⟨.own, 1, 21, [(.tmp 2)], ir45_c⟩
def ir46_d0 : C := (.seq (.seq (.reg false [] [⟨(some 64), none, (.mv (.v 6))⟩, ⟨(some 65), none, (.len 1 (.v 64))⟩, ⟨(some 66), none, (.mv (.v 7))⟩, ⟨(some 67), none, (.fad 1 (.v 11))⟩, ⟨(some 68), none, (.ld false 1 (.v 67))⟩, ⟨(some 69), none, (.bin .add .none (.v 66) (.v 68))⟩, ⟨(some 70), none, (.bin .leq .none (.v 65) (.v 69))⟩]) (.cond (.v 70) .skip (.exit 6))) (.block 7 (.reg false [] [⟨(some 71), none, (.mv (.v 6))⟩, ⟨(some 72), none, (.bsl true 1 1 .nil [(0, (.k .nil))])⟩, ⟨(some 73), none, (.app true 1 (.v 71) (.v 72))⟩, ⟨(some 6), none, (.mv (.v 73))⟩])))
def ir46_b0 : C := ir46_d0
def ir46_l0 : C := .loop false [2, 5, 6, 7, 8, 11, 52, 53, 54] ir46_b0
def ir46_d1 : C := (.seq (.reg false [] [⟨(some 55), none, (.bin .lss .none (.v 54) (.v 53))⟩]) (.seq (.cond (.v 55) .skip (.exit 4)) (.seq (.block 5 (.seq (.reg false [] [⟨(some 56), none, (.ixa 4 (.v 52) (.v 54))⟩, ⟨(some 57), none, (.ld true 4 (.v 56))⟩, ⟨(some 11), none, (.alc 4 [(.int .i64 0), (.int .i64 0), (.int .i64 0), .nil])⟩, ⟨none, none, (.st 4 (.v 11) (.v 57))⟩]) (.seq (.seq (.reg false [] [⟨(some 58), none, (.mv (.v 5))⟩, ⟨(some 59), none, (.fad 0 (.v 11))⟩, ⟨(some 60), none, (.ld false 1 (.v 59))⟩, ⟨(some 61), none, (.ixa 1 (.v 58) (.v 60))⟩, ⟨(some 62), none, (.ld false 1 (.v 61))⟩, ⟨(some 63), none, (.bin .geq .none (.v 62) (.k (.int .i64 0)))⟩]) (.cond (.v 63) (.exit 5) .skip)) (.seq (.block 6 ir46_l0) (.reg true [0, 0, 0, 4, 14, 0, 0, 0, 128, 448, 992, 2016, 0, 4096, 12288, 32736, 65535, 131071] [⟨(some 74), none, (.mv (.v 6))⟩, ⟨(some 75), none, (.mv (.v 7))⟩, ⟨(some 76), none, (.fad 1 (.v 11))⟩, ⟨(some 77), none, (.ld false 1 (.v 76))⟩, ⟨(some 78), none, (.bin .add .none (.v 75) (.v 77))⟩, ⟨(some 79), none, (.mv (.v 6))⟩, ⟨(some 80), none, (.mv (.v 7))⟩, ⟨(some 81), none, (.fad 1 (.v 11))⟩, ⟨(some 82), none, (.ld false 1 (.v 81))⟩, ⟨(some 83), none, (.bin .add .none (.v 80) (.v 82))⟩, ⟨(some 84), none, (.ixa 1 (.v 79) (.v 83))⟩, ⟨(some 85), none, (.ld false 1 (.v 84))⟩, ⟨(some 86), none, (.fad 0 (.v 11))⟩, ⟨(some 87), none, (.ld false 1 (.v 86))⟩, ⟨(some 88), none, (.bsl false 1 1 (.int .i64 0) [(0, (.v 87))])⟩, ⟨(some 89), none, (.app false 1 (.v 85) (.v 88))⟩, ⟨(some 90), none, (.ixa 1 (.v 74) (.v 78))⟩, ⟨none, none, (.st 1 (.v 90) (.v 89))⟩]))))) (.reg false [] [⟨(some 91), none, (.bin .add .none (.v 54) (.k (.int .i64 1)))⟩, ⟨(some 54), none, (.mv (.v 91))⟩]))))
def ir46_b1 : C := ir46_d1
def ir46_l1 : C := .loop false [2, 5, 6, 7, 8, 52, 53, 54] ir46_b1
def ir46_d2 : C := (.seq (.seq (.reg false [] [⟨(some 24), none, (.mv (.v 8))⟩, ⟨(some 25), none, (.mv (.v 6))⟩, ⟨(some 26), none, (.mv (.v 7))⟩, ⟨(some 27), none, (.ixa 1 (.v 25) (.v 26))⟩, ⟨(some 28), none, (.ld false 1 (.v 27))⟩, ⟨(some 29), none, (.len 1 (.v 28))⟩, ⟨(some 30), none, (.bin .lss .none (.v 24) (.v 29))⟩]) (.cond (.v 30) .skip (.exit 2))) (.seq (.block 3 (.seq (.reg false [] [⟨(some 33), none, (.mv (.v 6))⟩, ⟨(some 34), none, (.mv (.v 7))⟩, ⟨(some 35), none, (.ixa 1 (.v 33) (.v 34))⟩, ⟨(some 36), none, (.ld false 1 (.v 35))⟩, ⟨(some 37), none, (.mv (.v 8))⟩, ⟨(some 38), none, (.ixa 1 (.v 36) (.v 37))⟩, ⟨(some 39), none, (.ld false 1 (.v 38))⟩, ⟨(some 9), none, (.mv (.v 39))⟩]) (.seq (.seq (.reg false [] [⟨(some 40), none, (.mv (.v 5))⟩, ⟨(some 41), none, (.mv (.v 9))⟩, ⟨(some 42), none, (.ixa 1 (.v 40) (.v 41))⟩, ⟨(some 43), none, (.ld false 1 (.v 42))⟩, ⟨(some 44), none, (.bin .geq .none (.v 43) (.k (.int .i64 0)))⟩]) (.cond (.v 44) (.exit 3) .skip)) (.seq (.reg false [] [⟨(some 45), none, (.mv (.v 5))⟩, ⟨(some 46), none, (.mv (.v 9))⟩, ⟨(some 47), none, (.mv (.v 7))⟩, ⟨(some 48), none, (.ixa 1 (.v 45) (.v 46))⟩, ⟨none, none, (.st 1 (.v 48) (.v 47))⟩]) (.seq (.reg false [] [⟨(some 49), none, (.fad 1 (.v 2))⟩, ⟨(some 50), none, (.ld false 1 (.v 49))⟩, ⟨(some 51), none, (.mv (.v 9))⟩, ⟨(some 52), none, (.callv (.v 50) [(.v 51)])⟩, ⟨(some 53), none, (.len 1 (.v 52))⟩, ⟨(some 54), none, (.mv (.k (.int .i64 0)))⟩]) (.block 4 ir46_l1)))))) (.reg false [] [⟨(some 31), none, (.mv (.v 8))⟩, ⟨(some 32), none, (.bin .add .none (.v 31) (.k (.int .i64 1)))⟩, ⟨(some 8), none, (.mv (.v 32))⟩])))
def ir46_b2 : C := ir46_d2
def ir46_l2 : C := .loop false [2, 5, 6, 7, 8] ir46_b2
def ir46_d3 : C := (.seq (.seq (.reg false [] [⟨(some 18), none, (.mv (.v 7))⟩, ⟨(some 19), none, (.mv (.v 6))⟩, ⟨(some 20), none, (.len 1 (.v 19))⟩, ⟨(some 21), none, (.bin .lss .none (.v 18) (.v 20))⟩]) (.cond (.v 21) .skip (.exit 0))) (.seq (.block 1 (.seq (.reg false [] [⟨(some 8), none, (.mv (.k (.int .i64 0)))⟩]) (.block 2 ir46_l2))) (.reg false [] [⟨(some 22), none, (.mv (.v 7))⟩, ⟨(some 23), none, (.bin .add .none (.v 22) (.k (.int .i64 1)))⟩, ⟨(some 7), none, (.mv (.v 23))⟩])))
def ir46_b3 : C := ir46_d3
def ir46_l3 : C := .loop false [2, 5, 6, 7] ir46_b3
def ir46_c : C := (.seq (.reg false [] [⟨(some 2), none, (.box (.v 0))⟩, ⟨(some 4), none, (.mv (.k .nil))⟩]) (.seq (.reg false [] [⟨(some 12), none, (.bsl false 1 1 (.int .i64 0) [(0, (.k (.int .i64 (-1))))])⟩, ⟨(some 13), none, (.fad 0 (.v 2))⟩, ⟨(some 14), none, (.ld false 1 (.v 13))⟩, ⟨(some 15), none, (.call 64 [(.v 12), (.v 14)])⟩, ⟨(some 16), none, (.mv (.v 1))⟩, ⟨(some 17), none, (.bsl true 1 1 .nil [(0, (.v 16))])⟩, ⟨(some 5), none, (.mv (.v 15))⟩, ⟨(some 6), none, (.mv (.v 17))⟩]) (.seq (.seq (.reg false [] [⟨(some 7), none, (.mv (.k (.int .i64 0)))⟩]) (.block 0 ir46_l3)) (.seq (.reg false [] [⟨(some 92), none, (.mv (.v 5))⟩, ⟨(some 4), none, (.mv (.v 92))⟩]) .ret))))
def ir46 : Fn := ⟨.ref, 2, 93, [(.tmp 4)], ir46_c⟩
def ir47_c : C := (.seq (.reg false [] [⟨(some 2), none, (.mv (.k (.int .i64 0)))⟩]) (.seq (.seq (.reg false [] [⟨(some 3), none, (.mv (.v 0))⟩]) (.cond (.v 3) (.seq (.reg false [] [⟨(some 2), none, (.mv (.k (.int .i64 1)))⟩]) .ret) .skip)) (.seq (.reg false [] [⟨(some 2), none, (.mv (.k (.int .i64 0)))⟩]) .ret)))
def ir47 : Fn := ⟨.own, 1, 4, [(.tmp 2)], ir47_c⟩
def ir48_c : C := (.seq (.reg false [] [⟨(some 2), none, (.box (.v 0))⟩, ⟨(some 4), none, (.alc 2 [.nil, (.int .i64 0)])⟩]) (.seq (.reg false [] [⟨(some 5), none, (.mv (.v 1))⟩, ⟨(some 6), none, (.bsl false 1 1 (.int .i64 0) [(0, (.v 5))])⟩, ⟨(some 7), none, (.ld true 3 (.v 2))⟩, ⟨(some 8), none, (.call 57 [(.v 7)])⟩, ⟨(some 9), none, (.call 64 [(.v 6), (.v 8)])⟩, ⟨(some 10), none, (.mv (.v 1))⟩, ⟨(some 11), none, (.bld [.nil, (.int .i64 0)] [(0, (1, (.v 9))), (1, (1, (.v 10)))])⟩, ⟨none, none, (.st 2 (.v 4) (.v 11))⟩]) .ret))
def ir48 : Fn := ⟨.own, 2, 12, [(.cell 4 true 2)], ir48_c⟩
def ir49_c : C := (.seq (.reg false [] [⟨(some 1), none, (.box (.v 0))⟩, ⟨(some 2), none, (.mv (.k (.int .i64 0)))⟩]) (.seq (.reg false [] [⟨(some 3), none, (.fad 2 (.v 1))⟩, ⟨(some 4), none, (.ld false 1 (.v 3))⟩, ⟨(some 5), none, (.bin .add .none (.v 4) (.k (.int .i64 1)))⟩, ⟨(some 2), none, (.mv (.v 5))⟩]) .ret))
def ir49 : Fn := ⟨.own, 1, 6, [(.tmp 2)], ir49_c⟩
def ir50_d0 : C := (.seq (.reg false [] [⟨(some 38), none, (.bin .lss .none (.v 37) (.v 36))⟩]) (.seq (.cond (.v 38) .skip (.exit 0)) (.seq (.block 1 (.seq (.reg false [] [⟨(some 39), none, (.mv (.v 37))⟩, ⟨(some 40), none, (.ixa 4 (.v 35) (.v 37))⟩, ⟨(some 41), none, (.ld true 4 (.v 40))⟩, ⟨(some 17), none, (.alc 4 [(.int .i64 0), (.int .i64 0), (.int .i64 0), .nil])⟩, ⟨(some 16), none, (.mv (.v 39))⟩, ⟨none, none, (.st 4 (.v 17) (.v 41))⟩]) (.reg true [0, 0, 0, 0, 0, 16, 0, 0, 0, 0, 1016, 0, 2048, 8191, 16383] [⟨(some 42), none, (.mv (.v 4))⟩, ⟨(some 43), none, (.ld true 4 (.v 17))⟩, ⟨(some 44), none, (.mv (.v 15))⟩, ⟨(some 45), none, (.ld true 2 (.v 6))⟩, ⟨(some 46), none, (.fad 0 (.v 17))⟩, ⟨(some 47), none, (.ld false 1 (.v 46))⟩, ⟨(some 48), none, (.mv (.v 2))⟩, ⟨(some 49), none, (.mv (.v 3))⟩, ⟨(some 50), none, (.mv (.v 4))⟩, ⟨(some 51), none, (.mv (.v 5))⟩, ⟨(some 52), none, (.call 50 [(.v 45), (.v 47), (.v 48), (.v 49), (.v 50), (.v 51)])⟩, ⟨(some 53), none, (.mv (.v 16))⟩, ⟨(some 54), none, (.bin .eql .none (.v 53) (.k (.int .i64 0)))⟩, ⟨(some 55), none, (.callv (.v 42) [(.v 43), (.v 44), (.v 52), (.v 54)])⟩, ⟨(some 15), none, (.mv (.v 55))⟩]))) (.reg false [] [⟨(some 56), none, (.bin .add .none (.v 37) (.k (.int .i64 1)))⟩, ⟨(some 37), none, (.mv (.v 56))⟩]))))
def ir50_b0 : C := ir50_d0
def ir50_l0 : C := .loop false [1, 2, 3, 4, 5, 6, 15, 35, 36, 37] ir50_b0
def ir50_c : C := (.seq (.reg false [] [⟨(some 6), none, (.box (.v 0))⟩, ⟨(some 12), none, (.mv (.k (.int .i64 0)))⟩]) (.seq (.seq (.reg false [] [⟨(some 18), none, (.mv (.v 2))⟩, ⟨(some 19), none, (.mv (.v 1))⟩, ⟨(some 20), none, (.ixa 1 (.v 18) (.v 19))⟩, ⟨(some 21), none, (.ld false 1 (.v 20))⟩, ⟨(some 22), none, (.bin .eql .none (.v 21) (.k (.int .i64 0)))⟩]) (.cond (.v 22) (.seq (.reg false [] [⟨(some 23), none, (.mv (.v 5))⟩, ⟨(some 12), none, (.mv (.v 23))⟩]) .ret) .skip)) (.seq (.seq (.reg false [] [⟨(some 25), none, (.mv (.v 3))⟩, ⟨(some 26), none, (.mv (.v 1))⟩, ⟨(some 27), none, (.lkp 0 true (.int .i64 0) (.v 25) (.v 26))⟩, ⟨(some 24), none, (.mv (.v 27))⟩, ⟨(some 28), none, (.ext (.v 24) 0)⟩, ⟨(some 29), none, (.ext (.v 24) 1)⟩, ⟨(some 13), none, (.mv (.v 28))⟩, ⟨(some 14), none, (.mv (.v 29))⟩]) (.seq (.reg false [] [⟨(some 30), none, (.mv (.v 14))⟩]) (.cond (.v 30) (.seq (.reg false [] [⟨(some 31), none, (.mv (.v 13))⟩, ⟨(some 12), none, (.mv (.v 31))⟩]) .ret) .skip))) (.seq (.reg false [] [⟨(some 15), none, (.mv (.k (.int .i64 0)))⟩]) (.seq (.seq (.reg false [] [⟨(some 32), none, (.ld true 2 (.v 6))⟩, ⟨(some 33), none, (.mv (.v 1))⟩, ⟨(some 34), none, (.mv (.v 2))⟩, ⟨(some 35), none, (.call 55 [(.v 32), (.v 33), (.v 34)])⟩, ⟨(some 36), none, (.len 1 (.v 35))⟩, ⟨(some 37), none, (.mv (.k (.int .i64 0)))⟩]) (.block 0 ir50_l0)) (.seq (.reg false [] [⟨(some 57), none, (.mv (.v 3))⟩, ⟨(some 58), none, (.mv (.v 1))⟩, ⟨(some 59), none, (.mv (.v 15))⟩, ⟨none, none, (.mup 0 (.v 57) (.v 58) (.v 59))⟩]) (.seq (.reg false [] [⟨(some 60), none, (.mv (.v 15))⟩, ⟨(some 12), none, (.mv (.v 60))⟩]) .ret)))))))
def ir50 : Fn := ⟨.refM, 6, 61, [(.tmp 12)], ir50_c⟩
def ir51_c : C := (.seq (.reg false [] [⟨(some 4), none, (.box (.v 0))⟩, ⟨(some 8), none, (.mv (.k (.int .i64 0)))⟩]) (.seq (.reg false [] [⟨(some 9), none, (.mv (.v 1))⟩, ⟨(some 10), none, (.mv (.v 2))⟩, ⟨(some 11), none, (.bin .add .none (.v 9) (.v 10))⟩, ⟨(some 8), none, (.mv (.v 11))⟩]) .ret))
def ir51 : Fn := ⟨.own, 4, 12, [(.tmp 8)], ir51_c⟩
def ir52_d0 : C := (.seq (.seq (.reg false [] [⟨(some 25), none, (.mv (.v 10))⟩, ⟨(some 26), none, (.mv (.v 0))⟩, ⟨(some 27), none, (.len 1 (.v 26))⟩, ⟨(some 28), none, (.bin .lss .none (.v 25) (.v 27))⟩]) (.cond (.v 28) .skip (.exit 0))) (.seq (.block 1 (.reg true [0, 0, 0, 4, 0, 0, 48, 112, 240, 508, 0, 1024, 0, 8190, 16383, 32767] [⟨(some 31), none, (.mv (.v 9))⟩, ⟨(some 32), none, (.mv (.v 0))⟩, ⟨(some 33), none, (.mv (.v 1))⟩, ⟨(some 34), none, (.call 54 [(.v 33)])⟩, ⟨(some 35), none, (.mv (.v 0))⟩, ⟨(some 36), none, (.mv (.v 10))⟩, ⟨(some 37), none, (.ixa 1 (.v 35) (.v 36))⟩, ⟨(some 38), none, (.ld false 1 (.v 37))⟩, ⟨(some 39), none, (.bsl false 1 1 (.int .i64 0) [(0, (.v 38))])⟩, ⟨(some 40), none, (.app false 1 (.v 34) (.v 39))⟩, ⟨(some 41), none, (.mv (.v 10))⟩, ⟨(some 42), none, (.bin .add .none (.v 41) (.k (.int .i64 1)))⟩, ⟨(some 43), none, (.mv (.v 3))⟩, ⟨(some 44), none, (.call 52 [(.v 32), (.v 40), (.v 42), (.v 43)])⟩, ⟨(some 45), none, (.app false 1 (.v 31) (.v 44))⟩, ⟨(some 9), none, (.mv (.v 45))⟩])) (.reg false [] [⟨(some 29), none, (.mv (.v 10))⟩, ⟨(some 30), none, (.bin .add .none (.v 29) (.k (.int .i64 1)))⟩, ⟨(some 10), none, (.mv (.v 30))⟩])))
def ir52_b0 : C := ir52_d0
def ir52_l0 : C := .loop true [0, 1, 3, 9, 10] ir52_b0
def ir52_c : C := (.seq (.reg false [] [⟨(some 8), none, (.mv (.k .nil))⟩]) (.seq (.reg false [] [⟨(some 9), none, (.mv (.k .nil))⟩]) (.seq (.seq (.reg false [] [⟨(some 11), none, (.mv (.v 1))⟩, ⟨(some 12), none, (.len 1 (.v 11))⟩, ⟨(some 13), none, (.bin .gtr .none (.v 12) (.k (.int .i64 0)))⟩]) (.cond (.v 13) (.reg false [] [⟨(some 14), none, (.mv (.v 9))⟩, ⟨(some 15), none, (.mv (.v 1))⟩, ⟨(some 16), none, (.call 54 [(.v 15)])⟩, ⟨(some 17), none, (.bsl false 1 1 .nil [(0, (.v 16))])⟩, ⟨(some 18), none, (.app false 1 (.v 14) (.v 17))⟩, ⟨(some 9), none, (.mv (.v 18))⟩]) .skip)) (.seq (.seq (.reg false [] [⟨(some 19), none, (.mv (.v 1))⟩, ⟨(some 20), none, (.len 1 (.v 19))⟩, ⟨(some 21), none, (.mv (.v 3))⟩, ⟨(some 22), none, (.bin .eql .none (.v 20) (.v 21))⟩]) (.cond (.v 22) (.seq (.reg false [] [⟨(some 23), none, (.mv (.v 9))⟩, ⟨(some 8), none, (.mv (.v 23))⟩]) .ret) .skip)) (.seq (.seq (.reg false [] [⟨(some 24), none, (.mv (.v 2))⟩, ⟨(some 10), none, (.mv (.v 24))⟩]) (.block 0 ir52_l0)) (.seq (.reg false [] [⟨(some 46), none, (.mv (.v 9))⟩, ⟨(some 8), none, (.mv (.v 46))⟩]) .ret))))))
def ir52 : Fn := ⟨.ownF, 4, 47, [(.tmp 8)], ir52_c⟩
def ir53_d0 : C := (.seq (.reg false [] [⟨(some 46), none, (.bin .lss .none (.v 45) (.v 44))⟩]) (.seq (.cond (.v 46) .skip (.exit 0)) (.seq (.block 1 (.seq (.reg false [] [⟨(some 47), none, (.ixa 1 (.v 43) (.v 45))⟩, ⟨(some 48), none, (.ld false 1 (.v 47))⟩, ⟨(some 8), none, (.mv (.v 48))⟩]) (.seq (.reg true [0, 1, 0, 7, 15, 0, 32, 127] [⟨(some 49), none, (.fad 0 (.v 4))⟩, ⟨(some 50), none, (.ld false 1 (.v 49))⟩, ⟨(some 51), none, (.mv (.v 8))⟩, ⟨(some 52), none, (.ixa 1 (.v 50) (.v 51))⟩, ⟨(some 53), none, (.ld false 1 (.v 52))⟩, ⟨(some 54), none, (.fad 1 (.v 4))⟩, ⟨(some 55), none, (.ld false 1 (.v 54))⟩, ⟨(some 56), none, (.bin .neq .none (.v 53) (.v 55))⟩]) (.cond (.v 56) (.seq (.reg false [] [⟨(some 6), none, (.mv (.k (.bool false)))⟩]) .ret) .skip)))) (.reg false [] [⟨(some 57), none, (.bin .add .none (.v 45) (.k (.int .i64 1)))⟩, ⟨(some 45), none, (.mv (.v 57))⟩]))))
def ir53_b0 : C := ir53_d0
def ir53_l0 : C := .loop true [3, 4, 5, 43, 44, 45] ir53_b0
def ir53_c : C := (.seq (.reg false [] [⟨(some 3), none, (.box (.v 0))⟩, ⟨(some 4), none, (.box (.v 1))⟩, ⟨(some 5), none, (.box (.v 2))⟩, ⟨(some 6), none, (.mv (.k (.bool false)))⟩]) (.seq (.seq (.reg false [] [⟨(some 9), none, (.fad 0 (.v 5))⟩, ⟨(some 10), none, (.ld false 1 (.v 9))⟩, ⟨(some 11), none, (.fad 2 (.v 3))⟩, ⟨(some 12), none, (.ld false 1 (.v 11))⟩, ⟨(some 13), none, (.bin .add .none (.v 12) (.k (.int .i64 1)))⟩, ⟨(some 14), none, (.call 38 [(.v 10), (.k (.int .i64 0)), (.v 13)])⟩, ⟨(some 15), none, (.un .not (.v 14))⟩, ⟨(some 16), none, (.mv (.v 15))⟩, ⟨(some 17), (some (16, false)), (.fad 0 (.v 5))⟩, ⟨(some 18), (some (16, false)), (.ld false 1 (.v 17))⟩, ⟨(some 19), (some (16, false)), (.fad 1 (.v 4))⟩, ⟨(some 20), (some (16, false)), (.ld false 1 (.v 19))⟩, ⟨(some 21), (some (16, false)), (.bin .eql .none (.v 18) (.v 20))⟩, ⟨(some 22), none, (.pick (.v 16) (.k (.bool true)) (.v 21))⟩, ⟨(some 23), none, (.mv (.v 22))⟩, ⟨(some 24), (some (23, false)), (.fad 1 (.v 5))⟩, ⟨(some 25), (some (23, false)), (.ld false 1 (.v 24))⟩, ⟨(some 26), (some (23, false)), (.len 1 (.v 25))⟩, ⟨(some 27), (some (23, false)), (.fad 1 (.v 3))⟩, ⟨(some 28), (some (23, false)), (.ld false 1 (.v 27))⟩, ⟨(some 29), (some (23, false)), (.call 38 [(.v 26), (.k (.int .i64 1)), (.v 28)])⟩, ⟨(some 30), (some (23, false)), (.un .not (.v 29))⟩, ⟨(some 31), none, (.pick (.v 23) (.k (.bool true)) (.v 30))⟩, ⟨(some 32), none, (.mv (.v 31))⟩, ⟨(some 33), (some (32, false)), (.fad 1 (.v 5))⟩, ⟨(some 34), (some (32, false)), (.ld false 1 (.v 33))⟩, ⟨(some 35), (some (32, false)), (.fad 0 (.v 4))⟩, ⟨(some 36), (some (32, false)), (.ld false 1 (.v 35))⟩, ⟨(some 37), (some (32, false)), (.len 1 (.v 36))⟩, ⟨(some 38), (some (32, false)), (.bin .sub .none (.v 37) (.k (.int .i64 1)))⟩, ⟨(some 39), (some (32, false)), (.call 65 [(.v 34), (.k (.int .i64 0)), (.v 38)])⟩, ⟨(some 40), (some (32, false)), (.un .not (.v 39))⟩, ⟨(some 41), none, (.pick (.v 32) (.k (.bool true)) (.v 40))⟩]) (.cond (.v 41) (.seq (.reg false [] [⟨(some 6), none, (.mv (.k (.bool false)))⟩]) .ret) .skip)) (.seq (.seq (.reg false [] [⟨(some 42), none, (.fad 1 (.v 5))⟩, ⟨(some 43), none, (.ld false 1 (.v 42))⟩, ⟨(some 44), none, (.len 1 (.v 43))⟩, ⟨(some 45), none, (.mv (.k (.int .i64 0)))⟩]) (.block 0 ir53_l0)) (.seq (.reg true [0, 1, 0, 4, 12, 31, 63, 127, 127, 127, 895, 2047, 4095, 8191] [⟨(some 58), none, (.fad 0 (.v 3))⟩, ⟨(some 59), none, (.ld false 1 (.v 58))⟩, ⟨(some 60), none, (.fad 1 (.v 5))⟩, ⟨(some 61), none, (.ld false 1 (.v 60))⟩, ⟨(some 62), none, (.call 67 [(.v 61)])⟩, ⟨(some 63), none, (.call 66 [(.v 59), (.v 62)])⟩, ⟨(some 64), none, (.mv (.v 63))⟩, ⟨(some 65), (some (64, true)), (.ld true 3 (.v 3))⟩, ⟨(some 66), (some (64, true)), (.ld true 2 (.v 4))⟩, ⟨(some 67), (some (64, true)), (.ld true 2 (.v 5))⟩, ⟨(some 68), (some (64, true)), (.call 33 [(.v 66), (.v 67)])⟩, ⟨(some 69), (some (64, true)), (.call 68 [(.v 65), (.v 68)])⟩, ⟨(some 70), none, (.pick (.v 64) (.v 69) (.k (.bool false)))⟩, ⟨(some 6), none, (.mv (.v 70))⟩]) .ret))))
def ir53 : Fn := ⟨.own, 3, 71, [(.tmp 6)], ir53_c⟩
def ir54_c : C := (.seq (.reg false [] [⟨(some 2), none, (.mv (.k .nil))⟩]) (.seq (.reg false [] [⟨(some 3), none, (.bsl false 1 0 (.int .i64 0) [])⟩, ⟨(some 4), none, (.mv (.v 0))⟩, ⟨(some 5), none, (.app false 1 (.v 3) (.v 4))⟩, ⟨(some 2), none, (.mv (.v 5))⟩]) .ret))
def ir54 : Fn := ⟨.own, 1, 6, [(.tmp 2)], ir54_c⟩
def ir55_c : C := (.seq (.reg false [] [⟨(some 3), none, (.box (.v 0))⟩, ⟨(some 4), none, (.box (.v 1))⟩, ⟨(some 5), none, (.box (.v 2))⟩, ⟨(some 6), none, (.mv (.k .nil))⟩]) (.seq (.reg false [] [⟨(some 7), none, (.fad 1 (.v 3))⟩, ⟨(some 8), none, (.ld false 1 (.v 7))⟩, ⟨(some 9), none, (.ld false 1 (.v 4))⟩, ⟨(some 10), none, (.callv (.v 8) [(.v 9)])⟩, ⟨(some 11), none, (.mkf 70 [] [(.v 5), (.v 4)])⟩, ⟨(some 12), none, (.call 69 [(.v 10), (.v 11)])⟩, ⟨(some 6), none, (.mv (.v 12))⟩]) .ret))
def ir55 : Fn := ⟨.ownF, 3, 13, [(.tmp 6)], ir55_c⟩
def ir56_d0 : C := (.seq (.seq (.reg false [] [⟨(some 11), none, (.mv (.v 5))⟩, ⟨(some 12), none, (.mv (.v 0))⟩, ⟨(some 13), none, (.len 1 (.v 12))⟩, ⟨(some 14), none, (.bin .lss .none (.v 11) (.v 13))⟩]) (.cond (.v 14) .skip (.exit 0))) (.seq (.block 1 (.seq (.reg true [0, 0, 3, 7, 0, 0, 48, 112, 255] [⟨(some 17), none, (.mv (.v 0))⟩, ⟨(some 18), none, (.mv (.v 5))⟩, ⟨(some 19), none, (.ixa 1 (.v 17) (.v 18))⟩, ⟨(some 20), none, (.ld false 1 (.v 19))⟩, ⟨(some 21), none, (.mv (.v 1))⟩, ⟨(some 22), none, (.mv (.v 5))⟩, ⟨(some 23), none, (.ixa 1 (.v 21) (.v 22))⟩, ⟨(some 24), none, (.ld false 1 (.v 23))⟩, ⟨(some 25), none, (.bin .neq .none (.v 20) (.v 24))⟩]) (.cond (.v 25) (.seq (.reg false [] [⟨(some 4), none, (.mv (.k (.bool false)))⟩]) .ret) .skip))) (.reg false [] [⟨(some 15), none, (.mv (.v 5))⟩, ⟨(some 16), none, (.bin .add .none (.v 15) (.k (.int .i64 1)))⟩, ⟨(some 5), none, (.mv (.v 16))⟩])))
def ir56_b0 : C := ir56_d0
def ir56_l0 : C := .loop true [0, 1, 5] ir56_b0
def ir56_c : C := (.seq (.reg false [] [⟨(some 4), none, (.mv (.k (.bool false)))⟩]) (.seq (.seq (.reg false [] [⟨(some 6), none, (.mv (.v 0))⟩, ⟨(some 7), none, (.len 1 (.v 6))⟩, ⟨(some 8), none, (.mv (.v 1))⟩, ⟨(some 9), none, (.len 1 (.v 8))⟩, ⟨(some 10), none, (.bin .neq .none (.v 7) (.v 9))⟩]) (.cond (.v 10) (.seq (.reg false [] [⟨(some 4), none, (.mv (.k (.bool false)))⟩]) .ret) .skip)) (.seq (.seq (.reg false [] [⟨(some 5), none, (.mv (.k (.int .i64 0)))⟩]) (.block 0 ir56_l0)) (.seq (.reg false [] [⟨(some 4), none, (.mv (.k (.bool true)))⟩]) .ret))))
def ir56 : Fn := ⟨.own, 2, 26, [(.tmp 4)], ir56_c⟩
def ir57_c : C := (.seq (.reg false [] [⟨(some 1), none, (.box (.v 0))⟩, ⟨(some 2), none, (.mv (.k (.int .i64 0)))⟩]) (.seq (.reg false [] [⟨(some 3), none, (.fad 0 (.v 1))⟩, ⟨(some 4), none, (.ld false 1 (.v 3))⟩, ⟨(some 5), none, (.bin .mul .none (.k (.int .i64 2)) (.v 4))⟩, ⟨(some 2), none, (.mv (.v 5))⟩]) .ret))
def ir57 : Fn := ⟨.own, 1, 6, [(.tmp 2)], ir57_c⟩
def ir58_d0 : C := (.seq (.reg false [] [⟨(some 13), none, (.bin .lss .none (.v 12) (.v 11))⟩]) (.seq (.cond (.v 13) .skip (.exit 0)) (.seq (.block 1 (.seq (.reg false [] [⟨(some 14), none, (.mv (.v 12))⟩, ⟨(some 15), none, (.ixa 1 (.v 10) (.v 12))⟩, ⟨(some 16), none, (.ld false 1 (.v 15))⟩, ⟨(some 6), none, (.mv (.v 14))⟩, ⟨(some 7), none, (.mv (.v 16))⟩]) (.seq (.reg false [] [⟨(some 17), none, (.mv (.v 7))⟩, ⟨(some 18), none, (.mv (.v 1))⟩, ⟨(some 19), none, (.bin .eql .none (.v 17) (.v 18))⟩]) (.cond (.v 19) (.reg false [] [⟨(some 20), none, (.mv (.v 5))⟩, ⟨(some 21), none, (.mv (.v 6))⟩, ⟨(some 22), none, (.bsl false 1 1 (.int .i64 0) [(0, (.v 21))])⟩, ⟨(some 23), none, (.app false 1 (.v 20) (.v 22))⟩, ⟨(some 5), none, (.mv (.v 23))⟩]) .skip)))) (.reg false [] [⟨(some 24), none, (.bin .add .none (.v 12) (.k (.int .i64 1)))⟩, ⟨(some 12), none, (.mv (.v 24))⟩]))))
def ir58_b0 : C := ir58_d0
def ir58_l0 : C := .loop true [1, 5, 10, 11, 12] ir58_b0
def ir58_c : C := (.seq (.reg false [] [⟨(some 2), none, (.box (.v 0))⟩, ⟨(some 4), none, (.mv (.k .nil))⟩]) (.seq (.reg false [] [⟨(some 8), none, (.bsl false 1 0 (.int .i64 0) [])⟩, ⟨(some 5), none, (.mv (.v 8))⟩]) (.seq (.seq (.reg false [] [⟨(some 9), none, (.fad 0 (.v 2))⟩, ⟨(some 10), none, (.ld false 1 (.v 9))⟩, ⟨(some 11), none, (.len 1 (.v 10))⟩, ⟨(some 12), none, (.mv (.k (.int .i64 0)))⟩]) (.block 0 ir58_l0)) (.seq (.reg false [] [⟨(some 25), none, (.mv (.v 5))⟩, ⟨(some 4), none, (.mv (.v 25))⟩]) .ret))))
def ir58 : Fn := ⟨.own, 2, 26, [(.tmp 4)], ir58_c⟩
def ir59_c : C := (.seq (.reg false [] [⟨(some 3), none, (.box (.v 0))⟩, ⟨(some 4), none, (.box (.v 1))⟩, ⟨(some 5), none, (.box (.v 2))⟩]) (.seq (.reg false [] [⟨(some 6), none, (.alc 1 [.nilf])⟩]) (.seq (.reg false [] [⟨(some 7), none, (.mkf 71 [] [(.v 3), (.v 4), (.v 5), (.v 6)])⟩, ⟨none, none, (.st 1 (.v 6) (.v 7))⟩]) (.reg false [] [⟨(some 8), none, (.ld false 1 (.v 6))⟩, ⟨(some 9), none, (.callv (.v 8) [(.k (.int .i64 0)), (.k .nil)])⟩]))))
def ir59 : Fn := ⟨.ref, 3, 10, [], ir59_c⟩
def ir60_c : C := (.seq (.reg true [0, 1, 3, 7, 7, 7, 7, 119, 255, 511] [⟨(some 6), none, (.mv (.v 0))⟩, ⟨(some 7), none, (.call 61 [(.v 6)])⟩, ⟨(some 8), none, (.mv (.v 7))⟩, ⟨(some 9), (some (8, true)), (.ld true 3 (.v 1))⟩, ⟨(some 10), (some (8, true)), (.ld true 2 (.v 2))⟩, ⟨(some 11), (some (8, true)), (.ld false 1 (.v 3))⟩, ⟨(some 12), (some (8, true)), (.mv (.v 0))⟩, ⟨(some 13), (some (8, true)), (.call 44 [(.v 10), (.v 11), (.v 12)])⟩, ⟨(some 14), (some (8, true)), (.call 62 [(.v 9), (.v 13)])⟩, ⟨(some 15), none, (.pick (.v 8) (.v 14) (.k (.bool false)))⟩]) (.cond (.v 15) (.reg false [] [⟨(some 16), none, (.ld false 1 (.v 4))⟩, ⟨(some 17), none, (.ld false 1 (.v 3))⟩, ⟨(some 18), none, (.mv (.v 0))⟩, ⟨(some 19), none, (.bld [(.int .i64 0), .nil] [(0, (1, (.v 17))), (1, (1, (.v 18)))])⟩, ⟨(some 20), none, (.bsl false 2 1 (.agg [(.int .i64 0), .nil]) [(0, (.v 19))])⟩, ⟨(some 21), none, (.app false 2 (.v 16) (.v 20))⟩, ⟨none, none, (.st 1 (.v 4) (.v 21))⟩]) .skip))
def ir60 : Fn := ⟨.ref, 5, 22, [], ir60_c⟩
def ir61_d0 : C := (.seq (.reg false [] [⟨(some 8), none, (.bin .lss .none (.v 7) (.v 6))⟩]) (.seq (.cond (.v 8) .skip (.exit 0)) (.seq (.block 1 (.seq (.reg false [] [⟨(some 9), none, (.ixa 1 (.v 5) (.v 7))⟩, ⟨(some 10), none, (.ld false 1 (.v 9))⟩, ⟨(some 4), none, (.mv (.v 10))⟩]) (.seq (.seq (.reg false [] [⟨(some 11), none, (.mv (.v 4))⟩, ⟨(some 12), none, (.bin .rem .none (.v 11) (.k (.int .i64 2)))⟩, ⟨(some 13), none, (.bin .eql .none (.v 12) (.k (.int .i64 0)))⟩, ⟨(some 14), none, (.mv (.v 13))⟩, ⟨(some 15), (some (14, false)), (.mv (.v 0))⟩, ⟨(some 16), (some (14, false)), (.mv (.v 4))⟩, ⟨(some 17), (some (14, false)), (.bin .sub .none (.v 16) (.k (.int .i64 1)))⟩, ⟨(some 18), (some (14, false)), (.call 72 [(.v 15), (.v 17)])⟩, ⟨(some 19), none, (.pick (.v 14) (.k (.bool true)) (.v 18))⟩]) (.cond (.v 19) (.exit 1) .skip)) (.seq (.reg false [] [⟨(some 20), none, (.mv (.v 0))⟩, ⟨(some 21), none, (.call 73 [(.v 20), (.k (.clo 74 [] []))])⟩]) (.cond (.v 21) (.seq (.reg false [] [⟨(some 2), none, (.mv (.k (.bool false)))⟩]) .ret) .skip))))) (.reg false [] [⟨(some 22), none, (.bin .add .none (.v 7) (.k (.int .i64 1)))⟩, ⟨(some 7), none, (.mv (.v 22))⟩]))))
def ir61_b0 : C := ir61_d0
def ir61_l0 : C := .loop true [0, 5, 6, 7] ir61_b0
def ir61_c : C := (.seq (.reg false [] [⟨(some 2), none, (.mv (.k (.bool false)))⟩]) (.seq (.seq (.reg false [] [⟨(some 5), none, (.mv (.v 0))⟩, ⟨(some 6), none, (.len 1 (.v 5))⟩, ⟨(some 7), none, (.mv (.k (.int .i64 0)))⟩]) (.block 0 ir61_l0)) (.seq (.reg false [] [⟨(some 2), none, (.mv (.k (.bool true)))⟩]) .ret)))
def ir61 : Fn := ⟨.own, 1, 23, [(.tmp 2)], ir61_c⟩
def ir62_d0 : C := (.seq (.reg false [] [⟨(some 10), none, (.bin .lss .none (.v 9) (.v 8))⟩]) (.seq (.cond (.v 10) .skip (.exit 0)) (.seq (.block 1 (.seq (.reg false [] [⟨(some 11), none, (.mv (.v 9))⟩, ⟨(some 5), none, (.mv (.v 11))⟩]) (.seq (.reg false [] [⟨(some 12), none, (.ld true 2 (.v 3))⟩, ⟨(some 13), none, (.mv (.v 5))⟩, ⟨(some 14), none, (.call 58 [(.v 12), (.v 13)])⟩, ⟨(some 15), none, (.call 61 [(.v 14)])⟩, ⟨(some 16), none, (.un .not (.v 15))⟩]) (.cond (.v 16) (.seq (.reg false [] [⟨(some 4), none, (.mv (.k (.bool false)))⟩]) .ret) .skip)))) (.reg false [] [⟨(some 17), none, (.bin .add .none (.v 9) (.k (.int .i64 1)))⟩, ⟨(some 9), none, (.mv (.v 17))⟩]))))
def ir62_b0 : C := ir62_d0
def ir62_l0 : C := .loop true [3, 8, 9] ir62_b0
def ir62_c : C := (.seq (.reg false [] [⟨(some 2), none, (.box (.v 0))⟩, ⟨(some 3), none, (.box (.v 1))⟩, ⟨(some 4), none, (.mv (.k (.bool false)))⟩]) (.seq (.seq (.reg false [] [⟨(some 6), none, (.ld true 3 (.v 2))⟩, ⟨(some 7), none, (.call 49 [(.v 6)])⟩, ⟨(some 8), none, (.bin .add .none (.v 7) (.k (.int .i64 1)))⟩, ⟨(some 9), none, (.mv (.k (.int .i64 0)))⟩]) (.block 0 ir62_l0)) (.seq (.reg false [] [⟨(some 4), none, (.mv (.k (.bool true)))⟩]) .ret)))
def ir62 : Fn := ⟨.own, 2, 18, [(.tmp 4)], ir62_c⟩
def ir64_d0 : C := (.seq (.seq (.reg false [] [⟨(some 34), none, (.mv (.v 8))⟩, ⟨(some 35), none, (.mv (.v 7))⟩, ⟨(some 36), none, (.len 1 (.v 35))⟩, ⟨(some 37), none, (.bin .lss .none (.v 34) (.v 36))⟩]) (.cond (.v 37) .skip (.exit 0))) (.block 1 (.reg true [0, 0, 0, 6, 0, 0, 48, 126, 255, 511] [⟨(some 38), none, (.mv (.v 8))⟩, ⟨(some 39), none, (.mv (.v 7))⟩, ⟨(some 40), none, (.mv (.v 8))⟩, ⟨(some 41), none, (.slc 1 (.v 39) (some (.v 40)) none)⟩, ⟨(some 42), none, (.mv (.v 7))⟩, ⟨(some 43), none, (.mv (.v 8))⟩, ⟨(some 44), none, (.slc 1 (.v 42) none (some (.v 43)))⟩, ⟨(some 45), none, (.cpy 1 (.v 41) (.v 44))⟩, ⟨(some 46), none, (.bin .add .none (.v 38) (.v 45))⟩, ⟨(some 8), none, (.mv (.v 46))⟩])))
def ir64_b0 : C := ir64_d0
def ir64_l0 : C := .loop true [7, 8] ir64_b0
def ir64_c : C := (.seq (.reg false [] [⟨(some 4), none, (.mv (.k .nil))⟩]) (.seq (.seq (.reg false [] [⟨(some 9), none, (.mv (.v 1))⟩, ⟨(some 10), none, (.bin .lss .none (.v 9) (.k (.int .i64 0)))⟩]) (.cond (.v 10) (.reg false [] [⟨(some 11), none, .bad⟩, ⟨none, none, .bad⟩]) .skip)) (.seq (.reg false [] [⟨(some 13), none, (.mv (.v 0))⟩, ⟨(some 14), none, (.len 1 (.v 13))⟩, ⟨(some 15), none, (.cnv (.int .u64) (.v 14))⟩, ⟨(some 16), none, (.mv (.v 1))⟩, ⟨(some 17), none, (.cnv (.int .u64) (.v 16))⟩, ⟨(some 18), none, (.call 75 [(.v 15), (.v 17)])⟩, ⟨(some 12), none, (.mv (.v 18))⟩, ⟨(some 19), none, (.ext (.v 12) 0)⟩, ⟨(some 20), none, (.ext (.v 12) 1)⟩, ⟨(some 5), none, (.mv (.v 19))⟩, ⟨(some 6), none, (.mv (.v 20))⟩]) (.seq (.seq (.reg false [] [⟨(some 21), none, (.mv (.v 5))⟩, ⟨(some 22), none, (.bin .gtr .none (.v 21) (.k (.int .u64 0)))⟩, ⟨(some 23), none, (.mv (.v 22))⟩, ⟨(some 24), (some (23, false)), (.mv (.v 6))⟩, ⟨(some 25), (some (23, false)), (.bin .gtr .none (.v 24) (.k (.int .u64 9223372036854775807)))⟩, ⟨(some 26), none, (.pick (.v 23) (.k (.bool true)) (.v 25))⟩]) (.cond (.v 26) (.reg false [] [⟨(some 27), none, .bad⟩, ⟨none, none, .bad⟩]) .skip)) (.seq (.reg false [] [⟨(some 28), none, (.mv (.v 6))⟩, ⟨(some 29), none, (.cnv (.int .i64) (.v 28))⟩, ⟨(some 30), none, (.mks 1 (.int .i64 0) (.v 29) (.v 29))⟩, ⟨(some 7), none, (.mv (.v 30))⟩]) (.seq (.reg false [] [⟨(some 31), none, (.mv (.v 7))⟩, ⟨(some 32), none, (.mv (.v 0))⟩, ⟨(some 33), none, (.cpy 1 (.v 31) (.v 32))⟩, ⟨(some 8), none, (.mv (.v 33))⟩]) (.seq (.block 0 ir64_l0) (.seq (.reg false [] [⟨(some 47), none, (.mv (.v 7))⟩, ⟨(some 4), none, (.mv (.v 47))⟩]) .ret))))))))
def ir64 : Fn := ⟨.own, 2, 48, [(.tmp 4)], ir64_c⟩
def ir65_d0 : C := (.seq (.reg false [] [⟨(some 12), none, (.bin .lss .none (.v 11) (.v 10))⟩]) (.seq (.cond (.v 12) .skip (.exit 0)) (.seq (.block 1 (.seq (.reg false [] [⟨(some 13), none, (.mv (.v 11))⟩, ⟨(some 14), none, (.ixa 1 (.v 9) (.v 11))⟩, ⟨(some 15), none, (.ld false 1 (.v 14))⟩, ⟨(some 7), none, (.mv (.v 13))⟩, ⟨(some 8), none, (.mv (.v 15))⟩]) (.seq (.reg false [] [⟨(some 16), none, (.mv (.v 8))⟩, ⟨(some 17), none, (.mv (.v 1))⟩, ⟨(some 18), none, (.mv (.v 2))⟩, ⟨(some 19), none, (.call 38 [(.v 16), (.v 17), (.v 18)])⟩, ⟨(some 20), none, (.un .not (.v 19))⟩, ⟨(some 21), none, (.mv (.v 20))⟩, ⟨(some 22), (some (21, false)), (.mv (.v 7))⟩, ⟨(some 23), (some (21, false)), (.bin .gtr .none (.v 22) (.k (.int .i64 0)))⟩, ⟨(some 24), (some (21, false)), (.mv (.v 23))⟩, ⟨(some 25), (some (24, true)), (.mv (.v 0))⟩, ⟨(some 26), (some (24, true)), (.mv (.v 7))⟩, ⟨(some 27), (some (24, true)), (.bin .sub .none (.v 26) (.k (.int .i64 1)))⟩, ⟨(some 28), (some (24, true)), (.ixa 1 (.v 25) (.v 27))⟩, ⟨(some 29), (some (24, true)), (.ld false 1 (.v 28))⟩, ⟨(some 30), (some (24, true)), (.mv (.v 8))⟩, ⟨(some 31), (some (24, true)), (.bin .geq .none (.v 29) (.v 30))⟩, ⟨(some 32), (some (21, false)), (.pick (.v 24) (.v 31) (.k (.bool false)))⟩, ⟨(some 33), none, (.pick (.v 21) (.k (.bool true)) (.v 32))⟩]) (.cond (.v 33) (.seq (.reg false [] [⟨(some 6), none, (.mv (.k (.bool false)))⟩]) .ret) .skip)))) (.reg false [] [⟨(some 34), none, (.bin .add .none (.v 11) (.k (.int .i64 1)))⟩, ⟨(some 11), none, (.mv (.v 34))⟩]))))
def ir65_b0 : C := ir65_d0
def ir65_l0 : C := .loop true [0, 1, 2, 9, 10, 11] ir65_b0
def ir65_c : C := (.seq (.reg false [] [⟨(some 6), none, (.mv (.k (.bool false)))⟩]) (.seq (.seq (.reg false [] [⟨(some 9), none, (.mv (.v 0))⟩, ⟨(some 10), none, (.len 1 (.v 9))⟩, ⟨(some 11), none, (.mv (.k (.int .i64 0)))⟩]) (.block 0 ir65_l0)) (.seq (.reg false [] [⟨(some 6), none, (.mv (.k (.bool true)))⟩]) .ret)))
def ir65 : Fn := ⟨.own, 3, 35, [(.tmp 6)], ir65_c⟩
def ir66_d0 : C := (.seq (.seq (.reg false [] [⟨(some 18), none, (.mv (.v 6))⟩, ⟨(some 19), none, (.mv (.v 0))⟩, ⟨(some 20), none, (.bin .lss .none (.v 18) (.v 19))⟩]) (.cond (.v 20) .skip (.exit 2))) (.seq (.block 3 (.seq (.reg false [] [⟨(some 23), none, (.mv (.v 1))⟩, ⟨(some 24), none, (.mv (.v 6))⟩, ⟨(some 25), none, (.bin .mul .none (.k (.int .i64 2)) (.v 24))⟩, ⟨(some 26), none, (.bin .shr .none (.v 23) (.v 25))⟩, ⟨(some 27), none, (.bin .rem .none (.v 26) (.k (.int .i64 2)))⟩, ⟨(some 28), none, (.bin .eql .none (.v 27) (.k (.int .i64 1)))⟩]) (.cond (.v 28) (.seq (.reg false [] [⟨(some 4), none, (.mv (.k (.bool false)))⟩]) .ret) .skip))) (.reg false [] [⟨(some 21), none, (.mv (.v 6))⟩, ⟨(some 22), none, (.bin .add .none (.v 21) (.k (.int .i64 1)))⟩, ⟨(some 6), none, (.mv (.v 22))⟩])))
def ir66_b0 : C := ir66_d0
def ir66_l0 : C := .loop true [0, 1, 5, 6] ir66_b0
def ir66_d1 : C := (.seq (.seq (.reg false [] [⟨(some 7), none, (.mv (.v 5))⟩, ⟨(some 8), none, (.mv (.v 0))⟩, ⟨(some 9), none, (.bin .lss .none (.v 7) (.v 8))⟩]) (.cond (.v 9) .skip (.exit 0))) (.seq (.block 1 (.seq (.seq (.reg false [] [⟨(some 12), none, (.mv (.v 1))⟩, ⟨(some 13), none, (.mv (.v 5))⟩, ⟨(some 14), none, (.bin .mul .none (.k (.int .i64 2)) (.v 13))⟩, ⟨(some 15), none, (.bin .shr .none (.v 12) (.v 14))⟩, ⟨(some 16), none, (.bin .rem .none (.v 15) (.k (.int .i64 4)))⟩, ⟨(some 17), none, (.bin .neq .none (.v 16) (.k (.int .i64 2)))⟩]) (.cond (.v 17) (.exit 1) .skip)) (.seq (.reg false [] [⟨(some 6), none, (.mv (.k (.int .i64 0)))⟩]) (.block 2 ir66_l0)))) (.reg false [] [⟨(some 10), none, (.mv (.v 5))⟩, ⟨(some 11), none, (.bin .add .none (.v 10) (.k (.int .i64 1)))⟩, ⟨(some 5), none, (.mv (.v 11))⟩])))
def ir66_b1 : C := ir66_d1
def ir66_l1 : C := .loop true [0, 1, 5] ir66_b1
def ir66_c : C := (.seq (.reg false [] [⟨(some 4), none, (.mv (.k (.bool false)))⟩]) (.seq (.seq (.reg false [] [⟨(some 5), none, (.mv (.k (.int .i64 0)))⟩]) (.block 0 ir66_l1)) (.seq (.reg false [] [⟨(some 4), none, (.mv (.k (.bool true)))⟩]) .ret)))
def ir66 : Fn := ⟨.own, 2, 29, [(.tmp 4)], ir66_c⟩
def ir67_d0 : C := (.seq (.reg false [] [⟨(some 9), none, (.bin .lss .none (.v 8) (.v 7))⟩]) (.seq (.cond (.v 9) .skip (.exit 0)) (.seq (.block 1 (.seq (.reg false [] [⟨(some 10), none, (.ixa 1 (.v 6) (.v 8))⟩, ⟨(some 11), none, (.ld false 1 (.v 10))⟩, ⟨(some 5), none, (.mv (.v 11))⟩]) (.reg false [] [⟨(some 12), none, (.mv (.v 3))⟩, ⟨(some 13), none, (.mv (.v 5))⟩, ⟨(some 14), none, (.bin .shl .none (.k (.int .i64 1)) (.v 13))⟩, ⟨(some 15), none, (.bin .or .none (.v 12) (.v 14))⟩, ⟨(some 3), none, (.mv (.v 15))⟩]))) (.reg false [] [⟨(some 16), none, (.bin .add .none (.v 8) (.k (.int .i64 1)))⟩, ⟨(some 8), none, (.mv (.v 16))⟩]))))
def ir67_b0 : C := ir67_d0
def ir67_l0 : C := .loop true [3, 6, 7, 8] ir67_b0
def ir67_c : C := (.seq (.reg false [] [⟨(some 2), none, (.mv (.k (.int .i64 0)))⟩]) (.seq (.reg false [] [⟨(some 3), none, (.mv (.k (.int .i64 0)))⟩]) (.seq (.seq (.reg false [] [⟨(some 6), none, (.mv (.v 0))⟩, ⟨(some 7), none, (.len 1 (.v 6))⟩, ⟨(some 8), none, (.mv (.k (.int .i64 0)))⟩]) (.block 0 ir67_l0)) (.seq (.reg false [] [⟨(some 17), none, (.mv (.v 3))⟩, ⟨(some 2), none, (.mv (.v 17))⟩]) .ret))))
def ir67 : Fn := ⟨.own, 1, 18, [(.tmp 2)], ir67_c⟩
def ir68_d0 : C := (.seq (.reg false [] [⟨(some 20), none, (.bin .lss .none (.v 19) (.v 18))⟩]) (.seq (.cond (.v 20) .skip (.exit 2)) (.seq (.block 3 (.seq (.reg false [] [⟨(some 21), none, (.mv (.v 19))⟩, ⟨(some 22), none, (.ixa 1 (.v 17) (.v 19))⟩, ⟨(some 23), none, (.ld false 1 (.v 22))⟩, ⟨(some 7), none, (.mv (.v 21))⟩, ⟨(some 8), none, (.mv (.v 23))⟩]) (.seq (.reg false [] [⟨(some 24), none, (.mv (.v 8))⟩, ⟨(some 25), none, (.mv (.v 5))⟩, ⟨(some 26), none, (.bin .eql .none (.v 24) (.v 25))⟩]) (.cond (.v 26) (.reg false [] [⟨(some 27), none, (.mv (.v 6))⟩, ⟨(some 28), none, (.mv (.v 7))⟩, ⟨(some 29), none, (.bin .shl .none (.k (.int .i64 1)) (.v 28))⟩, ⟨(some 30), none, (.bin .or .none (.v 27) (.v 29))⟩, ⟨(some 6), none, (.mv (.v 30))⟩]) .skip)))) (.reg false [] [⟨(some 31), none, (.bin .add .none (.v 19) (.k (.int .i64 1)))⟩, ⟨(some 19), none, (.mv (.v 31))⟩]))))
def ir68_b0 : C := ir68_d0
def ir68_l0 : C := .loop true [2, 3, 5, 6, 17, 18, 19] ir68_b0
def ir68_d1 : C := (.seq (.seq (.reg false [] [⟨(some 9), none, (.mv (.v 5))⟩, ⟨(some 10), none, (.fad 2 (.v 2))⟩, ⟨(some 11), none, (.ld false 1 (.v 10))⟩, ⟨(some 12), none, (.bin .add .none (.v 11) (.k (.int .i64 1)))⟩, ⟨(some 13), none, (.bin .leq .none (.v 9) (.v 12))⟩]) (.cond (.v 13) .skip (.exit 0))) (.seq (.block 1 (.seq (.reg false [] [⟨(some 6), none, (.mv (.k (.int .i64 0)))⟩]) (.seq (.seq (.reg false [] [⟨(some 16), none, (.fad 0 (.v 3))⟩, ⟨(some 17), none, (.ld false 1 (.v 16))⟩, ⟨(some 18), none, (.len 1 (.v 17))⟩, ⟨(some 19), none, (.mv (.k (.int .i64 0)))⟩]) (.block 2 ir68_l0)) (.seq (.reg false [] [⟨(some 32), none, (.fad 0 (.v 2))⟩, ⟨(some 33), none, (.ld false 1 (.v 32))⟩, ⟨(some 34), none, (.mv (.v 6))⟩, ⟨(some 35), none, (.call 66 [(.v 33), (.v 34)])⟩, ⟨(some 36), none, (.un .not (.v 35))⟩]) (.cond (.v 36) (.seq (.reg false [] [⟨(some 4), none, (.mv (.k (.bool false)))⟩]) .ret) .skip))))) (.reg false [] [⟨(some 14), none, (.mv (.v 5))⟩, ⟨(some 15), none, (.bin .add .none (.v 14) (.k (.int .i64 1)))⟩, ⟨(some 5), none, (.mv (.v 15))⟩])))
def ir68_b1 : C := ir68_d1
def ir68_l1 : C := .loop true [2, 3, 5] ir68_b1
def ir68_c : C := (.seq (.reg false [] [⟨(some 2), none, (.box (.v 0))⟩, ⟨(some 3), none, (.box (.v 1))⟩, ⟨(some 4), none, (.mv (.k (.bool false)))⟩]) (.seq (.seq (.reg false [] [⟨(some 5), none, (.mv (.k (.int .i64 0)))⟩]) (.block 0 ir68_l1)) (.seq (.reg false [] [⟨(some 4), none, (.mv (.k (.bool true)))⟩]) .ret)))
def ir68 : Fn := ⟨.own, 2, 37, [(.tmp 4)], ir68_c⟩
def ir69_d0 : C := (.seq (.seq (.reg false [] [⟨(some 16), none, (.mv (.v 6))⟩, ⟨(some 17), none, (.mv (.v 0))⟩, ⟨(some 18), none, (.len 1 (.v 17))⟩, ⟨(some 19), none, (.bin .lss .none (.v 16) (.v 18))⟩]) (.cond (.v 19) .skip (.exit 0))) (.seq (.block 1 (.seq (.reg false [] [⟨(some 22), none, (.mv (.v 0))⟩, ⟨(some 23), none, (.mv (.v 6))⟩, ⟨(some 24), none, (.ixa 4 (.v 22) (.v 23))⟩, ⟨(some 25), none, (.ld true 4 (.v 24))⟩, ⟨(some 7), none, (.alc 4 [(.int .i64 0), (.int .i64 0), (.int .i64 0), .nil])⟩, ⟨none, none, (.st 4 (.v 7) (.v 25))⟩]) (.seq (.reg false [] [⟨(some 26), none, (.mv (.v 1))⟩, ⟨(some 27), none, (.ld true 4 (.v 7))⟩, ⟨(some 28), none, (.callv (.v 26) [(.v 27)])⟩, ⟨(some 29), none, (.un .not (.v 28))⟩]) (.cond (.v 29) (.seq (.reg false [] [⟨(some 30), none, (.mv (.v 0))⟩, ⟨(some 31), none, (.mv (.v 5))⟩, ⟨(some 32), none, (.ld true 4 (.v 7))⟩, ⟨(some 33), none, (.ixa 4 (.v 30) (.v 31))⟩, ⟨none, none, (.st 4 (.v 33) (.v 32))⟩]) (.reg false [] [⟨(some 34), none, (.mv (.v 5))⟩, ⟨(some 35), none, (.bin .add .none (.v 34) (.k (.int .i64 1)))⟩, ⟨(some 5), none, (.mv (.v 35))⟩])) .skip)))) (.reg false [] [⟨(some 20), none, (.mv (.v 6))⟩, ⟨(some 21), none, (.bin .add .none (.v 20) (.k (.int .i64 1)))⟩, ⟨(some 6), none, (.mv (.v 21))⟩])))
def ir69_b0 : C := ir69_d0
def ir69_l0 : C := .loop false [0, 1, 5, 6] ir69_b0
def ir69_c : C := (.seq (.reg false [] [⟨(some 4), none, (.mv (.k .nil))⟩]) (.seq (.reg false [] [⟨(some 8), none, (.mv (.v 0))⟩, ⟨(some 9), none, (.mv (.v 1))⟩, ⟨(some 10), none, (.call 76 [(.v 8), (.v 9)])⟩, ⟨(some 5), none, (.mv (.v 10))⟩]) (.seq (.seq (.reg false [] [⟨(some 11), none, (.mv (.v 5))⟩, ⟨(some 12), none, (.bin .eql .none (.v 11) (.k (.int .i64 (-1))))⟩]) (.cond (.v 12) (.seq (.reg false [] [⟨(some 13), none, (.mv (.v 0))⟩, ⟨(some 4), none, (.mv (.v 13))⟩]) .ret) .skip)) (.seq (.seq (.reg false [] [⟨(some 14), none, (.mv (.v 5))⟩, ⟨(some 15), none, (.bin .add .none (.v 14) (.k (.int .i64 1)))⟩, ⟨(some 6), none, (.mv (.v 15))⟩]) (.block 0 ir69_l0)) (.seq (.reg false [] [⟨(some 36), none, (.mv (.v 0))⟩, ⟨(some 37), none, (.mv (.v 5))⟩, ⟨(some 38), none, (.slc 4 (.v 36) (some (.v 37)) none)⟩, ⟨none, none, (.clr 4 (.agg [(.int .i64 0), (.int .i64 0), (.int .i64 0), .nil]) (.v 38))⟩]) (.seq (.reg false [] [⟨(some 39), none, (.mv (.v 0))⟩, ⟨(some 40), none, (.mv (.v 5))⟩, ⟨(some 41), none, (.slc 4 (.v 39) none (some (.v 40)))⟩, ⟨(some 4), none, (.mv (.v 41))⟩]) .ret))))))
def ir69 : Fn := ⟨.refM, 2, 42, [(.tmp 4)], ir69_c⟩
def ir70_c : C := (.seq (.reg false [] [⟨(some 3), none, (.box (.v 0))⟩, ⟨(some 4), none, (.mv (.k (.bool false)))⟩]) (.seq (.reg true [0, 0, 2, 7, 15, 31, 63, 127, 127, 383, 1023, 2047, 127, 4223, 16383, 127, 127, 98431, 229503, 524287, 1048575, 2097151] [⟨(some 5), none, (.ld false 1 (.v 1))⟩, ⟨(some 6), none, (.fad 0 (.v 3))⟩, ⟨(some 7), none, (.ld false 1 (.v 6))⟩, ⟨(some 8), none, (.ixa 1 (.v 5) (.v 7))⟩, ⟨(some 9), none, (.ld false 1 (.v 8))⟩, ⟨(some 10), none, (.bin .lss .none (.v 9) (.k (.int .i64 0)))⟩, ⟨(some 11), none, (.mv (.v 10))⟩, ⟨(some 12), (some (11, false)), (.ld false 1 (.v 1))⟩, ⟨(some 13), (some (11, false)), (.fad 0 (.v 3))⟩, ⟨(some 14), (some (11, false)), (.ld false 1 (.v 13))⟩, ⟨(some 15), (some (11, false)), (.ixa 1 (.v 12) (.v 14))⟩, ⟨(some 16), (some (11, false)), (.ld false 1 (.v 15))⟩, ⟨(some 17), (some (11, false)), (.fad 1 (.v 3))⟩, ⟨(some 18), (some (11, false)), (.ld false 1 (.v 17))⟩, ⟨(some 19), (some (11, false)), (.bin .add .none (.v 16) (.v 18))⟩, ⟨(some 20), (some (11, false)), (.ld false 1 (.v 1))⟩, ⟨(some 21), (some (11, false)), (.ld false 1 (.v 2))⟩, ⟨(some 22), (some (11, false)), (.ixa 1 (.v 20) (.v 21))⟩, ⟨(some 23), (some (11, false)), (.ld false 1 (.v 22))⟩, ⟨(some 24), (some (11, false)), (.bin .neq .none (.v 19) (.v 23))⟩, ⟨(some 25), none, (.pick (.v 11) (.k (.bool true)) (.v 24))⟩, ⟨(some 4), none, (.mv (.v 25))⟩]) .ret))
def ir70 : Fn := ⟨.own, 3, 26, [(.tmp 4)], ir70_c⟩
def ir71_d0 : C := (.seq (.seq (.reg false [] [⟨(some 11), none, (.mv (.v 8))⟩, ⟨(some 12), none, (.ld false 1 (.v 2))⟩, ⟨(some 13), none, (.len 1 (.v 12))⟩, ⟨(some 14), none, (.bin .lss .none (.v 11) (.v 13))⟩, ⟨(some 15), none, (.mv (.v 14))⟩, ⟨(some 16), (some (15, true)), (.mv (.v 1))⟩, ⟨(some 17), (some (15, true)), (.len 1 (.v 16))⟩, ⟨(some 18), (some (15, true)), (.ld false 1 (.v 3))⟩, ⟨(some 19), (some (15, true)), (.bin .lss .none (.v 17) (.v 18))⟩, ⟨(some 20), none, (.pick (.v 15) (.v 19) (.k (.bool false)))⟩]) (.cond (.v 20) .skip (.exit 0))) (.seq (.block 1 (.seq (.reg true [0, 1, 0, 0, 12, 28, 60, 127, 255] [⟨(some 23), none, (.mv (.v 1))⟩, ⟨(some 24), none, (.call 63 [(.v 23)])⟩, ⟨(some 25), none, (.ld false 1 (.v 2))⟩, ⟨(some 26), none, (.mv (.v 8))⟩, ⟨(some 27), none, (.ixa 1 (.v 25) (.v 26))⟩, ⟨(some 28), none, (.ld false 1 (.v 27))⟩, ⟨(some 29), none, (.bsl false 1 1 (.int .i64 0) [(0, (.v 28))])⟩, ⟨(some 30), none, (.app false 1 (.v 24) (.v 29))⟩, ⟨(some 9), none, (.mv (.v 30))⟩]) (.seq (.reg false [] [⟨(some 31), none, (.ld false 1 (.v 4))⟩, ⟨(some 32), none, (.mv (.v 9))⟩, ⟨(some 33), none, (.callv (.v 31) [(.v 32)])⟩]) (.reg false [] [⟨(some 34), none, (.ld false 1 (.v 5))⟩, ⟨(some 35), none, (.mv (.v 8))⟩, ⟨(some 36), none, (.bin .add .none (.v 35) (.k (.int .i64 1)))⟩, ⟨(some 37), none, (.mv (.v 9))⟩, ⟨(some 38), none, (.callv (.v 34) [(.v 36), (.v 37)])⟩])))) (.reg false [] [⟨(some 21), none, (.mv (.v 8))⟩, ⟨(some 22), none, (.bin .add .none (.v 21) (.k (.int .i64 1)))⟩, ⟨(some 8), none, (.mv (.v 22))⟩])))
def ir71_b0 : C := ir71_d0
def ir71_l0 : C := .loop false [1, 2, 3, 4, 5, 8] ir71_b0
def ir71_c : C := (.seq (.reg false [] [⟨(some 10), none, (.mv (.v 0))⟩, ⟨(some 8), none, (.mv (.v 10))⟩]) (.block 0 ir71_l0))
def ir71 : Fn := ⟨.ref, 6, 39, [], ir71_c⟩
def ir72_c : C := (.seq (.reg false [] [⟨(some 4), none, (.mv (.k (.bool false)))⟩]) (.seq (.reg false [] [⟨(some 5), none, (.mv (.v 0))⟩, ⟨(some 6), none, (.mv (.v 1))⟩, ⟨(some 7), none, (.call 77 [(.v 5), (.v 6)])⟩, ⟨(some 8), none, (.bin .geq .none (.v 7) (.k (.int .i64 0)))⟩, ⟨(some 4), none, (.mv (.v 8))⟩]) .ret))
def ir72 : Fn := ⟨.own, 2, 9, [(.tmp 4)], ir72_c⟩
def ir73_c : C := (.seq (.reg false [] [⟨(some 4), none, (.mv (.k (.bool false)))⟩]) (.seq (.reg false [] [⟨(some 5), none, (.mv (.v 0))⟩, ⟨(some 6), none, (.mv (.v 1))⟩, ⟨(some 7), none, (.call 78 [(.v 5), (.v 6)])⟩, ⟨(some 8), none, (.bin .geq .none (.v 7) (.k (.int .i64 0)))⟩, ⟨(some 4), none, (.mv (.v 8))⟩]) .ret))
def ir73 : Fn := ⟨.own, 2, 9, [(.tmp 4)], ir73_c⟩
def ir74_c : C := (.seq (.reg false [] [⟨(some 2), none, (.mv (.k (.bool false)))⟩]) (.seq (.reg false [] [⟨(some 3), none, (.mv (.v 0))⟩, ⟨(some 4), none, (.bin .rem .none (.v 3) (.k (.int .i64 2)))⟩, ⟨(some 5), none, (.bin .eql .none (.v 4) (.k (.int .i64 0)))⟩, ⟨(some 2), none, (.mv (.v 5))⟩]) .ret))
def ir74 : Fn := ⟨.own, 1, 6, [(.tmp 2)], ir74_c⟩
def ir75_c : C := (.seq (.reg false [] [⟨(some 4), none, (.mv (.k (.int .u64 0)))⟩, ⟨(some 5), none, (.mv (.k (.int .u64 0)))⟩]) (.seq (.cond (.k (.bool false)) (.seq (.reg false [] [⟨(some 11), none, (.mv (.v 0))⟩, ⟨(some 12), none, (.cnv (.int .u32) (.v 11))⟩, ⟨(some 13), none, (.mv (.v 1))⟩, ⟨(some 14), none, (.cnv (.int .u32) (.v 13))⟩, ⟨(some 15), none, (.call 79 [(.v 12), (.v 14)])⟩, ⟨(some 10), none, (.mv (.v 15))⟩, ⟨(some 16), none, (.ext (.v 10) 0)⟩, ⟨(some 17), none, (.ext (.v 10) 1)⟩, ⟨(some 6), none, (.mv (.v 16))⟩, ⟨(some 7), none, (.mv (.v 17))⟩]) (.seq (.reg false [] [⟨(some 18), none, (.mv (.v 6))⟩, ⟨(some 19), none, (.cnv (.int .u64) (.v 18))⟩, ⟨(some 20), none, (.mv (.v 7))⟩, ⟨(some 21), none, (.cnv (.int .u64) (.v 20))⟩, ⟨(some 4), none, (.mv (.v 19))⟩, ⟨(some 5), none, (.mv (.v 21))⟩]) .ret)) .skip) (.seq (.reg false [] [⟨(some 23), none, (.mv (.v 0))⟩, ⟨(some 24), none, (.mv (.v 1))⟩, ⟨(some 25), none, (.call 80 [(.v 23), (.v 24)])⟩, ⟨(some 22), none, (.mv (.v 25))⟩, ⟨(some 26), none, (.ext (.v 22) 0)⟩, ⟨(some 27), none, (.ext (.v 22) 1)⟩, ⟨(some 8), none, (.mv (.v 26))⟩, ⟨(some 9), none, (.mv (.v 27))⟩]) (.seq (.reg false [] [⟨(some 28), none, (.mv (.v 8))⟩, ⟨(some 29), none, (.mv (.v 9))⟩, ⟨(some 4), none, (.mv (.v 28))⟩, ⟨(some 5), none, (.mv (.v 29))⟩]) .ret))))
def ir75 : Fn := ⟨.own, 2, 30, [(.tmp 4), (.tmp 5)], ir75_c⟩
def ir76_d0 : C := (.seq (.reg false [] [⟨(some 9), none, (.bin .lss .none (.v 8) (.v 7))⟩]) (.seq (.cond (.v 9) .skip (.exit 0)) (.seq (.block 1 (.seq (.reg false [] [⟨(some 10), none, (.mv (.v 8))⟩, ⟨(some 5), none, (.mv (.v 10))⟩]) (.seq (.reg false [] [⟨(some 11), none, (.mv (.v 1))⟩, ⟨(some 12), none, (.mv (.v 0))⟩, ⟨(some 13), none, (.mv (.v 5))⟩, ⟨(some 14), none, (.ixa 4 (.v 12) (.v 13))⟩, ⟨(some 15), none, (.ld true 4 (.v 14))⟩, ⟨(some 16), none, (.callv (.v 11) [(.v 15)])⟩]) (.cond (.v 16) (.seq (.reg false [] [⟨(some 17), none, (.mv (.v 5))⟩, ⟨(some 4), none, (.mv (.v 17))⟩]) .ret) .skip)))) (.reg false [] [⟨(some 18), none, (.bin .add .none (.v 8) (.k (.int .i64 1)))⟩, ⟨(some 8), none, (.mv (.v 18))⟩]))))
def ir76_b0 : C := ir76_d0
def ir76_l0 : C := .loop true [0, 1, 7, 8] ir76_b0
def ir76_c : C := (.seq (.reg false [] [⟨(some 4), none, (.mv (.k (.int .i64 0)))⟩]) (.seq (.seq (.reg false [] [⟨(some 6), none, (.mv (.v 0))⟩, ⟨(some 7), none, (.len 1 (.v 6))⟩, ⟨(some 8), none, (.mv (.k (.int .i64 0)))⟩]) (.block 0 ir76_l0)) (.seq (.reg false [] [⟨(some 4), none, (.mv (.k (.int .i64 (-1))))⟩]) .ret)))
def ir76 : Fn := ⟨.own, 2, 19, [(.tmp 4)], ir76_c⟩
def ir77_d0 : C := (.seq (.reg false [] [⟨(some 9), none, (.bin .lss .none (.v 8) (.v 7))⟩]) (.seq (.cond (.v 9) .skip (.exit 0)) (.seq (.block 1 (.seq (.reg false [] [⟨(some 10), none, (.mv (.v 8))⟩, ⟨(some 5), none, (.mv (.v 10))⟩]) (.seq (.reg false [] [⟨(some 11), none, (.mv (.v 1))⟩, ⟨(some 12), none, (.mv (.v 0))⟩, ⟨(some 13), none, (.mv (.v 5))⟩, ⟨(some 14), none, (.ixa 1 (.v 12) (.v 13))⟩, ⟨(some 15), none, (.ld false 1 (.v 14))⟩, ⟨(some 16), none, (.bin .eql .none (.v 11) (.v 15))⟩]) (.cond (.v 16) (.seq (.reg false [] [⟨(some 17), none, (.mv (.v 5))⟩, ⟨(some 4), none, (.mv (.v 17))⟩]) .ret) .skip)))) (.reg false [] [⟨(some 18), none, (.bin .add .none (.v 8) (.k (.int .i64 1)))⟩, ⟨(some 8), none, (.mv (.v 18))⟩]))))
def ir77_b0 : C := ir77_d0
def ir77_l0 : C := .loop true [0, 1, 7, 8] ir77_b0
def ir77_c : C := (.seq (.reg false [] [⟨(some 4), none, (.mv (.k (.int .i64 0)))⟩]) (.seq (.seq (.reg false [] [⟨(some 6), none, (.mv (.v 0))⟩, ⟨(some 7), none, (.len 1 (.v 6))⟩, ⟨(some 8), none, (.mv (.k (.int .i64 0)))⟩]) (.block 0 ir77_l0)) (.seq (.reg false [] [⟨(some 4), none, (.mv (.k (.int .i64 (-1))))⟩]) .ret)))
def ir77 : Fn := ⟨.own, 2, 19, [(.tmp 4)], ir77_c⟩
def ir78_d0 : C := (.seq (.reg false [] [⟨(some 9), none, (.bin .lss .none (.v 8) (.v 7))⟩]) (.seq (.cond (.v 9) .skip (.exit 0)) (.seq (.block 1 (.seq (.reg false [] [⟨(some 10), none, (.mv (.v 8))⟩, ⟨(some 5), none, (.mv (.v 10))⟩]) (.seq (.reg false [] [⟨(some 11), none, (.mv (.v 1))⟩, ⟨(some 12), none, (.mv (.v 0))⟩, ⟨(some 13), none, (.mv (.v 5))⟩, ⟨(some 14), none, (.ixa 1 (.v 12) (.v 13))⟩, ⟨(some 15), none, (.ld false 1 (.v 14))⟩, ⟨(some 16), none, (.callv (.v 11) [(.v 15)])⟩]) (.cond (.v 16) (.seq (.reg false [] [⟨(some 17), none, (.mv (.v 5))⟩, ⟨(some 4), none, (.mv (.v 17))⟩]) .ret) .skip)))) (.reg false [] [⟨(some 18), none, (.bin .add .none (.v 8) (.k (.int .i64 1)))⟩, ⟨(some 8), none, (.mv (.v 18))⟩]))))
def ir78_b0 : C := ir78_d0
def ir78_l0 : C := .loop true [0, 1, 7, 8] ir78_b0
def ir78_c : C := (.seq (.reg false [] [⟨(some 4), none, (.mv (.k (.int .i64 0)))⟩]) (.seq (.seq (.reg false [] [⟨(some 6), none, (.mv (.v 0))⟩, ⟨(some 7), none, (.len 1 (.v 6))⟩, ⟨(some 8), none, (.mv (.k (.int .i64 0)))⟩]) (.block 0 ir78_l0)) (.seq (.reg false [] [⟨(some 4), none, (.mv (.k (.int .i64 (-1))))⟩]) .ret)))
def ir78 : Fn := ⟨.own, 2, 19, [(.tmp 4)], ir78_c⟩
def ir79_c : C := (.seq (.reg false [] [⟨(some 4), none, (.mv (.k (.int .u32 0)))⟩, ⟨(some 5), none, (.mv (.k (.int .u32 0)))⟩]) (.seq (.reg false [] [⟨(some 7), none, (.mv (.v 0))⟩, ⟨(some 8), none, (.cnv (.int .u64) (.v 7))⟩, ⟨(some 9), none, (.mv (.v 1))⟩, ⟨(some 10), none, (.cnv (.int .u64) (.v 9))⟩, ⟨(some 11), none, (.bin .mul .none (.v 8) (.v 10))⟩, ⟨(some 6), none, (.mv (.v 11))⟩]) (.seq (.reg false [] [⟨(some 12), none, (.mv (.v 6))⟩, ⟨(some 13), none, (.bin .shr .none (.v 12) (.k (.int .u64 32)))⟩, ⟨(some 14), none, (.cnv (.int .u32) (.v 13))⟩, ⟨(some 15), none, (.mv (.v 6))⟩, ⟨(some 16), none, (.cnv (.int .u32) (.v 15))⟩, ⟨(some 4), none, (.mv (.v 14))⟩, ⟨(some 5), none, (.mv (.v 16))⟩]) .ret)))
def ir79 : Fn := ⟨.own, 2, 17, [(.tmp 4), (.tmp 5)], ir79_c⟩
def ir80_c : C := (.seq (.reg false [] [⟨(some 4), none, (.mv (.k (.int .u64 0)))⟩, ⟨(some 5), none, (.mv (.k (.int .u64 0)))⟩]) (.seq (.reg false [] [⟨(some 14), none, (.mv (.v 0))⟩, ⟨(some 15), none, (.bin .and .none (.v 14) (.k (.int .u64 4294967295)))⟩, ⟨(some 6), none, (.mv (.v 15))⟩]) (.seq (.reg false [] [⟨(some 16), none, (.mv (.v 0))⟩, ⟨(some 17), none, (.bin .shr .none (.v 16) (.k (.int .u64 32)))⟩, ⟨(some 7), none, (.mv (.v 17))⟩]) (.seq (.reg false [] [⟨(some 18), none, (.mv (.v 1))⟩, ⟨(some 19), none, (.bin .and .none (.v 18) (.k (.int .u64 4294967295)))⟩, ⟨(some 8), none, (.mv (.v 19))⟩]) (.seq (.reg false [] [⟨(some 20), none, (.mv (.v 1))⟩, ⟨(some 21), none, (.bin .shr .none (.v 20) (.k (.int .u64 32)))⟩, ⟨(some 9), none, (.mv (.v 21))⟩]) (.seq (.reg false [] [⟨(some 22), none, (.mv (.v 6))⟩, ⟨(some 23), none, (.mv (.v 8))⟩, ⟨(some 24), none, (.bin .mul .none (.v 22) (.v 23))⟩, ⟨(some 10), none, (.mv (.v 24))⟩]) (.seq (.reg false [] [⟨(some 25), none, (.mv (.v 7))⟩, ⟨(some 26), none, (.mv (.v 8))⟩, ⟨(some 27), none, (.bin .mul .none (.v 25) (.v 26))⟩, ⟨(some 28), none, (.mv (.v 10))⟩, ⟨(some 29), none, (.bin .shr .none (.v 28) (.k (.int .u64 32)))⟩, ⟨(some 30), none, (.bin .add .none (.v 27) (.v 29))⟩, ⟨(some 11), none, (.mv (.v 30))⟩]) (.seq (.reg false [] [⟨(some 31), none, (.mv (.v 11))⟩, ⟨(some 32), none, (.bin .and .none (.v 31) (.k (.int .u64 4294967295)))⟩, ⟨(some 12), none, (.mv (.v 32))⟩]) (.seq (.reg false [] [⟨(some 33), none, (.mv (.v 11))⟩, ⟨(some 34), none, (.bin .shr .none (.v 33) (.k (.int .u64 32)))⟩, ⟨(some 13), none, (.mv (.v 34))⟩]) (.seq (.reg false [] [⟨(some 35), none, (.mv (.v 12))⟩, ⟨(some 36), none, (.mv (.v 6))⟩, ⟨(some 37), none, (.mv (.v 9))⟩, ⟨(some 38), none, (.bin .mul .none (.v 36) (.v 37))⟩, ⟨(some 39), none, (.bin .add .none (.v 35) (.v 38))⟩, ⟨(some 12), none, (.mv (.v 39))⟩]) (.seq (.reg false [] [⟨(some 40), none, (.mv (.v 7))⟩, ⟨(some 41), none, (.mv (.v 9))⟩, ⟨(some 42), none, (.bin .mul .none (.v 40) (.v 41))⟩, ⟨(some 43), none, (.mv (.v 13))⟩, ⟨(some 44), none, (.bin .add .none (.v 42) (.v 43))⟩, ⟨(some 45), none, (.mv (.v 12))⟩, ⟨(some 46), none, (.bin .shr .none (.v 45) (.k (.int .u64 32)))⟩, ⟨(some 47), none, (.bin .add .none (.v 44) (.v 46))⟩, ⟨(some 4), none, (.mv (.v 47))⟩]) (.seq (.reg false [] [⟨(some 48), none, (.mv (.v 0))⟩, ⟨(some 49), none, (.mv (.v 1))⟩, ⟨(some 50), none, (.bin .mul .none (.v 48) (.v 49))⟩, ⟨(some 5), none, (.mv (.v 50))⟩]) .ret))))))))))))
def ir80 : Fn := ⟨.own, 2, 51, [(.tmp 4), (.tmp 5)], ir80_c⟩
def tab : List (Nat × Fun) := [(3, .ir ir3), (4, .ir ir4), (5, .ir ir5), (6, .ir ir6), (7, .ir ir7), (8, .ir ir8), (9, .ir ir9), (10, .ir ir10), (11, .ir ir11), (12, .ir ir12), (13, .ir ir13), (14, .ir ir14), (15, .ir ir15), (16, .ir ir16), (17, .ir ir17), (18, .ir ir18), (19, .ir ir19), (20, .ir ir20), (21, .ir ir21), (22, .ir ir22), (23, .ir ir23), (24, .ir ir24), (25, .ir ir25), (26, .ir ir26), (27, .ir ir27), (28, .ir ir28), (29, .ir ir29), (30, .ir ir30), (31, .ir ir31), (32, .ir ir32), (33, .ir ir33), (34, .ir ir34), (35, .ir ir35), (36, .ir ir36), (37, .ir ir37), (38, .ir ir38), (39, .ir ir39), (40, .ir ir40), (41, .ir ir41), (42, .ir ir42), (43, .ir ir43), (44, .ir ir44), (45, .ir ir45), (46, .ir ir46), (47, .ir ir47), (48, .ir ir48), (49, .ir ir49), (50, .ir ir50), (51, .ir ir51), (52, .ir ir52), (53, .ir ir53), (54, .ir ir54), (55, .ir ir55), (56, .ir ir56), (57, .ir ir57), (58, .ir ir58), (59, .ir ir59), (60, .ir ir60), (61, .ir ir61), (62, .ir ir62), (64, .ir ir64), (65, .ir ir65), (66, .ir ir66), (67, .ir ir67), (68, .ir ir68), (69, .ir ir69), (70, .ir ir70), (71, .ir ir71), (72, .ir ir72), (73, .ir ir73), (74, .ir ir74), (75, .ir ir75), (76, .ir ir76), (77, .ir ir77), (78, .ir ir78), (79, .ir ir79), (80, .ir ir80), (63, .prim .own (cloneP 1))]
def env : Env := fun f => tab.lookup f
theorem x17_0 (E : Env) (s : Fr × Heap) : loopF E true [1, 4, 7, 8, 9, 43, 44, 45] ir17_b0 s = andN (execD E ir17_d0 s) (loopK E true [1, 4, 7, 8, 9, 43, 44, 45] ir17_b0) := loopF_K _ _ _ s
@[simp] theorem l17_0 (E : Env) (s : Fr × Heap) : execD E ir17_l0 s = loopF E true [1, 4, 7, 8, 9, 43, 44, 45] ir17_b0 (gcFr true [1, 4, 7, 8, 9, 43, 44, 45] s) := execD_loopF _ _ _ s
theorem x17_1 (E : Env) (s : Fr × Heap) : loopF E true [1, 4, 7, 8, 9] ir17_b1 s = andN (execD E ir17_d1 s) (loopK E true [1, 4, 7, 8, 9] ir17_b1) := loopF_K _ _ _ s
@[simp] theorem l17_1 (E : Env) (s : Fr × Heap) : execD E ir17_l1 s = loopF E true [1, 4, 7, 8, 9] ir17_b1 (gcFr true [1, 4, 7, 8, 9] s) := execD_loopF _ _ _ s
theorem x19_0 (E : Env) (s : Fr × Heap) : loopF E true [0, 1, 5] ir19_b0 s = andN (execD E ir19_d0 s) (loopK E true [0, 1, 5] ir19_b0) := loopF_K _ _ _ s
@[simp] theorem l19_0 (E : Env) (s : Fr × Heap) : execD E ir19_l0 s = loopF E true [0, 1, 5] ir19_b0 (gcFr true [0, 1, 5] s) := execD_loopF _ _ _ s
theorem x20_0 (E : Env) (s : Fr × Heap) : loopF E true [0, 1, 5] ir20_b0 s = andN (execD E ir20_d0 s) (loopK E true [0, 1, 5] ir20_b0) := loopF_K _ _ _ s
@[simp] theorem l20_0 (E : Env) (s : Fr × Heap) : execD E ir20_l0 s = loopF E true [0, 1, 5] ir20_b0 (gcFr true [0, 1, 5] s) := execD_loopF _ _ _ s
theorem x21_0 (E : Env) (s : Fr × Heap) : loopF E true [0, 1, 5] ir21_b0 s = andN (execD E ir21_d0 s) (loopK E true [0, 1, 5] ir21_b0) := loopF_K _ _ _ s
@[simp] theorem l21_0 (E : Env) (s : Fr × Heap) : execD E ir21_l0 s = loopF E true [0, 1, 5] ir21_b0 (gcFr true [0, 1, 5] s) := execD_loopF _ _ _ s
theorem x23_0 (E : Env) (s : Fr × Heap) : loopF E true [2, 8, 9, 12, 13, 14, 15, 73, 74, 75] ir23_b0 s = andN (execD E ir23_d0 s) (loopK E true [2, 8, 9, 12, 13, 14, 15, 73, 74, 75] ir23_b0) := loopF_K _ _ _ s
@[simp] theorem l23_0 (E : Env) (s : Fr × Heap) : execD E ir23_l0 s = loopF E true [2, 8, 9, 12, 13, 14, 15, 73, 74, 75] ir23_b0 (gcFr true [2, 8, 9, 12, 13, 14, 15, 73, 74, 75] s) := execD_loopF _ _ _ s
theorem x23_1 (E : Env) (s : Fr × Heap) : loopF E true [2, 8, 9, 12, 13] ir23_b1 s = andN (execD E ir23_d1 s) (loopK E true [2, 8, 9, 12, 13] ir23_b1) := loopF_K _ _ _ s
@[simp] theorem l23_1 (E : Env) (s : Fr × Heap) : execD E ir23_l1 s = loopF E true [2, 8, 9, 12, 13] ir23_b1 (gcFr true [2, 8, 9, 12, 13] s) := execD_loopF _ _ _ s
theorem x23_2 (E : Env) (s : Fr × Heap) : loopF E true [2, 3, 8, 9, 39, 40] ir23_b2 s = andN (execD E ir23_d2 s) (loopK E true [2, 3, 8, 9, 39, 40] ir23_b2) := loopF_K _ _ _ s
@[simp] theorem l23_2 (E : Env) (s : Fr × Heap) : execD E ir23_l2 s = loopF E true [2, 3, 8, 9, 39, 40] ir23_b2 (gcFr true [2, 3, 8, 9, 39, 40] s) := execD_loopF _ _ _ s
theorem x23_3 (E : Env) (s : Fr × Heap) : loopF E true [2, 3, 7, 25, 26] ir23_b3 s = andN (execD E ir23_d3 s) (loopK E true [2, 3, 7, 25, 26] ir23_b3) := loopF_K _ _ _ s
@[simp] theorem l23_3 (E : Env) (s : Fr × Heap) : execD E ir23_l3 s = loopF E true [2, 3, 7, 25, 26] ir23_b3 (gcFr true [2, 3, 7, 25, 26] s) := execD_loopF _ _ _ s
theorem x24_0 (E : Env) (s : Fr × Heap) : loopF E true [1, 2, 4, 5] ir24_b0 s = andN (execD E ir24_d0 s) (loopK E true [1, 2, 4, 5] ir24_b0) := loopF_K _ _ _ s
@[simp] theorem l24_0 (E : Env) (s : Fr × Heap) : execD E ir24_l0 s = loopF E true [1, 2, 4, 5] ir24_b0 (gcFr true [1, 2, 4, 5] s) := execD_loopF _ _ _ s
theorem x27_0 (E : Env) (s : Fr × Heap) : loopF E true [5, 11, 12, 13] ir27_b0 s = andN (execD E ir27_d0 s) (loopK E true [5, 11, 12, 13] ir27_b0) := loopF_K _ _ _ s
@[simp] theorem l27_0 (E : Env) (s : Fr × Heap) : execD E ir27_l0 s = loopF E true [5, 11, 12, 13] ir27_b0 (gcFr true [5, 11, 12, 13] s) := execD_loopF _ _ _ s
theorem x31_0 (E : Env) (s : Fr × Heap) : loopF E true [2, 5, 11, 12, 13] ir31_b0 s = andN (execD E ir31_d0 s) (loopK E true [2, 5, 11, 12, 13] ir31_b0) := loopF_K _ _ _ s
@[simp] theorem l31_0 (E : Env) (s : Fr × Heap) : execD E ir31_l0 s = loopF E true [2, 5, 11, 12, 13] ir31_b0 (gcFr true [2, 5, 11, 12, 13] s) := execD_loopF _ _ _ s
theorem x32_0 (E : Env) (s : Fr × Heap) : loopF E true [2, 3, 5, 8, 9, 40, 41, 42] ir32_b0 s = andN (execD E ir32_d0 s) (loopK E true [2, 3, 5, 8, 9, 40, 41, 42] ir32_b0) := loopF_K _ _ _ s
@[simp] theorem l32_0 (E : Env) (s : Fr × Heap) : execD E ir32_l0 s = loopF E true [2, 3, 5, 8, 9, 40, 41, 42] ir32_b0 (gcFr true [2, 3, 5, 8, 9, 40, 41, 42] s) := execD_loopF _ _ _ s
theorem x32_1 (E : Env) (s : Fr × Heap) : loopF E true [2, 3, 5, 8, 9] ir32_b1 s = andN (execD E ir32_d1 s) (loopK E true [2, 3, 5, 8, 9] ir32_b1) := loopF_K _ _ _ s
@[simp] theorem l32_1 (E : Env) (s : Fr × Heap) : execD E ir32_l1 s = loopF E true [2, 3, 5, 8, 9] ir32_b1 (gcFr true [2, 3, 5, 8, 9] s) := execD_loopF _ _ _ s
theorem x32_2 (E : Env) (s : Fr × Heap) : loopF E true [2, 3, 5, 14, 15, 16] ir32_b2 s = andN (execD E ir32_d2 s) (loopK E true [2, 3, 5, 14, 15, 16] ir32_b2) := loopF_K _ _ _ s
@[simp] theorem l32_2 (E : Env) (s : Fr × Heap) : execD E ir32_l2 s = loopF E true [2, 3, 5, 14, 15, 16] ir32_b2 (gcFr true [2, 3, 5, 14, 15, 16] s) := execD_loopF _ _ _ s
theorem x33_0 (E : Env) (s : Fr × Heap) : loopF E true [3, 4, 5, 15, 16, 17] ir33_b0 s = andN (execD E ir33_d0 s) (loopK E true [3, 4, 5, 15, 16, 17] ir33_b0) := loopF_K _ _ _ s
@[simp] theorem l33_0 (E : Env) (s : Fr × Heap) : execD E ir33_l0 s = loopF E true [3, 4, 5, 15, 16, 17] ir33_b0 (gcFr true [3, 4, 5, 15, 16, 17] s) := execD_loopF _ _ _ s
theorem x34_0 (E : Env) (s : Fr × Heap) : loopF E true [1, 2, 3, 7] ir34_b0 s = andN (execD E ir34_d0 s) (loopK E true [1, 2, 3, 7] ir34_b0) := loopF_K _ _ _ s
@[simp] theorem l34_0 (E : Env) (s : Fr × Heap) : execD E ir34_l0 s = loopF E true [1, 2, 3, 7] ir34_b0 (gcFr true [1, 2, 3, 7] s) := execD_loopF _ _ _ s
theorem x36_0 (E : Env) (s : Fr × Heap) : loopF E true [0, 1, 5] ir36_b0 s = andN (execD E ir36_d0 s) (loopK E true [0, 1, 5] ir36_b0) := loopF_K _ _ _ s
@[simp] theorem l36_0 (E : Env) (s : Fr × Heap) : execD E ir36_l0 s = loopF E true [0, 1, 5] ir36_b0 (gcFr true [0, 1, 5] s) := execD_loopF _ _ _ s
theorem x37_0 (E : Env) (s : Fr × Heap) : loopF E true [0, 1, 5] ir37_b0 s = andN (execD E ir37_d0 s) (loopK E true [0, 1, 5] ir37_b0) := loopF_K _ _ _ s
@[simp] theorem l37_0 (E : Env) (s : Fr × Heap) : execD E ir37_l0 s = loopF E true [0, 1, 5] ir37_b0 (gcFr true [0, 1, 5] s) := execD_loopF _ _ _ s
theorem x40_0 (E : Env) (s : Fr × Heap) : loopF E true [3, 5, 6] ir40_b0 s = andN (execD E ir40_d0 s) (loopK E true [3, 5, 6] ir40_b0) := loopF_K _ _ _ s
@[simp] theorem l40_0 (E : Env) (s : Fr × Heap) : execD E ir40_l0 s = loopF E true [3, 5, 6] ir40_b0 (gcFr true [3, 5, 6] s) := execD_loopF _ _ _ s
theorem x41_0 (E : Env) (s : Fr × Heap) : loopF E true [4, 5, 14, 15, 16] ir41_b0 s = andN (execD E ir41_d0 s) (loopK E true [4, 5, 14, 15, 16] ir41_b0) := loopF_K _ _ _ s
@[simp] theorem l41_0 (E : Env) (s : Fr × Heap) : execD E ir41_l0 s = loopF E true [4, 5, 14, 15, 16] ir41_b0 (gcFr true [4, 5, 14, 15, 16] s) := execD_loopF _ _ _ s
theorem x42_0 (E : Env) (s : Fr × Heap) : loopF E true [1, 4, 5, 6] ir42_b0 s = andN (execD E ir42_d0 s) (loopK E true [1, 4, 5, 6] ir42_b0) := loopF_K _ _ _ s
@[simp] theorem l42_0 (E : Env) (s : Fr × Heap) : execD E ir42_l0 s = loopF E true [1, 4, 5, 6] ir42_b0 (gcFr true [1, 4, 5, 6] s) := execD_loopF _ _ _ s
theorem x43_0 (E : Env) (s : Fr × Heap) : loopF E true [2, 3, 5, 6, 15, 16] ir43_b0 s = andN (execD E ir43_d0 s) (loopK E true [2, 3, 5, 6, 15, 16] ir43_b0) := loopF_K _ _ _ s
@[simp] theorem l43_0 (E : Env) (s : Fr × Heap) : execD E ir43_l0 s = loopF E true [2, 3, 5, 6, 15, 16] ir43_b0 (gcFr true [2, 3, 5, 6, 15, 16] s) := execD_loopF _ _ _ s
theorem x44_0 (E : Env) (s : Fr × Heap) : loopF E true [1, 6, 7, 15, 16, 17] ir44_b0 s = andN (execD E ir44_d0 s) (loopK E true [1, 6, 7, 15, 16, 17] ir44_b0) := loopF_K _ _ _ s
@[simp] theorem l44_0 (E : Env) (s : Fr × Heap) : execD E ir44_l0 s = loopF E true [1, 6, 7, 15, 16, 17] ir44_b0 (gcFr true [1, 6, 7, 15, 16, 17] s) := execD_loopF _ _ _ s
theorem x45_0 (E : Env) (s : Fr × Heap) : loopF E true [3, 9, 10, 11] ir45_b0 s = andN (execD E ir45_d0 s) (loopK E true [3, 9, 10, 11] ir45_b0) := loopF_K _ _ _ s
@[simp] theorem l45_0 (E : Env) (s : Fr × Heap) : execD E ir45_l0 s = loopF E true [3, 9, 10, 11] ir45_b0 (gcFr true [3, 9, 10, 11] s) := execD_loopF _ _ _ s
theorem x46_0 (E : Env) (s : Fr × Heap) : loopF E false [2, 5, 6, 7, 8, 11, 52, 53, 54] ir46_b0 s = andN (execD E ir46_d0 s) (loopK E false [2, 5, 6, 7, 8, 11, 52, 53, 54] ir46_b0) := loopF_K _ _ _ s
@[simp] theorem l46_0 (E : Env) (s : Fr × Heap) : execD E ir46_l0 s = loopF E false [2, 5, 6, 7, 8, 11, 52, 53, 54] ir46_b0 (gcFr false [2, 5, 6, 7, 8, 11, 52, 53, 54] s) := execD_loopF _ _ _ s
theorem x46_1 (E : Env) (s : Fr × Heap) : loopF E false [2, 5, 6, 7, 8, 52, 53, 54] ir46_b1 s = andN (execD E ir46_d1 s) (loopK E false [2, 5, 6, 7, 8, 52, 53, 54] ir46_b1) := loopF_K _ _ _ s
@[simp] theorem l46_1 (E : Env) (s : Fr × Heap) : execD E ir46_l1 s = loopF E false [2, 5, 6, 7, 8, 52, 53, 54] ir46_b1 (gcFr false [2, 5, 6, 7, 8, 52, 53, 54] s) := execD_loopF _ _ _ s
theorem x46_2 (E : Env) (s : Fr × Heap) : loopF E false [2, 5, 6, 7, 8] ir46_b2 s = andN (execD E ir46_d2 s) (loopK E false [2, 5, 6, 7, 8] ir46_b2) := loopF_K _ _ _ s
@[simp] theorem l46_2 (E : Env) (s : Fr × Heap) : execD E ir46_l2 s = loopF E false [2, 5, 6, 7, 8] ir46_b2 (gcFr false [2, 5, 6, 7, 8] s) := execD_loopF _ _ _ s
theorem x46_3 (E : Env) (s : Fr × Heap) : loopF E false [2, 5, 6, 7] ir46_b3 s = andN (execD E ir46_d3 s) (loopK E false [2, 5, 6, 7] ir46_b3) := loopF_K _ _ _ s
@[simp] theorem l46_3 (E : Env) (s : Fr × Heap) : execD E ir46_l3 s = loopF E false [2, 5, 6, 7] ir46_b3 (gcFr false [2, 5, 6, 7] s) := execD_loopF _ _ _ s
theorem x50_0 (E : Env) (s : Fr × Heap) : loopF E false [1, 2, 3, 4, 5, 6, 15, 35, 36, 37] ir50_b0 s = andN (execD E ir50_d0 s) (loopK E false [1, 2, 3, 4, 5, 6, 15, 35, 36, 37] ir50_b0) := loopF_K _ _ _ s
@[simp] theorem l50_0 (E : Env) (s : Fr × Heap) : execD E ir50_l0 s = loopF E false [1, 2, 3, 4, 5, 6, 15, 35, 36, 37] ir50_b0 (gcFr false [1, 2, 3, 4, 5, 6, 15, 35, 36, 37] s) := execD_loopF _ _ _ s
theorem x52_0 (E : Env) (s : Fr × Heap) : loopF E true [0, 1, 3, 9, 10] ir52_b0 s = andN (execD E ir52_d0 s) (loopK E true [0, 1, 3, 9, 10] ir52_b0) := loopF_K _ _ _ s
@[simp] theorem l52_0 (E : Env) (s : Fr × Heap) : execD E ir52_l0 s = loopF E true [0, 1, 3, 9, 10] ir52_b0 (gcFr true [0, 1, 3, 9, 10] s) := execD_loopF _ _ _ s
theorem x53_0 (E : Env) (s : Fr × Heap) : loopF E true [3, 4, 5, 43, 44, 45] ir53_b0 s = andN (execD E ir53_d0 s) (loopK E true [3, 4, 5, 43, 44, 45] ir53_b0) := loopF_K _ _ _ s
@[simp] theorem l53_0 (E : Env) (s : Fr × Heap) : execD E ir53_l0 s = loopF E true [3, 4, 5, 43, 44, 45] ir53_b0 (gcFr true [3, 4, 5, 43, 44, 45] s) := execD_loopF _ _ _ s
theorem x56_0 (E : Env) (s : Fr × Heap) : loopF E true [0, 1, 5] ir56_b0 s = andN (execD E ir56_d0 s) (loopK E true [0, 1, 5] ir56_b0) := loopF_K _ _ _ s
@[simp] theorem l56_0 (E : Env) (s : Fr × Heap) : execD E ir56_l0 s = loopF E true [0, 1, 5] ir56_b0 (gcFr true [0, 1, 5] s) := execD_loopF _ _ _ s
theorem x58_0 (E : Env) (s : Fr × Heap) : loopF E true [1, 5, 10, 11, 12] ir58_b0 s = andN (execD E ir58_d0 s) (loopK E true [1, 5, 10, 11, 12] ir58_b0) := loopF_K _ _ _ s
@[simp] theorem l58_0 (E : Env) (s : Fr × Heap) : execD E ir58_l0 s = loopF E true [1, 5, 10, 11, 12] ir58_b0 (gcFr true [1, 5, 10, 11, 12] s) := execD_loopF _ _ _ s
theorem x61_0 (E : Env) (s : Fr × Heap) : loopF E true [0, 5, 6, 7] ir61_b0 s = andN (execD E ir61_d0 s) (loopK E true [0, 5, 6, 7] ir61_b0) := loopF_K _ _ _ s
@[simp] theorem l61_0 (E : Env) (s : Fr × Heap) : execD E ir61_l0 s = loopF E true [0, 5, 6, 7] ir61_b0 (gcFr true [0, 5, 6, 7] s) := execD_loopF _ _ _ s
theorem x62_0 (E : Env) (s : Fr × Heap) : loopF E true [3, 8, 9] ir62_b0 s = andN (execD E ir62_d0 s) (loopK E true [3, 8, 9] ir62_b0) := loopF_K _ _ _ s
@[simp] theorem l62_0 (E : Env) (s : Fr × Heap) : execD E ir62_l0 s = loopF E true [3, 8, 9] ir62_b0 (gcFr true [3, 8, 9] s) := execD_loopF _ _ _ s
theorem x64_0 (E : Env) (s : Fr × Heap) : loopF E true [7, 8] ir64_b0 s = andN (execD E ir64_d0 s) (loopK E true [7, 8] ir64_b0) := loopF_K _ _ _ s
@[simp] theorem l64_0 (E : Env) (s : Fr × Heap) : execD E ir64_l0 s = loopF E true [7, 8] ir64_b0 (gcFr true [7, 8] s) := execD_loopF _ _ _ s
theorem x65_0 (E : Env) (s : Fr × Heap) : loopF E true [0, 1, 2, 9, 10, 11] ir65_b0 s = andN (execD E ir65_d0 s) (loopK E true [0, 1, 2, 9, 10, 11] ir65_b0) := loopF_K _ _ _ s
@[simp] theorem l65_0 (E : Env) (s : Fr × Heap) : execD E ir65_l0 s = loopF E true [0, 1, 2, 9, 10, 11] ir65_b0 (gcFr true [0, 1, 2, 9, 10, 11] s) := execD_loopF _ _ _ s
theorem x66_0 (E : Env) (s : Fr × Heap) : loopF E true [0, 1, 5, 6] ir66_b0 s = andN (execD E ir66_d0 s) (loopK E true [0, 1, 5, 6] ir66_b0) := loopF_K _ _ _ s
@[simp] theorem l66_0 (E : Env) (s : Fr × Heap) : execD E ir66_l0 s = loopF E true [0, 1, 5, 6] ir66_b0 (gcFr true [0, 1, 5, 6] s) := execD_loopF _ _ _ s
theorem x66_1 (E : Env) (s : Fr × Heap) : loopF E true [0, 1, 5] ir66_b1 s = andN (execD E ir66_d1 s) (loopK E true [0, 1, 5] ir66_b1) := loopF_K _ _ _ s
@[simp] theorem l66_1 (E : Env) (s : Fr × Heap) : execD E ir66_l1 s = loopF E true [0, 1, 5] ir66_b1 (gcFr true [0, 1, 5] s) := execD_loopF _ _ _ s
theorem x67_0 (E : Env) (s : Fr × Heap) : loopF E true [3, 6, 7, 8] ir67_b0 s = andN (execD E ir67_d0 s) (loopK E true [3, 6, 7, 8] ir67_b0) := loopF_K _ _ _ s
@[simp] theorem l67_0 (E : Env) (s : Fr × Heap) : execD E ir67_l0 s = loopF E true [3, 6, 7, 8] ir67_b0 (gcFr true [3, 6, 7, 8] s) := execD_loopF _ _ _ s
theorem x68_0 (E : Env) (s : Fr × Heap) : loopF E true [2, 3, 5, 6, 17, 18, 19] ir68_b0 s = andN (execD E ir68_d0 s) (loopK E true [2, 3, 5, 6, 17, 18, 19] ir68_b0) := loopF_K _ _ _ s
@[simp] theorem l68_0 (E : Env) (s : Fr × Heap) : execD E ir68_l0 s = loopF E true [2, 3, 5, 6, 17, 18, 19] ir68_b0 (gcFr true [2, 3, 5, 6, 17, 18, 19] s) := execD_loopF _ _ _ s
theorem x68_1 (E : Env) (s : Fr × Heap) : loopF E true [2, 3, 5] ir68_b1 s = andN (execD E ir68_d1 s) (loopK E true [2, 3, 5] ir68_b1) := loopF_K _ _ _ s
@[simp] theorem l68_1 (E : Env) (s : Fr × Heap) : execD E ir68_l1 s = loopF E true [2, 3, 5] ir68_b1 (gcFr true [2, 3, 5] s) := execD_loopF _ _ _ s
theorem x69_0 (E : Env) (s : Fr × Heap) : loopF E false [0, 1, 5, 6] ir69_b0 s = andN (execD E ir69_d0 s) (loopK E false [0, 1, 5, 6] ir69_b0) := loopF_K _ _ _ s
@[simp] theorem l69_0 (E : Env) (s : Fr × Heap) : execD E ir69_l0 s = loopF E false [0, 1, 5, 6] ir69_b0 (gcFr false [0, 1, 5, 6] s) := execD_loopF _ _ _ s
theorem x71_0 (E : Env) (s : Fr × Heap) : loopF E false [1, 2, 3, 4, 5, 8] ir71_b0 s = andN (execD E ir71_d0 s) (loopK E false [1, 2, 3, 4, 5, 8] ir71_b0) := loopF_K _ _ _ s
@[simp] theorem l71_0 (E : Env) (s : Fr × Heap) : execD E ir71_l0 s = loopF E false [1, 2, 3, 4, 5, 8] ir71_b0 (gcFr false [1, 2, 3, 4, 5, 8] s) := execD_loopF _ _ _ s
theorem x76_0 (E : Env) (s : Fr × Heap) : loopF E true [0, 1, 7, 8] ir76_b0 s = andN (execD E ir76_d0 s) (loopK E true [0, 1, 7, 8] ir76_b0) := loopF_K _ _ _ s
@[simp] theorem l76_0 (E : Env) (s : Fr × Heap) : execD E ir76_l0 s = loopF E true [0, 1, 7, 8] ir76_b0 (gcFr true [0, 1, 7, 8] s) := execD_loopF _ _ _ s
theorem x77_0 (E : Env) (s : Fr × Heap) : loopF E true [0, 1, 7, 8] ir77_b0 s = andN (execD E ir77_d0 s) (loopK E true [0, 1, 7, 8] ir77_b0) := loopF_K _ _ _ s
@[simp] theorem l77_0 (E : Env) (s : Fr × Heap) : execD E ir77_l0 s = loopF E true [0, 1, 7, 8] ir77_b0 (gcFr true [0, 1, 7, 8] s) := execD_loopF _ _ _ s
theorem x78_0 (E : Env) (s : Fr × Heap) : loopF E true [0, 1, 7, 8] ir78_b0 s = andN (execD E ir78_d0 s) (loopK E true [0, 1, 7, 8] ir78_b0) := loopF_K _ _ _ s
@[simp] theorem l78_0 (E : Env) (s : Fr × Heap) : execD E ir78_l0 s = loopF E true [0, 1, 7, 8] ir78_b0 (gcFr true [0, 1, 7, 8] s) := execD_loopF _ _ _ s
@[simp] theorem e3 : env 3 = some (.ir ir3) := rfl
@[simp] theorem m3 : ir3.mode = .own := rfl
@[simp] theorem c3 (args : List V) (H : Heap) : evCall env (den env) 3 args H = ownC (ownR env 3) H (rdL (rd H depth) args) := call_own e3 rfl args H
@[simp] theorem e4 : env 4 = some (.ir ir4) := rfl
@[simp] theorem m4 : ir4.mode = .own := rfl
@[simp] theorem c4 (args : List V) (H : Heap) : evCall env (den env) 4 args H = ownC (ownR env 4) H (rdL (rd H depth) args) := call_own e4 rfl args H
@[simp] theorem e5 : env 5 = some (.ir ir5) := rfl
@[simp] theorem m5 : ir5.mode = .own := rfl
@[simp] theorem c5 (args : List V) (H : Heap) : evCall env (den env) 5 args H = ownC (ownR env 5) H (rdL (rd H depth) args) := call_own e5 rfl args H
@[simp] theorem e6 : env 6 = some (.ir ir6) := rfl
@[simp] theorem m6 : ir6.mode = .own := rfl
@[simp] theorem c6 (args : List V) (H : Heap) : evCall env (den env) 6 args H = ownC (ownR env 6) H (rdL (rd H depth) args) := call_own e6 rfl args H
@[simp] theorem e7 : env 7 = some (.ir ir7) := rfl
@[simp] theorem m7 : ir7.mode = .own := rfl
@[simp] theorem c7 (args : List V) (H : Heap) : evCall env (den env) 7 args H = ownC (ownR env 7) H (rdL (rd H depth) args) := call_own e7 rfl args H
@[simp] theorem e8 : env 8 = some (.ir ir8) := rfl
@[simp] theorem m8 : ir8.mode = .own := rfl
@[simp] theorem c8 (args : List V) (H : Heap) : evCall env (den env) 8 args H = ownC (ownR env 8) H (rdL (rd H depth) args) := call_own e8 rfl args H
@[simp] theorem e9 : env 9 = some (.ir ir9) := rfl
@[simp] theorem m9 : ir9.mode = .own := rfl
@[simp] theorem c9 (args : List V) (H : Heap) : evCall env (den env) 9 args H = ownC (ownR env 9) H (rdL (rd H depth) args) := call_own e9 rfl args H
@[simp] theorem e10 : env 10 = some (.ir ir10) := rfl
@[simp] theorem m10 : ir10.mode = .own := rfl
@[simp] theorem c10 (args : List V) (H : Heap) : evCall env (den env) 10 args H = ownC (ownR env 10) H (rdL (rd H depth) args) := call_own e10 rfl args H
@[simp] theorem e11 : env 11 = some (.ir ir11) := rfl
@[simp] theorem m11 : ir11.mode = .own := rfl
@[simp] theorem c11 (args : List V) (H : Heap) : evCall env (den env) 11 args H = ownC (ownR env 11) H (rdL (rd H depth) args) := call_own e11 rfl args H
@[simp] theorem e12 : env 12 = some (.ir ir12) := rfl
@[simp] theorem m12 : ir12.mode = .own := rfl
@[simp] theorem c12 (args : List V) (H : Heap) : evCall env (den env) 12 args H = ownC (ownR env 12) H (rdL (rd H depth) args) := call_own e12 rfl args H
@[simp] theorem e13 : env 13 = some (.ir ir13) := rfl
@[simp] theorem m13 : ir13.mode = .own := rfl
@[simp] theorem c13 (args : List V) (H : Heap) : evCall env (den env) 13 args H = ownC (ownR env 13) H (rdL (rd H depth) args) := call_own e13 rfl args H
@[simp] theorem e14 : env 14 = some (.ir ir14) := rfl
@[simp] theorem m14 : ir14.mode = .own := rfl
@[simp] theorem c14 (args : List V) (H : Heap) : evCall env (den env) 14 args H = ownC (ownR env 14) H (rdL (rd H depth) args) := call_own e14 rfl args H
@[simp] theorem e15 : env 15 = some (.ir ir15) := rfl
@[simp] theorem m15 : ir15.mode = .own := rfl
@[simp] theorem c15 (args : List V) (H : Heap) : evCall env (den env) 15 args H = ownC (ownR env 15) H (rdL (rd H depth) args) := call_own e15 rfl args H
@[simp] theorem e16 : env 16 = some (.ir ir16) := rfl
@[simp] theorem m16 : ir16.mode = .own := rfl
@[simp] theorem c16 (args : List V) (H : Heap) : evCall env (den env) 16 args H = ownC (ownR env 16) H (rdL (rd H depth) args) := call_own e16 rfl args H
@[simp] theorem e17 : env 17 = some (.ir ir17) := rfl
@[simp] theorem m17 : ir17.mode = .ownF := rfl
@[simp] theorem c17 (args : List V) (H : Heap) : evCall env (den env) 17 args H = ownFC (ownFR env 17) H (rdL (rd H depth) args) := call_ownF e17 rfl args H
@[simp] theorem e18 : env 18 = some (.ir ir18) := rfl
@[simp] theorem m18 : ir18.mode = .ownF := rfl
@[simp] theorem c18 (args : List V) (H : Heap) : evCall env (den env) 18 args H = ownFC (ownFR env 18) H (rdL (rd H depth) args) := call_ownF e18 rfl args H
@[simp] theorem e19 : env 19 = some (.ir ir19) := rfl
@[simp] theorem m19 : ir19.mode = .own := rfl
@[simp] theorem c19 (args : List V) (H : Heap) : evCall env (den env) 19 args H = ownC (ownR env 19) H (rdL (rd H depth) args) := call_own e19 rfl args H
@[simp] theorem e20 : env 20 = some (.ir ir20) := rfl
@[simp] theorem m20 : ir20.mode = .own := rfl
@[simp] theorem c20 (args : List V) (H : Heap) : evCall env (den env) 20 args H = ownC (ownR env 20) H (rdL (rd H depth) args) := call_own e20 rfl args H
@[simp] theorem e21 : env 21 = some (.ir ir21) := rfl
@[simp] theorem m21 : ir21.mode = .own := rfl
@[simp] theorem c21 (args : List V) (H : Heap) : evCall env (den env) 21 args H = ownC (ownR env 21) H (rdL (rd H depth) args) := call_own e21 rfl args H
@[simp] theorem e22 : env 22 = some (.ir ir22) := rfl
@[simp] theorem m22 : ir22.mode = .own := rfl
@[simp] theorem c22 (args : List V) (H : Heap) : evCall env (den env) 22 args H = ownC (ownR env 22) H (rdL (rd H depth) args) := call_own e22 rfl args H
@[simp] theorem e23 : env 23 = some (.ir ir23) := rfl
@[simp] theorem m23 : ir23.mode = .own := rfl
@[simp] theorem c23 (args : List V) (H : Heap) : evCall env (den env) 23 args H = ownC (ownR env 23) H (rdL (rd H depth) args) := call_own e23 rfl args H
@[simp] theorem e24 : env 24 = some (.ir ir24) := rfl
@[simp] theorem m24 : ir24.mode = .own := rfl
@[simp] theorem c24 (args : List V) (H : Heap) : evCall env (den env) 24 args H = ownC (ownR env 24) H (rdL (rd H depth) args) := call_own e24 rfl args H
@[simp] theorem e25 : env 25 = some (.ir ir25) := rfl
@[simp] theorem m25 : ir25.mode = .own := rfl
@[simp] theorem c25 (args : List V) (H : Heap) : evCall env (den env) 25 args H = ownC (ownR env 25) H (rdL (rd H depth) args) := call_own e25 rfl args H
@[simp] theorem e26 : env 26 = some (.ir ir26) := rfl
@[simp] theorem m26 : ir26.mode = .ownF := rfl
@[simp] theorem c26 (args : List V) (H : Heap) : evCall env (den env) 26 args H = ownFC (ownFR env 26) H (rdL (rd H depth) args) := call_ownF e26 rfl args H
@[simp] theorem e27 : env 27 = some (.ir ir27) := rfl
@[simp] theorem m27 : ir27.mode = .own := rfl
@[simp] theorem c27 (args : List V) (H : Heap) : evCall env (den env) 27 args H = ownC (ownR env 27) H (rdL (rd H depth) args) := call_own e27 rfl args H
@[simp] theorem e28 : env 28 = some (.ir ir28) := rfl
@[simp] theorem m28 : ir28.mode = .own := rfl
@[simp] theorem c28 (args : List V) (H : Heap) : evCall env (den env) 28 args H = ownC (ownR env 28) H (rdL (rd H depth) args) := call_own e28 rfl args H
@[simp] theorem e29 : env 29 = some (.ir ir29) := rfl
@[simp] theorem m29 : ir29.mode = .ownF := rfl
@[simp] theorem c29 (args : List V) (H : Heap) : evCall env (den env) 29 args H = ownFC (ownFR env 29) H (rdL (rd H depth) args) := call_ownF e29 rfl args H
@[simp] theorem e30 : env 30 = some (.ir ir30) := rfl
@[simp] theorem m30 : ir30.mode = .own := rfl
@[simp] theorem c30 (args : List V) (H : Heap) : evCall env (den env) 30 args H = ownC (ownR env 30) H (rdL (rd H depth) args) := call_own e30 rfl args H
@[simp] theorem e31 : env 31 = some (.ir ir31) := rfl
@[simp] theorem m31 : ir31.mode = .own := rfl
@[simp] theorem c31 (args : List V) (H : Heap) : evCall env (den env) 31 args H = ownC (ownR env 31) H (rdL (rd H depth) args) := call_own e31 rfl args H
@[simp] theorem e32 : env 32 = some (.ir ir32) := rfl
@[simp] theorem m32 : ir32.mode = .ownF := rfl
@[simp] theorem c32 (args : List V) (H : Heap) : evCall env (den env) 32 args H = ownFC (ownFR env 32) H (rdL (rd H depth) args) := call_ownF e32 rfl args H
@[simp] theorem e33 : env 33 = some (.ir ir33) := rfl
@[simp] theorem m33 : ir33.mode = .own := rfl
@[simp] theorem c33 (args : List V) (H : Heap) : evCall env (den env) 33 args H = ownC (ownR env 33) H (rdL (rd H depth) args) := call_own e33 rfl args H
@[simp] theorem e34 : env 34 = some (.ir ir34) := rfl
@[simp] theorem m34 : ir34.mode = .ownF := rfl
@[simp] theorem c34 (args : List V) (H : Heap) : evCall env (den env) 34 args H = ownFC (ownFR env 34) H (rdL (rd H depth) args) := call_ownF e34 rfl args H
@[simp] theorem e35 : env 35 = some (.ir ir35) := rfl
@[simp] theorem m35 : ir35.mode = .own := rfl
@[simp] theorem c35 (args : List V) (H : Heap) : evCall env (den env) 35 args H = ownC (ownR env 35) H (rdL (rd H depth) args) := call_own e35 rfl args H
@[simp] theorem e36 : env 36 = some (.ir ir36) := rfl
@[simp] theorem m36 : ir36.mode = .own := rfl
@[simp] theorem c36 (args : List V) (H : Heap) : evCall env (den env) 36 args H = ownC (ownR env 36) H (rdL (rd H depth) args) := call_own e36 rfl args H
@[simp] theorem e37 : env 37 = some (.ir ir37) := rfl
@[simp] theorem m37 : ir37.mode = .own := rfl
@[simp] theorem c37 (args : List V) (H : Heap) : evCall env (den env) 37 args H = ownC (ownR env 37) H (rdL (rd H depth) args) := call_own e37 rfl args H
@[simp] theorem e38 : env 38 = some (.ir ir38) := rfl
@[simp] theorem m38 : ir38.mode = .own := rfl
@[simp] theorem c38 (args : List V) (H : Heap) : evCall env (den env) 38 args H = ownC (ownR env 38) H (rdL (rd H depth) args) := call_own e38 rfl args H
@[simp] theorem e39 : env 39 = some (.ir ir39) := rfl
@[simp] theorem m39 : ir39.mode = .own := rfl
@[simp] theorem c39 (args : List V) (H : Heap) : evCall env (den env) 39 args H = ownC (ownR env 39) H (rdL (rd H depth) args) := call_own e39 rfl args H
@[simp] theorem e40 : env 40 = some (.ir ir40) := rfl
@[simp] theorem m40 : ir40.mode = .own := rfl
@[simp] theorem c40 (args : List V) (H : Heap) : evCall env (den env) 40 args H = ownC (ownR env 40) H (rdL (rd H depth) args) := call_own e40 rfl args H
@[simp] theorem e41 : env 41 = some (.ir ir41) := rfl
@[simp] theorem m41 : ir41.mode = .ownF := rfl
@[simp] theorem c41 (args : List V) (H : Heap) : evCall env (den env) 41 args H = ownFC (ownFR env 41) H (rdL (rd H depth) args) := call_ownF e41 rfl args H
@[simp] theorem e42 : env 42 = some (.ir ir42) := rfl
@[simp] theorem m42 : ir42.mode = .own := rfl
@[simp] theorem c42 (args : List V) (H : Heap) : evCall env (den env) 42 args H = ownC (ownR env 42) H (rdL (rd H depth) args) := call_own e42 rfl args H
@[simp] theorem e43 : env 43 = some (.ir ir43) := rfl
@[simp] theorem m43 : ir43.mode = .ownF := rfl
@[simp] theorem c43 (args : List V) (H : Heap) : evCall env (den env) 43 args H = ownFC (ownFR env 43) H (rdL (rd H depth) args) := call_ownF e43 rfl args H
@[simp] theorem e44 : env 44 = some (.ir ir44) := rfl
@[simp] theorem m44 : ir44.mode = .own := rfl
@[simp] theorem c44 (args : List V) (H : Heap) : evCall env (den env) 44 args H = ownC (ownR env 44) H (rdL (rd H depth) args) := call_own e44 rfl args H
@[simp] theorem e45 : env 45 = some (.ir ir45) := rfl
@[simp] theorem m45 : ir45.mode = .own := rfl
@[simp] theorem c45 (args : List V) (H : Heap) : evCall env (den env) 45 args H = ownC (ownR env 45) H (rdL (rd H depth) args) := call_own e45 rfl args H
@[simp] theorem e46 : env 46 = some (.ir ir46) := rfl
@[simp] theorem m46 : ir46.mode = .ref := rfl
@[simp] theorem c46 (args : List V) (H : Heap) : evCall env (den env) 46 args H = refC2 (den env 46) H (callM.rdArgs H args) := call_ref e46 rfl args H
@[simp] theorem e47 : env 47 = some (.ir ir47) := rfl
@[simp] theorem m47 : ir47.mode = .own := rfl
@[simp] theorem c47 (args : List V) (H : Heap) : evCall env (den env) 47 args H = ownC (ownR env 47) H (rdL (rd H depth) args) := call_own e47 rfl args H
@[simp] theorem e48 : env 48 = some (.ir ir48) := rfl
@[simp] theorem m48 : ir48.mode = .own := rfl
@[simp] theorem c48 (args : List V) (H : Heap) : evCall env (den env) 48 args H = ownC (ownR env 48) H (rdL (rd H depth) args) := call_own e48 rfl args H
@[simp] theorem e49 : env 49 = some (.ir ir49) := rfl
@[simp] theorem m49 : ir49.mode = .own := rfl
@[simp] theorem c49 (args : List V) (H : Heap) : evCall env (den env) 49 args H = ownC (ownR env 49) H (rdL (rd H depth) args) := call_own e49 rfl args H
@[simp] theorem e50 : env 50 = some (.ir ir50) := rfl
@[simp] theorem m50 : ir50.mode = .refM := rfl
@[simp] theorem c50 (args : List V) (H : Heap) : evCall env (den env) 50 args H = den env 50 args H := call_refM e50 rfl args H
@[simp] theorem e51 : env 51 = some (.ir ir51) := rfl
@[simp] theorem m51 : ir51.mode = .own := rfl
@[simp] theorem c51 (args : List V) (H : Heap) : evCall env (den env) 51 args H = ownC (ownR env 51) H (rdL (rd H depth) args) := call_own e51 rfl args H
@[simp] theorem e52 : env 52 = some (.ir ir52) := rfl
@[simp] theorem m52 : ir52.mode = .ownF := rfl
@[simp] theorem c52 (args : List V) (H : Heap) : evCall env (den env) 52 args H = ownFC (ownFR env 52) H (rdL (rd H depth) args) := call_ownF e52 rfl args H
@[simp] theorem e53 : env 53 = some (.ir ir53) := rfl
@[simp] theorem m53 : ir53.mode = .own := rfl
@[simp] theorem c53 (args : List V) (H : Heap) : evCall env (den env) 53 args H = ownC (ownR env 53) H (rdL (rd H depth) args) := call_own e53 rfl args H
@[simp] theorem e54 : env 54 = some (.ir ir54) := rfl
@[simp] theorem m54 : ir54.mode = .own := rfl
@[simp] theorem c54 (args : List V) (H : Heap) : evCall env (den env) 54 args H = ownC (ownR env 54) H (rdL (rd H depth) args) := call_own e54 rfl args H
@[simp] theorem e55 : env 55 = some (.ir ir55) := rfl
@[simp] theorem m55 : ir55.mode = .ownF := rfl
@[simp] theorem c55 (args : List V) (H : Heap) : evCall env (den env) 55 args H = ownFC (ownFR env 55) H (rdL (rd H depth) args) := call_ownF e55 rfl args H
@[simp] theorem e56 : env 56 = some (.ir ir56) := rfl
@[simp] theorem m56 : ir56.mode = .own := rfl
@[simp] theorem c56 (args : List V) (H : Heap) : evCall env (den env) 56 args H = ownC (ownR env 56) H (rdL (rd H depth) args) := call_own e56 rfl args H
@[simp] theorem e57 : env 57 = some (.ir ir57) := rfl
@[simp] theorem m57 : ir57.mode = .own := rfl
@[simp] theorem c57 (args : List V) (H : Heap) : evCall env (den env) 57 args H = ownC (ownR env 57) H (rdL (rd H depth) args) := call_own e57 rfl args H
@[simp] theorem e58 : env 58 = some (.ir ir58) := rfl
@[simp] theorem m58 : ir58.mode = .own := rfl
@[simp] theorem c58 (args : List V) (H : Heap) : evCall env (den env) 58 args H = ownC (ownR env 58) H (rdL (rd H depth) args) := call_own e58 rfl args H
@[simp] theorem e59 : env 59 = some (.ir ir59) := rfl
@[simp] theorem m59 : ir59.mode = .ref := rfl
@[simp] theorem c59 (args : List V) (H : Heap) : evCall env (den env) 59 args H = refC2 (den env 59) H (callM.rdArgs H args) := call_ref e59 rfl args H
@[simp] theorem e60 : env 60 = some (.ir ir60) := rfl
@[simp] theorem m60 : ir60.mode = .ref := rfl
@[simp] theorem c60 (args : List V) (H : Heap) : evCall env (den env) 60 args H = refC2 (den env 60) H (callM.rdArgs H args) := call_ref e60 rfl args H
@[simp] theorem e61 : env 61 = some (.ir ir61) := rfl
@[simp] theorem m61 : ir61.mode = .own := rfl
@[simp] theorem c61 (args : List V) (H : Heap) : evCall env (den env) 61 args H = ownC (ownR env 61) H (rdL (rd H depth) args) := call_own e61 rfl args H
@[simp] theorem e62 : env 62 = some (.ir ir62) := rfl
@[simp] theorem m62 : ir62.mode = .own := rfl
@[simp] theorem c62 (args : List V) (H : Heap) : evCall env (den env) 62 args H = ownC (ownR env 62) H (rdL (rd H depth) args) := call_own e62 rfl args H
@[simp] theorem e64 : env 64 = some (.ir ir64) := rfl
@[simp] theorem m64 : ir64.mode = .own := rfl
@[simp] theorem c64 (args : List V) (H : Heap) : evCall env (den env) 64 args H = ownC (ownR env 64) H (rdL (rd H depth) args) := call_own e64 rfl args H
@[simp] theorem e65 : env 65 = some (.ir ir65) := rfl
@[simp] theorem m65 : ir65.mode = .own := rfl
@[simp] theorem c65 (args : List V) (H : Heap) : evCall env (den env) 65 args H = ownC (ownR env 65) H (rdL (rd H depth) args) := call_own e65 rfl args H
@[simp] theorem e66 : env 66 = some (.ir ir66) := rfl
@[simp] theorem m66 : ir66.mode = .own := rfl
@[simp] theorem c66 (args : List V) (H : Heap) : evCall env (den env) 66 args H = ownC (ownR env 66) H (rdL (rd H depth) args) := call_own e66 rfl args H
@[simp] theorem e67 : env 67 = some (.ir ir67) := rfl
@[simp] theorem m67 : ir67.mode = .own := rfl
@[simp] theorem c67 (args : List V) (H : Heap) : evCall env (den env) 67 args H = ownC (ownR env 67) H (rdL (rd H depth) args) := call_own e67 rfl args H
@[simp] theorem e68 : env 68 = some (.ir ir68) := rfl
@[simp] theorem m68 : ir68.mode = .own := rfl
@[simp] theorem c68 (args : List V) (H : Heap) : evCall env (den env) 68 args H = ownC (ownR env 68) H (rdL (rd H depth) args) := call_own e68 rfl args H
@[simp] theorem e69 : env 69 = some (.ir ir69) := rfl
@[simp] theorem m69 : ir69.mode = .refM := rfl
@[simp] theorem c69 (args : List V) (H : Heap) : evCall env (den env) 69 args H = den env 69 args H := call_refM e69 rfl args H
@[simp] theorem e70 : env 70 = some (.ir ir70) := rfl
@[simp] theorem m70 : ir70.mode = .own := rfl
@[simp] theorem c70 (args : List V) (H : Heap) : evCall env (den env) 70 args H = ownC (ownR env 70) H (rdL (rd H depth) args) := call_own e70 rfl args H
@[simp] theorem e71 : env 71 = some (.ir ir71) := rfl
@[simp] theorem m71 : ir71.mode = .ref := rfl
@[simp] theorem c71 (args : List V) (H : Heap) : evCall env (den env) 71 args H = refC2 (den env 71) H (callM.rdArgs H args) := call_ref e71 rfl args H
@[simp] theorem e72 : env 72 = some (.ir ir72) := rfl
@[simp] theorem m72 : ir72.mode = .own := rfl
@[simp] theorem c72 (args : List V) (H : Heap) : evCall env (den env) 72 args H = ownC (ownR env 72) H (rdL (rd H depth) args) := call_own e72 rfl args H
@[simp] theorem e73 : env 73 = some (.ir ir73) := rfl
@[simp] theorem m73 : ir73.mode = .own := rfl
@[simp] theorem c73 (args : List V) (H : Heap) : evCall env (den env) 73 args H = ownC (ownR env 73) H (rdL (rd H depth) args) := call_own e73 rfl args H
@[simp] theorem e74 : env 74 = some (.ir ir74) := rfl
@[simp] theorem m74 : ir74.mode = .own := rfl
@[simp] theorem c74 (args : List V) (H : Heap) : evCall env (den env) 74 args H = ownC (ownR env 74) H (rdL (rd H depth) args) := call_own e74 rfl args H
@[simp] theorem e75 : env 75 = some (.ir ir75) := rfl
@[simp] theorem m75 : ir75.mode = .own := rfl
@[simp] theorem c75 (args : List V) (H : Heap) : evCall env (den env) 75 args H = ownC (ownR env 75) H (rdL (rd H depth) args) := call_own e75 rfl args H
@[simp] theorem e76 : env 76 = some (.ir ir76) := rfl
@[simp] theorem m76 : ir76.mode = .own := rfl
@[simp] theorem c76 (args : List V) (H : Heap) : evCall env (den env) 76 args H = ownC (ownR env 76) H (rdL (rd H depth) args) := call_own e76 rfl args H
@[simp] theorem e77 : env 77 = some (.ir ir77) := rfl
@[simp] theorem m77 : ir77.mode = .own := rfl
@[simp] theorem c77 (args : List V) (H : Heap) : evCall env (den env) 77 args H = ownC (ownR env 77) H (rdL (rd H depth) args) := call_own e77 rfl args H
@[simp] theorem e78 : env 78 = some (.ir ir78) := rfl
@[simp] theorem m78 : ir78.mode = .own := rfl
@[simp] theorem c78 (args : List V) (H : Heap) : evCall env (den env) 78 args H = ownC (ownR env 78) H (rdL (rd H depth) args) := call_own e78 rfl args H
@[simp] theorem e79 : env 79 = some (.ir ir79) := rfl
@[simp] theorem m79 : ir79.mode = .own := rfl
@[simp] theorem c79 (args : List V) (H : Heap) : evCall env (den env) 79 args H = ownC (ownR env 79) H (rdL (rd H depth) args) := call_own e79 rfl args H
@[simp] theorem e80 : env 80 = some (.ir ir80) := rfl
@[simp] theorem m80 : ir80.mode = .own := rfl
@[simp] theorem c80 (args : List V) (H : Heap) : evCall env (den env) 80 args H = ownC (ownR env 80) H (rdL (rd H depth) args) := call_own e80 rfl args H
@[simp] theorem e63 : env 63 = some (.prim .own (cloneP 1)) := rfl
@[simp] theorem c63 (args : List V) (H : Heap) : evCall env (den env) 63 args H = ownC (primR (cloneP 1)) H (rdL (rd H depth) args) := call_prim e63 args H
end Go.Proofs.Ytgmcjejelpeioaa.Ev
namespace Go.Proofs.Ytgmcjejelpeioaa.Ev
open Go
set_option linter.unusedVariables false
set_option linter.unusedSimpArgs false
attribute [local simp] til_getE til_length til_get til_drop til_take til_append til_nil til_cons til_replicate til_set
def inB (x a b : Int) : Bool := decide (a ≤ x ∧ x ≤ b)
theorem inB_iff (x a b : Int) : inB x a b = true ↔ a ≤ x ∧ x ≤ b := by simp [inB]
theorem inB_not (x a b : Int) : inB x a b = false ↔ ¬ (a ≤ x ∧ x ≤ b) := by simp [inB]
theorem w64 {n : Int} (h : -9223372036854775808 ≤ n ∧ n ≤ 9223372036854775807) : IntKind.i64.wrap n = n := IntWalk.i64_in n h

@[simp] theorem r38 (x a b : Int) : ownR env 38 [ti x, ti a, ti b] = some (.t (tb (inB x a b)), []) := by
  rw [own_ir e38 _ rfl]
  by_cases h : a ≤ x <;> simp [ir38, ir38_c, h, inB]
@[simp] theorem r39 (x a b : Int) : ownR env 39 [ti x, ti a, ti b] = some (.t (tb (inB x a b)), []) := by
  rw [own_ir e39 _ rfl]
  by_cases h : a ≤ x <;> simp [ir39, ir39_c, h, inB]
def good (a b c : Int) : Bool := inB a 1 3 && inB b 1 3 && inB c 0 2
theorem good_of {a b c : Int} (h : good a b c = true) : 1 ≤ a ∧ a ≤ 3 ∧ 1 ≤ b ∧ b ≤ 3 ∧ 0 ≤ c ∧ c ≤ 2 := by simp [good, inB] at h; omega
@[simp] theorem r25 (a b c : Int) : ownR env 25 [.agg [ti a, ti b, ti c]] = some (.t (tb (good a b c)), []) := by
  rw [own_ir e25 _ rfl]
  cases h1 : inB a 1 3 <;> cases h2 : inB b 1 3 <;> simp [ir25, ir25_c, h1, h2, good]
@[simp] theorem r22 (a b c : Int) : ownR env 22 [.agg [ti a, ti b, ti c]] = some (.t (tb (good a b c)), []) := by
  rw [own_ir e22 _ rfl]
  cases h1 : inB a 1 3 <;> cases h2 : inB b 1 3 <;> simp [ir22, ir22_c, h1, h2, good]
theorem r57 (a b c : Int) (h : 0 ≤ a ∧ a ≤ 10) : ownR env 57 [.agg [ti a, ti b, ti c]] = some (.t (ti (2 * a)), []) := by
  rw [own_ir e57 _ rfl]
  simp [ir57, ir57_c, w64 (n := 2 * a) (by omega)]
theorem r49 (a b c : Int) (h : 0 ≤ c ∧ c ≤ 10) : ownR env 49 [.agg [ti a, ti b, ti c]] = some (.t (ti (c + 1)), []) := by
  rw [own_ir e49 _ rfl]
  simp [ir49, ir49_c, w64 (n := c + 1) (by omega)]
@[simp] theorem r47 (b : Bool) : ownR env 47 [tb b] = some (.t (ti (if b then 1 else 0)), []) := by
  rw [own_ir e47 _ rfl]
  cases b <;> simp [ir47, ir47_c]
theorem r54 (l : List Int) (h : l.length ≤ 1000) : ownR env 54 [tl l] = some (.ref 0 0 l.length, [.pure 1 (til l)]) := by
  rw [own_ir e54 _ rfl]
  simp [ir54, ir54_c, show l.length ≤ 68719476736 by omega, til_flat]
def stand (p : Int) : Nat → List Int → List Int
  | _, [] => []
  | i, x :: xs => if x = p then (i : Int) :: stand p (i + 1) xs else stand p (i + 1) xs
theorem l58 (xs : List Int) (p : Int) (hl : xs.length ≤ 1000) : ∀ (d i : Nat) (acc : List Int), i + d = xs.length → acc.length ≤ i →
    loopF env true [1, 5, 10, 11, 12] ir58_b0 ([(1, .t (ti p)), (5, .ref 0 0 acc.length), (10, .t (tl xs)), (11, .t (ti xs.length)), (12, .t (ti i))], [.pure 1 (til acc)]) =
      some (.exit 0, [(1, .t (ti p)), (5, .ref 0 0 (acc ++ stand p i (xs.drop i)).length), (10, .t (tl xs)), (11, .t (ti xs.length)), (12, .t (ti xs.length)), (13, .t (tb false))], [.pure 1 (til (acc ++ stand p i (xs.drop i)))])
  | 0, i, acc, hi, _ => by
    rw [x58_0]
    have : i = xs.length := by omega
    subst this
    simp [ir58_d0, stand]
  | d + 1, i, acc, hi, ha => by
    rw [x58_0]
    have hlt : i < xs.length := by omega
    have ha2 : acc.length + 1 ≤ 68719476736 := by omega
    have hw : IntKind.i64.wrap ((i : Int) + 1) = (i : Int) + 1 := w64 (by omega)
    have hd : xs.drop i = xs[i] :: xs.drop (i + 1) := List.drop_eq_getElem_cons hlt
    by_cases h : xs[i] = p
    · have ih := l58 xs p hl d (i + 1) (acc ++ [(i : Int)]) (by omega) (by simp; omega)
      have hs : stand p i (xs.drop i) = (i : Int) :: stand p (i + 1) (xs.drop (i + 1)) := by rw [hd, stand, if_pos h]
      simp at ih
      simp [ir58_d0, hlt, h, ha2, hw, hs, ih]
    · have ih := l58 xs p hl d (i + 1) acc (by omega) (by omega)
      have hs : stand p i (xs.drop i) = stand p (i + 1) (xs.drop (i + 1)) := by rw [hd, stand, if_neg h]
      simp at ih
      simp [ir58_d0, hlt, h, hw, hs, ih]
theorem r58 (xs : List Int) (b p : Int) (hl : xs.length ≤ 1000) : ownR env 58 [.agg [tl xs, ti b], ti p] = some (.ref 0 0 (stand p 0 xs).length, [.pure 1 (til (stand p 0 xs))]) := by
  rw [own_ir e58 _ rfl]
  have h := l58 xs p hl xs.length 0 [] (by omega) (by simp)
  simp at h
  simp [ir58, ir58_c, h, til_flat]
end Go.Proofs.Ytgmcjejelpeioaa.Ev
namespace Go.Proofs.Ytgmcjejelpeioaa.Ev
open Go
set_option linter.unusedVariables false
set_option linter.unusedSimpArgs false
attribute [local simp] til_getE til_length til_get til_drop til_take til_append til_nil til_cons til_replicate til_set
def setAll (t : Int) : List Int → List Int → List Int
  | [], l => l
  | k :: g, l => setAll t g (l.set k.toNat t)
theorem setAll_length (t : Int) : ∀ (g l : List Int), (setAll t g l).length = l.length
  | [], l => rfl
  | k :: g, l => by rw [setAll, setAll_length]; simp

theorem l44 (g : List Int) (t : Int) (n : Nat) (hn : n ≤ 1000) (hg : g.length ≤ 1000) (hk : ∀ k ∈ g, 0 ≤ k ∧ k < n) : ∀ (d i : Nat) (y : List Int), i + d = g.length → y.length = n →
    loopF env true [1, 6, 7, 15, 16, 17] ir44_b0 ([(1, .t (ti t)), (6, .ptr 0 0 0), (7, .ptr 1 0 0), (15, .t (tl g)), (16, .t (ti g.length)), (17, .t (ti i))], [.box 2 [.t .nil, .t (ti 0)], .box 2 [.ref 2 0 n, .t (ti t)], .pure 1 (til y)]) =
      some (.exit 0, [(1, .t (ti t)), (6, .ptr 0 0 0), (7, .ptr 1 0 0), (15, .t (tl g)), (16, .t (ti g.length)), (17, .t (ti g.length)), (18, .t (tb false))], [.box 2 [.t .nil, .t (ti 0)], .box 2 [.ref 2 0 n, .t (ti t)], .pure 1 (til (setAll t (g.drop i) y))])
  | 0, i, y, hi, hy => by
    rw [x44_0]
    have : i = g.length := by omega
    subst this
    simp [ir44_d0, setAll]
  | d + 1, i, y, hi, hy => by
    rw [x44_0]
    have hlt : i < g.length := by omega
    have hw : IntKind.i64.wrap ((i : Int) + 1) = (i : Int) + 1 := w64 (by omega)
    have hd : g.drop i = g[i] :: g.drop (i + 1) := List.drop_eq_getElem_cons hlt
    have hs : setAll t (g.drop i) y = setAll t (g.drop (i + 1)) (y.set (g[i]).toNat t) := by rw [hd, setAll]
    have hkk := hk g[i] (List.getElem_mem hlt)
    have hkn : (g[i]).toNat < y.length := by omega
    have ih := l44 g t n hn hg hk d (i + 1) (y.set (g[i]).toNat t) (by omega) (by simpa using hy)
    simp at ih
    simp [ir44_d0, hlt, hw, hs, hkk.1, hkk.2, hkn, ih]
theorem r44 (xs g : List Int) (p t : Int) (h : xs.length ≤ 1000) (hg : g.length ≤ 1000) (hk : ∀ k ∈ g, 0 ≤ k ∧ k < xs.length) : ownR env 44 [.agg [tl xs, ti p], ti t, tl g] = some (.agg [.ref 0 0 xs.length, .t (ti t)], [.pure 1 (til (setAll t g xs))]) := by
  rw [own_ir e44 _ rfl]
  have hl := l44 g t xs.length h hg hk g.length 0 xs (by omega) rfl
  simp at hl
  simp [ir44, ir44_c, clone_til, show xs.length ≤ 68719476736 by omega, hl, til_flat]
end Go.Proofs.Ytgmcjejelpeioaa.Ev
namespace Go.Proofs.Ytgmcjejelpeioaa.Ev
open Go
set_option linter.unusedVariables false
set_option linter.unusedSimpArgs false
attribute [local simp] til_getE til_length til_get til_drop til_take til_append til_nil til_cons til_replicate til_set
def codeW (b p : Int) (xs : List Int) : Int := xs.foldl (fun a x => IntKind.i64.wrap (IntKind.i64.wrap (a * b) + x)) p
theorem codeW_cons (b p x : Int) (xs : List Int) : codeW b p (x :: xs) = codeW b (IntKind.i64.wrap (IntKind.i64.wrap (p * b) + x)) xs := rfl

theorem l45 (g : List Int) (hg : g.length ≤ 1000) : ∀ (d i : Nat) (p : Int), i + d = g.length →
    loopF env true [3, 9, 10, 11] ir45_b0 ([(3, .t (ti p)), (9, .t (tl g)), (10, .t (ti g.length)), (11, .t (ti i))], []) =
      some (.exit 0, [(3, .t (ti (codeW 4 p (g.drop i)))), (9, .t (tl g)), (10, .t (ti g.length)), (11, .t (ti g.length)), (12, .t (tb false))], [])
  | 0, i, p, hi => by
    rw [x45_0]
    have : i = g.length := by omega
    subst this
    simp [ir45_d0, codeW]
  | d + 1, i, p, hi => by
    rw [x45_0]
    have hlt : i < g.length := by omega
    have hw : IntKind.i64.wrap ((i : Int) + 1) = (i : Int) + 1 := w64 (by omega)
    have hs : codeW 4 p (g.drop i) = codeW 4 (IntKind.i64.wrap (IntKind.i64.wrap (p * 4) + g[i])) (g.drop (i + 1)) := by rw [List.drop_eq_getElem_cons hlt, codeW_cons]
    have ih := l45 g hg d (i + 1) (IntKind.i64.wrap (IntKind.i64.wrap (p * 4) + g[i])) (by omega)
    simp at ih
    simp [ir45_d0, hlt, hw, hs, ih]
theorem r45 (xs : List Int) (p : Int) (h : xs.length ≤ 1000) : ownR env 45 [.agg [tl xs, ti p]] = some (.t (ti (codeW 4 p xs)), []) := by
  rw [own_ir e45 _ rfl]
  have hl := l45 xs h xs.length 0 p (by omega)
  simp at hl
  simp [ir45, ir45_c, hl]

theorem l31 (a b c : Int) (hc : 0 ≤ c ∧ c ≤ 2) (g : List Int) (hg : g.length ≤ 1000) : ∀ (d i : Nat) (p : Int), i + d = g.length →
    loopF env true [2, 5, 11, 12, 13] ir31_b0 ([(2, .ptr 0 0 0), (5, .t (ti p)), (11, .t (tl g)), (12, .t (ti g.length)), (13, .t (ti i))], [.box 3 [.t (ti a), .t (ti b), .t (ti c)]]) =
      some (.exit 0, [(2, .ptr 0 0 0), (5, .t (ti (codeW (c + 2) p (g.drop i)))), (11, .t (tl g)), (12, .t (ti g.length)), (13, .t (ti g.length)), (14, .t (tb false))], [.box 3 [.t (ti a), .t (ti b), .t (ti c)]])
  | 0, i, p, hi => by
    rw [x31_0]
    have : i = g.length := by omega
    subst this
    simp [ir31_d0, codeW]
  | d + 1, i, p, hi => by
    rw [x31_0]
    have hlt : i < g.length := by omega
    have hw : IntKind.i64.wrap ((i : Int) + 1) = (i : Int) + 1 := w64 (by omega)
    have hw2 : IntKind.i64.wrap (c + 2) = c + 2 := w64 (by omega)
    have hs : codeW (c + 2) p (g.drop i) = codeW (c + 2) (IntKind.i64.wrap (IntKind.i64.wrap (p * (c + 2)) + g[i])) (g.drop (i + 1)) := by rw [List.drop_eq_getElem_cons hlt, codeW_cons]
    have ih := l31 a b c hc g hg d (i + 1) (IntKind.i64.wrap (IntKind.i64.wrap (p * (c + 2)) + g[i])) (by omega)
    simp at ih
    simp [ir31_d0, hlt, hw, hw2, hs, ih]
theorem r31 (a b c : Int) (hc : 0 ≤ c ∧ c ≤ 2) (xs : List Int) (p : Int) (h : xs.length ≤ 1000) : ownR env 31 [.agg [ti a, ti b, ti c], .agg [tl xs, ti p]] = some (.t (ti (codeW (c + 2) p xs)), []) := by
  rw [own_ir e31 _ rfl]
  have hl := l31 a b c hc xs h xs.length 0 p (by omega)
  simp at hl
  simp [ir31, ir31_c, hl]

theorem l40 (n : Nat) (hn : n ≤ 20) : ∀ (d i : Nat), i + d = n →
    loopF env true [3, 5, 6] ir40_b0 ([(3, .t (ti ((4 ^ (i + 1) : Nat) : Int))), (5, .t (ti n)), (6, .t (ti i))], []) =
      some (.exit 0, [(3, .t (ti ((4 ^ (n + 1) : Nat) : Int))), (5, .t (ti n)), (6, .t (ti n)), (7, .t (tb false))], [])
  | 0, i, hi => by
    rw [x40_0]
    have : i = n := by omega
    subst this
    simp [ir40_d0]
  | d + 1, i, hi => by
    rw [x40_0]
    have hlt : i < n := by omega
    have hw : IntKind.i64.wrap ((i : Int) + 1) = (i : Int) + 1 := w64 (by omega)
    have hp : (4 : Nat) ^ (i + 1) ≤ 4 ^ 21 := Nat.pow_le_pow_right (by decide) (by omega)
    have hw2 : IntKind.i64.wrap ((4 : Int) ^ (i + 1) * 4) = (4 : Int) ^ (i + 1 + 1) := by
      have e : ((4 ^ (i + 1) : Nat) : Int) = (4 : Int) ^ (i + 1) := by simp
      rw [Int.pow_succ (4 : Int) (i + 1), ← e]
      refine w64 ?_
      generalize (4 : Nat) ^ (i + 1) = q at hp ⊢
      omega
    have ih := l40 n hn d (i + 1) (by omega)
    simp at ih
    simp [ir40_d0, hlt, hw, hw2, ih]
theorem r40 (a b c : Int) (h : 0 ≤ a ∧ a ≤ 10) : ownR env 40 [.agg [ti a, ti b, ti c]] = some (.t (ti ((4 ^ ((2 * a).toNat + 1) : Nat) : Int)), []) := by
  rw [own_ir e40 _ rfl]
  obtain ⟨k, rfl⟩ : ∃ k : Nat, a = k := ⟨a.toNat, by omega⟩
  have hl := l40 (2 * k) (by omega) (2 * k) 0 (by omega)
  have e : (2 * (k : Int)).toNat = 2 * k := by omega
  simp at hl
  simp [ir40, ir40_c, r57 k b c h, hl, e]

theorem l24 (a b c n : Int) (ha : 0 ≤ a ∧ a ≤ 10) (m : Nat) (hm : (m : Int) = 2 * a) : ∀ (d i : Nat), i + d = m → 0 < i →
    loopF env true [1, 2, 4, 5] ir24_b0 ([(1, .t (ti n)), (2, .ptr 0 0 0), (4, .ptr 1 0 0), (5, .ptr 2 0 0)], [.box 3 [.t (ti a), .t (ti b), .t (ti c)], .box 2 [.t .nil, .t (ti 0)], .box 2 [.ref 3 0 i, .t (ti n)], .pure 1 (til (List.replicate i n))]) =
      some (.exit 0, [(1, .t (ti n)), (2, .ptr 0 0 0), (4, .ptr 1 0 0), (5, .ptr 2 0 0), (8, .ptr 2 0 0), (9, .ref 3 0 m), (10, .t (ti m)), (11, .ptr 0 0 0), (12, .t (ti a)), (13, .t (ti (2 * a))), (14, .t (tb false))], [.box 3 [.t (ti a), .t (ti b), .t (ti c)], .box 2 [.t .nil, .t (ti 0)], .box 2 [.ref 3 0 m, .t (ti n)], .pure 1 (til (List.replicate m n))])
  | 0, i, hi, h0 => by
    rw [x24_0]
    have hw : IntKind.i64.wrap (2 * a) = 2 * a := w64 (by omega)
    have : i = m := by omega
    subst this
    simp [ir24_d0, hw, hm]
  | d + 1, i, hi, h0 => by
    rw [x24_0]
    have hw : IntKind.i64.wrap (2 * a) = 2 * a := w64 (by omega)
    have hlt : (i : Int) < 2 * a := by omega
    have ih := l24 a b c n ha m hm d (i + 1) (by omega) (by omega)
    have hr : List.replicate (i + 1) n = List.replicate i n ++ [n] := List.replicate_succ'
    rw [hr] at ih
    simp at ih
    simp [ir24_d0, hw, hlt, show i + 1 ≤ 68719476736 by omega, ih]
theorem r24 (a b c n : Int) (ha : 1 ≤ a ∧ a ≤ 10) : ownR env 24 [.agg [ti a, ti b, ti c], ti n] = some (.agg [.ref 0 0 (2 * a).toNat, .t (ti n)], [.pure 1 (til (List.replicate (2 * a).toNat n))]) := by
  rw [own_ir e24 _ rfl]
  have hw : IntKind.i64.wrap (2 * a) = 2 * a := w64 (by omega)
  have hl := l24 a b c n (by omega) (2 * a).toNat (by omega) ((2 * a).toNat - 1) 1 (by omega) (by omega)
  simp at hl
  simp [ir24, ir24_c]
  rw [x24_0]
  simp [ir24_d0, hw, show 0 < 2 * a by omega, hl, til_flat]
def digs : Nat → Nat → List Int
  | 0, _ => []
  | m + 1, r => digs m (r / 4) ++ [((r % 4 : Nat) : Int)]
theorem digs_length (m : Nat) : ∀ r, (digs m r).length = m := by
  induction m with
  | zero => intro r; rfl
  | succ m ih => intro r; simp [digs, ih]
theorem l42 (m : Nat) (hm : m ≤ 1000) : ∀ (d : Nat) (code : Nat) (tail : List Int), d + tail.length = m → code ≤ 1000000 →
    loopF env true [1, 4, 5, 6] ir42_b0 ([(1, .t (ti code)), (4, .ptr 0 0 0), (5, .ptr 1 0 0), (6, .t (ti ((d : Int) - 1)))], [.box 2 [.t .nil, .t (ti 0)], .box 2 [.ref 2 0 m, .t (ti 0)], .pure 1 (til (List.replicate d 0 ++ tail))]) =
      some (.exit 0, [(1, .t (ti ((code / 4 ^ d : Nat) : Int))), (4, .ptr 0 0 0), (5, .ptr 1 0 0), (6, .t (ti (-1))), (14, .t (ti (-1))), (15, .t (tb false))], [.box 2 [.t .nil, .t (ti 0)], .box 2 [.ref 2 0 m, .t (ti 0)], .pure 1 (til (digs d code ++ tail))])
  | 0, code, tail, hi, h0 => by
    rw [x42_0]
    simp [ir42_d0, digs]
  | d + 1, code, tail, hi, h0 => by
    rw [x42_0]
    have h1 : ((code : Nat) : Int).tmod 4 = ((code % 4 : Nat) : Int) := by rw [Int.tmod_eq_emod_of_nonneg (by omega)]; omega
    have h2 : IntKind.i64.wrap (((code : Nat) : Int).tdiv 4) = ((code / 4 : Nat) : Int) := by rw [Int.tdiv_eq_ediv_of_nonneg (by omega), w64 (by omega)]; omega
    have h2' : IntKind.i64.wrap (((code : Nat) : Int) / 4) = ((code / 4 : Nat) : Int) := by rw [w64 (by omega)]; omega
    have h1' : ((code : Nat) : Int) % 4 = ((code % 4 : Nat) : Int) := by omega
    have hw : IntKind.i64.wrap ((d : Int) - 1) = (d : Int) - 1 := w64 (by omega)
    have ih := l42 m hm d (code / 4) (((code % 4 : Nat) : Int) :: tail) (by simp; omega) (by omega)
    have hr : List.replicate (d + 1) (0 : Int) ++ tail = List.replicate d 0 ++ 0 :: tail := by rw [List.replicate_succ']; simp
    have hs : (List.replicate d (0 : Int) ++ 0 :: tail).set d ((code % 4 : Nat) : Int) = List.replicate d 0 ++ ((code % 4 : Nat) : Int) :: tail := by rw [List.set_append_right _ _ (by simp)]; simp
    have hdg : digs (d + 1) code ++ tail = digs d (code / 4) ++ ((code % 4 : Nat) : Int) :: tail := by simp [digs]
    have hq : code / 4 / 4 ^ d = code / 4 ^ (d + 1) := by rw [Nat.div_div_eq_div_mul, Nat.pow_succ, Nat.mul_comm]
    rw [hq] at ih
    rw [hdg, hr]
    generalize hA : List.replicate d (0 : Int) ++ 0 :: tail = A at hs ⊢
    have hlen : A.length = m := by rw [← hA]; simp; omega
    generalize code / 4 ^ (d + 1) = z at ih ⊢
    generalize code / 4 = q at *
    generalize code % 4 = r at *
    simp [-til_append, -til_cons, ir42_d0, h1, h2, h1', h2', hw, show d < m by omega, hlen, hs, ih]
theorem r42 (a b c : Int) (code : Nat) (ha : 0 ≤ a ∧ a ≤ 10) (hc : code ≤ 1000000) : ownR env 42 [.agg [ti a, ti b, ti c], ti code] = some (.agg [.ref 0 0 (2 * a).toNat, .t (ti ((code / 4 ^ (2 * a).toNat : Nat) : Int))], [.pure 1 (til (digs (2 * a).toNat code))]) := by
  rw [own_ir e42 _ rfl]
  have hl := l42 (2 * a).toNat (by omega) (2 * a).toNat code [] (by simp) hc
  have e : (((2 * a).toNat : Nat) : Int) = 2 * a := by omega
  simp [e] at hl
  simp [ir42, ir42_c, r57 a b c ha, w64 (n := 2 * a - 1) (by omega), show 2 * a ≤ 68719476736 by omega, show 0 ≤ 2 * a by omega, hl, til_flat]
end Go.Proofs.Ytgmcjejelpeioaa.Ev
namespace Go.Proofs.Ytgmcjejelpeioaa.Ev
open Go
set_option linter.unusedVariables false
set_option linter.unusedSimpArgs false
attribute [local simp] til_getE til_length til_get til_drop til_take til_append til_nil til_cons til_replicate til_set
def indexI (x : Int) : Nat → List Int → Int
  | _, [] => -1
  | i, y :: ys => if x = y then i else indexI x (i + 1) ys
theorem indexI_nonneg (x : Int) : ∀ (ys : List Int) (i : Nat), 0 ≤ indexI x i ys ↔ x ∈ ys
  | [], i => by simp [indexI]
  | y :: ys, i => by
    simp only [indexI]
    split
    · rename_i h; simp [h]
    · rename_i h; rw [indexI_nonneg x ys (i + 1)]; simp [h]

theorem l77 (g : List Int) (x : Int) (hg : g.length ≤ 1000000) : ∀ (d i : Nat) (R : Option (V × Heap)), i + d = g.length →
    endO [.tmp 4] (andN (outB 0 (loopF env true [0, 1, 7, 8] ir77_b0 ([(0, .t (tl g)), (1, .t (ti x)), (7, .t (ti g.length)), (8, .t (ti i))], []))) (execD env (.seq (.reg false [] [⟨some 4, none, .mv (.k (ti (-1)))⟩]) .ret))) = some (.t (ti (indexI x i (g.drop i))), [])
  | 0, i, R, hi => by
    rw [x77_0]
    have : i = g.length := by omega
    subst this
    simp [ir77_d0, indexI]
  | d + 1, i, R, hi => by
    rw [x77_0]
    have hlt : i < g.length := by omega
    have hw : IntKind.i64.wrap ((i : Int) + 1) = (i : Int) + 1 := w64 (by omega)
    have ih := l77 g x hg d (i + 1) R (by omega)
    by_cases h : x = g[i]
    · have hs : indexI x i (g.drop i) = (i : Int) := by rw [List.drop_eq_getElem_cons hlt, indexI, if_pos h]
      simp [ir77_d0, hlt, hw, ← h, hs]
    · have hs : indexI x i (g.drop i) = indexI x (i + 1) (g.drop (i + 1)) := by rw [List.drop_eq_getElem_cons hlt, indexI, if_neg h]
      simp at ih
      simp [ir77_d0, hlt, hw, hs, h, ih]
theorem r77 (g : List Int) (x : Int) (hg : g.length ≤ 1000000) : ownR env 77 [tl g, ti x] = some (.t (ti (indexI x 0 g)), []) := by
  rw [own_ir e77 _ rfl]
  have hl := l77 g x hg g.length 0 none (by omega)
  simp at hl
  simp [ir77, ir77_c, hl]
theorem r72 (g : List Int) (x : Int) (hg : g.length ≤ 1000000) : ownR env 72 [tl g, ti x] = some (.t (tb (decide (x ∈ g))), []) := by
  rw [own_ir e72 _ rfl]
  simp [ir72, ir72_c, r77 g x hg, indexI_nonneg]
@[simp] theorem r74 (x : Int) : ownR env 74 [ti x] = some (.t (tb (decide (x.tmod 2 = 0))), []) := by
  rw [own_ir e74 _ rfl]
  simp [ir74, ir74_c]
def evenI : Nat → List Int → Int
  | _, [] => -1
  | i, y :: ys => if y.tmod 2 = 0 then i else evenI (i + 1) ys
theorem evenI_nonneg : ∀ (ys : List Int) (i : Nat), 0 ≤ evenI i ys ↔ ∃ y ∈ ys, y.tmod 2 = 0
  | [], i => by simp [evenI]
  | y :: ys, i => by
    simp only [evenI]
    split
    · rename_i h; simp [h]
    · rename_i h; rw [evenI_nonneg ys (i + 1)]; simp [h]
theorem l78 (g : List Int) (hg : g.length ≤ 1000000) : ∀ (d i : Nat), i + d = g.length →
    endO [.tmp 4] (andN (outB 0 (loopF env true [0, 1, 7, 8] ir78_b0 ([(0, .t (tl g)), (1, .t (.clo 74 [] [])), (7, .t (ti g.length)), (8, .t (ti i))], []))) (execD env (.seq (.reg false [] [⟨some 4, none, .mv (.k (ti (-1)))⟩]) .ret))) = some (.t (ti (evenI i (g.drop i))), [])
  | 0, i, hi => by
    rw [x78_0]
    have : i = g.length := by omega
    subst this
    simp [ir78_d0, evenI]
  | d + 1, i, hi => by
    rw [x78_0]
    have hlt : i < g.length := by omega
    have hw : IntKind.i64.wrap ((i : Int) + 1) = (i : Int) + 1 := w64 (by omega)
    have ih := l78 g hg d (i + 1) (by omega)
    by_cases h : (g[i]).tmod 2 = 0
    · have hs : evenI i (g.drop i) = (i : Int) := by rw [List.drop_eq_getElem_cons hlt, evenI, if_pos h]
      simp [ir78_d0, hlt, hw, hs, h]
    · have hs : evenI i (g.drop i) = evenI (i + 1) (g.drop (i + 1)) := by rw [List.drop_eq_getElem_cons hlt, evenI, if_neg h]
      simp at ih
      simp [ir78_d0, hlt, hw, hs, h, ih]
theorem r78 (g : List Int) (hg : g.length ≤ 1000000) : ownR env 78 [tl g, .clo 74 [] []] = some (.t (ti (evenI 0 g)), []) := by
  rw [own_ir e78 _ rfl]
  have hl := l78 g hg g.length 0 (by omega)
  simp at hl
  simp [ir78, ir78_c, hl]
theorem r73 (g : List Int) (hg : g.length ≤ 1000000) : ownR env 73 [tl g, .clo 74 [] []] = some (.t (tb (decide (∃ y ∈ g, y.tmod 2 = 0))), []) := by
  rw [own_ir e73 _ rfl]
  simp [ir73, ir73_c, r78 g hg, evenI_nonneg]
def calmI (g l : List Int) : Bool := l.all fun k => decide (k.tmod 2 = 0) || decide (IntKind.i64.wrap (k - 1) ∈ g) || !decide (∃ y ∈ g, y.tmod 2 = 0)
theorem l61 (g : List Int) (hg : g.length ≤ 1000000) : ∀ (d i : Nat), i + d = g.length →
    endO [.tmp 2] (andN (outB 0 (loopF env true [0, 5, 6, 7] ir61_b0 ([(0, .t (tl g)), (5, .t (tl g)), (6, .t (ti g.length)), (7, .t (ti i))], []))) (execD env (.seq (.reg false [] [⟨some 2, none, .mv (.k (tb true))⟩]) .ret))) = some (.t (tb (calmI g (g.drop i))), [])
  | 0, i, hi => by
    rw [x61_0]
    have : i = g.length := by omega
    subst this
    simp [ir61_d0, calmI]
  | d + 1, i, hi => by
    rw [x61_0]
    have hlt : i < g.length := by omega
    have hw : IntKind.i64.wrap ((i : Int) + 1) = (i : Int) + 1 := w64 (by omega)
    have ih := l61 g hg d (i + 1) (by omega)
    have hs : calmI g (g.drop i) = ((decide ((g[i]).tmod 2 = 0) || decide (IntKind.i64.wrap (g[i] - 1) ∈ g) || !decide (∃ y ∈ g, y.tmod 2 = 0)) && calmI g (g.drop (i + 1))) := by rw [List.drop_eq_getElem_cons hlt]; rfl
    simp at ih
    rw [hs]
    have h43 := r72 g (IntKind.i64.wrap (g[i] - 1)) hg
    have h44 := r73 g hg
    generalize decide (∃ y ∈ g, y.tmod 2 = 0) = b3 at *
    generalize decide (IntKind.i64.wrap (g[i] - 1) ∈ g) = b2 at *
    by_cases h1 : (g[i]).tmod 2 = 0
    · simp [ir61_d0, hlt, hw, h1, ih]
    · cases b2 with
      | true => simp [ir61_d0, hlt, hw, h1, h43, ih]
      | false =>
        cases b3 with
        | true => simp [ir61_d0, hlt, hw, h1, h43, h44, ih]
        | false => simp [ir61_d0, hlt, hw, h1, h43, h44, ih]
theorem r61 (g : List Int) (hg : g.length ≤ 1000000) : ownR env 61 [tl g] = some (.t (tb (calmI g g)), []) := by
  rw [own_ir e61 _ rfl]
  have hl := l61 g hg g.length 0 (by omega)
  simp at hl
  simp [ir61, ir61_c, hl]
end Go.Proofs.Ytgmcjejelpeioaa.Ev
namespace Go.Proofs.Ytgmcjejelpeioaa.Ev
open Go
set_option linter.unusedVariables false
set_option linter.unusedSimpArgs false
attribute [local simp] til_getE til_length til_get til_drop til_take til_append til_nil til_cons til_replicate til_set

theorem l65 (g : List Int) (a b : Int) (hg : g.length ≤ 1000000) : ∀ (d i : Nat), i + d = g.length → 
    endO [.tmp 6] (andN (outB 0 (loopF env true [0, 1, 2, 9, 10, 11] ir65_b0 ([(0, .t (tl g)), (1, .t (ti a)), (2, .t (ti b)), (9, .t (tl g)), (10, .t (ti g.length)), (11, .t (ti i))], []))) (execD env (.seq (.reg false [] [⟨some 6, none, .mv (.k (tb true))⟩]) .ret))) =
      some (.t (tb ((g.drop i).all (fun x => inB x a b) && (List.range' i d).all fun j => decide (j = 0) || decide (g[j - 1]?.getD 0 < g[j]?.getD 0))), [])
  | 0, i, hi => by
    rw [x65_0]
    have : i = g.length := by omega
    subst this
    simp [ir65_d0]
  | d + 1, i, hi => by
    rw [x65_0]
    have hlt : i < g.length := by omega
    have hw : IntKind.i64.wrap ((i : Int) + 1) = (i : Int) + 1 := w64 (by omega)
    have hw2 : IntKind.i64.wrap ((i : Int) - 1) = (i : Int) - 1 := w64 (by omega)
    have ih := l65 g a b hg d (i + 1) (by omega)
    have hs : (g.drop i).all (fun x => inB x a b) = (inB g[i] a b && (g.drop (i + 1)).all (fun x => inB x a b)) := by rw [List.drop_eq_getElem_cons hlt]; rfl
    have hr : List.range' i (d + 1) = i :: List.range' (i + 1) d := rfl
    rw [hs, hr, List.all_cons]
    generalize (g.drop (i + 1)).all (fun x => inB x a b) = A at *
    generalize ((List.range' (i + 1) d).all fun j => decide (j = 0) || decide (g[j - 1]?.getD 0 < g[j]?.getD 0)) = R at *
    simp at ih
    cases h1 : inB g[i] a b with
    | false => simp [ir65_d0, hlt, hw, h1]
    | true =>
      rcases Nat.eq_zero_or_pos i with h0 | h0
      · subst h0
        have hw0 : IntKind.i64.wrap 1 = 1 := w64 (by omega)
        simp at ih
        simp [ir65_d0, hlt, h1, ih, hw0]
      · have e1001 : ((i : Int) - 1).toNat = i - 1 := by omega
        have e1002 : i - 1 < g.length := by omega
        by_cases h2 : g[i] ≤ g[i - 1]
        · have h3 : ¬ (g[i - 1] < g[i]) := by omega
          simp [ir65_d0, hlt, hw, hw2, h1, h0, e1001, e1002, h2, h3, ih, show (1 : Int) ≤ i by omega, show i ≠ 0 by omega]
        · have h3 : g[i - 1] < g[i] := by omega
          simp [ir65_d0, hlt, hw, hw2, h1, h0, e1001, e1002, h2, h3, ih, show (1 : Int) ≤ i by omega, show i ≠ 0 by omega]
def risesB (a b : Int) (g : List Int) : Bool := g.all (fun x => inB x a b) && (List.range' 0 g.length).all fun j => decide (j = 0) || decide (g[j - 1]?.getD 0 < g[j]?.getD 0)
theorem r65 (g : List Int) (a b : Int) (hg : g.length ≤ 1000000) : ownR env 65 [tl g, ti a, ti b] = some (.t (tb (risesB a b g)), []) := by
  rw [own_ir e65 _ rfl]
  have hl := l65 g a b hg g.length 0 (by omega)
  simp at hl
  simp [ir65, ir65_c, hl, risesB]
end Go.Proofs.Ytgmcjejelpeioaa.Ev
namespace Go.Proofs.Ytgmcjejelpeioaa.Ev
open Go
set_option linter.unusedVariables false
set_option linter.unusedSimpArgs false
attribute [local simp] til_getE til_length til_get til_drop til_take til_append til_nil til_cons til_replicate til_set

theorem or64 (x y : Nat) (hx : x < 2 ^ 62) (hy : y < 2 ^ 62) : orI .i64 (x : Int) (y : Int) = ((x ||| y : Nat) : Int) := by
  unfold orI
  have e : ∀ z : Nat, z < 2 ^ 62 → (BitVec.ofInt 64 (z : Int)).toNat = z := fun z hz => by
    rw [BitVec.toNat_ofInt]; omega
  have h : (BitVec.ofInt IntKind.i64.bits (x : Int) ||| BitVec.ofInt IntKind.i64.bits (y : Int)).toNat = x ||| y := by
    show (BitVec.ofInt 64 (x : Int) ||| BitVec.ofInt 64 (y : Int)).toNat = _
    rw [BitVec.toNat_or, e x hx, e y hy]
  rw [h]
  have := Nat.or_lt_two_pow hx hy
  exact w64 (by omega)
theorem shl64 (i : Nat) (hi : i ≤ 60) : shlI .i64 1 (i : Int) = ((2 ^ i : Nat) : Int) := by
  unfold shlI
  have e : min ((i : Int)).toNat IntKind.i64.bits = i := by show min ((i : Int)).toNat 64 = i; omega
  rw [e]
  have : (2 : Nat) ^ i ≤ 2 ^ 60 := Nat.pow_le_pow_right (by decide) hi
  have e1002 : (1 : Int) * 2 ^ i = ((2 ^ i : Nat) : Int) := by simp
  rw [e1002]
  generalize (2 : Nat) ^ i = M at *
  exact w64 (by omega)
theorem shr64 (N i : Nat) (hi : i ≤ 60) : shrI .i64 (N : Int) (i : Int) = ((N / 2 ^ i : Nat) : Int) := by
  unfold shrI
  have e : min ((i : Int)).toNat IntKind.i64.bits = i := by show min ((i : Int)).toNat 64 = i; omega
  rw [e, Int.fdiv_eq_ediv_of_nonneg _ (by exact Int.le_of_lt (Int.pow_pos (by decide)))]
  simp
def bitsI : List Int → Nat → Nat
  | [], N => N
  | k :: g, N => bitsI g (N ||| 2 ^ k.toNat)
theorem l67 (g : List Int) (hg : g.length ≤ 1000000) (hk : ∀ k ∈ g, 0 ≤ k ∧ k < 40) : ∀ (d i N : Nat), i + d = g.length → N < 2 ^ 61 →
    loopF env true [3, 6, 7, 8] ir67_b0 ([(3, .t (ti N)), (6, .t (tl g)), (7, .t (ti g.length)), (8, .t (ti i))], []) =
      some (.exit 0, [(3, .t (ti (bitsI (g.drop i) N : Nat))), (6, .t (tl g)), (7, .t (ti g.length)), (8, .t (ti g.length)), (9, .t (tb false))], [])
  | 0, i, N, hi, hN => by
    rw [x67_0]
    have : i = g.length := by omega
    subst this
    simp [ir67_d0, bitsI]
  | d + 1, i, N, hi, hN => by
    rw [x67_0]
    have hlt : i < g.length := by omega
    have hw : IntKind.i64.wrap ((i : Int) + 1) = (i : Int) + 1 := w64 (by omega)
    have hs : bitsI (g.drop i) N = bitsI (g.drop (i + 1)) (N ||| 2 ^ (g[i]).toNat) := by rw [List.drop_eq_getElem_cons hlt, bitsI]
    have hkk := hk g[i] (List.getElem_mem hlt)
    obtain ⟨k, hke⟩ : ∃ k : Nat, g[i] = k := ⟨(g[i]).toNat, by omega⟩
    have hp : (2 : Nat) ^ k < 2 ^ 61 := Nat.pow_lt_pow_right (by decide) (by omega)
    have hor := Nat.or_lt_two_pow hN hp
    have ih := l67 g hg hk d (i + 1) (N ||| 2 ^ k) (by omega) hor
    have h1 := shl64 k (by omega)
    have h2 := or64 N (2 ^ k) (by omega) (by omega)
    simp only [hke, Int.toNat_natCast] at hs
    rw [hs]
    generalize bitsI (g.drop (i + 1)) (N ||| 2 ^ k) = Z at ih ⊢
    generalize hM : (2 : Nat) ^ k = M at *
    generalize N ||| M = NM at *
    simp at ih
    simp [ir67_d0, hlt, hw, hke, h1, h2, ih, show ¬ ((k : Int) < 0) by omega]
theorem r67 (g : List Int) (hg : g.length ≤ 1000000) (hk : ∀ k ∈ g, 0 ≤ k ∧ k < 40) : ownR env 67 [tl g] = some (.t (ti (bitsI g 0 : Nat)), []) := by
  rw [own_ir e67 _ rfl]
  have hl := l67 g hg hk g.length 0 0 (by omega) (by decide)
  simp at hl
  simp [ir67, ir67_c, hl]
end Go.Proofs.Ytgmcjejelpeioaa.Ev
namespace Go.Proofs.Ytgmcjejelpeioaa.Ev
open Go
set_option linter.unusedVariables false
set_option linter.unusedSimpArgs false
attribute [local simp] til_getE til_length til_get til_drop til_take til_append til_nil til_cons til_replicate til_set

theorem l39i (a N : Nat) (ha : a ≤ 20) (i : Int) : ∀ (d j : Nat), j + d = a →
    if (List.range' j d).any (fun j => decide (N / 2 ^ (2 * j) % 2 = 1)) then ∃ fr, loopF env true [0, 1, 5, 6] ir66_b0 ([(0, .t (ti a)), (1, .t (ti N)), (5, .t (ti i)), (6, .t (ti j))], []) = some (.ret, fr, []) ∧ fr.get 4 = .t (tb false)
    else loopF env true [0, 1, 5, 6] ir66_b0 ([(0, .t (ti a)), (1, .t (ti N)), (5, .t (ti i)), (6, .t (ti j))], []) = some (.exit 2, [(0, .t (ti a)), (1, .t (ti N)), (5, .t (ti i)), (6, .t (ti a)), (18, .t (ti a)), (19, .t (ti a)), (20, .t (tb false))], [])
  | 0, j, hi => by
    rw [x66_0]
    have : j = a := by omega
    subst this
    simp [ir66_d0]
  | d + 1, j, hi => by
    rw [x66_0]
    have hlt : j < a := by omega
    have hw : IntKind.i64.wrap ((j : Int) + 1) = (j : Int) + 1 := w64 (by omega)
    have hw2 : IntKind.i64.wrap (2 * (j : Int)) = ((2 * j : Nat) : Int) := by rw [w64 (by omega)]; omega
    have hsh := shr64 N (2 * j) (by omega)
    have ih := l39i a N ha i d (j + 1) (by omega)
    have hr : List.range' j (d + 1) = j :: List.range' (j + 1) d := rfl
    rw [hr, List.any_cons]
    generalize ((List.range' (j + 1) d).any fun j => decide (N / 2 ^ (2 * j) % 2 = 1)) = R at *
    generalize N / 2 ^ (2 * j) = M at *
    generalize hJ : 2 * j = J at *
    by_cases h : M % 2 = 1
    · have h1 : (M : Int).tmod 2 = 1 := by rw [Int.tmod_eq_emod_of_nonneg (by omega)]; omega
      have h2 : (M : Int) % 2 = 1 := by omega
      simp [ir66_d0, hlt, hw2, hsh, h, h1, h2, show ¬ ((J : Int) < 0) by omega]
    · have h1 : ¬ (M : Int).tmod 2 = 1 := by rw [Int.tmod_eq_emod_of_nonneg (by omega)]; omega
      have h2 : ¬ (M : Int) % 2 = 1 := by omega
      have h3 : M % 2 = 0 := by omega
      have h4 : (M : Int) % 2 = 0 := by omega
      simp at ih
      simp [ir66_d0, hlt, hw, hw2, hsh, h, h1, h2, h3, h4, show ¬ ((J : Int) < 0) by omega, ih]
def cuB (a N : Nat) : Bool := !((List.range' 0 a).any (fun i => decide (N / 2 ^ (2 * i) % 4 = 2)) && (List.range' 0 a).any (fun j => decide (N / 2 ^ (2 * j) % 2 = 1)))
theorem l66 (a N : Nat) (ha : a ≤ 20) : ∀ (d i : Nat), i + d = a →
    endO [.tmp 4] (andN (outB 0 (loopF env true [0, 1, 5] ir66_b1 ([(0, .t (ti a)), (1, .t (ti N)), (5, .t (ti i))], []))) (execD env (.seq (.reg false [] [⟨some 4, none, .mv (.k (tb true))⟩]) .ret))) =
      some (.t (tb (!((List.range' i d).any (fun i => decide (N / 2 ^ (2 * i) % 4 = 2)) && (List.range' 0 a).any (fun j => decide (N / 2 ^ (2 * j) % 2 = 1))))), [])
  | 0, i, hi => by
    rw [x66_1]
    have : i = a := by omega
    subst this
    simp [ir66_d1]
  | d + 1, i, hi => by
    rw [x66_1]
    have hlt : i < a := by omega
    have hw : IntKind.i64.wrap ((i : Int) + 1) = (i : Int) + 1 := w64 (by omega)
    have hw2 : IntKind.i64.wrap (2 * (i : Int)) = ((2 * i : Nat) : Int) := by rw [w64 (by omega)]; omega
    have hsh := shr64 N (2 * i) (by omega)
    have hin := l39i a N ha i a 0 (by omega)
    have ih := l66 a N ha d (i + 1) (by omega)
    have hr : List.range' i (d + 1) = i :: List.range' (i + 1) d := rfl
    rw [hr, List.any_cons]
    generalize ((List.range' 0 a).any fun j => decide (N / 2 ^ (2 * j) % 2 = 1)) = B at *
    generalize ((List.range' (i + 1) d).any fun i => decide (N / 2 ^ (2 * i) % 4 = 2)) = R at *
    generalize N / 2 ^ (2 * i) = M at *
    generalize hJ : 2 * i = J at *
    simp at ih hin
    by_cases h : M % 4 = 2
    · have h1 : (M : Int).tmod 4 = 2 := by rw [Int.tmod_eq_emod_of_nonneg (by omega)]; omega
      have h2 : (M : Int) % 4 = 2 := by omega
      cases B with
      | true =>
        simp at hin
        obtain ⟨fr, k1001, k1002⟩ := hin
        simp [ir66_d1, hlt, hw, hw2, hsh, h, h1, h2, show ¬ ((J : Int) < 0) by omega, k1001, k1002]
      | false =>
        simp at hin
        simp [ir66_d1, hlt, hw, hw2, hsh, h, h1, h2, show ¬ ((J : Int) < 0) by omega, hin, ih]
    · have h1 : ¬ (M : Int).tmod 4 = 2 := by rw [Int.tmod_eq_emod_of_nonneg (by omega)]; omega
      have h2 : ¬ (M : Int) % 4 = 2 := by omega
      simp [ir66_d1, hlt, hw, hw2, hsh, h, h1, h2, show ¬ ((J : Int) < 0) by omega, ih]
theorem r66 (a N : Nat) (ha : a ≤ 20) : ownR env 66 [ti a, ti N] = some (.t (tb (cuB a N)), []) := by
  rw [own_ir e66 _ rfl]
  have hl := l66 a N ha a 0 (by omega)
  simp at hl
  simp [ir66, ir66_c, hl, cuB]
end Go.Proofs.Ytgmcjejelpeioaa.Ev
namespace Go.Proofs.Ytgmcjejelpeioaa.Ev
open Go
set_option linter.unusedVariables false
set_option linter.unusedSimpArgs false
attribute [local simp] til_getE til_length til_get til_drop til_take til_append til_nil til_cons til_replicate til_set
def bitsAt (p : Int) : Nat → List Int → Nat → Nat
  | _, [], N => N
  | i, x :: xs, N => if x = p then bitsAt p (i + 1) xs (N ||| 2 ^ i) else bitsAt p (i + 1) xs N
theorem l41i (a b c : Int) (q p : Int) (g : List Int) (hg : g.length ≤ 40) : ∀ (d i N : Nat), i + d = g.length → N < 2 ^ 61 →
    loopF env true [2, 3, 5, 6, 17, 18, 19] ir68_b0 ([(2, .ptr 0 0 0), (3, .ptr 1 0 0), (5, .t (ti p)), (6, .t (ti N)), (17, .t (tl g)), (18, .t (ti g.length)), (19, .t (ti i))], [.box 3 [.t (ti a), .t (ti b), .t (ti c)], .box 2 [.t (tl g), .t (ti q)]]) =
      some (.exit 2, [(2, .ptr 0 0 0), (3, .ptr 1 0 0), (5, .t (ti p)), (6, .t (ti (bitsAt p i (g.drop i) N : Nat))), (17, .t (tl g)), (18, .t (ti g.length)), (19, .t (ti g.length)), (20, .t (tb false))], [.box 3 [.t (ti a), .t (ti b), .t (ti c)], .box 2 [.t (tl g), .t (ti q)]])
  | 0, i, N, hi, hN => by
    rw [x68_0]
    have : i = g.length := by omega
    subst this
    simp [ir68_d0, bitsAt]
  | d + 1, i, N, hi, hN => by
    rw [x68_0]
    have hlt : i < g.length := by omega
    have hw : IntKind.i64.wrap ((i : Int) + 1) = (i : Int) + 1 := w64 (by omega)
    have hp : (2 : Nat) ^ i < 2 ^ 61 := Nat.pow_lt_pow_right (by decide) (by omega)
    have hor := Nat.or_lt_two_pow hN hp
    by_cases h : g[i] = p
    · have hs : bitsAt p i (g.drop i) N = bitsAt p (i + 1) (g.drop (i + 1)) (N ||| 2 ^ i) := by rw [List.drop_eq_getElem_cons hlt, bitsAt, if_pos h]
      have ih := l41i a b c q p g hg d (i + 1) (N ||| 2 ^ i) (by omega) hor
      have h1 := shl64 i (by omega)
      have h2 := or64 N (2 ^ i) (by omega) (by omega)
      rw [hs]
      generalize bitsAt p (i + 1) (g.drop (i + 1)) (N ||| 2 ^ i) = Z at ih ⊢
      generalize hM : (2 : Nat) ^ i = M at *
      generalize N ||| M = NM at *
      simp at ih
      simp [ir68_d0, hlt, hw, h, h1, h2, ih, show ¬ ((i : Int) < 0) by omega]
    · have hs : bitsAt p i (g.drop i) N = bitsAt p (i + 1) (g.drop (i + 1)) N := by rw [List.drop_eq_getElem_cons hlt, bitsAt, if_neg h]
      have ih := l41i a b c q p g hg d (i + 1) N (by omega) hN
      rw [hs]
      generalize bitsAt p (i + 1) (g.drop (i + 1)) N = Z at ih ⊢
      simp at ih
      simp [ir68_d0, hlt, hw, h, ih]
theorem l68 (a : Nat) (ha : a ≤ 20) (b c : Int) (hc : 0 ≤ c ∧ c ≤ 2) (q : Int) (g : List Int) (hg : g.length ≤ 40) : ∀ (d i : Nat), ((i + d : Nat) : Int) = c + 2 →
    endO [.tmp 4] (andN (outB 0 (loopF env true [2, 3, 5] ir68_b1 ([(2, .ptr 0 0 0), (3, .ptr 1 0 0), (5, .t (ti i))], [.box 3 [.t (ti a), .t (ti b), .t (ti c)], .box 2 [.t (tl g), .t (ti q)]]))) (execD env (.seq (.reg false [] [⟨some 4, none, .mv (.k (tb true))⟩]) .ret))) =
      some (.t (tb ((List.range' i d).all fun i => cuB a (bitsAt i 0 g 0))), [.box 3 [.t (ti a), .t (ti b), .t (ti c)], .box 2 [.t (tl g), .t (ti q)]])
  | 0, i, hi => by
    rw [x68_1]
    have hw : IntKind.i64.wrap (c + 1) = c + 1 := w64 (by omega)
    simp [ir68_d1, hw, show ¬ ((i : Int) ≤ c + 1) by omega]
  | d + 1, i, hi => by
    rw [x68_1]
    have hlt : (i : Int) ≤ c + 1 := by omega
    have hw0 : IntKind.i64.wrap (c + 1) = c + 1 := w64 (by omega)
    have hw : IntKind.i64.wrap ((i : Int) + 1) = (i : Int) + 1 := w64 (by omega)
    have ih := l68 a ha b c hc q g hg d (i + 1) (by omega)
    have hin := l41i a b c q i g hg g.length 0 0 (by omega) (by decide)
    have hr : List.range' i (d + 1) = i :: List.range' (i + 1) d := rfl
    have h39 := r66 a (bitsAt i 0 g 0) ha
    rw [hr, List.all_cons]
    simp at hin ih
    generalize ((List.range' (i + 1) d).all fun i => cuB a (bitsAt i 0 g 0)) = R at *
    generalize bitsAt i 0 g 0 = N at *
    cases h : cuB a N with
    | true => simp [ir68_d1, hlt, hw0, hw, hin, h39, h, ih]
    | false =>
      simp [ir68_d1, hlt, hw0, hw, hin, h39, h, ih]
def calmS (a : Nat) (c : Int) (g : List Int) : Bool := (List.range' 0 (c + 2).toNat).all fun i => cuB a (bitsAt i 0 g 0)
theorem r68 (a : Nat) (ha : a ≤ 20) (b c : Int) (hc : 0 ≤ c ∧ c ≤ 2) (q : Int) (g : List Int) (hg : g.length ≤ 40) : ownR env 68 [.agg [ti a, ti b, ti c], .agg [tl g, ti q]] = some (.t (tb (calmS a c g)), []) := by
  rw [own_ir e68 _ rfl]
  have hl := l68 a ha b c hc q g hg (c + 2).toNat 0 (by omega)
  simp at hl
  simp [ir68, ir68_c, hl, calmS]
end Go.Proofs.Ytgmcjejelpeioaa.Ev
namespace Go.Proofs.Ytgmcjejelpeioaa.Ev
open Go
set_option linter.unusedVariables false
set_option linter.unusedSimpArgs false
attribute [local simp] til_getE til_length til_get til_drop til_take til_append til_nil til_cons til_replicate til_set

theorem stand_length (p : Int) : ∀ (xs : List Int) (i : Nat), (stand p i xs).length ≤ xs.length
  | [], i => by simp [stand]
  | x :: xs, i => by
    have := stand_length p xs (i + 1)
    simp only [stand]
    split <;> simp <;> omega
theorem l62 (c : Int) (hc : 0 ≤ c ∧ c ≤ 10) (q : Int) (g : List Int) (hg : g.length ≤ 1000) : ∀ (d i : Nat), ((i + d : Nat) : Int) = c + 2 →
    andO (endO [.tmp 4] (andN (outB 0 (loopF env true [3, 8, 9] ir62_b0 ([(3, .ptr 0 0 0), (8, .t (ti (c + 1 + 1))), (9, .t (ti i))], [.box 2 [.t (tl g), .t (ti q)]]))) (execD env (.seq (.reg false [] [⟨some 4, none, .mv (.k (tb true))⟩]) .ret)))) ownEnd =
      some (.t (tb ((List.range' i d).all fun i => calmI (stand i 0 g) (stand i 0 g))), [])
  | 0, i, hi => by
    rw [x62_0]
    simp [ir62_d0, show ¬ ((i : Int) < c + 1 + 1) by omega]
  | d + 1, i, hi => by
    rw [x62_0]
    have hlt : (i : Int) < c + 1 + 1 := by omega
    have hw : IntKind.i64.wrap ((i : Int) + 1) = (i : Int) + 1 := w64 (by omega)
    have ih := l62 c hc q g hg d (i + 1) (by omega)
    have hr : List.range' i (d + 1) = i :: List.range' (i + 1) d := rfl
    have h30 := r58 g q i hg
    have h34 := r61 (stand i 0 g) (by have := stand_length i g 0; omega)
    rw [hr, List.all_cons]
    simp at ih
    generalize ((List.range' (i + 1) d).all fun i => calmI (stand i 0 g) (stand i 0 g)) = R at *
    generalize stand i 0 g = L at *
    cases h : calmI L L with
    | true => simp [ir62_d0, hlt, hw, h30, h34, h, ih]
    | false =>
      simp [ir62_d0, hlt, hw, h30, h34, h, ih]
def calmP (c : Int) (g : List Int) : Bool := (List.range' 0 (c + 2).toNat).all fun i => calmI (stand i 0 g) (stand i 0 g)
theorem r62 (a b c : Int) (hc : 0 ≤ c ∧ c ≤ 2) (q : Int) (g : List Int) (hg : g.length ≤ 1000) : ownR env 62 [.agg [ti a, ti b, ti c], .agg [tl g, ti q]] = some (.t (tb (calmP c g)), []) := by
  rw [own_ir e62 _ rfl]
  have hl := l62 c (by omega) q g hg (c + 2).toNat 0 (by omega)
  simp at hl
  simp [ir62, ir62_c, r49 a b c (by omega), w64 (n := c + 1 + 1) (by omega), hl, calmP]
  
theorem l33 (g : List Int) (t q : Int) (xs : List Int) (n : Nat) (hn : n ≤ 1000) (hg : g.length ≤ 1000) (hk : ∀ k ∈ g, 0 ≤ k ∧ k < n) : ∀ (d i : Nat) (y : List Int), i + d = g.length → y.length = n →
    loopF env true [3, 4, 5, 15, 16, 17] ir33_b0 ([(3, .ptr 0 0 0), (4, .ptr 1 0 0), (5, .ptr 2 0 0), (15, .t (tl g)), (16, .t (ti g.length)), (17, .t (ti i))], [.box 2 [.t (ti t), .t (tl g)], .box 2 [.t .nil, .t (ti 0)], .box 2 [.ref 3 0 n, .t (ti t)], .pure 1 (til y)]) =
      some (.exit 0, [(3, .ptr 0 0 0), (4, .ptr 1 0 0), (5, .ptr 2 0 0), (15, .t (tl g)), (16, .t (ti g.length)), (17, .t (ti g.length)), (18, .t (tb false))], [.box 2 [.t (ti t), .t (tl g)], .box 2 [.t .nil, .t (ti 0)], .box 2 [.ref 3 0 n, .t (ti t)], .pure 1 (til (setAll t (g.drop i) y))])
  | 0, i, y, hi, hy => by
    rw [x33_0]
    have : i = g.length := by omega
    subst this
    simp [ir33_d0, setAll]
  | d + 1, i, y, hi, hy => by
    rw [x33_0]
    have hlt : i < g.length := by omega
    have hw : IntKind.i64.wrap ((i : Int) + 1) = (i : Int) + 1 := w64 (by omega)
    have hs : setAll t (g.drop i) y = setAll t (g.drop (i + 1)) (y.set (g[i]).toNat t) := by rw [List.drop_eq_getElem_cons hlt, setAll]
    have hkk := hk g[i] (List.getElem_mem hlt)
    have hkn : (g[i]).toNat < y.length := by omega
    have ih := l33 g t q xs n hn hg hk d (i + 1) (y.set (g[i]).toNat t) (by omega) (by simpa using hy)
    simp at ih
    simp [ir33_d0, hlt, hw, hs, hkk.1, hkk.2, hkn, ih]
theorem r33 (xs g : List Int) (p t : Int) (h : xs.length ≤ 1000) (hg : g.length ≤ 1000) (hk : ∀ k ∈ g, 0 ≤ k ∧ k < xs.length) : ownR env 33 [.agg [tl xs, ti p], .agg [ti t, tl g]] = some (.agg [.ref 0 0 xs.length, .t (ti t)], [.pure 1 (til (setAll t g xs))]) := by
  rw [own_ir e33 _ rfl]
  have hl := l33 g t p xs xs.length h hg hk g.length 0 xs (by omega) rfl
  simp at hl
  simp [ir33, ir33_c, r54 xs h, hl, til_flat]
end Go.Proofs.Ytgmcjejelpeioaa.Ev
namespace Go.Proofs.Ytgmcjejelpeioaa.Ev
open Go
set_option linter.unusedVariables false
set_option linter.unusedSimpArgs false
attribute [local simp] til_getE til_length til_get til_drop til_take til_append til_nil til_cons til_replicate til_set

def atB (l : List Int) (p : Int) (g : List Int) : Bool := g.all fun k => decide (l[k.toNat]?.getD 0 = p)
theorem l53 (A B C2 p t : Int) (l g : List Int) (hg : g.length ≤ 1000000) (hk : ∀ k ∈ g, 0 ≤ k ∧ k < l.length) : ∀ (d i : Nat), i + d = g.length →
    if atB l p (g.drop i) then loopF env true [3, 4, 5, 43, 44, 45] ir53_b0 ([(3, .ptr 0 0 0), (4, .ptr 1 0 0), (5, .ptr 2 0 0), (43, .t (tl g)), (44, .t (ti g.length)), (45, .t (ti i))], [.box 3 [.t (ti A), .t (ti B), .t (ti C2)], .box 2 [.t (tl l), .t (ti p)], .box 2 [.t (ti t), .t (tl g)]]) =
      some (.exit 0, [(3, .ptr 0 0 0), (4, .ptr 1 0 0), (5, .ptr 2 0 0), (43, .t (tl g)), (44, .t (ti g.length)), (45, .t (ti g.length)), (46, .t (tb false))], [.box 3 [.t (ti A), .t (ti B), .t (ti C2)], .box 2 [.t (tl l), .t (ti p)], .box 2 [.t (ti t), .t (tl g)]])
    else ∃ fr H, loopF env true [3, 4, 5, 43, 44, 45] ir53_b0 ([(3, .ptr 0 0 0), (4, .ptr 1 0 0), (5, .ptr 2 0 0), (43, .t (tl g)), (44, .t (ti g.length)), (45, .t (ti i))], [.box 3 [.t (ti A), .t (ti B), .t (ti C2)], .box 2 [.t (tl l), .t (ti p)], .box 2 [.t (ti t), .t (tl g)]]) = some (.ret, fr, H) ∧ fr.get 6 = .t (tb false)
  | 0, i, hi => by
    rw [x53_0]
    have : i = g.length := by omega
    subst this
    simp [ir53_d0, atB]
  | d + 1, i, hi => by
    rw [x53_0]
    have hlt : i < g.length := by omega
    have hw : IntKind.i64.wrap ((i : Int) + 1) = (i : Int) + 1 := w64 (by omega)
    have hkk := hk g[i] (List.getElem_mem hlt)
    obtain ⟨k, hke⟩ : ∃ k : Nat, g[i] = k := ⟨(g[i]).toNat, by omega⟩
    have hkn : k < l.length := by omega
    have hs : atB l p (g.drop i) = (decide (l[k] = p) && atB l p (g.drop (i + 1))) := by
      rw [List.drop_eq_getElem_cons hlt]; simp [atB, hke, hkn]
    have ih := l53 A B C2 p t l g hg hk d (i + 1) (by omega)
    rw [hs]
    generalize atB l p (g.drop (i + 1)) = R at *
    simp at ih
    by_cases h : l[k] = p
    · simp [ir53_d0, hlt, hw, hke, hkn, h, ih]
    · simp [ir53_d0, hlt, hw, hke, hkn, h, ih]
def canB (a : Nat) (b c : Int) (l : List Int) (p t : Int) (g : List Int) : Bool :=
  inB t 0 (c + 1) && !decide (t = p) && inB g.length 1 b && risesB 0 (l.length - 1) g && atB l p g && cuB a (bitsI g 0) && calmS a c (setAll t g l)
theorem risesB_in {a b : Int} {g : List Int} (h : risesB a b g = true) : ∀ k ∈ g, a ≤ k ∧ k ≤ b := fun k hk => by
  unfold risesB at h
  rw [Bool.and_eq_true, List.all_eq_true] at h
  exact (inB_iff _ _ _).1 (h.1 k hk)
theorem r53 (a : Nat) (b c : Int) (hgd : good a b c = true) (l : List Int) (hl : l.length = 2 * a) (p t : Int) (g : List Int) (hg : g.length ≤ 1000) : ownR env 53 [.agg [ti a, ti b, ti c], .agg [tl l, ti p], .agg [ti t, tl g]] = some (.t (tb (canB a b c l p t g)), []) := by
  rw [own_ir e53 _ rfl]
  have hgo := good_of hgd
  have hw1 : IntKind.i64.wrap (c + 1) = c + 1 := w64 (by omega)
  have hw2 : IntKind.i64.wrap ((l.length : Int) - 1) = l.length - 1 := w64 (by omega)
  have h38 := r65 g 0 (l.length - 1) (by omega)
  have h27 := fun hk => l53 a b c p t l g (by omega) hk g.length 0 (by omega)
  unfold canB
  cases h1 : inB t 0 (c + 1) with
  | false => simp [ir53, ir53_c, hw1, h1]
  | true =>
    by_cases h2 : t = p
    · subst h2; simp [ir53, ir53_c, hw1, h1]
    · cases h3 : inB g.length 1 b with
      | false => simp [ir53, ir53_c, hw1, h1, h2, h3]
      | true =>
        cases h4 : risesB 0 (l.length - 1) g with
        | false => simp [ir53, ir53_c, hw1, hw2, h1, h2, h3, h38, h4]
        | true =>
          have hin := risesB_in h4
          have hk : ∀ k ∈ g, 0 ≤ k ∧ k < l.length := fun k hk => by have := hin k hk; omega
          have h27' := h27 hk
          simp at h27'
          cases h5 : atB l p g with
          | false =>
            simp [h5] at h27'
            obtain ⟨fr, ⟨H, k1001⟩, k1002⟩ := h27'
            simp [ir53, ir53_c, hw1, hw2, h1, h2, h3, h38, h4, k1001, k1002]
          | true =>
            simp [h5] at h27'
            have h40 := r67 g (by omega) fun k hkk => by have := hk k hkk; omega
            have h39 := r66 a (bitsI g 0) (by omega)
            have h16 := r33 l g p t (by omega) hg hk
            have h41 := r68 a (by omega) b c (by omega) t (setAll t g l) (by rw [setAll_length]; omega)
            have hsl := setAll_length t g l
            generalize setAll t g l = L at *
            generalize bitsI g 0 = N at *
            cases h6 : cuB a N with
            | false => simp [ir53, ir53_c, hw1, hw2, h1, h2, h3, h38, h4, h27', h40, h39, h6]
            | true =>
              have htk : L.take l.length = L := List.take_of_length_le (by omega)
              simp [ir53, ir53_c, hw1, hw2, h1, h2, h3, h38, h4, h27', h40, h39, h6, h16, h41, htk]
end Go.Proofs.Ytgmcjejelpeioaa.Ev
namespace Go.Proofs.Ytgmcjejelpeioaa.Ev
open Go
set_option linter.unusedVariables false
set_option linter.unusedSimpArgs false
theorem til_snoc (l : List Int) (x : Int) : til l ++ [.int .i64 x] = til (l ++ [x]) := by simp [til]
theorem til_fold (a b : List Int) : til a ++ til b = til (a ++ b) := by simp [til]
theorem take_snoc {α : Type} (l : List α) (x : α) : (l ++ [x]).take (l.length + 1) = l ++ [x] := List.take_of_length_le (by simp)
theorem take_app1 {α : Type} (l r : List α) (x : α) : (l ++ x :: r).take (l.length + (r.length + 1)) = l ++ x :: r := List.take_of_length_le (by simp)
theorem nil_til : ([] : List T) = til [] := rfl
attribute [local simp] til_getE til_length til_get til_drop til_take til_snoc til_fold take_snoc
structure IsList (x : T) (l : List Int) : Prop where
  len : ∀ H, evLen H 1 (.t x) = some (l.length : Int)
  ix : ∀ H (i : Nat) (h : i < l.length), evIxa H 1 (.t x) (.t (.int .i64 i)) = some (.rptr (.int .i64 l[i]) 0)
  own : l.length ≤ 1000 → ownR env 54 [x] = some (.ref 0 0 l.length, [.pure 1 (til l)])
theorem isList_tl (l : List Int) : IsList (tl l) l := ⟨fun H => by simp, fun H i h => by simp [h], fun h => r54 l h⟩
theorem isList_nil : IsList .nil [] := ⟨fun H => rfl, fun H i h => by simp at h, fun _ => by
  rw [own_ir e54 _ rfl]
  simp [ir54, ir54_c, til_nil]⟩

def tll (gl : List (List Int)) : List T := gl.map fun l => .lst 1 (til l)
theorem tll_length (gl : List (List Int)) : (tll gl).length = gl.length := by simp [tll]
theorem tll_append (a b : List (List Int)) : tll (a ++ b) = tll a ++ tll b := by simp [tll]
theorem tll_take (gl : List (List Int)) (n : Nat) : (tll gl).take n = tll (gl.take n) := by simp [tll, List.map_take]
theorem tll_get (gl : List (List Int)) (i : Nat) : (tll gl)[i]? = gl[i]?.map fun l => .lst 1 (til l) := by simp [tll]
theorem tll_getE (gl : List (List Int)) (i : Nat) (h : i < (tll gl).length) : (tll gl)[i] = .lst 1 (til (gl[i]'(by simpa [tll] using h))) := by simp [tll]
theorem tll_fold (a b : List (List Int)) : tll a ++ tll b = tll (a ++ b) := by simp [tll]
theorem tll_one (l : List Int) : [T.lst 1 (til l)] = tll [l] := rfl
def IsL (r : Option (V × Heap)) (gl : List (List Int)) : Prop := (r = some (.t .nil, []) ∧ gl = []) ∨ r = some (.ref 0 0 gl.length, [.pure 1 (tll gl)])
def grps (most : Int) : List Int → List Int → List (List Int)
  | [], _ => []
  | x :: rest, l => if (l.length : Int) < most then (l ++ [x]) :: (grps most rest (l ++ [x]) ++ grps most rest l) else []
theorem grps_full (most : Int) (rest l : List Int) (h : ¬ (l.length : Int) < most) : grps most rest l = [] := by
  cases rest with
  | nil => rfl
  | cons x r => simp [grps, h]
theorem grps_len (most : Int) : ∀ (rest l : List Int), (grps most rest l).length + 1 ≤ 2 ^ rest.length
  | [], _ => by simp [grps]
  | x :: rest, l => by
    have h1 := grps_len most rest (l ++ [x])
    have h2 := grps_len most rest l
    simp only [grps]
    split
    · simp only [List.length_cons, List.length_append, Nat.pow_succ]
      omega
    · simp only [List.length_nil, List.length_cons, Nat.pow_succ]
      omega

attribute [local simp] tll_length tll_take tll_get tll_getE tll_fold
theorem l52 (P B : T) (people l : List Int) (hP : IsList P people) (hB : IsList B l) (hpl : people.length ≤ 20) (most : Int) (hm : most ≤ 100) (hl : (l.length : Int) < most)
    (i0 : Nat) (ih : ∀ (j : Nat), i0 ≤ j → j < people.length → IsL (ownFR env 52 [P, tl (l ++ [people[j]?.getD 0]), ti ((j : Int) + 1), ti most]) ((l ++ [people[j]?.getD 0]) :: grps most (people.drop (j + 1)) (l ++ [people[j]?.getD 0]))) :
    ∀ (d i : Nat) (acc : List (List Int)), i + d = people.length → i0 ≤ i → acc.length + (grps most (people.drop i) l).length ≤ 2 ^ 30 →
    loopF env true [0, 1, 3, 9, 10] ir52_b0 ([(0, .t P), (1, .t B), (3, .t (ti most)), (9, .ref 0 0 acc.length), (10, .t (ti i))], [.pure 1 (tll acc)]) =
      some (.exit 0, [(0, .t P), (1, .t B), (3, .t (ti most)), (9, .ref 0 0 (acc ++ grps most (people.drop i) l).length), (10, .t (ti people.length)), (25, .t (ti people.length)), (26, .t P), (27, .t (ti people.length)), (28, .t (tb false))], [.pure 1 (tll (acc ++ grps most (people.drop i) l))])
  | 0, i, acc, hi, hi0, ha => by
    rw [x52_0]
    have : i = people.length := by omega
    subst this
    simp [ir52_d0, hP.len, grps]
  | d + 1, i, acc, hi, hi0, ha => by
    rw [x52_0]
    have hlt : i < people.length := by omega
    have hw : IntKind.i64.wrap ((i : Int) + 1) = (i : Int) + 1 := w64 (by omega)
    have hi' := ih i hi0 hlt
    have hown := hB.own (by omega)
    have hix := hP.ix
    simp [hlt] at hi'
    have hg : grps most (people.drop i) l = ((l ++ [people[i]]) :: grps most (people.drop (i + 1)) (l ++ [people[i]])) ++ grps most (people.drop (i + 1)) l := by
      rw [List.drop_eq_getElem_cons hlt]; simp [grps, hl]
    rw [hg, List.length_append] at ha
    simp only [List.length_cons] at ha
    rcases hi' with ⟨_, h2⟩ | hi'
    · cases h2
    · have ihl := l52 P B people l hP hB hpl most hm hl i0 ih d (i + 1) (acc ++ ((l ++ [people[i]]) :: grps most (people.drop (i + 1)) (l ++ [people[i]]))) (by omega) (by omega) (by rw [List.length_append, List.length_cons]; omega)
      rw [hg]
      generalize grps most (people.drop (i + 1)) (l ++ [people[i]]) = G1 at *
      generalize grps most (people.drop (i + 1)) l = G2 at *
      simp at ihl
      simp [ir52_d0, hP.len, hown, hix, hlt, hw, show l.length + 1 ≤ 68719476736 by omega, show acc.length + (G1.length + 1) ≤ 68719476736 by omega, hi', ihl]
theorem l52n (P B : T) (people l : List Int) (hP : IsList P people) (hB : IsList B l) (hpl : people.length ≤ 20) (most : Int) (hm : most ≤ 100) (hl : (l.length : Int) < most) (i : Nat) (hlt : i < people.length) (G1 : List (List Int)) (hG : G1.length ≤ 2 ^ 30)
    (ih : ownFR env 52 [P, tl (l ++ [people[i]]), ti ((i : Int) + 1), ti most] = some (.ref 0 0 (G1.length + 1), [.pure 1 (tll ((l ++ [people[i]]) :: G1))])) :
    loopF env true [0, 1, 3, 9, 10] ir52_b0 ([(0, .t P), (1, .t B), (3, .t (ti most)), (9, .t .nil), (10, .t (ti i))], []) =
      loopF env true [0, 1, 3, 9, 10] ir52_b0 ([(0, .t P), (1, .t B), (3, .t (ti most)), (9, .ref 0 0 (G1.length + 1)), (10, .t (ti ((i : Int) + 1)))], [.pure 1 (tll ((l ++ [people[i]]) :: G1))]) := by
  rw [x52_0]
  have hw : IntKind.i64.wrap ((i : Int) + 1) = (i : Int) + 1 := w64 (by omega)
  have hown := hB.own (by omega)
  have hix := hP.ix
  simp [ir52_d0, hP.len, hown, hix, hlt, hw, show l.length + 1 ≤ 68719476736 by omega, show G1.length + 1 ≤ 68719476736 by omega, ih, List.take_of_length_le]
theorem r52 (P : T) (people : List Int) (hP : IsList P people) (hpl : people.length ≤ 20) (most : Int) (hm : most ≤ 100) (hm0 : 0 < most) : ∀ (d i : Nat) (B : T) (l : List Int), i + d = people.length → IsList B l → (l.length : Int) ≤ most →
    IsL (ownFR env 52 [P, B, ti i, ti most]) ((if l.length = 0 then [] else [l]) ++ grps most (people.drop i) l) := by
  intro d
  induction d using Nat.strongRecOn with
  | ind d ih =>
    intro i B l hi hB hl
    have hown := hB.own (by omega)
    have hblen := hB.len
    have hgl := grps_len most (people.drop i) l
    have hp2 : 2 ^ (people.drop i).length ≤ 2 ^ 20 := Nat.pow_le_pow_right (by decide) (by simp; omega)
    have ih' : (l.length : Int) < most → ∀ (j : Nat), i ≤ j → j < people.length → IsL (ownFR env 52 [P, tl (l ++ [people[j]?.getD 0]), ti ((j : Int) + 1), ti most]) ((l ++ [people[j]?.getD 0]) :: grps most (people.drop (j + 1)) (l ++ [people[j]?.getD 0])) := fun hlt j hij hj => by
      have := ih (people.length - (j + 1)) (by omega) (j + 1) (tl (l ++ [people[j]?.getD 0])) (l ++ [people[j]?.getD 0]) (by omega) (isList_tl _) (by rw [List.length_append]; simp; omega)
      rw [if_neg (by simp)] at this
      exact this
    rw [ownF_ir e52 _ rfl]
    rcases Nat.eq_zero_or_pos l.length with h0 | h0
    · have hlt0 : (l.length : Int) < most := by omega
      simp only [h0, if_true, List.nil_append]
      rcases Nat.lt_or_ge i people.length with hlt | hge
      · right
        have hi' := ih' hlt0 i (Nat.le_refl _) hlt
        have hx : people[i]?.getD 0 = people[i] := by simp [hlt]
        rw [hx] at hi'
        have hg : grps most (people.drop i) l = ((l ++ [people[i]]) :: grps most (people.drop (i + 1)) (l ++ [people[i]])) ++ grps most (people.drop (i + 1)) l := by
          rw [List.drop_eq_getElem_cons hlt]; simp [grps, hlt0]
        rcases hi' with ⟨_, h2⟩ | hi'
        · cases h2
        · have hlen2 : ((l ++ [people[i]]) :: grps most (people.drop (i + 1)) (l ++ [people[i]])).length + (grps most (people.drop (i + 1)) l).length ≤ 2 ^ 20 := by
            rw [hg, List.length_append] at hgl; omega
          have hn := l52n P B people l hP hB hpl most hm hlt0 i hlt (grps most (people.drop (i + 1)) (l ++ [people[i]])) (by simp at hlen2; omega) hi'
          have hr := l52 P B people l hP hB hpl most hm hlt0 i (ih' hlt0) (people.length - (i + 1)) (i + 1) ((l ++ [people[i]]) :: grps most (people.drop (i + 1)) (l ++ [people[i]])) (by omega) (by omega) (by omega)
          rw [hg]
          generalize grps most (people.drop (i + 1)) (l ++ [people[i]]) = G1 at *
          generalize grps most (people.drop (i + 1)) l = G2 at *
          simp at hr hn
          simp [ir52, ir52_c, hblen, h0, show ¬ (0 = most) by omega, hn, hr]
      · left
        have hg : grps most (people.drop i) l = [] := by rw [List.drop_of_length_le (by omega)]; rfl
        refine ⟨?_, hg⟩
        simp [ir52, ir52_c, hblen, h0, show ¬ (0 = most) by omega]
        rw [x52_0]
        simp [ir52_d0, hP.len, show ¬ (i < people.length) by omega]
    · right
      have hne : l ≠ [] := by intro e; subst e; simp at h0
      have ht : tll [l] = [T.lst 1 (til l)] := rfl
      by_cases hmost : (l.length : Int) = most
      · have hg : grps most (people.drop i) l = [] := grps_full _ _ _ (by omega)
        simp [ir52, ir52_c, hblen, hown, hmost, hm0, hne, ht, hg]
      · rcases Nat.lt_or_ge i people.length with hlt | hge
        · have hr := l52 P B people l hP hB hpl most hm (by omega) i (ih' (by omega)) (people.length - i) i [l] (by omega) (by omega) (by simp; omega)
          simp [ht] at hr
          simp [ir52, ir52_c, hblen, hown, hmost, h0, hne, ht, hr]
        · have hg : grps most (people.drop i) l = [] := by rw [List.drop_of_length_le (by omega)]; rfl
          simp [ir52, ir52_c, hblen, hown, hmost, h0, hne, ht, hg]
          rw [x52_0]
          simp [ir52_d0, hP.len, show ¬ (i < people.length) by omega]
end Go.Proofs.Ytgmcjejelpeioaa.Ev
namespace Go.Proofs.Ytgmcjejelpeioaa.Ev
open Go
set_option linter.unusedVariables false
set_option linter.unusedSimpArgs false
attribute [local simp] til_getE til_length til_get til_drop til_take til_snoc til_fold take_snoc tll_length tll_take tll_get tll_getE tll_fold
def nlV (k : Nat) (l : List Int) : V := if l.length = 0 then .t .nil else .ref k 0 l.length
def nlH (l : List Int) : Heap := if l.length = 0 then [] else [.pure 1 (til l)]

theorem l32_h (A B C2 p : Int) (g : List Int) (hg : g.length ≤ 1000) : ∀ (d i : Nat) (acc : List Int), i + d = g.length → acc.length ≤ i →
    loopF env true [2, 3, 5, 14, 15, 16] ir32_b2 ([(2, .ptr 0 0 0), (3, .ptr 1 0 0), (5, nlV 2 acc), (14, .t (tl g)), (15, .t (ti g.length)), (16, .t (ti i))], [.box 3 [.t (ti A), .t (ti B), .t (ti C2)], .box 2 [.t (tl g), .t (ti p)]] ++ nlH acc) =
      some (.exit 0, [(2, .ptr 0 0 0), (3, .ptr 1 0 0), (5, nlV 2 (acc ++ stand p i (g.drop i))), (14, .t (tl g)), (15, .t (ti g.length)), (16, .t (ti g.length)), (17, .t (tb false))], [.box 3 [.t (ti A), .t (ti B), .t (ti C2)], .box 2 [.t (tl g), .t (ti p)]] ++ nlH (acc ++ stand p i (g.drop i)))
  | 0, i, acc, hi, ha => by
    rw [x32_2]
    have : i = g.length := by omega
    subst this
    simp [ir32_d2, stand]
  | d + 1, i, acc, hi, ha => by
    rw [x32_2]
    have hlt : i < g.length := by omega
    have hw : IntKind.i64.wrap ((i : Int) + 1) = (i : Int) + 1 := w64 (by omega)
    by_cases h : g[i] = p
    · have hs : stand p i (g.drop i) = [(i : Int)] ++ stand p (i + 1) (g.drop (i + 1)) := by rw [List.drop_eq_getElem_cons hlt, stand, if_pos h]; rfl
      have ih := l32_h A B C2 p g hg d (i + 1) (acc ++ [(i : Int)]) (by omega) (by simp; omega)
      rw [hs, ← List.append_assoc]
      generalize acc ++ [(i : Int)] ++ stand p (i + 1) (g.drop (i + 1)) = Z at *
      cases acc with
      | nil =>
        simp [nlV, nlH, til_cons, til_nil] at ih
        simp [ir32_d2, nlV, nlH, hlt, hw, h, ih]
      | cons x acc =>
        simp [nlV, nlH] at ih
        simp [ir32_d2, nlV, nlH, hlt, hw, h, show acc.length + 1 + 1 ≤ 68719476736 by simp at ha; omega, ih]
    · have hs : stand p i (g.drop i) = stand p (i + 1) (g.drop (i + 1)) := by rw [List.drop_eq_getElem_cons hlt, stand, if_neg h]
      have ih := l32_h A B C2 p g hg d (i + 1) acc (by omega) (by omega)
      rw [hs]
      generalize acc ++ stand p (i + 1) (g.drop (i + 1)) = Z at *
      cases acc with
      | nil =>
        simp [nlV, nlH] at ih
        simp [ir32_d2, nlV, nlH, hlt, hw, h, ih]
      | cons x acc =>
        simp [nlV, nlH] at ih
        simp [ir32_d2, nlV, nlH, hlt, hw, h, ih]
def voyT (v : Int × List Int) : T := .agg [.int .i64 v.1, .lst 1 (til v.2)]
def tlv (vs : List (Int × List Int)) : List T := vs.map voyT
theorem tlv_length (vs : List (Int × List Int)) : (tlv vs).length = vs.length := by simp [tlv]
theorem tlv_snoc (vs : List (Int × List Int)) (t : Int) (g : List Int) : tlv vs ++ [.agg [.int .i64 t, .lst 1 (til g)]] = tlv (vs ++ [(t, g)]) := by simp [tlv, voyT]
theorem tlv_one (t : Int) (g : List Int) : tlv [(t, g)] = [.agg [.int .i64 t, .lst 1 (til g)]] := rfl
theorem tlv_take (vs : List (Int × List Int)) (n : Nat) : (tlv vs).take n = tlv (vs.take n) := by simp [tlv, List.map_take]
theorem tlv_getE (vs : List (Int × List Int)) (i : Nat) (h : i < (tlv vs).length) : (tlv vs)[i] = .agg [.int .i64 (vs[i]'(by simpa [tlv] using h)).1, .lst 1 (til (vs[i]'(by simpa [tlv] using h)).2)] := by simp [tlv, voyT]
def nvV (k : Nat) (l : List (Int × List Int)) : V := if l.length = 0 then .t .nil else .ref k 0 l.length
def nvH (l : List (Int × List Int)) : Heap := if l.length = 0 then [] else [.pure 2 (tlv l)]
def nvK (l : List (Int × List Int)) : Nat := if l.length = 0 then 3 else 4
def cans (a : Nat) (b c : Int) (l : List Int) (p t : Int) (gl : List (List Int)) : List (Int × List Int) := (gl.filter fun g => canB a b c l p t g).map fun g => (t, g)
theorem cans_cons (a : Nat) (b c : Int) (l : List Int) (p t : Int) (g : List Int) (gl : List (List Int)) : cans a b c l p t (g :: gl) = (if canB a b c l p t g then [(t, g)] else []) ++ cans a b c l p t gl := by
  unfold cans
  rw [List.filter_cons]
  split <;> simp

theorem l32_i (a : Nat) (b c : Int) (hgd : good a b c = true) (l : List Int) (hl : l.length = 2 * a) (p t : Int) (here : List Int) (gl : List (List Int)) (hgl : ∀ g ∈ gl, g.length ≤ 1000) (hgn : gl.length ≤ 2 ^ 20) : ∀ (d j : Nat) (out : List (Int × List Int)), j + d = gl.length → out.length + d ≤ 2 ^ 30 →
    loopF env true [2, 3, 5, 8, 9, 40, 41, 42] ir32_b0 ([(2, .ptr 0 0 0), (3, .ptr 1 0 0), (5, .ref 2 0 here.length), (8, nvV 3 out), (9, .t (ti t)), (40, .ref (nvK out) 0 gl.length), (41, .t (ti gl.length)), (42, .t (ti j))], [.box 3 [.t (ti a), .t (ti b), .t (ti c)], .box 2 [.t (tl l), .t (ti p)], .froz 1 (til here)] ++ nvH out ++ [.pure 1 (tll gl)]) =
      some (.exit 4, [(2, .ptr 0 0 0), (3, .ptr 1 0 0), (5, .ref 2 0 here.length), (8, nvV 3 (out ++ cans a b c l p t (gl.drop j))), (9, .t (ti t)), (40, .ref (nvK (out ++ cans a b c l p t (gl.drop j))) 0 gl.length), (41, .t (ti gl.length)), (42, .t (ti gl.length)), (43, .t (tb false))], [.box 3 [.t (ti a), .t (ti b), .t (ti c)], .box 2 [.t (tl l), .t (ti p)], .froz 1 (til here)] ++ nvH (out ++ cans a b c l p t (gl.drop j)) ++ [.pure 1 (tll gl)])
  | 0, j, out, hj, hb => by
    rw [x32_0]
    have : j = gl.length := by omega
    subst this
    simp [ir32_d0, cans]
  | d + 1, j, out, hj, hb => by
    rw [x32_0]
    have hlt : j < gl.length := by omega
    have hw : IntKind.i64.wrap ((j : Int) + 1) = (j : Int) + 1 := w64 (by omega)
    have h27 := r53 a b c hgd l hl p t gl[j] (hgl _ (List.getElem_mem hlt))
    have hs : cans a b c l p t (gl.drop j) = (if canB a b c l p t gl[j] then [(t, gl[j])] else []) ++ cans a b c l p t (gl.drop (j + 1)) := by rw [List.drop_eq_getElem_cons hlt, cans_cons]
    rw [hs, ← List.append_assoc]
    have ih := fun out' h => l32_i a b c hgd l hl p t here gl hgl hgn d (j + 1) out' (by omega) h
    cases hc : canB a b c l p t gl[j] with
    | true =>
      rw [hc] at h27
      simp only [if_true]
      have ih' := ih (out ++ [(t, gl[j])]) (by simp; omega)
      generalize out ++ [(t, gl[j])] ++ cans a b c l p t (gl.drop (j + 1)) = Z at *
      cases out with
      | nil =>
        simp [nvV, nvH, nvK, tlv_one] at ih'
        simp [ir32_d0, nvV, nvH, nvK, hlt, hw, h27, ih', tlv_length, tlv_snoc, tlv_take]
      | cons x out =>
        simp [nvV, nvH, nvK] at ih'
        simp [ir32_d0, nvV, nvH, nvK, hlt, hw, h27, ih', tlv_length, tlv_snoc, tlv_take, show out.length + 1 + 1 ≤ 68719476736 by simp at hb; omega]
    | false =>
      rw [hc] at h27
      simp only [Bool.false_eq_true, if_false, List.append_nil]
      have ih' := ih out (by omega)
      generalize out ++ cans a b c l p t (gl.drop (j + 1)) = Z at *
      cases out with
      | nil =>
        simp [nvV, nvH, nvK, tlv_one] at ih'
        simp [ir32_d0, nvV, nvH, nvK, hlt, hw, h27, ih']
      | cons x out =>
        simp [nvV, nvH, nvK] at ih'
        simp [ir32_d0, nvV, nvH, nvK, hlt, hw, h27, ih', tlv_length, tlv_take]

theorem grps_lens (most : Int) : ∀ (rest l g : List Int), g ∈ grps most rest l → (g.length : Int) ≤ most
  | [], _, g, h => by simp [grps] at h
  | x :: rest, l, g, h => by
    simp only [grps] at h
    split at h
    · rename_i hlt
      simp only [List.mem_cons, List.mem_append] at h
      rcases h with rfl | h | h
      · simp; omega
      · exact grps_lens most rest (l ++ [x]) g h
      · exact grps_lens most rest l g h
    · cases h
def voysS (a : Nat) (b c : Int) (l : List Int) (p : Int) (i d : Nat) : List (Int × List Int) := (List.range' i d).flatMap fun t : Nat => cans a b c l p (t : Int) (grps b (stand p 0 l) [])

theorem l32_o (a : Nat) (b c : Int) (hgd : good a b c = true) (l : List Int) (hl : l.length = 2 * a) (p : Int) (hp : stand p 0 l ≠ []) (hb : Blk) (hhb : hb = .pure 1 (til (stand p 0 l)) ∨ hb = .froz 1 (til (stand p 0 l))) : ∀ (d i : Nat) (out : List (Int × List Int)), ((i + d : Nat) : Int) = c + 2 → out.length + d * 2 ^ 8 ≤ 2 ^ 20 → (hb = .pure 1 (til (stand p 0 l)) → 0 < d) →
    loopF env true [2, 3, 5, 8, 9] ir32_b1 ([(2, .ptr 0 0 0), (3, .ptr 1 0 0), (5, .ref 2 0 (stand p 0 l).length), (8, nvV 3 out), (9, .t (ti i))], [.box 3 [.t (ti a), .t (ti b), .t (ti c)], .box 2 [.t (tl l), .t (ti p)], hb] ++ nvH out) =
      some (.exit 2, [(2, .ptr 0 0 0), (3, .ptr 1 0 0), (5, .ref 2 0 (stand p 0 l).length), (8, nvV 3 (out ++ voysS a b c l p i d)), (9, .t (ti (c + 2))), (30, .t (ti (c + 2))), (31, .ptr 0 0 2), (32, .t (ti c)), (33, .t (ti (c + 1))), (34, .t (tb false))], [.box 3 [.t (ti a), .t (ti b), .t (ti c)], .box 2 [.t (tl l), .t (ti p)], .froz 1 (til (stand p 0 l))] ++ nvH (out ++ voysS a b c l p i d))
  | 0, i, out, hi, ho, hd => by
    rw [x32_1]
    have hw : IntKind.i64.wrap (c + 1) = c + 1 := by have := good_of hgd; exact w64 (by omega)
    have hfz : hb = .froz 1 (til (stand p 0 l)) := hhb.resolve_left fun e => by have := hd e; omega
    have hie : (i : Int) = c + 2 := by omega
    simp [ir32_d1, hw, hie, hfz, voysS, show ¬ (c + 2 ≤ c + 1) by omega]
  | d + 1, i, out, hi, ho, hd => by
    rw [x32_1]
    have hgo := good_of hgd
    have hw0 : IntKind.i64.wrap (c + 1) = c + 1 := w64 (by omega)
    have hw : IntKind.i64.wrap ((i : Int) + 1) = (i : Int) + 1 := w64 (by omega)
    have hlt : (i : Int) ≤ c + 1 := by omega
    have hsl := stand_length p l 0
    have h26 := r52 (tl (stand p 0 l)) (stand p 0 l) (isList_tl _) (by omega) b (by omega) (by omega) (stand p 0 l).length 0 .nil [] (by omega) isList_nil (by simp; omega)
    simp only [List.length_nil, if_true, List.nil_append, List.drop_zero] at h26
    have hgn := grps_len b (stand p 0 l) []
    have hgs : ∀ g ∈ grps b (stand p 0 l) [], g.length ≤ 1000 := fun g hg => by have := grps_lens b _ _ g hg; omega
    have hp2 : 2 ^ (stand p 0 l).length ≤ 2 ^ 8 := Nat.pow_le_pow_right (by decide) (by omega)
    have hinner := l32_i a b c hgd l hl p i (stand p 0 l) (grps b (stand p 0 l) []) hgs (by omega) (grps b (stand p 0 l) []).length 0 out (by omega) (by omega)
    have hs : voysS a b c l p i (d + 1) = cans a b c l p i (grps b (stand p 0 l) []) ++ voysS a b c l p (i + 1) d := by simp [voysS, List.range'_succ]
    have hcl : (cans a b c l p i (grps b (stand p 0 l) [])).length ≤ (grps b (stand p 0 l) []).length := by
      simp only [cans, List.length_map]; exact List.length_filter_le _ _
    have ih := l32_o a b c hgd l hl p hp (.froz 1 (til (stand p 0 l))) (.inr rfl) d (i + 1) (out ++ cans a b c l p i (grps b (stand p 0 l) [])) (by omega) (by rw [List.length_append]; omega) (fun e => by cases e)
    rw [hs, ← List.append_assoc]
    have hne : grps b (stand p 0 l) [] ≠ [] := by
      cases hst : stand p 0 l with
      | nil => exact absurd hst hp
      | cons x r => simp [grps, show (0 : Int) < b by omega]
    simp only [List.drop_zero] at hinner
    generalize grps b (stand p 0 l) [] = gl at *
    generalize stand p 0 l = here at *
    rcases h26 with ⟨_, h26⟩ | h26
    · exact absurd h26 hne
    · generalize hZ : out ++ cans a b c l p i gl = Z at *
      generalize Z ++ voysS a b c l p (i + 1) d = Y at *
      simp at h26
      clear hZ
      rcases hhb with rfl | rfl <;> cases out <;> cases Z <;> simp [nvV, nvH, nvK] at hinner ih <;> simp [ir32_d1, nvV, nvH, nvK, hlt, hw0, hw, h26, hinner, ih]
def IsVs (r : Option (V × Heap)) (vs : List (Int × List Int)) : Prop := (r = some (.t .nil, []) ∧ vs = []) ∨ r = some (.ref 0 0 vs.length, [.pure 2 (tlv vs)])
theorem stand_ne (p : Int) : ∀ (l : List Int) (i : Nat), p ∈ l → stand p i l ≠ []
  | x :: l, i, h => by
    simp only [stand]
    split
    · simp
    · rename_i hx
      exact stand_ne p l (i + 1) ((List.mem_cons.1 h).resolve_left fun e => hx e.symm)
theorem r32 (a : Nat) (b c : Int) (hgd : good a b c = true) (l : List Int) (hl : l.length = 2 * a) (p : Int) (hp : p ∈ l) : IsVs (ownFR env 32 [.agg [ti a, ti b, ti c], .agg [tl l, ti p]]) (voysS a b c l p 0 (c + 2).toNat) := by
  rw [ownF_ir e32 _ rfl]
  have hgo := good_of hgd
  have h1 := l32_h a b c p l (by omega) l.length 0 [] (by omega) (by simp)
  have hne := stand_ne p l 0 hp
  have h2 := l32_o a b c hgd l hl p hne (.pure 1 (til (stand p 0 l))) (.inl rfl) (c + 2).toNat 0 [] (by omega) (by simp; omega) (fun _ => by omega)
  simp only [List.drop_zero, List.nil_append] at h1 h2
  generalize voysS a b c l p 0 (c + 2).toNat = Y at *
  generalize stand p 0 l = here at *
  cases here with
  | nil => exact absurd rfl hne
  | cons x here =>
    simp [nlV, nlH] at h1
    cases Y with
    | nil =>
      left
      simp [nvV, nvH] at h2
      simp [ir32, ir32_c, h1, h2]
    | cons y Y =>
      right
      simp [nvV, nvH] at h2
      simp [ir32, ir32_c, h1, h2]
end Go.Proofs.Ytgmcjejelpeioaa.Ev
namespace Go.Proofs.Ytgmcjejelpeioaa.Ev
open Go
set_option linter.unusedVariables false
set_option linter.unusedSimpArgs false
attribute [local simp] til_getE til_length til_get til_drop til_take til_snoc til_fold take_snoc til_replicate til_set
theorem k23_3 (a : Nat) (b c : Int) (hgd : good a b c = true) (l : List Int) (p : Int) (n : Nat) (hn : n ≤ 6) : ∀ (d i : Nat), i + d = n →
    loopF env true [2, 3, 7, 25, 26] ir23_b3 ([(2, .ptr 0 0 0), (3, .ptr 1 0 0), (7, .t (ti (((c + 2).toNat ^ (i + 1) : Nat) : Int))), (25, .t (ti n)), (26, .t (ti i))], [.box 3 [.t (ti a), .t (ti b), .t (ti c)], .box 2 [.t (tl l), .t (ti p)]]) =
      some (.exit 0, [(2, .ptr 0 0 0), (3, .ptr 1 0 0), (7, .t (ti (((c + 2).toNat ^ (n + 1) : Nat) : Int))), (25, .t (ti n)), (26, .t (ti n)), (27, .t (tb false))], [.box 3 [.t (ti a), .t (ti b), .t (ti c)], .box 2 [.t (tl l), .t (ti p)]])
  | 0, i, hi => by
    rw [x23_3]
    have : i = n := by omega
    subst this
    simp [ir23_d3]
  | d + 1, i, hi => by
    rw [x23_3]
    have hgo := good_of hgd
    have hlt : i < n := by omega
    have hw : IntKind.i64.wrap ((i : Int) + 1) = (i : Int) + 1 := w64 (by omega)
    have hw0 : IntKind.i64.wrap (c + 2) = c + 2 := w64 (by omega)
    obtain ⟨e, he⟩ : ∃ e : Nat, c + 2 = e := ⟨(c + 2).toNat, by omega⟩
    have he4 : e ≤ 4 := by omega
    have hpw : e ^ (i + 1) ≤ 4 ^ 6 := Nat.le_trans (Nat.pow_le_pow_left he4 _) (Nat.pow_le_pow_right (by decide) (by omega))
    have ih := k23_3 a b c hgd l p n hn d (i + 1) (by omega)
    have hw2 : IntKind.i64.wrap (((e ^ (i + 1) : Nat) : Int) * e) = ((e ^ (i + 1 + 1) : Nat) : Int) := by
      rw [Nat.pow_succ e (i + 1)]
      have : ((e ^ (i + 1) : Nat) : Int) * (e : Int) = ((e ^ (i + 1) * e : Nat) : Int) := by simp
      rw [this]
      generalize e ^ (i + 1) = q at *
      have : q * e ≤ 4 ^ 6 * 4 := Nat.mul_le_mul hpw he4
      exact w64 (by omega)
    rw [he] at ih hw0 ⊢
    simp only [Int.toNat_natCast] at ih ⊢
    generalize e ^ (i + 1 + 1) = q2 at *
    generalize e ^ (i + 1) = q1 at *
    generalize e ^ (n + 1) = q3 at *
    simp at ih
    simp [ir23_d3, hlt, hw, hw0, he, hw2, ih]
theorem k23_2 (A B C2 p : Int) (l : List Int) (N : Nat) (hN : N ≤ 100000) : ∀ (d i : Nat), i + d = N →
    loopF env true [2, 3, 8, 9, 39, 40] ir23_b2 ([(2, .ptr 0 0 0), (3, .ptr 1 0 0), (8, .ref 2 0 N), (9, .ref 3 0 N), (39, .t (ti N)), (40, .t (ti i))], [.box 3 [.t (ti A), .t (ti B), .t (ti C2)], .box 2 [.t (tl l), .t (ti p)], .pure 1 (til (List.replicate i (-1) ++ List.replicate d 0)), .pure 1 (til (List.replicate N 0))]) =
      some (.exit 2, [(2, .ptr 0 0 0), (3, .ptr 1 0 0), (8, .ref 2 0 N), (9, .ref 3 0 N), (39, .t (ti N)), (40, .t (ti N)), (41, .t (tb false))], [.box 3 [.t (ti A), .t (ti B), .t (ti C2)], .box 2 [.t (tl l), .t (ti p)], .pure 1 (til (List.replicate N (-1))), .pure 1 (til (List.replicate N 0))])
  | 0, i, hi => by
    rw [x23_2]
    have : i = N := by omega
    subst this
    simp [ir23_d2]
  | d + 1, i, hi => by
    rw [x23_2]
    have hlt : i < N := by omega
    have hw : IntKind.i64.wrap ((i : Int) + 1) = (i : Int) + 1 := w64 (by omega)
    have ih := k23_2 A B C2 p l N hN d (i + 1) (by omega)
    have hs : (List.replicate i (-1 : Int) ++ List.replicate (d + 1) 0).set i (-1) = List.replicate (i + 1) (-1) ++ List.replicate d 0 := by
      rw [show List.replicate (d + 1) (0 : Int) = 0 :: List.replicate d 0 from rfl, List.set_append_right _ _ (by simp), show List.replicate (i + 1) (-1 : Int) = List.replicate i (-1) ++ [-1] from List.replicate_succ']
      simp
    have hlen : (List.replicate i (-1 : Int) ++ List.replicate (d + 1) 0).length = N := by simp; omega
    generalize List.replicate i (-1 : Int) ++ List.replicate (d + 1) 0 = X at *
    generalize List.replicate (i + 1) (-1 : Int) ++ List.replicate d 0 = Y at *
    simp at ih
    simp [ir23_d2, hlt, hw, hlen, hs, ih]
theorem pow_le (e n : Nat) (he : e ≤ 4) (hn : n ≤ 7) : e ^ n ≤ 16384 := Nat.le_trans (Nat.pow_le_pow_left he n) (Nat.le_trans (Nat.pow_le_pow_right (by decide) hn) (by decide))
def tlp (q : List (List Int × Int)) : List T := q.map fun x => .agg [.lst 1 (til x.1), .int .i64 x.2]
theorem tlp_length (q : List (List Int × Int)) : (tlp q).length = q.length := by simp [tlp]
theorem tlp_snoc (q : List (List Int × Int)) (l : List Int) (p : Int) : tlp q ++ [.agg [.lst 1 (til l), .int .i64 p]] = tlp (q ++ [(l, p)]) := by simp [tlp]
theorem tlp_one (l : List Int) (p : Int) : [T.agg [.lst 1 (til l), .int .i64 p]] = tlp [(l, p)] := rfl
theorem tlp_take (q : List (List Int × Int)) (n : Nat) : (tlp q).take n = tlp (q.take n) := by simp [tlp, List.map_take]
theorem tlp_getE (q : List (List Int × Int)) (i : Nat) (h : i < (tlp q).length) : (tlp q)[i] = .agg [.lst 1 (til (q[i]'(by simpa [tlp] using h)).1), .int .i64 (q[i]'(by simpa [tlp] using h)).2] := by simp [tlp]
def stepS (c : Int) (code : Nat) (l : List Int) (s : List Int × List Int × List (List Int × Int)) (v : Int × List Int) : List Int × List Int × List (List Int × Int) :=
  let nl := setAll v.1 v.2 l
  let to := (codeW (c + 2) v.1 nl).toNat
  let new : Bool := decide (s.1[to]?.getD 0 < 0)
  let far := if new then s.1.set to (IntKind.i64.wrap (s.1[code]?.getD 0 + 1)) else s.1
  let queue := if new then s.2.2 ++ [(nl, v.1)] else s.2.2
  let ways := if far[to]?.getD 0 = IntKind.i64.wrap (far[code]?.getD 0 + 1) then s.2.1.set to (IntKind.i64.wrap (s.2.1[to]?.getD 0 + s.2.1[code]?.getD 0)) else s.2.1
  (far, ways, queue)

theorem stepS_len (c : Int) (code : Nat) (l : List Int) (s : List Int × List Int × List (List Int × Int)) (v : Int × List Int) : (stepS c code l s v).1.length = s.1.length ∧ (stepS c code l s v).2.1.length = s.2.1.length ∧ (stepS c code l s v).2.2.length ≤ s.2.2.length + 1 := by
  refine ⟨?_, ?_, ?_⟩
  · simp only [stepS]; split <;> simp
  · simp only [stepS]; split <;> split <;> simp
  · simp only [stepS]; split <;> simp
theorem k23_0 (a : Nat) (b c : Int) (hgd : good a b c = true) (l : List Int) (hl : l.length = 2 * a) (p k : Int) (N code : Nat) (hcode : code < N) (hN : N ≤ 16384) (vs : List (Int × List Int)) (hvn : vs.length ≤ 2 ^ 20) (hvs : ∀ v ∈ vs, v.2.length ≤ 1000 ∧ (∀ x ∈ v.2, 0 ≤ x ∧ x < l.length) ∧ 0 ≤ codeW (c + 2) v.1 (setAll v.1 v.2 l) ∧ codeW (c + 2) v.1 (setAll v.1 v.2 l) < N) :
    ∀ (d j : Nat) (s : List Int × List Int × List (List Int × Int)), j + d = vs.length → s.1.length = N → s.2.1.length = N → s.2.2.length + d ≤ 2 ^ 30 →
    loopF env true [2, 8, 9, 12, 13, 14, 15, 73, 74, 75] ir23_b0 ([(2, .ptr 0 0 0), (8, .ref 1 0 N), (9, .ref 2 0 N), (12, .ref 3 0 s.2.2.length), (13, .t (ti k)), (14, .ptr 4 0 0), (15, .t (ti code)), (73, .ref 5 0 vs.length), (74, .t (ti vs.length)), (75, .t (ti j))],
        [.box 3 [.t (ti a), .t (ti b), .t (ti c)], .pure 1 (til s.1), .pure 1 (til s.2.1), .pure 2 (tlp s.2.2), .box 2 [.t (tl l), .t (ti p)], .pure 2 (tlv vs)]) =
      some (.exit 6, [(2, .ptr 0 0 0), (8, .ref 1 0 N), (9, .ref 2 0 N), (12, .ref 3 0 ((vs.drop j).foldl (stepS c code l) s).2.2.length), (13, .t (ti k)), (14, .ptr 4 0 0), (15, .t (ti code)), (73, .ref 5 0 vs.length), (74, .t (ti vs.length)), (75, .t (ti vs.length)), (76, .t (tb false))],
        [.box 3 [.t (ti a), .t (ti b), .t (ti c)], .pure 1 (til ((vs.drop j).foldl (stepS c code l) s).1), .pure 1 (til ((vs.drop j).foldl (stepS c code l) s).2.1), .pure 2 (tlp ((vs.drop j).foldl (stepS c code l) s).2.2), .box 2 [.t (tl l), .t (ti p)], .pure 2 (tlv vs)])
  | 0, j, s, hj, h1, h2, h3 => by
    rw [x23_0]
    have : j = vs.length := by omega
    subst this
    simp [ir23_d0]
  | d + 1, j, s, hj, h1, h2, h3 => by
    rw [x23_0]
    have hgo := good_of hgd
    have hlt : j < vs.length := by omega
    have hw : IntKind.i64.wrap ((j : Int) + 1) = (j : Int) + 1 := w64 (by omega)
    obtain ⟨hv1, hv2, hv3, hv4⟩ := hvs vs[j] (List.getElem_mem hlt)
    have h16 := r33 l vs[j].2 p vs[j].1 (by omega) hv1 hv2
    have h14 := r31 a b c (by omega) (setAll vs[j].1 vs[j].2 l) vs[j].1 (by rw [setAll_length]; omega)
    have hsl := setAll_length vs[j].1 vs[j].2 l
    have htk : (setAll vs[j].1 vs[j].2 l).take l.length = setAll vs[j].1 vs[j].2 l := List.take_of_length_le (by omega)
    have ih := k23_0 a b c hgd l hl p k N code hcode hN vs hvn hvs d (j + 1) (stepS c code l s vs[j]) (by omega) ((stepS_len _ _ _ _ _).1.trans h1) ((stepS_len _ _ _ _ _).2.1.trans h2) (by have := (stepS_len c code l s vs[j]).2.2; omega)
    have hs : (vs.drop j).foldl (stepS c code l) s = (vs.drop (j + 1)).foldl (stepS c code l) (stepS c code l s vs[j]) := by rw [List.drop_eq_getElem_cons hlt]; rfl
    rw [hs]
    generalize (vs.drop (j + 1)).foldl (stepS c code l) (stepS c code l s vs[j]) = Z at *
    obtain ⟨far, ways, queue⟩ := s
    simp only at h1 h2 h3
    unfold stepS at ih
    simp only at ih ⊢
    obtain ⟨to, hto⟩ : ∃ to : Nat, codeW (c + 2) vs[j].1 (setAll vs[j].1 vs[j].2 l) = to := ⟨_, (Int.toNat_of_nonneg hv3).symm⟩
    rw [hto] at h14 hv4 ih
    simp only [Int.toNat_natCast] at ih
    have htoN : to < N := by omega
    have hq : queue.length ≤ 68719476735 := by omega
    have gF : ∀ (xs : List Int) (i : Nat) (h : i < xs.length), xs[i]?.getD 0 = xs[i] := fun xs i h => by simp [h]
    have t1 : to < far.length := by omega
    have t2 : code < far.length := by omega
    have t3 : to < ways.length := by omega
    have t4 : code < ways.length := by omega
    simp only [gF far to t1, gF far code t2, gF ways to t3, gF ways code t4] at ih
    by_cases hnew : far[to] < 0
    · simp only [hnew, decide_true, if_true] at ih
      have s1 : (far.set to (IntKind.i64.wrap (far[code] + 1))).length = N := by simpa using h1
      generalize hF : far.set to (IntKind.i64.wrap (far[code] + 1)) = far1 at *
      have u1 : to < far1.length := by omega
      have u2 : code < far1.length := by omega
      simp only [gF far1 to u1, gF far1 code u2] at ih
      by_cases h2nd : far1[to] = IntKind.i64.wrap (far1[code] + 1)
      · simp only [h2nd, if_true] at ih
        simp [tlp_length] at ih
        simp [tlp_length, tlv_length, tlv_getE, tlp_snoc, tlp_take, ir23_d0, hlt, hw, h1, h2, h16, h14, htk, htoN, hcode, hnew, hq, hF, s1, h2nd, ih]
      · simp only [h2nd, if_false] at ih
        simp [tlp_length] at ih
        simp [tlp_length, tlv_length, tlv_getE, tlp_snoc, tlp_take, ir23_d0, hlt, hw, h1, h2, h16, h14, htk, htoN, hcode, hnew, hq, hF, s1, h2nd, ih]
    · simp only [hnew, decide_false, Bool.false_eq_true, if_false] at ih
      simp only [gF far to t1, gF far code t2] at ih
      by_cases h2nd : far[to] = IntKind.i64.wrap (far[code] + 1)
      · have hnew2 : ¬ IntKind.i64.wrap (far[code] + 1) < 0 := h2nd ▸ hnew
        simp only [h2nd, if_true] at ih
        simp [tlp_length] at ih
        simp [tlp_length, tlv_length, tlv_getE, tlp_snoc, tlp_take, ir23_d0, hlt, hw, h1, h2, h16, h14, htk, htoN, hcode, hnew, hq, hnew2, h2nd, ih]
      · simp only [h2nd, if_false] at ih
        simp [tlp_length] at ih
        simp [tlp_length, tlv_length, tlv_getE, tlp_snoc, tlp_take, ir23_d0, hlt, hw, h1, h2, h16, h14, htk, htoN, hcode, hnew, hq, h2nd, ih]
end Go.Proofs.Ytgmcjejelpeioaa.Ev
namespace Go.Proofs.Ytgmcjejelpeioaa.Ev
open Go
set_option linter.unusedVariables false
set_option linter.unusedSimpArgs false
attribute [local simp] til_getE til_length til_get til_drop til_take til_snoc til_fold take_snoc til_replicate til_set

def voysAll (a : Nat) (b c : Int) (x : List Int × Int) : List (Int × List Int) := voysS a b c x.1 x.2 0 (c + 2).toNat
def bfsS (a : Nat) (b c : Int) : Nat → Nat → List Int × List Int × List (List Int × Int) → Option (List Int × List Int × List (List Int × Int))
  | 0, _, _ => none
  | n + 1, k, s => match s.2.2[k]? with
    | none => some s
    | some x => bfsS a b c n (k + 1) ((voysAll a b c x).foldl (stepS c (codeW (c + 2) x.2 x.1).toNat x.1) s)
def okP (a : Nat) (c : Int) (x : List Int × Int) : Prop := x.1.length = 2 * a ∧ x.2 ∈ x.1 ∧ ∀ y ∈ x.1, 0 ≤ y ∧ y ≤ c + 1

theorem code_range (e : Nat) (he : e ≤ 4) : ∀ (xs : List Int) (p : Nat) (m : Nat), (∀ y ∈ xs, 0 ≤ y ∧ y < e) → p < e ^ m → m + xs.length ≤ 7 → ∃ q : Nat, codeW e p xs = q ∧ q < e ^ (m + xs.length)
  | [], p, m, _, hp, _ => ⟨p, rfl, hp⟩
  | x :: xs, p, m, hy, hp, hm => by
    simp only [List.length_cons] at hm ⊢
    obtain ⟨y, rfl⟩ : ∃ y : Nat, x = y := ⟨x.toNat, by have := hy x (List.mem_cons_self ..); omega⟩
    have hye : y < e := by have := hy (y : Int) (List.mem_cons_self ..); omega
    have h1 : p * e + y < e ^ (m + 1) := by
      rw [Nat.pow_succ]
      have : (p + 1) * e ≤ e ^ m * e := Nat.mul_le_mul_right e hp
      rw [Nat.add_mul] at this
      omega
    have hb := pow_le e (m + 1) he (by omega)
    have hpe : p * e ≤ 16384 := by omega
    have hw : IntKind.i64.wrap (IntKind.i64.wrap ((p : Int) * e) + y) = ((p * e + y : Nat) : Int) := by
      have e1001 : (p : Int) * (e : Int) = ((p * e : Nat) : Int) := by simp
      rw [e1001, w64 (n := ((p * e : Nat) : Int)) (by omega), w64 (n := ((p * e : Nat) : Int) + y) (by omega)]; omega
    obtain ⟨q, h2, h3⟩ := code_range e he xs (p * e + y) (m + 1) (fun z hz => hy z (List.mem_cons_of_mem _ hz)) h1 (by omega)
    refine ⟨q, ?_, by rw [show m + (xs.length + 1) = m + 1 + xs.length by omega]; exact h3⟩
    rw [codeW_cons, hw]; exact h2
theorem okP_code {a : Nat} {c : Int} (ha : a ≤ 3) (hc : 0 ≤ c ∧ c ≤ 2) {x : List Int × Int} (h : okP a c x) : ∃ q : Nat, codeW (c + 2) x.2 x.1 = q ∧ q < (c + 2).toNat ^ (2 * a + 1) := by
  obtain ⟨h1, h2, h3⟩ := h
  obtain ⟨p, hp⟩ : ∃ p : Nat, x.2 = p := ⟨x.2.toNat, by have := h3 _ h2; omega⟩
  have hpe := h3 _ h2
  obtain ⟨q, h4, h5⟩ := code_range (c + 2).toNat (by omega) x.1 p 1 (fun y hy => by have := h3 y hy; omega) (by rw [Nat.pow_one]; omega) (by omega)
  have he : (((c + 2).toNat : Nat) : Int) = c + 2 := by omega
  rw [he, ← hp] at h4
  exact ⟨q, h4, by rw [h1, Nat.add_comm] at h5; exact h5⟩
theorem setAll_mem (t : Int) : ∀ (g l : List Int) (y : Int), y ∈ setAll t g l → y = t ∨ y ∈ l
  | [], l, y, h => .inr h
  | k :: g, l, y, h => by
    rcases setAll_mem t g _ y h with h | h
    · exact .inl h
    · rcases List.mem_or_eq_of_mem_set h with h | h
      · exact .inr h
      · exact .inl h
theorem setAll_has (t : Int) : ∀ (g l : List Int), (t ∈ l ∨ (∃ k ∈ g, 0 ≤ k ∧ k < l.length)) → t ∈ setAll t g l
  | [], l, h => by
    rcases h with h | ⟨k, hk, _⟩
    · exact h
    · cases hk
  | k :: g, l, h => by
    refine setAll_has t g _ ?_
    rcases h with h | ⟨j, hj, h0, h1⟩
    · left
      rcases Nat.lt_or_ge k.toNat l.length with hk | hk
      · exact List.mem_iff_getElem.2 ⟨k.toNat, by simpa using hk, by simp⟩
      · rw [List.set_eq_of_length_le hk]; exact h
    · rcases List.mem_cons.1 hj with rfl | hj
      · left; exact List.mem_iff_getElem.2 ⟨j.toNat, by simp; omega, by simp⟩
      · right; exact ⟨j, hj, h0, by simpa using h1⟩
theorem voys_ok {a : Nat} {b c : Int} (hgd : good a b c = true) {x : List Int × Int} (h : okP a c x) : ∀ v ∈ voysAll a b c x, v.2.length ≤ 1000 ∧ (∀ y ∈ v.2, 0 ≤ y ∧ y < x.1.length) ∧ okP a c (setAll v.1 v.2 x.1, v.1) := by
  intro v hv
  have hgo := good_of hgd
  obtain ⟨h1, h2, h3⟩ := h
  simp only [voysAll, voysS, List.mem_flatMap, cans, List.mem_map, List.mem_filter] at hv
  obtain ⟨t, _, g, ⟨hg1, hg2⟩, rfl⟩ := hv
  have hlen := grps_lens b _ _ g hg1
  simp only [canB, Bool.and_eq_true] at hg2
  obtain ⟨⟨⟨⟨⟨⟨c1001, c1002⟩, c3⟩, c8⟩, c9⟩, c10⟩, c22⟩ := hg2
  have hin := risesB_in c8
  rw [inB_iff] at c1001 c3
  refine ⟨by show g.length ≤ 1000; omega, fun y hy => by have := hin y hy; omega, by show (setAll _ _ _).length = _; rw [setAll_length]; exact h1, ?_, fun y hy => ?_⟩
  · refine setAll_has _ _ _ (.inr ?_)
    cases g with
    | nil => simp at c3
    | cons k g => exact ⟨k, List.mem_cons_self .., by have := hin k (List.mem_cons_self ..); omega, by have := hin k (List.mem_cons_self ..); omega⟩
  · rcases setAll_mem _ _ _ y hy with h | h
    · subst h; omega
    · exact h3 y h
end Go.Proofs.Ytgmcjejelpeioaa.Ev
namespace Go.Proofs.Ytgmcjejelpeioaa.Ev
open Go
set_option linter.unusedVariables false
set_option linter.unusedSimpArgs false
attribute [local simp] til_getE til_length til_get til_drop til_take til_snoc til_fold take_snoc til_replicate til_set

theorem foldl_ok {a : Nat} {b c : Int} (hgd : good a b c = true) {x : List Int × Int} (hx : okP a c x) (code : Nat) : ∀ (vs : List (Int × List Int)) (s : List Int × List Int × List (List Int × Int)), (∀ v ∈ vs, okP a c (setAll v.1 v.2 x.1, v.1)) → (∀ y ∈ s.2.2, okP a c y) →
    (∀ y ∈ (vs.foldl (stepS c code x.1) s).2.2, okP a c y) ∧ (vs.foldl (stepS c code x.1) s).1.length = s.1.length ∧ (vs.foldl (stepS c code x.1) s).2.1.length = s.2.1.length ∧ (vs.foldl (stepS c code x.1) s).2.2.length ≤ s.2.2.length + vs.length ∧ s.2.2.length ≤ (vs.foldl (stepS c code x.1) s).2.2.length
  | [], s, _, hs => ⟨hs, rfl, rfl, by simp, by simp⟩
  | v :: vs, s, hv, hs => by
    have h1 : ∀ y ∈ (stepS c code x.1 s v).2.2, okP a c y := fun y hy => by
      simp only [stepS] at hy
      split at hy
      · rcases List.mem_append.1 hy with h | h
        · exact hs y h
        · rw [List.mem_singleton.1 h]; exact hv v (List.mem_cons_self ..)
      · exact hs y hy
    obtain ⟨k1001, k1002, k3, k8, k9⟩ := foldl_ok hgd hx code vs (stepS c code x.1 s v) (fun v hv' => hv v (List.mem_cons_of_mem _ hv')) h1
    obtain ⟨l1001, l1002, l3⟩ := stepS_len c code x.1 s v
    have l8 : s.2.2.length ≤ (stepS c code x.1 s v).2.2.length := by simp only [stepS]; split <;> simp
    exact ⟨k1001, k1002.trans l1001, k3.trans l1002, by simp only [List.foldl_cons, List.length_cons]; omega, by simp only [List.foldl_cons]; omega⟩
theorem voysAll_len {a : Nat} {b c : Int} (hgd : good a b c = true) {x : List Int × Int} (hx : okP a c x) : (voysAll a b c x).length ≤ 2 ^ 10 := by
  have hgo := good_of hgd
  have hsl := stand_length x.2 x.1 0
  have hgn := grps_len b (stand x.2 0 x.1) []
  have hp2 : 2 ^ (stand x.2 0 x.1).length ≤ 2 ^ 6 := Nat.pow_le_pow_right (by decide) (by have := hx.1; omega)
  have : ∀ d i, (voysS a b c x.1 x.2 i d).length ≤ d * 2 ^ 6 := by
    intro d
    induction d with
    | zero => intro i; simp [voysS]
    | succ d ih =>
      intro i
      have h1 : voysS a b c x.1 x.2 i (d + 1) = cans a b c x.1 x.2 i (grps b (stand x.2 0 x.1) []) ++ voysS a b c x.1 x.2 (i + 1) d := by simp [voysS, List.range'_succ]
      have h2 : (cans a b c x.1 x.2 i (grps b (stand x.2 0 x.1) [])).length ≤ (grps b (stand x.2 0 x.1) []).length := by
        simp only [cans, List.length_map]; exact List.length_filter_le _ _
      have h3 := ih (i + 1)
      rw [h1, List.length_append]; omega
  have h := this (c + 2).toNat 0
  unfold voysAll
  omega

theorem k23_1 (a : Nat) (b c : Int) (hgd : good a b c = true) (N : Nat) (hN : N = (c + 2).toNat ^ (2 * a + 1)) : ∀ (n k : Nat) (s r : List Int × List Int × List (List Int × Int)), bfsS a b c n k s = some r → (∀ x ∈ s.2.2, okP a c x) → s.1.length = N → s.2.1.length = N → s.2.2.length + n * 2 ^ 10 ≤ 2 ^ 29 → k ≤ s.2.2.length →
    ∃ k' : Int, loopF env true [2, 8, 9, 12, 13] ir23_b1 ([(2, .ptr 0 0 0), (8, .ref 1 0 N), (9, .ref 2 0 N), (12, .ref 3 0 s.2.2.length), (13, .t (ti k))], [.box 3 [.t (ti a), .t (ti b), .t (ti c)], .pure 1 (til s.1), .pure 1 (til s.2.1), .pure 2 (tlp s.2.2)]) =
      some (.exit 4, [(2, .ptr 0 0 0), (8, .ref 1 0 N), (9, .ref 2 0 N), (12, .ref 3 0 r.2.2.length), (13, .t (ti k')), (58, .t (ti k')), (59, .ref 3 0 r.2.2.length), (60, .t (ti r.2.2.length)), (61, .t (tb false))], [.box 3 [.t (ti a), .t (ti b), .t (ti c)], .pure 1 (til r.1), .pure 1 (til r.2.1), .pure 2 (tlp r.2.2)])
  | 0, k, s, r, hr, _, _, _, _, _ => by simp [bfsS] at hr
  | n + 1, k, s, r, hr, hok, h1, h2, h3, hk => by
    rw [x23_1]
    simp only [bfsS] at hr
    split at hr
    · rename_i hx
      cases hr
      refine ⟨k, ?_⟩
      have hge := List.getElem?_eq_none_iff.1 hx
      simp [ir23_d1, show ¬ (k < s.2.2.length) by omega]
    · rename_i x hx
      have hlt := (List.getElem?_eq_some_iff.1 hx).1
      have hxe : s.2.2[k] = x := (List.getElem?_eq_some_iff.1 hx).2
      have hxok := hok x (List.mem_of_getElem? hx)
      have hgo := good_of hgd
      obtain ⟨code, hc1, hc2⟩ := okP_code (by omega) (by omega) hxok
      rw [hc1] at hr
      simp only [Int.toNat_natCast] at hr
      have hNb := pow_le (c + 2).toNat (2 * a + 1) (by omega) (by omega)
      have hw : IntKind.i64.wrap ((k : Int) + 1) = (k : Int) + 1 := w64 (by omega)
      have hv := voys_ok hgd hxok
      obtain ⟨f1, f2, f3, f4, f5⟩ := foldl_ok hgd hxok code (voysAll a b c x) s (fun v hv' => (hv v hv').2.2) hok
      have hvl := voysAll_len hgd hxok
      obtain ⟨k', ih⟩ := k23_1 a b c hgd N hN n (k + 1) _ r hr f1 (f2.trans h1) (f3.trans h2) (by omega) (by omega)
      refine ⟨k', ?_⟩
      have h14 := r31 a b c (by omega) x.1 x.2 (by have := hxok.1; omega)
      rw [hc1] at h14
      have h15 := r32 a b c hgd x.1 hxok.1 x.2 hxok.2.1
      have hin := k23_0 a b c hgd x.1 hxok.1 x.2 k N code (by omega) (by omega) (voysAll a b c x) (by omega) (fun v hv' => by
        obtain ⟨q1, q2, q3⟩ := hv v hv'
        obtain ⟨q, q4, q5⟩ := okP_code (by omega) (by omega) q3
        simp only at q4
        exact ⟨q1, q2, by omega, by omega⟩) (voysAll a b c x).length 0 s (by omega) h1 h2 (by omega)
      change IsVs _ (voysAll a b c x) at h15
      rw [List.drop_zero] at hin
      generalize hZ : (voysAll a b c x).foldl (stepS c code x.1) s = Z at *
      generalize voysAll a b c x = vs at *
      obtain ⟨xl, xp⟩ := x
      obtain ⟨far, ways, queue⟩ := s
      simp only at *
      simp at ih
      rcases h15 with ⟨h15, hnil⟩ | h15
      · subst hnil
        simp at hZ
        subst hZ
        simp [ir23_d1, hlt, hxe, hw, h14, h15, tlp_length, tlp_getE]
        rw [x23_0]
        simp [ir23_d0, hw]
        exact ih
      · simp at hin
        simp [ir23_d1, hlt, hxe, hw, h14, h15, tlp_length, tlp_getE, tlv_length, hin]
        exact ih
def startS (c : Int) (N : Nat) (x : List Int × Int) : List Int × List Int × List (List Int × Int) :=
  ((List.replicate N (-1 : Int)).set (codeW (c + 2) x.2 x.1).toNat 0, (List.replicate N (0 : Int)).set (codeW (c + 2) x.2 x.1).toNat 1, [x])
theorem r23 (a : Nat) (b c : Int) (hgd : good a b c = true) (l : List Int) (p : Int) (hok : okP a c (l, p)) (n : Nat) (hn : n ≤ 2 ^ 18) (r : List Int × List Int × List (List Int × Int)) (hr : bfsS a b c n 0 (startS c ((c + 2).toNat ^ (2 * a + 1)) (l, p)) = some r) :
    ownR env 23 [.agg [ti a, ti b, ti c], .agg [tl l, ti p]] = some (.tup [.ref 0 0 ((c + 2).toNat ^ (2 * a + 1)), .ref 1 0 ((c + 2).toNat ^ (2 * a + 1)), .t (ti r.2.2.length)], [.pure 1 (til r.1), .pure 1 (til r.2.1)]) := by
  rw [own_ir e23 _ rfl]
  have hgo := good_of hgd
  have hl := hok.1
  simp only at hl
  have hw0 : IntKind.i64.wrap (c + 2) = c + 2 := w64 (by omega)
  obtain ⟨code, hc1, hc2⟩ := okP_code (by omega) (by omega) hok
  simp only at hc1
  have h3 := k23_3 a b c hgd l p l.length (by omega) l.length 0 (by omega)
  have he : (((c + 2).toNat : Nat) : Int) = c + 2 := by omega
  have hNb := pow_le (c + 2).toNat (l.length + 1) (by omega) (by omega)
  have h2 := k23_2 a b c p l ((c + 2).toNat ^ (l.length + 1)) (by omega) ((c + 2).toNat ^ (l.length + 1)) 0 (by omega)
  have h14 := r31 a b c (by omega) l p (by omega)
  rw [hc1] at h14
  obtain ⟨k', h1⟩ := k23_1 a b c hgd ((c + 2).toNat ^ (2 * a + 1)) rfl n 0 _ r hr (fun x hx => by
    simp only [startS, List.mem_singleton] at hx; rw [hx]; exact hok) (by simp [startS]) (by simp [startS]) (by simp only [startS, List.length_singleton]; omega) (by simp)
  simp only [startS, hc1, Int.toNat_natCast] at h1
  rw [hl] at h2 h3 hNb
  generalize (c + 2).toNat ^ (2 * a + 1) = N at *
  simp [he] at h3
  simp at h2
  simp [tlp] at h1
  simp [ir23, ir23_c, hw0, hl, h3, show (N : Int) ≤ 68719476736 by omega, h14, h2, hc2, h1, til_flat]
end Go.Proofs.Ytgmcjejelpeioaa.Ev
namespace Go.Proofs.Ytgmcjejelpeioaa.Ev
open Go
set_option linter.unusedVariables false
set_option linter.unusedSimpArgs false
attribute [local simp] til_getE til_length til_get til_drop til_take til_snoc til_fold take_snoc til_replicate til_set

theorem r9 (a b c : Int) : ownR env 9 [.agg [ti a, ti b, ti c]] = some (.agg [.t (ti a), .t (ti b), .t (ti c)], []) := by
  rw [own_ir e9 _ rfl]
  simp [ir9, ir9_c]
def all0 (a : Nat) : List Int × Int := (List.replicate (2 * a) 0, 0)
theorem all0_ok (a : Nat) (ha : 1 ≤ a) (c : Int) (hc : 0 ≤ c) : okP a c (all0 a) := by
  refine ⟨by simp [all0], ?_, fun y hy => ?_⟩
  · simp [all0]; omega
  · simp [all0] at hy; omega
theorem r8_bad (a b c : Int) (h : good a b c = false) : ownR env 8 [.agg [ti a, ti b, ti c]] = some (.tup [.t (ti 0), .t (tb false)], []) := by
  rw [own_ir e8 _ rfl]
  simp [ir8, ir8_c, h]
theorem r8 (a : Nat) (b c : Int) (hgd : good a b c = true) (n : Nat) (hn : n ≤ 2 ^ 18) (r : List Int × List Int × List (List Int × Int)) (hr : bfsS a b c n 0 (startS c ((c + 2).toNat ^ (2 * a + 1)) (all0 a)) = some r) :
    ownR env 8 [.agg [ti a, ti b, ti c]] = some (.tup [.t (ti r.2.2.length), .t (tb true)], []) := by
  rw [own_ir e8 _ rfl]
  have hgo := good_of hgd
  have h8 := r23 a b c hgd (List.replicate (2 * a) 0) 0 (all0_ok a (by omega) c (by omega)) n hn r hr
  have h9 := r24 a b c 0 (by omega)
  have e : (2 * (a : Int)).toNat = 2 * a := by omega
  rw [e] at h9
  generalize (c + 2).toNat ^ (2 * a + 1) = N at *
  simp [ir8, ir8_c, hgd, h9, h8]
end Go.Proofs.Ytgmcjejelpeioaa.Ev
namespace Go.Proofs.Ytgmcjejelpeioaa.Ev
open Go
set_option linter.unusedVariables false
set_option linter.unusedSimpArgs false
attribute [local simp] til_getE til_length til_get til_drop til_take til_snoc til_fold take_snoc til_set

theorem wu64 {n : Int} (h : 0 ≤ n ∧ n ≤ 18446744073709551615) : IntKind.u64.wrap n = n := IntWalk.u64_in n h
theorem and32 (y : Nat) (h : y < 2 ^ 32) : andI .u64 (y : Int) 4294967295 = y := by
  unfold andI
  have h1 : (BitVec.ofInt IntKind.u64.bits (y : Int) &&& BitVec.ofInt IntKind.u64.bits 4294967295).toNat = y := by
    show (BitVec.ofInt 64 (y : Int) &&& BitVec.ofInt 64 ((4294967295 : Nat) : Int)).toNat = y
    rw [BitVec.toNat_and, BitVec.toNat_ofInt, BitVec.toNat_ofInt]
    have e1001 : ((y : Int) % ((2 ^ 64 : Nat) : Int)).toNat = y := by omega
    have e1002 : (((4294967295 : Nat) : Int) % ((2 ^ 64 : Nat) : Int)).toNat = 2 ^ 32 - 1 := by decide
    rw [e1001, e1002, Nat.and_two_pow_sub_one_eq_mod, Nat.mod_eq_of_lt h]
  rw [h1]
  exact wu64 (by omega)
theorem shr32 (y : Nat) (h : y < 2 ^ 32) : shrI .u64 (y : Int) 32 = 0 := by
  unfold shrI
  show (y : Int).fdiv (2 ^ (min 32 64)) = 0
  rw [Int.fdiv_eq_ediv_of_nonneg _ (by decide)]
  show (y : Int) / 4294967296 = 0
  omega
theorem r80 (y : Nat) (h : y < 2 ^ 31) : ownR env 80 [.int .u64 1, .int .u64 y] = some (.tup [.t (.int .u64 0), .t (.int .u64 y)], []) := by
  rw [own_ir e80 _ rfl]
  have a1 := and32 y (by omega)
  have a2 := and32 1 (by omega)
  have a3 := shr32 y (by omega)
  have a4 := shr32 1 (by omega)
  have a5 := and32 0 (by omega)
  have a6 := shr32 0 (by omega)
  simp at a2 a4 a5 a6
  have w1 : IntKind.u64.wrap (y : Int) = y := wu64 (by omega)
  have w0 : IntKind.u64.wrap 0 = 0 := wu64 (by omega)
  simp [ir80, ir80_c, a1, a2, a3, a4, a5, a6, w1, w0]
theorem r75 (y : Nat) (h : y < 2 ^ 31) : ownR env 75 [.int .u64 1, .int .u64 y] = some (.tup [.t (.int .u64 0), .t (.int .u64 y)], []) := by
  rw [own_ir e75 _ rfl]
  simp [ir75, ir75_c, r80 y h]
theorem l64 (v : Int) (n : Nat) (hn : n ≤ 2 ^ 20) : ∀ (d c : Nat), n - c ≤ d → 0 < c → c ≤ n →
    loopF env true [7, 8] ir64_b0 ([(7, .ref 0 0 n), (8, .t (ti c))], [.pure 1 (til (List.replicate c v ++ List.replicate (n - c) 0))]) =
      some (.exit 0, [(7, .ref 0 0 n), (8, .t (ti n)), (34, .t (ti n)), (35, .ref 0 0 n), (36, .t (ti n)), (37, .t (tb false))], [.pure 1 (til (List.replicate n v))])
  | d, c, hd, hc, hcn => by
    rw [x64_0]
    by_cases hlt : c < n
    · obtain ⟨d, rfl⟩ : ∃ e, d = e + 1 := ⟨d - 1, by omega⟩
      have ih := l64 v n hn d (min (2 * c) n) (by omega) (by omega) (by omega)
      have hw : IntKind.i64.wrap ((c : Int) + ((min c (n - c) : Nat) : Int)) = ((min (2 * c) n : Nat) : Int) := by rw [w64 (by omega)]; omega
      have ht : (List.replicate c v ++ List.replicate (n - c) 0).take c = List.replicate c v := by
        rw [List.take_append_of_le_length (by simp)]; simp
      generalize hM : min (2 * c) n = M at *
      have e1001 : c + min (n - c) c = M := by omega
      have hd2 : (List.replicate c v ++ List.replicate (n - c) 0).drop M = List.replicate (n - M) 0 := by
        rw [List.drop_append, List.drop_of_length_le (by simp; omega)]
        simp
        omega
      simp [ir64_d0, hlt, show c ≤ n by omega, ht, hw, e1001, hd2, ih]
    · have : c = n := by omega
      subst this
      simp [ir64_d0]
theorem r64 (v : Int) (n : Nat) (hn0 : 0 < n) (hn : n ≤ 2 ^ 20) : ownR env 64 [tl [v], ti n] = some (.ref 0 0 n, [.pure 1 (til (List.replicate n v))]) := by
  rw [own_ir e64 _ rfl]
  have h46 := r75 n (by omega)
  have w1 : IntKind.u64.wrap (n : Int) = n := wu64 (by omega)
  have w2 : IntKind.u64.wrap 1 = 1 := wu64 (by omega)
  have w3 : IntKind.i64.wrap (n : Int) = n := w64 (by omega)
  have hl := l64 v n hn (n - 1) 1 (by omega) (by omega) (by omega)
  rw [show List.replicate 1 v = [v] from rfl] at hl
  simp only [Int.natCast_one] at hl
  have htk : List.take n [v] = [v] := List.take_of_length_le (by simp; omega)
  have htl : (til (List.replicate n 0)).tail = til (List.replicate (n - 1) 0) := by simp [til]
  simp only [List.singleton_append] at hl
  simp [ir64, ir64_c, htl, show min 1 n = 1 by omega, show min n 1 = 1 by omega, htk, h46, w1, w2, w3, show ¬ ((n : Int) < 0) by omega, show ¬ (9223372036854775807 < (n : Int)) by omega, show (n : Int) ≤ 68719476736 by omega, hl, til_flat, til_replicate]
end Go.Proofs.Ytgmcjejelpeioaa.Ev
namespace Go.Proofs.Ytgmcjejelpeioaa.Ev
open Go
set_option linter.unusedVariables false
set_option linter.unusedSimpArgs false
attribute [local simp] til_getE til_length til_get til_drop til_take til_snoc til_fold take_snoc til_set
def cntR (l : List Int) : Nat := l.countP fun d => decide (0 ≤ d)
theorem l27 (g : List Int) (hg : g.length ≤ 1000000) : ∀ (d i : Nat) (o : Nat), i + d = g.length → o ≤ i →
    loopF env true [5, 11, 12, 13] ir27_b0 ([(5, .t (ti o)), (11, .ref 0 0 g.length), (12, .t (ti g.length)), (13, .t (ti i))], [.pure 1 (til g)]) =
      some (.exit 0, [(5, .t (ti ((o + cntR (g.drop i) : Nat) : Int))), (11, .ref 0 0 g.length), (12, .t (ti g.length)), (13, .t (ti g.length)), (14, .t (tb false))], [.pure 1 (til g)])
  | 0, i, o, hi, ho => by
    rw [x27_0]
    have : i = g.length := by omega
    subst this
    simp [ir27_d0, cntR]
  | d + 1, i, o, hi, ho => by
    rw [x27_0]
    have hlt : i < g.length := by omega
    have hw : IntKind.i64.wrap ((i : Int) + 1) = (i : Int) + 1 := w64 (by omega)
    have hw0 : IntKind.i64.wrap (o : Int) = o := w64 (by omega)
    have hw1 : IntKind.i64.wrap ((o : Int) + 1) = (o : Int) + 1 := w64 (by omega)
    by_cases h : 0 ≤ g[i]
    · have hs : o + cntR (g.drop i) = o + 1 + cntR (g.drop (i + 1)) := by rw [List.drop_eq_getElem_cons hlt]; simp only [cntR, List.countP_cons, h, decide_true, if_true]; omega
      have ih := l27 g hg d (i + 1) (o + 1) (by omega) (by omega)
      rw [hs]
      generalize o + 1 + cntR (g.drop (i + 1)) = Z at *
      simp at ih
      simp [ir27_d0, hlt, hw, hw1, h, ih]
    · have hs : o + cntR (g.drop i) = o + cntR (g.drop (i + 1)) := by rw [List.drop_eq_getElem_cons hlt]; simp only [cntR, List.countP_cons, h, decide_false, Bool.false_eq_true, if_false, Nat.add_zero]
      have ih := l27 g hg d (i + 1) o (by omega) (by omega)
      rw [hs]
      generalize o + cntR (g.drop (i + 1)) = Z at *
      simp at ih
      simp [ir27_d0, hlt, hw, hw0, h, ih]
end Go.Proofs.Ytgmcjejelpeioaa.Ev
namespace Go.Proofs.Ytgmcjejelpeioaa.Ev
open Go
set_option linter.unusedVariables false
set_option linter.unusedSimpArgs false
attribute [local simp] til_getE til_length til_get til_drop til_take til_snoc til_fold take_snoc til_set

theorem r26 (a b c : Int) (h : 0 ≤ a ∧ a ≤ 10) : ownFR env 26 [.agg [ti a, ti b, ti c]] = some (.agg [.t (ti ((4 ^ ((2 * a).toNat + 1) : Nat) : Int)), .clo 41 [] [.ptr 0 0 0]], [.box 3 [.t (ti a), .t (ti b), .t (ti c)]]) := by
  rw [ownF_ir e26 _ rfl]
  have h18 := r40 a b c h
  generalize (4 : Nat) ^ ((2 * a).toNat + 1) = N at *
  simp [ir26, ir26_c, h18]
end Go.Proofs.Ytgmcjejelpeioaa.Ev
namespace Go.Proofs.Ytgmcjejelpeioaa.Ev
open Go
set_option linter.unusedVariables false
set_option linter.unusedSimpArgs false
attribute [local simp] til_getE til_length til_get til_drop til_take til_snoc til_fold take_snoc til_set
structure CbIn (H : Heap) (iw is it io k : Nat) (a b c : Int) (l : List Int) (p t : Int) (vs : List (Int × List Int)) : Prop where
  w : H[iw]? = some (.box 3 [.t (ti a), .t (ti b), .t (ti c)])
  s : H[is]? = some (.box 2 [.t (tl l), .t (ti p)])
  t : H[it]? = some (.box 1 [.t (ti t)])
  o : H[io]? = some (.box 1 [.ref k 0 vs.length])
  v : H[k]? = some (.pure 2 (tlv vs))

theorem get_app2 {α : Type} {H X : List α} {i : Nat} {b : α} (h : H[i]? = some b) : (H ++ X)[i]? = some b := by
  rw [List.getElem?_append_left (List.getElem?_eq_some_iff.1 h).1]; exact h
theorem d60 (H : Heap) (iw is it io k : Nat) (a b c : Int) (hc : 0 ≤ c ∧ c ≤ 2) (l : List Int) (hl : l.length ≤ 100) (p t : Int) (vs : List (Int × List Int)) (hvs : vs.length ≤ 2 ^ 30) (h : CbIn H iw is it io k a b c l p t vs) (g : List Int) (hg : g.length ≤ 100) (hk : ∀ x ∈ g, 0 ≤ x ∧ x < l.length) :
    ∃ v H' k', den env 60 [.t (tl g), .ptr iw 0 0, .ptr is 0 0, .ptr it 0 0, .ptr io 0 0] H = some (v, H') ∧ H.length ≤ H'.length ∧ (k' = k ∨ H.length ≤ k') ∧ CbIn H' iw is it io k' a b c l p t (if calmI g g && calmP c (setAll t g l) then vs ++ [(t, g)] else vs) ∧ ∀ id, id < H.length → id ≠ io → id ≠ k → H'[id]? = H[id]? := by
  rw [den_ir e60 _ _ rfl (.inl rfl)]
  have h34 := r61 g (by omega)
  cases h1 : calmI g g with
  | false =>
    refine ⟨.tup [], H, k, ?_, Nat.le_refl _, .inl rfl, h, fun _ _ _ _ => rfl⟩
    simp [ir60, ir60_c, h34, h1]
  | true =>
    have h22 := r44 l g p t (by omega) (by omega) hk
    have hsl := setAll_length t g l
    have h35 := r62 a b c hc t (setAll t g l) (by rw [setAll_length]; omega)
    have htk : (setAll t g l).take l.length = setAll t g l := List.take_of_length_le (by omega)
    have ho : ∀ X, (H ++ X)[io]? = some (.box 1 [.ref k 0 vs.length]) := fun X => get_app2 h.o
    have ht : ∀ X, (H ++ X)[it]? = some (.box 1 [.t (ti t)]) := fun X => get_app2 h.t
    have hv : ∀ X, (H ++ X)[k]? = some (.pure 2 (tlv vs)) := fun X => get_app2 h.v
    generalize setAll t g l = L at *
    cases h2 : calmP c L with
    | false =>
      refine ⟨.tup [], H ++ [.pure 1 (til L)], k, ?_, by simp, .inl rfl, ⟨get_app2 h.w, get_app2 h.s, get_app2 h.t, get_app2 h.o, get_app2 h.v⟩, fun id hid _ _ => get_app hid⟩
      simp [ir60, ir60_c, h34, h1, h.w, h.s, h.t, h22, h35, htk, h2]
    | true =>
      have hne : k ≠ io := fun e => by have := h.o; rw [← e, h.v] at this; cases this
      have hkl := (List.getElem?_eq_some_iff.1 h.v).1
      have hiol := (List.getElem?_eq_some_iff.1 h.o).1
      have hio : ∀ X Y, ((H ++ X).set k .dead ++ Y)[io]? = some (.box 1 [.ref k 0 vs.length]) := fun X Y => get_app2 (by rw [List.getElem?_set_ne hne]; exact ho X)
      refine ⟨.tup [], ((H ++ [Blk.pure 1 (til L), Blk.pure 2 [.agg [.int .i64 t, .lst 1 (til g)]]]).set k Blk.dead ++ [Blk.pure 2 (tlv (vs ++ [(t, g)]))]).set io (.box 1 [.ref (H.length + 2) 0 (vs.length + 1)]), H.length + 2, ?_, by simp; omega, .inr (by omega), ?_, fun id hid h1 h2 => ?_⟩
      · simp [ir60, ir60_c, h34, h1, h.w, h.s, h.t, h22, h35, htk, h2, ho, ht, hv, tlv_length, tlv_take, show vs.length + 1 ≤ 68719476736 by omega, hio, tlv_snoc]
      · have keep : ∀ {id : Nat} {x : Blk}, H[id]? = some x → id ≠ io → id ≠ k → (((H ++ [Blk.pure 1 (til L), Blk.pure 2 [.agg [.int .i64 t, .lst 1 (til g)]]]).set k Blk.dead ++ [Blk.pure 2 (tlv (vs ++ [(t, g)]))]).set io (.box 1 [.ref (H.length + 2) 0 (vs.length + 1)]))[id]? = some x := fun {id x} hx n1 n2 => by
          rw [List.getElem?_set_ne (Ne.symm n1)]
          exact get_app2 (by rw [List.getElem?_set_ne (Ne.symm n2)]; exact get_app2 hx)
        simp only [h1, Bool.and_self, if_true]
        have hw1 : iw ≠ io := fun e => by have := h.o; rw [← e, h.w] at this; cases this
        have hw2 : iw ≠ k := fun e => by have := h.v; rw [← e, h.w] at this; cases this
        have hs1 : is ≠ io := fun e => by have := h.o; rw [← e, h.s] at this; cases this
        have hs2 : is ≠ k := fun e => by have := h.v; rw [← e, h.s] at this; cases this
        have ht1 : it ≠ io := fun e => by have := h.o; rw [← e, h.t] at this; cases this
        have ht2 : it ≠ k := fun e => by have := h.v; rw [← e, h.t] at this; cases this
        refine ⟨keep h.w hw1 hw2, keep h.s hs1 hs2, keep h.t ht1 ht2, ?_, ?_⟩
        · rw [List.getElem?_set_self (by simp; omega)]; simp
        · rw [List.getElem?_set_ne (by omega), List.getElem?_append_right (by simp)]
          simp
      · rw [List.getElem?_set_ne (Ne.symm h1), List.getElem?_append_left (by simp; omega), List.getElem?_set_ne (Ne.symm h2), get_app hid]
end Go.Proofs.Ytgmcjejelpeioaa.Ev
namespace Go.Proofs.Ytgmcjejelpeioaa.Ev
open Go
set_option linter.unusedVariables false
set_option linter.unusedSimpArgs false
attribute [local simp] til_getE til_length til_get til_drop til_take til_snoc til_fold take_snoc til_set

def raP (v : V) (p : List V × List (Nat × Blk)) : Option (List V × List (Nat × Blk)) := some (v :: p.1, p.2)
@[simp] theorem raP_eq (v : V) (vs : List V) (l : List (Nat × Blk)) : raP v (vs, l) = some (v :: vs, l) := rfl
def raQ (H : Heap) (vs : List V) (q : T × List (Nat × Blk)) : Option (List V × List (Nat × Blk)) := andO (callM.rdArgs H vs) (fun p => some (.t q.1 :: p.1, q.2 ++ p.2))
@[simp] theorem raQ_eq (H : Heap) (vs : List V) (t : T) (l : List (Nat × Blk)) : raQ H vs (t, l) = andO (callM.rdArgs H vs) (fun p => some (.t t :: p.1, l ++ p.2)) := rfl
@[simp] theorem ra_nil (H : Heap) : callM.rdArgs H [] = some ([], []) := rfl
@[simp] theorem ra_ptr (H : Heap) (i j c : Nat) (vs : List V) : callM.rdArgs H (.ptr i j c :: vs) = andO (callM.rdArgs H vs) (raP (.ptr i j c)) := by
  simp only [callM.rdArgs]; cases callM.rdArgs H vs <;> rfl
@[simp] theorem ra_map (H : Heap) (i : Nat) (vs : List V) : callM.rdArgs H (.map i :: vs) = andO (callM.rdArgs H vs) (raP (.map i)) := by
  simp only [callM.rdArgs]; cases callM.rdArgs H vs <;> rfl
@[simp] theorem ra_clo (H : Heap) (f : FuncId) (a b : List V) (vs : List V) : callM.rdArgs H (.clo f a b :: vs) = andO (callM.rdArgs H vs) (raP (.clo f a b)) := by
  simp only [callM.rdArgs]; cases callM.rdArgs H vs <;> rfl
@[simp] theorem ra_t (H : Heap) (x : T) (vs : List V) : callM.rdArgs H (.t x :: vs) = andO (callM.rdArgs H vs) (raP (.t x)) := by
  simp only [callM.rdArgs, depth_eq, r_t6]; cases callM.rdArgs H vs <;> rfl
@[simp] theorem ra_ref (H : Heap) (i o n : Nat) (vs : List V) : callM.rdArgs H (.ref i o n :: vs) = andO (rd H 6 (.ref i o n)) (raQ H vs) := by
  simp only [callM.rdArgs, depth_eq]
  cases rd H 6 (.ref i o n) with
  | none => rfl
  | some p => simp only [andO_some, raQ]; cases callM.rdArgs H vs <;> rfl
@[simp] theorem ra_agg (H : Heap) (x : List V) (vs : List V) : callM.rdArgs H (.agg x :: vs) = andO (rd H 6 (.agg x)) (raQ H vs) := by
  simp only [callM.rdArgs, depth_eq]
  cases rd H 6 (.agg x) with
  | none => rfl
  | some p => simp only [andO_some, raQ]; cases callM.rdArgs H vs <;> rfl
@[simp] theorem refC2_some (g : List V → Heap → Option (V × Heap)) (H : Heap) (as : List V) (l : List (Nat × Blk)) : refC2 g H (some (as, l)) = g as (frz H l) := rfl
structure Steps (f : FuncId) (ps : List V) (Inv : List (List Int) → (Nat → Prop) → Heap → Prop) (ok : List Int → Prop) (M : Nat) : Prop where
  call : ∀ (i o n : Nat) (H : Heap), evCall env (den env) f (.ref i o n :: ps) H = refC2 (den env f) H (andO (rd H 6 (.ref i o n)) (raQ H ps))
  ra : ∀ H, callM.rdArgs H ps = some (ps, [])
  step : ∀ gs W H g, gs.length < M → ok g → Inv gs W H → ∃ v H' W', den env f (.t (tl g) :: ps) H = some (v, H') ∧ H.length ≤ H'.length ∧ Inv (gs ++ [g]) W' H' ∧ (∀ id, W' id → W id ∨ H.length ≤ id) ∧ (∀ id, id < H.length → ¬ W id → H'[id]? = H[id]?)
  stable : ∀ gs W H H', Inv gs W H → H.length ≤ H'.length → (∀ id, W id → H'[id]? = H[id]?) → Inv gs W H'
  small : ∀ gs W H, Inv gs W H → ∀ id, W id → id < H.length

theorem cloneB (B : T) (l : List Int) (hB : B = .nil ∧ l = [] ∨ B = tl l) (h : l.length ≤ 68719476736) : primR (cloneP 1) [B] = some (.ref 0 0 l.length, [.pure 1 (til l)]) := by
  rcases hB with ⟨rfl, rfl⟩ | rfl
  · simp [primR_E, primE, cloneP, til]
  · exact clone_til l h
theorem lenB (H : Heap) (B : T) (l : List Int) (hB : B = .nil ∧ l = [] ∨ B = tl l) : evLen H 1 (.t B) = some (l.length : Int) := by
  rcases hB with ⟨rfl, rfl⟩ | rfl <;> simp
end Go.Proofs.Ytgmcjejelpeioaa.Ev
