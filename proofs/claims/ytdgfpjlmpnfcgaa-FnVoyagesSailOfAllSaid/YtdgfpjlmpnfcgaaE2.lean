/- The evaluator and what it gives of the functions, part 2. No conditions of ours: a law's row is in YtdgfpjlmpnfcgaaLFnVoyagesSailOfAll. -/
import Derived.Test.YtdgfpjlmpnfcgaaE1
import Derived.IntWalk
namespace Go.Proofs.Ytdgfpjlmpnfcgaa.Ev
def ir41_c : C := (.seq (.reg false [] [⟨(some 1), none, (.box (.v 0))⟩, ⟨(some 2), none, (.mv (.k (.bool false)))⟩]) (.seq (.reg false [] [⟨(some 3), none, (.fad 0 (.v 1))⟩, ⟨(some 4), none, (.ld false 1 (.v 3))⟩, ⟨(some 5), none, (.call 68 [(.v 4), (.k (.int .i64 1)), (.k (.int .i64 3))])⟩, ⟨(some 6), none, (.mv (.v 5))⟩, ⟨(some 7), (some (6, true)), (.fad 1 (.v 1))⟩, ⟨(some 8), (some (6, true)), (.ld false 1 (.v 7))⟩, ⟨(some 9), (some (6, true)), (.call 68 [(.v 8), (.k (.int .i64 1)), (.k (.int .i64 3))])⟩, ⟨(some 10), none, (.pick (.v 6) (.v 9) (.k (.bool false)))⟩, ⟨(some 11), none, (.mv (.v 10))⟩, ⟨(some 12), (some (11, true)), (.fad 2 (.v 1))⟩, ⟨(some 13), (some (11, true)), (.ld false 1 (.v 12))⟩, ⟨(some 14), (some (11, true)), (.call 68 [(.v 13), (.k (.int .i64 0)), (.k (.int .i64 2))])⟩, ⟨(some 15), none, (.pick (.v 11) (.v 14) (.k (.bool false)))⟩, ⟨(some 2), none, (.mv (.v 15))⟩]) .ret))
def ir41 : Fn := ⟨.own, 1, 16, [(.tmp 2)], ir41_c⟩
def ir50_d0 : C := (.seq (.seq (.reg false [] [⟨(some 8), none, (.fad 0 (.v 5))⟩, ⟨(some 9), none, (.ld false 1 (.v 8))⟩, ⟨(some 10), none, (.len 1 (.v 9))⟩, ⟨(some 11), none, (.fad 0 (.v 2))⟩, ⟨(some 12), none, (.ld false 1 (.v 11))⟩, ⟨(some 13), none, (.bin .mul .none (.k (.int .i64 2)) (.v 12))⟩, ⟨(some 14), none, (.bin .lss .none (.v 10) (.v 13))⟩]) (.cond (.v 14) .skip (.exit 0))) (.block 1 (.reg false [] [⟨(some 15), none, (.fad 0 (.v 5))⟩, ⟨(some 16), none, (.ld false 1 (.v 15))⟩, ⟨(some 17), none, (.mv (.v 1))⟩, ⟨(some 18), none, (.bsl false 1 1 (.int .i64 0) [(0, (.v 17))])⟩, ⟨(some 19), none, (.app false 1 (.v 16) (.v 18))⟩, ⟨(some 20), none, (.fad 0 (.v 5))⟩, ⟨none, none, (.st 1 (.v 20) (.v 19))⟩])))
def ir50_b0 : C := ir50_d0
def ir50_l0 : C := .loop true [1, 2, 4, 5] ir50_b0
def ir50_c : C := (.seq (.reg false [] [⟨(some 2), none, (.box (.v 0))⟩, ⟨(some 4), none, (.alc 2 [.nil, (.int .i64 0)])⟩]) (.seq (.reg false [] [⟨(some 6), none, (.mv (.v 1))⟩, ⟨(some 7), none, (.bld [.nil, (.int .i64 0)] [(1, (1, (.v 6)))])⟩, ⟨(some 5), none, (.alc 2 [.nil, (.int .i64 0)])⟩, ⟨none, none, (.st 2 (.v 5) (.v 7))⟩]) (.seq (.block 0 ir50_l0) (.seq (.reg false [] [⟨(some 21), none, (.ld true 2 (.v 5))⟩, ⟨none, none, (.st 2 (.v 4) (.v 21))⟩]) .ret))))
def ir50 : Fn := ⟨.own, 2, 22, [(.cell 4 true 2)], ir50_c⟩
def ir12_c : C := (.seq (.reg false [] [⟨(some 1), none, (.box (.v 0))⟩, ⟨(some 2), none, (.mv (.k (.bool false)))⟩]) (.seq (.reg false [] [⟨(some 3), none, (.fad 0 (.v 1))⟩, ⟨(some 4), none, (.ld false 1 (.v 3))⟩, ⟨(some 5), none, (.call 40 [(.v 4), (.k (.int .i64 1)), (.k (.int .i64 3))])⟩, ⟨(some 6), none, (.mv (.v 5))⟩, ⟨(some 7), (some (6, true)), (.fad 1 (.v 1))⟩, ⟨(some 8), (some (6, true)), (.ld false 1 (.v 7))⟩, ⟨(some 9), (some (6, true)), (.call 40 [(.v 8), (.k (.int .i64 1)), (.k (.int .i64 3))])⟩, ⟨(some 10), none, (.pick (.v 6) (.v 9) (.k (.bool false)))⟩, ⟨(some 11), none, (.mv (.v 10))⟩, ⟨(some 12), (some (11, true)), (.fad 2 (.v 1))⟩, ⟨(some 13), (some (11, true)), (.ld false 1 (.v 12))⟩, ⟨(some 14), (some (11, true)), (.call 40 [(.v 13), (.k (.int .i64 0)), (.k (.int .i64 2))])⟩, ⟨(some 15), none, (.pick (.v 11) (.v 14) (.k (.bool false)))⟩, ⟨(some 2), none, (.mv (.v 15))⟩]) .ret))
def ir12 : Fn := ⟨.own, 1, 16, [(.tmp 2)], ir12_c⟩
def ir34_d0 : C := (.seq (.reg false [] [⟨(some 43), none, (.bin .lss .none (.v 42) (.v 41))⟩]) (.seq (.cond (.v 43) .skip (.exit 4)) (.seq (.block 5 (.seq (.reg false [] [⟨(some 44), none, (.ixa 1 (.v 40) (.v 42))⟩, ⟨(some 45), none, (.ld false 1 (.v 44))⟩, ⟨(some 11), none, (.mv (.v 45))⟩]) (.seq (.reg false [] [⟨(some 46), none, (.mv (.v 9))⟩, ⟨(some 47), none, (.mv (.v 11))⟩, ⟨(some 48), none, (.bld [(.int .i64 0), .nil] [(0, (1, (.v 46))), (1, (1, (.v 47)))])⟩, ⟨(some 12), none, (.alc 2 [(.int .i64 0), .nil])⟩, ⟨none, none, (.st 2 (.v 12) (.v 48))⟩]) (.seq (.reg false [] [⟨(some 49), none, (.ld true 3 (.v 2))⟩, ⟨(some 50), none, (.ld true 2 (.v 3))⟩, ⟨(some 51), none, (.ld true 2 (.v 12))⟩, ⟨(some 52), none, (.call 45 [(.v 49), (.v 50), (.v 51)])⟩]) (.cond (.v 52) (.reg false [] [⟨(some 53), none, (.mv (.v 8))⟩, ⟨(some 54), none, (.ld true 2 (.v 12))⟩, ⟨(some 55), none, (.bsl false 2 1 (.agg [(.int .i64 0), .nil]) [(0, (.v 54))])⟩, ⟨(some 56), none, (.app false 2 (.v 53) (.v 55))⟩, ⟨(some 8), none, (.mv (.v 56))⟩]) .skip))))) (.reg false [] [⟨(some 57), none, (.bin .add .none (.v 42) (.k (.int .i64 1)))⟩, ⟨(some 42), none, (.mv (.v 57))⟩]))))
def ir34_b0 : C := ir34_d0
def ir34_l0 : C := .loop true [2, 3, 5, 8, 9, 40, 41, 42] ir34_b0
def ir34_d1 : C := (.seq (.seq (.reg false [] [⟨(some 30), none, (.mv (.v 9))⟩, ⟨(some 31), none, (.fad 2 (.v 2))⟩, ⟨(some 32), none, (.ld false 1 (.v 31))⟩, ⟨(some 33), none, (.bin .add .none (.v 32) (.k (.int .i64 1)))⟩, ⟨(some 34), none, (.bin .leq .none (.v 30) (.v 33))⟩]) (.cond (.v 34) .skip (.exit 2))) (.seq (.block 3 (.seq (.reg false [] [⟨(some 37), none, (.mv (.v 5))⟩, ⟨(some 38), none, (.fad 1 (.v 2))⟩, ⟨(some 39), none, (.ld false 1 (.v 38))⟩, ⟨(some 40), none, (.call 61 [(.v 37), (.k .nil), (.k (.int .i64 0)), (.v 39)])⟩, ⟨(some 41), none, (.len 1 (.v 40))⟩, ⟨(some 42), none, (.mv (.k (.int .i64 0)))⟩]) (.block 4 ir34_l0))) (.reg false [] [⟨(some 35), none, (.mv (.v 9))⟩, ⟨(some 36), none, (.bin .add .none (.v 35) (.k (.int .i64 1)))⟩, ⟨(some 9), none, (.mv (.v 36))⟩])))
def ir34_b1 : C := ir34_d1
def ir34_l1 : C := .loop true [2, 3, 5, 8, 9] ir34_b1
def ir34_d2 : C := (.seq (.reg false [] [⟨(some 17), none, (.bin .lss .none (.v 16) (.v 15))⟩]) (.seq (.cond (.v 17) .skip (.exit 0)) (.seq (.block 1 (.seq (.reg false [] [⟨(some 18), none, (.mv (.v 16))⟩, ⟨(some 19), none, (.ixa 1 (.v 14) (.v 16))⟩, ⟨(some 20), none, (.ld false 1 (.v 19))⟩, ⟨(some 6), none, (.mv (.v 18))⟩, ⟨(some 7), none, (.mv (.v 20))⟩]) (.seq (.reg false [] [⟨(some 21), none, (.mv (.v 7))⟩, ⟨(some 22), none, (.fad 1 (.v 3))⟩, ⟨(some 23), none, (.ld false 1 (.v 22))⟩, ⟨(some 24), none, (.bin .eql .none (.v 21) (.v 23))⟩]) (.cond (.v 24) (.reg false [] [⟨(some 25), none, (.mv (.v 5))⟩, ⟨(some 26), none, (.mv (.v 6))⟩, ⟨(some 27), none, (.bsl false 1 1 (.int .i64 0) [(0, (.v 26))])⟩, ⟨(some 28), none, (.app false 1 (.v 25) (.v 27))⟩, ⟨(some 5), none, (.mv (.v 28))⟩]) .skip)))) (.reg false [] [⟨(some 29), none, (.bin .add .none (.v 16) (.k (.int .i64 1)))⟩, ⟨(some 16), none, (.mv (.v 29))⟩]))))
def ir34_b2 : C := ir34_d2
def ir34_l2 : C := .loop true [2, 3, 5, 14, 15, 16] ir34_b2
def ir34_c : C := (.seq (.reg false [] [⟨(some 2), none, (.box (.v 0))⟩, ⟨(some 3), none, (.box (.v 1))⟩, ⟨(some 4), none, (.mv (.k .nil))⟩]) (.seq (.reg false [] [⟨(some 5), none, (.mv (.k .nil))⟩]) (.seq (.seq (.reg false [] [⟨(some 13), none, (.fad 0 (.v 3))⟩, ⟨(some 14), none, (.ld false 1 (.v 13))⟩, ⟨(some 15), none, (.len 1 (.v 14))⟩, ⟨(some 16), none, (.mv (.k (.int .i64 0)))⟩]) (.block 0 ir34_l2)) (.seq (.reg false [] [⟨(some 8), none, (.mv (.k .nil))⟩]) (.seq (.seq (.reg false [] [⟨(some 9), none, (.mv (.k (.int .i64 0)))⟩]) (.block 2 ir34_l1)) (.seq (.reg false [] [⟨(some 58), none, (.mv (.v 8))⟩, ⟨(some 4), none, (.mv (.v 58))⟩]) .ret))))))
def ir34 : Fn := ⟨.ownF, 2, 59, [(.tmp 4)], ir34_c⟩
def ir46_d0 : C := (.seq (.reg false [] [⟨(some 18), none, (.bin .lss .none (.v 17) (.v 16))⟩]) (.seq (.cond (.v 18) .skip (.exit 0)) (.seq (.block 1 (.seq (.reg false [] [⟨(some 19), none, (.ixa 1 (.v 15) (.v 17))⟩, ⟨(some 20), none, (.ld false 1 (.v 19))⟩, ⟨(some 7), none, (.mv (.v 20))⟩]) (.reg false [] [⟨(some 21), none, (.fad 0 (.v 5))⟩, ⟨(some 22), none, (.ld false 1 (.v 21))⟩, ⟨(some 23), none, (.mv (.v 7))⟩, ⟨(some 24), none, (.fad 0 (.v 3))⟩, ⟨(some 25), none, (.ld false 1 (.v 24))⟩, ⟨(some 26), none, (.ixa 1 (.v 22) (.v 23))⟩, ⟨none, none, (.st 1 (.v 26) (.v 25))⟩]))) (.reg false [] [⟨(some 27), none, (.bin .add .none (.v 17) (.k (.int .i64 1)))⟩, ⟨(some 17), none, (.mv (.v 27))⟩]))))
def ir46_b0 : C := ir46_d0
def ir46_l0 : C := .loop true [3, 4, 5, 15, 16, 17] ir46_b0
def ir46_c : C := (.seq (.reg false [] [⟨(some 2), none, (.box (.v 0))⟩, ⟨(some 3), none, (.box (.v 1))⟩, ⟨(some 4), none, (.alc 2 [.nil, (.int .i64 0)])⟩]) (.seq (.reg true [0, 1, 3, 0, 8, 31, 0, 127] [⟨(some 8), none, (.fad 0 (.v 2))⟩, ⟨(some 9), none, (.ld false 1 (.v 8))⟩, ⟨(some 10), none, (.call 75 [(.v 9)])⟩, ⟨(some 11), none, (.fad 0 (.v 3))⟩, ⟨(some 12), none, (.ld false 1 (.v 11))⟩, ⟨(some 13), none, (.bld [.nil, (.int .i64 0)] [(0, (1, (.v 10))), (1, (1, (.v 12)))])⟩, ⟨(some 5), none, (.alc 2 [.nil, (.int .i64 0)])⟩, ⟨none, none, (.st 2 (.v 5) (.v 13))⟩]) (.seq (.seq (.reg false [] [⟨(some 14), none, (.fad 1 (.v 3))⟩, ⟨(some 15), none, (.ld false 1 (.v 14))⟩, ⟨(some 16), none, (.len 1 (.v 15))⟩, ⟨(some 17), none, (.mv (.k (.int .i64 0)))⟩]) (.block 0 ir46_l0)) (.seq (.reg false [] [⟨(some 28), none, (.ld true 2 (.v 5))⟩, ⟨none, none, (.st 2 (.v 4) (.v 28))⟩]) .ret))))
def ir46 : Fn := ⟨.own, 2, 29, [(.cell 4 true 2)], ir46_c⟩
def ir32_d0 : C := (.seq (.reg false [] [⟨(some 17), none, (.bin .lss .none (.v 16) (.v 15))⟩]) (.seq (.cond (.v 17) .skip (.exit 0)) (.seq (.block 1 (.seq (.reg false [] [⟨(some 18), none, (.mv (.v 16))⟩, ⟨(some 7), none, (.alc 1 [(.int .i64 0)])⟩, ⟨none, none, (.st 1 (.v 7) (.v 18))⟩]) (.seq (.seq (.reg false [] [⟨(some 19), none, (.ld false 1 (.v 7))⟩, ⟨(some 20), none, (.fad 1 (.v 3))⟩, ⟨(some 21), none, (.ld false 1 (.v 20))⟩, ⟨(some 22), none, (.bin .eql .none (.v 19) (.v 21))⟩]) (.cond (.v 22) (.exit 1) .skip)) (.reg false [] [⟨(some 23), none, (.mv (.v 6))⟩, ⟨(some 24), none, (.fad 1 (.v 2))⟩, ⟨(some 25), none, (.ld false 1 (.v 24))⟩, ⟨(some 26), none, (.mkf 59 [] [(.v 2), (.v 3), (.v 7), (.v 5)])⟩, ⟨(some 27), none, (.call 58 [(.v 23), (.v 25), (.v 26)])⟩])))) (.reg false [] [⟨(some 28), none, (.bin .add .none (.v 16) (.k (.int .i64 1)))⟩, ⟨(some 16), none, (.mv (.v 28))⟩]))))
def ir32_b0 : C := ir32_d0
def ir32_l0 : C := .loop true [2, 3, 5, 6, 15, 16] ir32_b0
def ir32_c : C := (.seq (.reg false [] [⟨(some 2), none, (.box (.v 0))⟩, ⟨(some 3), none, (.box (.v 1))⟩, ⟨(some 4), none, (.mv (.k .nil))⟩]) (.seq (.reg false [] [⟨(some 8), none, (.bsl false 2 0 (.agg [(.int .i64 0), .nil]) [])⟩, ⟨(some 5), none, (.alc 1 [.nil])⟩, ⟨none, none, (.st 1 (.v 5) (.v 8))⟩]) (.seq (.reg false [] [⟨(some 9), none, (.ld true 2 (.v 3))⟩, ⟨(some 10), none, (.fad 1 (.v 3))⟩, ⟨(some 11), none, (.ld false 1 (.v 10))⟩, ⟨(some 12), none, (.call 57 [(.v 9), (.v 11)])⟩, ⟨(some 6), none, (.mv (.v 12))⟩]) (.seq (.seq (.reg false [] [⟨(some 13), none, (.ld true 3 (.v 2))⟩, ⟨(some 14), none, (.call 51 [(.v 13)])⟩, ⟨(some 15), none, (.bin .add .none (.v 14) (.k (.int .i64 1)))⟩, ⟨(some 16), none, (.mv (.k (.int .i64 0)))⟩]) (.block 0 ir32_l0)) (.seq (.reg false [] [⟨(some 29), none, (.ld false 1 (.v 5))⟩, ⟨(some 4), none, (.mv (.v 29))⟩]) .ret)))))
def ir32 : Fn := ⟨.ownF, 2, 30, [(.tmp 4)], ir32_c⟩
def ir43_d0 : C := (.seq (.reg false [] [⟨(some 18), none, (.bin .lss .none (.v 17) (.v 16))⟩]) (.seq (.cond (.v 18) .skip (.exit 0)) (.seq (.block 1 (.seq (.reg false [] [⟨(some 19), none, (.ixa 1 (.v 15) (.v 17))⟩, ⟨(some 20), none, (.ld false 1 (.v 19))⟩, ⟨(some 9), none, (.mv (.v 20))⟩]) (.reg false [] [⟨(some 21), none, (.fad 0 (.v 7))⟩, ⟨(some 22), none, (.ld false 1 (.v 21))⟩, ⟨(some 23), none, (.mv (.v 9))⟩, ⟨(some 24), none, (.mv (.v 1))⟩, ⟨(some 25), none, (.ixa 1 (.v 22) (.v 23))⟩, ⟨none, none, (.st 1 (.v 25) (.v 24))⟩]))) (.reg false [] [⟨(some 26), none, (.bin .add .none (.v 17) (.k (.int .i64 1)))⟩, ⟨(some 17), none, (.mv (.v 26))⟩]))))
def ir43_b0 : C := ir43_d0
def ir43_l0 : C := .loop true [1, 6, 7, 15, 16, 17] ir43_b0
def ir43_c : C := (.seq (.reg false [] [⟨(some 3), none, (.box (.v 0))⟩, ⟨(some 6), none, (.alc 2 [.nil, (.int .i64 0)])⟩]) (.seq (.reg false [] [⟨(some 10), none, (.fad 0 (.v 3))⟩, ⟨(some 11), none, (.ld false 1 (.v 10))⟩, ⟨(some 12), none, (.call 72 [(.v 11)])⟩, ⟨(some 13), none, (.mv (.v 1))⟩, ⟨(some 14), none, (.bld [.nil, (.int .i64 0)] [(0, (1, (.v 12))), (1, (1, (.v 13)))])⟩, ⟨(some 7), none, (.alc 2 [.nil, (.int .i64 0)])⟩, ⟨none, none, (.st 2 (.v 7) (.v 14))⟩]) (.seq (.seq (.reg false [] [⟨(some 15), none, (.mv (.v 2))⟩, ⟨(some 16), none, (.len 1 (.v 15))⟩, ⟨(some 17), none, (.mv (.k (.int .i64 0)))⟩]) (.block 0 ir43_l0)) (.seq (.reg false [] [⟨(some 27), none, (.ld true 2 (.v 7))⟩, ⟨none, none, (.st 2 (.v 6) (.v 27))⟩]) .ret))))
def ir43 : Fn := ⟨.own, 3, 28, [(.cell 6 true 2)], ir43_c⟩
def ir49_c : C := (.seq (.reg false [] [⟨(some 2), none, (.box (.v 0))⟩, ⟨(some 4), none, (.alc 2 [.nil, (.int .i64 0)])⟩]) (.seq (.reg false [] [⟨(some 5), none, (.mv (.v 1))⟩, ⟨(some 6), none, (.bsl false 1 1 (.int .i64 0) [(0, (.v 5))])⟩, ⟨(some 7), none, (.ld true 3 (.v 2))⟩, ⟨(some 8), none, (.call 66 [(.v 7)])⟩, ⟨(some 9), none, (.call 76 [(.v 6), (.v 8)])⟩, ⟨(some 10), none, (.mv (.v 1))⟩, ⟨(some 11), none, (.bld [.nil, (.int .i64 0)] [(0, (1, (.v 9))), (1, (1, (.v 10)))])⟩, ⟨none, none, (.st 2 (.v 4) (.v 11))⟩]) .ret))
def ir49 : Fn := ⟨.own, 2, 12, [(.cell 4 true 2)], ir49_c⟩
def ir51_c : C := (.seq (.reg false [] [⟨(some 1), none, (.box (.v 0))⟩, ⟨(some 2), none, (.mv (.k (.int .i64 0)))⟩]) (.seq (.reg false [] [⟨(some 3), none, (.fad 2 (.v 1))⟩, ⟨(some 4), none, (.ld false 1 (.v 3))⟩, ⟨(some 5), none, (.bin .add .none (.v 4) (.k (.int .i64 1)))⟩, ⟨(some 2), none, (.mv (.v 5))⟩]) .ret))
def ir51 : Fn := ⟨.own, 1, 6, [(.tmp 2)], ir51_c⟩
def ir61_d0 : C := (.seq (.seq (.reg false [] [⟨(some 25), none, (.mv (.v 10))⟩, ⟨(some 26), none, (.mv (.v 0))⟩, ⟨(some 27), none, (.len 1 (.v 26))⟩, ⟨(some 28), none, (.bin .lss .none (.v 25) (.v 27))⟩]) (.cond (.v 28) .skip (.exit 0))) (.seq (.block 1 (.reg true [0, 0, 0, 4, 0, 0, 48, 112, 240, 508, 0, 1024, 0, 8190, 16383, 32767] [⟨(some 31), none, (.mv (.v 9))⟩, ⟨(some 32), none, (.mv (.v 0))⟩, ⟨(some 33), none, (.mv (.v 1))⟩, ⟨(some 34), none, (.call 75 [(.v 33)])⟩, ⟨(some 35), none, (.mv (.v 0))⟩, ⟨(some 36), none, (.mv (.v 10))⟩, ⟨(some 37), none, (.ixa 1 (.v 35) (.v 36))⟩, ⟨(some 38), none, (.ld false 1 (.v 37))⟩, ⟨(some 39), none, (.bsl false 1 1 (.int .i64 0) [(0, (.v 38))])⟩, ⟨(some 40), none, (.app false 1 (.v 34) (.v 39))⟩, ⟨(some 41), none, (.mv (.v 10))⟩, ⟨(some 42), none, (.bin .add .none (.v 41) (.k (.int .i64 1)))⟩, ⟨(some 43), none, (.mv (.v 3))⟩, ⟨(some 44), none, (.call 61 [(.v 32), (.v 40), (.v 42), (.v 43)])⟩, ⟨(some 45), none, (.app false 1 (.v 31) (.v 44))⟩, ⟨(some 9), none, (.mv (.v 45))⟩])) (.reg false [] [⟨(some 29), none, (.mv (.v 10))⟩, ⟨(some 30), none, (.bin .add .none (.v 29) (.k (.int .i64 1)))⟩, ⟨(some 10), none, (.mv (.v 30))⟩])))
def ir61_b0 : C := ir61_d0
def ir61_l0 : C := .loop true [0, 1, 3, 9, 10] ir61_b0
def ir61_c : C := (.seq (.reg false [] [⟨(some 8), none, (.mv (.k .nil))⟩]) (.seq (.reg false [] [⟨(some 9), none, (.mv (.k .nil))⟩]) (.seq (.seq (.reg false [] [⟨(some 11), none, (.mv (.v 1))⟩, ⟨(some 12), none, (.len 1 (.v 11))⟩, ⟨(some 13), none, (.bin .gtr .none (.v 12) (.k (.int .i64 0)))⟩]) (.cond (.v 13) (.reg false [] [⟨(some 14), none, (.mv (.v 9))⟩, ⟨(some 15), none, (.mv (.v 1))⟩, ⟨(some 16), none, (.call 75 [(.v 15)])⟩, ⟨(some 17), none, (.bsl false 1 1 .nil [(0, (.v 16))])⟩, ⟨(some 18), none, (.app false 1 (.v 14) (.v 17))⟩, ⟨(some 9), none, (.mv (.v 18))⟩]) .skip)) (.seq (.seq (.reg false [] [⟨(some 19), none, (.mv (.v 1))⟩, ⟨(some 20), none, (.len 1 (.v 19))⟩, ⟨(some 21), none, (.mv (.v 3))⟩, ⟨(some 22), none, (.bin .eql .none (.v 20) (.v 21))⟩]) (.cond (.v 22) (.seq (.reg false [] [⟨(some 23), none, (.mv (.v 9))⟩, ⟨(some 8), none, (.mv (.v 23))⟩]) .ret) .skip)) (.seq (.seq (.reg false [] [⟨(some 24), none, (.mv (.v 2))⟩, ⟨(some 10), none, (.mv (.v 24))⟩]) (.block 0 ir61_l0)) (.seq (.reg false [] [⟨(some 46), none, (.mv (.v 9))⟩, ⟨(some 8), none, (.mv (.v 46))⟩]) .ret))))))
def ir61 : Fn := ⟨.ownF, 4, 47, [(.tmp 8)], ir61_c⟩
def ir45_d0 : C := (.seq (.reg false [] [⟨(some 46), none, (.bin .lss .none (.v 45) (.v 44))⟩]) (.seq (.cond (.v 46) .skip (.exit 0)) (.seq (.block 1 (.seq (.reg false [] [⟨(some 47), none, (.ixa 1 (.v 43) (.v 45))⟩, ⟨(some 48), none, (.ld false 1 (.v 47))⟩, ⟨(some 8), none, (.mv (.v 48))⟩]) (.seq (.reg true [0, 1, 0, 7, 15, 0, 32, 127] [⟨(some 49), none, (.fad 0 (.v 4))⟩, ⟨(some 50), none, (.ld false 1 (.v 49))⟩, ⟨(some 51), none, (.mv (.v 8))⟩, ⟨(some 52), none, (.ixa 1 (.v 50) (.v 51))⟩, ⟨(some 53), none, (.ld false 1 (.v 52))⟩, ⟨(some 54), none, (.fad 1 (.v 4))⟩, ⟨(some 55), none, (.ld false 1 (.v 54))⟩, ⟨(some 56), none, (.bin .neq .none (.v 53) (.v 55))⟩]) (.cond (.v 56) (.seq (.reg false [] [⟨(some 6), none, (.mv (.k (.bool false)))⟩]) .ret) .skip)))) (.reg false [] [⟨(some 57), none, (.bin .add .none (.v 45) (.k (.int .i64 1)))⟩, ⟨(some 45), none, (.mv (.v 57))⟩]))))
def ir45_b0 : C := ir45_d0
def ir45_l0 : C := .loop true [3, 4, 5, 43, 44, 45] ir45_b0
def ir45_c : C := (.seq (.reg false [] [⟨(some 3), none, (.box (.v 0))⟩, ⟨(some 4), none, (.box (.v 1))⟩, ⟨(some 5), none, (.box (.v 2))⟩, ⟨(some 6), none, (.mv (.k (.bool false)))⟩]) (.seq (.seq (.reg false [] [⟨(some 9), none, (.fad 0 (.v 5))⟩, ⟨(some 10), none, (.ld false 1 (.v 9))⟩, ⟨(some 11), none, (.fad 2 (.v 3))⟩, ⟨(some 12), none, (.ld false 1 (.v 11))⟩, ⟨(some 13), none, (.bin .add .none (.v 12) (.k (.int .i64 1)))⟩, ⟨(some 14), none, (.call 68 [(.v 10), (.k (.int .i64 0)), (.v 13)])⟩, ⟨(some 15), none, (.un .not (.v 14))⟩, ⟨(some 16), none, (.mv (.v 15))⟩, ⟨(some 17), (some (16, false)), (.fad 0 (.v 5))⟩, ⟨(some 18), (some (16, false)), (.ld false 1 (.v 17))⟩, ⟨(some 19), (some (16, false)), (.fad 1 (.v 4))⟩, ⟨(some 20), (some (16, false)), (.ld false 1 (.v 19))⟩, ⟨(some 21), (some (16, false)), (.bin .eql .none (.v 18) (.v 20))⟩, ⟨(some 22), none, (.pick (.v 16) (.k (.bool true)) (.v 21))⟩, ⟨(some 23), none, (.mv (.v 22))⟩, ⟨(some 24), (some (23, false)), (.fad 1 (.v 5))⟩, ⟨(some 25), (some (23, false)), (.ld false 1 (.v 24))⟩, ⟨(some 26), (some (23, false)), (.len 1 (.v 25))⟩, ⟨(some 27), (some (23, false)), (.fad 1 (.v 3))⟩, ⟨(some 28), (some (23, false)), (.ld false 1 (.v 27))⟩, ⟨(some 29), (some (23, false)), (.call 68 [(.v 26), (.k (.int .i64 1)), (.v 28)])⟩, ⟨(some 30), (some (23, false)), (.un .not (.v 29))⟩, ⟨(some 31), none, (.pick (.v 23) (.k (.bool true)) (.v 30))⟩, ⟨(some 32), none, (.mv (.v 31))⟩, ⟨(some 33), (some (32, false)), (.fad 1 (.v 5))⟩, ⟨(some 34), (some (32, false)), (.ld false 1 (.v 33))⟩, ⟨(some 35), (some (32, false)), (.fad 0 (.v 4))⟩, ⟨(some 36), (some (32, false)), (.ld false 1 (.v 35))⟩, ⟨(some 37), (some (32, false)), (.len 1 (.v 36))⟩, ⟨(some 38), (some (32, false)), (.bin .sub .none (.v 37) (.k (.int .i64 1)))⟩, ⟨(some 39), (some (32, false)), (.call 73 [(.v 34), (.k (.int .i64 0)), (.v 38)])⟩, ⟨(some 40), (some (32, false)), (.un .not (.v 39))⟩, ⟨(some 41), none, (.pick (.v 32) (.k (.bool true)) (.v 40))⟩]) (.cond (.v 41) (.seq (.reg false [] [⟨(some 6), none, (.mv (.k (.bool false)))⟩]) .ret) .skip)) (.seq (.seq (.reg false [] [⟨(some 42), none, (.fad 1 (.v 5))⟩, ⟨(some 43), none, (.ld false 1 (.v 42))⟩, ⟨(some 44), none, (.len 1 (.v 43))⟩, ⟨(some 45), none, (.mv (.k (.int .i64 0)))⟩]) (.block 0 ir45_l0)) (.seq (.reg true [0, 1, 0, 4, 12, 31, 63, 127, 127, 127, 895, 2047, 4095, 8191] [⟨(some 58), none, (.fad 0 (.v 3))⟩, ⟨(some 59), none, (.ld false 1 (.v 58))⟩, ⟨(some 60), none, (.fad 1 (.v 5))⟩, ⟨(some 61), none, (.ld false 1 (.v 60))⟩, ⟨(some 62), none, (.call 74 [(.v 61)])⟩, ⟨(some 63), none, (.call 64 [(.v 59), (.v 62)])⟩, ⟨(some 64), none, (.mv (.v 63))⟩, ⟨(some 65), (some (64, true)), (.ld true 3 (.v 3))⟩, ⟨(some 66), (some (64, true)), (.ld true 2 (.v 4))⟩, ⟨(some 67), (some (64, true)), (.ld true 2 (.v 5))⟩, ⟨(some 68), (some (64, true)), (.call 46 [(.v 66), (.v 67)])⟩, ⟨(some 69), (some (64, true)), (.call 37 [(.v 65), (.v 68)])⟩, ⟨(some 70), none, (.pick (.v 64) (.v 69) (.k (.bool false)))⟩, ⟨(some 6), none, (.mv (.v 70))⟩]) .ret))))
def ir45 : Fn := ⟨.own, 3, 71, [(.tmp 6)], ir45_c⟩
def ir75_c : C := (.seq (.reg false [] [⟨(some 2), none, (.mv (.k .nil))⟩]) (.seq (.reg false [] [⟨(some 3), none, (.bsl false 1 0 (.int .i64 0) [])⟩, ⟨(some 4), none, (.mv (.v 0))⟩, ⟨(some 5), none, (.app false 1 (.v 3) (.v 4))⟩, ⟨(some 2), none, (.mv (.v 5))⟩]) .ret))
def ir75 : Fn := ⟨.own, 1, 6, [(.tmp 2)], ir75_c⟩
def ir66_c : C := (.seq (.reg false [] [⟨(some 1), none, (.box (.v 0))⟩, ⟨(some 2), none, (.mv (.k (.int .i64 0)))⟩]) (.seq (.reg false [] [⟨(some 3), none, (.fad 0 (.v 1))⟩, ⟨(some 4), none, (.ld false 1 (.v 3))⟩, ⟨(some 5), none, (.bin .mul .none (.k (.int .i64 2)) (.v 4))⟩, ⟨(some 2), none, (.mv (.v 5))⟩]) .ret))
def ir66 : Fn := ⟨.own, 1, 6, [(.tmp 2)], ir66_c⟩
def ir57_d0 : C := (.seq (.reg false [] [⟨(some 13), none, (.bin .lss .none (.v 12) (.v 11))⟩]) (.seq (.cond (.v 13) .skip (.exit 0)) (.seq (.block 1 (.seq (.reg false [] [⟨(some 14), none, (.mv (.v 12))⟩, ⟨(some 15), none, (.ixa 1 (.v 10) (.v 12))⟩, ⟨(some 16), none, (.ld false 1 (.v 15))⟩, ⟨(some 6), none, (.mv (.v 14))⟩, ⟨(some 7), none, (.mv (.v 16))⟩]) (.seq (.reg false [] [⟨(some 17), none, (.mv (.v 7))⟩, ⟨(some 18), none, (.mv (.v 1))⟩, ⟨(some 19), none, (.bin .eql .none (.v 17) (.v 18))⟩]) (.cond (.v 19) (.reg false [] [⟨(some 20), none, (.mv (.v 5))⟩, ⟨(some 21), none, (.mv (.v 6))⟩, ⟨(some 22), none, (.bsl false 1 1 (.int .i64 0) [(0, (.v 21))])⟩, ⟨(some 23), none, (.app false 1 (.v 20) (.v 22))⟩, ⟨(some 5), none, (.mv (.v 23))⟩]) .skip)))) (.reg false [] [⟨(some 24), none, (.bin .add .none (.v 12) (.k (.int .i64 1)))⟩, ⟨(some 12), none, (.mv (.v 24))⟩]))))
def ir57_b0 : C := ir57_d0
def ir57_l0 : C := .loop true [1, 5, 10, 11, 12] ir57_b0
def ir57_c : C := (.seq (.reg false [] [⟨(some 2), none, (.box (.v 0))⟩, ⟨(some 4), none, (.mv (.k .nil))⟩]) (.seq (.reg false [] [⟨(some 8), none, (.bsl false 1 0 (.int .i64 0) [])⟩, ⟨(some 5), none, (.mv (.v 8))⟩]) (.seq (.seq (.reg false [] [⟨(some 9), none, (.fad 0 (.v 2))⟩, ⟨(some 10), none, (.ld false 1 (.v 9))⟩, ⟨(some 11), none, (.len 1 (.v 10))⟩, ⟨(some 12), none, (.mv (.k (.int .i64 0)))⟩]) (.block 0 ir57_l0)) (.seq (.reg false [] [⟨(some 25), none, (.mv (.v 5))⟩, ⟨(some 4), none, (.mv (.v 25))⟩]) .ret))))
def ir57 : Fn := ⟨.own, 2, 26, [(.tmp 4)], ir57_c⟩
def ir58_c : C := (.seq (.reg false [] [⟨(some 3), none, (.box (.v 0))⟩, ⟨(some 4), none, (.box (.v 1))⟩, ⟨(some 5), none, (.box (.v 2))⟩]) (.seq (.reg false [] [⟨(some 6), none, (.alc 1 [.nilf])⟩]) (.seq (.reg false [] [⟨(some 7), none, (.mkf 81 [] [(.v 3), (.v 4), (.v 5), (.v 6)])⟩, ⟨none, none, (.st 1 (.v 6) (.v 7))⟩]) (.reg false [] [⟨(some 8), none, (.ld false 1 (.v 6))⟩, ⟨(some 9), none, (.callv (.v 8) [(.k (.int .i64 0)), (.k .nil)])⟩]))))
def ir58 : Fn := ⟨.ref, 3, 10, [], ir58_c⟩
def ir59_c : C := (.seq (.reg true [0, 1, 3, 7, 7, 7, 7, 119, 255, 511] [⟨(some 6), none, (.mv (.v 0))⟩, ⟨(some 7), none, (.call 60 [(.v 6)])⟩, ⟨(some 8), none, (.mv (.v 7))⟩, ⟨(some 9), (some (8, true)), (.ld true 3 (.v 1))⟩, ⟨(some 10), (some (8, true)), (.ld true 2 (.v 2))⟩, ⟨(some 11), (some (8, true)), (.ld false 1 (.v 3))⟩, ⟨(some 12), (some (8, true)), (.mv (.v 0))⟩, ⟨(some 13), (some (8, true)), (.call 43 [(.v 10), (.v 11), (.v 12)])⟩, ⟨(some 14), (some (8, true)), (.call 35 [(.v 9), (.v 13)])⟩, ⟨(some 15), none, (.pick (.v 8) (.v 14) (.k (.bool false)))⟩]) (.cond (.v 15) (.reg false [] [⟨(some 16), none, (.ld false 1 (.v 4))⟩, ⟨(some 17), none, (.ld false 1 (.v 3))⟩, ⟨(some 18), none, (.mv (.v 0))⟩, ⟨(some 19), none, (.bld [(.int .i64 0), .nil] [(0, (1, (.v 17))), (1, (1, (.v 18)))])⟩, ⟨(some 20), none, (.bsl false 2 1 (.agg [(.int .i64 0), .nil]) [(0, (.v 19))])⟩, ⟨(some 21), none, (.app false 2 (.v 16) (.v 20))⟩, ⟨none, none, (.st 1 (.v 4) (.v 21))⟩]) .skip))
def ir59 : Fn := ⟨.ref, 5, 22, [], ir59_c⟩
def ir60_d0 : C := (.seq (.reg false [] [⟨(some 8), none, (.bin .lss .none (.v 7) (.v 6))⟩]) (.seq (.cond (.v 8) .skip (.exit 0)) (.seq (.block 1 (.seq (.reg false [] [⟨(some 9), none, (.ixa 1 (.v 5) (.v 7))⟩, ⟨(some 10), none, (.ld false 1 (.v 9))⟩, ⟨(some 4), none, (.mv (.v 10))⟩]) (.seq (.seq (.reg false [] [⟨(some 11), none, (.mv (.v 4))⟩, ⟨(some 12), none, (.bin .rem .none (.v 11) (.k (.int .i64 2)))⟩, ⟨(some 13), none, (.bin .eql .none (.v 12) (.k (.int .i64 0)))⟩, ⟨(some 14), none, (.mv (.v 13))⟩, ⟨(some 15), (some (14, false)), (.mv (.v 0))⟩, ⟨(some 16), (some (14, false)), (.mv (.v 4))⟩, ⟨(some 17), (some (14, false)), (.bin .sub .none (.v 16) (.k (.int .i64 1)))⟩, ⟨(some 18), (some (14, false)), (.call 67 [(.v 15), (.v 17)])⟩, ⟨(some 19), none, (.pick (.v 14) (.k (.bool true)) (.v 18))⟩]) (.cond (.v 19) (.exit 1) .skip)) (.seq (.reg false [] [⟨(some 20), none, (.mv (.v 0))⟩, ⟨(some 21), none, (.call 70 [(.v 20), (.k (.clo 82 [] []))])⟩]) (.cond (.v 21) (.seq (.reg false [] [⟨(some 2), none, (.mv (.k (.bool false)))⟩]) .ret) .skip))))) (.reg false [] [⟨(some 22), none, (.bin .add .none (.v 7) (.k (.int .i64 1)))⟩, ⟨(some 7), none, (.mv (.v 22))⟩]))))
def ir60_b0 : C := ir60_d0
def ir60_l0 : C := .loop true [0, 5, 6, 7] ir60_b0
def ir60_c : C := (.seq (.reg false [] [⟨(some 2), none, (.mv (.k (.bool false)))⟩]) (.seq (.seq (.reg false [] [⟨(some 5), none, (.mv (.v 0))⟩, ⟨(some 6), none, (.len 1 (.v 5))⟩, ⟨(some 7), none, (.mv (.k (.int .i64 0)))⟩]) (.block 0 ir60_l0)) (.seq (.reg false [] [⟨(some 2), none, (.mv (.k (.bool true)))⟩]) .ret)))
def ir60 : Fn := ⟨.own, 1, 23, [(.tmp 2)], ir60_c⟩
def ir35_d0 : C := (.seq (.reg false [] [⟨(some 10), none, (.bin .lss .none (.v 9) (.v 8))⟩]) (.seq (.cond (.v 10) .skip (.exit 0)) (.seq (.block 1 (.seq (.reg false [] [⟨(some 11), none, (.mv (.v 9))⟩, ⟨(some 5), none, (.mv (.v 11))⟩]) (.seq (.reg false [] [⟨(some 12), none, (.ld true 2 (.v 3))⟩, ⟨(some 13), none, (.mv (.v 5))⟩, ⟨(some 14), none, (.call 57 [(.v 12), (.v 13)])⟩, ⟨(some 15), none, (.call 60 [(.v 14)])⟩, ⟨(some 16), none, (.un .not (.v 15))⟩]) (.cond (.v 16) (.seq (.reg false [] [⟨(some 4), none, (.mv (.k (.bool false)))⟩]) .ret) .skip)))) (.reg false [] [⟨(some 17), none, (.bin .add .none (.v 9) (.k (.int .i64 1)))⟩, ⟨(some 9), none, (.mv (.v 17))⟩]))))
def ir35_b0 : C := ir35_d0
def ir35_l0 : C := .loop true [3, 8, 9] ir35_b0
def ir35_c : C := (.seq (.reg false [] [⟨(some 2), none, (.box (.v 0))⟩, ⟨(some 3), none, (.box (.v 1))⟩, ⟨(some 4), none, (.mv (.k (.bool false)))⟩]) (.seq (.seq (.reg false [] [⟨(some 6), none, (.ld true 3 (.v 2))⟩, ⟨(some 7), none, (.call 51 [(.v 6)])⟩, ⟨(some 8), none, (.bin .add .none (.v 7) (.k (.int .i64 1)))⟩, ⟨(some 9), none, (.mv (.k (.int .i64 0)))⟩]) (.block 0 ir35_l0)) (.seq (.reg false [] [⟨(some 4), none, (.mv (.k (.bool true)))⟩]) .ret)))
def ir35 : Fn := ⟨.own, 2, 18, [(.tmp 4)], ir35_c⟩
def ir76_d0 : C := (.seq (.seq (.reg false [] [⟨(some 34), none, (.mv (.v 8))⟩, ⟨(some 35), none, (.mv (.v 7))⟩, ⟨(some 36), none, (.len 1 (.v 35))⟩, ⟨(some 37), none, (.bin .lss .none (.v 34) (.v 36))⟩]) (.cond (.v 37) .skip (.exit 0))) (.block 1 (.reg true [0, 0, 0, 6, 0, 0, 48, 126, 255, 511] [⟨(some 38), none, (.mv (.v 8))⟩, ⟨(some 39), none, (.mv (.v 7))⟩, ⟨(some 40), none, (.mv (.v 8))⟩, ⟨(some 41), none, (.slc 1 (.v 39) (some (.v 40)) none)⟩, ⟨(some 42), none, (.mv (.v 7))⟩, ⟨(some 43), none, (.mv (.v 8))⟩, ⟨(some 44), none, (.slc 1 (.v 42) none (some (.v 43)))⟩, ⟨(some 45), none, (.cpy 1 (.v 41) (.v 44))⟩, ⟨(some 46), none, (.bin .add .none (.v 38) (.v 45))⟩, ⟨(some 8), none, (.mv (.v 46))⟩])))
def ir76_b0 : C := ir76_d0
def ir76_l0 : C := .loop true [7, 8] ir76_b0
def ir76_c : C := (.seq (.reg false [] [⟨(some 4), none, (.mv (.k .nil))⟩]) (.seq (.seq (.reg false [] [⟨(some 9), none, (.mv (.v 1))⟩, ⟨(some 10), none, (.bin .lss .none (.v 9) (.k (.int .i64 0)))⟩]) (.cond (.v 10) (.reg false [] [⟨(some 11), none, .bad⟩, ⟨none, none, .bad⟩]) .skip)) (.seq (.reg false [] [⟨(some 13), none, (.mv (.v 0))⟩, ⟨(some 14), none, (.len 1 (.v 13))⟩, ⟨(some 15), none, (.cnv (.int .u64) (.v 14))⟩, ⟨(some 16), none, (.mv (.v 1))⟩, ⟨(some 17), none, (.cnv (.int .u64) (.v 16))⟩, ⟨(some 18), none, (.call 86 [(.v 15), (.v 17)])⟩, ⟨(some 12), none, (.mv (.v 18))⟩, ⟨(some 19), none, (.ext (.v 12) 0)⟩, ⟨(some 20), none, (.ext (.v 12) 1)⟩, ⟨(some 5), none, (.mv (.v 19))⟩, ⟨(some 6), none, (.mv (.v 20))⟩]) (.seq (.seq (.reg false [] [⟨(some 21), none, (.mv (.v 5))⟩, ⟨(some 22), none, (.bin .gtr .none (.v 21) (.k (.int .u64 0)))⟩, ⟨(some 23), none, (.mv (.v 22))⟩, ⟨(some 24), (some (23, false)), (.mv (.v 6))⟩, ⟨(some 25), (some (23, false)), (.bin .gtr .none (.v 24) (.k (.int .u64 9223372036854775807)))⟩, ⟨(some 26), none, (.pick (.v 23) (.k (.bool true)) (.v 25))⟩]) (.cond (.v 26) (.reg false [] [⟨(some 27), none, .bad⟩, ⟨none, none, .bad⟩]) .skip)) (.seq (.reg false [] [⟨(some 28), none, (.mv (.v 6))⟩, ⟨(some 29), none, (.cnv (.int .i64) (.v 28))⟩, ⟨(some 30), none, (.mks 1 (.int .i64 0) (.v 29) (.v 29))⟩, ⟨(some 7), none, (.mv (.v 30))⟩]) (.seq (.reg false [] [⟨(some 31), none, (.mv (.v 7))⟩, ⟨(some 32), none, (.mv (.v 0))⟩, ⟨(some 33), none, (.cpy 1 (.v 31) (.v 32))⟩, ⟨(some 8), none, (.mv (.v 33))⟩]) (.seq (.block 0 ir76_l0) (.seq (.reg false [] [⟨(some 47), none, (.mv (.v 7))⟩, ⟨(some 4), none, (.mv (.v 47))⟩]) .ret))))))))
def ir76 : Fn := ⟨.own, 2, 48, [(.tmp 4)], ir76_c⟩
def ir73_d0 : C := (.seq (.reg false [] [⟨(some 12), none, (.bin .lss .none (.v 11) (.v 10))⟩]) (.seq (.cond (.v 12) .skip (.exit 0)) (.seq (.block 1 (.seq (.reg false [] [⟨(some 13), none, (.mv (.v 11))⟩, ⟨(some 14), none, (.ixa 1 (.v 9) (.v 11))⟩, ⟨(some 15), none, (.ld false 1 (.v 14))⟩, ⟨(some 7), none, (.mv (.v 13))⟩, ⟨(some 8), none, (.mv (.v 15))⟩]) (.seq (.reg false [] [⟨(some 16), none, (.mv (.v 8))⟩, ⟨(some 17), none, (.mv (.v 1))⟩, ⟨(some 18), none, (.mv (.v 2))⟩, ⟨(some 19), none, (.call 68 [(.v 16), (.v 17), (.v 18)])⟩, ⟨(some 20), none, (.un .not (.v 19))⟩, ⟨(some 21), none, (.mv (.v 20))⟩, ⟨(some 22), (some (21, false)), (.mv (.v 7))⟩, ⟨(some 23), (some (21, false)), (.bin .gtr .none (.v 22) (.k (.int .i64 0)))⟩, ⟨(some 24), (some (21, false)), (.mv (.v 23))⟩, ⟨(some 25), (some (24, true)), (.mv (.v 0))⟩, ⟨(some 26), (some (24, true)), (.mv (.v 7))⟩, ⟨(some 27), (some (24, true)), (.bin .sub .none (.v 26) (.k (.int .i64 1)))⟩, ⟨(some 28), (some (24, true)), (.ixa 1 (.v 25) (.v 27))⟩, ⟨(some 29), (some (24, true)), (.ld false 1 (.v 28))⟩, ⟨(some 30), (some (24, true)), (.mv (.v 8))⟩, ⟨(some 31), (some (24, true)), (.bin .geq .none (.v 29) (.v 30))⟩, ⟨(some 32), (some (21, false)), (.pick (.v 24) (.v 31) (.k (.bool false)))⟩, ⟨(some 33), none, (.pick (.v 21) (.k (.bool true)) (.v 32))⟩]) (.cond (.v 33) (.seq (.reg false [] [⟨(some 6), none, (.mv (.k (.bool false)))⟩]) .ret) .skip)))) (.reg false [] [⟨(some 34), none, (.bin .add .none (.v 11) (.k (.int .i64 1)))⟩, ⟨(some 11), none, (.mv (.v 34))⟩]))))
def ir73_b0 : C := ir73_d0
def ir73_l0 : C := .loop true [0, 1, 2, 9, 10, 11] ir73_b0
def ir73_c : C := (.seq (.reg false [] [⟨(some 6), none, (.mv (.k (.bool false)))⟩]) (.seq (.seq (.reg false [] [⟨(some 9), none, (.mv (.v 0))⟩, ⟨(some 10), none, (.len 1 (.v 9))⟩, ⟨(some 11), none, (.mv (.k (.int .i64 0)))⟩]) (.block 0 ir73_l0)) (.seq (.reg false [] [⟨(some 6), none, (.mv (.k (.bool true)))⟩]) .ret)))
def ir73 : Fn := ⟨.own, 3, 35, [(.tmp 6)], ir73_c⟩
def ir64_d0 : C := (.seq (.seq (.reg false [] [⟨(some 18), none, (.mv (.v 6))⟩, ⟨(some 19), none, (.mv (.v 0))⟩, ⟨(some 20), none, (.bin .lss .none (.v 18) (.v 19))⟩]) (.cond (.v 20) .skip (.exit 2))) (.seq (.block 3 (.seq (.reg false [] [⟨(some 23), none, (.mv (.v 1))⟩, ⟨(some 24), none, (.mv (.v 6))⟩, ⟨(some 25), none, (.bin .mul .none (.k (.int .i64 2)) (.v 24))⟩, ⟨(some 26), none, (.bin .shr .none (.v 23) (.v 25))⟩, ⟨(some 27), none, (.bin .rem .none (.v 26) (.k (.int .i64 2)))⟩, ⟨(some 28), none, (.bin .eql .none (.v 27) (.k (.int .i64 1)))⟩]) (.cond (.v 28) (.seq (.reg false [] [⟨(some 4), none, (.mv (.k (.bool false)))⟩]) .ret) .skip))) (.reg false [] [⟨(some 21), none, (.mv (.v 6))⟩, ⟨(some 22), none, (.bin .add .none (.v 21) (.k (.int .i64 1)))⟩, ⟨(some 6), none, (.mv (.v 22))⟩])))
def ir64_b0 : C := ir64_d0
def ir64_l0 : C := .loop true [0, 1, 5, 6] ir64_b0
def ir64_d1 : C := (.seq (.seq (.reg false [] [⟨(some 7), none, (.mv (.v 5))⟩, ⟨(some 8), none, (.mv (.v 0))⟩, ⟨(some 9), none, (.bin .lss .none (.v 7) (.v 8))⟩]) (.cond (.v 9) .skip (.exit 0))) (.seq (.block 1 (.seq (.seq (.reg false [] [⟨(some 12), none, (.mv (.v 1))⟩, ⟨(some 13), none, (.mv (.v 5))⟩, ⟨(some 14), none, (.bin .mul .none (.k (.int .i64 2)) (.v 13))⟩, ⟨(some 15), none, (.bin .shr .none (.v 12) (.v 14))⟩, ⟨(some 16), none, (.bin .rem .none (.v 15) (.k (.int .i64 4)))⟩, ⟨(some 17), none, (.bin .neq .none (.v 16) (.k (.int .i64 2)))⟩]) (.cond (.v 17) (.exit 1) .skip)) (.seq (.reg false [] [⟨(some 6), none, (.mv (.k (.int .i64 0)))⟩]) (.block 2 ir64_l0)))) (.reg false [] [⟨(some 10), none, (.mv (.v 5))⟩, ⟨(some 11), none, (.bin .add .none (.v 10) (.k (.int .i64 1)))⟩, ⟨(some 5), none, (.mv (.v 11))⟩])))
def ir64_b1 : C := ir64_d1
def ir64_l1 : C := .loop true [0, 1, 5] ir64_b1
def ir64_c : C := (.seq (.reg false [] [⟨(some 4), none, (.mv (.k (.bool false)))⟩]) (.seq (.seq (.reg false [] [⟨(some 5), none, (.mv (.k (.int .i64 0)))⟩]) (.block 0 ir64_l1)) (.seq (.reg false [] [⟨(some 4), none, (.mv (.k (.bool true)))⟩]) .ret)))
def ir64 : Fn := ⟨.own, 2, 29, [(.tmp 4)], ir64_c⟩
def ir74_d0 : C := (.seq (.reg false [] [⟨(some 9), none, (.bin .lss .none (.v 8) (.v 7))⟩]) (.seq (.cond (.v 9) .skip (.exit 0)) (.seq (.block 1 (.seq (.reg false [] [⟨(some 10), none, (.ixa 1 (.v 6) (.v 8))⟩, ⟨(some 11), none, (.ld false 1 (.v 10))⟩, ⟨(some 5), none, (.mv (.v 11))⟩]) (.reg false [] [⟨(some 12), none, (.mv (.v 3))⟩, ⟨(some 13), none, (.mv (.v 5))⟩, ⟨(some 14), none, (.bin .shl .none (.k (.int .i64 1)) (.v 13))⟩, ⟨(some 15), none, (.bin .or .none (.v 12) (.v 14))⟩, ⟨(some 3), none, (.mv (.v 15))⟩]))) (.reg false [] [⟨(some 16), none, (.bin .add .none (.v 8) (.k (.int .i64 1)))⟩, ⟨(some 8), none, (.mv (.v 16))⟩]))))
def ir74_b0 : C := ir74_d0
def ir74_l0 : C := .loop true [3, 6, 7, 8] ir74_b0
def ir74_c : C := (.seq (.reg false [] [⟨(some 2), none, (.mv (.k (.int .i64 0)))⟩]) (.seq (.reg false [] [⟨(some 3), none, (.mv (.k (.int .i64 0)))⟩]) (.seq (.seq (.reg false [] [⟨(some 6), none, (.mv (.v 0))⟩, ⟨(some 7), none, (.len 1 (.v 6))⟩, ⟨(some 8), none, (.mv (.k (.int .i64 0)))⟩]) (.block 0 ir74_l0)) (.seq (.reg false [] [⟨(some 17), none, (.mv (.v 3))⟩, ⟨(some 2), none, (.mv (.v 17))⟩]) .ret))))
def ir74 : Fn := ⟨.own, 1, 18, [(.tmp 2)], ir74_c⟩
def ir37_d0 : C := (.seq (.reg false [] [⟨(some 20), none, (.bin .lss .none (.v 19) (.v 18))⟩]) (.seq (.cond (.v 20) .skip (.exit 2)) (.seq (.block 3 (.seq (.reg false [] [⟨(some 21), none, (.mv (.v 19))⟩, ⟨(some 22), none, (.ixa 1 (.v 17) (.v 19))⟩, ⟨(some 23), none, (.ld false 1 (.v 22))⟩, ⟨(some 7), none, (.mv (.v 21))⟩, ⟨(some 8), none, (.mv (.v 23))⟩]) (.seq (.reg false [] [⟨(some 24), none, (.mv (.v 8))⟩, ⟨(some 25), none, (.mv (.v 5))⟩, ⟨(some 26), none, (.bin .eql .none (.v 24) (.v 25))⟩]) (.cond (.v 26) (.reg false [] [⟨(some 27), none, (.mv (.v 6))⟩, ⟨(some 28), none, (.mv (.v 7))⟩, ⟨(some 29), none, (.bin .shl .none (.k (.int .i64 1)) (.v 28))⟩, ⟨(some 30), none, (.bin .or .none (.v 27) (.v 29))⟩, ⟨(some 6), none, (.mv (.v 30))⟩]) .skip)))) (.reg false [] [⟨(some 31), none, (.bin .add .none (.v 19) (.k (.int .i64 1)))⟩, ⟨(some 19), none, (.mv (.v 31))⟩]))))
def ir37_b0 : C := ir37_d0
def ir37_l0 : C := .loop true [2, 3, 5, 6, 17, 18, 19] ir37_b0
def ir37_d1 : C := (.seq (.seq (.reg false [] [⟨(some 9), none, (.mv (.v 5))⟩, ⟨(some 10), none, (.fad 2 (.v 2))⟩, ⟨(some 11), none, (.ld false 1 (.v 10))⟩, ⟨(some 12), none, (.bin .add .none (.v 11) (.k (.int .i64 1)))⟩, ⟨(some 13), none, (.bin .leq .none (.v 9) (.v 12))⟩]) (.cond (.v 13) .skip (.exit 0))) (.seq (.block 1 (.seq (.reg false [] [⟨(some 6), none, (.mv (.k (.int .i64 0)))⟩]) (.seq (.seq (.reg false [] [⟨(some 16), none, (.fad 0 (.v 3))⟩, ⟨(some 17), none, (.ld false 1 (.v 16))⟩, ⟨(some 18), none, (.len 1 (.v 17))⟩, ⟨(some 19), none, (.mv (.k (.int .i64 0)))⟩]) (.block 2 ir37_l0)) (.seq (.reg false [] [⟨(some 32), none, (.fad 0 (.v 2))⟩, ⟨(some 33), none, (.ld false 1 (.v 32))⟩, ⟨(some 34), none, (.mv (.v 6))⟩, ⟨(some 35), none, (.call 64 [(.v 33), (.v 34)])⟩, ⟨(some 36), none, (.un .not (.v 35))⟩]) (.cond (.v 36) (.seq (.reg false [] [⟨(some 4), none, (.mv (.k (.bool false)))⟩]) .ret) .skip))))) (.reg false [] [⟨(some 14), none, (.mv (.v 5))⟩, ⟨(some 15), none, (.bin .add .none (.v 14) (.k (.int .i64 1)))⟩, ⟨(some 5), none, (.mv (.v 15))⟩])))
def ir37_b1 : C := ir37_d1
def ir37_l1 : C := .loop true [2, 3, 5] ir37_b1
def ir37_c : C := (.seq (.reg false [] [⟨(some 2), none, (.box (.v 0))⟩, ⟨(some 3), none, (.box (.v 1))⟩, ⟨(some 4), none, (.mv (.k (.bool false)))⟩]) (.seq (.seq (.reg false [] [⟨(some 5), none, (.mv (.k (.int .i64 0)))⟩]) (.block 0 ir37_l1)) (.seq (.reg false [] [⟨(some 4), none, (.mv (.k (.bool true)))⟩]) .ret)))
def ir37 : Fn := ⟨.own, 2, 37, [(.tmp 4)], ir37_c⟩
def ir81_d0 : C := (.seq (.seq (.reg false [] [⟨(some 11), none, (.mv (.v 8))⟩, ⟨(some 12), none, (.ld false 1 (.v 2))⟩, ⟨(some 13), none, (.len 1 (.v 12))⟩, ⟨(some 14), none, (.bin .lss .none (.v 11) (.v 13))⟩, ⟨(some 15), none, (.mv (.v 14))⟩, ⟨(some 16), (some (15, true)), (.mv (.v 1))⟩, ⟨(some 17), (some (15, true)), (.len 1 (.v 16))⟩, ⟨(some 18), (some (15, true)), (.ld false 1 (.v 3))⟩, ⟨(some 19), (some (15, true)), (.bin .lss .none (.v 17) (.v 18))⟩, ⟨(some 20), none, (.pick (.v 15) (.v 19) (.k (.bool false)))⟩]) (.cond (.v 20) .skip (.exit 0))) (.seq (.block 1 (.seq (.reg true [0, 1, 0, 0, 12, 28, 60, 127, 255] [⟨(some 23), none, (.mv (.v 1))⟩, ⟨(some 24), none, (.call 72 [(.v 23)])⟩, ⟨(some 25), none, (.ld false 1 (.v 2))⟩, ⟨(some 26), none, (.mv (.v 8))⟩, ⟨(some 27), none, (.ixa 1 (.v 25) (.v 26))⟩, ⟨(some 28), none, (.ld false 1 (.v 27))⟩, ⟨(some 29), none, (.bsl false 1 1 (.int .i64 0) [(0, (.v 28))])⟩, ⟨(some 30), none, (.app false 1 (.v 24) (.v 29))⟩, ⟨(some 9), none, (.mv (.v 30))⟩]) (.seq (.reg false [] [⟨(some 31), none, (.ld false 1 (.v 4))⟩, ⟨(some 32), none, (.mv (.v 9))⟩, ⟨(some 33), none, (.callv (.v 31) [(.v 32)])⟩]) (.reg false [] [⟨(some 34), none, (.ld false 1 (.v 5))⟩, ⟨(some 35), none, (.mv (.v 8))⟩, ⟨(some 36), none, (.bin .add .none (.v 35) (.k (.int .i64 1)))⟩, ⟨(some 37), none, (.mv (.v 9))⟩, ⟨(some 38), none, (.callv (.v 34) [(.v 36), (.v 37)])⟩])))) (.reg false [] [⟨(some 21), none, (.mv (.v 8))⟩, ⟨(some 22), none, (.bin .add .none (.v 21) (.k (.int .i64 1)))⟩, ⟨(some 8), none, (.mv (.v 22))⟩])))
def ir81_b0 : C := ir81_d0
def ir81_l0 : C := .loop false [1, 2, 3, 4, 5, 8] ir81_b0
def ir81_c : C := (.seq (.reg false [] [⟨(some 10), none, (.mv (.v 0))⟩, ⟨(some 8), none, (.mv (.v 10))⟩]) (.block 0 ir81_l0))
def ir81 : Fn := ⟨.ref, 6, 39, [], ir81_c⟩
def ir67_c : C := (.seq (.reg false [] [⟨(some 4), none, (.mv (.k (.bool false)))⟩]) (.seq (.reg false [] [⟨(some 5), none, (.mv (.v 0))⟩, ⟨(some 6), none, (.mv (.v 1))⟩, ⟨(some 7), none, (.call 84 [(.v 5), (.v 6)])⟩, ⟨(some 8), none, (.bin .geq .none (.v 7) (.k (.int .i64 0)))⟩, ⟨(some 4), none, (.mv (.v 8))⟩]) .ret))
def ir67 : Fn := ⟨.own, 2, 9, [(.tmp 4)], ir67_c⟩
def ir70_c : C := (.seq (.reg false [] [⟨(some 4), none, (.mv (.k (.bool false)))⟩]) (.seq (.reg false [] [⟨(some 5), none, (.mv (.v 0))⟩, ⟨(some 6), none, (.mv (.v 1))⟩, ⟨(some 7), none, (.call 85 [(.v 5), (.v 6)])⟩, ⟨(some 8), none, (.bin .geq .none (.v 7) (.k (.int .i64 0)))⟩, ⟨(some 4), none, (.mv (.v 8))⟩]) .ret))
def ir70 : Fn := ⟨.own, 2, 9, [(.tmp 4)], ir70_c⟩
def ir82_c : C := (.seq (.reg false [] [⟨(some 2), none, (.mv (.k (.bool false)))⟩]) (.seq (.reg false [] [⟨(some 3), none, (.mv (.v 0))⟩, ⟨(some 4), none, (.bin .rem .none (.v 3) (.k (.int .i64 2)))⟩, ⟨(some 5), none, (.bin .eql .none (.v 4) (.k (.int .i64 0)))⟩, ⟨(some 2), none, (.mv (.v 5))⟩]) .ret))
def ir82 : Fn := ⟨.own, 1, 6, [(.tmp 2)], ir82_c⟩
def ir86_c : C := (.seq (.reg false [] [⟨(some 4), none, (.mv (.k (.int .u64 0)))⟩, ⟨(some 5), none, (.mv (.k (.int .u64 0)))⟩]) (.seq (.cond (.k (.bool false)) (.seq (.reg false [] [⟨(some 11), none, (.mv (.v 0))⟩, ⟨(some 12), none, (.cnv (.int .u32) (.v 11))⟩, ⟨(some 13), none, (.mv (.v 1))⟩, ⟨(some 14), none, (.cnv (.int .u32) (.v 13))⟩, ⟨(some 15), none, (.call 87 [(.v 12), (.v 14)])⟩, ⟨(some 10), none, (.mv (.v 15))⟩, ⟨(some 16), none, (.ext (.v 10) 0)⟩, ⟨(some 17), none, (.ext (.v 10) 1)⟩, ⟨(some 6), none, (.mv (.v 16))⟩, ⟨(some 7), none, (.mv (.v 17))⟩]) (.seq (.reg false [] [⟨(some 18), none, (.mv (.v 6))⟩, ⟨(some 19), none, (.cnv (.int .u64) (.v 18))⟩, ⟨(some 20), none, (.mv (.v 7))⟩, ⟨(some 21), none, (.cnv (.int .u64) (.v 20))⟩, ⟨(some 4), none, (.mv (.v 19))⟩, ⟨(some 5), none, (.mv (.v 21))⟩]) .ret)) .skip) (.seq (.reg false [] [⟨(some 23), none, (.mv (.v 0))⟩, ⟨(some 24), none, (.mv (.v 1))⟩, ⟨(some 25), none, (.call 88 [(.v 23), (.v 24)])⟩, ⟨(some 22), none, (.mv (.v 25))⟩, ⟨(some 26), none, (.ext (.v 22) 0)⟩, ⟨(some 27), none, (.ext (.v 22) 1)⟩, ⟨(some 8), none, (.mv (.v 26))⟩, ⟨(some 9), none, (.mv (.v 27))⟩]) (.seq (.reg false [] [⟨(some 28), none, (.mv (.v 8))⟩, ⟨(some 29), none, (.mv (.v 9))⟩, ⟨(some 4), none, (.mv (.v 28))⟩, ⟨(some 5), none, (.mv (.v 29))⟩]) .ret))))
def ir86 : Fn := ⟨.own, 2, 30, [(.tmp 4), (.tmp 5)], ir86_c⟩
def ir84_d0 : C := (.seq (.reg false [] [⟨(some 9), none, (.bin .lss .none (.v 8) (.v 7))⟩]) (.seq (.cond (.v 9) .skip (.exit 0)) (.seq (.block 1 (.seq (.reg false [] [⟨(some 10), none, (.mv (.v 8))⟩, ⟨(some 5), none, (.mv (.v 10))⟩]) (.seq (.reg false [] [⟨(some 11), none, (.mv (.v 1))⟩, ⟨(some 12), none, (.mv (.v 0))⟩, ⟨(some 13), none, (.mv (.v 5))⟩, ⟨(some 14), none, (.ixa 1 (.v 12) (.v 13))⟩, ⟨(some 15), none, (.ld false 1 (.v 14))⟩, ⟨(some 16), none, (.bin .eql .none (.v 11) (.v 15))⟩]) (.cond (.v 16) (.seq (.reg false [] [⟨(some 17), none, (.mv (.v 5))⟩, ⟨(some 4), none, (.mv (.v 17))⟩]) .ret) .skip)))) (.reg false [] [⟨(some 18), none, (.bin .add .none (.v 8) (.k (.int .i64 1)))⟩, ⟨(some 8), none, (.mv (.v 18))⟩]))))
def ir84_b0 : C := ir84_d0
def ir84_l0 : C := .loop true [0, 1, 7, 8] ir84_b0
def ir84_c : C := (.seq (.reg false [] [⟨(some 4), none, (.mv (.k (.int .i64 0)))⟩]) (.seq (.seq (.reg false [] [⟨(some 6), none, (.mv (.v 0))⟩, ⟨(some 7), none, (.len 1 (.v 6))⟩, ⟨(some 8), none, (.mv (.k (.int .i64 0)))⟩]) (.block 0 ir84_l0)) (.seq (.reg false [] [⟨(some 4), none, (.mv (.k (.int .i64 (-1))))⟩]) .ret)))
def ir84 : Fn := ⟨.own, 2, 19, [(.tmp 4)], ir84_c⟩
def ir85_d0 : C := (.seq (.reg false [] [⟨(some 9), none, (.bin .lss .none (.v 8) (.v 7))⟩]) (.seq (.cond (.v 9) .skip (.exit 0)) (.seq (.block 1 (.seq (.reg false [] [⟨(some 10), none, (.mv (.v 8))⟩, ⟨(some 5), none, (.mv (.v 10))⟩]) (.seq (.reg false [] [⟨(some 11), none, (.mv (.v 1))⟩, ⟨(some 12), none, (.mv (.v 0))⟩, ⟨(some 13), none, (.mv (.v 5))⟩, ⟨(some 14), none, (.ixa 1 (.v 12) (.v 13))⟩, ⟨(some 15), none, (.ld false 1 (.v 14))⟩, ⟨(some 16), none, (.callv (.v 11) [(.v 15)])⟩]) (.cond (.v 16) (.seq (.reg false [] [⟨(some 17), none, (.mv (.v 5))⟩, ⟨(some 4), none, (.mv (.v 17))⟩]) .ret) .skip)))) (.reg false [] [⟨(some 18), none, (.bin .add .none (.v 8) (.k (.int .i64 1)))⟩, ⟨(some 8), none, (.mv (.v 18))⟩]))))
def ir85_b0 : C := ir85_d0
def ir85_l0 : C := .loop true [0, 1, 7, 8] ir85_b0
def ir85_c : C := (.seq (.reg false [] [⟨(some 4), none, (.mv (.k (.int .i64 0)))⟩]) (.seq (.seq (.reg false [] [⟨(some 6), none, (.mv (.v 0))⟩, ⟨(some 7), none, (.len 1 (.v 6))⟩, ⟨(some 8), none, (.mv (.k (.int .i64 0)))⟩]) (.block 0 ir85_l0)) (.seq (.reg false [] [⟨(some 4), none, (.mv (.k (.int .i64 (-1))))⟩]) .ret)))
def ir85 : Fn := ⟨.own, 2, 19, [(.tmp 4)], ir85_c⟩
def ir88_c : C := (.seq (.reg false [] [⟨(some 4), none, (.mv (.k (.int .u64 0)))⟩, ⟨(some 5), none, (.mv (.k (.int .u64 0)))⟩]) (.seq (.reg false [] [⟨(some 14), none, (.mv (.v 0))⟩, ⟨(some 15), none, (.bin .and .none (.v 14) (.k (.int .u64 4294967295)))⟩, ⟨(some 6), none, (.mv (.v 15))⟩]) (.seq (.reg false [] [⟨(some 16), none, (.mv (.v 0))⟩, ⟨(some 17), none, (.bin .shr .none (.v 16) (.k (.int .u64 32)))⟩, ⟨(some 7), none, (.mv (.v 17))⟩]) (.seq (.reg false [] [⟨(some 18), none, (.mv (.v 1))⟩, ⟨(some 19), none, (.bin .and .none (.v 18) (.k (.int .u64 4294967295)))⟩, ⟨(some 8), none, (.mv (.v 19))⟩]) (.seq (.reg false [] [⟨(some 20), none, (.mv (.v 1))⟩, ⟨(some 21), none, (.bin .shr .none (.v 20) (.k (.int .u64 32)))⟩, ⟨(some 9), none, (.mv (.v 21))⟩]) (.seq (.reg false [] [⟨(some 22), none, (.mv (.v 6))⟩, ⟨(some 23), none, (.mv (.v 8))⟩, ⟨(some 24), none, (.bin .mul .none (.v 22) (.v 23))⟩, ⟨(some 10), none, (.mv (.v 24))⟩]) (.seq (.reg false [] [⟨(some 25), none, (.mv (.v 7))⟩, ⟨(some 26), none, (.mv (.v 8))⟩, ⟨(some 27), none, (.bin .mul .none (.v 25) (.v 26))⟩, ⟨(some 28), none, (.mv (.v 10))⟩, ⟨(some 29), none, (.bin .shr .none (.v 28) (.k (.int .u64 32)))⟩, ⟨(some 30), none, (.bin .add .none (.v 27) (.v 29))⟩, ⟨(some 11), none, (.mv (.v 30))⟩]) (.seq (.reg false [] [⟨(some 31), none, (.mv (.v 11))⟩, ⟨(some 32), none, (.bin .and .none (.v 31) (.k (.int .u64 4294967295)))⟩, ⟨(some 12), none, (.mv (.v 32))⟩]) (.seq (.reg false [] [⟨(some 33), none, (.mv (.v 11))⟩, ⟨(some 34), none, (.bin .shr .none (.v 33) (.k (.int .u64 32)))⟩, ⟨(some 13), none, (.mv (.v 34))⟩]) (.seq (.reg false [] [⟨(some 35), none, (.mv (.v 12))⟩, ⟨(some 36), none, (.mv (.v 6))⟩, ⟨(some 37), none, (.mv (.v 9))⟩, ⟨(some 38), none, (.bin .mul .none (.v 36) (.v 37))⟩, ⟨(some 39), none, (.bin .add .none (.v 35) (.v 38))⟩, ⟨(some 12), none, (.mv (.v 39))⟩]) (.seq (.reg false [] [⟨(some 40), none, (.mv (.v 7))⟩, ⟨(some 41), none, (.mv (.v 9))⟩, ⟨(some 42), none, (.bin .mul .none (.v 40) (.v 41))⟩, ⟨(some 43), none, (.mv (.v 13))⟩, ⟨(some 44), none, (.bin .add .none (.v 42) (.v 43))⟩, ⟨(some 45), none, (.mv (.v 12))⟩, ⟨(some 46), none, (.bin .shr .none (.v 45) (.k (.int .u64 32)))⟩, ⟨(some 47), none, (.bin .add .none (.v 44) (.v 46))⟩, ⟨(some 4), none, (.mv (.v 47))⟩]) (.seq (.reg false [] [⟨(some 48), none, (.mv (.v 0))⟩, ⟨(some 49), none, (.mv (.v 1))⟩, ⟨(some 50), none, (.bin .mul .none (.v 48) (.v 49))⟩, ⟨(some 5), none, (.mv (.v 50))⟩]) .ret))))))))))))
def ir88 : Fn := ⟨.own, 2, 51, [(.tmp 4), (.tmp 5)], ir88_c⟩
def ir68_c : C := (.seq (.reg false [] [⟨(some 6), none, (.mv (.k (.bool false)))⟩]) (.seq (.reg false [] [⟨(some 7), none, (.mv (.v 0))⟩, ⟨(some 8), none, (.mv (.v 1))⟩, ⟨(some 9), none, (.bin .geq .none (.v 7) (.v 8))⟩, ⟨(some 10), none, (.mv (.v 9))⟩, ⟨(some 11), (some (10, true)), (.mv (.v 0))⟩, ⟨(some 12), (some (10, true)), (.mv (.v 2))⟩, ⟨(some 13), (some (10, true)), (.bin .leq .none (.v 11) (.v 12))⟩, ⟨(some 14), none, (.pick (.v 10) (.v 13) (.k (.bool false)))⟩, ⟨(some 6), none, (.mv (.v 14))⟩]) .ret))
def ir68 : Fn := ⟨.own, 3, 15, [(.tmp 6)], ir68_c⟩
def ir40_c : C := (.seq (.reg false [] [⟨(some 6), none, (.mv (.k (.bool false)))⟩]) (.seq (.reg false [] [⟨(some 7), none, (.mv (.v 1))⟩, ⟨(some 8), none, (.mv (.v 0))⟩, ⟨(some 9), none, (.bin .leq .none (.v 7) (.v 8))⟩, ⟨(some 10), none, (.mv (.v 9))⟩, ⟨(some 11), (some (10, true)), (.mv (.v 0))⟩, ⟨(some 12), (some (10, true)), (.mv (.v 2))⟩, ⟨(some 13), (some (10, true)), (.bin .leq .none (.v 11) (.v 12))⟩, ⟨(some 14), none, (.pick (.v 10) (.v 13) (.k (.bool false)))⟩, ⟨(some 6), none, (.mv (.v 14))⟩]) .ret))
def ir40 : Fn := ⟨.own, 3, 15, [(.tmp 6)], ir40_c⟩
def ir3_d0 : C := (.seq (.reg false [] [⟨(some 156), none, (.bin .lss .none (.v 155) (.v 154))⟩]) (.seq (.cond (.v 156) .skip (.exit 0)) (.seq (.block 1 (.seq (.reg false [] [⟨(some 157), none, (.mv (.v 155))⟩, ⟨(some 158), none, (.ixa 2 (.v 153) (.v 155))⟩, ⟨(some 159), none, (.ld true 2 (.v 158))⟩, ⟨(some 28), none, (.alc 2 [(.int .i64 0), .nil])⟩, ⟨(some 27), none, (.mv (.v 157))⟩, ⟨none, none, (.st 2 (.v 28) (.v 159))⟩]) (.seq (.reg false [] [⟨(some 161), none, (.ld true 3 (.v 9))⟩, ⟨(some 162), none, (.ld true 2 (.v 10))⟩, ⟨(some 163), none, (.ld true 2 (.v 28))⟩, ⟨(some 164), none, (.call 14 [(.v 161), (.v 162), (.v 163)])⟩, ⟨(some 160), none, (.mv (.v 164))⟩, ⟨(some 165), none, (.ext (.v 160) 0)⟩, ⟨(some 166), none, (.ext (.v 160) 1)⟩, ⟨(some 29), none, (.alc 2 [.nil, (.int .i64 0)])⟩, ⟨none, none, (.st 2 (.v 29) (.v 165))⟩, ⟨(some 30), none, (.mv (.v 166))⟩]) (.seq (.reg false [] [⟨(some 168), none, (.ld true 3 (.v 9))⟩, ⟨(some 169), none, (.ld true 2 (.v 29))⟩, ⟨(some 170), none, (.call 7 [(.v 168), (.v 169)])⟩, ⟨(some 167), none, (.mv (.v 170))⟩, ⟨(some 171), none, (.ext (.v 167) 0)⟩, ⟨(some 172), none, (.ext (.v 167) 1)⟩, ⟨(some 31), none, (.mv (.v 171))⟩, ⟨(some 32), none, (.mv (.v 172))⟩]) (.seq (.reg false [] [⟨(some 174), none, (.ld true 3 (.v 9))⟩, ⟨(some 175), none, (.ld true 2 (.v 29))⟩, ⟨(some 176), none, (.fad 1 (.v 10))⟩, ⟨(some 177), none, (.ld false 1 (.v 176))⟩, ⟨(some 178), none, (.fad 1 (.v 28))⟩, ⟨(some 179), none, (.ld false 1 (.v 178))⟩, ⟨(some 180), none, (.bld [(.int .i64 0), .nil] [(0, (1, (.v 177))), (1, (1, (.v 179)))])⟩, ⟨(some 181), none, (.call 14 [(.v 174), (.v 175), (.v 180)])⟩, ⟨(some 173), none, (.mv (.v 181))⟩, ⟨(some 182), none, (.ext (.v 173) 0)⟩, ⟨(some 183), none, (.ext (.v 173) 1)⟩, ⟨(some 33), none, (.alc 2 [.nil, (.int .i64 0)])⟩, ⟨none, none, (.st 2 (.v 33) (.v 182))⟩, ⟨(some 34), none, (.mv (.v 183))⟩]) (.seq (.reg true [0, 1, 3, 7, 15, 31, 63, 127, 255, 511, 1023, 2047, 4095, 8191, 16383, 32767, 32767, 131071, 262143, 524287, 1048575, 2097151, 4194303, 2097151, 10485759, 33554431, 67108863, 134217727, 268435455, 536870911, 1073741823, 2147483647, 2147483647, 6442450943, 17179869183, 34359738367, 68719476735, 2147483647, 139586437119, 549755813887, 1099511627775, 2199023255551, 2199023255551, 6597069766655, 17592186044415, 35184372088831, 70368744177663, 2199023255551, 142936511610879, 562949953421311, 1125899906842623, 2251799813685247, 2251799813685247, 6755399441055743, 18014398509481983, 36028797018963967, 72057594037927935, 2251799813685247, 146366987889541119, 576460752303423487, 1152921504606846975, 2305843009213693951, 4611686018427387903, 9223372036854775807, 18446744073709551615] [⟨(some 184), none, (.mv (.v 30))⟩, ⟨(some 185), none, (.un .not (.v 184))⟩, ⟨(some 186), none, (.mv (.v 185))⟩, ⟨(some 187), (some (186, false)), (.mv (.v 32))⟩, ⟨(some 188), (some (186, false)), (.un .not (.v 187))⟩, ⟨(some 189), none, (.pick (.v 186) (.k (.bool true)) (.v 188))⟩, ⟨(some 190), none, (.mv (.v 189))⟩, ⟨(some 191), (some (190, false)), (.mv (.v 31))⟩, ⟨(some 192), (some (190, false)), (.un .not (.v 191))⟩, ⟨(some 193), none, (.pick (.v 190) (.k (.bool true)) (.v 192))⟩, ⟨(some 194), none, (.mv (.v 193))⟩, ⟨(some 195), (some (194, false)), (.mv (.v 34))⟩, ⟨(some 196), (some (194, false)), (.un .not (.v 195))⟩, ⟨(some 197), none, (.pick (.v 194) (.k (.bool true)) (.v 196))⟩, ⟨(some 198), none, (.mv (.v 197))⟩, ⟨(some 199), (some (198, false)), (.ld true 2 (.v 33))⟩, ⟨(some 200), (some (198, false)), (.ld true 2 (.v 10))⟩, ⟨(some 201), (some (198, false)), (.call 15 [(.v 199), (.v 200)])⟩, ⟨(some 202), (some (198, false)), (.un .not (.v 201))⟩, ⟨(some 203), none, (.pick (.v 198) (.k (.bool true)) (.v 202))⟩, ⟨(some 204), none, (.mv (.v 203))⟩, ⟨(some 205), (some (204, false)), (.fad 1 (.v 29))⟩, ⟨(some 206), (some (204, false)), (.ld false 1 (.v 205))⟩, ⟨(some 207), (some (204, false)), (.fad 0 (.v 28))⟩, ⟨(some 208), (some (204, false)), (.ld false 1 (.v 207))⟩, ⟨(some 209), (some (204, false)), (.bin .neq .none (.v 206) (.v 208))⟩, ⟨(some 210), none, (.pick (.v 204) (.k (.bool true)) (.v 209))⟩, ⟨(some 211), none, (.mv (.v 210))⟩, ⟨(some 212), (some (211, false)), (.mv (.v 27))⟩, ⟨(some 213), (some (211, false)), (.bin .gtr .none (.v 212) (.k (.int .i64 0)))⟩, ⟨(some 214), (some (211, false)), (.mv (.v 213))⟩, ⟨(some 215), (some (214, true)), (.mv (.v 19))⟩, ⟨(some 216), (some (214, true)), (.mv (.v 27))⟩, ⟨(some 217), (some (214, true)), (.bin .sub .none (.v 216) (.k (.int .i64 1)))⟩, ⟨(some 218), (some (214, true)), (.ixa 2 (.v 215) (.v 217))⟩, ⟨(some 219), (some (214, true)), (.fad 0 (.v 218))⟩, ⟨(some 220), (some (214, true)), (.ld false 1 (.v 219))⟩, ⟨(some 221), (some (214, true)), (.fad 0 (.v 28))⟩, ⟨(some 222), (some (214, true)), (.ld false 1 (.v 221))⟩, ⟨(some 223), (some (214, true)), (.bin .gtr .none (.v 220) (.v 222))⟩, ⟨(some 224), (some (214, true)), (.mv (.v 223))⟩, ⟨(some 225), (some (224, false)), (.mv (.v 19))⟩, ⟨(some 226), (some (224, false)), (.mv (.v 27))⟩, ⟨(some 227), (some (224, false)), (.bin .sub .none (.v 226) (.k (.int .i64 1)))⟩, ⟨(some 228), (some (224, false)), (.ixa 2 (.v 225) (.v 227))⟩, ⟨(some 229), (some (224, false)), (.fad 0 (.v 228))⟩, ⟨(some 230), (some (224, false)), (.ld false 1 (.v 229))⟩, ⟨(some 231), (some (224, false)), (.fad 0 (.v 28))⟩, ⟨(some 232), (some (224, false)), (.ld false 1 (.v 231))⟩, ⟨(some 233), (some (224, false)), (.bin .eql .none (.v 230) (.v 232))⟩, ⟨(some 234), (some (224, false)), (.mv (.v 233))⟩, ⟨(some 235), (some (234, true)), (.mv (.v 19))⟩, ⟨(some 236), (some (234, true)), (.mv (.v 27))⟩, ⟨(some 237), (some (234, true)), (.bin .sub .none (.v 236) (.k (.int .i64 1)))⟩, ⟨(some 238), (some (234, true)), (.ixa 2 (.v 235) (.v 237))⟩, ⟨(some 239), (some (234, true)), (.fad 1 (.v 238))⟩, ⟨(some 240), (some (234, true)), (.ld false 1 (.v 239))⟩, ⟨(some 241), (some (234, true)), (.fad 1 (.v 28))⟩, ⟨(some 242), (some (234, true)), (.ld false 1 (.v 241))⟩, ⟨(some 243), (some (234, true)), (.call 16 [(.v 240), (.v 242)])⟩, ⟨(some 244), (some (234, true)), (.un .not (.v 243))⟩, ⟨(some 245), (some (224, false)), (.pick (.v 234) (.v 244) (.k (.bool false)))⟩, ⟨(some 246), (some (214, true)), (.pick (.v 224) (.k (.bool true)) (.v 245))⟩, ⟨(some 247), (some (211, false)), (.pick (.v 214) (.v 246) (.k (.bool false)))⟩, ⟨(some 248), none, (.pick (.v 211) (.k (.bool true)) (.v 247))⟩]) (.cond (.v 248) (.seq (.reg false [] [⟨(some 18), none, (.mv (.k (.bool false)))⟩]) .ret) .skip))))))) (.reg false [] [⟨(some 249), none, (.bin .add .none (.v 155) (.k (.int .i64 1)))⟩, ⟨(some 155), none, (.mv (.v 249))⟩]))))
def ir3_b0 : C := ir3_d0
def ir3_l0 : C := .loop true [7, 9, 10, 11, 12, 13, 14, 15, 17, 19, 153, 154, 155] ir3_b0
def ir3_c : C := (.seq (.reg false [] [⟨(some 9), none, (.box (.v 0))⟩, ⟨(some 10), none, (.box (.v 1))⟩, ⟨(some 11), none, (.box (.v 2))⟩, ⟨(some 12), none, (.box (.v 3))⟩, ⟨(some 13), none, (.box (.v 4))⟩, ⟨(some 14), none, (.box (.v 5))⟩, ⟨(some 15), none, (.box (.v 6))⟩, ⟨(some 17), none, (.box (.v 8))⟩, ⟨(some 18), none, (.mv (.k (.bool false)))⟩]) (.seq (.seq (.reg false [] [⟨(some 67), none, (.mv (.v 7))⟩, ⟨(some 68), none, (.len 1 (.v 67))⟩, ⟨(some 69), none, (.bin .gtr .none (.v 68) (.k (.int .i64 10000)))⟩]) (.cond (.v 69) (.seq (.reg false [] [⟨(some 18), none, (.mv (.k (.bool true)))⟩]) .ret) .skip)) (.seq (.reg false [] [⟨(some 71), none, (.ld true 3 (.v 9))⟩, ⟨(some 72), none, (.ld true 2 (.v 10))⟩, ⟨(some 73), none, (.call 5 [(.v 71), (.v 72)])⟩, ⟨(some 70), none, (.mv (.v 73))⟩, ⟨(some 74), none, (.ext (.v 70) 0)⟩, ⟨(some 75), none, (.ext (.v 70) 1)⟩, ⟨(some 19), none, (.mv (.v 74))⟩, ⟨(some 20), none, (.mv (.v 75))⟩]) (.seq (.reg false [] [⟨(some 77), none, (.ld true 3 (.v 9))⟩, ⟨(some 78), none, (.ld true 2 (.v 10))⟩, ⟨(some 79), none, (.call 6 [(.v 77), (.v 78)])⟩, ⟨(some 76), none, (.mv (.v 79))⟩, ⟨(some 80), none, (.ext (.v 76) 0)⟩, ⟨(some 81), none, (.ext (.v 76) 1)⟩, ⟨(some 21), none, (.mv (.v 80))⟩, ⟨(some 22), none, (.mv (.v 81))⟩]) (.seq (.reg false [] [⟨(some 83), none, (.ld true 3 (.v 9))⟩, ⟨(some 84), none, (.ld true 2 (.v 10))⟩, ⟨(some 85), none, (.call 7 [(.v 83), (.v 84)])⟩, ⟨(some 82), none, (.mv (.v 85))⟩, ⟨(some 86), none, (.ext (.v 82) 0)⟩, ⟨(some 87), none, (.ext (.v 82) 1)⟩, ⟨(some 23), none, (.mv (.v 86))⟩, ⟨(some 24), none, (.mv (.v 87))⟩]) (.seq (.reg false [] [⟨(some 89), none, (.ld true 3 (.v 9))⟩, ⟨(some 90), none, (.ld true 2 (.v 10))⟩, ⟨(some 91), none, (.call 8 [(.v 89), (.v 90)])⟩, ⟨(some 88), none, (.mv (.v 91))⟩, ⟨(some 92), none, (.ext (.v 88) 0)⟩, ⟨(some 93), none, (.ext (.v 88) 1)⟩, ⟨(some 25), none, (.mv (.v 92))⟩, ⟨(some 26), none, (.mv (.v 93))⟩]) (.seq (.seq (.reg true [0, 0, 3, 7, 15, 15, 63, 127, 255, 511, 1023, 1023, 4095, 8191, 16383, 32767, 32767, 131071, 262143, 524287, 1048575, 1048575, 1048575, 7340031, 16777215, 33554431, 67108863, 134217727, 134217727, 536870911, 134217727, 134217727, 4294967295, 8589934591, 17179869183, 34359738367, 68719476735, 68719476735, 206158430207, 481036337151, 1030792151039, 2199023255551, 4398046511103, 8796093022207, 17592186044415, 35184372088831, 17592186044415, 140737488355327, 281474976710655, 562949953421311, 1125899906842623, 2251799813685247, 4503599627370495, 9007199254740991, 18014398509481983, 36028797018963967, 72057594037927935, 144115188075855871] [⟨(some 94), none, (.mv (.v 20))⟩, ⟨(some 95), none, (.mv (.v 22))⟩, ⟨(some 96), none, (.bin .neq .bool (.v 94) (.v 95))⟩, ⟨(some 97), none, (.mv (.v 96))⟩, ⟨(some 98), (some (97, false)), (.mv (.v 19))⟩, ⟨(some 99), (some (97, false)), (.mv (.v 21))⟩, ⟨(some 100), (some (97, false)), (.call 9 [(.v 98), (.v 99)])⟩, ⟨(some 101), (some (97, false)), (.un .not (.v 100))⟩, ⟨(some 102), none, (.pick (.v 97) (.k (.bool true)) (.v 101))⟩, ⟨(some 103), none, (.mv (.v 102))⟩, ⟨(some 104), (some (103, false)), (.mv (.v 24))⟩, ⟨(some 105), (some (103, false)), (.mv (.v 26))⟩, ⟨(some 106), (some (103, false)), (.bin .neq .bool (.v 104) (.v 105))⟩, ⟨(some 107), none, (.pick (.v 103) (.k (.bool true)) (.v 106))⟩, ⟨(some 108), none, (.mv (.v 107))⟩, ⟨(some 109), (some (108, false)), (.mv (.v 23))⟩, ⟨(some 110), (some (108, false)), (.mv (.v 25))⟩, ⟨(some 111), (some (108, false)), (.bin .neq .bool (.v 109) (.v 110))⟩, ⟨(some 112), none, (.pick (.v 108) (.k (.bool true)) (.v 111))⟩, ⟨(some 113), none, (.mv (.v 112))⟩, ⟨(some 114), (some (113, false)), (.mv (.v 24))⟩, ⟨(some 115), (some (113, false)), (.ld true 3 (.v 9))⟩, ⟨(some 116), (some (113, false)), (.ld true 2 (.v 10))⟩, ⟨(some 117), (some (113, false)), (.call 10 [(.v 115), (.v 116)])⟩, ⟨(some 118), (some (113, false)), (.bin .neq .bool (.v 114) (.v 117))⟩, ⟨(some 119), none, (.pick (.v 113) (.k (.bool true)) (.v 118))⟩, ⟨(some 120), none, (.mv (.v 119))⟩, ⟨(some 121), (some (120, false)), (.ld true 3 (.v 9))⟩, ⟨(some 122), (some (120, false)), (.ld true 2 (.v 10))⟩, ⟨(some 123), (some (120, false)), (.call 10 [(.v 121), (.v 122)])⟩, ⟨(some 124), (some (120, false)), (.ld true 3 (.v 9))⟩, ⟨(some 125), (some (120, false)), (.ld true 2 (.v 10))⟩, ⟨(some 126), (some (120, false)), (.call 11 [(.v 124), (.v 125)])⟩, ⟨(some 127), (some (120, false)), (.bin .neq .bool (.v 123) (.v 126))⟩, ⟨(some 128), none, (.pick (.v 120) (.k (.bool true)) (.v 127))⟩, ⟨(some 129), none, (.mv (.v 128))⟩, ⟨(some 130), (some (129, false)), (.mv (.v 20))⟩, ⟨(some 131), (some (129, false)), (.mv (.v 24))⟩, ⟨(some 132), (some (129, false)), (.mv (.v 131))⟩, ⟨(some 133), (some (132, true)), (.mv (.v 23))⟩, ⟨(some 134), (some (129, false)), (.pick (.v 132) (.v 133) (.k (.bool false)))⟩, ⟨(some 135), (some (129, false)), (.bin .neq .bool (.v 130) (.v 134))⟩, ⟨(some 136), none, (.pick (.v 129) (.k (.bool true)) (.v 135))⟩, ⟨(some 137), none, (.mv (.v 136))⟩, ⟨(some 138), (some (137, false)), (.ld true 3 (.v 9))⟩, ⟨(some 139), (some (137, false)), (.call 12 [(.v 138)])⟩, ⟨(some 140), (some (137, false)), (.ld true 3 (.v 9))⟩, ⟨(some 141), (some (137, false)), (.call 13 [(.v 140)])⟩, ⟨(some 142), (some (137, false)), (.bin .neq .bool (.v 139) (.v 141))⟩, ⟨(some 143), none, (.pick (.v 137) (.k (.bool true)) (.v 142))⟩, ⟨(some 144), none, (.mv (.v 143))⟩, ⟨(some 145), (some (144, false)), (.mv (.v 24))⟩, ⟨(some 146), (some (144, false)), (.mv (.v 145))⟩, ⟨(some 147), (some (146, true)), (.ld true 3 (.v 9))⟩, ⟨(some 148), (some (146, true)), (.call 12 [(.v 147)])⟩, ⟨(some 149), (some (146, true)), (.un .not (.v 148))⟩, ⟨(some 150), (some (144, false)), (.pick (.v 146) (.v 149) (.k (.bool false)))⟩, ⟨(some 151), none, (.pick (.v 144) (.k (.bool true)) (.v 150))⟩]) (.cond (.v 151) (.seq (.reg false [] [⟨(some 18), none, (.mv (.k (.bool false)))⟩]) .ret) .skip)) (.seq (.seq (.reg false [] [⟨(some 152), none, (.mv (.v 20))⟩]) (.cond (.v 152) (.seq (.reg false [] [⟨(some 153), none, (.mv (.v 19))⟩, ⟨(some 154), none, (.len 1 (.v 153))⟩, ⟨(some 155), none, (.mv (.k (.int .i64 0)))⟩]) (.block 0 ir3_l0)) .skip)) (.seq (.reg false [] [⟨(some 251), none, (.ld true 3 (.v 11))⟩, ⟨(some 252), none, (.ld true 2 (.v 12))⟩, ⟨(some 253), none, (.ld true 2 (.v 13))⟩, ⟨(some 254), none, (.call 14 [(.v 251), (.v 252), (.v 253)])⟩, ⟨(some 250), none, (.mv (.v 254))⟩, ⟨(some 255), none, (.ext (.v 250) 0)⟩, ⟨(some 256), none, (.ext (.v 250) 1)⟩, ⟨(some 35), none, (.alc 2 [.nil, (.int .i64 0)])⟩, ⟨none, none, (.st 2 (.v 35) (.v 255))⟩, ⟨(some 36), none, (.mv (.v 256))⟩]) (.seq (.reg false [] [⟨(some 258), none, (.ld true 3 (.v 11))⟩, ⟨(some 259), none, (.ld true 2 (.v 12))⟩, ⟨(some 260), none, (.ld true 2 (.v 13))⟩, ⟨(some 261), none, (.call 17 [(.v 258), (.v 259), (.v 260)])⟩, ⟨(some 257), none, (.mv (.v 261))⟩, ⟨(some 262), none, (.ext (.v 257) 0)⟩, ⟨(some 263), none, (.ext (.v 257) 1)⟩, ⟨(some 37), none, (.alc 2 [.nil, (.int .i64 0)])⟩, ⟨none, none, (.st 2 (.v 37) (.v 262))⟩, ⟨(some 38), none, (.mv (.v 263))⟩]) (.seq (.reg false [] [⟨(some 265), none, (.ld true 3 (.v 14))⟩, ⟨(some 266), none, (.ld true 2 (.v 15))⟩, ⟨(some 267), none, (.mv (.v 7))⟩, ⟨(some 268), none, (.call 18 [(.v 265), (.v 266), (.v 267)])⟩, ⟨(some 264), none, (.mv (.v 268))⟩, ⟨(some 269), none, (.ext (.v 264) 0)⟩, ⟨(some 270), none, (.ext (.v 264) 1)⟩, ⟨(some 39), none, (.alc 2 [.nil, (.int .i64 0)])⟩, ⟨none, none, (.st 2 (.v 39) (.v 269))⟩, ⟨(some 40), none, (.mv (.v 270))⟩]) (.seq (.reg false [] [⟨(some 272), none, (.ld true 3 (.v 14))⟩, ⟨(some 273), none, (.ld true 2 (.v 15))⟩, ⟨(some 274), none, (.mv (.v 7))⟩, ⟨(some 275), none, (.call 19 [(.v 272), (.v 273), (.v 274)])⟩, ⟨(some 271), none, (.mv (.v 275))⟩, ⟨(some 276), none, (.ext (.v 271) 0)⟩, ⟨(some 277), none, (.ext (.v 271) 1)⟩, ⟨(some 41), none, (.alc 2 [.nil, (.int .i64 0)])⟩, ⟨none, none, (.st 2 (.v 41) (.v 276))⟩, ⟨(some 42), none, (.mv (.v 277))⟩]) (.seq (.reg false [] [⟨(some 279), none, (.ld true 3 (.v 14))⟩, ⟨(some 280), none, (.ld true 2 (.v 15))⟩, ⟨(some 281), none, (.mv (.v 7))⟩, ⟨(some 282), none, (.call 20 [(.v 279), (.v 280), (.v 281)])⟩, ⟨(some 278), none, (.mv (.v 282))⟩, ⟨(some 283), none, (.ext (.v 278) 0)⟩, ⟨(some 284), none, (.ext (.v 278) 1)⟩, ⟨(some 43), none, (.mv (.v 283))⟩, ⟨(some 44), none, (.mv (.v 284))⟩]) (.seq (.reg false [] [⟨(some 286), none, (.ld true 3 (.v 14))⟩, ⟨(some 287), none, (.ld true 2 (.v 15))⟩, ⟨(some 288), none, (.mv (.v 7))⟩, ⟨(some 289), none, (.call 21 [(.v 286), (.v 287), (.v 288)])⟩, ⟨(some 285), none, (.mv (.v 289))⟩, ⟨(some 290), none, (.ext (.v 285) 0)⟩, ⟨(some 291), none, (.ext (.v 285) 1)⟩, ⟨(some 45), none, (.mv (.v 290))⟩, ⟨(some 46), none, (.mv (.v 291))⟩]) (.seq (.reg false [] [⟨(some 293), none, (.ld true 3 (.v 17))⟩, ⟨(some 294), none, (.call 22 [(.v 293)])⟩, ⟨(some 292), none, (.mv (.v 294))⟩, ⟨(some 295), none, (.ext (.v 292) 0)⟩, ⟨(some 296), none, (.ext (.v 292) 1)⟩, ⟨(some 47), none, (.alc 2 [.nil, (.int .i64 0)])⟩, ⟨none, none, (.st 2 (.v 47) (.v 295))⟩, ⟨(some 48), none, (.mv (.v 296))⟩]) (.seq (.reg false [] [⟨(some 298), none, (.ld true 3 (.v 17))⟩, ⟨(some 299), none, (.call 23 [(.v 298)])⟩, ⟨(some 297), none, (.mv (.v 299))⟩, ⟨(some 300), none, (.ext (.v 297) 0)⟩, ⟨(some 301), none, (.ext (.v 297) 1)⟩, ⟨(some 49), none, (.alc 2 [.nil, (.int .i64 0)])⟩, ⟨none, none, (.st 2 (.v 49) (.v 300))⟩, ⟨(some 50), none, (.mv (.v 301))⟩]) (.seq (.reg false [] [⟨(some 303), none, (.ld true 3 (.v 17))⟩, ⟨(some 304), none, (.call 24 [(.v 303)])⟩, ⟨(some 302), none, (.mv (.v 304))⟩, ⟨(some 305), none, (.ext (.v 302) 0)⟩, ⟨(some 306), none, (.ext (.v 302) 1)⟩, ⟨(some 51), none, (.alc 2 [.nil, (.int .i64 0)])⟩, ⟨none, none, (.st 2 (.v 51) (.v 305))⟩, ⟨(some 52), none, (.mv (.v 306))⟩]) (.seq (.reg false [] [⟨(some 308), none, (.ld true 3 (.v 17))⟩, ⟨(some 309), none, (.call 25 [(.v 308)])⟩, ⟨(some 307), none, (.mv (.v 309))⟩, ⟨(some 310), none, (.ext (.v 307) 0)⟩, ⟨(some 311), none, (.ext (.v 307) 1)⟩, ⟨(some 53), none, (.alc 2 [.nil, (.int .i64 0)])⟩, ⟨none, none, (.st 2 (.v 53) (.v 310))⟩, ⟨(some 54), none, (.mv (.v 311))⟩]) (.seq (.seq (.reg false [] [⟨(some 312), none, (.mv (.v 36))⟩, ⟨(some 313), none, (.mv (.v 38))⟩, ⟨(some 314), none, (.bin .neq .bool (.v 312) (.v 313))⟩, ⟨(some 315), none, (.mv (.v 314))⟩, ⟨(some 316), (some (315, false)), (.ld true 2 (.v 35))⟩, ⟨(some 317), (some (315, false)), (.ld true 2 (.v 37))⟩, ⟨(some 318), (some (315, false)), (.call 15 [(.v 316), (.v 317)])⟩, ⟨(some 319), (some (315, false)), (.un .not (.v 318))⟩, ⟨(some 320), none, (.pick (.v 315) (.k (.bool true)) (.v 319))⟩, ⟨(some 321), none, (.mv (.v 320))⟩, ⟨(some 322), (some (321, false)), (.mv (.v 40))⟩, ⟨(some 323), (some (321, false)), (.mv (.v 42))⟩, ⟨(some 324), (some (321, false)), (.bin .neq .bool (.v 322) (.v 323))⟩, ⟨(some 325), none, (.pick (.v 321) (.k (.bool true)) (.v 324))⟩, ⟨(some 326), none, (.mv (.v 325))⟩, ⟨(some 327), (some (326, false)), (.ld true 2 (.v 39))⟩, ⟨(some 328), (some (326, false)), (.ld true 2 (.v 41))⟩, ⟨(some 329), (some (326, false)), (.call 15 [(.v 327), (.v 328)])⟩, ⟨(some 330), (some (326, false)), (.un .not (.v 329))⟩, ⟨(some 331), none, (.pick (.v 326) (.k (.bool true)) (.v 330))⟩, ⟨(some 332), none, (.mv (.v 331))⟩, ⟨(some 333), (some (332, false)), (.mv (.v 44))⟩, ⟨(some 334), (some (332, false)), (.mv (.v 46))⟩, ⟨(some 335), (some (332, false)), (.bin .neq .bool (.v 333) (.v 334))⟩, ⟨(some 336), none, (.pick (.v 332) (.k (.bool true)) (.v 335))⟩, ⟨(some 337), none, (.mv (.v 336))⟩, ⟨(some 338), (some (337, false)), (.mv (.v 43))⟩, ⟨(some 339), (some (337, false)), (.mv (.v 45))⟩, ⟨(some 340), (some (337, false)), (.bin .neq .none (.v 338) (.v 339))⟩, ⟨(some 341), none, (.pick (.v 337) (.k (.bool true)) (.v 340))⟩, ⟨(some 342), none, (.mv (.v 341))⟩, ⟨(some 343), (some (342, false)), (.mv (.v 40))⟩, ⟨(some 344), (some (342, false)), (.mv (.v 343))⟩, ⟨(some 345), (some (344, true)), (.mv (.v 44))⟩, ⟨(some 346), (some (342, false)), (.pick (.v 344) (.v 345) (.k (.bool false)))⟩, ⟨(some 347), none, (.pick (.v 342) (.k (.bool true)) (.v 346))⟩, ⟨(some 348), none, (.mv (.v 347))⟩, ⟨(some 349), (some (348, false)), (.mv (.v 48))⟩, ⟨(some 350), (some (348, false)), (.mv (.v 50))⟩, ⟨(some 351), (some (348, false)), (.bin .neq .bool (.v 349) (.v 350))⟩, ⟨(some 352), none, (.pick (.v 348) (.k (.bool true)) (.v 351))⟩, ⟨(some 353), none, (.mv (.v 352))⟩, ⟨(some 354), (some (353, false)), (.ld true 2 (.v 47))⟩, ⟨(some 355), (some (353, false)), (.ld true 2 (.v 49))⟩, ⟨(some 356), (some (353, false)), (.call 15 [(.v 354), (.v 355)])⟩, ⟨(some 357), (some (353, false)), (.un .not (.v 356))⟩, ⟨(some 358), none, (.pick (.v 353) (.k (.bool true)) (.v 357))⟩, ⟨(some 359), none, (.mv (.v 358))⟩, ⟨(some 360), (some (359, false)), (.mv (.v 52))⟩, ⟨(some 361), (some (359, false)), (.mv (.v 54))⟩, ⟨(some 362), (some (359, false)), (.bin .neq .bool (.v 360) (.v 361))⟩, ⟨(some 363), none, (.pick (.v 359) (.k (.bool true)) (.v 362))⟩, ⟨(some 364), none, (.mv (.v 363))⟩, ⟨(some 365), (some (364, false)), (.ld true 2 (.v 51))⟩, ⟨(some 366), (some (364, false)), (.ld true 2 (.v 53))⟩, ⟨(some 367), (some (364, false)), (.call 15 [(.v 365), (.v 366)])⟩, ⟨(some 368), (some (364, false)), (.un .not (.v 367))⟩, ⟨(some 369), none, (.pick (.v 364) (.k (.bool true)) (.v 368))⟩, ⟨(some 370), none, (.mv (.v 369))⟩, ⟨(some 371), (some (370, false)), (.mv (.v 48))⟩, ⟨(some 372), (some (370, false)), (.ld true 3 (.v 17))⟩, ⟨(some 373), (some (370, false)), (.call 12 [(.v 372)])⟩, ⟨(some 374), (some (370, false)), (.bin .neq .bool (.v 371) (.v 373))⟩, ⟨(some 375), none, (.pick (.v 370) (.k (.bool true)) (.v 374))⟩, ⟨(some 376), none, (.mv (.v 375))⟩, ⟨(some 377), (some (376, false)), (.mv (.v 52))⟩, ⟨(some 378), (some (376, false)), (.mv (.v 48))⟩, ⟨(some 379), (some (376, false)), (.bin .neq .bool (.v 377) (.v 378))⟩, ⟨(some 380), none, (.pick (.v 376) (.k (.bool true)) (.v 379))⟩]) (.cond (.v 380) (.seq (.reg false [] [⟨(some 18), none, (.mv (.k (.bool false)))⟩]) .ret) .skip)) (.seq (.seq (.reg false [] [⟨(some 381), none, (.mv (.v 48))⟩]) (.cond (.v 381) (.seq (.reg false [] [⟨(some 383), none, (.ld true 3 (.v 17))⟩, ⟨(some 384), none, (.ld true 2 (.v 47))⟩, ⟨(some 385), none, (.call 7 [(.v 383), (.v 384)])⟩, ⟨(some 382), none, (.mv (.v 385))⟩, ⟨(some 386), none, (.ext (.v 382) 0)⟩, ⟨(some 387), none, (.ext (.v 382) 1)⟩, ⟨(some 55), none, (.mv (.v 386))⟩, ⟨(some 56), none, (.mv (.v 387))⟩]) (.seq (.reg false [] [⟨(some 389), none, (.ld true 3 (.v 17))⟩, ⟨(some 390), none, (.ld true 2 (.v 51))⟩, ⟨(some 391), none, (.call 7 [(.v 389), (.v 390)])⟩, ⟨(some 388), none, (.mv (.v 391))⟩, ⟨(some 392), none, (.ext (.v 388) 0)⟩, ⟨(some 393), none, (.ext (.v 388) 1)⟩, ⟨(some 57), none, (.mv (.v 392))⟩, ⟨(some 58), none, (.mv (.v 393))⟩]) (.seq (.reg false [] [⟨(some 394), none, (.mv (.v 56))⟩, ⟨(some 395), none, (.un .not (.v 394))⟩, ⟨(some 396), none, (.mv (.v 395))⟩, ⟨(some 397), (some (396, false)), (.mv (.v 55))⟩, ⟨(some 398), (some (396, false)), (.un .not (.v 397))⟩, ⟨(some 399), none, (.pick (.v 396) (.k (.bool true)) (.v 398))⟩, ⟨(some 400), none, (.mv (.v 399))⟩, ⟨(some 401), (some (400, false)), (.mv (.v 58))⟩, ⟨(some 402), (some (400, false)), (.un .not (.v 401))⟩, ⟨(some 403), none, (.pick (.v 400) (.k (.bool true)) (.v 402))⟩, ⟨(some 404), none, (.mv (.v 403))⟩, ⟨(some 405), (some (404, false)), (.mv (.v 57))⟩, ⟨(some 406), (some (404, false)), (.un .not (.v 405))⟩, ⟨(some 407), none, (.pick (.v 404) (.k (.bool true)) (.v 406))⟩]) (.cond (.v 407) (.seq (.reg false [] [⟨(some 18), none, (.mv (.k (.bool false)))⟩]) .ret) .skip)))) .skip)) (.seq (.seq (.reg false [] [⟨(some 408), none, (.mv (.v 40))⟩, ⟨(some 409), none, (.mv (.v 408))⟩, ⟨(some 410), (some (409, true)), (.mv (.v 7))⟩, ⟨(some 411), (some (409, true)), (.len 1 (.v 410))⟩, ⟨(some 412), (some (409, true)), (.bin .gtr .none (.v 411) (.k (.int .i64 0)))⟩, ⟨(some 413), none, (.pick (.v 409) (.v 412) (.k (.bool false)))⟩]) (.cond (.v 413) (.seq (.reg true [0, 0, 0, 4, 12, 31, 63, 127, 127, 0, 767, 2047] [⟨(some 415), none, (.ld true 3 (.v 14))⟩, ⟨(some 416), none, (.ld true 2 (.v 15))⟩, ⟨(some 417), none, (.mv (.v 7))⟩, ⟨(some 418), none, (.ixa 2 (.v 417) (.k (.int .i64 0)))⟩, ⟨(some 419), none, (.ld true 2 (.v 418))⟩, ⟨(some 420), none, (.call 14 [(.v 415), (.v 416), (.v 419)])⟩, ⟨(some 414), none, (.mv (.v 420))⟩, ⟨(some 421), none, (.ext (.v 414) 0)⟩, ⟨(some 422), none, (.ext (.v 414) 1)⟩, ⟨(some 59), none, (.alc 2 [.nil, (.int .i64 0)])⟩, ⟨none, none, (.st 2 (.v 59) (.v 421))⟩, ⟨(some 60), none, (.mv (.v 422))⟩]) (.seq (.reg true [0, 0, 0, 4, 15, 31, 63, 63, 0, 383, 1023] [⟨(some 424), none, (.ld true 3 (.v 14))⟩, ⟨(some 425), none, (.ld true 2 (.v 59))⟩, ⟨(some 426), none, (.mv (.v 7))⟩, ⟨(some 427), none, (.slc 2 (.v 426) (some (.k (.int .i64 1))) none)⟩, ⟨(some 428), none, (.call 18 [(.v 424), (.v 425), (.v 427)])⟩, ⟨(some 423), none, (.mv (.v 428))⟩, ⟨(some 429), none, (.ext (.v 423) 0)⟩, ⟨(some 430), none, (.ext (.v 423) 1)⟩, ⟨(some 61), none, (.alc 2 [.nil, (.int .i64 0)])⟩, ⟨none, none, (.st 2 (.v 61) (.v 429))⟩, ⟨(some 62), none, (.mv (.v 430))⟩]) (.seq (.reg false [] [⟨(some 431), none, (.mv (.v 60))⟩, ⟨(some 432), none, (.un .not (.v 431))⟩, ⟨(some 433), none, (.mv (.v 432))⟩, ⟨(some 434), (some (433, false)), (.mv (.v 62))⟩, ⟨(some 435), (some (433, false)), (.un .not (.v 434))⟩, ⟨(some 436), none, (.pick (.v 433) (.k (.bool true)) (.v 435))⟩, ⟨(some 437), none, (.mv (.v 436))⟩, ⟨(some 438), (some (437, false)), (.ld true 2 (.v 61))⟩, ⟨(some 439), (some (437, false)), (.ld true 2 (.v 39))⟩, ⟨(some 440), (some (437, false)), (.call 15 [(.v 438), (.v 439)])⟩, ⟨(some 441), (some (437, false)), (.un .not (.v 440))⟩, ⟨(some 442), none, (.pick (.v 437) (.k (.bool true)) (.v 441))⟩]) (.cond (.v 442) (.seq (.reg false [] [⟨(some 18), none, (.mv (.k (.bool false)))⟩]) .ret) .skip)))) .skip)) (.seq (.seq (.reg false [] [⟨(some 443), none, (.mv (.v 44))⟩]) (.cond (.v 443) (.seq (.reg true [0, 0, 0, 0, 12, 31, 63, 127, 127, 0, 767, 2047] [⟨(some 445), none, (.ld true 3 (.v 14))⟩, ⟨(some 446), none, (.ld true 2 (.v 15))⟩, ⟨(some 447), none, (.mv (.v 7))⟩, ⟨(some 448), none, (.mv (.v 43))⟩, ⟨(some 449), none, (.slc 2 (.v 447) none (some (.v 448)))⟩, ⟨(some 450), none, (.call 18 [(.v 445), (.v 446), (.v 449)])⟩, ⟨(some 444), none, (.mv (.v 450))⟩, ⟨(some 451), none, (.ext (.v 444) 0)⟩, ⟨(some 452), none, (.ext (.v 444) 1)⟩, ⟨(some 63), none, (.alc 2 [.nil, (.int .i64 0)])⟩, ⟨none, none, (.st 2 (.v 63) (.v 451))⟩, ⟨(some 64), none, (.mv (.v 452))⟩]) (.seq (.seq (.reg false [] [⟨(some 453), none, (.mv (.v 64))⟩, ⟨(some 454), none, (.un .not (.v 453))⟩]) (.cond (.v 454) (.seq (.reg false [] [⟨(some 18), none, (.mv (.k (.bool false)))⟩]) .ret) .skip)) (.seq (.reg true [0, 0, 0, 0, 12, 28, 63, 127, 255, 255, 0, 1535, 4095] [⟨(some 456), none, (.ld true 3 (.v 14))⟩, ⟨(some 457), none, (.ld true 2 (.v 63))⟩, ⟨(some 458), none, (.mv (.v 7))⟩, ⟨(some 459), none, (.mv (.v 43))⟩, ⟨(some 460), none, (.ixa 2 (.v 458) (.v 459))⟩, ⟨(some 461), none, (.ld true 2 (.v 460))⟩, ⟨(some 462), none, (.call 14 [(.v 456), (.v 457), (.v 461)])⟩, ⟨(some 455), none, (.mv (.v 462))⟩, ⟨(some 463), none, (.ext (.v 455) 0)⟩, ⟨(some 464), none, (.ext (.v 455) 1)⟩, ⟨(some 65), none, (.alc 2 [.nil, (.int .i64 0)])⟩, ⟨none, none, (.st 2 (.v 65) (.v 463))⟩, ⟨(some 66), none, (.mv (.v 464))⟩]) (.seq (.reg false [] [⟨(some 465), none, (.mv (.v 66))⟩]) (.cond (.v 465) (.seq (.reg false [] [⟨(some 18), none, (.mv (.k (.bool false)))⟩]) .ret) .skip))))) .skip)) (.seq (.reg false [] [⟨(some 18), none, (.mv (.k (.bool true)))⟩]) .ret)))))))))))))))))))))))
def ir3 : Fn := ⟨.own, 9, 466, [(.tmp 18)], ir3_c⟩
def ir5_c : C := (.seq (.reg false [] [⟨(some 2), none, (.box (.v 0))⟩, ⟨(some 3), none, (.box (.v 1))⟩, ⟨(some 4), none, (.mv (.k .nil))⟩, ⟨(some 5), none, (.mv (.k (.bool false)))⟩]) (.seq (.seq (.reg false [] [⟨(some 6), none, (.ld true 3 (.v 2))⟩, ⟨(some 7), none, (.ld true 2 (.v 3))⟩, ⟨(some 8), none, (.call 31 [(.v 6), (.v 7)])⟩, ⟨(some 9), none, (.un .not (.v 8))⟩]) (.cond (.v 9) (.seq (.reg false [] [⟨(some 4), none, (.mv (.k .nil))⟩, ⟨(some 5), none, (.mv (.k (.bool false)))⟩]) .ret) .skip)) (.seq (.reg false [] [⟨(some 10), none, (.ld true 3 (.v 2))⟩, ⟨(some 11), none, (.ld true 2 (.v 3))⟩, ⟨(some 12), none, (.call 32 [(.v 10), (.v 11)])⟩, ⟨(some 4), none, (.mv (.v 12))⟩, ⟨(some 5), none, (.mv (.k (.bool true)))⟩]) .ret)))
def ir5 : Fn := ⟨.ownF, 2, 13, [(.tmp 4), (.tmp 5)], ir5_c⟩
def ir6_c : C := (.seq (.reg false [] [⟨(some 2), none, (.box (.v 0))⟩, ⟨(some 3), none, (.box (.v 1))⟩, ⟨(some 4), none, (.mv (.k .nil))⟩, ⟨(some 5), none, (.mv (.k (.bool false)))⟩]) (.seq (.seq (.reg false [] [⟨(some 6), none, (.ld true 3 (.v 2))⟩, ⟨(some 7), none, (.ld true 2 (.v 3))⟩, ⟨(some 8), none, (.call 33 [(.v 6), (.v 7)])⟩, ⟨(some 9), none, (.un .not (.v 8))⟩]) (.cond (.v 9) (.seq (.reg false [] [⟨(some 4), none, (.mv (.k .nil))⟩, ⟨(some 5), none, (.mv (.k (.bool false)))⟩]) .ret) .skip)) (.seq (.reg false [] [⟨(some 10), none, (.ld true 3 (.v 2))⟩, ⟨(some 11), none, (.ld true 2 (.v 3))⟩, ⟨(some 12), none, (.call 34 [(.v 10), (.v 11)])⟩, ⟨(some 4), none, (.mv (.v 12))⟩, ⟨(some 5), none, (.mv (.k (.bool true)))⟩]) .ret)))
def ir6 : Fn := ⟨.ownF, 2, 13, [(.tmp 4), (.tmp 5)], ir6_c⟩
def ir7_c : C := (.seq (.reg false [] [⟨(some 2), none, (.box (.v 0))⟩, ⟨(some 3), none, (.box (.v 1))⟩, ⟨(some 4), none, (.mv (.k (.bool false)))⟩, ⟨(some 5), none, (.mv (.k (.bool false)))⟩]) (.seq (.seq (.reg false [] [⟨(some 6), none, (.ld true 3 (.v 2))⟩, ⟨(some 7), none, (.ld true 2 (.v 3))⟩, ⟨(some 8), none, (.call 10 [(.v 6), (.v 7)])⟩, ⟨(some 9), none, (.un .not (.v 8))⟩]) (.cond (.v 9) (.seq (.reg false [] [⟨(some 4), none, (.mv (.k (.bool false)))⟩, ⟨(some 5), none, (.mv (.k (.bool false)))⟩]) .ret) .skip)) (.seq (.reg false [] [⟨(some 10), none, (.ld true 3 (.v 2))⟩, ⟨(some 11), none, (.ld true 2 (.v 3))⟩, ⟨(some 12), none, (.call 35 [(.v 10), (.v 11)])⟩, ⟨(some 4), none, (.mv (.v 12))⟩, ⟨(some 5), none, (.mv (.k (.bool true)))⟩]) .ret)))
def ir7 : Fn := ⟨.own, 2, 13, [(.tmp 4), (.tmp 5)], ir7_c⟩
def ir8_c : C := (.seq (.reg false [] [⟨(some 2), none, (.box (.v 0))⟩, ⟨(some 3), none, (.box (.v 1))⟩, ⟨(some 4), none, (.mv (.k (.bool false)))⟩, ⟨(some 5), none, (.mv (.k (.bool false)))⟩]) (.seq (.seq (.reg false [] [⟨(some 6), none, (.ld true 3 (.v 2))⟩, ⟨(some 7), none, (.ld true 2 (.v 3))⟩, ⟨(some 8), none, (.call 36 [(.v 6), (.v 7)])⟩, ⟨(some 9), none, (.un .not (.v 8))⟩]) (.cond (.v 9) (.seq (.reg false [] [⟨(some 4), none, (.mv (.k (.bool false)))⟩, ⟨(some 5), none, (.mv (.k (.bool false)))⟩]) .ret) .skip)) (.seq (.reg false [] [⟨(some 10), none, (.ld true 3 (.v 2))⟩, ⟨(some 11), none, (.ld true 2 (.v 3))⟩, ⟨(some 12), none, (.call 37 [(.v 10), (.v 11)])⟩, ⟨(some 4), none, (.mv (.v 12))⟩, ⟨(some 5), none, (.mv (.k (.bool true)))⟩]) .ret)))
def ir8 : Fn := ⟨.own, 2, 13, [(.tmp 4), (.tmp 5)], ir8_c⟩
def ir9_d0 : C := (.seq (.reg false [] [⟨(some 14), none, (.bin .lss .none (.v 13) (.v 12))⟩]) (.seq (.cond (.v 14) .skip (.exit 0)) (.seq (.block 1 (.seq (.reg false [] [⟨(some 15), none, (.mv (.v 13))⟩, ⟨(some 5), none, (.mv (.v 15))⟩]) (.seq (.reg true [0, 0, 3, 7, 0, 0, 48, 112, 255, 511] [⟨(some 16), none, (.mv (.v 0))⟩, ⟨(some 17), none, (.mv (.v 5))⟩, ⟨(some 18), none, (.ixa 2 (.v 16) (.v 17))⟩, ⟨(some 19), none, (.ld true 2 (.v 18))⟩, ⟨(some 20), none, (.mv (.v 1))⟩, ⟨(some 21), none, (.mv (.v 5))⟩, ⟨(some 22), none, (.ixa 2 (.v 20) (.v 21))⟩, ⟨(some 23), none, (.ld true 2 (.v 22))⟩, ⟨(some 24), none, (.call 38 [(.v 19), (.v 23)])⟩, ⟨(some 25), none, (.un .not (.v 24))⟩]) (.cond (.v 25) (.seq (.reg false [] [⟨(some 4), none, (.mv (.k (.bool false)))⟩]) .ret) .skip)))) (.reg false [] [⟨(some 26), none, (.bin .add .none (.v 13) (.k (.int .i64 1)))⟩, ⟨(some 13), none, (.mv (.v 26))⟩]))))
def ir9_b0 : C := ir9_d0
def ir9_l0 : C := .loop true [0, 1, 12, 13] ir9_b0
def ir9_c : C := (.seq (.reg false [] [⟨(some 4), none, (.mv (.k (.bool false)))⟩]) (.seq (.seq (.reg false [] [⟨(some 6), none, (.mv (.v 0))⟩, ⟨(some 7), none, (.len 1 (.v 6))⟩, ⟨(some 8), none, (.mv (.v 1))⟩, ⟨(some 9), none, (.len 1 (.v 8))⟩, ⟨(some 10), none, (.bin .neq .none (.v 7) (.v 9))⟩]) (.cond (.v 10) (.seq (.reg false [] [⟨(some 4), none, (.mv (.k (.bool false)))⟩]) .ret) .skip)) (.seq (.seq (.reg false [] [⟨(some 11), none, (.mv (.v 0))⟩, ⟨(some 12), none, (.len 1 (.v 11))⟩, ⟨(some 13), none, (.mv (.k (.int .i64 0)))⟩]) (.block 0 ir9_l0)) (.seq (.reg false [] [⟨(some 4), none, (.mv (.k (.bool true)))⟩]) .ret))))
def ir9 : Fn := ⟨.own, 2, 27, [(.tmp 4)], ir9_c⟩
def ir10_c : C := (.seq (.reg false [] [⟨(some 2), none, (.box (.v 0))⟩, ⟨(some 3), none, (.box (.v 1))⟩, ⟨(some 4), none, (.mv (.k (.bool false)))⟩]) (.seq (.reg false [] [⟨(some 5), none, (.ld true 3 (.v 2))⟩, ⟨(some 6), none, (.call 12 [(.v 5)])⟩, ⟨(some 7), none, (.mv (.v 6))⟩, ⟨(some 8), (some (7, true)), (.ld true 3 (.v 2))⟩, ⟨(some 9), (some (7, true)), (.ld true 2 (.v 3))⟩, ⟨(some 10), (some (7, true)), (.call 39 [(.v 8), (.v 9)])⟩, ⟨(some 11), none, (.pick (.v 7) (.v 10) (.k (.bool false)))⟩, ⟨(some 4), none, (.mv (.v 11))⟩]) .ret))
def ir10 : Fn := ⟨.own, 2, 12, [(.tmp 4)], ir10_c⟩
def ir11_c : C := (.seq (.reg false [] [⟨(some 2), none, (.box (.v 0))⟩, ⟨(some 3), none, (.box (.v 1))⟩, ⟨(some 4), none, (.mv (.k (.bool false)))⟩]) (.seq (.reg false [] [⟨(some 5), none, (.ld true 3 (.v 2))⟩, ⟨(some 6), none, (.ld true 2 (.v 3))⟩, ⟨(some 7), none, (.call 36 [(.v 5), (.v 6)])⟩, ⟨(some 4), none, (.mv (.v 7))⟩]) .ret))
def ir11 : Fn := ⟨.own, 2, 8, [(.tmp 4)], ir11_c⟩
def ir13_c : C := (.seq (.reg false [] [⟨(some 1), none, (.box (.v 0))⟩, ⟨(some 2), none, (.mv (.k (.bool false)))⟩]) (.seq (.reg false [] [⟨(some 3), none, (.ld true 3 (.v 1))⟩, ⟨(some 4), none, (.call 41 [(.v 3)])⟩, ⟨(some 2), none, (.mv (.v 4))⟩]) .ret))
def ir13 : Fn := ⟨.own, 1, 5, [(.tmp 2)], ir13_c⟩
def ir14_c : C := (.seq (.reg false [] [⟨(some 3), none, (.box (.v 0))⟩, ⟨(some 4), none, (.box (.v 1))⟩, ⟨(some 5), none, (.box (.v 2))⟩, ⟨(some 6), none, (.alc 2 [.nil, (.int .i64 0)])⟩, ⟨(some 7), none, (.mv (.k (.bool false)))⟩]) (.seq (.seq (.reg false [] [⟨(some 8), none, (.ld true 3 (.v 3))⟩, ⟨(some 9), none, (.ld true 2 (.v 4))⟩, ⟨(some 10), none, (.call 31 [(.v 8), (.v 9)])⟩, ⟨(some 11), none, (.un .not (.v 10))⟩, ⟨(some 12), none, (.mv (.v 11))⟩, ⟨(some 13), (some (12, false)), (.ld true 3 (.v 3))⟩, ⟨(some 14), (some (12, false)), (.ld true 2 (.v 4))⟩, ⟨(some 15), (some (12, false)), (.ld true 2 (.v 5))⟩, ⟨(some 16), (some (12, false)), (.call 42 [(.v 13), (.v 14), (.v 15)])⟩, ⟨(some 17), (some (12, false)), (.un .not (.v 16))⟩, ⟨(some 18), none, (.pick (.v 12) (.k (.bool true)) (.v 17))⟩]) (.cond (.v 18) (.seq (.reg false [] [⟨(some 19), none, (.bld [.nil, (.int .i64 0)] [])⟩, ⟨none, none, (.st 2 (.v 6) (.v 19))⟩, ⟨(some 7), none, (.mv (.k (.bool false)))⟩]) .ret) .skip)) (.seq (.reg false [] [⟨(some 20), none, (.ld true 2 (.v 4))⟩, ⟨(some 21), none, (.fad 0 (.v 5))⟩, ⟨(some 22), none, (.ld false 1 (.v 21))⟩, ⟨(some 23), none, (.fad 1 (.v 5))⟩, ⟨(some 24), none, (.ld false 1 (.v 23))⟩, ⟨(some 25), none, (.call 43 [(.v 20), (.v 22), (.v 24)])⟩, ⟨none, none, (.st 2 (.v 6) (.v 25))⟩, ⟨(some 7), none, (.mv (.k (.bool true)))⟩]) .ret)))
def ir14 : Fn := ⟨.own, 3, 26, [(.cell 6 true 2), (.tmp 7)], ir14_c⟩
def ir15_c : C := (.seq (.reg false [] [⟨(some 2), none, (.box (.v 0))⟩, ⟨(some 3), none, (.box (.v 1))⟩, ⟨(some 4), none, (.mv (.k (.bool false)))⟩]) (.seq (.reg false [] [⟨(some 5), none, (.fad 1 (.v 2))⟩, ⟨(some 6), none, (.ld false 1 (.v 5))⟩, ⟨(some 7), none, (.fad 1 (.v 3))⟩, ⟨(some 8), none, (.ld false 1 (.v 7))⟩, ⟨(some 9), none, (.bin .eql .none (.v 6) (.v 8))⟩, ⟨(some 10), none, (.mv (.v 9))⟩, ⟨(some 11), (some (10, true)), (.fad 0 (.v 2))⟩, ⟨(some 12), (some (10, true)), (.ld false 1 (.v 11))⟩, ⟨(some 13), (some (10, true)), (.fad 0 (.v 3))⟩, ⟨(some 14), (some (10, true)), (.ld false 1 (.v 13))⟩, ⟨(some 15), (some (10, true)), (.call 44 [(.v 12), (.v 14)])⟩, ⟨(some 16), none, (.pick (.v 10) (.v 15) (.k (.bool false)))⟩, ⟨(some 4), none, (.mv (.v 16))⟩]) .ret))
def ir15 : Fn := ⟨.own, 2, 17, [(.tmp 4)], ir15_c⟩
def ir16_d0 : C := (.seq (.seq (.reg false [] [⟨(some 6), none, (.mv (.v 5))⟩, ⟨(some 7), none, (.mv (.v 0))⟩, ⟨(some 8), none, (.len 1 (.v 7))⟩, ⟨(some 9), none, (.bin .lss .none (.v 6) (.v 8))⟩, ⟨(some 10), none, (.mv (.v 9))⟩, ⟨(some 11), (some (10, true)), (.mv (.v 5))⟩, ⟨(some 12), (some (10, true)), (.mv (.v 1))⟩, ⟨(some 13), (some (10, true)), (.len 1 (.v 12))⟩, ⟨(some 14), (some (10, true)), (.bin .lss .none (.v 11) (.v 13))⟩, ⟨(some 15), none, (.pick (.v 10) (.v 14) (.k (.bool false)))⟩]) (.cond (.v 15) .skip (.exit 0))) (.seq (.block 1 (.seq (.reg true [0, 0, 3, 7, 0, 0, 48, 112, 255] [⟨(some 18), none, (.mv (.v 0))⟩, ⟨(some 19), none, (.mv (.v 5))⟩, ⟨(some 20), none, (.ixa 1 (.v 18) (.v 19))⟩, ⟨(some 21), none, (.ld false 1 (.v 20))⟩, ⟨(some 22), none, (.mv (.v 1))⟩, ⟨(some 23), none, (.mv (.v 5))⟩, ⟨(some 24), none, (.ixa 1 (.v 22) (.v 23))⟩, ⟨(some 25), none, (.ld false 1 (.v 24))⟩, ⟨(some 26), none, (.bin .neq .none (.v 21) (.v 25))⟩]) (.cond (.v 26) (.seq (.reg true [0, 0, 3, 7, 0, 0, 48, 112, 255, 511] [⟨(some 27), none, (.mv (.v 0))⟩, ⟨(some 28), none, (.mv (.v 5))⟩, ⟨(some 29), none, (.ixa 1 (.v 27) (.v 28))⟩, ⟨(some 30), none, (.ld false 1 (.v 29))⟩, ⟨(some 31), none, (.mv (.v 1))⟩, ⟨(some 32), none, (.mv (.v 5))⟩, ⟨(some 33), none, (.ixa 1 (.v 31) (.v 32))⟩, ⟨(some 34), none, (.ld false 1 (.v 33))⟩, ⟨(some 35), none, (.bin .lss .none (.v 30) (.v 34))⟩, ⟨(some 4), none, (.mv (.v 35))⟩]) .ret) .skip))) (.reg false [] [⟨(some 16), none, (.mv (.v 5))⟩, ⟨(some 17), none, (.bin .add .none (.v 16) (.k (.int .i64 1)))⟩, ⟨(some 5), none, (.mv (.v 17))⟩])))
def ir16_b0 : C := ir16_d0
def ir16_l0 : C := .loop true [0, 1, 5] ir16_b0
def ir16_c : C := (.seq (.reg false [] [⟨(some 4), none, (.mv (.k (.bool false)))⟩]) (.seq (.seq (.reg false [] [⟨(some 5), none, (.mv (.k (.int .i64 0)))⟩]) (.block 0 ir16_l0)) (.seq (.reg false [] [⟨(some 36), none, (.mv (.v 0))⟩, ⟨(some 37), none, (.len 1 (.v 36))⟩, ⟨(some 38), none, (.mv (.v 1))⟩, ⟨(some 39), none, (.len 1 (.v 38))⟩, ⟨(some 40), none, (.bin .lss .none (.v 37) (.v 39))⟩, ⟨(some 4), none, (.mv (.v 40))⟩]) .ret)))
def ir16 : Fn := ⟨.own, 2, 41, [(.tmp 4)], ir16_c⟩
def ir17_c : C := (.seq (.reg false [] [⟨(some 3), none, (.box (.v 0))⟩, ⟨(some 4), none, (.box (.v 1))⟩, ⟨(some 5), none, (.box (.v 2))⟩, ⟨(some 6), none, (.alc 2 [.nil, (.int .i64 0)])⟩, ⟨(some 7), none, (.mv (.k (.bool false)))⟩]) (.seq (.seq (.reg false [] [⟨(some 8), none, (.ld true 3 (.v 3))⟩, ⟨(some 9), none, (.ld true 2 (.v 4))⟩, ⟨(some 10), none, (.call 33 [(.v 8), (.v 9)])⟩, ⟨(some 11), none, (.un .not (.v 10))⟩, ⟨(some 12), none, (.mv (.v 11))⟩, ⟨(some 13), (some (12, false)), (.ld true 3 (.v 3))⟩, ⟨(some 14), (some (12, false)), (.ld true 2 (.v 4))⟩, ⟨(some 15), (some (12, false)), (.ld true 2 (.v 5))⟩, ⟨(some 16), (some (12, false)), (.call 45 [(.v 13), (.v 14), (.v 15)])⟩, ⟨(some 17), (some (12, false)), (.un .not (.v 16))⟩, ⟨(some 18), none, (.pick (.v 12) (.k (.bool true)) (.v 17))⟩]) (.cond (.v 18) (.seq (.reg false [] [⟨(some 19), none, (.bld [.nil, (.int .i64 0)] [])⟩, ⟨none, none, (.st 2 (.v 6) (.v 19))⟩, ⟨(some 7), none, (.mv (.k (.bool false)))⟩]) .ret) .skip)) (.seq (.reg false [] [⟨(some 20), none, (.ld true 2 (.v 4))⟩, ⟨(some 21), none, (.ld true 2 (.v 5))⟩, ⟨(some 22), none, (.call 46 [(.v 20), (.v 21)])⟩, ⟨none, none, (.st 2 (.v 6) (.v 22))⟩, ⟨(some 7), none, (.mv (.k (.bool true)))⟩]) .ret)))
def ir17 : Fn := ⟨.own, 3, 23, [(.cell 6 true 2), (.tmp 7)], ir17_c⟩
def ir18_c : C := (.seq (.reg false [] [⟨(some 3), none, (.box (.v 0))⟩, ⟨(some 4), none, (.box (.v 1))⟩, ⟨(some 6), none, (.alc 2 [.nil, (.int .i64 0)])⟩, ⟨(some 7), none, (.mv (.k (.bool false)))⟩]) (.seq (.seq (.reg false [] [⟨(some 10), none, (.ld true 3 (.v 3))⟩, ⟨(some 11), none, (.ld true 2 (.v 4))⟩, ⟨(some 12), none, (.call 31 [(.v 10), (.v 11)])⟩, ⟨(some 13), none, (.un .not (.v 12))⟩, ⟨(some 14), none, (.mv (.v 13))⟩, ⟨(some 15), (some (14, false)), (.mv (.v 2))⟩, ⟨(some 16), (some (14, false)), (.len 1 (.v 15))⟩, ⟨(some 17), (some (14, false)), (.bin .gtr .none (.v 16) (.k (.int .i64 40)))⟩, ⟨(some 18), none, (.pick (.v 14) (.k (.bool true)) (.v 17))⟩]) (.cond (.v 18) (.seq (.reg false [] [⟨(some 19), none, (.bld [.nil, (.int .i64 0)] [])⟩, ⟨none, none, (.st 2 (.v 6) (.v 19))⟩, ⟨(some 7), none, (.mv (.k (.bool false)))⟩]) .ret) .skip)) (.seq (.reg false [] [⟨(some 21), none, (.ld true 3 (.v 3))⟩, ⟨(some 22), none, (.ld true 2 (.v 4))⟩, ⟨(some 23), none, (.mv (.v 2))⟩, ⟨(some 24), none, (.call 47 [(.v 21), (.v 22), (.v 23)])⟩, ⟨(some 20), none, (.mv (.v 24))⟩, ⟨(some 25), none, (.ext (.v 20) 0)⟩, ⟨(some 26), none, (.ext (.v 20) 1)⟩, ⟨(some 8), none, (.alc 2 [.nil, (.int .i64 0)])⟩, ⟨none, none, (.st 2 (.v 8) (.v 25))⟩, ⟨(some 9), none, (.mv (.v 26))⟩]) (.seq (.seq (.reg false [] [⟨(some 27), none, (.mv (.v 9))⟩, ⟨(some 28), none, (.bin .geq .none (.v 27) (.k (.int .i64 0)))⟩]) (.cond (.v 28) (.seq (.reg false [] [⟨(some 29), none, (.bld [.nil, (.int .i64 0)] [])⟩, ⟨none, none, (.st 2 (.v 6) (.v 29))⟩, ⟨(some 7), none, (.mv (.k (.bool false)))⟩]) .ret) .skip)) (.seq (.reg false [] [⟨(some 30), none, (.ld true 2 (.v 8))⟩, ⟨none, none, (.st 2 (.v 6) (.v 30))⟩, ⟨(some 7), none, (.mv (.k (.bool true)))⟩]) .ret)))))
def ir18 : Fn := ⟨.own, 3, 31, [(.cell 6 true 2), (.tmp 7)], ir18_c⟩
def ir19_c : C := (.seq (.reg false [] [⟨(some 3), none, (.box (.v 0))⟩, ⟨(some 4), none, (.box (.v 1))⟩, ⟨(some 6), none, (.alc 2 [.nil, (.int .i64 0)])⟩, ⟨(some 7), none, (.mv (.k (.bool false)))⟩]) (.seq (.seq (.reg false [] [⟨(some 10), none, (.ld true 3 (.v 3))⟩, ⟨(some 11), none, (.ld true 2 (.v 4))⟩, ⟨(some 12), none, (.call 33 [(.v 10), (.v 11)])⟩, ⟨(some 13), none, (.un .not (.v 12))⟩, ⟨(some 14), none, (.mv (.v 13))⟩, ⟨(some 15), (some (14, false)), (.mv (.v 2))⟩, ⟨(some 16), (some (14, false)), (.len 1 (.v 15))⟩, ⟨(some 17), (some (14, false)), (.bin .gtr .none (.v 16) (.k (.int .i64 40)))⟩, ⟨(some 18), none, (.pick (.v 14) (.k (.bool true)) (.v 17))⟩]) (.cond (.v 18) (.seq (.reg false [] [⟨(some 19), none, (.bld [.nil, (.int .i64 0)] [])⟩, ⟨none, none, (.st 2 (.v 6) (.v 19))⟩, ⟨(some 7), none, (.mv (.k (.bool false)))⟩]) .ret) .skip)) (.seq (.reg false [] [⟨(some 21), none, (.ld true 3 (.v 3))⟩, ⟨(some 22), none, (.ld true 2 (.v 4))⟩, ⟨(some 23), none, (.mv (.v 2))⟩, ⟨(some 24), none, (.call 48 [(.v 21), (.v 22), (.v 23)])⟩, ⟨(some 20), none, (.mv (.v 24))⟩, ⟨(some 25), none, (.ext (.v 20) 0)⟩, ⟨(some 26), none, (.ext (.v 20) 1)⟩, ⟨(some 8), none, (.alc 2 [.nil, (.int .i64 0)])⟩, ⟨none, none, (.st 2 (.v 8) (.v 25))⟩, ⟨(some 9), none, (.mv (.v 26))⟩]) (.seq (.seq (.reg false [] [⟨(some 27), none, (.mv (.v 9))⟩, ⟨(some 28), none, (.mv (.v 2))⟩, ⟨(some 29), none, (.len 1 (.v 28))⟩, ⟨(some 30), none, (.bin .lss .none (.v 27) (.v 29))⟩]) (.cond (.v 30) (.seq (.reg false [] [⟨(some 31), none, (.bld [.nil, (.int .i64 0)] [])⟩, ⟨none, none, (.st 2 (.v 6) (.v 31))⟩, ⟨(some 7), none, (.mv (.k (.bool false)))⟩]) .ret) .skip)) (.seq (.reg false [] [⟨(some 32), none, (.ld true 2 (.v 8))⟩, ⟨none, none, (.st 2 (.v 6) (.v 32))⟩, ⟨(some 7), none, (.mv (.k (.bool true)))⟩]) .ret)))))
def ir19 : Fn := ⟨.own, 3, 33, [(.cell 6 true 2), (.tmp 7)], ir19_c⟩
def ir20_c : C := (.seq (.reg false [] [⟨(some 3), none, (.box (.v 0))⟩, ⟨(some 4), none, (.box (.v 1))⟩, ⟨(some 6), none, (.mv (.k (.int .i64 0)))⟩, ⟨(some 7), none, (.mv (.k (.bool false)))⟩]) (.seq (.seq (.reg false [] [⟨(some 10), none, (.ld true 3 (.v 3))⟩, ⟨(some 11), none, (.ld true 2 (.v 4))⟩, ⟨(some 12), none, (.call 31 [(.v 10), (.v 11)])⟩, ⟨(some 13), none, (.un .not (.v 12))⟩, ⟨(some 14), none, (.mv (.v 13))⟩, ⟨(some 15), (some (14, false)), (.mv (.v 2))⟩, ⟨(some 16), (some (14, false)), (.len 1 (.v 15))⟩, ⟨(some 17), (some (14, false)), (.bin .gtr .none (.v 16) (.k (.int .i64 40)))⟩, ⟨(some 18), none, (.pick (.v 14) (.k (.bool true)) (.v 17))⟩]) (.cond (.v 18) (.seq (.reg false [] [⟨(some 6), none, (.mv (.k (.int .i64 0)))⟩, ⟨(some 7), none, (.mv (.k (.bool false)))⟩]) .ret) .skip)) (.seq (.reg false [] [⟨(some 20), none, (.ld true 3 (.v 3))⟩, ⟨(some 21), none, (.ld true 2 (.v 4))⟩, ⟨(some 22), none, (.mv (.v 2))⟩, ⟨(some 23), none, (.call 47 [(.v 20), (.v 21), (.v 22)])⟩, ⟨(some 19), none, (.mv (.v 23))⟩, ⟨(some 24), none, (.ext (.v 19) 0)⟩, ⟨(some 25), none, (.ext (.v 19) 1)⟩, ⟨(some 8), none, (.alc 2 [.nil, (.int .i64 0)])⟩, ⟨none, none, (.st 2 (.v 8) (.v 24))⟩, ⟨(some 9), none, (.mv (.v 25))⟩]) (.seq (.reg false [] [⟨(some 26), none, (.mv (.v 9))⟩, ⟨(some 27), none, (.mx true (.v 26) (.k (.int .i64 0)))⟩, ⟨(some 28), none, (.mv (.v 9))⟩, ⟨(some 29), none, (.bin .geq .none (.v 28) (.k (.int .i64 0)))⟩, ⟨(some 6), none, (.mv (.v 27))⟩, ⟨(some 7), none, (.mv (.v 29))⟩]) .ret))))
def ir20 : Fn := ⟨.own, 3, 30, [(.tmp 6), (.tmp 7)], ir20_c⟩
def ir21_c : C := (.seq (.reg false [] [⟨(some 3), none, (.box (.v 0))⟩, ⟨(some 4), none, (.box (.v 1))⟩, ⟨(some 6), none, (.mv (.k (.int .i64 0)))⟩, ⟨(some 7), none, (.mv (.k (.bool false)))⟩]) (.seq (.seq (.reg false [] [⟨(some 10), none, (.ld true 3 (.v 3))⟩, ⟨(some 11), none, (.ld true 2 (.v 4))⟩, ⟨(some 12), none, (.call 33 [(.v 10), (.v 11)])⟩, ⟨(some 13), none, (.un .not (.v 12))⟩, ⟨(some 14), none, (.mv (.v 13))⟩, ⟨(some 15), (some (14, false)), (.mv (.v 2))⟩, ⟨(some 16), (some (14, false)), (.len 1 (.v 15))⟩, ⟨(some 17), (some (14, false)), (.bin .gtr .none (.v 16) (.k (.int .i64 40)))⟩, ⟨(some 18), none, (.pick (.v 14) (.k (.bool true)) (.v 17))⟩]) (.cond (.v 18) (.seq (.reg false [] [⟨(some 6), none, (.mv (.k (.int .i64 0)))⟩, ⟨(some 7), none, (.mv (.k (.bool false)))⟩]) .ret) .skip)) (.seq (.reg false [] [⟨(some 20), none, (.ld true 3 (.v 3))⟩, ⟨(some 21), none, (.ld true 2 (.v 4))⟩, ⟨(some 22), none, (.mv (.v 2))⟩, ⟨(some 23), none, (.call 48 [(.v 20), (.v 21), (.v 22)])⟩, ⟨(some 19), none, (.mv (.v 23))⟩, ⟨(some 24), none, (.ext (.v 19) 0)⟩, ⟨(some 25), none, (.ext (.v 19) 1)⟩, ⟨(some 8), none, (.alc 2 [.nil, (.int .i64 0)])⟩, ⟨none, none, (.st 2 (.v 8) (.v 24))⟩, ⟨(some 9), none, (.mv (.v 25))⟩]) (.seq (.seq (.reg false [] [⟨(some 26), none, (.mv (.v 9))⟩, ⟨(some 27), none, (.mv (.v 2))⟩, ⟨(some 28), none, (.len 1 (.v 27))⟩, ⟨(some 29), none, (.bin .eql .none (.v 26) (.v 28))⟩]) (.cond (.v 29) (.seq (.reg false [] [⟨(some 6), none, (.mv (.k (.int .i64 0)))⟩, ⟨(some 7), none, (.mv (.k (.bool false)))⟩]) .ret) .skip)) (.seq (.reg false [] [⟨(some 30), none, (.mv (.v 9))⟩, ⟨(some 6), none, (.mv (.v 30))⟩, ⟨(some 7), none, (.mv (.k (.bool true)))⟩]) .ret)))))
def ir21 : Fn := ⟨.own, 3, 31, [(.tmp 6), (.tmp 7)], ir21_c⟩
def ir22_c : C := (.seq (.reg false [] [⟨(some 1), none, (.box (.v 0))⟩, ⟨(some 2), none, (.alc 2 [.nil, (.int .i64 0)])⟩, ⟨(some 3), none, (.mv (.k (.bool false)))⟩]) (.seq (.seq (.reg false [] [⟨(some 4), none, (.ld true 3 (.v 1))⟩, ⟨(some 5), none, (.call 12 [(.v 4)])⟩, ⟨(some 6), none, (.un .not (.v 5))⟩]) (.cond (.v 6) (.seq (.reg false [] [⟨(some 7), none, (.bld [.nil, (.int .i64 0)] [])⟩, ⟨none, none, (.st 2 (.v 2) (.v 7))⟩, ⟨(some 3), none, (.mv (.k (.bool false)))⟩]) .ret) .skip)) (.seq (.reg false [] [⟨(some 8), none, (.ld true 3 (.v 1))⟩, ⟨(some 9), none, (.call 49 [(.v 8), (.k (.int .i64 0))])⟩, ⟨none, none, (.st 2 (.v 2) (.v 9))⟩, ⟨(some 3), none, (.mv (.k (.bool true)))⟩]) .ret)))
def ir22 : Fn := ⟨.own, 1, 10, [(.cell 2 true 2), (.tmp 3)], ir22_c⟩
def ir23_c : C := (.seq (.reg false [] [⟨(some 1), none, (.box (.v 0))⟩, ⟨(some 2), none, (.alc 2 [.nil, (.int .i64 0)])⟩, ⟨(some 3), none, (.mv (.k (.bool false)))⟩]) (.seq (.seq (.reg false [] [⟨(some 4), none, (.ld true 3 (.v 1))⟩, ⟨(some 5), none, (.call 41 [(.v 4)])⟩, ⟨(some 6), none, (.un .not (.v 5))⟩]) (.cond (.v 6) (.seq (.reg false [] [⟨(some 7), none, (.bld [.nil, (.int .i64 0)] [])⟩, ⟨none, none, (.st 2 (.v 2) (.v 7))⟩, ⟨(some 3), none, (.mv (.k (.bool false)))⟩]) .ret) .skip)) (.seq (.reg false [] [⟨(some 8), none, (.ld true 3 (.v 1))⟩, ⟨(some 9), none, (.call 50 [(.v 8), (.k (.int .i64 0))])⟩, ⟨none, none, (.st 2 (.v 2) (.v 9))⟩, ⟨(some 3), none, (.mv (.k (.bool true)))⟩]) .ret)))
def ir23 : Fn := ⟨.own, 1, 10, [(.cell 2 true 2), (.tmp 3)], ir23_c⟩
def ir24_c : C := (.seq (.reg false [] [⟨(some 1), none, (.box (.v 0))⟩, ⟨(some 2), none, (.alc 2 [.nil, (.int .i64 0)])⟩, ⟨(some 3), none, (.mv (.k (.bool false)))⟩]) (.seq (.seq (.reg false [] [⟨(some 4), none, (.ld true 3 (.v 1))⟩, ⟨(some 5), none, (.call 12 [(.v 4)])⟩, ⟨(some 6), none, (.un .not (.v 5))⟩]) (.cond (.v 6) (.seq (.reg false [] [⟨(some 7), none, (.bld [.nil, (.int .i64 0)] [])⟩, ⟨none, none, (.st 2 (.v 2) (.v 7))⟩, ⟨(some 3), none, (.mv (.k (.bool false)))⟩]) .ret) .skip)) (.seq (.reg true [0, 0, 2, 7, 15, 31] [⟨(some 8), none, (.ld true 3 (.v 1))⟩, ⟨(some 9), none, (.ld true 3 (.v 1))⟩, ⟨(some 10), none, (.call 51 [(.v 9)])⟩, ⟨(some 11), none, (.call 49 [(.v 8), (.v 10)])⟩, ⟨none, none, (.st 2 (.v 2) (.v 11))⟩, ⟨(some 3), none, (.mv (.k (.bool true)))⟩]) .ret)))
def ir24 : Fn := ⟨.own, 1, 12, [(.cell 2 true 2), (.tmp 3)], ir24_c⟩
def ir25_c : C := (.seq (.reg false [] [⟨(some 1), none, (.box (.v 0))⟩, ⟨(some 2), none, (.alc 2 [.nil, (.int .i64 0)])⟩, ⟨(some 3), none, (.mv (.k (.bool false)))⟩]) (.seq (.seq (.reg false [] [⟨(some 4), none, (.ld true 3 (.v 1))⟩, ⟨(some 5), none, (.call 41 [(.v 4)])⟩, ⟨(some 6), none, (.un .not (.v 5))⟩]) (.cond (.v 6) (.seq (.reg false [] [⟨(some 7), none, (.bld [.nil, (.int .i64 0)] [])⟩, ⟨none, none, (.st 2 (.v 2) (.v 7))⟩, ⟨(some 3), none, (.mv (.k (.bool false)))⟩]) .ret) .skip)) (.seq (.reg false [] [⟨(some 8), none, (.ld true 3 (.v 1))⟩, ⟨(some 9), none, (.fad 2 (.v 1))⟩, ⟨(some 10), none, (.ld false 1 (.v 9))⟩, ⟨(some 11), none, (.bin .add .none (.v 10) (.k (.int .i64 1)))⟩, ⟨(some 12), none, (.call 50 [(.v 8), (.v 11)])⟩, ⟨none, none, (.st 2 (.v 2) (.v 12))⟩, ⟨(some 3), none, (.mv (.k (.bool true)))⟩]) .ret)))
def ir25 : Fn := ⟨.own, 1, 13, [(.cell 2 true 2), (.tmp 3)], ir25_c⟩
def ir31_c : C := (.seq (.reg false [] [⟨(some 2), none, (.box (.v 0))⟩, ⟨(some 3), none, (.box (.v 1))⟩, ⟨(some 4), none, (.mv (.k (.bool false)))⟩]) (.seq (.reg false [] [⟨(some 5), none, (.ld true 3 (.v 2))⟩, ⟨(some 6), none, (.ld true 2 (.v 3))⟩, ⟨(some 7), none, (.call 10 [(.v 5), (.v 6)])⟩, ⟨(some 8), none, (.mv (.v 7))⟩, ⟨(some 9), (some (8, true)), (.ld true 3 (.v 2))⟩, ⟨(some 10), (some (8, true)), (.ld true 2 (.v 3))⟩, ⟨(some 11), (some (8, true)), (.call 35 [(.v 9), (.v 10)])⟩, ⟨(some 12), none, (.pick (.v 8) (.v 11) (.k (.bool false)))⟩, ⟨(some 4), none, (.mv (.v 12))⟩]) .ret))
def ir31 : Fn := ⟨.own, 2, 13, [(.tmp 4)], ir31_c⟩
def ir33_c : C := (.seq (.reg false [] [⟨(some 2), none, (.box (.v 0))⟩, ⟨(some 3), none, (.box (.v 1))⟩, ⟨(some 4), none, (.mv (.k (.bool false)))⟩]) (.seq (.reg false [] [⟨(some 5), none, (.ld true 3 (.v 2))⟩, ⟨(some 6), none, (.ld true 2 (.v 3))⟩, ⟨(some 7), none, (.call 36 [(.v 5), (.v 6)])⟩, ⟨(some 8), none, (.mv (.v 7))⟩, ⟨(some 9), (some (8, true)), (.ld true 3 (.v 2))⟩, ⟨(some 10), (some (8, true)), (.ld true 2 (.v 3))⟩, ⟨(some 11), (some (8, true)), (.call 37 [(.v 9), (.v 10)])⟩, ⟨(some 12), none, (.pick (.v 8) (.v 11) (.k (.bool false)))⟩, ⟨(some 4), none, (.mv (.v 12))⟩]) .ret))
def ir33 : Fn := ⟨.own, 2, 13, [(.tmp 4)], ir33_c⟩
def ir36_c : C := (.seq (.reg false [] [⟨(some 2), none, (.box (.v 0))⟩, ⟨(some 3), none, (.box (.v 1))⟩, ⟨(some 4), none, (.mv (.k (.bool false)))⟩]) (.seq (.reg false [] [⟨(some 5), none, (.ld true 3 (.v 2))⟩, ⟨(some 6), none, (.call 41 [(.v 5)])⟩, ⟨(some 7), none, (.mv (.v 6))⟩, ⟨(some 8), (some (7, true)), (.fad 0 (.v 3))⟩, ⟨(some 9), (some (7, true)), (.ld false 1 (.v 8))⟩, ⟨(some 10), (some (7, true)), (.len 1 (.v 9))⟩, ⟨(some 11), (some (7, true)), (.fad 0 (.v 2))⟩, ⟨(some 12), (some (7, true)), (.ld false 1 (.v 11))⟩, ⟨(some 13), (some (7, true)), (.bin .mul .none (.k (.int .i64 2)) (.v 12))⟩, ⟨(some 14), (some (7, true)), (.bin .eql .none (.v 10) (.v 13))⟩, ⟨(some 15), none, (.pick (.v 7) (.v 14) (.k (.bool false)))⟩, ⟨(some 16), none, (.mv (.v 15))⟩, ⟨(some 17), (some (16, true)), (.fad 0 (.v 3))⟩, ⟨(some 18), (some (16, true)), (.ld false 1 (.v 17))⟩, ⟨(some 19), (some (16, true)), (.fad 2 (.v 2))⟩, ⟨(some 20), (some (16, true)), (.ld false 1 (.v 19))⟩, ⟨(some 21), (some (16, true)), (.bin .add .none (.v 20) (.k (.int .i64 1)))⟩, ⟨(some 22), (some (16, true)), (.call 62 [(.v 18), (.k (.int .i64 0)), (.v 21)])⟩, ⟨(some 23), none, (.pick (.v 16) (.v 22) (.k (.bool false)))⟩, ⟨(some 24), none, (.mv (.v 23))⟩, ⟨(some 25), (some (24, true)), (.fad 0 (.v 3))⟩, ⟨(some 26), (some (24, true)), (.ld false 1 (.v 25))⟩, ⟨(some 27), (some (24, true)), (.fad 1 (.v 3))⟩, ⟨(some 28), (some (24, true)), (.ld false 1 (.v 27))⟩, ⟨(some 29), (some (24, true)), (.call 63 [(.v 26), (.v 28)])⟩, ⟨(some 30), none, (.pick (.v 24) (.v 29) (.k (.bool false)))⟩, ⟨(some 4), none, (.mv (.v 30))⟩]) .ret))
def ir36 : Fn := ⟨.own, 2, 31, [(.tmp 4)], ir36_c⟩
def ir38_c : C := (.seq (.reg false [] [⟨(some 2), none, (.box (.v 0))⟩, ⟨(some 3), none, (.box (.v 1))⟩, ⟨(some 4), none, (.mv (.k (.bool false)))⟩]) (.seq (.reg false [] [⟨(some 5), none, (.fad 0 (.v 2))⟩, ⟨(some 6), none, (.ld false 1 (.v 5))⟩, ⟨(some 7), none, (.fad 0 (.v 3))⟩, ⟨(some 8), none, (.ld false 1 (.v 7))⟩, ⟨(some 9), none, (.bin .eql .none (.v 6) (.v 8))⟩, ⟨(some 10), none, (.mv (.v 9))⟩, ⟨(some 11), (some (10, true)), (.fad 1 (.v 2))⟩, ⟨(some 12), (some (10, true)), (.ld false 1 (.v 11))⟩, ⟨(some 13), (some (10, true)), (.fad 1 (.v 3))⟩, ⟨(some 14), (some (10, true)), (.ld false 1 (.v 13))⟩, ⟨(some 15), (some (10, true)), (.call 44 [(.v 12), (.v 14)])⟩, ⟨(some 16), none, (.pick (.v 10) (.v 15) (.k (.bool false)))⟩, ⟨(some 4), none, (.mv (.v 16))⟩]) .ret))
def ir38 : Fn := ⟨.own, 2, 17, [(.tmp 4)], ir38_c⟩
def ir39_c : C := (.seq (.reg false [] [⟨(some 2), none, (.box (.v 0))⟩, ⟨(some 3), none, (.box (.v 1))⟩, ⟨(some 4), none, (.mv (.k (.bool false)))⟩]) (.seq (.reg true [0, 1, 0, 4, 0, 28, 0, 124, 255, 511, 1023, 2047, 1023, 5119, 16383, 32767, 65535] [⟨(some 5), none, (.fad 0 (.v 3))⟩, ⟨(some 6), none, (.ld false 1 (.v 5))⟩, ⟨(some 7), none, (.ld true 3 (.v 2))⟩, ⟨(some 8), none, (.call 51 [(.v 7)])⟩, ⟨(some 9), none, (.ld true 3 (.v 2))⟩, ⟨(some 10), none, (.call 66 [(.v 9)])⟩, ⟨(some 11), none, (.ld true 3 (.v 2))⟩, ⟨(some 12), none, (.call 66 [(.v 11)])⟩, ⟨(some 13), none, (.call 65 [(.v 6), (.k (.int .i64 0)), (.v 8), (.v 10), (.v 12)])⟩, ⟨(some 14), none, (.mv (.v 13))⟩, ⟨(some 15), (some (14, true)), (.fad 0 (.v 3))⟩, ⟨(some 16), (some (14, true)), (.ld false 1 (.v 15))⟩, ⟨(some 17), (some (14, true)), (.fad 1 (.v 3))⟩, ⟨(some 18), (some (14, true)), (.ld false 1 (.v 17))⟩, ⟨(some 19), (some (14, true)), (.call 67 [(.v 16), (.v 18)])⟩, ⟨(some 20), none, (.pick (.v 14) (.v 19) (.k (.bool false)))⟩, ⟨(some 4), none, (.mv (.v 20))⟩]) .ret))
def ir39 : Fn := ⟨.own, 2, 21, [(.tmp 4)], ir39_c⟩
def ir42_c : C := (.seq (.reg false [] [⟨(some 3), none, (.box (.v 0))⟩, ⟨(some 4), none, (.box (.v 1))⟩, ⟨(some 5), none, (.box (.v 2))⟩, ⟨(some 6), none, (.mv (.k (.bool false)))⟩]) (.seq (.seq (.reg true [0, 1, 0, 4, 15, 31, 63, 127, 255, 127, 639, 2047, 4095, 8191, 16383, 32767, 16383, 81919, 212991, 16383, 540671, 2097151, 4194303, 8388607, 16777215, 33554431, 67108863, 134217727, 268435455, 536870911] [⟨(some 8), none, (.fad 0 (.v 5))⟩, ⟨(some 9), none, (.ld false 1 (.v 8))⟩, ⟨(some 10), none, (.ld true 3 (.v 3))⟩, ⟨(some 11), none, (.call 51 [(.v 10)])⟩, ⟨(some 12), none, (.call 40 [(.v 9), (.k (.int .i64 0)), (.v 11)])⟩, ⟨(some 13), none, (.un .not (.v 12))⟩, ⟨(some 14), none, (.mv (.v 13))⟩, ⟨(some 15), (some (14, false)), (.fad 0 (.v 5))⟩, ⟨(some 16), (some (14, false)), (.ld false 1 (.v 15))⟩, ⟨(some 17), (some (14, false)), (.fad 1 (.v 4))⟩, ⟨(some 18), (some (14, false)), (.ld false 1 (.v 17))⟩, ⟨(some 19), (some (14, false)), (.bin .eql .none (.v 16) (.v 18))⟩, ⟨(some 20), none, (.pick (.v 14) (.k (.bool true)) (.v 19))⟩, ⟨(some 21), none, (.mv (.v 20))⟩, ⟨(some 22), (some (21, false)), (.fad 1 (.v 5))⟩, ⟨(some 23), (some (21, false)), (.ld false 1 (.v 22))⟩, ⟨(some 24), (some (21, false)), (.ld true 3 (.v 3))⟩, ⟨(some 25), (some (21, false)), (.call 66 [(.v 24)])⟩, ⟨(some 26), (some (21, false)), (.bin .sub .none (.v 25) (.k (.int .i64 1)))⟩, ⟨(some 27), (some (21, false)), (.fad 1 (.v 3))⟩, ⟨(some 28), (some (21, false)), (.ld false 1 (.v 27))⟩, ⟨(some 29), (some (21, false)), (.call 65 [(.v 23), (.k (.int .i64 0)), (.v 26), (.k (.int .i64 1)), (.v 28)])⟩, ⟨(some 30), (some (21, false)), (.un .not (.v 29))⟩, ⟨(some 31), none, (.pick (.v 21) (.k (.bool true)) (.v 30))⟩, ⟨(some 32), none, (.mv (.v 31))⟩, ⟨(some 33), (some (32, false)), (.fad 1 (.v 5))⟩, ⟨(some 34), (some (32, false)), (.ld false 1 (.v 33))⟩, ⟨(some 35), (some (32, false)), (.call 69 [(.v 34)])⟩, ⟨(some 36), (some (32, false)), (.un .not (.v 35))⟩, ⟨(some 37), none, (.pick (.v 32) (.k (.bool true)) (.v 36))⟩]) (.cond (.v 37) (.seq (.reg false [] [⟨(some 6), none, (.mv (.k (.bool false)))⟩]) .ret) .skip)) (.seq (.reg false [] [⟨(some 38), none, (.fad 1 (.v 5))⟩, ⟨(some 39), none, (.ld false 1 (.v 38))⟩, ⟨(some 40), none, (.mkf 71 [] [(.v 4)])⟩, ⟨(some 41), none, (.call 70 [(.v 39), (.v 40)])⟩, ⟨(some 7), none, (.mv (.v 41))⟩]) (.seq (.reg true [0, 1, 3, 7, 15, 31, 63, 127, 255, 255, 255, 1279, 255, 4351, 16127, 32767, 65535, 131071] [⟨(some 42), none, (.mv (.v 7))⟩, ⟨(some 43), none, (.un .not (.v 42))⟩, ⟨(some 44), none, (.mv (.v 43))⟩, ⟨(some 45), (some (44, true)), (.fad 1 (.v 5))⟩, ⟨(some 46), (some (44, true)), (.ld false 1 (.v 45))⟩, ⟨(some 47), (some (44, true)), (.call 60 [(.v 46)])⟩, ⟨(some 48), none, (.pick (.v 44) (.v 47) (.k (.bool false)))⟩, ⟨(some 49), none, (.mv (.v 48))⟩, ⟨(some 50), (some (49, true)), (.ld true 3 (.v 3))⟩, ⟨(some 51), (some (49, true)), (.ld true 2 (.v 4))⟩, ⟨(some 52), (some (49, true)), (.fad 0 (.v 5))⟩, ⟨(some 53), (some (49, true)), (.ld false 1 (.v 52))⟩, ⟨(some 54), (some (49, true)), (.fad 1 (.v 5))⟩, ⟨(some 55), (some (49, true)), (.ld false 1 (.v 54))⟩, ⟨(some 56), (some (49, true)), (.call 43 [(.v 51), (.v 53), (.v 55)])⟩, ⟨(some 57), (some (49, true)), (.call 35 [(.v 50), (.v 56)])⟩, ⟨(some 58), none, (.pick (.v 49) (.v 57) (.k (.bool false)))⟩, ⟨(some 6), none, (.mv (.v 58))⟩]) .ret))))
def ir42 : Fn := ⟨.own, 3, 59, [(.tmp 6)], ir42_c⟩
def ir44_d0 : C := (.seq (.reg false [] [⟨(some 14), none, (.bin .lss .none (.v 13) (.v 12))⟩]) (.seq (.cond (.v 14) .skip (.exit 0)) (.seq (.block 1 (.seq (.reg false [] [⟨(some 15), none, (.mv (.v 13))⟩, ⟨(some 5), none, (.mv (.v 15))⟩]) (.seq (.reg true [0, 0, 3, 7, 0, 0, 48, 112, 255] [⟨(some 16), none, (.mv (.v 0))⟩, ⟨(some 17), none, (.mv (.v 5))⟩, ⟨(some 18), none, (.ixa 1 (.v 16) (.v 17))⟩, ⟨(some 19), none, (.ld false 1 (.v 18))⟩, ⟨(some 20), none, (.mv (.v 1))⟩, ⟨(some 21), none, (.mv (.v 5))⟩, ⟨(some 22), none, (.ixa 1 (.v 20) (.v 21))⟩, ⟨(some 23), none, (.ld false 1 (.v 22))⟩, ⟨(some 24), none, (.bin .neq .none (.v 19) (.v 23))⟩]) (.cond (.v 24) (.seq (.reg false [] [⟨(some 4), none, (.mv (.k (.bool false)))⟩]) .ret) .skip)))) (.reg false [] [⟨(some 25), none, (.bin .add .none (.v 13) (.k (.int .i64 1)))⟩, ⟨(some 13), none, (.mv (.v 25))⟩]))))
def ir44_b0 : C := ir44_d0
def ir44_l0 : C := .loop true [0, 1, 12, 13] ir44_b0
def ir44_c : C := (.seq (.reg false [] [⟨(some 4), none, (.mv (.k (.bool false)))⟩]) (.seq (.seq (.reg false [] [⟨(some 6), none, (.mv (.v 0))⟩, ⟨(some 7), none, (.len 1 (.v 6))⟩, ⟨(some 8), none, (.mv (.v 1))⟩, ⟨(some 9), none, (.len 1 (.v 8))⟩, ⟨(some 10), none, (.bin .neq .none (.v 7) (.v 9))⟩]) (.cond (.v 10) (.seq (.reg false [] [⟨(some 4), none, (.mv (.k (.bool false)))⟩]) .ret) .skip)) (.seq (.seq (.reg false [] [⟨(some 11), none, (.mv (.v 0))⟩, ⟨(some 12), none, (.len 1 (.v 11))⟩, ⟨(some 13), none, (.mv (.k (.int .i64 0)))⟩]) (.block 0 ir44_l0)) (.seq (.reg false [] [⟨(some 4), none, (.mv (.k (.bool true)))⟩]) .ret))))
def ir44 : Fn := ⟨.own, 2, 26, [(.tmp 4)], ir44_c⟩
def ir47_d0 : C := (.seq (.reg false [] [⟨(some 13), none, (.bin .lss .none (.v 12) (.v 11))⟩]) (.seq (.cond (.v 13) .skip (.exit 0)) (.seq (.block 1 (.seq (.reg false [] [⟨(some 14), none, (.mv (.v 12))⟩, ⟨(some 15), none, (.ixa 2 (.v 10) (.v 12))⟩, ⟨(some 16), none, (.ld true 2 (.v 15))⟩, ⟨(some 9), none, (.alc 2 [(.int .i64 0), .nil])⟩, ⟨(some 8), none, (.mv (.v 14))⟩, ⟨none, none, (.st 2 (.v 9) (.v 16))⟩]) (.seq (.seq (.reg false [] [⟨(some 17), none, (.ld true 3 (.v 3))⟩, ⟨(some 18), none, (.ld true 2 (.v 4))⟩, ⟨(some 19), none, (.ld true 2 (.v 9))⟩, ⟨(some 20), none, (.call 42 [(.v 17), (.v 18), (.v 19)])⟩, ⟨(some 21), none, (.un .not (.v 20))⟩]) (.cond (.v 21) (.seq (.reg false [] [⟨(some 22), none, (.ld true 2 (.v 4))⟩, ⟨(some 23), none, (.mv (.v 8))⟩, ⟨none, none, (.st 2 (.v 6) (.v 22))⟩, ⟨(some 7), none, (.mv (.v 23))⟩]) .ret) .skip)) (.reg false [] [⟨(some 24), none, (.ld true 2 (.v 4))⟩, ⟨(some 25), none, (.fad 0 (.v 9))⟩, ⟨(some 26), none, (.ld false 1 (.v 25))⟩, ⟨(some 27), none, (.fad 1 (.v 9))⟩, ⟨(some 28), none, (.ld false 1 (.v 27))⟩, ⟨(some 29), none, (.call 43 [(.v 24), (.v 26), (.v 28)])⟩, ⟨none, none, (.st 2 (.v 4) (.v 29))⟩])))) (.reg false [] [⟨(some 30), none, (.bin .add .none (.v 12) (.k (.int .i64 1)))⟩, ⟨(some 12), none, (.mv (.v 30))⟩]))))
def ir47_b0 : C := ir47_d0
def ir47_l0 : C := .loop true [3, 4, 6, 10, 11, 12] ir47_b0
def ir47_c : C := (.seq (.reg false [] [⟨(some 3), none, (.box (.v 0))⟩, ⟨(some 4), none, (.box (.v 1))⟩, ⟨(some 6), none, (.alc 2 [.nil, (.int .i64 0)])⟩, ⟨(some 7), none, (.mv (.k (.int .i64 0)))⟩]) (.seq (.seq (.reg false [] [⟨(some 10), none, (.mv (.v 2))⟩, ⟨(some 11), none, (.len 1 (.v 10))⟩, ⟨(some 12), none, (.mv (.k (.int .i64 0)))⟩]) (.block 0 ir47_l0)) (.seq (.reg false [] [⟨(some 31), none, (.ld true 2 (.v 4))⟩, ⟨(some 32), none, (.fad 1 (.v 4))⟩, ⟨(some 33), none, (.ld false 1 (.v 32))⟩, ⟨(some 34), none, (.call 43 [(.v 31), (.v 33), (.k .nil)])⟩, ⟨none, none, (.st 2 (.v 6) (.v 34))⟩, ⟨(some 7), none, (.mv (.k (.int .i64 (-1))))⟩]) .ret)))
def ir47 : Fn := ⟨.ownF, 3, 35, [(.cell 6 true 2), (.tmp 7)], ir47_c⟩
def ir48_d0 : C := (.seq (.reg false [] [⟨(some 19), none, (.bin .lss .none (.v 18) (.v 17))⟩]) (.seq (.cond (.v 19) .skip (.exit 0)) (.seq (.block 1 (.seq (.reg false [] [⟨(some 20), none, (.mv (.v 18))⟩, ⟨(some 21), none, (.ixa 2 (.v 16) (.v 18))⟩, ⟨(some 22), none, (.ld true 2 (.v 21))⟩, ⟨(some 9), none, (.alc 2 [(.int .i64 0), .nil])⟩, ⟨(some 8), none, (.mv (.v 20))⟩, ⟨none, none, (.st 2 (.v 9) (.v 22))⟩]) (.seq (.seq (.reg false [] [⟨(some 23), none, (.ld true 3 (.v 3))⟩, ⟨(some 24), none, (.ld true 2 (.v 4))⟩, ⟨(some 25), none, (.ld true 2 (.v 9))⟩, ⟨(some 26), none, (.call 45 [(.v 23), (.v 24), (.v 25)])⟩, ⟨(some 27), none, (.un .not (.v 26))⟩]) (.cond (.v 27) (.seq (.reg false [] [⟨(some 28), none, (.ld true 2 (.v 4))⟩, ⟨(some 29), none, (.mv (.v 8))⟩, ⟨none, none, (.st 2 (.v 6) (.v 28))⟩, ⟨(some 7), none, (.mv (.v 29))⟩]) .ret) .skip)) (.reg false [] [⟨(some 30), none, (.ld true 2 (.v 4))⟩, ⟨(some 31), none, (.ld true 2 (.v 9))⟩, ⟨(some 32), none, (.call 46 [(.v 30), (.v 31)])⟩, ⟨none, none, (.st 2 (.v 4) (.v 32))⟩])))) (.reg false [] [⟨(some 33), none, (.bin .add .none (.v 18) (.k (.int .i64 1)))⟩, ⟨(some 18), none, (.mv (.v 33))⟩]))))
def ir48_b0 : C := ir48_d0
def ir48_l0 : C := .loop true [2, 3, 4, 6, 16, 17, 18] ir48_b0
def ir48_c : C := (.seq (.reg false [] [⟨(some 3), none, (.box (.v 0))⟩, ⟨(some 4), none, (.box (.v 1))⟩, ⟨(some 6), none, (.alc 2 [.nil, (.int .i64 0)])⟩, ⟨(some 7), none, (.mv (.k (.int .i64 0)))⟩]) (.seq (.reg true [0, 1, 3, 0, 8, 31, 63] [⟨(some 10), none, (.fad 0 (.v 4))⟩, ⟨(some 11), none, (.ld false 1 (.v 10))⟩, ⟨(some 12), none, (.call 75 [(.v 11)])⟩, ⟨(some 13), none, (.fad 1 (.v 4))⟩, ⟨(some 14), none, (.ld false 1 (.v 13))⟩, ⟨(some 15), none, (.bld [.nil, (.int .i64 0)] [(0, (1, (.v 12))), (1, (1, (.v 14)))])⟩, ⟨none, none, (.st 2 (.v 4) (.v 15))⟩]) (.seq (.seq (.reg false [] [⟨(some 16), none, (.mv (.v 2))⟩, ⟨(some 17), none, (.len 1 (.v 16))⟩, ⟨(some 18), none, (.mv (.k (.int .i64 0)))⟩]) (.block 0 ir48_l0)) (.seq (.reg false [] [⟨(some 34), none, (.ld true 2 (.v 4))⟩, ⟨(some 35), none, (.mv (.v 2))⟩, ⟨(some 36), none, (.len 1 (.v 35))⟩, ⟨none, none, (.st 2 (.v 6) (.v 34))⟩, ⟨(some 7), none, (.mv (.v 36))⟩]) .ret))))
def ir48 : Fn := ⟨.own, 3, 37, [(.cell 6 true 2), (.tmp 7)], ir48_c⟩
def ir62_d0 : C := (.seq (.reg false [] [⟨(some 12), none, (.bin .lss .none (.v 11) (.v 10))⟩]) (.seq (.cond (.v 12) .skip (.exit 0)) (.seq (.block 1 (.seq (.reg false [] [⟨(some 13), none, (.ixa 1 (.v 9) (.v 11))⟩, ⟨(some 14), none, (.ld false 1 (.v 13))⟩, ⟨(some 8), none, (.mv (.v 14))⟩]) (.seq (.reg false [] [⟨(some 15), none, (.mv (.v 8))⟩, ⟨(some 16), none, (.mv (.v 1))⟩, ⟨(some 17), none, (.mv (.v 2))⟩, ⟨(some 18), none, (.call 68 [(.v 15), (.v 16), (.v 17)])⟩, ⟨(some 19), none, (.un .not (.v 18))⟩]) (.cond (.v 19) (.seq (.reg false [] [⟨(some 6), none, (.mv (.k (.bool false)))⟩]) .ret) .skip)))) (.reg false [] [⟨(some 20), none, (.bin .add .none (.v 11) (.k (.int .i64 1)))⟩, ⟨(some 11), none, (.mv (.v 20))⟩]))))
def ir62_b0 : C := ir62_d0
def ir62_l0 : C := .loop true [1, 2, 9, 10, 11] ir62_b0
def ir62_c : C := (.seq (.reg false [] [⟨(some 6), none, (.mv (.k (.bool false)))⟩]) (.seq (.seq (.reg false [] [⟨(some 9), none, (.mv (.v 0))⟩, ⟨(some 10), none, (.len 1 (.v 9))⟩, ⟨(some 11), none, (.mv (.k (.int .i64 0)))⟩]) (.block 0 ir62_l0)) (.seq (.reg false [] [⟨(some 6), none, (.mv (.k (.bool true)))⟩]) .ret)))
def ir62 : Fn := ⟨.own, 3, 21, [(.tmp 6)], ir62_c⟩
def ir63_d0 : C := (.seq (.reg false [] [⟨(some 10), none, (.bin .lss .none (.v 9) (.v 8))⟩]) (.seq (.cond (.v 10) .skip (.exit 0)) (.seq (.block 1 (.seq (.reg false [] [⟨(some 11), none, (.ixa 1 (.v 7) (.v 9))⟩, ⟨(some 12), none, (.ld false 1 (.v 11))⟩, ⟨(some 6), none, (.mv (.v 12))⟩]) (.seq (.reg false [] [⟨(some 13), none, (.mv (.v 6))⟩, ⟨(some 14), none, (.mv (.v 1))⟩, ⟨(some 15), none, (.bin .eql .none (.v 13) (.v 14))⟩]) (.cond (.v 15) (.seq (.reg false [] [⟨(some 4), none, (.mv (.k (.bool true)))⟩]) .ret) .skip)))) (.reg false [] [⟨(some 16), none, (.bin .add .none (.v 9) (.k (.int .i64 1)))⟩, ⟨(some 9), none, (.mv (.v 16))⟩]))))
def ir63_b0 : C := ir63_d0
def ir63_l0 : C := .loop true [1, 7, 8, 9] ir63_b0
def ir63_c : C := (.seq (.reg false [] [⟨(some 4), none, (.mv (.k (.bool false)))⟩]) (.seq (.seq (.reg false [] [⟨(some 7), none, (.mv (.v 0))⟩, ⟨(some 8), none, (.len 1 (.v 7))⟩, ⟨(some 9), none, (.mv (.k (.int .i64 0)))⟩]) (.block 0 ir63_l0)) (.seq (.reg false [] [⟨(some 4), none, (.mv (.k (.bool false)))⟩]) .ret)))
def ir63 : Fn := ⟨.own, 2, 17, [(.tmp 4)], ir63_c⟩
def ir65_c : C := (.seq (.reg false [] [⟨(some 6), none, (.box (.v 1))⟩, ⟨(some 7), none, (.box (.v 2))⟩, ⟨(some 10), none, (.mv (.k (.bool false)))⟩]) (.seq (.reg false [] [⟨(some 11), none, (.mv (.v 0))⟩, ⟨(some 12), none, (.len 1 (.v 11))⟩, ⟨(some 13), none, (.mv (.v 3))⟩, ⟨(some 14), none, (.mv (.v 4))⟩, ⟨(some 15), none, (.call 40 [(.v 12), (.v 13), (.v 14)])⟩, ⟨(some 16), none, (.mv (.v 15))⟩, ⟨(some 17), (some (16, true)), (.mv (.v 0))⟩, ⟨(some 18), (some (16, true)), (.mkf 83 [] [(.v 6), (.v 7)])⟩, ⟨(some 19), (some (16, true)), (.call 70 [(.v 17), (.v 18)])⟩, ⟨(some 20), (some (16, true)), (.un .not (.v 19))⟩, ⟨(some 21), none, (.pick (.v 16) (.v 20) (.k (.bool false)))⟩, ⟨(some 10), none, (.mv (.v 21))⟩]) .ret))
def ir65 : Fn := ⟨.own, 5, 22, [(.tmp 10)], ir65_c⟩
def ir69_d0 : C := (.seq (.seq (.reg false [] [⟨(some 4), none, (.mv (.v 3))⟩, ⟨(some 5), none, (.mv (.v 0))⟩, ⟨(some 6), none, (.len 1 (.v 5))⟩, ⟨(some 7), none, (.bin .lss .none (.v 4) (.v 6))⟩]) (.cond (.v 7) .skip (.exit 0))) (.seq (.block 1 (.seq (.reg true [0, 0, 3, 7, 0, 0, 32, 112, 240, 511] [⟨(some 10), none, (.mv (.v 0))⟩, ⟨(some 11), none, (.mv (.v 3))⟩, ⟨(some 12), none, (.ixa 1 (.v 10) (.v 11))⟩, ⟨(some 13), none, (.ld false 1 (.v 12))⟩, ⟨(some 14), none, (.mv (.v 0))⟩, ⟨(some 15), none, (.mv (.v 3))⟩, ⟨(some 16), none, (.bin .sub .none (.v 15) (.k (.int .i64 1)))⟩, ⟨(some 17), none, (.ixa 1 (.v 14) (.v 16))⟩, ⟨(some 18), none, (.ld false 1 (.v 17))⟩, ⟨(some 19), none, (.bin .leq .none (.v 13) (.v 18))⟩]) (.cond (.v 19) (.seq (.reg false [] [⟨(some 2), none, (.mv (.k (.bool false)))⟩]) .ret) .skip))) (.reg false [] [⟨(some 8), none, (.mv (.v 3))⟩, ⟨(some 9), none, (.bin .add .none (.v 8) (.k (.int .i64 1)))⟩, ⟨(some 3), none, (.mv (.v 9))⟩])))
def ir69_b0 : C := ir69_d0
def ir69_l0 : C := .loop true [0, 3] ir69_b0
def ir69_c : C := (.seq (.reg false [] [⟨(some 2), none, (.mv (.k (.bool false)))⟩]) (.seq (.seq (.reg false [] [⟨(some 3), none, (.mv (.k (.int .i64 1)))⟩]) (.block 0 ir69_l0)) (.seq (.reg false [] [⟨(some 2), none, (.mv (.k (.bool true)))⟩]) .ret)))
def ir69 : Fn := ⟨.own, 1, 20, [(.tmp 2)], ir69_c⟩
def ir71_c : C := (.seq (.reg false [] [⟨(some 3), none, (.mv (.k (.bool false)))⟩]) (.seq (.reg true [0, 1, 0, 7, 15, 0, 32, 127, 255] [⟨(some 4), none, (.fad 0 (.v 1))⟩, ⟨(some 5), none, (.ld false 1 (.v 4))⟩, ⟨(some 6), none, (.mv (.v 0))⟩, ⟨(some 7), none, (.ixa 1 (.v 5) (.v 6))⟩, ⟨(some 8), none, (.ld false 1 (.v 7))⟩, ⟨(some 9), none, (.fad 1 (.v 1))⟩, ⟨(some 10), none, (.ld false 1 (.v 9))⟩, ⟨(some 11), none, (.bin .neq .none (.v 8) (.v 10))⟩, ⟨(some 3), none, (.mv (.v 11))⟩]) .ret))
def ir71 : Fn := ⟨.own, 2, 12, [(.tmp 3)], ir71_c⟩
def ir83_c : C := (.seq (.reg false [] [⟨(some 4), none, (.mv (.k (.bool false)))⟩]) (.seq (.reg false [] [⟨(some 5), none, (.mv (.v 0))⟩, ⟨(some 6), none, (.ld false 1 (.v 1))⟩, ⟨(some 7), none, (.ld false 1 (.v 2))⟩, ⟨(some 8), none, (.call 40 [(.v 5), (.v 6), (.v 7)])⟩, ⟨(some 9), none, (.un .not (.v 8))⟩, ⟨(some 4), none, (.mv (.v 9))⟩]) .ret))
def ir83 : Fn := ⟨.own, 3, 10, [(.tmp 4)], ir83_c⟩
def tab : List (Nat × Fun) := [(41, .ir ir41), (50, .ir ir50), (12, .ir ir12), (34, .ir ir34), (46, .ir ir46), (32, .ir ir32), (43, .ir ir43), (49, .ir ir49), (51, .ir ir51), (61, .ir ir61), (45, .ir ir45), (75, .ir ir75), (66, .ir ir66), (57, .ir ir57), (58, .ir ir58), (59, .ir ir59), (60, .ir ir60), (35, .ir ir35), (76, .ir ir76), (73, .ir ir73), (64, .ir ir64), (74, .ir ir74), (37, .ir ir37), (81, .ir ir81), (67, .ir ir67), (70, .ir ir70), (82, .ir ir82), (86, .ir ir86), (84, .ir ir84), (85, .ir ir85), (88, .ir ir88), (68, .ir ir68), (40, .ir ir40), (3, .ir ir3), (5, .ir ir5), (6, .ir ir6), (7, .ir ir7), (8, .ir ir8), (9, .ir ir9), (10, .ir ir10), (11, .ir ir11), (13, .ir ir13), (14, .ir ir14), (15, .ir ir15), (16, .ir ir16), (17, .ir ir17), (18, .ir ir18), (19, .ir ir19), (20, .ir ir20), (21, .ir ir21), (22, .ir ir22), (23, .ir ir23), (24, .ir ir24), (25, .ir ir25), (31, .ir ir31), (33, .ir ir33), (36, .ir ir36), (38, .ir ir38), (39, .ir ir39), (42, .ir ir42), (44, .ir ir44), (47, .ir ir47), (48, .ir ir48), (62, .ir ir62), (63, .ir ir63), (65, .ir ir65), (69, .ir ir69), (71, .ir ir71), (83, .ir ir83), (72, .prim .own (cloneP 1))]
def env : Env := fun f => tab.lookup f
theorem x50_0 (E : Env) (s : Fr × Heap) : loopF E true [1, 2, 4, 5] ir50_b0 s = andN (execD E ir50_d0 s) (loopK E true [1, 2, 4, 5] ir50_b0) := loopF_K _ _ _ s
@[simp] theorem l50_0 (E : Env) (s : Fr × Heap) : execD E ir50_l0 s = loopF E true [1, 2, 4, 5] ir50_b0 (gcFr true [1, 2, 4, 5] s) := execD_loopF _ _ _ s
theorem x34_0 (E : Env) (s : Fr × Heap) : loopF E true [2, 3, 5, 8, 9, 40, 41, 42] ir34_b0 s = andN (execD E ir34_d0 s) (loopK E true [2, 3, 5, 8, 9, 40, 41, 42] ir34_b0) := loopF_K _ _ _ s
@[simp] theorem l34_0 (E : Env) (s : Fr × Heap) : execD E ir34_l0 s = loopF E true [2, 3, 5, 8, 9, 40, 41, 42] ir34_b0 (gcFr true [2, 3, 5, 8, 9, 40, 41, 42] s) := execD_loopF _ _ _ s
theorem x34_1 (E : Env) (s : Fr × Heap) : loopF E true [2, 3, 5, 8, 9] ir34_b1 s = andN (execD E ir34_d1 s) (loopK E true [2, 3, 5, 8, 9] ir34_b1) := loopF_K _ _ _ s
@[simp] theorem l34_1 (E : Env) (s : Fr × Heap) : execD E ir34_l1 s = loopF E true [2, 3, 5, 8, 9] ir34_b1 (gcFr true [2, 3, 5, 8, 9] s) := execD_loopF _ _ _ s
theorem x34_2 (E : Env) (s : Fr × Heap) : loopF E true [2, 3, 5, 14, 15, 16] ir34_b2 s = andN (execD E ir34_d2 s) (loopK E true [2, 3, 5, 14, 15, 16] ir34_b2) := loopF_K _ _ _ s
@[simp] theorem l34_2 (E : Env) (s : Fr × Heap) : execD E ir34_l2 s = loopF E true [2, 3, 5, 14, 15, 16] ir34_b2 (gcFr true [2, 3, 5, 14, 15, 16] s) := execD_loopF _ _ _ s
theorem x46_0 (E : Env) (s : Fr × Heap) : loopF E true [3, 4, 5, 15, 16, 17] ir46_b0 s = andN (execD E ir46_d0 s) (loopK E true [3, 4, 5, 15, 16, 17] ir46_b0) := loopF_K _ _ _ s
@[simp] theorem l46_0 (E : Env) (s : Fr × Heap) : execD E ir46_l0 s = loopF E true [3, 4, 5, 15, 16, 17] ir46_b0 (gcFr true [3, 4, 5, 15, 16, 17] s) := execD_loopF _ _ _ s
theorem x32_0 (E : Env) (s : Fr × Heap) : loopF E true [2, 3, 5, 6, 15, 16] ir32_b0 s = andN (execD E ir32_d0 s) (loopK E true [2, 3, 5, 6, 15, 16] ir32_b0) := loopF_K _ _ _ s
@[simp] theorem l32_0 (E : Env) (s : Fr × Heap) : execD E ir32_l0 s = loopF E true [2, 3, 5, 6, 15, 16] ir32_b0 (gcFr true [2, 3, 5, 6, 15, 16] s) := execD_loopF _ _ _ s
theorem x43_0 (E : Env) (s : Fr × Heap) : loopF E true [1, 6, 7, 15, 16, 17] ir43_b0 s = andN (execD E ir43_d0 s) (loopK E true [1, 6, 7, 15, 16, 17] ir43_b0) := loopF_K _ _ _ s
@[simp] theorem l43_0 (E : Env) (s : Fr × Heap) : execD E ir43_l0 s = loopF E true [1, 6, 7, 15, 16, 17] ir43_b0 (gcFr true [1, 6, 7, 15, 16, 17] s) := execD_loopF _ _ _ s
theorem x61_0 (E : Env) (s : Fr × Heap) : loopF E true [0, 1, 3, 9, 10] ir61_b0 s = andN (execD E ir61_d0 s) (loopK E true [0, 1, 3, 9, 10] ir61_b0) := loopF_K _ _ _ s
@[simp] theorem l61_0 (E : Env) (s : Fr × Heap) : execD E ir61_l0 s = loopF E true [0, 1, 3, 9, 10] ir61_b0 (gcFr true [0, 1, 3, 9, 10] s) := execD_loopF _ _ _ s
theorem x45_0 (E : Env) (s : Fr × Heap) : loopF E true [3, 4, 5, 43, 44, 45] ir45_b0 s = andN (execD E ir45_d0 s) (loopK E true [3, 4, 5, 43, 44, 45] ir45_b0) := loopF_K _ _ _ s
@[simp] theorem l45_0 (E : Env) (s : Fr × Heap) : execD E ir45_l0 s = loopF E true [3, 4, 5, 43, 44, 45] ir45_b0 (gcFr true [3, 4, 5, 43, 44, 45] s) := execD_loopF _ _ _ s
theorem x57_0 (E : Env) (s : Fr × Heap) : loopF E true [1, 5, 10, 11, 12] ir57_b0 s = andN (execD E ir57_d0 s) (loopK E true [1, 5, 10, 11, 12] ir57_b0) := loopF_K _ _ _ s
@[simp] theorem l57_0 (E : Env) (s : Fr × Heap) : execD E ir57_l0 s = loopF E true [1, 5, 10, 11, 12] ir57_b0 (gcFr true [1, 5, 10, 11, 12] s) := execD_loopF _ _ _ s
theorem x60_0 (E : Env) (s : Fr × Heap) : loopF E true [0, 5, 6, 7] ir60_b0 s = andN (execD E ir60_d0 s) (loopK E true [0, 5, 6, 7] ir60_b0) := loopF_K _ _ _ s
@[simp] theorem l60_0 (E : Env) (s : Fr × Heap) : execD E ir60_l0 s = loopF E true [0, 5, 6, 7] ir60_b0 (gcFr true [0, 5, 6, 7] s) := execD_loopF _ _ _ s
theorem x35_0 (E : Env) (s : Fr × Heap) : loopF E true [3, 8, 9] ir35_b0 s = andN (execD E ir35_d0 s) (loopK E true [3, 8, 9] ir35_b0) := loopF_K _ _ _ s
@[simp] theorem l35_0 (E : Env) (s : Fr × Heap) : execD E ir35_l0 s = loopF E true [3, 8, 9] ir35_b0 (gcFr true [3, 8, 9] s) := execD_loopF _ _ _ s
theorem x76_0 (E : Env) (s : Fr × Heap) : loopF E true [7, 8] ir76_b0 s = andN (execD E ir76_d0 s) (loopK E true [7, 8] ir76_b0) := loopF_K _ _ _ s
@[simp] theorem l76_0 (E : Env) (s : Fr × Heap) : execD E ir76_l0 s = loopF E true [7, 8] ir76_b0 (gcFr true [7, 8] s) := execD_loopF _ _ _ s
theorem x73_0 (E : Env) (s : Fr × Heap) : loopF E true [0, 1, 2, 9, 10, 11] ir73_b0 s = andN (execD E ir73_d0 s) (loopK E true [0, 1, 2, 9, 10, 11] ir73_b0) := loopF_K _ _ _ s
@[simp] theorem l73_0 (E : Env) (s : Fr × Heap) : execD E ir73_l0 s = loopF E true [0, 1, 2, 9, 10, 11] ir73_b0 (gcFr true [0, 1, 2, 9, 10, 11] s) := execD_loopF _ _ _ s
theorem x64_0 (E : Env) (s : Fr × Heap) : loopF E true [0, 1, 5, 6] ir64_b0 s = andN (execD E ir64_d0 s) (loopK E true [0, 1, 5, 6] ir64_b0) := loopF_K _ _ _ s
@[simp] theorem l64_0 (E : Env) (s : Fr × Heap) : execD E ir64_l0 s = loopF E true [0, 1, 5, 6] ir64_b0 (gcFr true [0, 1, 5, 6] s) := execD_loopF _ _ _ s
theorem x64_1 (E : Env) (s : Fr × Heap) : loopF E true [0, 1, 5] ir64_b1 s = andN (execD E ir64_d1 s) (loopK E true [0, 1, 5] ir64_b1) := loopF_K _ _ _ s
@[simp] theorem l64_1 (E : Env) (s : Fr × Heap) : execD E ir64_l1 s = loopF E true [0, 1, 5] ir64_b1 (gcFr true [0, 1, 5] s) := execD_loopF _ _ _ s
theorem x74_0 (E : Env) (s : Fr × Heap) : loopF E true [3, 6, 7, 8] ir74_b0 s = andN (execD E ir74_d0 s) (loopK E true [3, 6, 7, 8] ir74_b0) := loopF_K _ _ _ s
@[simp] theorem l74_0 (E : Env) (s : Fr × Heap) : execD E ir74_l0 s = loopF E true [3, 6, 7, 8] ir74_b0 (gcFr true [3, 6, 7, 8] s) := execD_loopF _ _ _ s
theorem x37_0 (E : Env) (s : Fr × Heap) : loopF E true [2, 3, 5, 6, 17, 18, 19] ir37_b0 s = andN (execD E ir37_d0 s) (loopK E true [2, 3, 5, 6, 17, 18, 19] ir37_b0) := loopF_K _ _ _ s
@[simp] theorem l37_0 (E : Env) (s : Fr × Heap) : execD E ir37_l0 s = loopF E true [2, 3, 5, 6, 17, 18, 19] ir37_b0 (gcFr true [2, 3, 5, 6, 17, 18, 19] s) := execD_loopF _ _ _ s
theorem x37_1 (E : Env) (s : Fr × Heap) : loopF E true [2, 3, 5] ir37_b1 s = andN (execD E ir37_d1 s) (loopK E true [2, 3, 5] ir37_b1) := loopF_K _ _ _ s
@[simp] theorem l37_1 (E : Env) (s : Fr × Heap) : execD E ir37_l1 s = loopF E true [2, 3, 5] ir37_b1 (gcFr true [2, 3, 5] s) := execD_loopF _ _ _ s
theorem x81_0 (E : Env) (s : Fr × Heap) : loopF E false [1, 2, 3, 4, 5, 8] ir81_b0 s = andN (execD E ir81_d0 s) (loopK E false [1, 2, 3, 4, 5, 8] ir81_b0) := loopF_K _ _ _ s
@[simp] theorem l81_0 (E : Env) (s : Fr × Heap) : execD E ir81_l0 s = loopF E false [1, 2, 3, 4, 5, 8] ir81_b0 (gcFr false [1, 2, 3, 4, 5, 8] s) := execD_loopF _ _ _ s
theorem x84_0 (E : Env) (s : Fr × Heap) : loopF E true [0, 1, 7, 8] ir84_b0 s = andN (execD E ir84_d0 s) (loopK E true [0, 1, 7, 8] ir84_b0) := loopF_K _ _ _ s
@[simp] theorem l84_0 (E : Env) (s : Fr × Heap) : execD E ir84_l0 s = loopF E true [0, 1, 7, 8] ir84_b0 (gcFr true [0, 1, 7, 8] s) := execD_loopF _ _ _ s
theorem x85_0 (E : Env) (s : Fr × Heap) : loopF E true [0, 1, 7, 8] ir85_b0 s = andN (execD E ir85_d0 s) (loopK E true [0, 1, 7, 8] ir85_b0) := loopF_K _ _ _ s
@[simp] theorem l85_0 (E : Env) (s : Fr × Heap) : execD E ir85_l0 s = loopF E true [0, 1, 7, 8] ir85_b0 (gcFr true [0, 1, 7, 8] s) := execD_loopF _ _ _ s
theorem x3_0 (E : Env) (s : Fr × Heap) : loopF E true [7, 9, 10, 11, 12, 13, 14, 15, 17, 19, 153, 154, 155] ir3_b0 s = andN (execD E ir3_d0 s) (loopK E true [7, 9, 10, 11, 12, 13, 14, 15, 17, 19, 153, 154, 155] ir3_b0) := loopF_K _ _ _ s
@[simp] theorem l3_0 (E : Env) (s : Fr × Heap) : execD E ir3_l0 s = loopF E true [7, 9, 10, 11, 12, 13, 14, 15, 17, 19, 153, 154, 155] ir3_b0 (gcFr true [7, 9, 10, 11, 12, 13, 14, 15, 17, 19, 153, 154, 155] s) := execD_loopF _ _ _ s
theorem x9_0 (E : Env) (s : Fr × Heap) : loopF E true [0, 1, 12, 13] ir9_b0 s = andN (execD E ir9_d0 s) (loopK E true [0, 1, 12, 13] ir9_b0) := loopF_K _ _ _ s
@[simp] theorem l9_0 (E : Env) (s : Fr × Heap) : execD E ir9_l0 s = loopF E true [0, 1, 12, 13] ir9_b0 (gcFr true [0, 1, 12, 13] s) := execD_loopF _ _ _ s
theorem x16_0 (E : Env) (s : Fr × Heap) : loopF E true [0, 1, 5] ir16_b0 s = andN (execD E ir16_d0 s) (loopK E true [0, 1, 5] ir16_b0) := loopF_K _ _ _ s
@[simp] theorem l16_0 (E : Env) (s : Fr × Heap) : execD E ir16_l0 s = loopF E true [0, 1, 5] ir16_b0 (gcFr true [0, 1, 5] s) := execD_loopF _ _ _ s
theorem x44_0 (E : Env) (s : Fr × Heap) : loopF E true [0, 1, 12, 13] ir44_b0 s = andN (execD E ir44_d0 s) (loopK E true [0, 1, 12, 13] ir44_b0) := loopF_K _ _ _ s
@[simp] theorem l44_0 (E : Env) (s : Fr × Heap) : execD E ir44_l0 s = loopF E true [0, 1, 12, 13] ir44_b0 (gcFr true [0, 1, 12, 13] s) := execD_loopF _ _ _ s
theorem x47_0 (E : Env) (s : Fr × Heap) : loopF E true [3, 4, 6, 10, 11, 12] ir47_b0 s = andN (execD E ir47_d0 s) (loopK E true [3, 4, 6, 10, 11, 12] ir47_b0) := loopF_K _ _ _ s
@[simp] theorem l47_0 (E : Env) (s : Fr × Heap) : execD E ir47_l0 s = loopF E true [3, 4, 6, 10, 11, 12] ir47_b0 (gcFr true [3, 4, 6, 10, 11, 12] s) := execD_loopF _ _ _ s
theorem x48_0 (E : Env) (s : Fr × Heap) : loopF E true [2, 3, 4, 6, 16, 17, 18] ir48_b0 s = andN (execD E ir48_d0 s) (loopK E true [2, 3, 4, 6, 16, 17, 18] ir48_b0) := loopF_K _ _ _ s
@[simp] theorem l48_0 (E : Env) (s : Fr × Heap) : execD E ir48_l0 s = loopF E true [2, 3, 4, 6, 16, 17, 18] ir48_b0 (gcFr true [2, 3, 4, 6, 16, 17, 18] s) := execD_loopF _ _ _ s
theorem x62_0 (E : Env) (s : Fr × Heap) : loopF E true [1, 2, 9, 10, 11] ir62_b0 s = andN (execD E ir62_d0 s) (loopK E true [1, 2, 9, 10, 11] ir62_b0) := loopF_K _ _ _ s
@[simp] theorem l62_0 (E : Env) (s : Fr × Heap) : execD E ir62_l0 s = loopF E true [1, 2, 9, 10, 11] ir62_b0 (gcFr true [1, 2, 9, 10, 11] s) := execD_loopF _ _ _ s
theorem x63_0 (E : Env) (s : Fr × Heap) : loopF E true [1, 7, 8, 9] ir63_b0 s = andN (execD E ir63_d0 s) (loopK E true [1, 7, 8, 9] ir63_b0) := loopF_K _ _ _ s
@[simp] theorem l63_0 (E : Env) (s : Fr × Heap) : execD E ir63_l0 s = loopF E true [1, 7, 8, 9] ir63_b0 (gcFr true [1, 7, 8, 9] s) := execD_loopF _ _ _ s
theorem x69_0 (E : Env) (s : Fr × Heap) : loopF E true [0, 3] ir69_b0 s = andN (execD E ir69_d0 s) (loopK E true [0, 3] ir69_b0) := loopF_K _ _ _ s
@[simp] theorem l69_0 (E : Env) (s : Fr × Heap) : execD E ir69_l0 s = loopF E true [0, 3] ir69_b0 (gcFr true [0, 3] s) := execD_loopF _ _ _ s
@[simp] theorem e41 : env 41 = some (.ir ir41) := rfl
@[simp] theorem m41 : ir41.mode = .own := rfl
@[simp] theorem c41 (args : List V) (H : Heap) : evCall env (den env) 41 args H = ownC (ownR env 41) H (rdL (rd H depth) args) := call_own e41 rfl args H
@[simp] theorem e50 : env 50 = some (.ir ir50) := rfl
@[simp] theorem m50 : ir50.mode = .own := rfl
@[simp] theorem c50 (args : List V) (H : Heap) : evCall env (den env) 50 args H = ownC (ownR env 50) H (rdL (rd H depth) args) := call_own e50 rfl args H
@[simp] theorem e12 : env 12 = some (.ir ir12) := rfl
@[simp] theorem m12 : ir12.mode = .own := rfl
@[simp] theorem c12 (args : List V) (H : Heap) : evCall env (den env) 12 args H = ownC (ownR env 12) H (rdL (rd H depth) args) := call_own e12 rfl args H
@[simp] theorem e34 : env 34 = some (.ir ir34) := rfl
@[simp] theorem m34 : ir34.mode = .ownF := rfl
@[simp] theorem c34 (args : List V) (H : Heap) : evCall env (den env) 34 args H = ownFC (ownFR env 34) H (rdL (rd H depth) args) := call_ownF e34 rfl args H
@[simp] theorem e46 : env 46 = some (.ir ir46) := rfl
@[simp] theorem m46 : ir46.mode = .own := rfl
@[simp] theorem c46 (args : List V) (H : Heap) : evCall env (den env) 46 args H = ownC (ownR env 46) H (rdL (rd H depth) args) := call_own e46 rfl args H
@[simp] theorem e32 : env 32 = some (.ir ir32) := rfl
@[simp] theorem m32 : ir32.mode = .ownF := rfl
@[simp] theorem c32 (args : List V) (H : Heap) : evCall env (den env) 32 args H = ownFC (ownFR env 32) H (rdL (rd H depth) args) := call_ownF e32 rfl args H
@[simp] theorem e43 : env 43 = some (.ir ir43) := rfl
@[simp] theorem m43 : ir43.mode = .own := rfl
@[simp] theorem c43 (args : List V) (H : Heap) : evCall env (den env) 43 args H = ownC (ownR env 43) H (rdL (rd H depth) args) := call_own e43 rfl args H
@[simp] theorem e49 : env 49 = some (.ir ir49) := rfl
@[simp] theorem m49 : ir49.mode = .own := rfl
@[simp] theorem c49 (args : List V) (H : Heap) : evCall env (den env) 49 args H = ownC (ownR env 49) H (rdL (rd H depth) args) := call_own e49 rfl args H
@[simp] theorem e51 : env 51 = some (.ir ir51) := rfl
@[simp] theorem m51 : ir51.mode = .own := rfl
@[simp] theorem c51 (args : List V) (H : Heap) : evCall env (den env) 51 args H = ownC (ownR env 51) H (rdL (rd H depth) args) := call_own e51 rfl args H
@[simp] theorem e61 : env 61 = some (.ir ir61) := rfl
@[simp] theorem m61 : ir61.mode = .ownF := rfl
@[simp] theorem c61 (args : List V) (H : Heap) : evCall env (den env) 61 args H = ownFC (ownFR env 61) H (rdL (rd H depth) args) := call_ownF e61 rfl args H
@[simp] theorem e45 : env 45 = some (.ir ir45) := rfl
@[simp] theorem m45 : ir45.mode = .own := rfl
@[simp] theorem c45 (args : List V) (H : Heap) : evCall env (den env) 45 args H = ownC (ownR env 45) H (rdL (rd H depth) args) := call_own e45 rfl args H
@[simp] theorem e75 : env 75 = some (.ir ir75) := rfl
@[simp] theorem m75 : ir75.mode = .own := rfl
@[simp] theorem c75 (args : List V) (H : Heap) : evCall env (den env) 75 args H = ownC (ownR env 75) H (rdL (rd H depth) args) := call_own e75 rfl args H
@[simp] theorem e66 : env 66 = some (.ir ir66) := rfl
@[simp] theorem m66 : ir66.mode = .own := rfl
@[simp] theorem c66 (args : List V) (H : Heap) : evCall env (den env) 66 args H = ownC (ownR env 66) H (rdL (rd H depth) args) := call_own e66 rfl args H
@[simp] theorem e57 : env 57 = some (.ir ir57) := rfl
@[simp] theorem m57 : ir57.mode = .own := rfl
@[simp] theorem c57 (args : List V) (H : Heap) : evCall env (den env) 57 args H = ownC (ownR env 57) H (rdL (rd H depth) args) := call_own e57 rfl args H
@[simp] theorem e58 : env 58 = some (.ir ir58) := rfl
@[simp] theorem m58 : ir58.mode = .ref := rfl
@[simp] theorem c58 (args : List V) (H : Heap) : evCall env (den env) 58 args H = refC2 (den env 58) H (callM.rdArgs H args) := call_ref e58 rfl args H
@[simp] theorem e59 : env 59 = some (.ir ir59) := rfl
@[simp] theorem m59 : ir59.mode = .ref := rfl
@[simp] theorem c59 (args : List V) (H : Heap) : evCall env (den env) 59 args H = refC2 (den env 59) H (callM.rdArgs H args) := call_ref e59 rfl args H
@[simp] theorem e60 : env 60 = some (.ir ir60) := rfl
@[simp] theorem m60 : ir60.mode = .own := rfl
@[simp] theorem c60 (args : List V) (H : Heap) : evCall env (den env) 60 args H = ownC (ownR env 60) H (rdL (rd H depth) args) := call_own e60 rfl args H
@[simp] theorem e35 : env 35 = some (.ir ir35) := rfl
@[simp] theorem m35 : ir35.mode = .own := rfl
@[simp] theorem c35 (args : List V) (H : Heap) : evCall env (den env) 35 args H = ownC (ownR env 35) H (rdL (rd H depth) args) := call_own e35 rfl args H
@[simp] theorem e76 : env 76 = some (.ir ir76) := rfl
@[simp] theorem m76 : ir76.mode = .own := rfl
@[simp] theorem c76 (args : List V) (H : Heap) : evCall env (den env) 76 args H = ownC (ownR env 76) H (rdL (rd H depth) args) := call_own e76 rfl args H
@[simp] theorem e73 : env 73 = some (.ir ir73) := rfl
@[simp] theorem m73 : ir73.mode = .own := rfl
@[simp] theorem c73 (args : List V) (H : Heap) : evCall env (den env) 73 args H = ownC (ownR env 73) H (rdL (rd H depth) args) := call_own e73 rfl args H
@[simp] theorem e64 : env 64 = some (.ir ir64) := rfl
@[simp] theorem m64 : ir64.mode = .own := rfl
@[simp] theorem c64 (args : List V) (H : Heap) : evCall env (den env) 64 args H = ownC (ownR env 64) H (rdL (rd H depth) args) := call_own e64 rfl args H
@[simp] theorem e74 : env 74 = some (.ir ir74) := rfl
@[simp] theorem m74 : ir74.mode = .own := rfl
@[simp] theorem c74 (args : List V) (H : Heap) : evCall env (den env) 74 args H = ownC (ownR env 74) H (rdL (rd H depth) args) := call_own e74 rfl args H
@[simp] theorem e37 : env 37 = some (.ir ir37) := rfl
@[simp] theorem m37 : ir37.mode = .own := rfl
@[simp] theorem c37 (args : List V) (H : Heap) : evCall env (den env) 37 args H = ownC (ownR env 37) H (rdL (rd H depth) args) := call_own e37 rfl args H
@[simp] theorem e81 : env 81 = some (.ir ir81) := rfl
@[simp] theorem m81 : ir81.mode = .ref := rfl
@[simp] theorem c81 (args : List V) (H : Heap) : evCall env (den env) 81 args H = refC2 (den env 81) H (callM.rdArgs H args) := call_ref e81 rfl args H
@[simp] theorem e67 : env 67 = some (.ir ir67) := rfl
@[simp] theorem m67 : ir67.mode = .own := rfl
@[simp] theorem c67 (args : List V) (H : Heap) : evCall env (den env) 67 args H = ownC (ownR env 67) H (rdL (rd H depth) args) := call_own e67 rfl args H
@[simp] theorem e70 : env 70 = some (.ir ir70) := rfl
@[simp] theorem m70 : ir70.mode = .own := rfl
@[simp] theorem c70 (args : List V) (H : Heap) : evCall env (den env) 70 args H = ownC (ownR env 70) H (rdL (rd H depth) args) := call_own e70 rfl args H
@[simp] theorem e82 : env 82 = some (.ir ir82) := rfl
@[simp] theorem m82 : ir82.mode = .own := rfl
@[simp] theorem c82 (args : List V) (H : Heap) : evCall env (den env) 82 args H = ownC (ownR env 82) H (rdL (rd H depth) args) := call_own e82 rfl args H
@[simp] theorem e86 : env 86 = some (.ir ir86) := rfl
@[simp] theorem m86 : ir86.mode = .own := rfl
@[simp] theorem c86 (args : List V) (H : Heap) : evCall env (den env) 86 args H = ownC (ownR env 86) H (rdL (rd H depth) args) := call_own e86 rfl args H
@[simp] theorem e84 : env 84 = some (.ir ir84) := rfl
@[simp] theorem m84 : ir84.mode = .own := rfl
@[simp] theorem c84 (args : List V) (H : Heap) : evCall env (den env) 84 args H = ownC (ownR env 84) H (rdL (rd H depth) args) := call_own e84 rfl args H
@[simp] theorem e85 : env 85 = some (.ir ir85) := rfl
@[simp] theorem m85 : ir85.mode = .own := rfl
@[simp] theorem c85 (args : List V) (H : Heap) : evCall env (den env) 85 args H = ownC (ownR env 85) H (rdL (rd H depth) args) := call_own e85 rfl args H
@[simp] theorem e88 : env 88 = some (.ir ir88) := rfl
@[simp] theorem m88 : ir88.mode = .own := rfl
@[simp] theorem c88 (args : List V) (H : Heap) : evCall env (den env) 88 args H = ownC (ownR env 88) H (rdL (rd H depth) args) := call_own e88 rfl args H
@[simp] theorem e68 : env 68 = some (.ir ir68) := rfl
@[simp] theorem m68 : ir68.mode = .own := rfl
@[simp] theorem c68 (args : List V) (H : Heap) : evCall env (den env) 68 args H = ownC (ownR env 68) H (rdL (rd H depth) args) := call_own e68 rfl args H
@[simp] theorem e40 : env 40 = some (.ir ir40) := rfl
@[simp] theorem m40 : ir40.mode = .own := rfl
@[simp] theorem c40 (args : List V) (H : Heap) : evCall env (den env) 40 args H = ownC (ownR env 40) H (rdL (rd H depth) args) := call_own e40 rfl args H
@[simp] theorem e3 : env 3 = some (.ir ir3) := rfl
@[simp] theorem m3 : ir3.mode = .own := rfl
@[simp] theorem c3 (args : List V) (H : Heap) : evCall env (den env) 3 args H = ownC (ownR env 3) H (rdL (rd H depth) args) := call_own e3 rfl args H
@[simp] theorem e5 : env 5 = some (.ir ir5) := rfl
@[simp] theorem m5 : ir5.mode = .ownF := rfl
@[simp] theorem c5 (args : List V) (H : Heap) : evCall env (den env) 5 args H = ownFC (ownFR env 5) H (rdL (rd H depth) args) := call_ownF e5 rfl args H
@[simp] theorem e6 : env 6 = some (.ir ir6) := rfl
@[simp] theorem m6 : ir6.mode = .ownF := rfl
@[simp] theorem c6 (args : List V) (H : Heap) : evCall env (den env) 6 args H = ownFC (ownFR env 6) H (rdL (rd H depth) args) := call_ownF e6 rfl args H
@[simp] theorem e7 : env 7 = some (.ir ir7) := rfl
@[simp] theorem m7 : ir7.mode = .own := rfl
@[simp] theorem c7 (args : List V) (H : Heap) : evCall env (den env) 7 args H = ownC (ownR env 7) H (rdL (rd H depth) args) := call_own e7 rfl args H
@[simp] theorem e8 : env 8 = some (.ir ir8) := rfl
@[simp] theorem m8 : ir8.mode = .own := rfl
@[simp] theorem c8 (args : List V) (H : Heap) : evCall env (den env) 8 args H = ownC (ownR env 8) H (rdL (rd H depth) args) := call_own e8 rfl args H
@[simp] theorem e9 : env 9 = some (.ir ir9) := rfl
@[simp] theorem m9 : ir9.mode = .own := rfl
@[simp] theorem c9 (args : List V) (H : Heap) : evCall env (den env) 9 args H = ownC (ownR env 9) H (rdL (rd H depth) args) := call_own e9 rfl args H
@[simp] theorem e10 : env 10 = some (.ir ir10) := rfl
@[simp] theorem m10 : ir10.mode = .own := rfl
@[simp] theorem c10 (args : List V) (H : Heap) : evCall env (den env) 10 args H = ownC (ownR env 10) H (rdL (rd H depth) args) := call_own e10 rfl args H
@[simp] theorem e11 : env 11 = some (.ir ir11) := rfl
@[simp] theorem m11 : ir11.mode = .own := rfl
@[simp] theorem c11 (args : List V) (H : Heap) : evCall env (den env) 11 args H = ownC (ownR env 11) H (rdL (rd H depth) args) := call_own e11 rfl args H
@[simp] theorem e13 : env 13 = some (.ir ir13) := rfl
@[simp] theorem m13 : ir13.mode = .own := rfl
@[simp] theorem c13 (args : List V) (H : Heap) : evCall env (den env) 13 args H = ownC (ownR env 13) H (rdL (rd H depth) args) := call_own e13 rfl args H
@[simp] theorem e14 : env 14 = some (.ir ir14) := rfl
@[simp] theorem m14 : ir14.mode = .own := rfl
@[simp] theorem c14 (args : List V) (H : Heap) : evCall env (den env) 14 args H = ownC (ownR env 14) H (rdL (rd H depth) args) := call_own e14 rfl args H
@[simp] theorem e15 : env 15 = some (.ir ir15) := rfl
@[simp] theorem m15 : ir15.mode = .own := rfl
@[simp] theorem c15 (args : List V) (H : Heap) : evCall env (den env) 15 args H = ownC (ownR env 15) H (rdL (rd H depth) args) := call_own e15 rfl args H
@[simp] theorem e16 : env 16 = some (.ir ir16) := rfl
@[simp] theorem m16 : ir16.mode = .own := rfl
@[simp] theorem c16 (args : List V) (H : Heap) : evCall env (den env) 16 args H = ownC (ownR env 16) H (rdL (rd H depth) args) := call_own e16 rfl args H
@[simp] theorem e17 : env 17 = some (.ir ir17) := rfl
@[simp] theorem m17 : ir17.mode = .own := rfl
@[simp] theorem c17 (args : List V) (H : Heap) : evCall env (den env) 17 args H = ownC (ownR env 17) H (rdL (rd H depth) args) := call_own e17 rfl args H
@[simp] theorem e18 : env 18 = some (.ir ir18) := rfl
@[simp] theorem m18 : ir18.mode = .own := rfl
@[simp] theorem c18 (args : List V) (H : Heap) : evCall env (den env) 18 args H = ownC (ownR env 18) H (rdL (rd H depth) args) := call_own e18 rfl args H
@[simp] theorem e19 : env 19 = some (.ir ir19) := rfl
@[simp] theorem m19 : ir19.mode = .own := rfl
@[simp] theorem c19 (args : List V) (H : Heap) : evCall env (den env) 19 args H = ownC (ownR env 19) H (rdL (rd H depth) args) := call_own e19 rfl args H
@[simp] theorem e20 : env 20 = some (.ir ir20) := rfl
@[simp] theorem m20 : ir20.mode = .own := rfl
@[simp] theorem c20 (args : List V) (H : Heap) : evCall env (den env) 20 args H = ownC (ownR env 20) H (rdL (rd H depth) args) := call_own e20 rfl args H
@[simp] theorem e21 : env 21 = some (.ir ir21) := rfl
@[simp] theorem m21 : ir21.mode = .own := rfl
@[simp] theorem c21 (args : List V) (H : Heap) : evCall env (den env) 21 args H = ownC (ownR env 21) H (rdL (rd H depth) args) := call_own e21 rfl args H
@[simp] theorem e22 : env 22 = some (.ir ir22) := rfl
@[simp] theorem m22 : ir22.mode = .own := rfl
@[simp] theorem c22 (args : List V) (H : Heap) : evCall env (den env) 22 args H = ownC (ownR env 22) H (rdL (rd H depth) args) := call_own e22 rfl args H
@[simp] theorem e23 : env 23 = some (.ir ir23) := rfl
@[simp] theorem m23 : ir23.mode = .own := rfl
@[simp] theorem c23 (args : List V) (H : Heap) : evCall env (den env) 23 args H = ownC (ownR env 23) H (rdL (rd H depth) args) := call_own e23 rfl args H
@[simp] theorem e24 : env 24 = some (.ir ir24) := rfl
@[simp] theorem m24 : ir24.mode = .own := rfl
@[simp] theorem c24 (args : List V) (H : Heap) : evCall env (den env) 24 args H = ownC (ownR env 24) H (rdL (rd H depth) args) := call_own e24 rfl args H
@[simp] theorem e25 : env 25 = some (.ir ir25) := rfl
@[simp] theorem m25 : ir25.mode = .own := rfl
@[simp] theorem c25 (args : List V) (H : Heap) : evCall env (den env) 25 args H = ownC (ownR env 25) H (rdL (rd H depth) args) := call_own e25 rfl args H
@[simp] theorem e31 : env 31 = some (.ir ir31) := rfl
@[simp] theorem m31 : ir31.mode = .own := rfl
@[simp] theorem c31 (args : List V) (H : Heap) : evCall env (den env) 31 args H = ownC (ownR env 31) H (rdL (rd H depth) args) := call_own e31 rfl args H
@[simp] theorem e33 : env 33 = some (.ir ir33) := rfl
@[simp] theorem m33 : ir33.mode = .own := rfl
@[simp] theorem c33 (args : List V) (H : Heap) : evCall env (den env) 33 args H = ownC (ownR env 33) H (rdL (rd H depth) args) := call_own e33 rfl args H
@[simp] theorem e36 : env 36 = some (.ir ir36) := rfl
@[simp] theorem m36 : ir36.mode = .own := rfl
@[simp] theorem c36 (args : List V) (H : Heap) : evCall env (den env) 36 args H = ownC (ownR env 36) H (rdL (rd H depth) args) := call_own e36 rfl args H
@[simp] theorem e38 : env 38 = some (.ir ir38) := rfl
@[simp] theorem m38 : ir38.mode = .own := rfl
@[simp] theorem c38 (args : List V) (H : Heap) : evCall env (den env) 38 args H = ownC (ownR env 38) H (rdL (rd H depth) args) := call_own e38 rfl args H
@[simp] theorem e39 : env 39 = some (.ir ir39) := rfl
@[simp] theorem m39 : ir39.mode = .own := rfl
@[simp] theorem c39 (args : List V) (H : Heap) : evCall env (den env) 39 args H = ownC (ownR env 39) H (rdL (rd H depth) args) := call_own e39 rfl args H
@[simp] theorem e42 : env 42 = some (.ir ir42) := rfl
@[simp] theorem m42 : ir42.mode = .own := rfl
@[simp] theorem c42 (args : List V) (H : Heap) : evCall env (den env) 42 args H = ownC (ownR env 42) H (rdL (rd H depth) args) := call_own e42 rfl args H
@[simp] theorem e44 : env 44 = some (.ir ir44) := rfl
@[simp] theorem m44 : ir44.mode = .own := rfl
@[simp] theorem c44 (args : List V) (H : Heap) : evCall env (den env) 44 args H = ownC (ownR env 44) H (rdL (rd H depth) args) := call_own e44 rfl args H
@[simp] theorem e47 : env 47 = some (.ir ir47) := rfl
@[simp] theorem m47 : ir47.mode = .ownF := rfl
@[simp] theorem c47 (args : List V) (H : Heap) : evCall env (den env) 47 args H = ownFC (ownFR env 47) H (rdL (rd H depth) args) := call_ownF e47 rfl args H
@[simp] theorem e48 : env 48 = some (.ir ir48) := rfl
@[simp] theorem m48 : ir48.mode = .own := rfl
@[simp] theorem c48 (args : List V) (H : Heap) : evCall env (den env) 48 args H = ownC (ownR env 48) H (rdL (rd H depth) args) := call_own e48 rfl args H
@[simp] theorem e62 : env 62 = some (.ir ir62) := rfl
@[simp] theorem m62 : ir62.mode = .own := rfl
@[simp] theorem c62 (args : List V) (H : Heap) : evCall env (den env) 62 args H = ownC (ownR env 62) H (rdL (rd H depth) args) := call_own e62 rfl args H
@[simp] theorem e63 : env 63 = some (.ir ir63) := rfl
@[simp] theorem m63 : ir63.mode = .own := rfl
@[simp] theorem c63 (args : List V) (H : Heap) : evCall env (den env) 63 args H = ownC (ownR env 63) H (rdL (rd H depth) args) := call_own e63 rfl args H
@[simp] theorem e65 : env 65 = some (.ir ir65) := rfl
@[simp] theorem m65 : ir65.mode = .own := rfl
@[simp] theorem c65 (args : List V) (H : Heap) : evCall env (den env) 65 args H = ownC (ownR env 65) H (rdL (rd H depth) args) := call_own e65 rfl args H
@[simp] theorem e69 : env 69 = some (.ir ir69) := rfl
@[simp] theorem m69 : ir69.mode = .own := rfl
@[simp] theorem c69 (args : List V) (H : Heap) : evCall env (den env) 69 args H = ownC (ownR env 69) H (rdL (rd H depth) args) := call_own e69 rfl args H
@[simp] theorem e71 : env 71 = some (.ir ir71) := rfl
@[simp] theorem m71 : ir71.mode = .own := rfl
@[simp] theorem c71 (args : List V) (H : Heap) : evCall env (den env) 71 args H = ownC (ownR env 71) H (rdL (rd H depth) args) := call_own e71 rfl args H
@[simp] theorem e83 : env 83 = some (.ir ir83) := rfl
@[simp] theorem m83 : ir83.mode = .own := rfl
@[simp] theorem c83 (args : List V) (H : Heap) : evCall env (den env) 83 args H = ownC (ownR env 83) H (rdL (rd H depth) args) := call_own e83 rfl args H
@[simp] theorem e72 : env 72 = some (.prim .own (cloneP 1)) := rfl
@[simp] theorem c72 (args : List V) (H : Heap) : evCall env (den env) 72 args H = ownC (primR (cloneP 1)) H (rdL (rd H depth) args) := call_prim e72 args H
end Go.Proofs.Ytdgfpjlmpnfcgaa.Ev
namespace Go.Proofs.Ytdgfpjlmpnfcgaa.Ev
open Go
set_option linter.unusedVariables false
set_option linter.unusedSimpArgs false
attribute [local simp] til_getE til_length til_get til_drop til_take til_append til_nil til_cons til_replicate til_set
def inB (x a b : Int) : Bool := decide (a ≤ x ∧ x ≤ b)
theorem inB_iff (x a b : Int) : inB x a b = true ↔ a ≤ x ∧ x ≤ b := by simp [inB]
theorem w76 {n : Int} (h : -9223372036854775808 ≤ n ∧ n ≤ 9223372036854775807) : IntKind.i64.wrap n = n := IntWalk.i64_in n h

@[simp] theorem r68 (x a b : Int) : ownR env 68 [ti x, ti a, ti b] = some (.t (tb (inB x a b)), []) := by
  rw [own_ir e68 _ rfl]
  by_cases h : a ≤ x <;> simp [ir68, ir68_c, h, inB]
@[simp] theorem r40 (x a b : Int) : ownR env 40 [ti x, ti a, ti b] = some (.t (tb (inB x a b)), []) := by
  rw [own_ir e40 _ rfl]
  by_cases h : a ≤ x <;> simp [ir40, ir40_c, h, inB]
def good (a b c : Int) : Bool := inB a 1 3 && inB b 1 3 && inB c 0 2
theorem good_of {a b c : Int} (h : good a b c = true) : 1 ≤ a ∧ a ≤ 3 ∧ 1 ≤ b ∧ b ≤ 3 ∧ 0 ≤ c ∧ c ≤ 2 := by simp [good, inB] at h; omega
@[simp] theorem r12 (a b c : Int) : ownR env 12 [.agg [ti a, ti b, ti c]] = some (.t (tb (good a b c)), []) := by
  rw [own_ir e12 _ rfl]
  cases h1 : inB a 1 3 <;> cases h2 : inB b 1 3 <;> simp [ir12, ir12_c, h1, h2, good]
@[simp] theorem r41 (a b c : Int) : ownR env 41 [.agg [ti a, ti b, ti c]] = some (.t (tb (good a b c)), []) := by
  rw [own_ir e41 _ rfl]
  cases h1 : inB a 1 3 <;> cases h2 : inB b 1 3 <;> simp [ir41, ir41_c, h1, h2, good]
theorem r66 (a b c : Int) (h : 0 ≤ a ∧ a ≤ 10) : ownR env 66 [.agg [ti a, ti b, ti c]] = some (.t (ti (2 * a)), []) := by
  rw [own_ir e66 _ rfl]
  simp [ir66, ir66_c, w76 (n := 2 * a) (by omega)]
theorem r51 (a b c : Int) (h : 0 ≤ c ∧ c ≤ 10) : ownR env 51 [.agg [ti a, ti b, ti c]] = some (.t (ti (c + 1)), []) := by
  rw [own_ir e51 _ rfl]
  simp [ir51, ir51_c, w76 (n := c + 1) (by omega)]
theorem r75 (l : List Int) (h : l.length ≤ 1000) : ownR env 75 [tl l] = some (.ref 0 0 l.length, [.pure 1 (til l)]) := by
  rw [own_ir e75 _ rfl]
  simp [ir75, ir75_c, show l.length ≤ 68719476736 by omega, til_flat]
def stand (p : Int) : Nat → List Int → List Int
  | _, [] => []
  | i, x :: xs => if x = p then (i : Int) :: stand p (i + 1) xs else stand p (i + 1) xs
theorem l57 (xs : List Int) (p : Int) (hl : xs.length ≤ 1000) : ∀ (d i : Nat) (acc : List Int), i + d = xs.length → acc.length ≤ i →
    loopF env true [1, 5, 10, 11, 12] ir57_b0 ([(1, .t (ti p)), (5, .ref 0 0 acc.length), (10, .t (tl xs)), (11, .t (ti xs.length)), (12, .t (ti i))], [.pure 1 (til acc)]) =
      some (.exit 0, [(1, .t (ti p)), (5, .ref 0 0 (acc ++ stand p i (xs.drop i)).length), (10, .t (tl xs)), (11, .t (ti xs.length)), (12, .t (ti xs.length)), (13, .t (tb false))], [.pure 1 (til (acc ++ stand p i (xs.drop i)))])
  | 0, i, acc, hi, _ => by
    rw [x57_0]
    have : i = xs.length := by omega
    subst this
    simp [ir57_d0, stand]
  | d + 1, i, acc, hi, ha => by
    rw [x57_0]
    have hlt : i < xs.length := by omega
    have ha2 : acc.length + 1 ≤ 68719476736 := by omega
    have hw : IntKind.i64.wrap ((i : Int) + 1) = (i : Int) + 1 := w76 (by omega)
    have hd : xs.drop i = xs[i] :: xs.drop (i + 1) := List.drop_eq_getElem_cons hlt
    by_cases h : xs[i] = p
    · have ih := l57 xs p hl d (i + 1) (acc ++ [(i : Int)]) (by omega) (by simp; omega)
      have hs : stand p i (xs.drop i) = (i : Int) :: stand p (i + 1) (xs.drop (i + 1)) := by rw [hd, stand, if_pos h]
      simp at ih
      simp [ir57_d0, hlt, h, ha2, hw, hs, ih]
    · have ih := l57 xs p hl d (i + 1) acc (by omega) (by omega)
      have hs : stand p i (xs.drop i) = stand p (i + 1) (xs.drop (i + 1)) := by rw [hd, stand, if_neg h]
      simp at ih
      simp [ir57_d0, hlt, h, hw, hs, ih]
theorem r57 (xs : List Int) (b p : Int) (hl : xs.length ≤ 1000) : ownR env 57 [.agg [tl xs, ti b], ti p] = some (.ref 0 0 (stand p 0 xs).length, [.pure 1 (til (stand p 0 xs))]) := by
  rw [own_ir e57 _ rfl]
  have h := l57 xs p hl xs.length 0 [] (by omega) (by simp)
  simp at h
  simp [ir57, ir57_c, h, til_flat]
end Go.Proofs.Ytdgfpjlmpnfcgaa.Ev

namespace Go.Proofs.Ytdgfpjlmpnfcgaa.Ev
open Go
set_option linter.unusedVariables false
set_option linter.unusedSimpArgs false
attribute [local simp] til_getE til_length til_get til_drop til_take til_append til_nil til_cons til_replicate til_set
def setAll (t : Int) : List Int → List Int → List Int
  | [], l => l
  | k :: g, l => setAll t g (l.set k.toNat t)
theorem setAll_length (t : Int) : ∀ (g l : List Int), (setAll t g l).length = l.length
  | [], l => rfl
  | k :: g, l => by rw [setAll, setAll_length]; simp

theorem l43 (g : List Int) (t : Int) (n : Nat) (hn : n ≤ 1000) (hg : g.length ≤ 1000) (hk : ∀ k ∈ g, 0 ≤ k ∧ k < n) : ∀ (d i : Nat) (y : List Int), i + d = g.length → y.length = n →
    loopF env true [1, 6, 7, 15, 16, 17] ir43_b0 ([(1, .t (ti t)), (6, .ptr 0 0 0), (7, .ptr 1 0 0), (15, .t (tl g)), (16, .t (ti g.length)), (17, .t (ti i))], [.box 2 [.t .nil, .t (ti 0)], .box 2 [.ref 2 0 n, .t (ti t)], .pure 1 (til y)]) =
      some (.exit 0, [(1, .t (ti t)), (6, .ptr 0 0 0), (7, .ptr 1 0 0), (15, .t (tl g)), (16, .t (ti g.length)), (17, .t (ti g.length)), (18, .t (tb false))], [.box 2 [.t .nil, .t (ti 0)], .box 2 [.ref 2 0 n, .t (ti t)], .pure 1 (til (setAll t (g.drop i) y))])
  | 0, i, y, hi, hy => by
    rw [x43_0]
    have : i = g.length := by omega
    subst this
    simp [ir43_d0, setAll]
  | d + 1, i, y, hi, hy => by
    rw [x43_0]
    have hlt : i < g.length := by omega
    have hw : IntKind.i64.wrap ((i : Int) + 1) = (i : Int) + 1 := w76 (by omega)
    have hd : g.drop i = g[i] :: g.drop (i + 1) := List.drop_eq_getElem_cons hlt
    have hs : setAll t (g.drop i) y = setAll t (g.drop (i + 1)) (y.set (g[i]).toNat t) := by rw [hd, setAll]
    have hkk := hk g[i] (List.getElem_mem hlt)
    have hkn : (g[i]).toNat < y.length := by omega
    have ih := l43 g t n hn hg hk d (i + 1) (y.set (g[i]).toNat t) (by omega) (by simpa using hy)
    simp at ih
    simp [ir43_d0, hlt, hw, hs, hkk.1, hkk.2, hkn, ih]
theorem r43 (xs g : List Int) (p t : Int) (h : xs.length ≤ 1000) (hg : g.length ≤ 1000) (hk : ∀ k ∈ g, 0 ≤ k ∧ k < xs.length) : ownR env 43 [.agg [tl xs, ti p], ti t, tl g] = some (.agg [.ref 0 0 xs.length, .t (ti t)], [.pure 1 (til (setAll t g xs))]) := by
  rw [own_ir e43 _ rfl]
  have hl := l43 g t xs.length h hg hk g.length 0 xs (by omega) rfl
  simp at hl
  simp [ir43, ir43_c, clone_til, show xs.length ≤ 68719476736 by omega, hl, til_flat]
end Go.Proofs.Ytdgfpjlmpnfcgaa.Ev

namespace Go.Proofs.Ytdgfpjlmpnfcgaa.Ev
open Go
set_option linter.unusedVariables false
set_option linter.unusedSimpArgs false
attribute [local simp] til_getE til_length til_get til_drop til_take til_append til_nil til_cons til_replicate til_set
theorem l50 (a b c n : Int) (ha : 0 ≤ a ∧ a ≤ 10) (m : Nat) (hm : (m : Int) = 2 * a) : ∀ (d i : Nat), i + d = m → 0 < i →
    loopF env true [1, 2, 4, 5] ir50_b0 ([(1, .t (ti n)), (2, .ptr 0 0 0), (4, .ptr 1 0 0), (5, .ptr 2 0 0)], [.box 3 [.t (ti a), .t (ti b), .t (ti c)], .box 2 [.t .nil, .t (ti 0)], .box 2 [.ref 3 0 i, .t (ti n)], .pure 1 (til (List.replicate i n))]) =
      some (.exit 0, [(1, .t (ti n)), (2, .ptr 0 0 0), (4, .ptr 1 0 0), (5, .ptr 2 0 0), (8, .ptr 2 0 0), (9, .ref 3 0 m), (10, .t (ti m)), (11, .ptr 0 0 0), (12, .t (ti a)), (13, .t (ti (2 * a))), (14, .t (tb false))], [.box 3 [.t (ti a), .t (ti b), .t (ti c)], .box 2 [.t .nil, .t (ti 0)], .box 2 [.ref 3 0 m, .t (ti n)], .pure 1 (til (List.replicate m n))])
  | 0, i, hi, h0 => by
    rw [x50_0]
    have hw : IntKind.i64.wrap (2 * a) = 2 * a := w76 (by omega)
    have : i = m := by omega
    subst this
    simp [ir50_d0, hw, hm]
  | d + 1, i, hi, h0 => by
    rw [x50_0]
    have hw : IntKind.i64.wrap (2 * a) = 2 * a := w76 (by omega)
    have hlt : (i : Int) < 2 * a := by omega
    have ih := l50 a b c n ha m hm d (i + 1) (by omega) (by omega)
    have hr : List.replicate (i + 1) n = List.replicate i n ++ [n] := List.replicate_succ'
    rw [hr] at ih
    simp at ih
    simp [ir50_d0, hw, hlt, show i + 1 ≤ 68719476736 by omega, ih]
theorem r50 (a b c n : Int) (ha : 1 ≤ a ∧ a ≤ 10) : ownR env 50 [.agg [ti a, ti b, ti c], ti n] = some (.agg [.ref 0 0 (2 * a).toNat, .t (ti n)], [.pure 1 (til (List.replicate (2 * a).toNat n))]) := by
  rw [own_ir e50 _ rfl]
  have hw : IntKind.i64.wrap (2 * a) = 2 * a := w76 (by omega)
  have hl := l50 a b c n (by omega) (2 * a).toNat (by omega) ((2 * a).toNat - 1) 1 (by omega) (by omega)
  simp at hl
  simp [ir50, ir50_c]
  rw [x50_0]
  simp [ir50_d0, hw, show 0 < 2 * a by omega, hl, til_flat]
end Go.Proofs.Ytdgfpjlmpnfcgaa.Ev

namespace Go.Proofs.Ytdgfpjlmpnfcgaa.Ev
open Go
set_option linter.unusedVariables false
set_option linter.unusedSimpArgs false
attribute [local simp] til_getE til_length til_get til_drop til_take til_append til_nil til_cons til_replicate til_set
def indexI (x : Int) : Nat → List Int → Int
  | _, [] => -1
  | i, y :: ys => if x = y then i else indexI x (i + 1) ys
theorem indexI_nonneg (x : Int) : ∀ (ys : List Int) (i : Nat), 0 ≤ indexI x i ys ↔ x ∈ ys
  | [], i => by simp [indexI]
  | y :: ys, i => by
    simp only [indexI]
    split
    · rename_i h; simp [h]
    · rename_i h; rw [indexI_nonneg x ys (i + 1)]; simp [h]

theorem l84 (g : List Int) (x : Int) (hg : g.length ≤ 1000000) : ∀ (d i : Nat) (R : Option (V × Heap)), i + d = g.length →
    endO [.tmp 4] (andN (outB 0 (loopF env true [0, 1, 7, 8] ir84_b0 ([(0, .t (tl g)), (1, .t (ti x)), (7, .t (ti g.length)), (8, .t (ti i))], []))) (execD env (.seq (.reg false [] [⟨some 4, none, .mv (.k (ti (-1)))⟩]) .ret))) = some (.t (ti (indexI x i (g.drop i))), [])
  | 0, i, R, hi => by
    rw [x84_0]
    have : i = g.length := by omega
    subst this
    simp [ir84_d0, indexI]
  | d + 1, i, R, hi => by
    rw [x84_0]
    have hlt : i < g.length := by omega
    have hw : IntKind.i64.wrap ((i : Int) + 1) = (i : Int) + 1 := w76 (by omega)
    have ih := l84 g x hg d (i + 1) R (by omega)
    by_cases h : x = g[i]
    · have hs : indexI x i (g.drop i) = (i : Int) := by rw [List.drop_eq_getElem_cons hlt, indexI, if_pos h]
      simp [ir84_d0, hlt, hw, ← h, hs]
    · have hs : indexI x i (g.drop i) = indexI x (i + 1) (g.drop (i + 1)) := by rw [List.drop_eq_getElem_cons hlt, indexI, if_neg h]
      simp at ih
      simp [ir84_d0, hlt, hw, hs, h, ih]
theorem r84 (g : List Int) (x : Int) (hg : g.length ≤ 1000000) : ownR env 84 [tl g, ti x] = some (.t (ti (indexI x 0 g)), []) := by
  rw [own_ir e84 _ rfl]
  have hl := l84 g x hg g.length 0 none (by omega)
  simp at hl
  simp [ir84, ir84_c, hl]
theorem r67 (g : List Int) (x : Int) (hg : g.length ≤ 1000000) : ownR env 67 [tl g, ti x] = some (.t (tb (decide (x ∈ g))), []) := by
  rw [own_ir e67 _ rfl]
  simp [ir67, ir67_c, r84 g x hg, indexI_nonneg]
@[simp] theorem r82 (x : Int) : ownR env 82 [ti x] = some (.t (tb (decide (x.tmod 2 = 0))), []) := by
  rw [own_ir e82 _ rfl]
  simp [ir82, ir82_c]
def evenI : Nat → List Int → Int
  | _, [] => -1
  | i, y :: ys => if y.tmod 2 = 0 then i else evenI (i + 1) ys
theorem evenI_nonneg : ∀ (ys : List Int) (i : Nat), 0 ≤ evenI i ys ↔ ∃ y ∈ ys, y.tmod 2 = 0
  | [], i => by simp [evenI]
  | y :: ys, i => by
    simp only [evenI]
    split
    · rename_i h; simp [h]
    · rename_i h; rw [evenI_nonneg ys (i + 1)]; simp [h]
theorem l85 (g : List Int) (hg : g.length ≤ 1000000) : ∀ (d i : Nat), i + d = g.length →
    endO [.tmp 4] (andN (outB 0 (loopF env true [0, 1, 7, 8] ir85_b0 ([(0, .t (tl g)), (1, .t (.clo 82 [] [])), (7, .t (ti g.length)), (8, .t (ti i))], []))) (execD env (.seq (.reg false [] [⟨some 4, none, .mv (.k (ti (-1)))⟩]) .ret))) = some (.t (ti (evenI i (g.drop i))), [])
  | 0, i, hi => by
    rw [x85_0]
    have : i = g.length := by omega
    subst this
    simp [ir85_d0, evenI]
  | d + 1, i, hi => by
    rw [x85_0]
    have hlt : i < g.length := by omega
    have hw : IntKind.i64.wrap ((i : Int) + 1) = (i : Int) + 1 := w76 (by omega)
    have ih := l85 g hg d (i + 1) (by omega)
    by_cases h : (g[i]).tmod 2 = 0
    · have hs : evenI i (g.drop i) = (i : Int) := by rw [List.drop_eq_getElem_cons hlt, evenI, if_pos h]
      simp [ir85_d0, hlt, hw, hs, h]
    · have hs : evenI i (g.drop i) = evenI (i + 1) (g.drop (i + 1)) := by rw [List.drop_eq_getElem_cons hlt, evenI, if_neg h]
      simp at ih
      simp [ir85_d0, hlt, hw, hs, h, ih]
theorem r85 (g : List Int) (hg : g.length ≤ 1000000) : ownR env 85 [tl g, .clo 82 [] []] = some (.t (ti (evenI 0 g)), []) := by
  rw [own_ir e85 _ rfl]
  have hl := l85 g hg g.length 0 (by omega)
  simp at hl
  simp [ir85, ir85_c, hl]
theorem r70 (g : List Int) (hg : g.length ≤ 1000000) : ownR env 70 [tl g, .clo 82 [] []] = some (.t (tb (decide (∃ y ∈ g, y.tmod 2 = 0))), []) := by
  rw [own_ir e70 _ rfl]
  simp [ir70, ir70_c, r85 g hg, evenI_nonneg]
def calmI (g l : List Int) : Bool := l.all fun k => decide (k.tmod 2 = 0) || decide (IntKind.i64.wrap (k - 1) ∈ g) || !decide (∃ y ∈ g, y.tmod 2 = 0)
theorem l60 (g : List Int) (hg : g.length ≤ 1000000) : ∀ (d i : Nat), i + d = g.length →
    endO [.tmp 2] (andN (outB 0 (loopF env true [0, 5, 6, 7] ir60_b0 ([(0, .t (tl g)), (5, .t (tl g)), (6, .t (ti g.length)), (7, .t (ti i))], []))) (execD env (.seq (.reg false [] [⟨some 2, none, .mv (.k (tb true))⟩]) .ret))) = some (.t (tb (calmI g (g.drop i))), [])
  | 0, i, hi => by
    rw [x60_0]
    have : i = g.length := by omega
    subst this
    simp [ir60_d0, calmI]
  | d + 1, i, hi => by
    rw [x60_0]
    have hlt : i < g.length := by omega
    have hw : IntKind.i64.wrap ((i : Int) + 1) = (i : Int) + 1 := w76 (by omega)
    have ih := l60 g hg d (i + 1) (by omega)
    have hs : calmI g (g.drop i) = ((decide ((g[i]).tmod 2 = 0) || decide (IntKind.i64.wrap (g[i] - 1) ∈ g) || !decide (∃ y ∈ g, y.tmod 2 = 0)) && calmI g (g.drop (i + 1))) := by rw [List.drop_eq_getElem_cons hlt]; rfl
    simp at ih
    rw [hs]
    have h43 := r67 g (IntKind.i64.wrap (g[i] - 1)) hg
    have h44 := r70 g hg
    generalize decide (∃ y ∈ g, y.tmod 2 = 0) = b3 at *
    generalize decide (IntKind.i64.wrap (g[i] - 1) ∈ g) = b2 at *
    by_cases h1 : (g[i]).tmod 2 = 0
    · simp [ir60_d0, hlt, hw, h1, ih]
    · cases b2 with
      | true => simp [ir60_d0, hlt, hw, h1, h43, ih]
      | false =>
        cases b3 with
        | true => simp [ir60_d0, hlt, hw, h1, h43, h44, ih]
        | false => simp [ir60_d0, hlt, hw, h1, h43, h44, ih]
theorem r60 (g : List Int) (hg : g.length ≤ 1000000) : ownR env 60 [tl g] = some (.t (tb (calmI g g)), []) := by
  rw [own_ir e60 _ rfl]
  have hl := l60 g hg g.length 0 (by omega)
  simp at hl
  simp [ir60, ir60_c, hl]
end Go.Proofs.Ytdgfpjlmpnfcgaa.Ev

namespace Go.Proofs.Ytdgfpjlmpnfcgaa.Ev
open Go
set_option linter.unusedVariables false
set_option linter.unusedSimpArgs false
attribute [local simp] til_getE til_length til_get til_drop til_take til_append til_nil til_cons til_replicate til_set
theorem l73 (g : List Int) (a b : Int) (hg : g.length ≤ 1000000) : ∀ (d i : Nat), i + d = g.length → 
    endO [.tmp 6] (andN (outB 0 (loopF env true [0, 1, 2, 9, 10, 11] ir73_b0 ([(0, .t (tl g)), (1, .t (ti a)), (2, .t (ti b)), (9, .t (tl g)), (10, .t (ti g.length)), (11, .t (ti i))], []))) (execD env (.seq (.reg false [] [⟨some 6, none, .mv (.k (tb true))⟩]) .ret))) =
      some (.t (tb ((g.drop i).all (fun x => inB x a b) && (List.range' i d).all fun j => decide (j = 0) || decide (g[j - 1]?.getD 0 < g[j]?.getD 0))), [])
  | 0, i, hi => by
    rw [x73_0]
    have : i = g.length := by omega
    subst this
    simp [ir73_d0]
  | d + 1, i, hi => by
    rw [x73_0]
    have hlt : i < g.length := by omega
    have hw : IntKind.i64.wrap ((i : Int) + 1) = (i : Int) + 1 := w76 (by omega)
    have hw2 : IntKind.i64.wrap ((i : Int) - 1) = (i : Int) - 1 := w76 (by omega)
    have ih := l73 g a b hg d (i + 1) (by omega)
    have hs : (g.drop i).all (fun x => inB x a b) = (inB g[i] a b && (g.drop (i + 1)).all (fun x => inB x a b)) := by rw [List.drop_eq_getElem_cons hlt]; rfl
    have hr : List.range' i (d + 1) = i :: List.range' (i + 1) d := rfl
    rw [hs, hr, List.all_cons]
    generalize (g.drop (i + 1)).all (fun x => inB x a b) = A at *
    generalize ((List.range' (i + 1) d).all fun j => decide (j = 0) || decide (g[j - 1]?.getD 0 < g[j]?.getD 0)) = R at *
    simp at ih
    cases h1 : inB g[i] a b with
    | false => simp [ir73_d0, hlt, hw, h1]
    | true =>
      rcases Nat.eq_zero_or_pos i with h0 | h0
      · subst h0
        have hw0 : IntKind.i64.wrap 1 = 1 := w76 (by omega)
        simp at ih
        simp [ir73_d0, hlt, h1, ih, hw0]
      · have e2001 : ((i : Int) - 1).toNat = i - 1 := by omega
        have e2002 : i - 1 < g.length := by omega
        by_cases h2 : g[i] ≤ g[i - 1]
        · have h3 : ¬ (g[i - 1] < g[i]) := by omega
          simp [ir73_d0, hlt, hw, hw2, h1, h0, e2001, e2002, h2, h3, ih, show (1 : Int) ≤ i by omega, show i ≠ 0 by omega]
        · have h3 : g[i - 1] < g[i] := by omega
          simp [ir73_d0, hlt, hw, hw2, h1, h0, e2001, e2002, h2, h3, ih, show (1 : Int) ≤ i by omega, show i ≠ 0 by omega]
def risesB (a b : Int) (g : List Int) : Bool := g.all (fun x => inB x a b) && (List.range' 0 g.length).all fun j => decide (j = 0) || decide (g[j - 1]?.getD 0 < g[j]?.getD 0)
theorem r73 (g : List Int) (a b : Int) (hg : g.length ≤ 1000000) : ownR env 73 [tl g, ti a, ti b] = some (.t (tb (risesB a b g)), []) := by
  rw [own_ir e73 _ rfl]
  have hl := l73 g a b hg g.length 0 (by omega)
  simp at hl
  simp [ir73, ir73_c, hl, risesB]
end Go.Proofs.Ytdgfpjlmpnfcgaa.Ev

namespace Go.Proofs.Ytdgfpjlmpnfcgaa.Ev
open Go
set_option linter.unusedVariables false
set_option linter.unusedSimpArgs false
attribute [local simp] til_getE til_length til_get til_drop til_take til_append til_nil til_cons til_replicate til_set
theorem or64 (x y : Nat) (hx : x < 2 ^ 62) (hy : y < 2 ^ 62) : orI .i64 (x : Int) (y : Int) = ((x ||| y : Nat) : Int) := by
  unfold orI
  have e : ∀ z : Nat, z < 2 ^ 62 → (BitVec.ofInt 64 (z : Int)).toNat = z := fun z hz => by
    rw [BitVec.toNat_ofInt]; omega
  have h : (BitVec.ofInt IntKind.i64.bits (x : Int) ||| BitVec.ofInt IntKind.i64.bits (y : Int)).toNat = x ||| y := by
    show (BitVec.ofInt 64 (x : Int) ||| BitVec.ofInt 64 (y : Int)).toNat = _
    rw [BitVec.toNat_or, e x hx, e y hy]
  rw [h]
  have := Nat.or_lt_two_pow hx hy
  exact w76 (by omega)
theorem shl64 (i : Nat) (hi : i ≤ 60) : shlI .i64 1 (i : Int) = ((2 ^ i : Nat) : Int) := by
  unfold shlI
  have e : min ((i : Int)).toNat IntKind.i64.bits = i := by show min ((i : Int)).toNat 64 = i; omega
  rw [e]
  have : (2 : Nat) ^ i ≤ 2 ^ 60 := Nat.pow_le_pow_right (by decide) hi
  have e2002 : (1 : Int) * 2 ^ i = ((2 ^ i : Nat) : Int) := by simp
  rw [e2002]
  generalize (2 : Nat) ^ i = M at *
  exact w76 (by omega)
theorem shr64 (N i : Nat) (hi : i ≤ 60) : shrI .i64 (N : Int) (i : Int) = ((N / 2 ^ i : Nat) : Int) := by
  unfold shrI
  have e : min ((i : Int)).toNat IntKind.i64.bits = i := by show min ((i : Int)).toNat 64 = i; omega
  rw [e, Int.fdiv_eq_ediv_of_nonneg _ (by exact Int.le_of_lt (Int.pow_pos (by decide)))]
  simp
def bitsI : List Int → Nat → Nat
  | [], N => N
  | k :: g, N => bitsI g (N ||| 2 ^ k.toNat)
theorem l74 (g : List Int) (hg : g.length ≤ 1000000) (hk : ∀ k ∈ g, 0 ≤ k ∧ k < 40) : ∀ (d i N : Nat), i + d = g.length → N < 2 ^ 61 →
    loopF env true [3, 6, 7, 8] ir74_b0 ([(3, .t (ti N)), (6, .t (tl g)), (7, .t (ti g.length)), (8, .t (ti i))], []) =
      some (.exit 0, [(3, .t (ti (bitsI (g.drop i) N : Nat))), (6, .t (tl g)), (7, .t (ti g.length)), (8, .t (ti g.length)), (9, .t (tb false))], [])
  | 0, i, N, hi, hN => by
    rw [x74_0]
    have : i = g.length := by omega
    subst this
    simp [ir74_d0, bitsI]
  | d + 1, i, N, hi, hN => by
    rw [x74_0]
    have hlt : i < g.length := by omega
    have hw : IntKind.i64.wrap ((i : Int) + 1) = (i : Int) + 1 := w76 (by omega)
    have hs : bitsI (g.drop i) N = bitsI (g.drop (i + 1)) (N ||| 2 ^ (g[i]).toNat) := by rw [List.drop_eq_getElem_cons hlt, bitsI]
    have hkk := hk g[i] (List.getElem_mem hlt)
    obtain ⟨k, hke⟩ : ∃ k : Nat, g[i] = k := ⟨(g[i]).toNat, by omega⟩
    have hp : (2 : Nat) ^ k < 2 ^ 61 := Nat.pow_lt_pow_right (by decide) (by omega)
    have hor := Nat.or_lt_two_pow hN hp
    have ih := l74 g hg hk d (i + 1) (N ||| 2 ^ k) (by omega) hor
    have h1 := shl64 k (by omega)
    have h2 := or64 N (2 ^ k) (by omega) (by omega)
    simp only [hke, Int.toNat_natCast] at hs
    rw [hs]
    generalize bitsI (g.drop (i + 1)) (N ||| 2 ^ k) = Z at ih ⊢
    generalize hM : (2 : Nat) ^ k = M at *
    generalize N ||| M = NM at *
    simp at ih
    simp [ir74_d0, hlt, hw, hke, h1, h2, ih, show ¬ ((k : Int) < 0) by omega]
theorem r74 (g : List Int) (hg : g.length ≤ 1000000) (hk : ∀ k ∈ g, 0 ≤ k ∧ k < 40) : ownR env 74 [tl g] = some (.t (ti (bitsI g 0 : Nat)), []) := by
  rw [own_ir e74 _ rfl]
  have hl := l74 g hg hk g.length 0 0 (by omega) (by decide)
  simp at hl
  simp [ir74, ir74_c, hl]
end Go.Proofs.Ytdgfpjlmpnfcgaa.Ev

namespace Go.Proofs.Ytdgfpjlmpnfcgaa.Ev
open Go
set_option linter.unusedVariables false
set_option linter.unusedSimpArgs false
attribute [local simp] til_getE til_length til_get til_drop til_take til_append til_nil til_cons til_replicate til_set
theorem l39i (a N : Nat) (ha : a ≤ 20) (i : Int) : ∀ (d j : Nat), j + d = a →
    if (List.range' j d).any (fun j => decide (N / 2 ^ (2 * j) % 2 = 1)) then ∃ fr, loopF env true [0, 1, 5, 6] ir64_b0 ([(0, .t (ti a)), (1, .t (ti N)), (5, .t (ti i)), (6, .t (ti j))], []) = some (.ret, fr, []) ∧ fr.get 4 = .t (tb false)
    else loopF env true [0, 1, 5, 6] ir64_b0 ([(0, .t (ti a)), (1, .t (ti N)), (5, .t (ti i)), (6, .t (ti j))], []) = some (.exit 2, [(0, .t (ti a)), (1, .t (ti N)), (5, .t (ti i)), (6, .t (ti a)), (18, .t (ti a)), (19, .t (ti a)), (20, .t (tb false))], [])
  | 0, j, hi => by
    rw [x64_0]
    have : j = a := by omega
    subst this
    simp [ir64_d0]
  | d + 1, j, hi => by
    rw [x64_0]
    have hlt : j < a := by omega
    have hw : IntKind.i64.wrap ((j : Int) + 1) = (j : Int) + 1 := w76 (by omega)
    have hw2 : IntKind.i64.wrap (2 * (j : Int)) = ((2 * j : Nat) : Int) := by rw [w76 (by omega)]; omega
    have hsh := shr64 N (2 * j) (by omega)
    have ih := l39i a N ha i d (j + 1) (by omega)
    have hr : List.range' j (d + 1) = j :: List.range' (j + 1) d := rfl
    rw [hr, List.any_cons]
    generalize ((List.range' (j + 1) d).any fun j => decide (N / 2 ^ (2 * j) % 2 = 1)) = R at *
    generalize N / 2 ^ (2 * j) = M at *
    generalize hJ : 2 * j = J at *
    by_cases h : M % 2 = 1
    · have h1 : (M : Int).tmod 2 = 1 := by rw [Int.tmod_eq_emod_of_nonneg (by omega)]; omega
      have h2 : (M : Int) % 2 = 1 := by omega
      simp [ir64_d0, hlt, hw2, hsh, h, h1, h2, show ¬ ((J : Int) < 0) by omega]
    · have h1 : ¬ (M : Int).tmod 2 = 1 := by rw [Int.tmod_eq_emod_of_nonneg (by omega)]; omega
      have h2 : ¬ (M : Int) % 2 = 1 := by omega
      have h3 : M % 2 = 0 := by omega
      have h4 : (M : Int) % 2 = 0 := by omega
      simp at ih
      simp [ir64_d0, hlt, hw, hw2, hsh, h, h1, h2, h3, h4, show ¬ ((J : Int) < 0) by omega, ih]
def cuB (a N : Nat) : Bool := !((List.range' 0 a).any (fun i => decide (N / 2 ^ (2 * i) % 4 = 2)) && (List.range' 0 a).any (fun j => decide (N / 2 ^ (2 * j) % 2 = 1)))
theorem l64 (a N : Nat) (ha : a ≤ 20) : ∀ (d i : Nat), i + d = a →
    endO [.tmp 4] (andN (outB 0 (loopF env true [0, 1, 5] ir64_b1 ([(0, .t (ti a)), (1, .t (ti N)), (5, .t (ti i))], []))) (execD env (.seq (.reg false [] [⟨some 4, none, .mv (.k (tb true))⟩]) .ret))) =
      some (.t (tb (!((List.range' i d).any (fun i => decide (N / 2 ^ (2 * i) % 4 = 2)) && (List.range' 0 a).any (fun j => decide (N / 2 ^ (2 * j) % 2 = 1))))), [])
  | 0, i, hi => by
    rw [x64_1]
    have : i = a := by omega
    subst this
    simp [ir64_d1]
  | d + 1, i, hi => by
    rw [x64_1]
    have hlt : i < a := by omega
    have hw : IntKind.i64.wrap ((i : Int) + 1) = (i : Int) + 1 := w76 (by omega)
    have hw2 : IntKind.i64.wrap (2 * (i : Int)) = ((2 * i : Nat) : Int) := by rw [w76 (by omega)]; omega
    have hsh := shr64 N (2 * i) (by omega)
    have hin := l39i a N ha i a 0 (by omega)
    have ih := l64 a N ha d (i + 1) (by omega)
    have hr : List.range' i (d + 1) = i :: List.range' (i + 1) d := rfl
    rw [hr, List.any_cons]
    generalize ((List.range' 0 a).any fun j => decide (N / 2 ^ (2 * j) % 2 = 1)) = B at *
    generalize ((List.range' (i + 1) d).any fun i => decide (N / 2 ^ (2 * i) % 4 = 2)) = R at *
    generalize N / 2 ^ (2 * i) = M at *
    generalize hJ : 2 * i = J at *
    simp at ih hin
    by_cases h : M % 4 = 2
    · have h1 : (M : Int).tmod 4 = 2 := by rw [Int.tmod_eq_emod_of_nonneg (by omega)]; omega
      have h2 : (M : Int) % 4 = 2 := by omega
      cases B with
      | true =>
        simp at hin
        obtain ⟨fr, k2001, k2002⟩ := hin
        simp [ir64_d1, hlt, hw, hw2, hsh, h, h1, h2, show ¬ ((J : Int) < 0) by omega, k2001, k2002]
      | false =>
        simp at hin
        simp [ir64_d1, hlt, hw, hw2, hsh, h, h1, h2, show ¬ ((J : Int) < 0) by omega, hin, ih]
    · have h1 : ¬ (M : Int).tmod 4 = 2 := by rw [Int.tmod_eq_emod_of_nonneg (by omega)]; omega
      have h2 : ¬ (M : Int) % 4 = 2 := by omega
      simp [ir64_d1, hlt, hw, hw2, hsh, h, h1, h2, show ¬ ((J : Int) < 0) by omega, ih]
theorem r64 (a N : Nat) (ha : a ≤ 20) : ownR env 64 [ti a, ti N] = some (.t (tb (cuB a N)), []) := by
  rw [own_ir e64 _ rfl]
  have hl := l64 a N ha a 0 (by omega)
  simp at hl
  simp [ir64, ir64_c, hl, cuB]
end Go.Proofs.Ytdgfpjlmpnfcgaa.Ev

namespace Go.Proofs.Ytdgfpjlmpnfcgaa.Ev
open Go
set_option linter.unusedVariables false
set_option linter.unusedSimpArgs false
attribute [local simp] til_getE til_length til_get til_drop til_take til_append til_nil til_cons til_replicate til_set
def bitsAt (p : Int) : Nat → List Int → Nat → Nat
  | _, [], N => N
  | i, x :: xs, N => if x = p then bitsAt p (i + 1) xs (N ||| 2 ^ i) else bitsAt p (i + 1) xs N
theorem l41i (a b c : Int) (q p : Int) (g : List Int) (hg : g.length ≤ 40) : ∀ (d i N : Nat), i + d = g.length → N < 2 ^ 61 →
    loopF env true [2, 3, 5, 6, 17, 18, 19] ir37_b0 ([(2, .ptr 0 0 0), (3, .ptr 1 0 0), (5, .t (ti p)), (6, .t (ti N)), (17, .t (tl g)), (18, .t (ti g.length)), (19, .t (ti i))], [.box 3 [.t (ti a), .t (ti b), .t (ti c)], .box 2 [.t (tl g), .t (ti q)]]) =
      some (.exit 2, [(2, .ptr 0 0 0), (3, .ptr 1 0 0), (5, .t (ti p)), (6, .t (ti (bitsAt p i (g.drop i) N : Nat))), (17, .t (tl g)), (18, .t (ti g.length)), (19, .t (ti g.length)), (20, .t (tb false))], [.box 3 [.t (ti a), .t (ti b), .t (ti c)], .box 2 [.t (tl g), .t (ti q)]])
  | 0, i, N, hi, hN => by
    rw [x37_0]
    have : i = g.length := by omega
    subst this
    simp [ir37_d0, bitsAt]
  | d + 1, i, N, hi, hN => by
    rw [x37_0]
    have hlt : i < g.length := by omega
    have hw : IntKind.i64.wrap ((i : Int) + 1) = (i : Int) + 1 := w76 (by omega)
    have hp : (2 : Nat) ^ i < 2 ^ 61 := Nat.pow_lt_pow_right (by decide) (by omega)
    have hor := Nat.or_lt_two_pow hN hp
    by_cases h : g[i] = p
    · have hs : bitsAt p i (g.drop i) N = bitsAt p (i + 1) (g.drop (i + 1)) (N ||| 2 ^ i) := by rw [List.drop_eq_getElem_cons hlt, bitsAt, if_pos h]
      have ih := l41i a b c q p g hg d (i + 1) (N ||| 2 ^ i) (by omega) hor
      have h1 := shl64 i (by omega)
      have h2 := or64 N (2 ^ i) (by omega) (by omega)
      rw [hs]
      generalize bitsAt p (i + 1) (g.drop (i + 1)) (N ||| 2 ^ i) = Z at ih ⊢
      generalize hM : (2 : Nat) ^ i = M at *
      generalize N ||| M = NM at *
      simp at ih
      simp [ir37_d0, hlt, hw, h, h1, h2, ih, show ¬ ((i : Int) < 0) by omega]
    · have hs : bitsAt p i (g.drop i) N = bitsAt p (i + 1) (g.drop (i + 1)) N := by rw [List.drop_eq_getElem_cons hlt, bitsAt, if_neg h]
      have ih := l41i a b c q p g hg d (i + 1) N (by omega) hN
      rw [hs]
      generalize bitsAt p (i + 1) (g.drop (i + 1)) N = Z at ih ⊢
      simp at ih
      simp [ir37_d0, hlt, hw, h, ih]
theorem l37 (a : Nat) (ha : a ≤ 20) (b c : Int) (hc : 0 ≤ c ∧ c ≤ 2) (q : Int) (g : List Int) (hg : g.length ≤ 40) : ∀ (d i : Nat), ((i + d : Nat) : Int) = c + 2 →
    endO [.tmp 4] (andN (outB 0 (loopF env true [2, 3, 5] ir37_b1 ([(2, .ptr 0 0 0), (3, .ptr 1 0 0), (5, .t (ti i))], [.box 3 [.t (ti a), .t (ti b), .t (ti c)], .box 2 [.t (tl g), .t (ti q)]]))) (execD env (.seq (.reg false [] [⟨some 4, none, .mv (.k (tb true))⟩]) .ret))) =
      some (.t (tb ((List.range' i d).all fun i => cuB a (bitsAt i 0 g 0))), [.box 3 [.t (ti a), .t (ti b), .t (ti c)], .box 2 [.t (tl g), .t (ti q)]])
  | 0, i, hi => by
    rw [x37_1]
    have hw : IntKind.i64.wrap (c + 1) = c + 1 := w76 (by omega)
    simp [ir37_d1, hw, show ¬ ((i : Int) ≤ c + 1) by omega]
  | d + 1, i, hi => by
    rw [x37_1]
    have hlt : (i : Int) ≤ c + 1 := by omega
    have hw0 : IntKind.i64.wrap (c + 1) = c + 1 := w76 (by omega)
    have hw : IntKind.i64.wrap ((i : Int) + 1) = (i : Int) + 1 := w76 (by omega)
    have ih := l37 a ha b c hc q g hg d (i + 1) (by omega)
    have hin := l41i a b c q i g hg g.length 0 0 (by omega) (by decide)
    have hr : List.range' i (d + 1) = i :: List.range' (i + 1) d := rfl
    have h39 := r64 a (bitsAt i 0 g 0) ha
    rw [hr, List.all_cons]
    simp at hin ih
    generalize ((List.range' (i + 1) d).all fun i => cuB a (bitsAt i 0 g 0)) = R at *
    generalize bitsAt i 0 g 0 = N at *
    cases h : cuB a N with
    | true => simp [ir37_d1, hlt, hw0, hw, hin, h39, h, ih]
    | false =>
      simp [ir37_d1, hlt, hw0, hw, hin, h39, h, ih]
def calmS (a : Nat) (c : Int) (g : List Int) : Bool := (List.range' 0 (c + 2).toNat).all fun i => cuB a (bitsAt i 0 g 0)
theorem r37 (a : Nat) (ha : a ≤ 20) (b c : Int) (hc : 0 ≤ c ∧ c ≤ 2) (q : Int) (g : List Int) (hg : g.length ≤ 40) : ownR env 37 [.agg [ti a, ti b, ti c], .agg [tl g, ti q]] = some (.t (tb (calmS a c g)), []) := by
  rw [own_ir e37 _ rfl]
  have hl := l37 a ha b c hc q g hg (c + 2).toNat 0 (by omega)
  simp at hl
  simp [ir37, ir37_c, hl, calmS]
end Go.Proofs.Ytdgfpjlmpnfcgaa.Ev

namespace Go.Proofs.Ytdgfpjlmpnfcgaa.Ev
open Go
set_option linter.unusedVariables false
set_option linter.unusedSimpArgs false
attribute [local simp] til_getE til_length til_get til_drop til_take til_append til_nil til_cons til_replicate til_set
theorem stand_length (p : Int) : ∀ (xs : List Int) (i : Nat), (stand p i xs).length ≤ xs.length
  | [], i => by simp [stand]
  | x :: xs, i => by
    have := stand_length p xs (i + 1)
    simp only [stand]
    split <;> simp <;> omega
theorem l35 (c : Int) (hc : 0 ≤ c ∧ c ≤ 10) (q : Int) (g : List Int) (hg : g.length ≤ 1000) : ∀ (d i : Nat), ((i + d : Nat) : Int) = c + 2 →
    andO (endO [.tmp 4] (andN (outB 0 (loopF env true [3, 8, 9] ir35_b0 ([(3, .ptr 0 0 0), (8, .t (ti (c + 1 + 1))), (9, .t (ti i))], [.box 2 [.t (tl g), .t (ti q)]]))) (execD env (.seq (.reg false [] [⟨some 4, none, .mv (.k (tb true))⟩]) .ret)))) ownEnd =
      some (.t (tb ((List.range' i d).all fun i => calmI (stand i 0 g) (stand i 0 g))), [])
  | 0, i, hi => by
    rw [x35_0]
    simp [ir35_d0, show ¬ ((i : Int) < c + 1 + 1) by omega]
  | d + 1, i, hi => by
    rw [x35_0]
    have hlt : (i : Int) < c + 1 + 1 := by omega
    have hw : IntKind.i64.wrap ((i : Int) + 1) = (i : Int) + 1 := w76 (by omega)
    have ih := l35 c hc q g hg d (i + 1) (by omega)
    have hr : List.range' i (d + 1) = i :: List.range' (i + 1) d := rfl
    have h30 := r57 g q i hg
    have h34 := r60 (stand i 0 g) (by have := stand_length i g 0; omega)
    rw [hr, List.all_cons]
    simp at ih
    generalize ((List.range' (i + 1) d).all fun i => calmI (stand i 0 g) (stand i 0 g)) = R at *
    generalize stand i 0 g = L at *
    cases h : calmI L L with
    | true => simp [ir35_d0, hlt, hw, h30, h34, h, ih]
    | false =>
      simp [ir35_d0, hlt, hw, h30, h34, h, ih]
def calmP (c : Int) (g : List Int) : Bool := (List.range' 0 (c + 2).toNat).all fun i => calmI (stand i 0 g) (stand i 0 g)
theorem r35 (a b c : Int) (hc : 0 ≤ c ∧ c ≤ 2) (q : Int) (g : List Int) (hg : g.length ≤ 1000) : ownR env 35 [.agg [ti a, ti b, ti c], .agg [tl g, ti q]] = some (.t (tb (calmP c g)), []) := by
  rw [own_ir e35 _ rfl]
  have hl := l35 c (by omega) q g hg (c + 2).toNat 0 (by omega)
  simp at hl
  simp [ir35, ir35_c, r51 a b c (by omega), w76 (n := c + 1 + 1) (by omega), hl, calmP]
  
theorem l46 (g : List Int) (t q : Int) (xs : List Int) (n : Nat) (hn : n ≤ 1000) (hg : g.length ≤ 1000) (hk : ∀ k ∈ g, 0 ≤ k ∧ k < n) : ∀ (d i : Nat) (y : List Int), i + d = g.length → y.length = n →
    loopF env true [3, 4, 5, 15, 16, 17] ir46_b0 ([(3, .ptr 0 0 0), (4, .ptr 1 0 0), (5, .ptr 2 0 0), (15, .t (tl g)), (16, .t (ti g.length)), (17, .t (ti i))], [.box 2 [.t (ti t), .t (tl g)], .box 2 [.t .nil, .t (ti 0)], .box 2 [.ref 3 0 n, .t (ti t)], .pure 1 (til y)]) =
      some (.exit 0, [(3, .ptr 0 0 0), (4, .ptr 1 0 0), (5, .ptr 2 0 0), (15, .t (tl g)), (16, .t (ti g.length)), (17, .t (ti g.length)), (18, .t (tb false))], [.box 2 [.t (ti t), .t (tl g)], .box 2 [.t .nil, .t (ti 0)], .box 2 [.ref 3 0 n, .t (ti t)], .pure 1 (til (setAll t (g.drop i) y))])
  | 0, i, y, hi, hy => by
    rw [x46_0]
    have : i = g.length := by omega
    subst this
    simp [ir46_d0, setAll]
  | d + 1, i, y, hi, hy => by
    rw [x46_0]
    have hlt : i < g.length := by omega
    have hw : IntKind.i64.wrap ((i : Int) + 1) = (i : Int) + 1 := w76 (by omega)
    have hs : setAll t (g.drop i) y = setAll t (g.drop (i + 1)) (y.set (g[i]).toNat t) := by rw [List.drop_eq_getElem_cons hlt, setAll]
    have hkk := hk g[i] (List.getElem_mem hlt)
    have hkn : (g[i]).toNat < y.length := by omega
    have ih := l46 g t q xs n hn hg hk d (i + 1) (y.set (g[i]).toNat t) (by omega) (by simpa using hy)
    simp at ih
    simp [ir46_d0, hlt, hw, hs, hkk.1, hkk.2, hkn, ih]
theorem r46 (xs g : List Int) (p t : Int) (h : xs.length ≤ 1000) (hg : g.length ≤ 1000) (hk : ∀ k ∈ g, 0 ≤ k ∧ k < xs.length) : ownR env 46 [.agg [tl xs, ti p], .agg [ti t, tl g]] = some (.agg [.ref 0 0 xs.length, .t (ti t)], [.pure 1 (til (setAll t g xs))]) := by
  rw [own_ir e46 _ rfl]
  have hl := l46 g t p xs xs.length h hg hk g.length 0 xs (by omega) rfl
  simp at hl
  simp [ir46, ir46_c, r75 xs h, hl, til_flat]
end Go.Proofs.Ytdgfpjlmpnfcgaa.Ev

namespace Go.Proofs.Ytdgfpjlmpnfcgaa.Ev
open Go
set_option linter.unusedVariables false
set_option linter.unusedSimpArgs false
attribute [local simp] til_getE til_length til_get til_drop til_take til_append til_nil til_cons til_replicate til_set
def atB (l : List Int) (p : Int) (g : List Int) : Bool := g.all fun k => decide (l[k.toNat]?.getD 0 = p)
theorem l45 (A B C2 p t : Int) (l g : List Int) (hg : g.length ≤ 1000000) (hk : ∀ k ∈ g, 0 ≤ k ∧ k < l.length) : ∀ (d i : Nat), i + d = g.length →
    if atB l p (g.drop i) then loopF env true [3, 4, 5, 43, 44, 45] ir45_b0 ([(3, .ptr 0 0 0), (4, .ptr 1 0 0), (5, .ptr 2 0 0), (43, .t (tl g)), (44, .t (ti g.length)), (45, .t (ti i))], [.box 3 [.t (ti A), .t (ti B), .t (ti C2)], .box 2 [.t (tl l), .t (ti p)], .box 2 [.t (ti t), .t (tl g)]]) =
      some (.exit 0, [(3, .ptr 0 0 0), (4, .ptr 1 0 0), (5, .ptr 2 0 0), (43, .t (tl g)), (44, .t (ti g.length)), (45, .t (ti g.length)), (46, .t (tb false))], [.box 3 [.t (ti A), .t (ti B), .t (ti C2)], .box 2 [.t (tl l), .t (ti p)], .box 2 [.t (ti t), .t (tl g)]])
    else ∃ fr H, loopF env true [3, 4, 5, 43, 44, 45] ir45_b0 ([(3, .ptr 0 0 0), (4, .ptr 1 0 0), (5, .ptr 2 0 0), (43, .t (tl g)), (44, .t (ti g.length)), (45, .t (ti i))], [.box 3 [.t (ti A), .t (ti B), .t (ti C2)], .box 2 [.t (tl l), .t (ti p)], .box 2 [.t (ti t), .t (tl g)]]) = some (.ret, fr, H) ∧ fr.get 6 = .t (tb false)
  | 0, i, hi => by
    rw [x45_0]
    have : i = g.length := by omega
    subst this
    simp [ir45_d0, atB]
  | d + 1, i, hi => by
    rw [x45_0]
    have hlt : i < g.length := by omega
    have hw : IntKind.i64.wrap ((i : Int) + 1) = (i : Int) + 1 := w76 (by omega)
    have hkk := hk g[i] (List.getElem_mem hlt)
    obtain ⟨k, hke⟩ : ∃ k : Nat, g[i] = k := ⟨(g[i]).toNat, by omega⟩
    have hkn : k < l.length := by omega
    have hs : atB l p (g.drop i) = (decide (l[k] = p) && atB l p (g.drop (i + 1))) := by
      rw [List.drop_eq_getElem_cons hlt]; simp [atB, hke, hkn]
    have ih := l45 A B C2 p t l g hg hk d (i + 1) (by omega)
    rw [hs]
    generalize atB l p (g.drop (i + 1)) = R at *
    simp at ih
    by_cases h : l[k] = p
    · simp [ir45_d0, hlt, hw, hke, hkn, h, ih]
    · simp [ir45_d0, hlt, hw, hke, hkn, h, ih]
def canB (a : Nat) (b c : Int) (l : List Int) (p t : Int) (g : List Int) : Bool :=
  inB t 0 (c + 1) && !decide (t = p) && inB g.length 1 b && risesB 0 (l.length - 1) g && atB l p g && cuB a (bitsI g 0) && calmS a c (setAll t g l)
theorem risesB_in {a b : Int} {g : List Int} (h : risesB a b g = true) : ∀ k ∈ g, a ≤ k ∧ k ≤ b := fun k hk => by
  unfold risesB at h
  rw [Bool.and_eq_true, List.all_eq_true] at h
  exact (inB_iff _ _ _).1 (h.1 k hk)
theorem r45 (a : Nat) (b c : Int) (hgd : good a b c = true) (l : List Int) (hl : l.length = 2 * a) (p t : Int) (g : List Int) (hg : g.length ≤ 1000) : ownR env 45 [.agg [ti a, ti b, ti c], .agg [tl l, ti p], .agg [ti t, tl g]] = some (.t (tb (canB a b c l p t g)), []) := by
  rw [own_ir e45 _ rfl]
  have hgo := good_of hgd
  have hw1 : IntKind.i64.wrap (c + 1) = c + 1 := w76 (by omega)
  have hw2 : IntKind.i64.wrap ((l.length : Int) - 1) = l.length - 1 := w76 (by omega)
  have h38 := r73 g 0 (l.length - 1) (by omega)
  have h27 := fun hk => l45 a b c p t l g (by omega) hk g.length 0 (by omega)
  unfold canB
  cases h1 : inB t 0 (c + 1) with
  | false => simp [ir45, ir45_c, hw1, h1]
  | true =>
    by_cases h2 : t = p
    · subst h2; simp [ir45, ir45_c, hw1, h1]
    · cases h3 : inB g.length 1 b with
      | false => simp [ir45, ir45_c, hw1, h1, h2, h3]
      | true =>
        cases h4 : risesB 0 (l.length - 1) g with
        | false => simp [ir45, ir45_c, hw1, hw2, h1, h2, h3, h38, h4]
        | true =>
          have hin := risesB_in h4
          have hk : ∀ k ∈ g, 0 ≤ k ∧ k < l.length := fun k hk => by have := hin k hk; omega
          have h27' := h27 hk
          simp at h27'
          cases h5 : atB l p g with
          | false =>
            simp [h5] at h27'
            obtain ⟨fr, ⟨H, k2001⟩, k2002⟩ := h27'
            simp [ir45, ir45_c, hw1, hw2, h1, h2, h3, h38, h4, k2001, k2002]
          | true =>
            simp [h5] at h27'
            have h40 := r74 g (by omega) fun k hkk => by have := hk k hkk; omega
            have h39 := r64 a (bitsI g 0) (by omega)
            have h16 := r46 l g p t (by omega) hg hk
            have h41 := r37 a (by omega) b c (by omega) t (setAll t g l) (by rw [setAll_length]; omega)
            have hsl := setAll_length t g l
            generalize setAll t g l = L at *
            generalize bitsI g 0 = N at *
            cases h6 : cuB a N with
            | false => simp [ir45, ir45_c, hw1, hw2, h1, h2, h3, h38, h4, h27', h40, h39, h6]
            | true =>
              have htk : L.take l.length = L := List.take_of_length_le (by omega)
              simp [ir45, ir45_c, hw1, hw2, h1, h2, h3, h38, h4, h27', h40, h39, h6, h16, h41, htk]
end Go.Proofs.Ytdgfpjlmpnfcgaa.Ev

namespace Go.Proofs.Ytdgfpjlmpnfcgaa.Ev
open Go
set_option linter.unusedVariables false
set_option linter.unusedSimpArgs false
theorem til_snoc (l : List Int) (x : Int) : til l ++ [.int .i64 x] = til (l ++ [x]) := by simp [til]
theorem til_fold (a b : List Int) : til a ++ til b = til (a ++ b) := by simp [til]
theorem take_snoc {α : Type} (l : List α) (x : α) : (l ++ [x]).take (l.length + 1) = l ++ [x] := List.take_of_length_le (by simp)
attribute [local simp] til_getE til_length til_get til_drop til_take til_snoc til_fold take_snoc
structure IsList (x : T) (l : List Int) : Prop where
  len : ∀ H, evLen H 1 (.t x) = some (l.length : Int)
  ix : ∀ H (i : Nat) (h : i < l.length), evIxa H 1 (.t x) (.t (.int .i64 i)) = some (.rptr (.int .i64 l[i]) 0)
  own : l.length ≤ 1000 → ownR env 75 [x] = some (.ref 0 0 l.length, [.pure 1 (til l)])
theorem isList_tl (l : List Int) : IsList (tl l) l := ⟨fun H => by simp, fun H i h => by simp [h], fun h => r75 l h⟩
theorem isList_nil : IsList .nil [] := ⟨fun H => rfl, fun H i h => by simp at h, fun _ => by
  rw [own_ir e75 _ rfl]
  simp [ir75, ir75_c, til_nil]⟩

def tll (gl : List (List Int)) : List T := gl.map fun l => .lst 1 (til l)
theorem tll_length (gl : List (List Int)) : (tll gl).length = gl.length := by simp [tll]
theorem tll_take (gl : List (List Int)) (n : Nat) : (tll gl).take n = tll (gl.take n) := by simp [tll, List.map_take]
theorem tll_get (gl : List (List Int)) (i : Nat) : (tll gl)[i]? = gl[i]?.map fun l => .lst 1 (til l) := by simp [tll]
theorem tll_getE (gl : List (List Int)) (i : Nat) (h : i < (tll gl).length) : (tll gl)[i] = .lst 1 (til (gl[i]'(by simpa [tll] using h))) := by simp [tll]
theorem tll_fold (a b : List (List Int)) : tll a ++ tll b = tll (a ++ b) := by simp [tll]
def IsL (r : Option (V × Heap)) (gl : List (List Int)) : Prop := (r = some (.t .nil, []) ∧ gl = []) ∨ r = some (.ref 0 0 gl.length, [.pure 1 (tll gl)])
def grps (most : Int) : List Int → List Int → List (List Int)
  | [], _ => []
  | x :: rest, l => if (l.length : Int) < most then (l ++ [x]) :: (grps most rest (l ++ [x]) ++ grps most rest l) else []
theorem grps_full (most : Int) (rest l : List Int) (h : ¬ (l.length : Int) < most) : grps most rest l = [] := by
  cases rest with
  | nil => rfl
  | cons x r => simp [grps, h]
theorem grps_len (most : Int) : ∀ (rest l : List Int), (grps most rest l).length + 1 ≤ 2 ^ rest.length
  | [], _ => by simp [grps]
  | x :: rest, l => by
    have h1 := grps_len most rest (l ++ [x])
    have h2 := grps_len most rest l
    simp only [grps]
    split
    · simp only [List.length_cons, List.length_append, Nat.pow_succ]
      omega
    · simp only [List.length_nil, List.length_cons, Nat.pow_succ]
      omega

attribute [local simp] tll_length tll_take tll_get tll_getE tll_fold
theorem l61 (P B : T) (people l : List Int) (hP : IsList P people) (hB : IsList B l) (hpl : people.length ≤ 20) (most : Int) (hm : most ≤ 100) (hl : (l.length : Int) < most)
    (i0 : Nat) (ih : ∀ (j : Nat), i0 ≤ j → j < people.length → IsL (ownFR env 61 [P, tl (l ++ [people[j]?.getD 0]), ti ((j : Int) + 1), ti most]) ((l ++ [people[j]?.getD 0]) :: grps most (people.drop (j + 1)) (l ++ [people[j]?.getD 0]))) :
    ∀ (d i : Nat) (acc : List (List Int)), i + d = people.length → i0 ≤ i → acc.length + (grps most (people.drop i) l).length ≤ 2 ^ 30 →
    loopF env true [0, 1, 3, 9, 10] ir61_b0 ([(0, .t P), (1, .t B), (3, .t (ti most)), (9, .ref 0 0 acc.length), (10, .t (ti i))], [.pure 1 (tll acc)]) =
      some (.exit 0, [(0, .t P), (1, .t B), (3, .t (ti most)), (9, .ref 0 0 (acc ++ grps most (people.drop i) l).length), (10, .t (ti people.length)), (25, .t (ti people.length)), (26, .t P), (27, .t (ti people.length)), (28, .t (tb false))], [.pure 1 (tll (acc ++ grps most (people.drop i) l))])
  | 0, i, acc, hi, hi0, ha => by
    rw [x61_0]
    have : i = people.length := by omega
    subst this
    simp [ir61_d0, hP.len, grps]
  | d + 1, i, acc, hi, hi0, ha => by
    rw [x61_0]
    have hlt : i < people.length := by omega
    have hw : IntKind.i64.wrap ((i : Int) + 1) = (i : Int) + 1 := w76 (by omega)
    have hi' := ih i hi0 hlt
    have hown := hB.own (by omega)
    have hix := hP.ix
    simp [hlt] at hi'
    have hg : grps most (people.drop i) l = ((l ++ [people[i]]) :: grps most (people.drop (i + 1)) (l ++ [people[i]])) ++ grps most (people.drop (i + 1)) l := by
      rw [List.drop_eq_getElem_cons hlt]; simp [grps, hl]
    rw [hg, List.length_append] at ha
    simp only [List.length_cons] at ha
    rcases hi' with ⟨_, h2⟩ | hi'
    · cases h2
    · have ihl := l61 P B people l hP hB hpl most hm hl i0 ih d (i + 1) (acc ++ ((l ++ [people[i]]) :: grps most (people.drop (i + 1)) (l ++ [people[i]]))) (by omega) (by omega) (by rw [List.length_append, List.length_cons]; omega)
      rw [hg]
      generalize grps most (people.drop (i + 1)) (l ++ [people[i]]) = G1 at *
      generalize grps most (people.drop (i + 1)) l = G2 at *
      simp at ihl
      simp [ir61_d0, hP.len, hown, hix, hlt, hw, show l.length + 1 ≤ 68719476736 by omega, show acc.length + (G1.length + 1) ≤ 68719476736 by omega, hi', ihl]
theorem l61n (P B : T) (people l : List Int) (hP : IsList P people) (hB : IsList B l) (hpl : people.length ≤ 20) (most : Int) (hm : most ≤ 100) (hl : (l.length : Int) < most) (i : Nat) (hlt : i < people.length) (G1 : List (List Int)) (hG : G1.length ≤ 2 ^ 30)
    (ih : ownFR env 61 [P, tl (l ++ [people[i]]), ti ((i : Int) + 1), ti most] = some (.ref 0 0 (G1.length + 1), [.pure 1 (tll ((l ++ [people[i]]) :: G1))])) :
    loopF env true [0, 1, 3, 9, 10] ir61_b0 ([(0, .t P), (1, .t B), (3, .t (ti most)), (9, .t .nil), (10, .t (ti i))], []) =
      loopF env true [0, 1, 3, 9, 10] ir61_b0 ([(0, .t P), (1, .t B), (3, .t (ti most)), (9, .ref 0 0 (G1.length + 1)), (10, .t (ti ((i : Int) + 1)))], [.pure 1 (tll ((l ++ [people[i]]) :: G1))]) := by
  rw [x61_0]
  have hw : IntKind.i64.wrap ((i : Int) + 1) = (i : Int) + 1 := w76 (by omega)
  have hown := hB.own (by omega)
  have hix := hP.ix
  simp [ir61_d0, hP.len, hown, hix, hlt, hw, show l.length + 1 ≤ 68719476736 by omega, show G1.length + 1 ≤ 68719476736 by omega, ih, List.take_of_length_le]
theorem r61 (P : T) (people : List Int) (hP : IsList P people) (hpl : people.length ≤ 20) (most : Int) (hm : most ≤ 100) (hm0 : 0 < most) : ∀ (d i : Nat) (B : T) (l : List Int), i + d = people.length → IsList B l → (l.length : Int) ≤ most →
    IsL (ownFR env 61 [P, B, ti i, ti most]) ((if l.length = 0 then [] else [l]) ++ grps most (people.drop i) l) := by
  intro d
  induction d using Nat.strongRecOn with
  | ind d ih =>
    intro i B l hi hB hl
    have hown := hB.own (by omega)
    have hblen := hB.len
    have hgl := grps_len most (people.drop i) l
    have hp2 : 2 ^ (people.drop i).length ≤ 2 ^ 20 := Nat.pow_le_pow_right (by decide) (by simp; omega)
    have ih' : (l.length : Int) < most → ∀ (j : Nat), i ≤ j → j < people.length → IsL (ownFR env 61 [P, tl (l ++ [people[j]?.getD 0]), ti ((j : Int) + 1), ti most]) ((l ++ [people[j]?.getD 0]) :: grps most (people.drop (j + 1)) (l ++ [people[j]?.getD 0])) := fun hlt j hij hj => by
      have := ih (people.length - (j + 1)) (by omega) (j + 1) (tl (l ++ [people[j]?.getD 0])) (l ++ [people[j]?.getD 0]) (by omega) (isList_tl _) (by rw [List.length_append]; simp; omega)
      rw [if_neg (by simp)] at this
      exact this
    rw [ownF_ir e61 _ rfl]
    rcases Nat.eq_zero_or_pos l.length with h0 | h0
    · have hlt0 : (l.length : Int) < most := by omega
      simp only [h0, if_true, List.nil_append]
      rcases Nat.lt_or_ge i people.length with hlt | hge
      · right
        have hi' := ih' hlt0 i (Nat.le_refl _) hlt
        have hx : people[i]?.getD 0 = people[i] := by simp [hlt]
        rw [hx] at hi'
        have hg : grps most (people.drop i) l = ((l ++ [people[i]]) :: grps most (people.drop (i + 1)) (l ++ [people[i]])) ++ grps most (people.drop (i + 1)) l := by
          rw [List.drop_eq_getElem_cons hlt]; simp [grps, hlt0]
        rcases hi' with ⟨_, h2⟩ | hi'
        · cases h2
        · have hlen2 : ((l ++ [people[i]]) :: grps most (people.drop (i + 1)) (l ++ [people[i]])).length + (grps most (people.drop (i + 1)) l).length ≤ 2 ^ 20 := by
            rw [hg, List.length_append] at hgl; omega
          have hn := l61n P B people l hP hB hpl most hm hlt0 i hlt (grps most (people.drop (i + 1)) (l ++ [people[i]])) (by simp at hlen2; omega) hi'
          have hr := l61 P B people l hP hB hpl most hm hlt0 i (ih' hlt0) (people.length - (i + 1)) (i + 1) ((l ++ [people[i]]) :: grps most (people.drop (i + 1)) (l ++ [people[i]])) (by omega) (by omega) (by omega)
          rw [hg]
          generalize grps most (people.drop (i + 1)) (l ++ [people[i]]) = G1 at *
          generalize grps most (people.drop (i + 1)) l = G2 at *
          simp at hr hn
          simp [ir61, ir61_c, hblen, h0, show ¬ (0 = most) by omega, hn, hr]
      · left
        have hg : grps most (people.drop i) l = [] := by rw [List.drop_of_length_le (by omega)]; rfl
        refine ⟨?_, hg⟩
        simp [ir61, ir61_c, hblen, h0, show ¬ (0 = most) by omega]
        rw [x61_0]
        simp [ir61_d0, hP.len, show ¬ (i < people.length) by omega]
    · right
      have hne : l ≠ [] := by intro e; subst e; simp at h0
      have ht : tll [l] = [T.lst 1 (til l)] := rfl
      by_cases hmost : (l.length : Int) = most
      · have hg : grps most (people.drop i) l = [] := grps_full _ _ _ (by omega)
        simp [ir61, ir61_c, hblen, hown, hmost, hm0, hne, ht, hg]
      · rcases Nat.lt_or_ge i people.length with hlt | hge
        · have hr := l61 P B people l hP hB hpl most hm (by omega) i (ih' (by omega)) (people.length - i) i [l] (by omega) (by omega) (by simp; omega)
          simp [ht] at hr
          simp [ir61, ir61_c, hblen, hown, hmost, h0, hne, ht, hr]
        · have hg : grps most (people.drop i) l = [] := by rw [List.drop_of_length_le (by omega)]; rfl
          simp [ir61, ir61_c, hblen, hown, hmost, h0, hne, ht, hg]
          rw [x61_0]
          simp [ir61_d0, hP.len, show ¬ (i < people.length) by omega]
end Go.Proofs.Ytdgfpjlmpnfcgaa.Ev

namespace Go.Proofs.Ytdgfpjlmpnfcgaa.Ev
open Go
set_option linter.unusedVariables false
set_option linter.unusedSimpArgs false
attribute [local simp] til_getE til_length til_get til_drop til_take til_snoc til_fold take_snoc tll_length tll_take tll_get tll_getE tll_fold
def nlV (k : Nat) (l : List Int) : V := if l.length = 0 then .t .nil else .ref k 0 l.length
def nlH (l : List Int) : Heap := if l.length = 0 then [] else [.pure 1 (til l)]

theorem l34_h (A B C2 p : Int) (g : List Int) (hg : g.length ≤ 1000) : ∀ (d i : Nat) (acc : List Int), i + d = g.length → acc.length ≤ i →
    loopF env true [2, 3, 5, 14, 15, 16] ir34_b2 ([(2, .ptr 0 0 0), (3, .ptr 1 0 0), (5, nlV 2 acc), (14, .t (tl g)), (15, .t (ti g.length)), (16, .t (ti i))], [.box 3 [.t (ti A), .t (ti B), .t (ti C2)], .box 2 [.t (tl g), .t (ti p)]] ++ nlH acc) =
      some (.exit 0, [(2, .ptr 0 0 0), (3, .ptr 1 0 0), (5, nlV 2 (acc ++ stand p i (g.drop i))), (14, .t (tl g)), (15, .t (ti g.length)), (16, .t (ti g.length)), (17, .t (tb false))], [.box 3 [.t (ti A), .t (ti B), .t (ti C2)], .box 2 [.t (tl g), .t (ti p)]] ++ nlH (acc ++ stand p i (g.drop i)))
  | 0, i, acc, hi, ha => by
    rw [x34_2]
    have : i = g.length := by omega
    subst this
    simp [ir34_d2, stand]
  | d + 1, i, acc, hi, ha => by
    rw [x34_2]
    have hlt : i < g.length := by omega
    have hw : IntKind.i64.wrap ((i : Int) + 1) = (i : Int) + 1 := w76 (by omega)
    by_cases h : g[i] = p
    · have hs : stand p i (g.drop i) = [(i : Int)] ++ stand p (i + 1) (g.drop (i + 1)) := by rw [List.drop_eq_getElem_cons hlt, stand, if_pos h]; rfl
      have ih := l34_h A B C2 p g hg d (i + 1) (acc ++ [(i : Int)]) (by omega) (by simp; omega)
      rw [hs, ← List.append_assoc]
      generalize acc ++ [(i : Int)] ++ stand p (i + 1) (g.drop (i + 1)) = Z at *
      cases acc with
      | nil =>
        simp [nlV, nlH, til_cons, til_nil] at ih
        simp [ir34_d2, nlV, nlH, hlt, hw, h, ih]
      | cons x acc =>
        simp [nlV, nlH] at ih
        simp [ir34_d2, nlV, nlH, hlt, hw, h, show acc.length + 1 + 1 ≤ 68719476736 by simp at ha; omega, ih]
    · have hs : stand p i (g.drop i) = stand p (i + 1) (g.drop (i + 1)) := by rw [List.drop_eq_getElem_cons hlt, stand, if_neg h]
      have ih := l34_h A B C2 p g hg d (i + 1) acc (by omega) (by omega)
      rw [hs]
      generalize acc ++ stand p (i + 1) (g.drop (i + 1)) = Z at *
      cases acc with
      | nil =>
        simp [nlV, nlH] at ih
        simp [ir34_d2, nlV, nlH, hlt, hw, h, ih]
      | cons x acc =>
        simp [nlV, nlH] at ih
        simp [ir34_d2, nlV, nlH, hlt, hw, h, ih]
def voyT (v : Int × List Int) : T := .agg [.int .i64 v.1, .lst 1 (til v.2)]
def tlv (vs : List (Int × List Int)) : List T := vs.map voyT
theorem tlv_length (vs : List (Int × List Int)) : (tlv vs).length = vs.length := by simp [tlv]
theorem tlv_snoc (vs : List (Int × List Int)) (t : Int) (g : List Int) : tlv vs ++ [.agg [.int .i64 t, .lst 1 (til g)]] = tlv (vs ++ [(t, g)]) := by simp [tlv, voyT]
theorem tlv_one (t : Int) (g : List Int) : tlv [(t, g)] = [.agg [.int .i64 t, .lst 1 (til g)]] := rfl
theorem tlv_take (vs : List (Int × List Int)) (n : Nat) : (tlv vs).take n = tlv (vs.take n) := by simp [tlv, List.map_take]
theorem tlv_getE (vs : List (Int × List Int)) (i : Nat) (h : i < (tlv vs).length) : (tlv vs)[i] = .agg [.int .i64 (vs[i]'(by simpa [tlv] using h)).1, .lst 1 (til (vs[i]'(by simpa [tlv] using h)).2)] := by simp [tlv, voyT]
def nvV (k : Nat) (l : List (Int × List Int)) : V := if l.length = 0 then .t .nil else .ref k 0 l.length
def nvH (l : List (Int × List Int)) : Heap := if l.length = 0 then [] else [.pure 2 (tlv l)]
def nvK (l : List (Int × List Int)) : Nat := if l.length = 0 then 3 else 4
def cans (a : Nat) (b c : Int) (l : List Int) (p t : Int) (gl : List (List Int)) : List (Int × List Int) := (gl.filter fun g => canB a b c l p t g).map fun g => (t, g)
theorem cans_cons (a : Nat) (b c : Int) (l : List Int) (p t : Int) (g : List Int) (gl : List (List Int)) : cans a b c l p t (g :: gl) = (if canB a b c l p t g then [(t, g)] else []) ++ cans a b c l p t gl := by
  unfold cans
  rw [List.filter_cons]
  split <;> simp

theorem l34_i (a : Nat) (b c : Int) (hgd : good a b c = true) (l : List Int) (hl : l.length = 2 * a) (p t : Int) (here : List Int) (gl : List (List Int)) (hgl : ∀ g ∈ gl, g.length ≤ 1000) (hgn : gl.length ≤ 2 ^ 20) : ∀ (d j : Nat) (out : List (Int × List Int)), j + d = gl.length → out.length + d ≤ 2 ^ 30 →
    loopF env true [2, 3, 5, 8, 9, 40, 41, 42] ir34_b0 ([(2, .ptr 0 0 0), (3, .ptr 1 0 0), (5, .ref 2 0 here.length), (8, nvV 3 out), (9, .t (ti t)), (40, .ref (nvK out) 0 gl.length), (41, .t (ti gl.length)), (42, .t (ti j))], [.box 3 [.t (ti a), .t (ti b), .t (ti c)], .box 2 [.t (tl l), .t (ti p)], .froz 1 (til here)] ++ nvH out ++ [.pure 1 (tll gl)]) =
      some (.exit 4, [(2, .ptr 0 0 0), (3, .ptr 1 0 0), (5, .ref 2 0 here.length), (8, nvV 3 (out ++ cans a b c l p t (gl.drop j))), (9, .t (ti t)), (40, .ref (nvK (out ++ cans a b c l p t (gl.drop j))) 0 gl.length), (41, .t (ti gl.length)), (42, .t (ti gl.length)), (43, .t (tb false))], [.box 3 [.t (ti a), .t (ti b), .t (ti c)], .box 2 [.t (tl l), .t (ti p)], .froz 1 (til here)] ++ nvH (out ++ cans a b c l p t (gl.drop j)) ++ [.pure 1 (tll gl)])
  | 0, j, out, hj, hb => by
    rw [x34_0]
    have : j = gl.length := by omega
    subst this
    simp [ir34_d0, cans]
  | d + 1, j, out, hj, hb => by
    rw [x34_0]
    have hlt : j < gl.length := by omega
    have hw : IntKind.i64.wrap ((j : Int) + 1) = (j : Int) + 1 := w76 (by omega)
    have h27 := r45 a b c hgd l hl p t gl[j] (hgl _ (List.getElem_mem hlt))
    have hs : cans a b c l p t (gl.drop j) = (if canB a b c l p t gl[j] then [(t, gl[j])] else []) ++ cans a b c l p t (gl.drop (j + 1)) := by rw [List.drop_eq_getElem_cons hlt, cans_cons]
    rw [hs, ← List.append_assoc]
    have ih := fun out' h => l34_i a b c hgd l hl p t here gl hgl hgn d (j + 1) out' (by omega) h
    cases hc : canB a b c l p t gl[j] with
    | true =>
      rw [hc] at h27
      simp only [if_true]
      have ih' := ih (out ++ [(t, gl[j])]) (by simp; omega)
      generalize out ++ [(t, gl[j])] ++ cans a b c l p t (gl.drop (j + 1)) = Z at *
      cases out with
      | nil =>
        simp [nvV, nvH, nvK, tlv_one] at ih'
        simp [ir34_d0, nvV, nvH, nvK, hlt, hw, h27, ih', tlv_length, tlv_snoc, tlv_take]
      | cons x out =>
        simp [nvV, nvH, nvK] at ih'
        simp [ir34_d0, nvV, nvH, nvK, hlt, hw, h27, ih', tlv_length, tlv_snoc, tlv_take, show out.length + 1 + 1 ≤ 68719476736 by simp at hb; omega]
    | false =>
      rw [hc] at h27
      simp only [Bool.false_eq_true, if_false, List.append_nil]
      have ih' := ih out (by omega)
      generalize out ++ cans a b c l p t (gl.drop (j + 1)) = Z at *
      cases out with
      | nil =>
        simp [nvV, nvH, nvK, tlv_one] at ih'
        simp [ir34_d0, nvV, nvH, nvK, hlt, hw, h27, ih']
      | cons x out =>
        simp [nvV, nvH, nvK] at ih'
        simp [ir34_d0, nvV, nvH, nvK, hlt, hw, h27, ih', tlv_length, tlv_take]

theorem grps_lens (most : Int) : ∀ (rest l g : List Int), g ∈ grps most rest l → (g.length : Int) ≤ most
  | [], _, g, h => by simp [grps] at h
  | x :: rest, l, g, h => by
    simp only [grps] at h
    split at h
    · rename_i hlt
      simp only [List.mem_cons, List.mem_append] at h
      rcases h with rfl | h | h
      · simp; omega
      · exact grps_lens most rest (l ++ [x]) g h
      · exact grps_lens most rest l g h
    · cases h
def voysS (a : Nat) (b c : Int) (l : List Int) (p : Int) (i d : Nat) : List (Int × List Int) := (List.range' i d).flatMap fun t : Nat => cans a b c l p (t : Int) (grps b (stand p 0 l) [])

theorem l34_o (a : Nat) (b c : Int) (hgd : good a b c = true) (l : List Int) (hl : l.length = 2 * a) (p : Int) (hp : stand p 0 l ≠ []) (hb : Blk) (hhb : hb = .pure 1 (til (stand p 0 l)) ∨ hb = .froz 1 (til (stand p 0 l))) : ∀ (d i : Nat) (out : List (Int × List Int)), ((i + d : Nat) : Int) = c + 2 → out.length + d * 2 ^ 8 ≤ 2 ^ 20 → (hb = .pure 1 (til (stand p 0 l)) → 0 < d) →
    loopF env true [2, 3, 5, 8, 9] ir34_b1 ([(2, .ptr 0 0 0), (3, .ptr 1 0 0), (5, .ref 2 0 (stand p 0 l).length), (8, nvV 3 out), (9, .t (ti i))], [.box 3 [.t (ti a), .t (ti b), .t (ti c)], .box 2 [.t (tl l), .t (ti p)], hb] ++ nvH out) =
      some (.exit 2, [(2, .ptr 0 0 0), (3, .ptr 1 0 0), (5, .ref 2 0 (stand p 0 l).length), (8, nvV 3 (out ++ voysS a b c l p i d)), (9, .t (ti (c + 2))), (30, .t (ti (c + 2))), (31, .ptr 0 0 2), (32, .t (ti c)), (33, .t (ti (c + 1))), (34, .t (tb false))], [.box 3 [.t (ti a), .t (ti b), .t (ti c)], .box 2 [.t (tl l), .t (ti p)], .froz 1 (til (stand p 0 l))] ++ nvH (out ++ voysS a b c l p i d))
  | 0, i, out, hi, ho, hd => by
    rw [x34_1]
    have hw : IntKind.i64.wrap (c + 1) = c + 1 := by have := good_of hgd; exact w76 (by omega)
    have hfz : hb = .froz 1 (til (stand p 0 l)) := hhb.resolve_left fun e => by have := hd e; omega
    have hie : (i : Int) = c + 2 := by omega
    simp [ir34_d1, hw, hie, hfz, voysS, show ¬ (c + 2 ≤ c + 1) by omega]
  | d + 1, i, out, hi, ho, hd => by
    rw [x34_1]
    have hgo := good_of hgd
    have hw0 : IntKind.i64.wrap (c + 1) = c + 1 := w76 (by omega)
    have hw : IntKind.i64.wrap ((i : Int) + 1) = (i : Int) + 1 := w76 (by omega)
    have hlt : (i : Int) ≤ c + 1 := by omega
    have hsl := stand_length p l 0
    have h26 := r61 (tl (stand p 0 l)) (stand p 0 l) (isList_tl _) (by omega) b (by omega) (by omega) (stand p 0 l).length 0 .nil [] (by omega) isList_nil (by simp; omega)
    simp only [List.length_nil, if_true, List.nil_append, List.drop_zero] at h26
    have hgn := grps_len b (stand p 0 l) []
    have hgs : ∀ g ∈ grps b (stand p 0 l) [], g.length ≤ 1000 := fun g hg => by have := grps_lens b _ _ g hg; omega
    have hp2 : 2 ^ (stand p 0 l).length ≤ 2 ^ 8 := Nat.pow_le_pow_right (by decide) (by omega)
    have hinner := l34_i a b c hgd l hl p i (stand p 0 l) (grps b (stand p 0 l) []) hgs (by omega) (grps b (stand p 0 l) []).length 0 out (by omega) (by omega)
    have hs : voysS a b c l p i (d + 1) = cans a b c l p i (grps b (stand p 0 l) []) ++ voysS a b c l p (i + 1) d := by simp [voysS, List.range'_succ]
    have hcl : (cans a b c l p i (grps b (stand p 0 l) [])).length ≤ (grps b (stand p 0 l) []).length := by
      simp only [cans, List.length_map]; exact List.length_filter_le _ _
    have ih := l34_o a b c hgd l hl p hp (.froz 1 (til (stand p 0 l))) (.inr rfl) d (i + 1) (out ++ cans a b c l p i (grps b (stand p 0 l) [])) (by omega) (by rw [List.length_append]; omega) (fun e => by cases e)
    rw [hs, ← List.append_assoc]
    have hne : grps b (stand p 0 l) [] ≠ [] := by
      cases hst : stand p 0 l with
      | nil => exact absurd hst hp
      | cons x r => simp [grps, show (0 : Int) < b by omega]
    simp only [List.drop_zero] at hinner
    generalize grps b (stand p 0 l) [] = gl at *
    generalize stand p 0 l = here at *
    rcases h26 with ⟨_, h26⟩ | h26
    · exact absurd h26 hne
    · generalize hZ : out ++ cans a b c l p i gl = Z at *
      generalize Z ++ voysS a b c l p (i + 1) d = Y at *
      simp at h26
      clear hZ
      rcases hhb with rfl | rfl <;> cases out <;> cases Z <;> simp [nvV, nvH, nvK] at hinner ih <;> simp [ir34_d1, nvV, nvH, nvK, hlt, hw0, hw, h26, hinner, ih]
def IsVs (r : Option (V × Heap)) (vs : List (Int × List Int)) : Prop := (r = some (.t .nil, []) ∧ vs = []) ∨ r = some (.ref 0 0 vs.length, [.pure 2 (tlv vs)])
theorem stand_ne (p : Int) : ∀ (l : List Int) (i : Nat), p ∈ l → stand p i l ≠ []
  | x :: l, i, h => by
    simp only [stand]
    split
    · simp
    · rename_i hx
      exact stand_ne p l (i + 1) ((List.mem_cons.1 h).resolve_left fun e => hx e.symm)
theorem r34 (a : Nat) (b c : Int) (hgd : good a b c = true) (l : List Int) (hl : l.length = 2 * a) (p : Int) (hp : p ∈ l) : IsVs (ownFR env 34 [.agg [ti a, ti b, ti c], .agg [tl l, ti p]]) (voysS a b c l p 0 (c + 2).toNat) := by
  rw [ownF_ir e34 _ rfl]
  have hgo := good_of hgd
  have h1 := l34_h a b c p l (by omega) l.length 0 [] (by omega) (by simp)
  have hne := stand_ne p l 0 hp
  have h2 := l34_o a b c hgd l hl p hne (.pure 1 (til (stand p 0 l))) (.inl rfl) (c + 2).toNat 0 [] (by omega) (by simp; omega) (fun _ => by omega)
  simp only [List.drop_zero, List.nil_append] at h1 h2
  generalize voysS a b c l p 0 (c + 2).toNat = Y at *
  generalize stand p 0 l = here at *
  cases here with
  | nil => exact absurd rfl hne
  | cons x here =>
    simp [nlV, nlH] at h1
    cases Y with
    | nil =>
      left
      simp [nvV, nvH] at h2
      simp [ir34, ir34_c, h1, h2]
    | cons y Y =>
      right
      simp [nvV, nvH] at h2
      simp [ir34, ir34_c, h1, h2]
end Go.Proofs.Ytdgfpjlmpnfcgaa.Ev

namespace Go.Proofs.Ytdgfpjlmpnfcgaa.Ev
open Go
set_option linter.unusedVariables false
set_option linter.unusedSimpArgs false
attribute [local simp] til_getE til_length til_get til_drop til_take til_snoc til_fold take_snoc til_replicate til_set
end Go.Proofs.Ytdgfpjlmpnfcgaa.Ev

namespace Go.Proofs.Ytdgfpjlmpnfcgaa.Ev
open Go
set_option linter.unusedVariables false
set_option linter.unusedSimpArgs false
attribute [local simp] til_getE til_length til_get til_drop til_take til_snoc til_fold take_snoc til_replicate til_set
def voysAll (a : Nat) (b c : Int) (x : List Int × Int) : List (Int × List Int) := voysS a b c x.1 x.2 0 (c + 2).toNat
def okP (a : Nat) (c : Int) (x : List Int × Int) : Prop := x.1.length = 2 * a ∧ x.2 ∈ x.1 ∧ ∀ y ∈ x.1, 0 ≤ y ∧ y ≤ c + 1

end Go.Proofs.Ytdgfpjlmpnfcgaa.Ev

namespace Go.Proofs.Ytdgfpjlmpnfcgaa.Ev
open Go
set_option linter.unusedVariables false
set_option linter.unusedSimpArgs false
attribute [local simp] til_getE til_length til_get til_drop til_take til_snoc til_fold take_snoc til_replicate til_set
theorem voysAll_len {a : Nat} {b c : Int} (hgd : good a b c = true) {x : List Int × Int} (hx : okP a c x) : (voysAll a b c x).length ≤ 2 ^ 10 := by
  have hgo := good_of hgd
  have hsl := stand_length x.2 x.1 0
  have hgn := grps_len b (stand x.2 0 x.1) []
  have hp2 : 2 ^ (stand x.2 0 x.1).length ≤ 2 ^ 6 := Nat.pow_le_pow_right (by decide) (by have := hx.1; omega)
  have : ∀ d i, (voysS a b c x.1 x.2 i d).length ≤ d * 2 ^ 6 := by
    intro d
    induction d with
    | zero => intro i; simp [voysS]
    | succ d ih =>
      intro i
      have h1 : voysS a b c x.1 x.2 i (d + 1) = cans a b c x.1 x.2 i (grps b (stand x.2 0 x.1) []) ++ voysS a b c x.1 x.2 (i + 1) d := by simp [voysS, List.range'_succ]
      have h2 : (cans a b c x.1 x.2 i (grps b (stand x.2 0 x.1) [])).length ≤ (grps b (stand x.2 0 x.1) []).length := by
        simp only [cans, List.length_map]; exact List.length_filter_le _ _
      have h3 := ih (i + 1)
      rw [h1, List.length_append]; omega
  have h := this (c + 2).toNat 0
  unfold voysAll
  omega

end Go.Proofs.Ytdgfpjlmpnfcgaa.Ev

namespace Go.Proofs.Ytdgfpjlmpnfcgaa.Ev
open Go
set_option linter.unusedVariables false
set_option linter.unusedSimpArgs false
attribute [local simp] til_getE til_length til_get til_drop til_take til_snoc til_fold take_snoc til_replicate til_set
end Go.Proofs.Ytdgfpjlmpnfcgaa.Ev

namespace Go.Proofs.Ytdgfpjlmpnfcgaa.Ev
open Go
set_option linter.unusedVariables false
set_option linter.unusedSimpArgs false
attribute [local simp] til_getE til_length til_get til_drop til_take til_snoc til_fold take_snoc til_set
theorem wu64 {n : Int} (h : 0 ≤ n ∧ n ≤ 18446744073709551615) : IntKind.u64.wrap n = n := IntWalk.u64_in n h
theorem and32 (y : Nat) (h : y < 2 ^ 32) : andI .u64 (y : Int) 4294967295 = y := by
  unfold andI
  have h1 : (BitVec.ofInt IntKind.u64.bits (y : Int) &&& BitVec.ofInt IntKind.u64.bits 4294967295).toNat = y := by
    show (BitVec.ofInt 64 (y : Int) &&& BitVec.ofInt 64 ((4294967295 : Nat) : Int)).toNat = y
    rw [BitVec.toNat_and, BitVec.toNat_ofInt, BitVec.toNat_ofInt]
    have e2001 : ((y : Int) % ((2 ^ 64 : Nat) : Int)).toNat = y := by omega
    have e2002 : (((4294967295 : Nat) : Int) % ((2 ^ 64 : Nat) : Int)).toNat = 2 ^ 32 - 1 := by decide
    rw [e2001, e2002, Nat.and_two_pow_sub_one_eq_mod, Nat.mod_eq_of_lt h]
  rw [h1]
  exact wu64 (by omega)
theorem shr32 (y : Nat) (h : y < 2 ^ 32) : shrI .u64 (y : Int) 32 = 0 := by
  unfold shrI
  show (y : Int).fdiv (2 ^ (min 32 64)) = 0
  rw [Int.fdiv_eq_ediv_of_nonneg _ (by decide)]
  show (y : Int) / 4294967296 = 0
  omega
theorem r88 (y : Nat) (h : y < 2 ^ 31) : ownR env 88 [.int .u64 1, .int .u64 y] = some (.tup [.t (.int .u64 0), .t (.int .u64 y)], []) := by
  rw [own_ir e88 _ rfl]
  have a1 := and32 y (by omega)
  have a2 := and32 1 (by omega)
  have a3 := shr32 y (by omega)
  have a4 := shr32 1 (by omega)
  have a5 := and32 0 (by omega)
  have a6 := shr32 0 (by omega)
  simp at a2 a4 a5 a6
  have w1001 : IntKind.u64.wrap (y : Int) = y := wu64 (by omega)
  have w1000 : IntKind.u64.wrap 0 = 0 := wu64 (by omega)
  simp [ir88, ir88_c, a1, a2, a3, a4, a5, a6, w1001, w1000]
theorem r86 (y : Nat) (h : y < 2 ^ 31) : ownR env 86 [.int .u64 1, .int .u64 y] = some (.tup [.t (.int .u64 0), .t (.int .u64 y)], []) := by
  rw [own_ir e86 _ rfl]
  simp [ir86, ir86_c, r88 y h]
theorem l76 (v : Int) (n : Nat) (hn : n ≤ 2 ^ 20) : ∀ (d c : Nat), n - c ≤ d → 0 < c → c ≤ n →
    loopF env true [7, 8] ir76_b0 ([(7, .ref 0 0 n), (8, .t (ti c))], [.pure 1 (til (List.replicate c v ++ List.replicate (n - c) 0))]) =
      some (.exit 0, [(7, .ref 0 0 n), (8, .t (ti n)), (34, .t (ti n)), (35, .ref 0 0 n), (36, .t (ti n)), (37, .t (tb false))], [.pure 1 (til (List.replicate n v))])
  | d, c, hd, hc, hcn => by
    rw [x76_0]
    by_cases hlt : c < n
    · obtain ⟨d, rfl⟩ : ∃ e, d = e + 1 := ⟨d - 1, by omega⟩
      have ih := l76 v n hn d (min (2 * c) n) (by omega) (by omega) (by omega)
      have hw : IntKind.i64.wrap ((c : Int) + ((min c (n - c) : Nat) : Int)) = ((min (2 * c) n : Nat) : Int) := by rw [w76 (by omega)]; omega
      have ht : (List.replicate c v ++ List.replicate (n - c) 0).take c = List.replicate c v := by
        rw [List.take_append_of_le_length (by simp)]; simp
      generalize hM : min (2 * c) n = M at *
      have e2001 : c + min (n - c) c = M := by omega
      have hd2 : (List.replicate c v ++ List.replicate (n - c) 0).drop M = List.replicate (n - M) 0 := by
        rw [List.drop_append, List.drop_of_length_le (by simp; omega)]
        simp
        omega
      simp [ir76_d0, hlt, show c ≤ n by omega, ht, hw, e2001, hd2, ih]
    · have : c = n := by omega
      subst this
      simp [ir76_d0]
theorem r76 (v : Int) (n : Nat) (hn0 : 0 < n) (hn : n ≤ 2 ^ 20) : ownR env 76 [tl [v], ti n] = some (.ref 0 0 n, [.pure 1 (til (List.replicate n v))]) := by
  rw [own_ir e76 _ rfl]
  have h46 := r86 n (by omega)
  have w1001 : IntKind.u64.wrap (n : Int) = n := wu64 (by omega)
  have w1002 : IntKind.u64.wrap 1 = 1 := wu64 (by omega)
  have w1003 : IntKind.i64.wrap (n : Int) = n := w76 (by omega)
  have hl := l76 v n hn (n - 1) 1 (by omega) (by omega) (by omega)
  rw [show List.replicate 1 v = [v] from rfl] at hl
  simp only [Int.natCast_one] at hl
  have htk : List.take n [v] = [v] := List.take_of_length_le (by simp; omega)
  have htl : (til (List.replicate n 0)).tail = til (List.replicate (n - 1) 0) := by simp [til]
  simp only [List.singleton_append] at hl
  simp [ir76, ir76_c, htl, show min 1 n = 1 by omega, show min n 1 = 1 by omega, htk, h46, w1001, w1002, w1003, show ¬ ((n : Int) < 0) by omega, show ¬ (9223372036854775807 < (n : Int)) by omega, show (n : Int) ≤ 68719476736 by omega, hl, til_flat, til_replicate]
end Go.Proofs.Ytdgfpjlmpnfcgaa.Ev

namespace Go.Proofs.Ytdgfpjlmpnfcgaa.Ev
open Go
set_option linter.unusedVariables false
set_option linter.unusedSimpArgs false
attribute [local simp] til_getE til_length til_get til_drop til_take til_snoc til_fold take_snoc til_set
end Go.Proofs.Ytdgfpjlmpnfcgaa.Ev

namespace Go.Proofs.Ytdgfpjlmpnfcgaa.Ev
open Go
set_option linter.unusedVariables false
set_option linter.unusedSimpArgs false
attribute [local simp] til_getE til_length til_get til_drop til_take til_snoc til_fold take_snoc til_set
end Go.Proofs.Ytdgfpjlmpnfcgaa.Ev

namespace Go.Proofs.Ytdgfpjlmpnfcgaa.Ev
open Go
set_option linter.unusedVariables false
set_option linter.unusedSimpArgs false
attribute [local simp] til_getE til_length til_get til_drop til_take til_snoc til_fold take_snoc til_set
structure CbIn (H : Heap) (iw is it io k : Nat) (a b c : Int) (l : List Int) (p t : Int) (vs : List (Int × List Int)) : Prop where
  w : H[iw]? = some (.box 3 [.t (ti a), .t (ti b), .t (ti c)])
  s : H[is]? = some (.box 2 [.t (tl l), .t (ti p)])
  t : H[it]? = some (.box 1 [.t (ti t)])
  o : H[io]? = some (.box 1 [.ref k 0 vs.length])
  v : H[k]? = some (.pure 2 (tlv vs))

theorem get_app2 {α : Type} {H X : List α} {i : Nat} {b : α} (h : H[i]? = some b) : (H ++ X)[i]? = some b := by
  rw [List.getElem?_append_left (List.getElem?_eq_some_iff.1 h).1]; exact h
theorem d59 (H : Heap) (iw is it io k : Nat) (a b c : Int) (hc : 0 ≤ c ∧ c ≤ 2) (l : List Int) (hl : l.length ≤ 100) (p t : Int) (vs : List (Int × List Int)) (hvs : vs.length ≤ 2 ^ 30) (h : CbIn H iw is it io k a b c l p t vs) (g : List Int) (hg : g.length ≤ 100) (hk : ∀ x ∈ g, 0 ≤ x ∧ x < l.length) :
    ∃ v H' k', den env 59 [.t (tl g), .ptr iw 0 0, .ptr is 0 0, .ptr it 0 0, .ptr io 0 0] H = some (v, H') ∧ H.length ≤ H'.length ∧ (k' = k ∨ H.length ≤ k') ∧ CbIn H' iw is it io k' a b c l p t (if calmI g g && calmP c (setAll t g l) then vs ++ [(t, g)] else vs) ∧ ∀ id, id < H.length → id ≠ io → id ≠ k → H'[id]? = H[id]? := by
  rw [den_ir e59 _ _ rfl (.inl rfl)]
  have h34 := r60 g (by omega)
  cases h1 : calmI g g with
  | false =>
    refine ⟨.tup [], H, k, ?_, Nat.le_refl _, .inl rfl, h, fun _ _ _ _ => rfl⟩
    simp [ir59, ir59_c, h34, h1]
  | true =>
    have h22 := r43 l g p t (by omega) (by omega) hk
    have hsl := setAll_length t g l
    have h35 := r35 a b c hc t (setAll t g l) (by rw [setAll_length]; omega)
    have htk : (setAll t g l).take l.length = setAll t g l := List.take_of_length_le (by omega)
    have ho : ∀ X, (H ++ X)[io]? = some (.box 1 [.ref k 0 vs.length]) := fun X => get_app2 h.o
    have ht : ∀ X, (H ++ X)[it]? = some (.box 1 [.t (ti t)]) := fun X => get_app2 h.t
    have hv : ∀ X, (H ++ X)[k]? = some (.pure 2 (tlv vs)) := fun X => get_app2 h.v
    generalize setAll t g l = L at *
    cases h2 : calmP c L with
    | false =>
      refine ⟨.tup [], H ++ [.pure 1 (til L)], k, ?_, by simp, .inl rfl, ⟨get_app2 h.w, get_app2 h.s, get_app2 h.t, get_app2 h.o, get_app2 h.v⟩, fun id hid _ _ => get_app hid⟩
      simp [ir59, ir59_c, h34, h1, h.w, h.s, h.t, h22, h35, htk, h2]
    | true =>
      have hne : k ≠ io := fun e => by have := h.o; rw [← e, h.v] at this; cases this
      have hkl := (List.getElem?_eq_some_iff.1 h.v).1
      have hiol := (List.getElem?_eq_some_iff.1 h.o).1
      have hio : ∀ X Y, ((H ++ X).set k .dead ++ Y)[io]? = some (.box 1 [.ref k 0 vs.length]) := fun X Y => get_app2 (by rw [List.getElem?_set_ne hne]; exact ho X)
      refine ⟨.tup [], ((H ++ [Blk.pure 1 (til L), Blk.pure 2 [.agg [.int .i64 t, .lst 1 (til g)]]]).set k Blk.dead ++ [Blk.pure 2 (tlv (vs ++ [(t, g)]))]).set io (.box 1 [.ref (H.length + 2) 0 (vs.length + 1)]), H.length + 2, ?_, by simp; omega, .inr (by omega), ?_, fun id hid h1 h2 => ?_⟩
      · simp [ir59, ir59_c, h34, h1, h.w, h.s, h.t, h22, h35, htk, h2, ho, ht, hv, tlv_length, tlv_take, show vs.length + 1 ≤ 68719476736 by omega, hio, tlv_snoc]
      · have keep : ∀ {id : Nat} {x : Blk}, H[id]? = some x → id ≠ io → id ≠ k → (((H ++ [Blk.pure 1 (til L), Blk.pure 2 [.agg [.int .i64 t, .lst 1 (til g)]]]).set k Blk.dead ++ [Blk.pure 2 (tlv (vs ++ [(t, g)]))]).set io (.box 1 [.ref (H.length + 2) 0 (vs.length + 1)]))[id]? = some x := fun {id x} hx n1 n2 => by
          rw [List.getElem?_set_ne (Ne.symm n1)]
          exact get_app2 (by rw [List.getElem?_set_ne (Ne.symm n2)]; exact get_app2 hx)
        simp only [h1, Bool.and_self, if_true]
        have hw1 : iw ≠ io := fun e => by have := h.o; rw [← e, h.w] at this; cases this
        have hw2 : iw ≠ k := fun e => by have := h.v; rw [← e, h.w] at this; cases this
        have hs1 : is ≠ io := fun e => by have := h.o; rw [← e, h.s] at this; cases this
        have hs2 : is ≠ k := fun e => by have := h.v; rw [← e, h.s] at this; cases this
        have ht1 : it ≠ io := fun e => by have := h.o; rw [← e, h.t] at this; cases this
        have ht2 : it ≠ k := fun e => by have := h.v; rw [← e, h.t] at this; cases this
        refine ⟨keep h.w hw1 hw2, keep h.s hs1 hs2, keep h.t ht1 ht2, ?_, ?_⟩
        · rw [List.getElem?_set_self (by simp; omega)]; simp
        · rw [List.getElem?_set_ne (by omega), List.getElem?_append_right (by simp)]
          simp
      · rw [List.getElem?_set_ne (Ne.symm h1), List.getElem?_append_left (by simp; omega), List.getElem?_set_ne (Ne.symm h2), get_app hid]
end Go.Proofs.Ytdgfpjlmpnfcgaa.Ev

namespace Go.Proofs.Ytdgfpjlmpnfcgaa.Ev
open Go
set_option linter.unusedVariables false
set_option linter.unusedSimpArgs false
attribute [local simp] til_getE til_length til_get til_drop til_take til_snoc til_fold take_snoc til_set
def raP (v : V) (p : List V × List (Nat × Blk)) : Option (List V × List (Nat × Blk)) := some (v :: p.1, p.2)
@[simp] theorem raP_eq (v : V) (vs : List V) (l : List (Nat × Blk)) : raP v (vs, l) = some (v :: vs, l) := rfl
def raQ (H : Heap) (vs : List V) (q : T × List (Nat × Blk)) : Option (List V × List (Nat × Blk)) := andO (callM.rdArgs H vs) (fun p => some (.t q.1 :: p.1, q.2 ++ p.2))
@[simp] theorem raQ_eq (H : Heap) (vs : List V) (t : T) (l : List (Nat × Blk)) : raQ H vs (t, l) = andO (callM.rdArgs H vs) (fun p => some (.t t :: p.1, l ++ p.2)) := rfl
@[simp] theorem ra_nil (H : Heap) : callM.rdArgs H [] = some ([], []) := rfl
@[simp] theorem ra_ptr (H : Heap) (i j c : Nat) (vs : List V) : callM.rdArgs H (.ptr i j c :: vs) = andO (callM.rdArgs H vs) (raP (.ptr i j c)) := by
  simp only [callM.rdArgs]; cases callM.rdArgs H vs <;> rfl
@[simp] theorem ra_map (H : Heap) (i : Nat) (vs : List V) : callM.rdArgs H (.map i :: vs) = andO (callM.rdArgs H vs) (raP (.map i)) := by
  simp only [callM.rdArgs]; cases callM.rdArgs H vs <;> rfl
@[simp] theorem ra_clo (H : Heap) (f : FuncId) (a b : List V) (vs : List V) : callM.rdArgs H (.clo f a b :: vs) = andO (callM.rdArgs H vs) (raP (.clo f a b)) := by
  simp only [callM.rdArgs]; cases callM.rdArgs H vs <;> rfl
@[simp] theorem ra_t (H : Heap) (x : T) (vs : List V) : callM.rdArgs H (.t x :: vs) = andO (callM.rdArgs H vs) (raP (.t x)) := by
  simp only [callM.rdArgs, depth_eq, r_t6]; cases callM.rdArgs H vs <;> rfl
@[simp] theorem ra_ref (H : Heap) (i o n : Nat) (vs : List V) : callM.rdArgs H (.ref i o n :: vs) = andO (rd H 6 (.ref i o n)) (raQ H vs) := by
  simp only [callM.rdArgs, depth_eq]
  cases rd H 6 (.ref i o n) with
  | none => rfl
  | some p => simp only [andO_some, raQ]; cases callM.rdArgs H vs <;> rfl
@[simp] theorem ra_agg (H : Heap) (x : List V) (vs : List V) : callM.rdArgs H (.agg x :: vs) = andO (rd H 6 (.agg x)) (raQ H vs) := by
  simp only [callM.rdArgs, depth_eq]
  cases rd H 6 (.agg x) with
  | none => rfl
  | some p => simp only [andO_some, raQ]; cases callM.rdArgs H vs <;> rfl
@[simp] theorem refC2_some (g : List V → Heap → Option (V × Heap)) (H : Heap) (as : List V) (l : List (Nat × Blk)) : refC2 g H (some (as, l)) = g as (frz H l) := rfl
structure Steps (f : FuncId) (ps : List V) (Inv : List (List Int) → (Nat → Prop) → Heap → Prop) (ok : List Int → Prop) (M : Nat) : Prop where
  call : ∀ (i o n : Nat) (H : Heap), evCall env (den env) f (.ref i o n :: ps) H = refC2 (den env f) H (andO (rd H 6 (.ref i o n)) (raQ H ps))
  ra : ∀ H, callM.rdArgs H ps = some (ps, [])
  step : ∀ gs W H g, gs.length < M → ok g → Inv gs W H → ∃ v H' W', den env f (.t (tl g) :: ps) H = some (v, H') ∧ H.length ≤ H'.length ∧ Inv (gs ++ [g]) W' H' ∧ (∀ id, W' id → W id ∨ H.length ≤ id) ∧ (∀ id, id < H.length → ¬ W id → H'[id]? = H[id]?)
  stable : ∀ gs W H H', Inv gs W H → H.length ≤ H'.length → (∀ id, W id → H'[id]? = H[id]?) → Inv gs W H'
  small : ∀ gs W H, Inv gs W H → ∀ id, W id → id < H.length

theorem cloneB (B : T) (l : List Int) (hB : B = .nil ∧ l = [] ∨ B = tl l) (h : l.length ≤ 68719476736) : primR (cloneP 1) [B] = some (.ref 0 0 l.length, [.pure 1 (til l)]) := by
  rcases hB with ⟨rfl, rfl⟩ | rfl
  · simp [primR_E, primE, cloneP, til]
  · exact clone_til l h
theorem lenB (H : Heap) (B : T) (l : List Int) (hB : B = .nil ∧ l = [] ∨ B = tl l) : evLen H 1 (.t B) = some (l.length : Int) := by
  rcases hB with ⟨rfl, rfl⟩ | rfl <;> simp
end Go.Proofs.Ytdgfpjlmpnfcgaa.Ev

namespace Go.Proofs.Ytdgfpjlmpnfcgaa.Ev
open Go
set_option linter.unusedVariables false
set_option linter.unusedSimpArgs false
attribute [local simp] til_getE til_length til_get til_drop til_take til_snoc til_fold take_snoc til_set
structure Ext (W W' : Nat → Prop) (H H' : Heap) : Prop where
  len : H.length ≤ H'.length
  own : ∀ id, W' id → W id ∨ H.length ≤ id
  keep : ∀ id, id < H.length → ¬ W id → H'[id]? = H[id]?
theorem Ext.trans {W W' W'' : Nat → Prop} {H H' H'' : Heap} (h : Ext W W' H H') (h' : Ext W' W'' H' H'') : Ext W W'' H H'' := by
  refine ⟨Nat.le_trans h.len h'.len, fun id hid => ?_, fun id hid hn => ?_⟩
  · rcases h'.own id hid with h1 | h1
    · exact h.own id h1
    · exact .inr (Nat.le_trans h.len h1)
  · rw [h'.keep id (Nat.lt_of_lt_of_le hid h.len) (fun hw => by
      rcases h.own id hw with h1 | h1
      · exact hn h1
      · omega)]
    exact h.keep id hid hn
theorem Ext.app {W : Nat → Prop} {H : Heap} (X : Heap) : Ext W W H (H ++ X) := ⟨by simp, fun id h => .inl h, fun id hid _ => get_app hid⟩
theorem Ext.get {W W' : Nat → Prop} {H H' : Heap} (h : Ext W W' H H') {id : Nat} {b : Blk} (hb : H[id]? = some b) (hn : ¬ W id) : H'[id]? = some b := by
  rw [h.keep id (List.getElem?_eq_some_iff.1 hb).1 hn]; exact hb
theorem Ext.not {W W' : Nat → Prop} {H H' : Heap} (h : Ext W W' H H') {id : Nat} (hid : id < H.length) (hn : ¬ W id) : ¬ W' id := fun hw => by
  rcases h.own id hw with h1 | h1
  · exact hn h1
  · omega
@[simp] theorem set_app0 {α : Type} (H : List α) (a b : α) (X : List α) : (H ++ a :: X).set H.length b = H ++ b :: X := by simp
@[simp] theorem set_app1 {α : Type} (H : List α) (a a1 b : α) (X : List α) : (H ++ a :: a1 :: X).set (H.length + 1) b = H ++ a :: b :: X := by simp
@[simp] theorem set_app2 {α : Type} (H : List α) (a a1 a2 b : α) (X : List α) : (H ++ a :: a1 :: a2 :: X).set (H.length + 2) b = H ++ a :: a1 :: b :: X := by simp
def Ends (r : Option Out) (e : Ex) (H : Heap) : Prop := ∃ fr, r = some (e, fr, H)
@[simp] theorem ends_some (e e' : Ex) (fr : Fr) (H H' : Heap) : Ends (some (e, fr, H)) e' H' ↔ e = e' ∧ H = H' := by
  constructor
  · rintro ⟨_, h⟩; cases h; exact ⟨rfl, rfl⟩
  · rintro ⟨rfl, rfl⟩; exact ⟨_, rfl⟩
structure GB (H : Heap) (ip im ie io : Nat) (people : List Int) (most : Int) (f : FuncId) (ps : List V) : Prop where
  p : H[ip]? = some (.box 1 [.t (tl people)])
  m : H[im]? = some (.box 1 [.t (ti most)])
  e : H[ie]? = some (.box 1 [.clo f [] ps])
  o : H[io]? = some (.box 1 [.clo 81 [] [.ptr ip 0 0, .ptr im 0 0, .ptr ie 0 0, .ptr io 0 0]])
theorem GB.ext {H H' : Heap} {ip im ie io : Nat} {people : List Int} {most : Int} {f : FuncId} {ps : List V} (h : GB H ip im ie io people most f ps) {W W' : Nat → Prop} (he : Ext W W' H H') (h1 : ¬ W ip) (h2 : ¬ W im) (h3 : ¬ W ie) (h4 : ¬ W io) : GB H' ip im ie io people most f ps :=
  ⟨he.get h.p h1, he.get h.m h2, he.get h.e h3, he.get h.o h4⟩

section
variable {f : FuncId} {ps : List V} {Inv : List (List Int) → (Nat → Prop) → Heap → Prop} {ok : List Int → Prop} {M : Nat} (hs : Steps f ps Inv ok M) (ip im ie io : Nat) (people : List Int) (most : Int)
def Stp (r : Option (V × Heap)) (gs new : List (List Int)) (W : Nat → Prop) (H : Heap) : Prop := ∃ v H' W', r = some (v, H') ∧ Inv (gs ++ new) W' H' ∧ Ext W W' H H'
include hs in
theorem l81 (hpl : people.length ≤ 20) (hm : most ≤ 100) (l : List Int) (B : T) (hB : B = .nil ∧ l = [] ∨ B = tl l) (hl : (l.length : Int) ≤ 1000) (i0 : Nat)
    (hok : ∀ g ∈ grps most (people.drop i0) l, ok g)
    (ih : (l.length : Int) < most → ∀ (j : Nat), i0 ≤ j → (hj : j < people.length) → (∀ g ∈ grps most (people.drop (j + 1)) (l ++ [people[j]]), ok g) → ∀ gs W H, gs.length + (grps most (people.drop (j + 1)) (l ++ [people[j]])).length ≤ M → GB H ip im ie io people most f ps → ¬ W ip → ¬ W im → ¬ W ie → ¬ W io → Inv gs W H →
      Stp (Inv := Inv) (den env 81 [.t (ti ((j : Int) + 1)), .t (tl (l ++ [people[j]])), .ptr ip 0 0, .ptr im 0 0, .ptr ie 0 0, .ptr io 0 0] H) gs (grps most (people.drop (j + 1)) (l ++ [people[j]])) W H) :
    ∀ (d j : Nat) gs W H, j + d = people.length → i0 ≤ j → (∀ g ∈ grps most (people.drop j) l, ok g) → gs.length + (grps most (people.drop j) l).length ≤ M → GB H ip im ie io people most f ps → ¬ W ip → ¬ W im → ¬ W ie → ¬ W io → Inv gs W H →
    ∃ H' W', Ends (loopF env false [1, 2, 3, 4, 5, 8] ir81_b0 ([(1, .t B), (2, .ptr ip 0 0), (3, .ptr im 0 0), (4, .ptr ie 0 0), (5, .ptr io 0 0), (8, .t (ti j))], H)) (.exit 0) H' ∧ Inv (gs ++ grps most (people.drop j) l) W' H' ∧ Ext W W' H H'
  | 0, j, gs, W, H, hj, hi0, hok2, hM, hG, h1, h2, h3, h4, hI => by
    have : j = people.length := by omega
    subst this
    rw [x81_0]
    refine ⟨H, W, ?_, by simpa [grps] using hI, by simpa using Ext.app (W := W) (H := H) []⟩
    simp [ir81_d0, hG.p, hG.m]
  | d + 1, j, gs, W, H, hj, hi0, hok2, hM, hG, h1, h2, h3, h4, hI => by
    rw [x81_0]
    have hlt : j < people.length := by omega
    have hlen := fun H => lenB H B l hB
    by_cases hlm : (l.length : Int) < most
    · have hw : IntKind.i64.wrap ((j : Int) + 1) = (j : Int) + 1 := w76 (by omega)
      have hcl := cloneB B l hB (by omega)
      have hg : grps most (people.drop j) l = (l ++ [people[j]]) :: (grps most (people.drop (j + 1)) (l ++ [people[j]]) ++ grps most (people.drop (j + 1)) l) := by
        rw [List.drop_eq_getElem_cons hlt]; simp [grps, hlm]
      rw [hg] at hok2 hM ⊢
      simp only [List.length_cons, List.length_append] at hM
      have hsm := hs.small gs W H hI
      have hI1 : Inv gs W (H ++ [.dead, .pure 1 [.int .i64 people[j]], .froz 1 (til (l ++ [people[j]]))]) := hs.stable gs W H _ hI (by simp) (fun id hid => get_app (hsm id hid))
      obtain ⟨v, H2, W2, hc, hlen2, hI2, ho2, hk2⟩ := hs.step gs W _ _ (by omega) (hok2 _ (List.mem_cons_self ..)) hI1
      have hE1 : Ext W W H (H ++ [.dead, .pure 1 [.int .i64 people[j]], .froz 1 (til (l ++ [people[j]]))]) := Ext.app _
      have hE2 : Ext W W2 (H ++ [.dead, .pure 1 [.int .i64 people[j]], .froz 1 (til (l ++ [people[j]]))]) H2 := ⟨hlen2, ho2, hk2⟩
      have hE := hE1.trans hE2
      have hz : H2[H.length + 2]? = some (.froz 1 (til (l ++ [people[j]]))) := hE2.get (by simp) (fun hw => by have := hsm _ hw; omega)
      have hG2 := hG.ext hE h1 h2 h3 h4
      have hip := (List.getElem?_eq_some_iff.1 hG.p).1
      have him := (List.getElem?_eq_some_iff.1 hG.m).1
      have hie := (List.getElem?_eq_some_iff.1 hG.e).1
      have hio := (List.getElem?_eq_some_iff.1 hG.o).1
      obtain ⟨v3, H3, W3, hc3, hI3, hE3⟩ := ih hlm j hi0 hlt (fun g hg => hok2 g (List.mem_cons_of_mem _ (List.mem_append_left _ hg))) _ W2 H2 (by simp only [List.length_append, List.length_singleton]; omega) hG2 (hE.not hip h1) (hE.not him h2) (hE.not hie h3) (hE.not hio h4) hI2
      have hE4 := hE.trans hE3
      have hG3 := hG.ext hE4 h1 h2 h3 h4
      obtain ⟨H4, W4, ⟨fr', hc4⟩, hI4, hE5⟩ := l81 hpl hm l B hB hl i0 hok ih d (j + 1) _ W3 H3 (by omega) (by omega) (fun g hg => hok2 g (List.mem_cons_of_mem _ (List.mem_append_right _ hg))) (by simp only [List.length_append, List.length_singleton]; omega) hG3 (hE4.not hip h1) (hE4.not him h2) (hE4.not hie h3) (hE4.not hio h4) hI3
      refine ⟨H4, W4, ?_, by simpa using hI4, hE4.trans hE5⟩
      have gp := get_app2 (X := [.dead, .pure 1 [.int .i64 people[j]]]) hG.p
      have hpX : ∀ X, (H ++ X)[ip]? = some (.box 1 [.t (tl people)]) := fun X => get_app2 hG.p
      have heX : ∀ X, (H ++ X)[ie]? = some (.box 1 [.clo f [] ps]) := fun X => get_app2 hG.e
      simp at hc hc3 hc4 hz
      simp [ir81_d0, show l.length ≤ 68719476735 by omega, hG.p, hG.m, hlt, hlen, hlm, hcl, hpX, heX, hw, hs.call, hs.ra, hc, hz, hG2.o, hc3, hc4]
    · have hg : grps most (people.drop j) l = [] := grps_full _ _ _ hlm
      rw [hg]
      refine ⟨H, W, ?_, by simpa using hI, by simpa using Ext.app (W := W) (H := H) []⟩
      simp [ir81_d0, hG.p, hG.m, hlt, hlen, hlm]
include hs in
theorem d81 (hpl : people.length ≤ 20) (hm : most ≤ 100) : ∀ (d i : Nat) (l : List Int) (B : T), i + d = people.length → (B = .nil ∧ l = [] ∨ B = tl l) → (l.length : Int) ≤ 1000 - d → (∀ g ∈ grps most (people.drop i) l, ok g) → ∀ gs W H, gs.length + (grps most (people.drop i) l).length ≤ M → GB H ip im ie io people most f ps → ¬ W ip → ¬ W im → ¬ W ie → ¬ W io → Inv gs W H →
    Stp (Inv := Inv) (den env 81 [.t (ti i), .t B, .ptr ip 0 0, .ptr im 0 0, .ptr ie 0 0, .ptr io 0 0] H) gs (grps most (people.drop i) l) W H := by
  intro d
  induction d using Nat.strongRecOn with
  | ind d ih =>
    intro i l B hi hB hl hok gs W H hM hG h1 h2 h3 h4 hI
    obtain ⟨H', W', ⟨fr, hr⟩, hI', hE⟩ := l81 hs ip im ie io people most hpl hm l B hB (by omega) i hok (fun hlm j hij hj hok' gs W H hM hG h1 h2 h3 h4 hI => by
      have := ih (people.length - (j + 1)) (by omega) (j + 1) (l ++ [people[j]]) (tl (l ++ [people[j]])) (by omega) (.inr rfl) (by rw [List.length_append, List.length_singleton]; omega) hok' gs W H hM hG h1 h2 h3 h4 hI
      rw [Int.natCast_add, Int.natCast_one] at this
      exact this) d i gs W H hi (Nat.le_refl _) hok hM hG h1 h2 h3 h4 hI
    refine ⟨.tup [], H', W', ?_, hI', hE⟩
    rw [den_ir e81 _ _ rfl (.inl rfl)]
    simp [ir81, ir81_c, hr]
theorem d58 {f : FuncId} {caps : List V} (people : List Int) (most : Int) (hs : Steps f caps Inv ok M) (hpl : people.length ≤ 20) (hm : most ≤ 100) (hok : ∀ g ∈ grps most people [], ok g) (gs : List (List Int)) (W : Nat → Prop) (H : Heap) (hM : gs.length + (grps most people []).length ≤ M) (hI : Inv gs W H) :
    Stp (Inv := Inv) (den env 58 [.t (tl people), .t (ti most), .clo f [] caps] H) gs (grps most people []) W H := by
  have hsm := hs.small gs W H hI
  have hn : ∀ k, ¬ W (H.length + k) := fun k hw => by have := hsm _ hw; omega
  have hI1 := hs.stable gs W H (H ++ [.box 1 [.t (tl people)], .box 1 [.t (ti most)], .box 1 [.clo f [] caps], .box 1 [.clo 81 [] [.ptr H.length 0 0, .ptr (H.length + 1) 0 0, .ptr (H.length + 2) 0 0, .ptr (H.length + 3) 0 0]]]) hI (by simp) (fun id hid => get_app (hsm id hid))
  obtain ⟨v, H', W', hr, hI', hE⟩ := d81 hs H.length (H.length + 1) (H.length + 2) (H.length + 3) people most hpl hm people.length 0 [] .nil (by omega) (.inl ⟨rfl, rfl⟩) (by simp; omega) hok gs W _ hM ⟨by simp, by simp, by simp, by simp⟩ (hn 0) (hn 1) (hn 2) (hn 3) hI1
  refine ⟨.tup [], H', W', ?_, hI', (Ext.app _).trans hE⟩
  rw [den_ir e58 _ _ rfl (.inl rfl)]
  simp at hr
  simp [ir58, ir58_c, hr]
end
end Go.Proofs.Ytdgfpjlmpnfcgaa.Ev

namespace Go.Proofs.Ytdgfpjlmpnfcgaa.Ev
open Go
set_option linter.unusedVariables false
set_option linter.unusedSimpArgs false
attribute [local simp] til_getE til_length til_get til_drop til_take til_snoc til_fold take_snoc til_set
def cansP (c : Int) (l : List Int) (t : Int) (gl : List (List Int)) : List (Int × List Int) := (gl.filter fun g => calmI g g && calmP c (setAll t g l)).map fun g => (t, g)
theorem cansP_len (c : Int) (l : List Int) (t : Int) (gl : List (List Int)) : (cansP c l t gl).length ≤ gl.length := by simp [cansP]; exact List.length_filter_le _ _
theorem cansP_snoc (c : Int) (l : List Int) (t : Int) (gl : List (List Int)) (g : List Int) (vs : List (Int × List Int)) : vs ++ cansP c l t (gl ++ [g]) = if calmI g g && calmP c (setAll t g l) then (vs ++ cansP c l t gl) ++ [(t, g)] else vs ++ cansP c l t gl := by
  unfold cansP
  rw [List.filter_append, List.map_append]
  split <;> simp_all
def InvV (iw is it io : Nat) (a b c : Int) (l : List Int) (p t : Int) (vs : List (Int × List Int)) (gs : List (List Int)) (W : Nat → Prop) (H : Heap) : Prop :=
  ∃ k, CbIn H iw is it io k a b c l p t (vs ++ cansP c l t gs) ∧ ∀ id, W id ↔ (id = iw ∨ id = is ∨ id = it ∨ id = io ∨ id = k)
theorem CbIn.lt {H : Heap} {iw is it io k : Nat} {a b c : Int} {l : List Int} {p t : Int} {vs : List (Int × List Int)} (h : CbIn H iw is it io k a b c l p t vs) : iw < H.length ∧ is < H.length ∧ it < H.length ∧ io < H.length ∧ k < H.length :=
  ⟨(List.getElem?_eq_some_iff.1 h.w).1, (List.getElem?_eq_some_iff.1 h.s).1, (List.getElem?_eq_some_iff.1 h.t).1, (List.getElem?_eq_some_iff.1 h.o).1, (List.getElem?_eq_some_iff.1 h.v).1⟩
theorem stepsV (iw is it io : Nat) (a b c : Int) (hc : 0 ≤ c ∧ c ≤ 2) (l : List Int) (hl : l.length ≤ 100) (p t : Int) (vs : List (Int × List Int)) (hvs : vs.length ≤ 2 ^ 25) :
    Steps 59 [.ptr iw 0 0, .ptr is 0 0, .ptr it 0 0, .ptr io 0 0] (InvV iw is it io a b c l p t vs) (fun g => g.length ≤ 100 ∧ ∀ x ∈ g, 0 ≤ x ∧ x < l.length) (2 ^ 20) := by
  refine ⟨fun i o n H => by simp, fun H => by simp, ?_, ?_, ?_⟩
  · rintro gs W H g hM ⟨hg, hk⟩ ⟨k, hI, hW⟩
    have := cansP_len c l t gs
    obtain ⟨v, H', k', h1, h2, h3, h4, h5⟩ := d59 H iw is it io k a b c hc l hl p t _ (by rw [List.length_append]; omega) hI g hg hk
    rw [← cansP_snoc] at h4
    refine ⟨v, H', fun id => (id = iw ∨ id = is ∨ id = it ∨ id = io ∨ id = k'), h1, h2, ⟨k', h4, fun id => Iff.rfl⟩, fun id hid => ?_, fun id hid hn => ?_⟩
    · rw [hW]
      rcases hid with h | h | h | h | h
      · simp [h]
      · simp [h]
      · simp [h]
      · simp [h]
      · rcases h3 with h3 | h3
        · left; simp [h, h3]
        · right; omega
    · rw [hW] at hn
      exact h5 id hid (fun e => hn (by simp [e])) (fun e => hn (by simp [e]))
  · rintro gs W H H' ⟨k, hI, hW⟩ hlen hk
    exact ⟨k, ⟨(hk _ ((hW _).2 (by simp))).trans hI.w, (hk _ ((hW _).2 (by simp))).trans hI.s, (hk _ ((hW _).2 (by simp))).trans hI.t, (hk _ ((hW _).2 (by simp))).trans hI.o, (hk _ ((hW _).2 (by simp))).trans hI.v⟩, hW⟩
  · rintro gs W H ⟨k, hI, hW⟩ id hid
    have := hI.lt
    rcases (hW id).1 hid with h | h | h | h | h <;> omega

def voysP (b c : Int) (l : List Int) (p : Int) (i d : Nat) : List (Int × List Int) := (List.range' i d).flatMap fun t : Nat => if (t : Int) = p then [] else cansP c l (t : Int) (grps b (stand p 0 l) [])
theorem stand_in (p : Int) : ∀ (xs : List Int) (i : Nat), ∀ x ∈ stand p i xs, (i : Int) ≤ x ∧ x < ((i + xs.length : Nat) : Int)
  | [], i, x, h => by simp [stand] at h
  | y :: ys, i, x, h => by
    simp only [stand] at h
    have ih := stand_in p ys (i + 1) x
    split at h
    · rcases List.mem_cons.1 h with rfl | h
      · simp; omega
      · have := ih h; simp at this ⊢; omega
    · have := ih h; simp at this ⊢; omega
theorem grps_sub (most : Int) : ∀ (rest l g : List Int), g ∈ grps most rest l → ∀ x ∈ g, x ∈ l ∨ x ∈ rest
  | [], _, g, h => by simp [grps] at h
  | y :: rest, l, g, h => by
    intro x hx
    simp only [grps] at h
    split at h
    · rcases List.mem_cons.1 h with rfl | h
      · rcases List.mem_append.1 hx with h | h
        · exact .inl h
        · right; simp at h; simp [h]
      · rcases List.mem_append.1 h with h | h
        · rcases grps_sub most rest _ g h x hx with h | h
          · rcases List.mem_append.1 h with h | h
            · exact .inl h
            · right; simp at h; simp [h]
          · right; exact List.mem_cons_of_mem _ h
        · rcases grps_sub most rest _ g h x hx with h | h
          · exact .inl h
          · right; exact List.mem_cons_of_mem _ h
    · cases h
theorem stand_len (p : Int) : ∀ (xs : List Int) (i : Nat), (stand p i xs).length ≤ xs.length
  | [], i => by simp [stand]
  | y :: ys, i => by
    simp only [stand]
    have := stand_len p ys (i + 1)
    split <;> simp <;> omega
theorem l32 (a b c : Int) (hb : b ≤ 3) (hc : 0 ≤ c ∧ c ≤ 2) (l : List Int) (hl : l.length ≤ 9) (p : Int) : ∀ (d i : Nat) (out : List (Int × List Int)) (B : Blk) (hB : B = .pure 1 (til (stand p 0 l)) ∨ B = .froz 1 (til (stand p 0 l))), ((i + d : Nat) : Int) = c + 2 → out.length + 1024 * d ≤ 2 ^ 20 →
    ∃ B', loopF env true [2, 3, 5, 6, 15, 16] ir32_b0 ([(2, .ptr 0 0 0), (3, .ptr 1 0 0), (5, .ptr 2 0 0), (6, .ref 3 0 (stand p 0 l).length), (15, .t (ti (c + 2))), (16, .t (ti i))], [.box 3 [.t (ti a), .t (ti b), .t (ti c)], .box 2 [.t (tl l), .t (ti p)], .box 1 [.ref 4 0 out.length], B, .pure 2 (tlv out)]) =
      some (.exit 0, [(2, .ptr 0 0 0), (3, .ptr 1 0 0), (5, .ptr 2 0 0), (6, .ref 3 0 (stand p 0 l).length), (15, .t (ti (c + 2))), (16, .t (ti (c + 2))), (17, .t (tb false))], [.box 3 [.t (ti a), .t (ti b), .t (ti c)], .box 2 [.t (tl l), .t (ti p)], .box 1 [.ref 4 0 (out ++ voysP b c l p i d).length], B', .pure 2 (tlv (out ++ voysP b c l p i d))])
  | 0, i, out, B, hB, hi, ho => by
    rw [x32_0]
    have hlt : (i : Int) = c + 2 := by omega
    refine ⟨B, ?_⟩
    simp [ir32_d0, voysP, hlt]
  | d + 1, i, out, B, hB, hi, ho => by
    rw [x32_0]
    have hlt : (i : Int) < c + 2 := by omega
    have hw : IntKind.i64.wrap ((i : Int) + 1) = (i : Int) + 1 := w76 (by omega)
    have hv : voysP b c l p i (d + 1) = (if (i : Int) = p then [] else cansP c l (i : Int) (grps b (stand p 0 l) [])) ++ voysP b c l p (i + 1) d := by
      simp [voysP, List.range'_succ]
    by_cases hp : (i : Int) = p
    · obtain ⟨B', ih⟩ := l32 a b c hb hc l hl p d (i + 1) out B hB (by omega) (by omega)
      refine ⟨B', ?_⟩
      rw [hv, if_pos hp, List.nil_append]
      generalize voysP b c l p (i + 1) d = V1 at *
      simp at ih
      subst hp
      rcases hB with rfl | rfl <;> simp [ir32_d0, hlt, hw, ih]
    · have hst := stand_len p l 0
      have hsl := stand_in p l 0
      have hgl := grps_len b (stand p 0 l) []
      have hp2 : 2 ^ (stand p 0 l).length ≤ 2 ^ 9 := Nat.pow_le_pow_right (by decide) (by omega)
      have hcl := cansP_len c l i (grps b (stand p 0 l) [])
      obtain ⟨v, H', W', hr, ⟨k, hI, hW⟩, hE⟩ := d58 (stand p 0 l) b (stepsV 0 1 5 2 a b c hc l (by omega) p i out (by omega)) (by omega) (by omega) (fun g hg => by
        have h1 := grps_lens b (stand p 0 l) [] g hg
        refine ⟨by omega, fun x hx => ?_⟩
        rcases grps_sub b (stand p 0 l) [] g hg x hx with h | h
        · cases h
        · have := hsl x h; simp at this; omega) [] (fun id => id = 0 ∨ id = 1 ∨ id = 5 ∨ id = 2 ∨ id = 4)
        [.box 3 [.t (ti a), .t (ti b), .t (ti c)], .box 2 [.t (tl l), .t (ti p)], .box 1 [.ref 4 0 out.length], .froz 1 (til (stand p 0 l)), .pure 2 (tlv out), .box 1 [.t (ti i)]] (by simp; omega) ⟨4, ⟨rfl, rfl, rfl, by simp [cansP], by simp [cansP]⟩, fun id => Iff.rfl⟩
      have h3 : H'[3]? = some (.froz 1 (til (stand p 0 l))) := by rw [hE.keep 3 (by simp) (by simp)]; rfl
      obtain ⟨B', ih⟩ := l32 a b c hb hc l hl p d (i + 1) (out ++ cansP c l i (grps b (stand p 0 l) [])) _ (.inr rfl) (by omega) (by rw [List.length_append]; omega)
      refine ⟨B', ?_⟩
      rw [hv, if_neg hp]
      rw [List.nil_append] at hI
      have hk0 : k ≠ 0 := fun e => by have := hI.w; rw [← e, hI.v] at this; cases this
      have hk1 : k ≠ 1 := fun e => by have := hI.s; rw [← e, hI.v] at this; cases this
      have hk2 : k ≠ 2 := fun e => by have := hI.o; rw [← e, hI.v] at this; cases this
      have hk3 : k ≠ 3 := fun e => by rw [← e, hI.v] at h3; cases h3
      have hIw := hI.w
      have hIs := hI.s
      have hIo := hI.o
      have hIv := hI.v
      rw [← List.append_assoc]
      generalize cansP c l i (grps b (stand p 0 l) []) = G1 at *
      generalize voysP b c l p (i + 1) d = V1 at *
      simp at ih hr hIo hIv
      rcases hB with rfl | rfl <;> simp [ir32_d0, hlt, hp, hw, hr, hIw, hIs, hIo, hIv, h3, hk0, hk1, hk2, hk3, hk0.symm, hk1.symm, hk2.symm, hk3.symm, ih]
theorem r32 (a b c : Int) (hb : b ≤ 3) (hc : 0 ≤ c ∧ c ≤ 2) (l : List Int) (hl : l.length ≤ 9) (p : Int) : ownFR env 32 [.agg [ti a, ti b, ti c], .agg [tl l, ti p]] = some (.ref 0 0 (voysP b c l p 0 (c + 2).toNat).length, [.pure 2 (tlv (voysP b c l p 0 (c + 2).toNat))]) := by
  rw [ownF_ir e32 _ rfl]
  have h58 := r57 l p p (by omega)
  have h49 := r51 a b c (by omega)
  have hw2 : IntKind.i64.wrap (c + 1 + 1) = c + 2 := by rw [w76 (by omega)]; omega
  obtain ⟨B', h⟩ := l32 a b c hb hc l hl p (c + 2).toNat 0 [] _ (.inl rfl) (by omega) (by simp; omega)
  generalize voysP b c l p 0 (c + 2).toNat = V1 at *
  simp [tlv] at h
  simp [ir32, ir32_c, h58, h49, hw2, h, tlv]
end Go.Proofs.Ytdgfpjlmpnfcgaa.Ev

namespace Go.Proofs.Ytdgfpjlmpnfcgaa.Ev
open Go
set_option linter.unusedVariables false
set_option linter.unusedSimpArgs false
attribute [local simp] til_getE til_length til_get til_drop til_take til_snoc til_fold take_snoc til_set
end Go.Proofs.Ytdgfpjlmpnfcgaa.Ev

namespace Go.Proofs.Ytdgfpjlmpnfcgaa.Ev
open Go
set_option linter.unusedVariables false
set_option linter.unusedSimpArgs false
attribute [local simp] til_getE til_length til_get til_drop til_take til_snoc til_fold take_snoc til_set
def tin (l : List Nat) : List T := l.map fun (n : Nat) => T.int .i64 (n : Int)
theorem tin_length (l : List Nat) : (tin l).length = l.length := by simp [tin]
theorem tin_getE (l : List Nat) (i : Nat) (h : i < (tin l).length) : (tin l)[i] = .int .i64 (l[i]'(by simpa [tin] using h) : Nat) := by simp [tin]
theorem tin_take (l : List Nat) (n : Nat) : (tin l).take n = tin (l.take n) := by simp [tin, List.map_take]
abbrev Ed := Nat × Nat × Int × List Int
def tleN (es : List Ed) : List T := es.map fun e => .agg [.int .i64 e.1, .int .i64 e.2.1, .int .i64 e.2.2.1, .lst 1 (til e.2.2.2)]
theorem tleN_length (es : List Ed) : (tleN es).length = es.length := by simp [tleN]
theorem tleN_getE (es : List Ed) (i : Nat) (h : i < (tleN es).length) : (tleN es)[i] = .agg [.int .i64 (es[i]'(by simpa [tleN] using h)).1, .int .i64 (es[i]'(by simpa [tleN] using h)).2.1, .int .i64 (es[i]'(by simpa [tleN] using h)).2.2.1, .lst 1 (til (es[i]'(by simpa [tleN] using h)).2.2.2)] := by simp [tleN]
variable {i2 i5 i6 : Nat} {many : Int} {clo : T} {dist : List Int} {ws : List (List Nat)} {Vs : List V} {H : Heap}
end Go.Proofs.Ytdgfpjlmpnfcgaa.Ev

namespace Go.Proofs.Ytdgfpjlmpnfcgaa.Ev
open Go
set_option linter.unusedVariables false
set_option linter.unusedSimpArgs false
attribute [local simp] til_getE til_length til_get til_drop til_take til_snoc til_fold take_snoc til_set
def elVB (sz off len : Nat) (b : Blk) : Option (List V) := match b with
  | .box s vs => if s = sz then some ((vs.drop (off * sz)).take (len * sz)) else none
  | _ => none
@[simp] theorem elVB_b (sz off len s : Nat) (vs : List V) : elVB sz off len (.box s vs) = if s = sz then some ((vs.drop (off * sz)).take (len * sz)) else none := rfl
@[simp] theorem elV_ref (H : Heap) (sz id off len : Nat) : elemsV H sz (.ref id off len) = andO H[id]? (elVB sz off len) := by
  simp only [elemsV]
  cases H[id]? with
  | none => rfl
  | some b => cases b <;> rfl
def appMB (H : Heap) (sz id len : Nat) (ys : List V) (b : Blk) : Option (V × Heap) := match b with
  | .box s vs => if s = sz ∧ len * sz = vs.length ∧ ys.length % sz = 0 ∧ vs.length + ys.length ≤ lim ∧ ys.all V.one ∧ 0 < ys.length then some (.ref H.length 0 (len + ys.length / sz), H.set id .dead ++ [.box sz (vs ++ ys)]) else none
  | _ => none
@[simp] theorem appMB_b (H : Heap) (sz id len : Nat) (ys : List V) (s : Nat) (vs : List V) : appMB H sz id len ys (.box s vs) = if s = sz ∧ len * sz = vs.length ∧ ys.length % sz = 0 ∧ vs.length + ys.length ≤ lim ∧ ys.all V.one ∧ 0 < ys.length then some (.ref H.length 0 (len + ys.length / sz), H.set id .dead ++ [.box sz (vs ++ ys)]) else none := rfl
def appMV (H : Heap) (sz : Nat) (x : V) (ys : List V) : Option (V × Heap) := match x with
  | .ref id 0 len => andO H[id]? (appMB H sz id len ys)
  | _ => none
@[simp] theorem appMV_r (H : Heap) (sz id len : Nat) (ys : List V) : appMV H sz (.ref id 0 len) ys = andO H[id]? (appMB H sz id len ys) := rfl
@[simp] theorem appM_eq (H : Heap) (sz : Nat) (x y : V) : evAppM H sz x y = andO (elemsV H sz y) (appMV H sz x) := by
  unfold evAppM
  cases elemsV H sz y with
  | none => rfl
  | some ys =>
    simp only [andO_some]
    cases x with
    | ref id off len =>
      cases off with
      | zero =>
        simp only [appMV]
        cases H[id]? with
        | none => rfl
        | some b => cases b <;> rfl
      | succ n => rfl
    | _ => rfl
@[simp] theorem o_appM {E : Env} {rec : Rec} {fr : Fr} {H : Heap} (sz : Nat) (x y : A) : evO E rec fr H (.app true sz x y) = evAppM H sz (x.ev fr) (y.ev fr) := rfl
def bslM (H : Heap) (sz n : Nat) (vs : List V) : Option (V × Heap) := some (.ref H.length 0 n, H ++ [.box sz vs])
@[simp] theorem bslM_eq (H : Heap) (sz n : Nat) (vs : List V) : bslM H sz n vs = some (.ref H.length 0 n, H ++ [.box sz vs]) := rfl
@[simp] theorem o_bslM {E : Env} {rec : Rec} {fr : Fr} {H : Heap} (sz n : Nat) (z : T) (ps : List (Nat × A)) : evO E rec fr H (.bsl true sz n z ps) = andO (fillV (List.replicate n (z.cells.map V.t)).flatten (ps.map fun p => (p.1 * sz, sz, p.2.ev fr))) (bslM H sz n) := by
  simp only [evO]; cases fillV (List.replicate n (z.cells.map V.t)).flatten (ps.map fun p => (p.1 * sz, sz, p.2.ev fr)) <;> rfl

variable {i2 i5 : Nat} {many : Int} {clo : T} {dist : List Int}
end Go.Proofs.Ytdgfpjlmpnfcgaa.Ev

namespace Go.Proofs.Ytdgfpjlmpnfcgaa.Ev
open Go
set_option linter.unusedVariables false
set_option linter.unusedSimpArgs false
attribute [local simp] til_getE til_length til_get til_drop til_take til_snoc til_fold take_snoc til_set tin_getE tin_length tin_take
variable {i2 i5 i6 : Nat} {many : Int} {clo : T} {dist : List Int} {ws : List (List Nat)} {Vs : List V} {H : Heap}
end Go.Proofs.Ytdgfpjlmpnfcgaa.Ev

namespace Go.Proofs.Ytdgfpjlmpnfcgaa.Ev
open Go
set_option linter.unusedVariables false
set_option linter.unusedSimpArgs false
attribute [local simp] til_getE til_length til_get til_drop til_take til_snoc til_fold take_snoc til_set tin_getE tin_length tin_take tleN_length tleN_getE
variable {i2 i5 : Nat} {many : Int} {clo : T} {dist : List Int}
end Go.Proofs.Ytdgfpjlmpnfcgaa.Ev

namespace Go.Proofs.Ytdgfpjlmpnfcgaa.Ev
open Go
set_option linter.unusedVariables false
set_option linter.unusedSimpArgs false
attribute [local simp] til_getE til_length til_get til_drop til_take til_snoc til_fold take_snoc til_set tin_getE tin_length tin_take tleN_length tleN_getE
structure OkG (N C D : Nat) (P : Nat → Prop) (out : Nat → List Ed) : Prop where
  lt : ∀ s, P s → s < N
  deg : ∀ s, P s → (out s).length ≤ D
  ed : ∀ s, P s → ∀ e ∈ out s, P e.1 ∧ 1 ≤ e.2.1 ∧ e.2.1 ≤ C
variable {i2 i5 i6 : Nat} {many : Int} {clo : T} {dist : List Int} {ws : List (List Nat)} {Vs : List V} {H : Heap}
end Go.Proofs.Ytdgfpjlmpnfcgaa.Ev

namespace Go.Proofs.Ytdgfpjlmpnfcgaa.Ev
open Go
set_option linter.unusedVariables false
set_option linter.unusedSimpArgs false
attribute [local simp] til_getE til_length til_get til_drop til_take til_snoc til_fold take_snoc til_set tin_getE tin_length tin_take tleN_length tleN_getE
variable {i2 i5 : Nat} {many : Int}
end Go.Proofs.Ytdgfpjlmpnfcgaa.Ev

namespace Go.Proofs.Ytdgfpjlmpnfcgaa.Ev
open Go
set_option linter.unusedVariables false
set_option linter.unusedSimpArgs false
attribute [local simp] til_getE til_length til_get til_drop til_take til_snoc til_fold take_snoc til_set tin_getE tin_length tin_take tleN_length tleN_getE
variable {i2 i5 : Nat} {many : Int}
end Go.Proofs.Ytdgfpjlmpnfcgaa.Ev

namespace Go.Proofs.Ytdgfpjlmpnfcgaa.Ev
open Go
set_option linter.unusedVariables false
set_option linter.unusedSimpArgs false
attribute [local simp] til_getE til_length til_get til_drop til_take til_snoc til_fold take_snoc til_set tin_getE tin_length tin_take tleN_length tleN_getE
end Go.Proofs.Ytdgfpjlmpnfcgaa.Ev

namespace Go.Proofs.Ytdgfpjlmpnfcgaa.Ev
open Go
set_option linter.unusedVariables false
set_option linter.unusedSimpArgs false
def Calm (a : Nat) (t : Nat → Prop) : Prop := ¬ ((∃ i, i < a ∧ t (2 * i + 1) ∧ ¬ t (2 * i)) ∧ ∃ j, j < a ∧ t (2 * j))
theorem Calm_congr {a : Nat} {t u : Nat → Prop} (h : ∀ j, j < 2 * a → (t j ↔ u j)) : Calm a t ↔ Calm a u := by
  unfold Calm
  constructor
  · rintro h1 ⟨⟨i, hi, h2, h3⟩, j, hj, h4⟩
    exact h1 ⟨⟨i, hi, (h _ (by omega)).2 h2, fun h5 => h3 ((h _ (by omega)).1 h5)⟩, j, hj, (h _ (by omega)).2 h4⟩
  · rintro h1 ⟨⟨i, hi, h2, h3⟩, j, hj, h4⟩
    exact h1 ⟨⟨i, hi, (h _ (by omega)).1 h2, fun h5 => h3 ((h _ (by omega)).2 h5)⟩, j, hj, (h _ (by omega)).1 h4⟩
theorem calmI_iff (a : Nat) (ha : a ≤ 1000000) (g : List Int) (hp : ∀ x ∈ g, 0 ≤ x ∧ x < 2 * (a : Int)) : calmI g g = true ↔ Calm a fun j => (j : Int) ∈ g := by
  unfold calmI Calm
  rw [List.all_eq_true]
  have e : ∀ x ∈ g, ((decide (x.tmod 2 = 0) || decide (IntKind.i64.wrap (x - 1) ∈ g) || !decide (∃ y ∈ g, y.tmod 2 = 0)) = true ↔ (x % 2 = 0 ∨ x - 1 ∈ g ∨ ¬ ∃ y ∈ g, y % 2 = 0)) := fun x hx => by
    have hx2 := hp x hx
    rw [w76 (n := x - 1) (by omega), Int.tmod_eq_emod_of_nonneg hx2.1]
    have : (∃ y ∈ g, y.tmod 2 = 0) ↔ (∃ y ∈ g, y % 2 = 0) := by
      constructor <;> rintro ⟨y, hy, h⟩ <;> refine ⟨y, hy, ?_⟩
      · rwa [Int.tmod_eq_emod_of_nonneg (hp y hy).1] at h
      · rwa [Int.tmod_eq_emod_of_nonneg (hp y hy).1]
    simp only [this, Bool.or_eq_true, decide_eq_true_eq, Bool.not_eq_true', decide_eq_false_iff_not]
    rw [or_assoc]
  constructor
  · rintro h ⟨⟨i, hi, h3, h4⟩, j, hj, h5⟩
    rcases (e _ h3).1 (h _ h3) with h | h | h
    · omega
    · exact h4 (show ((2 * i : Nat) : Int) ∈ g by rw [show ((2 * i : Nat) : Int) = ((2 * i + 1 : Nat) : Int) - 1 by omega]; exact h)
    · exact h ⟨_, h5, by omega⟩
  · intro h x hx
    rw [e x hx]
    by_cases h6 : x % 2 = 0
    · exact .inl h6
    · by_cases h7 : x - 1 ∈ g
      · exact .inr (.inl h7)
      · refine .inr (.inr ?_)
        rintro ⟨y, hy, h8⟩
        have hx2 := hp x hx
        have hy2 := hp y hy
        refine h ⟨⟨(x / 2).toNat, by omega, ?_, ?_⟩, (y / 2).toNat, by omega, ?_⟩
        · show ((2 * (x / 2).toNat + 1 : Nat) : Int) ∈ g
          rw [show ((2 * (x / 2).toNat + 1 : Nat) : Int) = x by omega]; exact hx
        · show ¬ ((2 * (x / 2).toNat : Nat) : Int) ∈ g
          rw [show ((2 * (x / 2).toNat : Nat) : Int) = x - 1 by omega]; exact h7
        · show ((2 * (y / 2).toNat : Nat) : Int) ∈ g
          rw [show ((2 * (y / 2).toNat : Nat) : Int) = y by omega]; exact hy
theorem cuB_iff (a N : Nat) : cuB a N = true ↔ Calm a fun j => N.testBit j = true := by
  have b4 : ∀ i, (N / 2 ^ (2 * i) % 4 = 2) ↔ (N.testBit (2 * i + 1) = true ∧ ¬ N.testBit (2 * i) = true) := fun i => by
    rw [Nat.testBit_eq_decide_div_mod_eq, Nat.testBit_eq_decide_div_mod_eq, Nat.pow_succ, ← Nat.div_div_eq_div_mul]
    generalize N / 2 ^ (2 * i) = q
    simp only [decide_eq_true_eq]
    omega
  have b2 : ∀ i, (N / 2 ^ (2 * i) % 2 = 1) ↔ N.testBit (2 * i) = true := fun i => by
    rw [Nat.testBit_eq_decide_div_mod_eq, decide_eq_true_eq]
  have hX : (List.range' 0 a).any (fun i => decide (N / 2 ^ (2 * i) % 4 = 2)) = true ↔ ∃ i, i < a ∧ N.testBit (2 * i + 1) = true ∧ ¬ N.testBit (2 * i) = true := by
    rw [List.any_eq_true]
    constructor
    · rintro ⟨i, hi, h⟩
      rw [List.mem_range'_1] at hi
      exact ⟨i, by omega, (b4 i).1 (by simpa using h)⟩
    · rintro ⟨i, hi, h⟩
      exact ⟨i, by rw [List.mem_range'_1]; omega, by simpa using (b4 i).2 h⟩
  have hY : (List.range' 0 a).any (fun j => decide (N / 2 ^ (2 * j) % 2 = 1)) = true ↔ ∃ j, j < a ∧ N.testBit (2 * j) = true := by
    rw [List.any_eq_true]
    constructor
    · rintro ⟨i, hi, h⟩
      rw [List.mem_range'_1] at hi
      exact ⟨i, by omega, (b2 i).1 (by simpa using h)⟩
    · rintro ⟨i, hi, h⟩
      exact ⟨i, by rw [List.mem_range'_1]; omega, by simpa using (b2 i).2 h⟩
  unfold cuB Calm
  rw [← hX, ← hY, ← Bool.and_eq_true, Bool.not_eq_true', Bool.not_eq_true]
theorem bitsI_test (j : Nat) : ∀ (g : List Int) (N : Nat), (bitsI g N).testBit j = true ↔ N.testBit j = true ∨ ∃ k ∈ g, k.toNat = j
  | [], N => by simp [bitsI]
  | k :: g, N => by
    rw [bitsI, bitsI_test j g]
    rw [Nat.testBit_or, Nat.testBit_two_pow, Bool.or_eq_true, decide_eq_true_eq, or_assoc]
    simp only [List.mem_cons, exists_eq_or_imp]
theorem bitsAt_test (p : Int) (j : Nat) : ∀ (xs : List Int) (i N : Nat), (bitsAt p i xs N).testBit j = true ↔ N.testBit j = true ∨ ∃ m, xs[m]? = some p ∧ i + m = j
  | [], i, N => by simp [bitsAt]
  | x :: xs, i, N => by
    rw [bitsAt]
    have key : (∃ m, (x :: xs)[m]? = some p ∧ i + m = j) ↔ (x = p ∧ i = j) ∨ ∃ m, xs[m]? = some p ∧ i + 1 + m = j := by
      constructor
      · rintro ⟨m, h1, h2⟩
        rcases m with _ | m
        · left; simpa using ⟨by simpa using h1, h2⟩
        · right; exact ⟨m, by simpa using h1, by omega⟩
      · rintro (⟨h1, h2⟩ | ⟨m, h1, h2⟩)
        · exact ⟨0, by simpa using h1, h2⟩
        · exact ⟨m + 1, by simpa using h1, by omega⟩
    rw [key]
    split
    · rename_i h
      rw [bitsAt_test p j xs]
      rw [Nat.testBit_or, Nat.testBit_two_pow, Bool.or_eq_true, decide_eq_true_eq, or_assoc]
      simp only [h, true_and]
    · rename_i h
      rw [bitsAt_test p j xs]
      simp [h]
theorem stand_mem (p : Int) (y : Int) : ∀ (xs : List Int) (i : Nat), y ∈ stand p i xs ↔ ∃ m : Nat, xs[m]? = some p ∧ y = ((i + m : Nat) : Int)
  | [], i => by simp [stand]
  | x :: xs, i => by
    rw [stand]
    have key : (∃ m : Nat, (x :: xs)[m]? = some p ∧ y = ((i + m : Nat) : Int)) ↔ (x = p ∧ y = (i : Int)) ∨ ∃ m : Nat, xs[m]? = some p ∧ y = ((i + 1 + m : Nat) : Int) := by
      constructor
      · rintro ⟨m, h1, h2⟩
        rcases m with _ | m
        · left; exact ⟨by simpa using h1, by simpa using h2⟩
        · right; exact ⟨m, by simpa using h1, by rw [h2]; congr 1; omega⟩
      · rintro (⟨h1, h2⟩ | ⟨m, h1, h2⟩)
        · exact ⟨0, by simpa using h1, by simpa using h2⟩
        · exact ⟨m + 1, by simpa using h1, by rw [h2]; congr 1; omega⟩
    rw [key]
    split
    · rename_i h
      rw [List.mem_cons, stand_mem p y xs]; simp [h]
    · rename_i h
      rw [stand_mem p y xs]; simp [h]
theorem calm_eq (a : Nat) (ha : a ≤ 1000) (c : Int) (L : List Int) (hL : L.length = 2 * a) : calmP c L = calmS a c L := by
  unfold calmP calmS
  congr 1
  funext i
  rw [Bool.eq_iff_iff, calmI_iff a (by omega) _ (fun x hx => by have := stand_in i L 0 x hx; omega), cuB_iff]
  refine Calm_congr fun j hj => ?_
  rw [stand_mem, bitsAt_test]
  constructor
  · rintro ⟨m, h1, h2⟩; exact .inr ⟨m, h1, by omega⟩
  · rintro (h | ⟨m, h1, h2⟩)
    · simp at h
    · exact ⟨m, h1, by omega⟩
theorem group_calm (a : Nat) (ha : a ≤ 1000) (g : List Int) (hg : ∀ x ∈ g, 0 ≤ x ∧ x < 2 * (a : Int)) : calmI g g = cuB a (bitsI g 0) := by
  rw [Bool.eq_iff_iff, calmI_iff a (by omega) g hg, cuB_iff]
  refine Calm_congr fun j hj => ?_
  rw [bitsI_test]
  constructor
  · intro h; exact .inr ⟨_, h, by simp⟩
  · rintro (h | ⟨k, h1, h2⟩)
    · simp at h
    · have := hg k h1
      rw [show (j : Int) = k by omega]; exact h1
end Go.Proofs.Ytdgfpjlmpnfcgaa.Ev

namespace Go.Proofs.Ytdgfpjlmpnfcgaa.Ev
open Go
set_option linter.unusedVariables false
set_option linter.unusedSimpArgs false

theorem grps_form (most : Int) : ∀ (rest l g : List Int), g ∈ grps most rest l → ∃ s, g = l ++ s ∧ s ≠ [] ∧ List.Sublist s rest
  | [], _, g, h => by simp [grps] at h
  | x :: rest, l, g, h => by
    simp only [grps] at h
    split at h
    · simp only [List.mem_cons, List.mem_append] at h
      rcases h with rfl | h | h
      · exact ⟨[x], rfl, by simp, List.cons_sublist_cons.2 (List.nil_sublist _)⟩
      · obtain ⟨s, h1, h2, h3⟩ := grps_form most rest (l ++ [x]) g h
        exact ⟨x :: s, by simpa using h1, by simp, List.cons_sublist_cons.2 h3⟩
      · obtain ⟨s, h1, h2, h3⟩ := grps_form most rest l g h
        exact ⟨s, h1, h2, h3.cons x⟩
    · cases h
theorem stand_pair (p : Int) : ∀ (xs : List Int) (i : Nat), (stand p i xs).Pairwise (· < ·)
  | [], i => by simp [stand]
  | x :: xs, i => by
    rw [stand]
    split
    · refine List.pairwise_cons.2 ⟨fun y hy => ?_, stand_pair p xs (i + 1)⟩
      have := stand_in p xs (i + 1) y hy
      omega
    · exact stand_pair p xs (i + 1)
theorem rises_of {a b : Int} {g : List Int} (h : g.Pairwise (· < ·)) (hb : ∀ x ∈ g, a ≤ x ∧ x ≤ b) : risesB a b g = true := by
  unfold risesB
  rw [Bool.and_eq_true, List.all_eq_true, List.all_eq_true]
  refine ⟨fun x hx => (inB_iff _ _ _).2 (hb x hx), fun j hj => ?_⟩
  rw [List.mem_range'_1] at hj
  rcases Nat.eq_zero_or_pos j with h0 | h0
  · simp [h0]
  · have h1 : j < g.length := by omega
    have h2 : j - 1 < g.length := by omega
    rw [List.pairwise_iff_getElem] at h
    have := h (j - 1) j h2 h1 (by omega)
    simp [h1, h2, this]
theorem can_eq (a : Nat) (b c : Int) (hgd : good a b c = true) (l : List Int) (hl : l.length = 2 * a) (p t : Int) (ht : 0 ≤ t ∧ t ≤ c + 1) (htp : t ≠ p) (g : List Int) (hg : g ∈ grps b (stand p 0 l) []) : canB a b c l p t g = (calmI g g && calmP c (setAll t g l)) := by
  have hgo := good_of hgd
  obtain ⟨s, h1, h2, h3⟩ := grps_form b _ _ _ hg
  rw [List.nil_append] at h1
  subst h1
  have hgl := grps_lens b _ _ _ hg
  have hgi : ∀ x ∈ g, 0 ≤ x ∧ x < l.length := fun x hx => by
    have := stand_in p l 0 x (h3.subset hx); simp at this; omega
  have hg0 : 0 < g.length := List.length_pos_iff.2 h2
  have e1001 : inB t 0 (c + 1) = true := (inB_iff _ _ _).2 ht
  have e1002 : inB g.length 1 b = true := (inB_iff _ _ _).2 ⟨by omega, hgl⟩
  have e1003 : risesB 0 (l.length - 1) g = true := rises_of ((stand_pair p l 0).sublist h3) (fun x hx => by have := hgi x hx; omega)
  have e1004 : atB l p g = true := by
    unfold atB
    rw [List.all_eq_true]
    intro k hk
    obtain ⟨m, h4, h5⟩ := (stand_mem p k l 0).1 (h3.subset hk)
    rw [h5, show ((0 + m : Nat) : Int).toNat = m by omega, h4]
    simp
  unfold canB
  rw [e1001, e1002, e1003, e1004, group_calm a (by omega) g (fun x hx => by have := hgi x hx; omega), calm_eq a (by omega) c _ (by rw [setAll_length]; exact hl)]
  simp [htp]
theorem flatMap_eq {α β : Type} {f g : α → List β} : ∀ (l : List α), (∀ x ∈ l, f x = g x) → l.flatMap f = l.flatMap g
  | [], _ => rfl
  | x :: l, h => by rw [List.flatMap_cons, List.flatMap_cons, h x (List.mem_cons_self ..), flatMap_eq l (fun y hy => h y (List.mem_cons_of_mem _ hy))]
theorem voys_eq (a : Nat) (b c : Int) (hgd : good a b c = true) (x : List Int × Int) (hx : okP a c x) : voysP b c x.1 x.2 0 (c + 2).toNat = voysAll a b c x := by
  have hgo := good_of hgd
  unfold voysP voysAll voysS
  refine flatMap_eq _ fun t ht => ?_
  rw [List.mem_range'_1] at ht
  unfold cansP cans
  split
  · rename_i h
    rw [List.filter_eq_nil_iff.2 (fun g hg => by simp [canB, h]), List.map_nil]
  · rename_i h
    rw [List.filter_congr (fun g hg => (can_eq a b c hgd x.1 hx.1 x.2 t (by omega) h g hg).symm)]
end Go.Proofs.Ytdgfpjlmpnfcgaa.Ev

namespace Go.Proofs.Ytdgfpjlmpnfcgaa.Ev
open Go
set_option linter.unusedVariables false
set_option linter.unusedSimpArgs false
section
variable {N C D : Nat} {P : Nat → Prop} {out : Nat → List Ed} (hG : OkG N C D P out) {starts : List Nat} (hs : ∀ x ∈ starts, P x)
end
end Go.Proofs.Ytdgfpjlmpnfcgaa.Ev

namespace Go.Proofs.Ytdgfpjlmpnfcgaa.Ev
open Go
set_option linter.unusedVariables false
set_option linter.unusedSimpArgs false

section
variable {X : Type}
variable [DecidableEq X]
end
end Go.Proofs.Ytdgfpjlmpnfcgaa.Ev

namespace Go.Proofs.Ytdgfpjlmpnfcgaa.Ev
open Go
set_option linter.unusedVariables false
set_option linter.unusedSimpArgs false
set_option linter.unusedSectionVars false

section
variable {X : Type} [DecidableEq X] (sc : X → List X) (cd : X → Nat) (ok : X → Prop) (N : Nat)
variable (s : X)
open Classical in
variable {sc cd ok N s}
end
end Go.Proofs.Ytdgfpjlmpnfcgaa.Ev

namespace Go.Proofs.Ytdgfpjlmpnfcgaa.Ev
open Go
set_option linter.unusedVariables false
set_option linter.unusedSimpArgs false
set_option linter.unusedSectionVars false

section
variable {X : Type} [DecidableEq X] (sc : X → List X) (cd : X → Nat) (ok : X → Prop) (N : Nat) (s : X)
variable {sc cd ok N s}
end
end Go.Proofs.Ytdgfpjlmpnfcgaa.Ev

namespace Go.Proofs.Ytdgfpjlmpnfcgaa.Ev
open Go
set_option linter.unusedVariables false
set_option linter.unusedSimpArgs false
set_option linter.unusedSectionVars false

end Go.Proofs.Ytdgfpjlmpnfcgaa.Ev

namespace Go.Proofs.Ytdgfpjlmpnfcgaa.Ev
open Go
set_option linter.unusedVariables false
set_option linter.unusedSimpArgs false
set_option linter.unusedSectionVars false

end Go.Proofs.Ytdgfpjlmpnfcgaa.Ev

namespace Go.Proofs.Ytdgfpjlmpnfcgaa.Ev
open Go
set_option linter.unusedVariables false
set_option linter.unusedSimpArgs false
set_option linter.unusedSectionVars false

end Go.Proofs.Ytdgfpjlmpnfcgaa.Ev

namespace Go.Proofs.Ytdgfpjlmpnfcgaa.Ev
open Go
set_option linter.unusedVariables false
set_option linter.unusedSimpArgs false
end Go.Proofs.Ytdgfpjlmpnfcgaa.Ev

namespace Go.Proofs.Ytdgfpjlmpnfcgaa.Ev
open Go
set_option linter.unusedVariables false
set_option linter.unusedSimpArgs false
set_option linter.unusedSectionVars false

theorem setAll_get (t : Int) : ∀ (g l : List Int) (m : Nat), m < l.length → (∀ k ∈ g, 0 ≤ k) → (setAll t g l)[m]? = if (m : Int) ∈ g then some t else l[m]?
  | [], l, m, _, _ => by simp [setAll]
  | k :: g, l, m, hm, hg => by
    rw [setAll, setAll_get t g _ m (by simpa using hm) (fun z hz => hg z (List.mem_cons_of_mem _ hz))]
    have hk := hg k (List.mem_cons_self ..)
    by_cases h1 : (m : Int) ∈ g
    · rw [if_pos h1, if_pos (List.mem_cons_of_mem _ h1)]
    · rw [if_neg h1]
      by_cases h2 : (m : Int) = k
      · rw [if_pos (by rw [h2]; exact List.mem_cons_self ..)]
        have : k.toNat = m := by omega
        rw [this, List.getElem?_set_self hm]
      · have : k.toNat ≠ m := by omega
        rw [if_neg (by simp [h1, h2]), List.getElem?_set_ne this]
theorem setAll_back (l : List Int) (p t : Int) (g : List Int) (hg : ∀ k ∈ g, 0 ≤ k ∧ k < l.length) (ha : atB l p g = true) : setAll p g (setAll t g l) = l := by
  refine List.ext_getElem? fun m => ?_
  rcases Nat.lt_or_ge m l.length with h | h
  · rw [setAll_get p g _ m (by rw [setAll_length]; exact h) (fun k hk => (hg k hk).1), setAll_get t g l m h (fun k hk => (hg k hk).1)]
    by_cases h1 : (m : Int) ∈ g
    · rw [if_pos h1]
      unfold atB at ha
      rw [List.all_eq_true] at ha
      have := ha _ h1
      simp only [Int.toNat_natCast, decide_eq_true_eq, List.getElem?_eq_getElem h, Option.getD_some] at this
      rw [List.getElem?_eq_getElem h, this]
    · rw [if_neg h1, if_neg h1]
  · rw [List.getElem?_eq_none h, List.getElem?_eq_none (by rw [setAll_length, setAll_length]; exact h)]
def okC (a : Nat) (c : Int) (x : List Int × Int) : Prop := okP a c x ∧ calmS a c x.1 = true
theorem can_parts {a : Nat} {b c : Int} {l : List Int} {p t : Int} {g : List Int} (h : canB a b c l p t g = true) : (0 ≤ t ∧ t ≤ c + 1) ∧ t ≠ p ∧ (1 ≤ (g.length : Int) ∧ (g.length : Int) ≤ b) ∧ risesB 0 (l.length - 1) g = true ∧ atB l p g = true ∧ cuB a (bitsI g 0) = true ∧ calmS a c (setAll t g l) = true := by
  simp only [canB, Bool.and_eq_true, inB_iff, Bool.not_eq_true', decide_eq_false_iff_not] at h
  obtain ⟨⟨⟨⟨⟨⟨h1, h2⟩, h3⟩, h4⟩, h5⟩, h6⟩, h7⟩ := h
  exact ⟨h1, h2, h3, h4, h5, h6, h7⟩
def allAt (a : Nat) (p : Nat) : List Int × Int := (List.replicate (2 * a) (p : Int), (p : Int))
theorem allAt_ok (a : Nat) (ha : 1 ≤ a) (c : Int) (p : Nat) (hp : (p : Int) ≤ c + 1) : okC a c (allAt a p) := by
  refine ⟨⟨by simp [allAt], ?_, fun y hy => ?_⟩, ?_⟩
  · simp [allAt]; omega
  · simp [allAt] at hy; omega
  · unfold calmS
    rw [List.all_eq_true]
    intro i _
    rw [cuB_iff]
    rintro ⟨⟨i', hi', h3, h4⟩, _⟩
    refine h4 ((bitsAt_test _ _ _ _ _).2 (.inr ?_))
    rcases (bitsAt_test _ _ _ _ _).1 h3 with h | ⟨m, h5, h6⟩
    · simp at h
    · refine ⟨2 * i', ?_, by omega⟩
      simp only [allAt] at h5 ⊢
      have := List.mem_of_getElem? h5
      rw [List.eq_of_mem_replicate this, List.getElem?_replicate, if_pos (by omega)]
end Go.Proofs.Ytdgfpjlmpnfcgaa.Ev

namespace Go.Proofs.Ytdgfpjlmpnfcgaa.Ev
open Go
set_option linter.unusedVariables false
set_option linter.unusedSimpArgs false
set_option linter.unusedSectionVars false
attribute [local simp] til_getE til_length til_get til_drop til_take til_snoc til_fold take_snoc til_set tin_getE tin_length tin_take tleN_length tleN_getE
theorem r49 (a b c p : Int) (ha : 1 ≤ a ∧ a ≤ 10) : ownR env 49 [.agg [ti a, ti b, ti c], ti p] = some (.agg [.ref 0 0 (2 * a).toNat, .t (ti p)], [.pure 1 (til (List.replicate (2 * a).toNat p))]) := by
  rw [own_ir e49 _ rfl]
  have h57 := r66 a b c (by omega)
  obtain ⟨k, rfl⟩ : ∃ k : Nat, a = k := ⟨a.toNat, by omega⟩
  have e : (2 * (k : Int)).toNat = 2 * k := by omega
  have h64 : ownR env 76 [.lst 1 [.int .i64 p], ti (2 * (k : Int))] = some (.ref 0 0 (2 * k), [.pure 1 (til (List.replicate (2 * k) p))]) := by
    have := r76 p (2 * k) (by omega) (by omega)
    rw [show ((2 * k : Nat) : Int) = 2 * (k : Int) by omega] at this
    exact this
  rw [e]
  simp [ir49, ir49_c, h57, h64, til_flat]
end Go.Proofs.Ytdgfpjlmpnfcgaa.Ev

