/- The evaluator and what it gives of the functions, part 3. No conditions of ours: a law's row is in YtanlmanifpknoaaLFnGuardsOver. -/
import Derived.Test.YtanlmanifpknoaaE2
import Derived.IntWalk
namespace Go.Proofs.Ytanlmanifpknoaa.Ev
def ir45_c : C := (.seq (.reg false [] [⟨(some 2), none, (.mv (.k (.int .i64 0)))⟩]) (.seq (.seq (.reg false [] [⟨(some 3), none, (.mv (.v 0))⟩]) (.cond (.v 3) (.seq (.reg false [] [⟨(some 2), none, (.mv (.k (.int .i64 1)))⟩]) .ret) .skip)) (.seq (.reg false [] [⟨(some 2), none, (.mv (.k (.int .i64 0)))⟩]) .ret)))
def ir45 : Fn := ⟨.own, 1, 4, [(.tmp 2)], ir45_c⟩
def ir96_d0 : C := (.seq (.seq (.reg false [] [⟨(some 34), none, (.mv (.v 8))⟩, ⟨(some 35), none, (.mv (.v 7))⟩, ⟨(some 36), none, (.len 1 (.v 35))⟩, ⟨(some 37), none, (.bin .lss .none (.v 34) (.v 36))⟩]) (.cond (.v 37) .skip (.exit 0))) (.block 1 (.reg true [0, 0, 0, 6, 0, 0, 48, 126, 255, 511] [⟨(some 38), none, (.mv (.v 8))⟩, ⟨(some 39), none, (.mv (.v 7))⟩, ⟨(some 40), none, (.mv (.v 8))⟩, ⟨(some 41), none, (.slc 1 (.v 39) (some (.v 40)) none)⟩, ⟨(some 42), none, (.mv (.v 7))⟩, ⟨(some 43), none, (.mv (.v 8))⟩, ⟨(some 44), none, (.slc 1 (.v 42) none (some (.v 43)))⟩, ⟨(some 45), none, (.cpy 1 (.v 41) (.v 44))⟩, ⟨(some 46), none, (.bin .add .none (.v 38) (.v 45))⟩, ⟨(some 8), none, (.mv (.v 46))⟩])))
def ir96_b0 : C := ir96_d0
def ir96_l0 : C := .loop true [7, 8] ir96_b0
def ir96_c : C := (.seq (.reg false [] [⟨(some 4), none, (.mv (.k .nil))⟩]) (.seq (.seq (.reg false [] [⟨(some 9), none, (.mv (.v 1))⟩, ⟨(some 10), none, (.bin .lss .none (.v 9) (.k (.int .i64 0)))⟩]) (.cond (.v 10) (.reg false [] [⟨(some 11), none, .bad⟩, ⟨none, none, .bad⟩]) .skip)) (.seq (.reg false [] [⟨(some 13), none, (.mv (.v 0))⟩, ⟨(some 14), none, (.len 1 (.v 13))⟩, ⟨(some 15), none, (.cnv (.int .u64) (.v 14))⟩, ⟨(some 16), none, (.mv (.v 1))⟩, ⟨(some 17), none, (.cnv (.int .u64) (.v 16))⟩, ⟨(some 18), none, (.call 106 [(.v 15), (.v 17)])⟩, ⟨(some 12), none, (.mv (.v 18))⟩, ⟨(some 19), none, (.ext (.v 12) 0)⟩, ⟨(some 20), none, (.ext (.v 12) 1)⟩, ⟨(some 5), none, (.mv (.v 19))⟩, ⟨(some 6), none, (.mv (.v 20))⟩]) (.seq (.seq (.reg false [] [⟨(some 21), none, (.mv (.v 5))⟩, ⟨(some 22), none, (.bin .gtr .none (.v 21) (.k (.int .u64 0)))⟩, ⟨(some 23), none, (.mv (.v 22))⟩, ⟨(some 24), (some (23, false)), (.mv (.v 6))⟩, ⟨(some 25), (some (23, false)), (.bin .gtr .none (.v 24) (.k (.int .u64 9223372036854775807)))⟩, ⟨(some 26), none, (.pick (.v 23) (.k (.bool true)) (.v 25))⟩]) (.cond (.v 26) (.reg false [] [⟨(some 27), none, .bad⟩, ⟨none, none, .bad⟩]) .skip)) (.seq (.reg false [] [⟨(some 28), none, (.mv (.v 6))⟩, ⟨(some 29), none, (.cnv (.int .i64) (.v 28))⟩, ⟨(some 30), none, (.mks 1 (.int .i64 0) (.v 29) (.v 29))⟩, ⟨(some 7), none, (.mv (.v 30))⟩]) (.seq (.reg false [] [⟨(some 31), none, (.mv (.v 7))⟩, ⟨(some 32), none, (.mv (.v 0))⟩, ⟨(some 33), none, (.cpy 1 (.v 31) (.v 32))⟩, ⟨(some 8), none, (.mv (.v 33))⟩]) (.seq (.block 0 ir96_l0) (.seq (.reg false [] [⟨(some 47), none, (.mv (.v 7))⟩, ⟨(some 4), none, (.mv (.v 47))⟩]) .ret))))))))
def ir96 : Fn := ⟨.own, 2, 48, [(.tmp 4)], ir96_c⟩
def ir106_c : C := (.seq (.reg false [] [⟨(some 4), none, (.mv (.k (.int .u64 0)))⟩, ⟨(some 5), none, (.mv (.k (.int .u64 0)))⟩]) (.seq (.cond (.k (.bool false)) (.seq (.reg false [] [⟨(some 11), none, (.mv (.v 0))⟩, ⟨(some 12), none, (.cnv (.int .u32) (.v 11))⟩, ⟨(some 13), none, (.mv (.v 1))⟩, ⟨(some 14), none, (.cnv (.int .u32) (.v 13))⟩, ⟨(some 15), none, (.call 109 [(.v 12), (.v 14)])⟩, ⟨(some 10), none, (.mv (.v 15))⟩, ⟨(some 16), none, (.ext (.v 10) 0)⟩, ⟨(some 17), none, (.ext (.v 10) 1)⟩, ⟨(some 6), none, (.mv (.v 16))⟩, ⟨(some 7), none, (.mv (.v 17))⟩]) (.seq (.reg false [] [⟨(some 18), none, (.mv (.v 6))⟩, ⟨(some 19), none, (.cnv (.int .u64) (.v 18))⟩, ⟨(some 20), none, (.mv (.v 7))⟩, ⟨(some 21), none, (.cnv (.int .u64) (.v 20))⟩, ⟨(some 4), none, (.mv (.v 19))⟩, ⟨(some 5), none, (.mv (.v 21))⟩]) .ret)) .skip) (.seq (.reg false [] [⟨(some 23), none, (.mv (.v 0))⟩, ⟨(some 24), none, (.mv (.v 1))⟩, ⟨(some 25), none, (.call 110 [(.v 23), (.v 24)])⟩, ⟨(some 22), none, (.mv (.v 25))⟩, ⟨(some 26), none, (.ext (.v 22) 0)⟩, ⟨(some 27), none, (.ext (.v 22) 1)⟩, ⟨(some 8), none, (.mv (.v 26))⟩, ⟨(some 9), none, (.mv (.v 27))⟩]) (.seq (.reg false [] [⟨(some 28), none, (.mv (.v 8))⟩, ⟨(some 29), none, (.mv (.v 9))⟩, ⟨(some 4), none, (.mv (.v 28))⟩, ⟨(some 5), none, (.mv (.v 29))⟩]) .ret))))
def ir106 : Fn := ⟨.own, 2, 30, [(.tmp 4), (.tmp 5)], ir106_c⟩
def ir110_c : C := (.seq (.reg false [] [⟨(some 4), none, (.mv (.k (.int .u64 0)))⟩, ⟨(some 5), none, (.mv (.k (.int .u64 0)))⟩]) (.seq (.reg false [] [⟨(some 14), none, (.mv (.v 0))⟩, ⟨(some 15), none, (.bin .and .none (.v 14) (.k (.int .u64 4294967295)))⟩, ⟨(some 6), none, (.mv (.v 15))⟩]) (.seq (.reg false [] [⟨(some 16), none, (.mv (.v 0))⟩, ⟨(some 17), none, (.bin .shr .none (.v 16) (.k (.int .u64 32)))⟩, ⟨(some 7), none, (.mv (.v 17))⟩]) (.seq (.reg false [] [⟨(some 18), none, (.mv (.v 1))⟩, ⟨(some 19), none, (.bin .and .none (.v 18) (.k (.int .u64 4294967295)))⟩, ⟨(some 8), none, (.mv (.v 19))⟩]) (.seq (.reg false [] [⟨(some 20), none, (.mv (.v 1))⟩, ⟨(some 21), none, (.bin .shr .none (.v 20) (.k (.int .u64 32)))⟩, ⟨(some 9), none, (.mv (.v 21))⟩]) (.seq (.reg false [] [⟨(some 22), none, (.mv (.v 6))⟩, ⟨(some 23), none, (.mv (.v 8))⟩, ⟨(some 24), none, (.bin .mul .none (.v 22) (.v 23))⟩, ⟨(some 10), none, (.mv (.v 24))⟩]) (.seq (.reg false [] [⟨(some 25), none, (.mv (.v 7))⟩, ⟨(some 26), none, (.mv (.v 8))⟩, ⟨(some 27), none, (.bin .mul .none (.v 25) (.v 26))⟩, ⟨(some 28), none, (.mv (.v 10))⟩, ⟨(some 29), none, (.bin .shr .none (.v 28) (.k (.int .u64 32)))⟩, ⟨(some 30), none, (.bin .add .none (.v 27) (.v 29))⟩, ⟨(some 11), none, (.mv (.v 30))⟩]) (.seq (.reg false [] [⟨(some 31), none, (.mv (.v 11))⟩, ⟨(some 32), none, (.bin .and .none (.v 31) (.k (.int .u64 4294967295)))⟩, ⟨(some 12), none, (.mv (.v 32))⟩]) (.seq (.reg false [] [⟨(some 33), none, (.mv (.v 11))⟩, ⟨(some 34), none, (.bin .shr .none (.v 33) (.k (.int .u64 32)))⟩, ⟨(some 13), none, (.mv (.v 34))⟩]) (.seq (.reg false [] [⟨(some 35), none, (.mv (.v 12))⟩, ⟨(some 36), none, (.mv (.v 6))⟩, ⟨(some 37), none, (.mv (.v 9))⟩, ⟨(some 38), none, (.bin .mul .none (.v 36) (.v 37))⟩, ⟨(some 39), none, (.bin .add .none (.v 35) (.v 38))⟩, ⟨(some 12), none, (.mv (.v 39))⟩]) (.seq (.reg false [] [⟨(some 40), none, (.mv (.v 7))⟩, ⟨(some 41), none, (.mv (.v 9))⟩, ⟨(some 42), none, (.bin .mul .none (.v 40) (.v 41))⟩, ⟨(some 43), none, (.mv (.v 13))⟩, ⟨(some 44), none, (.bin .add .none (.v 42) (.v 43))⟩, ⟨(some 45), none, (.mv (.v 12))⟩, ⟨(some 46), none, (.bin .shr .none (.v 45) (.k (.int .u64 32)))⟩, ⟨(some 47), none, (.bin .add .none (.v 44) (.v 46))⟩, ⟨(some 4), none, (.mv (.v 47))⟩]) (.seq (.reg false [] [⟨(some 48), none, (.mv (.v 0))⟩, ⟨(some 49), none, (.mv (.v 1))⟩, ⟨(some 50), none, (.bin .mul .none (.v 48) (.v 49))⟩, ⟨(some 5), none, (.mv (.v 50))⟩]) .ret))))))))))))
def ir110 : Fn := ⟨.own, 2, 51, [(.tmp 4), (.tmp 5)], ir110_c⟩
def ir40_c : C := (.seq (.reg false [] [⟨(some 6), none, (.mv (.k (.bool false)))⟩]) (.seq (.reg false [] [⟨(some 7), none, (.mv (.v 0))⟩, ⟨(some 8), none, (.mv (.v 1))⟩, ⟨(some 9), none, (.bin .geq .none (.v 7) (.v 8))⟩, ⟨(some 10), none, (.mv (.v 9))⟩, ⟨(some 11), (some (10, true)), (.mv (.v 0))⟩, ⟨(some 12), (some (10, true)), (.mv (.v 2))⟩, ⟨(some 13), (some (10, true)), (.bin .leq .none (.v 11) (.v 12))⟩, ⟨(some 14), none, (.pick (.v 10) (.v 13) (.k (.bool false)))⟩, ⟨(some 6), none, (.mv (.v 14))⟩]) .ret))
def ir40 : Fn := ⟨.own, 3, 15, [(.tmp 6)], ir40_c⟩
def ir57_c : C := (.seq (.reg false [] [⟨(some 6), none, (.mv (.k (.bool false)))⟩]) (.seq (.reg false [] [⟨(some 7), none, (.mv (.v 1))⟩, ⟨(some 8), none, (.mv (.v 0))⟩, ⟨(some 9), none, (.bin .leq .none (.v 7) (.v 8))⟩, ⟨(some 10), none, (.mv (.v 9))⟩, ⟨(some 11), (some (10, true)), (.mv (.v 0))⟩, ⟨(some 12), (some (10, true)), (.mv (.v 2))⟩, ⟨(some 13), (some (10, true)), (.bin .leq .none (.v 11) (.v 12))⟩, ⟨(some 14), none, (.pick (.v 10) (.v 13) (.k (.bool false)))⟩, ⟨(some 6), none, (.mv (.v 14))⟩]) .ret))
def ir57 : Fn := ⟨.own, 3, 15, [(.tmp 6)], ir57_c⟩
def ir5_c : C := (.seq (.reg false [] [⟨(some 4), none, (.mv (.k (.bool false)))⟩]) (.seq (.reg false [] [⟨(some 5), none, (.mv (.v 0))⟩, ⟨(some 6), none, (.len 1 (.v 5))⟩, ⟨(some 7), none, (.bin .gtr .none (.v 6) (.k (.int .i64 1048576)))⟩, ⟨(some 8), none, (.mv (.v 7))⟩, ⟨(some 9), (some (8, false)), (.mv (.v 1))⟩, ⟨(some 10), (some (8, false)), (.len 1 (.v 9))⟩, ⟨(some 11), (some (8, false)), (.mv (.v 0))⟩, ⟨(some 12), (some (8, false)), (.len 1 (.v 11))⟩, ⟨(some 13), (some (8, false)), (.bin .sub .none (.k (.int .i64 1048576)) (.v 12))⟩, ⟨(some 14), (some (8, false)), (.bin .gtr .none (.v 10) (.v 13))⟩, ⟨(some 15), none, (.pick (.v 8) (.k (.bool true)) (.v 14))⟩, ⟨(some 4), none, (.mv (.v 15))⟩]) .ret))
def ir5 : Fn := ⟨.own, 2, 16, [(.tmp 4)], ir5_c⟩
def ir43_c : C := (.seq (.reg false [] [⟨(some 4), none, (.mv (.k (.int .i64 0)))⟩]) (.seq (.seq (.reg false [] [⟨(some 6), none, (.mv (.v 1))⟩, ⟨(some 7), none, (.bin .leq .none (.v 6) (.k (.int .i64 1)))⟩]) (.cond (.v 7) (.seq (.reg false [] [⟨(some 4), none, (.mv (.k (.int .i64 0)))⟩]) .ret) .skip)) (.seq (.reg false [] [⟨(some 8), none, (.mv (.v 0))⟩, ⟨(some 9), none, (.call 77 [(.v 8)])⟩, ⟨(some 5), none, (.mv (.v 9))⟩]) (.seq (.seq (.reg false [] [⟨(some 10), none, (.mv (.v 1))⟩, ⟨(some 11), none, (.bin .gtr .none (.v 10) (.k (.int .i64 200)))⟩]) (.cond (.v 11) (.reg false [] [⟨(some 12), none, (.mv (.v 5))⟩, ⟨(some 13), none, (.bin .mul .none (.v 12) (.k (.int .i64 256)))⟩, ⟨(some 14), none, (.mv (.v 0))⟩, ⟨(some 15), none, (.call 77 [(.v 14)])⟩, ⟨(some 16), none, (.bin .add .none (.v 13) (.v 15))⟩, ⟨(some 5), none, (.mv (.v 16))⟩]) .skip)) (.seq (.reg false [] [⟨(some 17), none, (.mv (.v 5))⟩, ⟨(some 18), none, (.mv (.v 1))⟩, ⟨(some 19), none, (.bin .rem .none (.v 17) (.v 18))⟩, ⟨(some 4), none, (.mv (.v 19))⟩]) .ret)))))
def ir43 : Fn := ⟨.ref, 2, 20, [(.tmp 4)], ir43_c⟩
def ir42_c : C := (.seq (.reg false [] [⟨(some 4), none, (.mv (.k (.bool false)))⟩]) (.seq (.reg false [] [⟨(some 5), none, (.mv (.v 0))⟩, ⟨(some 6), none, (.mv (.v 1))⟩, ⟨(some 7), none, (.call 43 [(.v 5), (.v 6)])⟩, ⟨(some 8), none, (.bin .eql .none (.v 7) (.k (.int .i64 0)))⟩, ⟨(some 4), none, (.mv (.v 8))⟩]) .ret))
def ir42 : Fn := ⟨.ref, 2, 9, [(.tmp 4)], ir42_c⟩
def ir77_c : C := (.seq (.reg false [] [⟨(some 2), none, (.mv (.k (.int .i64 0)))⟩]) (.seq (.reg false [] [⟨(some 3), none, (.mv (.k (.int .i64 0)))⟩]) (.seq (.seq (.reg true [0, 1, 3, 7, 0, 16, 48, 112, 240, 511] [⟨(some 4), none, (.mv (.v 0))⟩, ⟨(some 5), none, (.nck (.v 4))⟩, ⟨(some 6), none, (.fad 1 (.v 5))⟩, ⟨(some 7), none, (.ld false 1 (.v 6))⟩, ⟨(some 8), none, (.mv (.v 0))⟩, ⟨(some 9), none, (.nck (.v 8))⟩, ⟨(some 10), none, (.fad 0 (.v 9))⟩, ⟨(some 11), none, (.ld false 1 (.v 10))⟩, ⟨(some 12), none, (.len 1 (.v 11))⟩, ⟨(some 13), none, (.bin .lss .none (.v 7) (.v 12))⟩]) (.cond (.v 13) (.reg true [0, 1, 3, 7, 0, 16, 48, 112, 255, 511, 1023, 2047] [⟨(some 14), none, (.mv (.v 0))⟩, ⟨(some 15), none, (.nck (.v 14))⟩, ⟨(some 16), none, (.fad 0 (.v 15))⟩, ⟨(some 17), none, (.ld false 1 (.v 16))⟩, ⟨(some 18), none, (.mv (.v 0))⟩, ⟨(some 19), none, (.nck (.v 18))⟩, ⟨(some 20), none, (.fad 1 (.v 19))⟩, ⟨(some 21), none, (.ld false 1 (.v 20))⟩, ⟨(some 22), none, (.ixa 1 (.v 17) (.v 21))⟩, ⟨(some 23), none, (.ld false 1 (.v 22))⟩, ⟨(some 24), none, (.cnv (.int .i64) (.v 23))⟩, ⟨(some 3), none, (.mv (.v 24))⟩]) .skip)) (.seq (.reg false [] [⟨(some 25), none, (.mv (.v 0))⟩, ⟨(some 26), none, (.nck (.v 25))⟩, ⟨(some 27), none, (.fad 1 (.v 26))⟩, ⟨(some 28), none, (.ld false 1 (.v 27))⟩, ⟨(some 29), none, (.bin .add .none (.v 28) (.k (.int .i64 1)))⟩, ⟨(some 30), none, (.nck (.v 25))⟩, ⟨(some 31), none, (.fad 1 (.v 30))⟩, ⟨none, none, (.st 1 (.v 31) (.v 29))⟩]) (.seq (.reg false [] [⟨(some 32), none, (.mv (.v 0))⟩, ⟨(some 33), none, (.mv (.v 0))⟩, ⟨(some 34), none, (.nck (.v 33))⟩, ⟨(some 35), none, (.fad 2 (.v 34))⟩, ⟨(some 36), none, (.ld false 1 (.v 35))⟩, ⟨(some 37), none, (.bin .mul .none (.v 36) (.k (.int .u64 6364136223846793005)))⟩, ⟨(some 38), none, (.mv (.v 3))⟩, ⟨(some 39), none, (.cnv (.int .u64) (.v 38))⟩, ⟨(some 40), none, (.bin .add .none (.v 37) (.v 39))⟩, ⟨(some 41), none, (.bin .add .none (.v 40) (.k (.int .u64 1442695040888963407)))⟩, ⟨(some 42), none, (.nck (.v 32))⟩, ⟨(some 43), none, (.fad 2 (.v 42))⟩, ⟨none, none, (.st 1 (.v 43) (.v 41))⟩]) (.seq (.seq (.reg true [0, 1, 3, 7, 0, 16, 48, 112, 240, 511] [⟨(some 44), none, (.mv (.v 0))⟩, ⟨(some 45), none, (.nck (.v 44))⟩, ⟨(some 46), none, (.fad 1 (.v 45))⟩, ⟨(some 47), none, (.ld false 1 (.v 46))⟩, ⟨(some 48), none, (.mv (.v 0))⟩, ⟨(some 49), none, (.nck (.v 48))⟩, ⟨(some 50), none, (.fad 0 (.v 49))⟩, ⟨(some 51), none, (.ld false 1 (.v 50))⟩, ⟨(some 52), none, (.len 1 (.v 51))⟩, ⟨(some 53), none, (.bin .leq .none (.v 47) (.v 52))⟩]) (.cond (.v 53) (.seq (.reg false [] [⟨(some 54), none, (.mv (.v 3))⟩, ⟨(some 2), none, (.mv (.v 54))⟩]) .ret) .skip)) (.seq (.reg false [] [⟨(some 55), none, (.mv (.v 0))⟩, ⟨(some 56), none, (.nck (.v 55))⟩, ⟨(some 57), none, (.fad 2 (.v 56))⟩, ⟨(some 58), none, (.ld false 1 (.v 57))⟩, ⟨(some 59), none, (.bin .shr .none (.v 58) (.k (.int .u64 40)))⟩, ⟨(some 60), none, (.bin .and .none (.v 59) (.k (.int .u64 255)))⟩, ⟨(some 61), none, (.cnv (.int .i64) (.v 60))⟩, ⟨(some 2), none, (.mv (.v 61))⟩]) .ret)))))))
def ir77 : Fn := ⟨.ref, 1, 62, [(.tmp 2)], ir77_c⟩
def ir70_c : C := (.seq (.reg false [] [⟨(some 4), none, (.mv (.k (.int .i64 0)))⟩]) (.seq (.reg false [] [⟨(some 5), none, (.mv (.v 1))⟩, ⟨(some 6), none, (.mv (.v 0))⟩, ⟨(some 7), none, (.mv (.v 1))⟩, ⟨(some 8), none, (.len 1 (.v 7))⟩, ⟨(some 9), none, (.call 43 [(.v 6), (.v 8)])⟩, ⟨(some 10), none, (.ixa 1 (.v 5) (.v 9))⟩, ⟨(some 11), none, (.ld false 1 (.v 10))⟩, ⟨(some 4), none, (.mv (.v 11))⟩]) .ret))
def ir70 : Fn := ⟨.ref, 2, 12, [(.tmp 4)], ir70_c⟩
def ir32_d0 : C := (.seq (.reg false [] [⟨(some 14), none, (.bin .lss .none (.v 13) (.v 12))⟩]) (.seq (.cond (.v 14) .skip (.exit 0)) (.seq (.block 1 (.seq (.reg false [] [⟨(some 15), none, (.mv (.v 13))⟩, ⟨(some 5), none, (.mv (.v 15))⟩]) (.seq (.reg true [0, 0, 3, 7, 0, 0, 48, 112, 255] [⟨(some 16), none, (.mv (.v 0))⟩, ⟨(some 17), none, (.mv (.v 5))⟩, ⟨(some 18), none, (.ixa 1 (.v 16) (.v 17))⟩, ⟨(some 19), none, (.ld false 1 (.v 18))⟩, ⟨(some 20), none, (.mv (.v 1))⟩, ⟨(some 21), none, (.mv (.v 5))⟩, ⟨(some 22), none, (.ixa 1 (.v 20) (.v 21))⟩, ⟨(some 23), none, (.ld false 1 (.v 22))⟩, ⟨(some 24), none, (.bin .neq .none (.v 19) (.v 23))⟩]) (.cond (.v 24) (.seq (.reg false [] [⟨(some 4), none, (.mv (.k (.bool false)))⟩]) .ret) .skip)))) (.reg false [] [⟨(some 25), none, (.bin .add .none (.v 13) (.k (.int .i64 1)))⟩, ⟨(some 13), none, (.mv (.v 25))⟩]))))
def ir32_b0 : C := ir32_d0
def ir32_l0 : C := .loop true [0, 1, 12, 13] ir32_b0
def ir32_c : C := (.seq (.reg false [] [⟨(some 4), none, (.mv (.k (.bool false)))⟩]) (.seq (.seq (.reg false [] [⟨(some 6), none, (.mv (.v 0))⟩, ⟨(some 7), none, (.len 1 (.v 6))⟩, ⟨(some 8), none, (.mv (.v 1))⟩, ⟨(some 9), none, (.len 1 (.v 8))⟩, ⟨(some 10), none, (.bin .neq .none (.v 7) (.v 9))⟩]) (.cond (.v 10) (.seq (.reg false [] [⟨(some 4), none, (.mv (.k (.bool false)))⟩]) .ret) .skip)) (.seq (.seq (.reg false [] [⟨(some 11), none, (.mv (.v 0))⟩, ⟨(some 12), none, (.len 1 (.v 11))⟩, ⟨(some 13), none, (.mv (.k (.int .i64 0)))⟩]) (.block 0 ir32_l0)) (.seq (.reg false [] [⟨(some 4), none, (.mv (.k (.bool true)))⟩]) .ret))))
def ir32 : Fn := ⟨.own, 2, 26, [(.tmp 4)], ir32_c⟩
def ir3_d0 : C := (.seq (.seq (.reg false [] [⟨(some 337), none, (.mv (.v 42))⟩, ⟨(some 338), none, (.mv (.v 27))⟩, ⟨(some 339), none, (.bin .leq .none (.v 337) (.v 338))⟩]) (.cond (.v 339) .skip (.exit 4))) (.seq (.block 5 (.seq (.reg false [] [⟨(some 342), none, (.mv (.v 41))⟩, ⟨(some 343), none, (.bin .eql .none (.v 342) (.k (.int .i64 0)))⟩, ⟨(some 344), none, (.mv (.v 343))⟩, ⟨(some 345), (some (344, false)), (.mv (.v 41))⟩, ⟨(some 346), (some (344, false)), (.mv (.v 42))⟩, ⟨(some 347), (some (344, false)), (.bin .geq .none (.v 345) (.v 346))⟩, ⟨(some 348), none, (.pick (.v 344) (.k (.bool true)) (.v 347))⟩, ⟨(some 349), none, (.mv (.v 348))⟩, ⟨(some 350), (some (349, true)), (.mv (.v 26))⟩, ⟨(some 351), (some (349, true)), (.mv (.v 41))⟩, ⟨(some 352), (some (349, true)), (.bin .sub .none (.v 350) (.v 351))⟩, ⟨(some 353), (some (349, true)), (.bin .eql .none (.v 352) (.k (.int .i64 0)))⟩, ⟨(some 354), (some (349, true)), (.mv (.v 353))⟩, ⟨(some 355), (some (354, false)), (.mv (.v 26))⟩, ⟨(some 356), (some (354, false)), (.mv (.v 41))⟩, ⟨(some 357), (some (354, false)), (.bin .sub .none (.v 355) (.v 356))⟩, ⟨(some 358), (some (354, false)), (.mv (.v 27))⟩, ⟨(some 359), (some (354, false)), (.mv (.v 42))⟩, ⟨(some 360), (some (354, false)), (.bin .sub .none (.v 358) (.v 359))⟩, ⟨(some 361), (some (354, false)), (.bin .geq .none (.v 357) (.v 360))⟩, ⟨(some 362), (some (349, true)), (.pick (.v 354) (.k (.bool true)) (.v 361))⟩, ⟨(some 363), none, (.pick (.v 349) (.v 362) (.k (.bool false)))⟩]) (.cond (.v 363) (.reg false [] [⟨(some 364), none, (.mv (.v 40))⟩, ⟨(some 365), none, (.bin .add .none (.v 364) (.k (.int .i64 1)))⟩, ⟨(some 40), none, (.mv (.v 365))⟩]) .skip))) (.reg false [] [⟨(some 340), none, (.mv (.v 42))⟩, ⟨(some 341), none, (.bin .add .none (.v 340) (.k (.int .i64 1)))⟩, ⟨(some 42), none, (.mv (.v 341))⟩])))
def ir3_b0 : C := ir3_d0
def ir3_l0 : C := .loop true [26, 27, 32, 40, 41, 42] ir3_b0
def ir3_d1 : C := (.seq (.seq (.reg false [] [⟨(some 332), none, (.mv (.v 41))⟩, ⟨(some 333), none, (.mv (.v 26))⟩, ⟨(some 334), none, (.bin .leq .none (.v 332) (.v 333))⟩]) (.cond (.v 334) .skip (.exit 2))) (.seq (.block 3 (.seq (.reg false [] [⟨(some 42), none, (.mv (.k (.int .i64 0)))⟩]) (.block 4 ir3_l0))) (.reg false [] [⟨(some 335), none, (.mv (.v 41))⟩, ⟨(some 336), none, (.bin .add .none (.v 335) (.k (.int .i64 1)))⟩, ⟨(some 41), none, (.mv (.v 336))⟩])))
def ir3_b1 : C := ir3_d1
def ir3_l1 : C := .loop true [26, 27, 32, 40, 41] ir3_b1
def ir3_d2 : C := (.seq (.reg false [] [⟨(some 108), none, (.bin .lss .none (.v 107) (.v 106))⟩]) (.seq (.cond (.v 108) .skip (.exit 0)) (.seq (.block 1 (.seq (.reg false [] [⟨(some 109), none, (.mv (.v 107))⟩, ⟨(some 110), none, (.ixa 1 (.v 105) (.v 107))⟩, ⟨(some 111), none, (.ld false 1 (.v 110))⟩, ⟨(some 18), none, (.mv (.v 109))⟩, ⟨(some 19), none, (.mv (.v 111))⟩]) (.seq (.seq (.reg false [] [⟨(some 112), none, (.mv (.v 19))⟩, ⟨(some 113), none, (.len 1 (.v 112))⟩, ⟨(some 114), none, (.bin .neq .none (.v 113) (.k (.int .i64 2)))⟩]) (.cond (.v 114) (.seq (.reg false [] [⟨(some 4), none, (.mv (.k (.bool false)))⟩]) .ret) .skip)) (.seq (.reg true [0, 1, 3, 0, 8, 24, 7, 127] [⟨(some 115), none, (.mv (.v 19))⟩, ⟨(some 116), none, (.ixa 1 (.v 115) (.k (.int .i64 0)))⟩, ⟨(some 117), none, (.ld false 1 (.v 116))⟩, ⟨(some 118), none, (.mv (.v 19))⟩, ⟨(some 119), none, (.ixa 1 (.v 118) (.k (.int .i64 1)))⟩, ⟨(some 120), none, (.ld false 1 (.v 119))⟩, ⟨(some 20), none, (.mv (.v 117))⟩, ⟨(some 21), none, (.mv (.v 120))⟩]) (.seq (.seq (.reg false [] [⟨(some 121), none, (.mv (.v 20))⟩, ⟨(some 122), none, (.bin .lss .none (.v 121) (.k (.int .i64 0)))⟩, ⟨(some 123), none, (.mv (.v 122))⟩, ⟨(some 124), (some (123, false)), (.mv (.v 21))⟩, ⟨(some 125), (some (123, false)), (.bin .lss .none (.v 124) (.k (.int .i64 0)))⟩, ⟨(some 126), none, (.pick (.v 123) (.k (.bool true)) (.v 125))⟩, ⟨(some 127), none, (.mv (.v 126))⟩, ⟨(some 128), (some (127, false)), (.mv (.v 20))⟩, ⟨(some 129), (some (127, false)), (.mv (.v 21))⟩, ⟨(some 130), (some (127, false)), (.bin .add .none (.v 128) (.v 129))⟩, ⟨(some 131), (some (127, false)), (.bin .lss .none (.v 130) (.k (.int .i64 1)))⟩, ⟨(some 132), none, (.pick (.v 127) (.k (.bool true)) (.v 131))⟩, ⟨(some 133), none, (.mv (.v 132))⟩, ⟨(some 134), (some (133, false)), (.mv (.v 20))⟩, ⟨(some 135), (some (133, false)), (.mv (.v 21))⟩, ⟨(some 136), (some (133, false)), (.bin .add .none (.v 134) (.v 135))⟩, ⟨(some 137), (some (133, false)), (.mv (.v 7))⟩, ⟨(some 138), (some (133, false)), (.bin .gtr .none (.v 136) (.v 137))⟩, ⟨(some 139), none, (.pick (.v 133) (.k (.bool true)) (.v 138))⟩, ⟨(some 140), none, (.mv (.v 139))⟩, ⟨(some 141), (some (140, false)), (.mv (.v 20))⟩, ⟨(some 142), (some (140, false)), (.bin .gtr .none (.v 141) (.k (.int .i64 0)))⟩, ⟨(some 143), (some (140, false)), (.mv (.v 142))⟩, ⟨(some 144), (some (143, true)), (.mv (.v 20))⟩, ⟨(some 145), (some (143, true)), (.mv (.v 21))⟩, ⟨(some 146), (some (143, true)), (.bin .lss .none (.v 144) (.v 145))⟩, ⟨(some 147), (some (140, false)), (.pick (.v 143) (.v 146) (.k (.bool false)))⟩, ⟨(some 148), none, (.pick (.v 140) (.k (.bool true)) (.v 147))⟩]) (.cond (.v 148) (.seq (.reg false [] [⟨(some 4), none, (.mv (.k (.bool false)))⟩]) .ret) .skip)) (.seq (.seq (.reg false [] [⟨(some 149), none, (.mv (.v 18))⟩, ⟨(some 150), none, (.bin .rem .none (.v 149) (.k (.int .i64 2)))⟩, ⟨(some 151), none, (.bin .eql .none (.v 150) (.k (.int .i64 0)))⟩]) (.cond (.v 151) (.seq (.reg false [] [⟨(some 152), none, (.mv (.v 16))⟩, ⟨(some 153), none, (.mv (.v 20))⟩, ⟨(some 154), none, (.bin .add .none (.v 152) (.v 153))⟩, ⟨(some 16), none, (.mv (.v 154))⟩]) (.reg false [] [⟨(some 155), none, (.mv (.v 17))⟩, ⟨(some 156), none, (.mv (.v 21))⟩, ⟨(some 157), none, (.bin .add .none (.v 155) (.v 156))⟩, ⟨(some 17), none, (.mv (.v 157))⟩])) (.seq (.reg false [] [⟨(some 158), none, (.mv (.v 16))⟩, ⟨(some 159), none, (.mv (.v 20))⟩, ⟨(some 160), none, (.bin .sub .none (.v 158) (.v 159))⟩, ⟨(some 16), none, (.mv (.v 160))⟩]) (.reg false [] [⟨(some 161), none, (.mv (.v 17))⟩, ⟨(some 162), none, (.mv (.v 21))⟩, ⟨(some 163), none, (.bin .sub .none (.v 161) (.v 162))⟩, ⟨(some 17), none, (.mv (.v 163))⟩])))) (.seq (.reg false [] [⟨(some 164), none, (.mv (.v 16))⟩, ⟨(some 165), none, (.bin .lss .none (.v 164) (.k (.int .i64 0)))⟩, ⟨(some 166), none, (.mv (.v 165))⟩, ⟨(some 167), (some (166, false)), (.mv (.v 16))⟩, ⟨(some 168), (some (166, false)), (.mv (.v 5))⟩, ⟨(some 169), (some (166, false)), (.bin .gtr .none (.v 167) (.v 168))⟩, ⟨(some 170), none, (.pick (.v 166) (.k (.bool true)) (.v 169))⟩, ⟨(some 171), none, (.mv (.v 170))⟩, ⟨(some 172), (some (171, false)), (.mv (.v 17))⟩, ⟨(some 173), (some (171, false)), (.bin .lss .none (.v 172) (.k (.int .i64 0)))⟩, ⟨(some 174), none, (.pick (.v 171) (.k (.bool true)) (.v 173))⟩, ⟨(some 175), none, (.mv (.v 174))⟩, ⟨(some 176), (some (175, false)), (.mv (.v 17))⟩, ⟨(some 177), (some (175, false)), (.mv (.v 6))⟩, ⟨(some 178), (some (175, false)), (.bin .gtr .none (.v 176) (.v 177))⟩, ⟨(some 179), none, (.pick (.v 175) (.k (.bool true)) (.v 178))⟩, ⟨(some 180), none, (.mv (.v 179))⟩, ⟨(some 181), (some (180, false)), (.mv (.v 16))⟩, ⟨(some 182), (some (180, false)), (.bin .gtr .none (.v 181) (.k (.int .i64 0)))⟩, ⟨(some 183), (some (180, false)), (.mv (.v 182))⟩, ⟨(some 184), (some (183, true)), (.mv (.v 16))⟩, ⟨(some 185), (some (183, true)), (.mv (.v 17))⟩, ⟨(some 186), (some (183, true)), (.bin .lss .none (.v 184) (.v 185))⟩, ⟨(some 187), (some (180, false)), (.pick (.v 183) (.v 186) (.k (.bool false)))⟩, ⟨(some 188), none, (.pick (.v 180) (.k (.bool true)) (.v 187))⟩, ⟨(some 189), none, (.mv (.v 188))⟩, ⟨(some 190), (some (189, false)), (.mv (.v 5))⟩, ⟨(some 191), (some (189, false)), (.mv (.v 16))⟩, ⟨(some 192), (some (189, false)), (.bin .sub .none (.v 190) (.v 191))⟩, ⟨(some 193), (some (189, false)), (.bin .gtr .none (.v 192) (.k (.int .i64 0)))⟩, ⟨(some 194), (some (189, false)), (.mv (.v 193))⟩, ⟨(some 195), (some (194, true)), (.mv (.v 5))⟩, ⟨(some 196), (some (194, true)), (.mv (.v 16))⟩, ⟨(some 197), (some (194, true)), (.bin .sub .none (.v 195) (.v 196))⟩, ⟨(some 198), (some (194, true)), (.mv (.v 6))⟩, ⟨(some 199), (some (194, true)), (.mv (.v 17))⟩, ⟨(some 200), (some (194, true)), (.bin .sub .none (.v 198) (.v 199))⟩, ⟨(some 201), (some (194, true)), (.bin .lss .none (.v 197) (.v 200))⟩, ⟨(some 202), (some (189, false)), (.pick (.v 194) (.v 201) (.k (.bool false)))⟩, ⟨(some 203), none, (.pick (.v 189) (.k (.bool true)) (.v 202))⟩]) (.cond (.v 203) (.seq (.reg false [] [⟨(some 4), none, (.mv (.k (.bool false)))⟩]) .ret) .skip)))))))) (.reg false [] [⟨(some 204), none, (.bin .add .none (.v 107) (.k (.int .i64 1)))⟩, ⟨(some 107), none, (.mv (.v 204))⟩]))))
def ir3_b2 : C := ir3_d2
def ir3_l2 : C := .loop true [1, 5, 6, 7, 8, 12, 16, 17, 105, 106, 107] ir3_b2
def ir3_c : C := (.seq (.reg false [] [⟨(some 4), none, (.mv (.k (.bool false)))⟩]) (.seq (.seq (.reg false [] [⟨(some 43), none, (.mv (.v 0))⟩, ⟨(some 44), none, (.mv (.v 1))⟩, ⟨(some 45), none, (.call 5 [(.v 43), (.v 44)])⟩]) (.cond (.v 45) (.seq (.reg false [] [⟨(some 4), none, (.mv (.k (.bool true)))⟩]) .ret) .skip)) (.seq (.reg false [] [⟨(some 47), none, (.mv (.v 0))⟩, ⟨(some 48), none, (.call 6 [(.v 47)])⟩, ⟨(some 46), none, (.mv (.v 48))⟩, ⟨(some 49), none, (.ext (.v 46) 0)⟩, ⟨(some 50), none, (.ext (.v 46) 1)⟩, ⟨(some 51), none, (.ext (.v 46) 2)⟩, ⟨(some 5), none, (.mv (.v 49))⟩, ⟨(some 6), none, (.mv (.v 50))⟩, ⟨(some 7), none, (.mv (.v 51))⟩]) (.seq (.reg false [] [⟨(some 53), none, (.mv (.v 5))⟩, ⟨(some 54), none, (.mv (.v 6))⟩, ⟨(some 55), none, (.mv (.v 7))⟩, ⟨(some 56), none, (.call 7 [(.v 53), (.v 54), (.v 55)])⟩, ⟨(some 52), none, (.mv (.v 56))⟩, ⟨(some 57), none, (.ext (.v 52) 0)⟩, ⟨(some 58), none, (.ext (.v 52) 1)⟩, ⟨(some 8), none, (.mv (.v 57))⟩, ⟨(some 9), none, (.mv (.v 58))⟩]) (.seq (.reg false [] [⟨(some 60), none, (.mv (.v 5))⟩, ⟨(some 61), none, (.mv (.v 6))⟩, ⟨(some 62), none, (.mv (.v 7))⟩, ⟨(some 63), none, (.call 8 [(.v 60), (.v 61), (.v 62)])⟩, ⟨(some 59), none, (.mv (.v 63))⟩, ⟨(some 64), none, (.ext (.v 59) 0)⟩, ⟨(some 65), none, (.ext (.v 59) 1)⟩, ⟨(some 10), none, (.mv (.v 64))⟩, ⟨(some 11), none, (.mv (.v 65))⟩]) (.seq (.reg false [] [⟨(some 67), none, (.mv (.v 5))⟩, ⟨(some 68), none, (.mv (.v 6))⟩, ⟨(some 69), none, (.mv (.v 7))⟩, ⟨(some 70), none, (.call 9 [(.v 67), (.v 68), (.v 69)])⟩, ⟨(some 66), none, (.mv (.v 70))⟩, ⟨(some 71), none, (.ext (.v 66) 0)⟩, ⟨(some 72), none, (.ext (.v 66) 1)⟩, ⟨(some 12), none, (.mv (.v 71))⟩, ⟨(some 13), none, (.mv (.v 72))⟩]) (.seq (.reg false [] [⟨(some 74), none, (.mv (.v 5))⟩, ⟨(some 75), none, (.mv (.v 6))⟩, ⟨(some 76), none, (.mv (.v 7))⟩, ⟨(some 77), none, (.call 10 [(.v 74), (.v 75), (.v 76)])⟩, ⟨(some 73), none, (.mv (.v 77))⟩, ⟨(some 78), none, (.ext (.v 73) 0)⟩, ⟨(some 79), none, (.ext (.v 73) 1)⟩, ⟨(some 14), none, (.mv (.v 78))⟩, ⟨(some 15), none, (.mv (.v 79))⟩]) (.seq (.seq (.reg false [] [⟨(some 80), none, (.mv (.v 9))⟩, ⟨(some 81), none, (.mv (.v 11))⟩, ⟨(some 82), none, (.bin .neq .bool (.v 80) (.v 81))⟩, ⟨(some 83), none, (.mv (.v 82))⟩, ⟨(some 84), (some (83, false)), (.mv (.v 8))⟩, ⟨(some 85), (some (83, false)), (.mv (.v 10))⟩, ⟨(some 86), (some (83, false)), (.call 11 [(.v 84), (.v 85)])⟩, ⟨(some 87), (some (83, false)), (.un .not (.v 86))⟩, ⟨(some 88), none, (.pick (.v 83) (.k (.bool true)) (.v 87))⟩, ⟨(some 89), none, (.mv (.v 88))⟩, ⟨(some 90), (some (89, false)), (.mv (.v 13))⟩, ⟨(some 91), (some (89, false)), (.mv (.v 15))⟩, ⟨(some 92), (some (89, false)), (.bin .neq .bool (.v 90) (.v 91))⟩, ⟨(some 93), none, (.pick (.v 89) (.k (.bool true)) (.v 92))⟩, ⟨(some 94), none, (.mv (.v 93))⟩, ⟨(some 95), (some (94, false)), (.mv (.v 12))⟩, ⟨(some 96), (some (94, false)), (.mv (.v 14))⟩, ⟨(some 97), (some (94, false)), (.bin .neq .none (.v 95) (.v 96))⟩, ⟨(some 98), none, (.pick (.v 94) (.k (.bool true)) (.v 97))⟩, ⟨(some 99), none, (.mv (.v 98))⟩, ⟨(some 100), (some (99, false)), (.mv (.v 13))⟩, ⟨(some 101), (some (99, false)), (.mv (.v 9))⟩, ⟨(some 102), (some (99, false)), (.bin .neq .bool (.v 100) (.v 101))⟩, ⟨(some 103), none, (.pick (.v 99) (.k (.bool true)) (.v 102))⟩]) (.cond (.v 103) (.seq (.reg false [] [⟨(some 4), none, (.mv (.k (.bool false)))⟩]) .ret) .skip)) (.seq (.seq (.reg false [] [⟨(some 104), none, (.mv (.v 9))⟩]) (.cond (.v 104) (.seq (.reg false [] [⟨(some 16), none, (.mv (.k (.int .i64 0)))⟩, ⟨(some 17), none, (.mv (.k (.int .i64 0)))⟩]) (.seq (.seq (.reg false [] [⟨(some 105), none, (.mv (.v 8))⟩, ⟨(some 106), none, (.len 1 (.v 105))⟩, ⟨(some 107), none, (.mv (.k (.int .i64 0)))⟩]) (.block 0 ir3_l2)) (.seq (.reg false [] [⟨(some 206), none, (.mv (.v 5))⟩, ⟨(some 207), none, (.mv (.v 6))⟩, ⟨(some 208), none, (.call 12 [(.v 206), (.v 207)])⟩, ⟨(some 205), none, (.mv (.v 208))⟩, ⟨(some 209), none, (.ext (.v 205) 0)⟩, ⟨(some 210), none, (.ext (.v 205) 1)⟩, ⟨(some 22), none, (.mv (.v 209))⟩, ⟨(some 23), none, (.mv (.v 210))⟩]) (.seq (.seq (.reg false [] [⟨(some 211), none, (.mv (.v 8))⟩, ⟨(some 212), none, (.len 1 (.v 211))⟩, ⟨(some 213), none, (.mv (.v 12))⟩, ⟨(some 214), none, (.bin .neq .none (.v 212) (.v 213))⟩, ⟨(some 215), none, (.mv (.v 214))⟩, ⟨(some 216), (some (215, false)), (.mv (.v 12))⟩, ⟨(some 217), (some (215, false)), (.bin .rem .none (.v 216) (.k (.int .i64 2)))⟩, ⟨(some 218), (some (215, false)), (.bin .neq .none (.v 217) (.k (.int .i64 1)))⟩, ⟨(some 219), none, (.pick (.v 215) (.k (.bool true)) (.v 218))⟩, ⟨(some 220), none, (.mv (.v 219))⟩, ⟨(some 221), (some (220, false)), (.mv (.v 16))⟩, ⟨(some 222), (some (220, false)), (.mv (.v 5))⟩, ⟨(some 223), (some (220, false)), (.bin .neq .none (.v 221) (.v 222))⟩, ⟨(some 224), none, (.pick (.v 220) (.k (.bool true)) (.v 223))⟩, ⟨(some 225), none, (.mv (.v 224))⟩, ⟨(some 226), (some (225, false)), (.mv (.v 17))⟩, ⟨(some 227), (some (225, false)), (.mv (.v 6))⟩, ⟨(some 228), (some (225, false)), (.bin .neq .none (.v 226) (.v 227))⟩, ⟨(some 229), none, (.pick (.v 225) (.k (.bool true)) (.v 228))⟩, ⟨(some 230), none, (.mv (.v 229))⟩, ⟨(some 231), (some (230, false)), (.mv (.v 23))⟩, ⟨(some 232), (some (230, false)), (.un .not (.v 231))⟩, ⟨(some 233), none, (.pick (.v 230) (.k (.bool true)) (.v 232))⟩, ⟨(some 234), none, (.mv (.v 233))⟩, ⟨(some 235), (some (234, false)), (.mv (.v 22))⟩, ⟨(some 236), (some (234, false)), (.mv (.v 7))⟩, ⟨(some 237), (some (234, false)), (.bin .gtr .none (.v 235) (.v 236))⟩, ⟨(some 238), none, (.pick (.v 234) (.k (.bool true)) (.v 237))⟩]) (.cond (.v 238) (.seq (.reg false [] [⟨(some 4), none, (.mv (.k (.bool false)))⟩]) .ret) .skip)) (.seq (.reg false [] [⟨(some 239), none, (.mv (.v 7))⟩, ⟨(some 240), none, (.bin .lss .none (.v 239) (.k (.int .i64 4)))⟩]) (.cond (.v 240) (.seq (.reg false [] [⟨(some 242), none, (.mv (.v 5))⟩, ⟨(some 243), none, (.mv (.v 6))⟩, ⟨(some 244), none, (.mv (.v 7))⟩, ⟨(some 245), none, (.bin .add .none (.v 244) (.k (.int .i64 1)))⟩, ⟨(some 246), none, (.call 9 [(.v 242), (.v 243), (.v 245)])⟩, ⟨(some 241), none, (.mv (.v 246))⟩, ⟨(some 247), none, (.ext (.v 241) 0)⟩, ⟨(some 248), none, (.ext (.v 241) 1)⟩, ⟨(some 24), none, (.mv (.v 247))⟩, ⟨(some 25), none, (.mv (.v 248))⟩]) (.seq (.reg false [] [⟨(some 249), none, (.mv (.v 25))⟩, ⟨(some 250), none, (.un .not (.v 249))⟩, ⟨(some 251), none, (.mv (.v 250))⟩, ⟨(some 252), (some (251, false)), (.mv (.v 24))⟩, ⟨(some 253), (some (251, false)), (.mv (.v 12))⟩, ⟨(some 254), (some (251, false)), (.bin .gtr .none (.v 252) (.v 253))⟩, ⟨(some 255), none, (.pick (.v 251) (.k (.bool true)) (.v 254))⟩]) (.cond (.v 255) (.seq (.reg false [] [⟨(some 4), none, (.mv (.k (.bool false)))⟩]) .ret) .skip))) .skip)))))) .skip)) (.seq (.reg false [] [⟨(some 257), none, (.mv (.v 1))⟩, ⟨(some 258), none, (.call 13 [(.v 257)])⟩, ⟨(some 256), none, (.mv (.v 258))⟩, ⟨(some 259), none, (.ext (.v 256) 0)⟩, ⟨(some 260), none, (.ext (.v 256) 1)⟩, ⟨(some 26), none, (.mv (.v 259))⟩, ⟨(some 27), none, (.mv (.v 260))⟩]) (.seq (.reg false [] [⟨(some 262), none, (.mv (.v 26))⟩, ⟨(some 263), none, (.mv (.v 27))⟩, ⟨(some 264), none, (.call 12 [(.v 262), (.v 263)])⟩, ⟨(some 261), none, (.mv (.v 264))⟩, ⟨(some 265), none, (.ext (.v 261) 0)⟩, ⟨(some 266), none, (.ext (.v 261) 1)⟩, ⟨(some 28), none, (.mv (.v 265))⟩, ⟨(some 29), none, (.mv (.v 266))⟩]) (.seq (.reg false [] [⟨(some 268), none, (.mv (.v 26))⟩, ⟨(some 269), none, (.mv (.v 27))⟩, ⟨(some 270), none, (.call 14 [(.v 268), (.v 269)])⟩, ⟨(some 267), none, (.mv (.v 270))⟩, ⟨(some 271), none, (.ext (.v 267) 0)⟩, ⟨(some 272), none, (.ext (.v 267) 1)⟩, ⟨(some 30), none, (.mv (.v 271))⟩, ⟨(some 31), none, (.mv (.v 272))⟩]) (.seq (.reg false [] [⟨(some 274), none, (.mv (.v 26))⟩, ⟨(some 275), none, (.mv (.v 27))⟩, ⟨(some 276), none, (.call 15 [(.v 274), (.v 275)])⟩, ⟨(some 273), none, (.mv (.v 276))⟩, ⟨(some 277), none, (.ext (.v 273) 0)⟩, ⟨(some 278), none, (.ext (.v 273) 1)⟩, ⟨(some 32), none, (.mv (.v 277))⟩, ⟨(some 33), none, (.mv (.v 278))⟩]) (.seq (.reg false [] [⟨(some 280), none, (.mv (.v 26))⟩, ⟨(some 281), none, (.mv (.v 27))⟩, ⟨(some 282), none, (.call 16 [(.v 280), (.v 281)])⟩, ⟨(some 279), none, (.mv (.v 282))⟩, ⟨(some 283), none, (.ext (.v 279) 0)⟩, ⟨(some 284), none, (.ext (.v 279) 1)⟩, ⟨(some 34), none, (.mv (.v 283))⟩, ⟨(some 35), none, (.mv (.v 284))⟩]) (.seq (.seq (.reg false [] [⟨(some 285), none, (.mv (.v 29))⟩, ⟨(some 286), none, (.mv (.v 31))⟩, ⟨(some 287), none, (.bin .neq .bool (.v 285) (.v 286))⟩, ⟨(some 288), none, (.mv (.v 287))⟩, ⟨(some 289), (some (288, false)), (.mv (.v 28))⟩, ⟨(some 290), (some (288, false)), (.mv (.v 30))⟩, ⟨(some 291), (some (288, false)), (.bin .neq .none (.v 289) (.v 290))⟩, ⟨(some 292), none, (.pick (.v 288) (.k (.bool true)) (.v 291))⟩, ⟨(some 293), none, (.mv (.v 292))⟩, ⟨(some 294), (some (293, false)), (.mv (.v 33))⟩, ⟨(some 295), (some (293, false)), (.mv (.v 35))⟩, ⟨(some 296), (some (293, false)), (.bin .neq .bool (.v 294) (.v 295))⟩, ⟨(some 297), none, (.pick (.v 293) (.k (.bool true)) (.v 296))⟩, ⟨(some 298), none, (.mv (.v 297))⟩, ⟨(some 299), (some (298, false)), (.mv (.v 32))⟩, ⟨(some 300), (some (298, false)), (.mv (.v 34))⟩, ⟨(some 301), (some (298, false)), (.bin .neq .none (.v 299) (.v 300))⟩, ⟨(some 302), none, (.pick (.v 298) (.k (.bool true)) (.v 301))⟩, ⟨(some 303), none, (.mv (.v 302))⟩, ⟨(some 304), (some (303, false)), (.mv (.v 29))⟩, ⟨(some 305), (some (303, false)), (.mv (.v 304))⟩, ⟨(some 306), (some (305, true)), (.mv (.v 33))⟩, ⟨(some 307), (some (305, true)), (.un .not (.v 306))⟩, ⟨(some 308), (some (303, false)), (.pick (.v 305) (.v 307) (.k (.bool false)))⟩, ⟨(some 309), none, (.pick (.v 303) (.k (.bool true)) (.v 308))⟩]) (.cond (.v 309) (.seq (.reg false [] [⟨(some 4), none, (.mv (.k (.bool false)))⟩]) .ret) .skip)) (.seq (.seq (.reg false [] [⟨(some 310), none, (.mv (.v 29))⟩]) (.cond (.v 310) (.seq (.reg false [] [⟨(some 312), none, (.mv (.v 26))⟩, ⟨(some 313), none, (.mv (.v 27))⟩, ⟨(some 314), none, (.mv (.v 28))⟩, ⟨(some 315), none, (.call 9 [(.v 312), (.v 313), (.v 314)])⟩, ⟨(some 311), none, (.mv (.v 315))⟩, ⟨(some 316), none, (.ext (.v 311) 0)⟩, ⟨(some 317), none, (.ext (.v 311) 1)⟩, ⟨(some 36), none, (.mv (.v 316))⟩, ⟨(some 37), none, (.mv (.v 317))⟩]) (.seq (.reg false [] [⟨(some 319), none, (.mv (.v 26))⟩, ⟨(some 320), none, (.mv (.v 27))⟩, ⟨(some 321), none, (.mv (.v 28))⟩, ⟨(some 322), none, (.bin .sub .none (.v 321) (.k (.int .i64 1)))⟩, ⟨(some 323), none, (.call 9 [(.v 319), (.v 320), (.v 322)])⟩, ⟨(some 318), none, (.mv (.v 323))⟩, ⟨(some 324), none, (.ext (.v 318) 0)⟩, ⟨(some 325), none, (.ext (.v 318) 1)⟩, ⟨(some 38), none, (.mv (.v 324))⟩, ⟨(some 39), none, (.mv (.v 325))⟩]) (.seq (.reg false [] [⟨(some 326), none, (.mv (.v 37))⟩, ⟨(some 327), none, (.un .not (.v 326))⟩, ⟨(some 328), none, (.mv (.v 327))⟩, ⟨(some 329), (some (328, false)), (.mv (.v 39))⟩, ⟨(some 330), none, (.pick (.v 328) (.k (.bool true)) (.v 329))⟩]) (.cond (.v 330) (.seq (.reg false [] [⟨(some 4), none, (.mv (.k (.bool false)))⟩]) .ret) .skip)))) .skip)) (.seq (.seq (.reg false [] [⟨(some 331), none, (.mv (.v 33))⟩]) (.cond (.v 331) (.seq (.reg false [] [⟨(some 40), none, (.mv (.k (.int .i64 0)))⟩]) (.seq (.seq (.reg false [] [⟨(some 41), none, (.mv (.k (.int .i64 0)))⟩]) (.block 2 ir3_l1)) (.seq (.reg false [] [⟨(some 366), none, (.mv (.v 40))⟩, ⟨(some 367), none, (.mv (.v 32))⟩, ⟨(some 368), none, (.bin .eql .none (.v 366) (.v 367))⟩, ⟨(some 4), none, (.mv (.v 368))⟩]) .ret))) .skip)) (.seq (.reg false [] [⟨(some 4), none, (.mv (.k (.bool true)))⟩]) .ret))))))))))))))))))
def ir3 : Fn := ⟨.own, 2, 369, [(.tmp 4)], ir3_c⟩
def ir6_c : C := (.seq (.reg false [] [⟨(some 2), none, (.mv (.k (.int .i64 0)))⟩, ⟨(some 3), none, (.mv (.k (.int .i64 0)))⟩, ⟨(some 4), none, (.mv (.k (.int .i64 0)))⟩]) (.seq (.reg false [] [⟨(some 5), none, (.mv (.v 0))⟩, ⟨(some 6), none, (.call 34 [(.v 5)])⟩, ⟨(some 7), none, (.ext (.v 6) 0)⟩, ⟨(some 8), none, (.ext (.v 6) 1)⟩, ⟨(some 9), none, (.ext (.v 6) 2)⟩, ⟨(some 2), none, (.mv (.v 7))⟩, ⟨(some 3), none, (.mv (.v 8))⟩, ⟨(some 4), none, (.mv (.v 9))⟩]) .ret))
def ir6 : Fn := ⟨.own, 1, 10, [(.tmp 2), (.tmp 3), (.tmp 4)], ir6_c⟩
def ir34_c : C := (.seq (.reg false [] [⟨(some 2), none, (.mv (.k (.int .i64 0)))⟩, ⟨(some 3), none, (.mv (.k (.int .i64 0)))⟩, ⟨(some 4), none, (.mv (.k (.int .i64 0)))⟩]) (.seq (.reg false [] [⟨(some 7), none, (.mv (.v 0))⟩, ⟨(some 8), none, (.bld [.nil, (.int .i64 0), (.int .u64 0)] [(0, (1, (.v 7)))])⟩, ⟨(some 9), none, (.box (.v 8))⟩, ⟨(some 5), none, (.mv (.v 9))⟩]) (.seq (.seq (.reg false [] [⟨(some 10), none, (.mv (.v 5))⟩, ⟨(some 11), none, (.call 42 [(.v 10), (.k (.int .i64 10))])⟩]) (.cond (.v 11) (.seq (.reg false [] [⟨(some 12), none, (.mv (.v 5))⟩, ⟨(some 13), none, (.bsl false 1 5 (.int .i64 0) [(0, (.k (.int .i64 (-1)))), (1, (.k (.int .i64 0))), (2, (.k (.int .i64 8))), (3, (.k (.int .i64 9))), (4, (.k (.int .i64 4611686018427387904)))])⟩, ⟨(some 14), none, (.call 70 [(.v 12), (.v 13)])⟩, ⟨(some 15), none, (.mv (.v 5))⟩, ⟨(some 16), none, (.bsl false 1 4 (.int .i64 0) [(0, (.k (.int .i64 (-1)))), (1, (.k (.int .i64 0))), (2, (.k (.int .i64 8))), (3, (.k (.int .i64 9)))])⟩, ⟨(some 17), none, (.call 70 [(.v 15), (.v 16)])⟩, ⟨(some 18), none, (.mv (.v 5))⟩, ⟨(some 19), none, (.bsl false 1 4 (.int .i64 0) [(0, (.k (.int .i64 0))), (1, (.k (.int .i64 1))), (2, (.k (.int .i64 4))), (3, (.k (.int .i64 5)))])⟩, ⟨(some 20), none, (.call 70 [(.v 18), (.v 19)])⟩, ⟨(some 2), none, (.mv (.v 14))⟩, ⟨(some 3), none, (.mv (.v 17))⟩, ⟨(some 4), none, (.mv (.v 20))⟩]) .ret) .skip)) (.seq (.reg false [] [⟨(some 21), none, (.mv (.v 5))⟩, ⟨(some 22), none, (.call 43 [(.v 21), (.k (.int .i64 6))])⟩, ⟨(some 23), none, (.bin .add .none (.k (.int .i64 1)) (.v 22))⟩, ⟨(some 6), none, (.mv (.v 23))⟩]) (.seq (.reg false [] [⟨(some 24), none, (.mv (.v 6))⟩, ⟨(some 25), none, (.mv (.v 6))⟩, ⟨(some 26), none, (.mv (.v 5))⟩, ⟨(some 27), none, (.call 43 [(.v 26), (.k (.int .i64 2))])⟩, ⟨(some 28), none, (.bin .sub .none (.v 25) (.v 27))⟩, ⟨(some 29), none, (.call 73 [(.k (.int .i64 0)), (.v 28)])⟩, ⟨(some 30), none, (.mv (.v 5))⟩, ⟨(some 31), none, (.call 43 [(.v 30), (.k (.int .i64 4))])⟩, ⟨(some 32), none, (.bin .add .none (.k (.int .i64 1)) (.v 31))⟩, ⟨(some 2), none, (.mv (.v 24))⟩, ⟨(some 3), none, (.mv (.v 29))⟩, ⟨(some 4), none, (.mv (.v 32))⟩]) .ret)))))
def ir34 : Fn := ⟨.own, 1, 33, [(.tmp 2), (.tmp 3), (.tmp 4)], ir34_c⟩
def ir7_c : C := (.seq (.reg false [] [⟨(some 6), none, (.mv (.k .nil))⟩, ⟨(some 7), none, (.mv (.k (.bool false)))⟩]) (.seq (.reg false [] [⟨(some 12), none, (.mv (.v 0))⟩, ⟨(some 13), none, (.mv (.v 1))⟩, ⟨(some 14), none, (.mv (.v 2))⟩, ⟨(some 15), none, (.bld [(.int .i64 0), (.int .i64 0), (.int .i64 0)] [(0, (1, (.v 12))), (1, (1, (.v 13))), (2, (1, (.v 14)))])⟩, ⟨(some 16), none, (.call 35 [(.v 15)])⟩, ⟨(some 11), none, (.mv (.v 16))⟩, ⟨(some 17), none, (.ext (.v 11) 0)⟩, ⟨(some 18), none, (.ext (.v 11) 1)⟩, ⟨(some 19), none, (.ext (.v 11) 2)⟩, ⟨(some 8), none, (.alc 2 [(.int .i64 0), .nilf])⟩, ⟨none, none, (.st 2 (.v 8) (.v 17))⟩, ⟨(some 9), none, (.mv (.v 18))⟩, ⟨(some 10), none, (.mv (.v 19))⟩]) (.seq (.seq (.reg false [] [⟨(some 20), none, (.mv (.v 10))⟩, ⟨(some 21), none, (.un .not (.v 20))⟩]) (.cond (.v 21) (.seq (.reg false [] [⟨(some 6), none, (.mv (.k .nil))⟩, ⟨(some 7), none, (.mv (.k (.bool false)))⟩]) .ret) .skip)) (.seq (.reg false [] [⟨(some 22), none, (.ld true 2 (.v 8))⟩, ⟨(some 23), none, (.mv (.v 9))⟩, ⟨(some 24), none, (.call 36 [(.v 22), (.k (.int .i64 0)), (.v 23)])⟩, ⟨(some 6), none, (.mv (.v 24))⟩, ⟨(some 7), none, (.mv (.k (.bool true)))⟩]) .ret))))
def ir7 : Fn := ⟨.ownF, 3, 25, [(.tmp 6), (.tmp 7)], ir7_c⟩
def ir8_d0 : C := (.seq (.seq (.reg false [] [⟨(some 56), none, (.mv (.v 17))⟩, ⟨(some 57), none, (.mv (.v 18))⟩, ⟨(some 58), none, (.bin .add .none (.v 56) (.v 57))⟩, ⟨(some 59), none, (.mv (.v 2))⟩, ⟨(some 60), none, (.bin .leq .none (.v 58) (.v 59))⟩, ⟨(some 61), none, (.mv (.v 60))⟩, ⟨(some 62), (some (61, true)), (.mv (.v 16))⟩, ⟨(some 63), (some (61, true)), (.un .not (.v 62))⟩, ⟨(some 64), none, (.pick (.v 61) (.v 63) (.k (.bool false)))⟩]) (.cond (.v 64) .skip (.exit 4))) (.seq (.block 5 (.seq (.reg false [] [⟨(some 67), none, (.mv (.v 10))⟩, ⟨(some 68), none, (.mv (.v 17))⟩, ⟨(some 69), none, (.bin .add .none (.v 67) (.v 68))⟩, ⟨(some 70), none, (.mv (.v 11))⟩, ⟨(some 71), none, (.mv (.v 18))⟩, ⟨(some 72), none, (.bin .add .none (.v 70) (.v 71))⟩, ⟨(some 19), none, (.mv (.v 69))⟩, ⟨(some 20), none, (.mv (.v 72))⟩]) (.seq (.seq (.reg false [] [⟨(some 73), none, (.mv (.v 12))⟩, ⟨(some 74), none, (.bin .eql .none (.v 73) (.k (.int .i64 1)))⟩]) (.cond (.v 74) (.seq (.reg false [] [⟨(some 75), none, (.mv (.v 10))⟩, ⟨(some 76), none, (.mv (.v 17))⟩, ⟨(some 77), none, (.bin .sub .none (.v 75) (.v 76))⟩, ⟨(some 19), none, (.mv (.v 77))⟩]) (.reg false [] [⟨(some 78), none, (.mv (.v 11))⟩, ⟨(some 79), none, (.mv (.v 18))⟩, ⟨(some 80), none, (.bin .sub .none (.v 78) (.v 79))⟩, ⟨(some 20), none, (.mv (.v 80))⟩])) .skip)) (.seq (.seq (.reg false [] [⟨(some 81), none, (.mv (.v 17))⟩, ⟨(some 82), none, (.mv (.v 18))⟩, ⟨(some 83), none, (.bin .add .none (.v 81) (.v 82))⟩, ⟨(some 84), none, (.bin .eql .none (.v 83) (.k (.int .i64 0)))⟩, ⟨(some 85), none, (.mv (.v 84))⟩, ⟨(some 86), (some (85, false)), (.mv (.v 17))⟩, ⟨(some 87), (some (85, false)), (.mv (.v 18))⟩, ⟨(some 88), (some (85, false)), (.call 38 [(.v 86), (.v 87)])⟩, ⟨(some 89), (some (85, false)), (.un .not (.v 88))⟩, ⟨(some 90), none, (.pick (.v 85) (.k (.bool true)) (.v 89))⟩, ⟨(some 91), none, (.mv (.v 90))⟩, ⟨(some 92), (some (91, false)), (.mv (.v 19))⟩, ⟨(some 93), (some (91, false)), (.mv (.v 0))⟩, ⟨(some 94), (some (91, false)), (.call 40 [(.v 92), (.k (.int .i64 0)), (.v 93)])⟩, ⟨(some 95), (some (91, false)), (.un .not (.v 94))⟩, ⟨(some 96), none, (.pick (.v 91) (.k (.bool true)) (.v 95))⟩, ⟨(some 97), none, (.mv (.v 96))⟩, ⟨(some 98), (some (97, false)), (.mv (.v 20))⟩, ⟨(some 99), (some (97, false)), (.mv (.v 1))⟩, ⟨(some 100), (some (97, false)), (.call 40 [(.v 98), (.k (.int .i64 0)), (.v 99)])⟩, ⟨(some 101), (some (97, false)), (.un .not (.v 100))⟩, ⟨(some 102), none, (.pick (.v 97) (.k (.bool true)) (.v 101))⟩]) (.cond (.v 102) (.exit 5) .skip)) (.seq (.reg false [] [⟨(some 103), none, (.mv (.v 8))⟩, ⟨(some 104), none, (.mv (.v 1))⟩, ⟨(some 105), none, (.mv (.v 19))⟩, ⟨(some 106), none, (.mv (.v 20))⟩, ⟨(some 107), none, (.mv (.v 12))⟩, ⟨(some 108), none, (.bin .sub .none (.k (.int .i64 1)) (.v 107))⟩, ⟨(some 109), none, (.call 41 [(.v 104), (.v 105), (.v 106), (.v 108)])⟩, ⟨(some 110), none, (.ixa 1 (.v 103) (.v 109))⟩, ⟨(some 111), none, (.ld false 1 (.v 110))⟩, ⟨(some 112), none, (.mv (.v 13))⟩, ⟨(some 113), none, (.bin .sub .none (.v 112) (.k (.int .i64 1)))⟩, ⟨(some 114), none, (.bin .eql .none (.v 111) (.v 113))⟩]) (.cond (.v 114) (.seq (.reg false [] [⟨(some 115), none, (.mv (.v 19))⟩, ⟨(some 14), none, (.mv (.v 115))⟩]) (.seq (.reg false [] [⟨(some 116), none, (.mv (.v 20))⟩, ⟨(some 15), none, (.mv (.v 116))⟩]) (.seq (.reg false [] [⟨(some 117), none, (.mv (.v 9))⟩, ⟨(some 118), none, (.mv (.v 17))⟩, ⟨(some 119), none, (.mv (.v 18))⟩, ⟨(some 120), none, (.bsl false 1 2 (.int .i64 0) [(0, (.v 118)), (1, (.v 119))])⟩, ⟨(some 121), none, (.bsl false 1 1 .nil [(0, (.v 120))])⟩, ⟨(some 122), none, (.app false 1 (.v 117) (.v 121))⟩, ⟨(some 9), none, (.mv (.v 122))⟩]) (.reg false [] [⟨(some 16), none, (.mv (.k (.bool true)))⟩])))) .skip)))))) (.reg false [] [⟨(some 65), none, (.mv (.v 18))⟩, ⟨(some 66), none, (.bin .add .none (.v 65) (.k (.int .i64 1)))⟩, ⟨(some 18), none, (.mv (.v 66))⟩])))
def ir8_b0 : C := ir8_d0
def ir8_l0 : C := .loop true [0, 1, 2, 8, 9, 10, 11, 12, 13, 14, 15, 16, 17, 18] ir8_b0
def ir8_d1 : C := (.seq (.seq (.reg false [] [⟨(some 47), none, (.mv (.v 17))⟩, ⟨(some 48), none, (.mv (.v 2))⟩, ⟨(some 49), none, (.bin .leq .none (.v 47) (.v 48))⟩, ⟨(some 50), none, (.mv (.v 49))⟩, ⟨(some 51), (some (50, true)), (.mv (.v 16))⟩, ⟨(some 52), (some (50, true)), (.un .not (.v 51))⟩, ⟨(some 53), none, (.pick (.v 50) (.v 52) (.k (.bool false)))⟩]) (.cond (.v 53) .skip (.exit 2))) (.seq (.block 3 (.seq (.reg false [] [⟨(some 18), none, (.mv (.k (.int .i64 0)))⟩]) (.block 4 ir8_l0))) (.reg false [] [⟨(some 54), none, (.mv (.v 17))⟩, ⟨(some 55), none, (.bin .add .none (.v 54) (.k (.int .i64 1)))⟩, ⟨(some 17), none, (.mv (.v 55))⟩])))
def ir8_b1 : C := ir8_d1
def ir8_l1 : C := .loop true [0, 1, 2, 8, 9, 10, 11, 12, 13, 14, 15, 16, 17] ir8_b1
def ir8_d2 : C := (.seq (.seq (.reg false [] [⟨(some 43), none, (.mv (.v 13))⟩, ⟨(some 44), none, (.bin .gtr .none (.v 43) (.k (.int .i64 0)))⟩]) (.cond (.v 44) .skip (.exit 0))) (.seq (.block 1 (.seq (.reg false [] [⟨(some 14), none, (.mv (.k (.int .i64 0)))⟩, ⟨(some 15), none, (.mv (.k (.int .i64 0)))⟩]) (.seq (.reg false [] [⟨(some 16), none, (.mv (.k (.bool false)))⟩]) (.seq (.seq (.reg false [] [⟨(some 17), none, (.mv (.k (.int .i64 0)))⟩]) (.block 2 ir8_l1)) (.seq (.reg false [] [⟨(some 123), none, (.mv (.v 14))⟩, ⟨(some 10), none, (.mv (.v 123))⟩]) (.seq (.reg false [] [⟨(some 124), none, (.mv (.v 15))⟩, ⟨(some 11), none, (.mv (.v 124))⟩]) (.reg false [] [⟨(some 125), none, (.mv (.v 12))⟩, ⟨(some 126), none, (.bin .sub .none (.k (.int .i64 1)) (.v 125))⟩, ⟨(some 12), none, (.mv (.v 126))⟩]))))))) (.reg false [] [⟨(some 45), none, (.mv (.v 13))⟩, ⟨(some 46), none, (.bin .sub .none (.v 45) (.k (.int .i64 1)))⟩, ⟨(some 13), none, (.mv (.v 46))⟩])))
def ir8_b2 : C := ir8_d2
def ir8_l2 : C := .loop true [0, 1, 2, 8, 9, 10, 11, 12, 13] ir8_b2
def ir8_c : C := (.seq (.reg false [] [⟨(some 6), none, (.mv (.k .nil))⟩, ⟨(some 7), none, (.mv (.k (.bool false)))⟩]) (.seq (.seq (.reg false [] [⟨(some 21), none, (.mv (.v 0))⟩, ⟨(some 22), none, (.mv (.v 1))⟩, ⟨(some 23), none, (.mv (.v 2))⟩, ⟨(some 24), none, (.call 37 [(.v 21), (.v 22), (.v 23)])⟩, ⟨(some 25), none, (.un .not (.v 24))⟩, ⟨(some 26), none, (.mv (.v 25))⟩, ⟨(some 27), (some (26, false)), (.mv (.v 0))⟩, ⟨(some 28), (some (26, false)), (.mv (.v 1))⟩, ⟨(some 29), (some (26, false)), (.call 38 [(.v 27), (.v 28)])⟩, ⟨(some 30), (some (26, false)), (.un .not (.v 29))⟩, ⟨(some 31), none, (.pick (.v 26) (.k (.bool true)) (.v 30))⟩]) (.cond (.v 31) (.seq (.reg false [] [⟨(some 6), none, (.mv (.k .nil))⟩, ⟨(some 7), none, (.mv (.k (.bool false)))⟩]) .ret) .skip)) (.seq (.reg false [] [⟨(some 32), none, (.mv (.v 0))⟩, ⟨(some 33), none, (.mv (.v 1))⟩, ⟨(some 34), none, (.mv (.v 2))⟩, ⟨(some 35), none, (.call 39 [(.v 32), (.v 33), (.v 34)])⟩, ⟨(some 8), none, (.mv (.v 35))⟩]) (.seq (.seq (.reg false [] [⟨(some 36), none, (.mv (.v 8))⟩, ⟨(some 37), none, (.ixa 1 (.v 36) (.k (.int .i64 0)))⟩, ⟨(some 38), none, (.ld false 1 (.v 37))⟩, ⟨(some 39), none, (.bin .lss .none (.v 38) (.k (.int .i64 0)))⟩]) (.cond (.v 39) (.seq (.reg false [] [⟨(some 6), none, (.mv (.k .nil))⟩, ⟨(some 7), none, (.mv (.k (.bool false)))⟩]) .ret) .skip)) (.seq (.reg false [] [⟨(some 9), none, (.mv (.k .nil))⟩]) (.seq (.reg false [] [⟨(some 10), none, (.mv (.k (.int .i64 0)))⟩, ⟨(some 11), none, (.mv (.k (.int .i64 0)))⟩, ⟨(some 12), none, (.mv (.k (.int .i64 0)))⟩]) (.seq (.seq (.reg false [] [⟨(some 40), none, (.mv (.v 8))⟩, ⟨(some 41), none, (.ixa 1 (.v 40) (.k (.int .i64 0)))⟩, ⟨(some 42), none, (.ld false 1 (.v 41))⟩, ⟨(some 13), none, (.mv (.v 42))⟩]) (.block 0 ir8_l2)) (.seq (.reg false [] [⟨(some 127), none, (.mv (.v 9))⟩, ⟨(some 6), none, (.mv (.v 127))⟩, ⟨(some 7), none, (.mv (.k (.bool true)))⟩]) .ret))))))))
def ir8 : Fn := ⟨.ownF, 3, 128, [(.tmp 6), (.tmp 7)], ir8_c⟩
def ir9_c : C := (.seq (.reg false [] [⟨(some 6), none, (.mv (.k (.int .i64 0)))⟩, ⟨(some 7), none, (.mv (.k (.bool false)))⟩]) (.seq (.reg false [] [⟨(some 12), none, (.mv (.v 0))⟩, ⟨(some 13), none, (.mv (.v 1))⟩, ⟨(some 14), none, (.mv (.v 2))⟩, ⟨(some 15), none, (.bld [(.int .i64 0), (.int .i64 0), (.int .i64 0)] [(0, (1, (.v 12))), (1, (1, (.v 13))), (2, (1, (.v 14)))])⟩, ⟨(some 16), none, (.call 35 [(.v 15)])⟩, ⟨(some 11), none, (.mv (.v 16))⟩, ⟨(some 17), none, (.ext (.v 11) 0)⟩, ⟨(some 18), none, (.ext (.v 11) 1)⟩, ⟨(some 19), none, (.ext (.v 11) 2)⟩, ⟨(some 8), none, (.alc 2 [(.int .i64 0), .nilf])⟩, ⟨none, none, (.st 2 (.v 8) (.v 17))⟩, ⟨(some 9), none, (.mv (.v 18))⟩, ⟨(some 10), none, (.mv (.v 19))⟩]) (.seq (.seq (.reg false [] [⟨(some 20), none, (.mv (.v 10))⟩, ⟨(some 21), none, (.un .not (.v 20))⟩]) (.cond (.v 21) (.seq (.reg false [] [⟨(some 6), none, (.mv (.k (.int .i64 0)))⟩, ⟨(some 7), none, (.mv (.k (.bool false)))⟩]) .ret) .skip)) (.seq (.reg false [] [⟨(some 22), none, (.mv (.v 9))⟩, ⟨(some 23), none, (.ixa 1 (.v 22) (.k (.int .i64 0)))⟩, ⟨(some 24), none, (.ld false 1 (.v 23))⟩, ⟨(some 6), none, (.mv (.v 24))⟩, ⟨(some 7), none, (.mv (.k (.bool true)))⟩]) .ret))))
def ir9 : Fn := ⟨.own, 3, 25, [(.tmp 6), (.tmp 7)], ir9_c⟩
def ir10_c : C := (.seq (.reg false [] [⟨(some 6), none, (.mv (.k (.int .i64 0)))⟩, ⟨(some 7), none, (.mv (.k (.bool false)))⟩]) (.seq (.seq (.reg false [] [⟨(some 9), none, (.mv (.v 0))⟩, ⟨(some 10), none, (.mv (.v 1))⟩, ⟨(some 11), none, (.mv (.v 2))⟩, ⟨(some 12), none, (.call 37 [(.v 9), (.v 10), (.v 11)])⟩, ⟨(some 13), none, (.un .not (.v 12))⟩, ⟨(some 14), none, (.mv (.v 13))⟩, ⟨(some 15), (some (14, false)), (.mv (.v 0))⟩, ⟨(some 16), (some (14, false)), (.mv (.v 1))⟩, ⟨(some 17), (some (14, false)), (.call 38 [(.v 15), (.v 16)])⟩, ⟨(some 18), (some (14, false)), (.un .not (.v 17))⟩, ⟨(some 19), none, (.pick (.v 14) (.k (.bool true)) (.v 18))⟩]) (.cond (.v 19) (.seq (.reg false [] [⟨(some 6), none, (.mv (.k (.int .i64 0)))⟩, ⟨(some 7), none, (.mv (.k (.bool false)))⟩]) .ret) .skip)) (.seq (.reg false [] [⟨(some 20), none, (.mv (.v 0))⟩, ⟨(some 21), none, (.mv (.v 1))⟩, ⟨(some 22), none, (.mv (.v 2))⟩, ⟨(some 23), none, (.call 39 [(.v 20), (.v 21), (.v 22)])⟩, ⟨(some 8), none, (.mv (.v 23))⟩]) (.seq (.seq (.reg false [] [⟨(some 24), none, (.mv (.v 8))⟩, ⟨(some 25), none, (.ixa 1 (.v 24) (.k (.int .i64 0)))⟩, ⟨(some 26), none, (.ld false 1 (.v 25))⟩, ⟨(some 27), none, (.bin .lss .none (.v 26) (.k (.int .i64 0)))⟩]) (.cond (.v 27) (.seq (.reg false [] [⟨(some 6), none, (.mv (.k (.int .i64 0)))⟩, ⟨(some 7), none, (.mv (.k (.bool false)))⟩]) .ret) .skip)) (.seq (.reg false [] [⟨(some 28), none, (.mv (.v 8))⟩, ⟨(some 29), none, (.ixa 1 (.v 28) (.k (.int .i64 0)))⟩, ⟨(some 30), none, (.ld false 1 (.v 29))⟩, ⟨(some 6), none, (.mv (.v 30))⟩, ⟨(some 7), none, (.mv (.k (.bool true)))⟩]) .ret)))))
def ir10 : Fn := ⟨.own, 3, 31, [(.tmp 6), (.tmp 7)], ir10_c⟩
def ir11_d0 : C := (.seq (.reg false [] [⟨(some 14), none, (.bin .lss .none (.v 13) (.v 12))⟩]) (.seq (.cond (.v 14) .skip (.exit 0)) (.seq (.block 1 (.seq (.reg false [] [⟨(some 15), none, (.mv (.v 13))⟩, ⟨(some 5), none, (.mv (.v 15))⟩]) (.seq (.reg true [0, 0, 3, 7, 0, 0, 48, 112, 255, 511] [⟨(some 16), none, (.mv (.v 0))⟩, ⟨(some 17), none, (.mv (.v 5))⟩, ⟨(some 18), none, (.ixa 1 (.v 16) (.v 17))⟩, ⟨(some 19), none, (.ld false 1 (.v 18))⟩, ⟨(some 20), none, (.mv (.v 1))⟩, ⟨(some 21), none, (.mv (.v 5))⟩, ⟨(some 22), none, (.ixa 1 (.v 20) (.v 21))⟩, ⟨(some 23), none, (.ld false 1 (.v 22))⟩, ⟨(some 24), none, (.call 32 [(.v 19), (.v 23)])⟩, ⟨(some 25), none, (.un .not (.v 24))⟩]) (.cond (.v 25) (.seq (.reg false [] [⟨(some 4), none, (.mv (.k (.bool false)))⟩]) .ret) .skip)))) (.reg false [] [⟨(some 26), none, (.bin .add .none (.v 13) (.k (.int .i64 1)))⟩, ⟨(some 13), none, (.mv (.v 26))⟩]))))
def ir11_b0 : C := ir11_d0
def ir11_l0 : C := .loop true [0, 1, 12, 13] ir11_b0
def ir11_c : C := (.seq (.reg false [] [⟨(some 4), none, (.mv (.k (.bool false)))⟩]) (.seq (.seq (.reg false [] [⟨(some 6), none, (.mv (.v 0))⟩, ⟨(some 7), none, (.len 1 (.v 6))⟩, ⟨(some 8), none, (.mv (.v 1))⟩, ⟨(some 9), none, (.len 1 (.v 8))⟩, ⟨(some 10), none, (.bin .neq .none (.v 7) (.v 9))⟩]) (.cond (.v 10) (.seq (.reg false [] [⟨(some 4), none, (.mv (.k (.bool false)))⟩]) .ret) .skip)) (.seq (.seq (.reg false [] [⟨(some 11), none, (.mv (.v 0))⟩, ⟨(some 12), none, (.len 1 (.v 11))⟩, ⟨(some 13), none, (.mv (.k (.int .i64 0)))⟩]) (.block 0 ir11_l0)) (.seq (.reg false [] [⟨(some 4), none, (.mv (.k (.bool true)))⟩]) .ret))))
def ir11 : Fn := ⟨.own, 2, 27, [(.tmp 4)], ir11_c⟩
def ir12_d0 : C := (.seq (.seq (.reg false [] [⟨(some 10), none, (.mv (.v 6))⟩, ⟨(some 11), none, (.bin .leq .none (.v 10) (.k (.int .i64 4)))⟩]) (.cond (.v 11) .skip (.exit 0))) (.seq (.block 1 (.seq (.reg false [] [⟨(some 15), none, (.mv (.v 0))⟩, ⟨(some 16), none, (.mv (.v 1))⟩, ⟨(some 17), none, (.mv (.v 6))⟩, ⟨(some 18), none, (.bld [(.int .i64 0), (.int .i64 0), (.int .i64 0)] [(0, (1, (.v 15))), (1, (1, (.v 16))), (2, (1, (.v 17)))])⟩, ⟨(some 19), none, (.call 35 [(.v 18)])⟩, ⟨(some 14), none, (.mv (.v 19))⟩, ⟨(some 20), none, (.ext (.v 14) 0)⟩, ⟨(some 21), none, (.ext (.v 14) 1)⟩, ⟨(some 22), none, (.ext (.v 14) 2)⟩, ⟨(some 7), none, (.alc 2 [(.int .i64 0), .nilf])⟩, ⟨none, none, (.st 2 (.v 7) (.v 20))⟩, ⟨(some 8), none, (.mv (.v 21))⟩, ⟨(some 9), none, (.mv (.v 22))⟩]) (.seq (.reg false [] [⟨(some 23), none, (.mv (.v 9))⟩]) (.cond (.v 23) (.seq (.reg false [] [⟨(some 24), none, (.mv (.v 6))⟩, ⟨(some 4), none, (.mv (.v 24))⟩, ⟨(some 5), none, (.mv (.k (.bool true)))⟩]) .ret) .skip)))) (.reg false [] [⟨(some 12), none, (.mv (.v 6))⟩, ⟨(some 13), none, (.bin .add .none (.v 12) (.k (.int .i64 1)))⟩, ⟨(some 6), none, (.mv (.v 13))⟩])))
def ir12_b0 : C := ir12_d0
def ir12_l0 : C := .loop true [0, 1, 6] ir12_b0
def ir12_c : C := (.seq (.reg false [] [⟨(some 4), none, (.mv (.k (.int .i64 0)))⟩, ⟨(some 5), none, (.mv (.k (.bool false)))⟩]) (.seq (.seq (.reg false [] [⟨(some 6), none, (.mv (.k (.int .i64 1)))⟩]) (.block 0 ir12_l0)) (.seq (.reg false [] [⟨(some 4), none, (.mv (.k (.int .i64 0)))⟩, ⟨(some 5), none, (.mv (.k (.bool false)))⟩]) .ret)))
def ir12 : Fn := ⟨.own, 2, 25, [(.tmp 4), (.tmp 5)], ir12_c⟩
def ir13_c : C := (.seq (.reg false [] [⟨(some 2), none, (.mv (.k (.int .i64 0)))⟩, ⟨(some 3), none, (.mv (.k (.int .i64 0)))⟩]) (.seq (.reg false [] [⟨(some 8), none, (.mv (.v 0))⟩, ⟨(some 9), none, (.bld [.nil, (.int .i64 0), (.int .u64 0)] [(0, (1, (.v 8)))])⟩, ⟨(some 10), none, (.box (.v 9))⟩, ⟨(some 4), none, (.mv (.v 10))⟩]) (.seq (.reg false [] [⟨(some 12), none, (.mv (.v 0))⟩, ⟨(some 13), none, (.call 34 [(.v 12)])⟩, ⟨(some 11), none, (.mv (.v 13))⟩, ⟨(some 14), none, (.ext (.v 11) 0)⟩, ⟨(some 15), none, (.ext (.v 11) 1)⟩, ⟨(some 16), none, (.ext (.v 11) 2)⟩, ⟨(some 5), none, (.mv (.v 14))⟩, ⟨(some 6), none, (.mv (.v 15))⟩, ⟨(some 7), none, (.mv (.v 16))⟩]) (.seq (.seq (.reg false [] [⟨(some 17), none, (.mv (.v 4))⟩, ⟨(some 18), none, (.call 42 [(.v 17), (.k (.int .i64 6))])⟩]) (.cond (.v 18) (.seq (.reg false [] [⟨(some 19), none, (.mv (.v 4))⟩, ⟨(some 20), none, (.call 43 [(.v 19), (.k (.int .i64 4))])⟩, ⟨(some 21), none, (.mv (.v 4))⟩, ⟨(some 22), none, (.call 43 [(.v 21), (.k (.int .i64 6))])⟩, ⟨(some 2), none, (.mv (.v 20))⟩, ⟨(some 3), none, (.mv (.v 22))⟩]) .ret) .skip)) (.seq (.reg false [] [⟨(some 23), none, (.mv (.v 5))⟩, ⟨(some 24), none, (.mv (.v 6))⟩, ⟨(some 2), none, (.mv (.v 23))⟩, ⟨(some 3), none, (.mv (.v 24))⟩]) .ret)))))
def ir13 : Fn := ⟨.own, 1, 25, [(.tmp 2), (.tmp 3)], ir13_c⟩
def ir14_d0 : C := (.seq (.seq (.reg false [] [⟨(some 9), none, (.mv (.v 6))⟩, ⟨(some 10), none, (.bin .leq .none (.v 9) (.k (.int .i64 4)))⟩]) (.cond (.v 10) .skip (.exit 0))) (.seq (.block 1 (.seq (.reg false [] [⟨(some 14), none, (.mv (.v 0))⟩, ⟨(some 15), none, (.mv (.v 1))⟩, ⟨(some 16), none, (.mv (.v 6))⟩, ⟨(some 17), none, (.call 10 [(.v 14), (.v 15), (.v 16)])⟩, ⟨(some 13), none, (.mv (.v 17))⟩, ⟨(some 18), none, (.ext (.v 13) 0)⟩, ⟨(some 19), none, (.ext (.v 13) 1)⟩, ⟨(some 7), none, (.mv (.v 18))⟩, ⟨(some 8), none, (.mv (.v 19))⟩]) (.seq (.reg false [] [⟨(some 20), none, (.mv (.v 8))⟩]) (.cond (.v 20) (.seq (.reg false [] [⟨(some 21), none, (.mv (.v 6))⟩, ⟨(some 4), none, (.mv (.v 21))⟩, ⟨(some 5), none, (.mv (.k (.bool true)))⟩]) .ret) .skip)))) (.reg false [] [⟨(some 11), none, (.mv (.v 6))⟩, ⟨(some 12), none, (.bin .add .none (.v 11) (.k (.int .i64 1)))⟩, ⟨(some 6), none, (.mv (.v 12))⟩])))
def ir14_b0 : C := ir14_d0
def ir14_l0 : C := .loop true [0, 1, 6] ir14_b0
def ir14_c : C := (.seq (.reg false [] [⟨(some 4), none, (.mv (.k (.int .i64 0)))⟩, ⟨(some 5), none, (.mv (.k (.bool false)))⟩]) (.seq (.seq (.reg false [] [⟨(some 6), none, (.mv (.k (.int .i64 1)))⟩]) (.block 0 ir14_l0)) (.seq (.reg false [] [⟨(some 4), none, (.mv (.k (.int .i64 0)))⟩, ⟨(some 5), none, (.mv (.k (.bool false)))⟩]) .ret)))
def ir14 : Fn := ⟨.own, 2, 22, [(.tmp 4), (.tmp 5)], ir14_c⟩
def ir15_d0 : C := (.seq (.seq (.reg false [] [⟨(some 21), none, (.mv (.v 9))⟩, ⟨(some 22), none, (.mv (.v 1))⟩, ⟨(some 23), none, (.bin .leq .none (.v 21) (.v 22))⟩]) (.cond (.v 23) .skip (.exit 2))) (.seq (.block 3 (.reg false [] [⟨(some 26), none, (.mv (.v 7))⟩, ⟨(some 27), none, (.ld true 3 (.v 6))⟩, ⟨(some 28), none, (.mv (.v 8))⟩, ⟨(some 29), none, (.mv (.v 9))⟩, ⟨(some 30), none, (.call 46 [(.v 27), (.v 28), (.v 29)])⟩, ⟨(some 31), none, (.call 45 [(.v 30)])⟩, ⟨(some 32), none, (.bin .add .none (.v 26) (.v 31))⟩, ⟨(some 7), none, (.mv (.v 32))⟩])) (.reg false [] [⟨(some 24), none, (.mv (.v 9))⟩, ⟨(some 25), none, (.bin .add .none (.v 24) (.k (.int .i64 1)))⟩, ⟨(some 9), none, (.mv (.v 25))⟩])))
def ir15_b0 : C := ir15_d0
def ir15_l0 : C := .loop true [0, 1, 6, 7, 8, 9] ir15_b0
def ir15_d1 : C := (.seq (.seq (.reg false [] [⟨(some 16), none, (.mv (.v 8))⟩, ⟨(some 17), none, (.mv (.v 0))⟩, ⟨(some 18), none, (.bin .leq .none (.v 16) (.v 17))⟩]) (.cond (.v 18) .skip (.exit 0))) (.seq (.block 1 (.seq (.reg false [] [⟨(some 9), none, (.mv (.k (.int .i64 0)))⟩]) (.block 2 ir15_l0))) (.reg false [] [⟨(some 19), none, (.mv (.v 8))⟩, ⟨(some 20), none, (.bin .add .none (.v 19) (.k (.int .i64 1)))⟩, ⟨(some 8), none, (.mv (.v 20))⟩])))
def ir15_b1 : C := ir15_d1
def ir15_l1 : C := .loop true [0, 1, 6, 7, 8] ir15_b1
def ir15_c : C := (.seq (.reg false [] [⟨(some 4), none, (.mv (.k (.int .i64 0)))⟩, ⟨(some 5), none, (.mv (.k (.bool false)))⟩]) (.seq (.reg false [] [⟨(some 10), none, (.mv (.v 0))⟩, ⟨(some 11), none, (.mv (.v 1))⟩, ⟨(some 12), none, (.bld [(.int .i64 0), (.int .i64 0), (.int .i64 0)] [(0, (1, (.v 10))), (1, (1, (.v 11))), (2, (1, (.k (.int .i64 1))))])⟩, ⟨(some 6), none, (.alc 3 [(.int .i64 0), (.int .i64 0), (.int .i64 0)])⟩, ⟨none, none, (.st 3 (.v 6) (.v 12))⟩]) (.seq (.seq (.reg false [] [⟨(some 13), none, (.ld true 3 (.v 6))⟩, ⟨(some 14), none, (.call 44 [(.v 13)])⟩, ⟨(some 15), none, (.un .not (.v 14))⟩]) (.cond (.v 15) (.seq (.reg false [] [⟨(some 4), none, (.mv (.k (.int .i64 0)))⟩, ⟨(some 5), none, (.mv (.k (.bool false)))⟩]) .ret) .skip)) (.seq (.reg false [] [⟨(some 7), none, (.mv (.k (.int .i64 0)))⟩]) (.seq (.seq (.reg false [] [⟨(some 8), none, (.mv (.k (.int .i64 0)))⟩]) (.block 0 ir15_l1)) (.seq (.reg false [] [⟨(some 33), none, (.mv (.v 7))⟩, ⟨(some 4), none, (.mv (.v 33))⟩, ⟨(some 5), none, (.mv (.k (.bool true)))⟩]) .ret))))))
def ir15 : Fn := ⟨.own, 2, 34, [(.tmp 4), (.tmp 5)], ir15_c⟩
def ir16_d0 : C := (.seq (.seq (.reg false [] [⟨(some 18), none, (.mv (.v 8))⟩, ⟨(some 19), none, (.mv (.v 1))⟩, ⟨(some 20), none, (.bin .leq .none (.v 18) (.v 19))⟩]) (.cond (.v 20) .skip (.exit 2))) (.seq (.block 3 (.seq (.reg false [] [⟨(some 23), none, (.mv (.v 0))⟩, ⟨(some 24), none, (.mv (.v 1))⟩, ⟨(some 25), none, (.mv (.v 7))⟩, ⟨(some 26), none, (.mv (.v 8))⟩, ⟨(some 27), none, (.call 47 [(.v 23), (.v 24), (.v 25), (.v 26)])⟩]) (.cond (.v 27) (.reg false [] [⟨(some 28), none, (.mv (.v 6))⟩, ⟨(some 29), none, (.bin .add .none (.v 28) (.k (.int .i64 1)))⟩, ⟨(some 6), none, (.mv (.v 29))⟩]) .skip))) (.reg false [] [⟨(some 21), none, (.mv (.v 8))⟩, ⟨(some 22), none, (.bin .add .none (.v 21) (.k (.int .i64 1)))⟩, ⟨(some 8), none, (.mv (.v 22))⟩])))
def ir16_b0 : C := ir16_d0
def ir16_l0 : C := .loop true [0, 1, 6, 7, 8] ir16_b0
def ir16_d1 : C := (.seq (.seq (.reg false [] [⟨(some 13), none, (.mv (.v 7))⟩, ⟨(some 14), none, (.mv (.v 0))⟩, ⟨(some 15), none, (.bin .leq .none (.v 13) (.v 14))⟩]) (.cond (.v 15) .skip (.exit 0))) (.seq (.block 1 (.seq (.reg false [] [⟨(some 8), none, (.mv (.k (.int .i64 0)))⟩]) (.block 2 ir16_l0))) (.reg false [] [⟨(some 16), none, (.mv (.v 7))⟩, ⟨(some 17), none, (.bin .add .none (.v 16) (.k (.int .i64 1)))⟩, ⟨(some 7), none, (.mv (.v 17))⟩])))
def ir16_b1 : C := ir16_d1
def ir16_l1 : C := .loop true [0, 1, 6, 7] ir16_b1
def ir16_c : C := (.seq (.reg false [] [⟨(some 4), none, (.mv (.k (.int .i64 0)))⟩, ⟨(some 5), none, (.mv (.k (.bool false)))⟩]) (.seq (.seq (.reg false [] [⟨(some 9), none, (.mv (.v 0))⟩, ⟨(some 10), none, (.mv (.v 1))⟩, ⟨(some 11), none, (.call 37 [(.v 9), (.v 10), (.k (.int .i64 1))])⟩, ⟨(some 12), none, (.un .not (.v 11))⟩]) (.cond (.v 12) (.seq (.reg false [] [⟨(some 4), none, (.mv (.k (.int .i64 0)))⟩, ⟨(some 5), none, (.mv (.k (.bool false)))⟩]) .ret) .skip)) (.seq (.reg false [] [⟨(some 6), none, (.mv (.k (.int .i64 0)))⟩]) (.seq (.seq (.reg false [] [⟨(some 7), none, (.mv (.k (.int .i64 0)))⟩]) (.block 0 ir16_l1)) (.seq (.reg false [] [⟨(some 30), none, (.mv (.v 6))⟩, ⟨(some 4), none, (.mv (.v 30))⟩, ⟨(some 5), none, (.mv (.k (.bool true)))⟩]) .ret)))))
def ir16 : Fn := ⟨.own, 2, 31, [(.tmp 4), (.tmp 5)], ir16_c⟩
def ir35_c : C := (.seq (.reg false [] [⟨(some 1), none, (.box (.v 0))⟩, ⟨(some 2), none, (.alc 2 [(.int .i64 0), .nilf])⟩, ⟨(some 3), none, (.mv (.k .nil))⟩, ⟨(some 4), none, (.mv (.k (.bool false)))⟩]) (.seq (.reg false [] [⟨(some 7), none, (.ld true 3 (.v 1))⟩, ⟨(some 8), none, (.call 74 [(.v 7)])⟩, ⟨(some 5), none, (.alc 2 [(.int .i64 0), .nilf])⟩, ⟨none, none, (.st 2 (.v 5) (.v 8))⟩]) (.seq (.seq (.reg false [] [⟨(some 9), none, (.ld true 3 (.v 1))⟩, ⟨(some 10), none, (.call 44 [(.v 9)])⟩, ⟨(some 11), none, (.un .not (.v 10))⟩, ⟨(some 12), none, (.mv (.v 11))⟩, ⟨(some 13), (some (12, false)), (.ld true 3 (.v 1))⟩, ⟨(some 14), (some (12, false)), (.call 46 [(.v 13), (.k (.int .i64 0)), (.k (.int .i64 0))])⟩, ⟨(some 15), (some (12, false)), (.un .not (.v 14))⟩, ⟨(some 16), none, (.pick (.v 12) (.k (.bool true)) (.v 15))⟩]) (.cond (.v 16) (.seq (.reg false [] [⟨(some 17), none, (.ld true 2 (.v 5))⟩, ⟨none, none, (.st 2 (.v 2) (.v 17))⟩, ⟨(some 3), none, (.mv (.k .nil))⟩, ⟨(some 4), none, (.mv (.k (.bool false)))⟩]) .ret) .skip)) (.seq (.reg false [] [⟨(some 18), none, (.ld true 2 (.v 5))⟩, ⟨(some 19), none, (.fad 0 (.v 1))⟩, ⟨(some 20), none, (.ld false 1 (.v 19))⟩, ⟨(some 21), none, (.bin .mul .none (.v 20) (.k (.int .i64 9)))⟩, ⟨(some 22), none, (.fad 1 (.v 1))⟩, ⟨(some 23), none, (.ld false 1 (.v 22))⟩, ⟨(some 24), none, (.bin .add .none (.v 21) (.v 23))⟩, ⟨(some 25), none, (.bin .mul .none (.k (.int .i64 2)) (.v 24))⟩, ⟨(some 26), none, (.bin .add .none (.v 25) (.k (.int .i64 1)))⟩, ⟨(some 27), none, (.bsl false 1 1 (.int .i64 0) [(0, (.v 26))])⟩, ⟨(some 28), none, (.call 75 [(.v 18), (.v 27)])⟩, ⟨(some 6), none, (.mv (.v 28))⟩]) (.seq (.reg true [0, 0, 0, 4, 12, 28, 1, 67, 255] [⟨(some 29), none, (.ld true 2 (.v 5))⟩, ⟨(some 30), none, (.mv (.v 6))⟩, ⟨(some 31), none, (.mv (.v 6))⟩, ⟨(some 32), none, (.ixa 1 (.v 31) (.k (.int .i64 0)))⟩, ⟨(some 33), none, (.ld false 1 (.v 32))⟩, ⟨(some 34), none, (.bin .geq .none (.v 33) (.k (.int .i64 0)))⟩, ⟨none, none, (.st 2 (.v 2) (.v 29))⟩, ⟨(some 3), none, (.mv (.v 30))⟩, ⟨(some 4), none, (.mv (.v 34))⟩]) .ret)))))
def ir35 : Fn := ⟨.ownF, 1, 35, [(.cell 2 true 2), (.tmp 3), (.tmp 4)], ir35_c⟩
def ir36_d0 : C := (.seq (.seq (.reg false [] [⟨(some 10), none, (.mv (.v 2))⟩, ⟨(some 11), none, (.mv (.v 1))⟩, ⟨(some 12), none, (.ixa 1 (.v 10) (.v 11))⟩, ⟨(some 13), none, (.ld false 1 (.v 12))⟩, ⟨(some 14), none, (.bin .gtr .none (.v 13) (.k (.int .i64 0)))⟩]) (.cond (.v 14) .skip (.exit 0))) (.block 1 (.seq (.reg false [] [⟨(some 15), none, (.ld true 2 (.v 3))⟩, ⟨(some 16), none, (.mv (.v 1))⟩, ⟨(some 17), none, (.mv (.v 2))⟩, ⟨(some 18), none, (.call 76 [(.v 15), (.v 16), (.v 17)])⟩, ⟨(some 19), none, (.ixa 3 (.v 18) (.k (.int .i64 0)))⟩, ⟨(some 20), none, (.ld true 3 (.v 19))⟩, ⟨(some 8), none, (.alc 3 [(.int .i64 0), (.int .i64 0), .nil])⟩, ⟨none, none, (.st 3 (.v 8) (.v 20))⟩]) (.reg true [0, 0, 2, 6, 15, 0, 32, 31, 255] [⟨(some 21), none, (.mv (.v 7))⟩, ⟨(some 22), none, (.fad 2 (.v 8))⟩, ⟨(some 23), none, (.ld false 1 (.v 22))⟩, ⟨(some 24), none, (.bsl false 1 1 .nil [(0, (.v 23))])⟩, ⟨(some 25), none, (.app false 1 (.v 21) (.v 24))⟩, ⟨(some 26), none, (.fad 0 (.v 8))⟩, ⟨(some 27), none, (.ld false 1 (.v 26))⟩, ⟨(some 7), none, (.mv (.v 25))⟩, ⟨(some 1), none, (.mv (.v 27))⟩]))))
def ir36_b0 : C := ir36_d0
def ir36_l0 : C := .loop true [1, 2, 3, 7] ir36_b0
def ir36_c : C := (.seq (.reg false [] [⟨(some 3), none, (.box (.v 0))⟩, ⟨(some 6), none, (.mv (.k .nil))⟩]) (.seq (.reg false [] [⟨(some 9), none, (.bsl false 1 0 .nil [])⟩, ⟨(some 7), none, (.mv (.v 9))⟩]) (.seq (.block 0 ir36_l0) (.seq (.reg false [] [⟨(some 28), none, (.mv (.v 7))⟩, ⟨(some 6), none, (.mv (.v 28))⟩]) .ret))))
def ir36 : Fn := ⟨.ownF, 3, 29, [(.tmp 6)], ir36_c⟩
def ir37_c : C := (.seq (.reg false [] [⟨(some 6), none, (.mv (.k (.bool false)))⟩]) (.seq (.reg false [] [⟨(some 7), none, (.mv (.v 0))⟩, ⟨(some 8), none, (.call 40 [(.v 7), (.k (.int .i64 0)), (.k (.int .i64 8))])⟩, ⟨(some 9), none, (.mv (.v 8))⟩, ⟨(some 10), (some (9, true)), (.mv (.v 1))⟩, ⟨(some 11), (some (9, true)), (.call 40 [(.v 10), (.k (.int .i64 0)), (.k (.int .i64 8))])⟩, ⟨(some 12), none, (.pick (.v 9) (.v 11) (.k (.bool false)))⟩, ⟨(some 13), none, (.mv (.v 12))⟩, ⟨(some 14), (some (13, true)), (.mv (.v 0))⟩, ⟨(some 15), (some (13, true)), (.mv (.v 1))⟩, ⟨(some 16), (some (13, true)), (.bin .add .none (.v 14) (.v 15))⟩, ⟨(some 17), (some (13, true)), (.bin .gtr .none (.v 16) (.k (.int .i64 0)))⟩, ⟨(some 18), none, (.pick (.v 13) (.v 17) (.k (.bool false)))⟩, ⟨(some 19), none, (.mv (.v 18))⟩, ⟨(some 20), (some (19, true)), (.mv (.v 2))⟩, ⟨(some 21), (some (19, true)), (.call 40 [(.v 20), (.k (.int .i64 1)), (.k (.int .i64 4))])⟩, ⟨(some 22), none, (.pick (.v 19) (.v 21) (.k (.bool false)))⟩, ⟨(some 6), none, (.mv (.v 22))⟩]) .ret))
def ir37 : Fn := ⟨.own, 3, 23, [(.tmp 6)], ir37_c⟩
def ir38_c : C := (.seq (.reg false [] [⟨(some 4), none, (.mv (.k (.bool false)))⟩]) (.seq (.reg false [] [⟨(some 5), none, (.mv (.v 0))⟩, ⟨(some 6), none, (.bin .eql .none (.v 5) (.k (.int .i64 0)))⟩, ⟨(some 7), none, (.mv (.v 6))⟩, ⟨(some 8), (some (7, false)), (.mv (.v 0))⟩, ⟨(some 9), (some (7, false)), (.mv (.v 1))⟩, ⟨(some 10), (some (7, false)), (.bin .geq .none (.v 8) (.v 9))⟩, ⟨(some 11), none, (.pick (.v 7) (.k (.bool true)) (.v 10))⟩, ⟨(some 4), none, (.mv (.v 11))⟩]) .ret))
def ir38 : Fn := ⟨.own, 2, 12, [(.tmp 4)], ir38_c⟩
def ir39_d0 : C := (.seq (.seq (.reg false [] [⟨(some 73), none, (.mv (.v 16))⟩, ⟨(some 74), none, (.mv (.v 17))⟩, ⟨(some 75), none, (.bin .add .none (.v 73) (.v 74))⟩, ⟨(some 76), none, (.mv (.v 2))⟩, ⟨(some 77), none, (.bin .leq .none (.v 75) (.v 76))⟩]) (.cond (.v 77) .skip (.exit 6))) (.seq (.block 7 (.seq (.reg false [] [⟨(some 80), none, (.mv (.v 14))⟩, ⟨(some 81), none, (.mv (.v 16))⟩, ⟨(some 82), none, (.bin .sub .none (.v 80) (.v 81))⟩, ⟨(some 83), none, (.mv (.v 15))⟩, ⟨(some 84), none, (.mv (.v 17))⟩, ⟨(some 85), none, (.bin .sub .none (.v 83) (.v 84))⟩, ⟨(some 18), none, (.mv (.v 82))⟩, ⟨(some 19), none, (.mv (.v 85))⟩]) (.seq (.seq (.reg false [] [⟨(some 86), none, (.mv (.v 13))⟩, ⟨(some 87), none, (.bin .eql .none (.v 86) (.k (.int .i64 0)))⟩]) (.cond (.v 87) (.seq (.reg false [] [⟨(some 88), none, (.mv (.v 14))⟩, ⟨(some 89), none, (.mv (.v 16))⟩, ⟨(some 90), none, (.bin .add .none (.v 88) (.v 89))⟩, ⟨(some 18), none, (.mv (.v 90))⟩]) (.reg false [] [⟨(some 91), none, (.mv (.v 15))⟩, ⟨(some 92), none, (.mv (.v 17))⟩, ⟨(some 93), none, (.bin .add .none (.v 91) (.v 92))⟩, ⟨(some 19), none, (.mv (.v 93))⟩])) .skip)) (.seq (.seq (.reg false [] [⟨(some 94), none, (.mv (.v 16))⟩, ⟨(some 95), none, (.mv (.v 17))⟩, ⟨(some 96), none, (.bin .add .none (.v 94) (.v 95))⟩, ⟨(some 97), none, (.bin .eql .none (.v 96) (.k (.int .i64 0)))⟩, ⟨(some 98), none, (.mv (.v 97))⟩, ⟨(some 99), (some (98, false)), (.mv (.v 16))⟩, ⟨(some 100), (some (98, false)), (.mv (.v 17))⟩, ⟨(some 101), (some (98, false)), (.call 38 [(.v 99), (.v 100)])⟩, ⟨(some 102), (some (98, false)), (.un .not (.v 101))⟩, ⟨(some 103), none, (.pick (.v 98) (.k (.bool true)) (.v 102))⟩, ⟨(some 104), none, (.mv (.v 103))⟩, ⟨(some 105), (some (104, false)), (.mv (.v 18))⟩, ⟨(some 106), (some (104, false)), (.mv (.v 0))⟩, ⟨(some 107), (some (104, false)), (.call 40 [(.v 105), (.k (.int .i64 0)), (.v 106)])⟩, ⟨(some 108), (some (104, false)), (.un .not (.v 107))⟩, ⟨(some 109), none, (.pick (.v 104) (.k (.bool true)) (.v 108))⟩, ⟨(some 110), none, (.mv (.v 109))⟩, ⟨(some 111), (some (110, false)), (.mv (.v 19))⟩, ⟨(some 112), (some (110, false)), (.mv (.v 1))⟩, ⟨(some 113), (some (110, false)), (.call 40 [(.v 111), (.k (.int .i64 0)), (.v 112)])⟩, ⟨(some 114), (some (110, false)), (.un .not (.v 113))⟩, ⟨(some 115), none, (.pick (.v 110) (.k (.bool true)) (.v 114))⟩, ⟨(some 116), none, (.mv (.v 115))⟩, ⟨(some 117), (some (116, false)), (.mv (.v 0))⟩, ⟨(some 118), (some (116, false)), (.mv (.v 1))⟩, ⟨(some 119), (some (116, false)), (.mv (.v 18))⟩, ⟨(some 120), (some (116, false)), (.mv (.v 19))⟩, ⟨(some 121), (some (116, false)), (.call 47 [(.v 117), (.v 118), (.v 119), (.v 120)])⟩, ⟨(some 122), (some (116, false)), (.un .not (.v 121))⟩, ⟨(some 123), none, (.pick (.v 116) (.k (.bool true)) (.v 122))⟩]) (.cond (.v 123) (.exit 7) .skip)) (.seq (.reg false [] [⟨(some 124), none, (.mv (.v 1))⟩, ⟨(some 125), none, (.mv (.v 18))⟩, ⟨(some 126), none, (.mv (.v 19))⟩, ⟨(some 127), none, (.mv (.v 13))⟩, ⟨(some 128), none, (.bin .sub .none (.k (.int .i64 1)) (.v 127))⟩, ⟨(some 129), none, (.call 41 [(.v 124), (.v 125), (.v 126), (.v 128)])⟩, ⟨(some 20), none, (.mv (.v 129))⟩]) (.seq (.reg false [] [⟨(some 130), none, (.mv (.v 7))⟩, ⟨(some 131), none, (.mv (.v 20))⟩, ⟨(some 132), none, (.ixa 1 (.v 130) (.v 131))⟩, ⟨(some 133), none, (.ld false 1 (.v 132))⟩, ⟨(some 134), none, (.bin .lss .none (.v 133) (.k (.int .i64 0)))⟩]) (.cond (.v 134) (.seq (.reg false [] [⟨(some 135), none, (.mv (.v 7))⟩, ⟨(some 136), none, (.mv (.v 20))⟩, ⟨(some 137), none, (.mv (.v 7))⟩, ⟨(some 138), none, (.mv (.v 12))⟩, ⟨(some 139), none, (.ixa 1 (.v 137) (.v 138))⟩, ⟨(some 140), none, (.ld false 1 (.v 139))⟩, ⟨(some 141), none, (.bin .add .none (.v 140) (.k (.int .i64 1)))⟩, ⟨(some 142), none, (.ixa 1 (.v 135) (.v 136))⟩, ⟨none, none, (.st 1 (.v 142) (.v 141))⟩]) (.reg false [] [⟨(some 143), none, (.mv (.v 10))⟩, ⟨(some 144), none, (.mv (.v 20))⟩, ⟨(some 145), none, (.bsl false 1 1 (.int .i64 0) [(0, (.v 144))])⟩, ⟨(some 146), none, (.app false 1 (.v 143) (.v 145))⟩, ⟨(some 10), none, (.mv (.v 146))⟩])) .skip))))))) (.reg false [] [⟨(some 78), none, (.mv (.v 17))⟩, ⟨(some 79), none, (.bin .add .none (.v 78) (.k (.int .i64 1)))⟩, ⟨(some 17), none, (.mv (.v 79))⟩])))
def ir39_b0 : C := ir39_d0
def ir39_l0 : C := .loop true [0, 1, 2, 7, 10, 11, 12, 13, 14, 15, 16, 17] ir39_b0
def ir39_d1 : C := (.seq (.seq (.reg false [] [⟨(some 68), none, (.mv (.v 16))⟩, ⟨(some 69), none, (.mv (.v 2))⟩, ⟨(some 70), none, (.bin .leq .none (.v 68) (.v 69))⟩]) (.cond (.v 70) .skip (.exit 4))) (.seq (.block 5 (.seq (.reg false [] [⟨(some 17), none, (.mv (.k (.int .i64 0)))⟩]) (.block 6 ir39_l0))) (.reg false [] [⟨(some 71), none, (.mv (.v 16))⟩, ⟨(some 72), none, (.bin .add .none (.v 71) (.k (.int .i64 1)))⟩, ⟨(some 16), none, (.mv (.v 72))⟩])))
def ir39_b1 : C := ir39_d1
def ir39_l1 : C := .loop true [0, 1, 2, 7, 10, 11, 12, 13, 14, 15, 16] ir39_b1
def ir39_d2 : C := (.seq (.seq (.reg false [] [⟨(some 46), none, (.mv (.v 11))⟩, ⟨(some 47), none, (.mv (.v 10))⟩, ⟨(some 48), none, (.len 1 (.v 47))⟩, ⟨(some 49), none, (.bin .lss .none (.v 46) (.v 48))⟩]) (.cond (.v 49) .skip (.exit 2))) (.seq (.block 3 (.seq (.reg false [] [⟨(some 52), none, (.mv (.v 10))⟩, ⟨(some 53), none, (.mv (.v 11))⟩, ⟨(some 54), none, (.ixa 1 (.v 52) (.v 53))⟩, ⟨(some 55), none, (.ld false 1 (.v 54))⟩, ⟨(some 12), none, (.mv (.v 55))⟩]) (.seq (.reg false [] [⟨(some 56), none, (.mv (.v 12))⟩, ⟨(some 57), none, (.bin .rem .none (.v 56) (.k (.int .i64 2)))⟩, ⟨(some 13), none, (.mv (.v 57))⟩]) (.seq (.reg true [0, 1, 0, 4, 15, 0, 32, 0, 128, 480, 31, 2047] [⟨(some 58), none, (.mv (.v 12))⟩, ⟨(some 59), none, (.bin .quo .none (.v 58) (.k (.int .i64 2)))⟩, ⟨(some 60), none, (.mv (.v 1))⟩, ⟨(some 61), none, (.bin .add .none (.v 60) (.k (.int .i64 1)))⟩, ⟨(some 62), none, (.bin .quo .none (.v 59) (.v 61))⟩, ⟨(some 63), none, (.mv (.v 12))⟩, ⟨(some 64), none, (.bin .quo .none (.v 63) (.k (.int .i64 2)))⟩, ⟨(some 65), none, (.mv (.v 1))⟩, ⟨(some 66), none, (.bin .add .none (.v 65) (.k (.int .i64 1)))⟩, ⟨(some 67), none, (.bin .rem .none (.v 64) (.v 66))⟩, ⟨(some 14), none, (.mv (.v 62))⟩, ⟨(some 15), none, (.mv (.v 67))⟩]) (.seq (.reg false [] [⟨(some 16), none, (.mv (.k (.int .i64 0)))⟩]) (.block 4 ir39_l1)))))) (.reg false [] [⟨(some 50), none, (.mv (.v 11))⟩, ⟨(some 51), none, (.bin .add .none (.v 50) (.k (.int .i64 1)))⟩, ⟨(some 11), none, (.mv (.v 51))⟩])))
def ir39_b2 : C := ir39_d2
def ir39_l2 : C := .loop true [0, 1, 2, 7, 10, 11] ir39_b2
def ir39_d3 : C := (.seq (.reg false [] [⟨(some 31), none, (.bin .lss .none (.v 30) (.v 29))⟩]) (.seq (.cond (.v 31) .skip (.exit 0)) (.seq (.block 1 (.seq (.reg false [] [⟨(some 32), none, (.mv (.v 30))⟩, ⟨(some 8), none, (.mv (.v 32))⟩]) (.reg false [] [⟨(some 33), none, (.mv (.v 7))⟩, ⟨(some 34), none, (.mv (.v 8))⟩, ⟨(some 35), none, (.ixa 1 (.v 33) (.v 34))⟩, ⟨none, none, (.st 1 (.v 35) (.k (.int .i64 (-1))))⟩]))) (.reg false [] [⟨(some 36), none, (.bin .add .none (.v 30) (.k (.int .i64 1)))⟩, ⟨(some 30), none, (.mv (.v 36))⟩]))))
def ir39_b3 : C := ir39_d3
def ir39_l3 : C := .loop true [0, 1, 2, 7, 29, 30] ir39_b3
def ir39_c : C := (.seq (.reg false [] [⟨(some 6), none, (.mv (.k .nil))⟩]) (.seq (.reg false [] [⟨(some 21), none, (.mv (.v 0))⟩, ⟨(some 22), none, (.bin .add .none (.v 21) (.k (.int .i64 1)))⟩, ⟨(some 23), none, (.mv (.v 1))⟩, ⟨(some 24), none, (.bin .add .none (.v 23) (.k (.int .i64 1)))⟩, ⟨(some 25), none, (.bin .mul .none (.v 22) (.v 24))⟩, ⟨(some 26), none, (.bin .mul .none (.v 25) (.k (.int .i64 2)))⟩, ⟨(some 27), none, (.mks 1 (.int .i64 0) (.v 26) (.v 26))⟩, ⟨(some 7), none, (.mv (.v 27))⟩]) (.seq (.seq (.reg false [] [⟨(some 28), none, (.mv (.v 7))⟩, ⟨(some 29), none, (.len 1 (.v 28))⟩, ⟨(some 30), none, (.mv (.k (.int .i64 0)))⟩]) (.block 0 ir39_l3)) (.seq (.reg false [] [⟨(some 37), none, (.mv (.v 1))⟩, ⟨(some 38), none, (.mv (.v 0))⟩, ⟨(some 39), none, (.mv (.v 1))⟩, ⟨(some 40), none, (.call 41 [(.v 37), (.v 38), (.v 39), (.k (.int .i64 1))])⟩, ⟨(some 9), none, (.mv (.v 40))⟩]) (.seq (.reg false [] [⟨(some 41), none, (.mv (.v 7))⟩, ⟨(some 42), none, (.mv (.v 9))⟩, ⟨(some 43), none, (.ixa 1 (.v 41) (.v 42))⟩, ⟨none, none, (.st 1 (.v 43) (.k (.int .i64 0)))⟩]) (.seq (.reg false [] [⟨(some 44), none, (.mv (.v 9))⟩, ⟨(some 45), none, (.bsl false 1 1 (.int .i64 0) [(0, (.v 44))])⟩, ⟨(some 10), none, (.mv (.v 45))⟩]) (.seq (.seq (.reg false [] [⟨(some 11), none, (.mv (.k (.int .i64 0)))⟩]) (.block 2 ir39_l2)) (.seq (.reg false [] [⟨(some 147), none, (.mv (.v 7))⟩, ⟨(some 6), none, (.mv (.v 147))⟩]) .ret))))))))
def ir39 : Fn := ⟨.own, 3, 148, [(.tmp 6)], ir39_c⟩
def ir41_c : C := (.seq (.reg false [] [⟨(some 8), none, (.mv (.k (.int .i64 0)))⟩]) (.seq (.reg false [] [⟨(some 9), none, (.mv (.v 1))⟩, ⟨(some 10), none, (.mv (.v 0))⟩, ⟨(some 11), none, (.bin .add .none (.v 10) (.k (.int .i64 1)))⟩, ⟨(some 12), none, (.bin .mul .none (.v 9) (.v 11))⟩, ⟨(some 13), none, (.mv (.v 2))⟩, ⟨(some 14), none, (.bin .add .none (.v 12) (.v 13))⟩, ⟨(some 15), none, (.bin .mul .none (.v 14) (.k (.int .i64 2)))⟩, ⟨(some 16), none, (.mv (.v 3))⟩, ⟨(some 17), none, (.bin .add .none (.v 15) (.v 16))⟩, ⟨(some 8), none, (.mv (.v 17))⟩]) .ret))
def ir41 : Fn := ⟨.own, 4, 18, [(.tmp 8)], ir41_c⟩
def ir44_c : C := (.seq (.reg false [] [⟨(some 1), none, (.box (.v 0))⟩, ⟨(some 2), none, (.mv (.k (.bool false)))⟩]) (.seq (.reg false [] [⟨(some 3), none, (.fad 0 (.v 1))⟩, ⟨(some 4), none, (.ld false 1 (.v 3))⟩, ⟨(some 5), none, (.call 57 [(.v 4), (.k (.int .i64 0)), (.k (.int .i64 8))])⟩, ⟨(some 6), none, (.mv (.v 5))⟩, ⟨(some 7), (some (6, true)), (.fad 1 (.v 1))⟩, ⟨(some 8), (some (6, true)), (.ld false 1 (.v 7))⟩, ⟨(some 9), (some (6, true)), (.call 57 [(.v 8), (.k (.int .i64 0)), (.k (.int .i64 8))])⟩, ⟨(some 10), none, (.pick (.v 6) (.v 9) (.k (.bool false)))⟩, ⟨(some 11), none, (.mv (.v 10))⟩, ⟨(some 12), (some (11, true)), (.fad 0 (.v 1))⟩, ⟨(some 13), (some (11, true)), (.ld false 1 (.v 12))⟩, ⟨(some 14), (some (11, true)), (.fad 1 (.v 1))⟩, ⟨(some 15), (some (11, true)), (.ld false 1 (.v 14))⟩, ⟨(some 16), (some (11, true)), (.bin .add .none (.v 13) (.v 15))⟩, ⟨(some 17), (some (11, true)), (.bin .gtr .none (.v 16) (.k (.int .i64 0)))⟩, ⟨(some 18), none, (.pick (.v 11) (.v 17) (.k (.bool false)))⟩, ⟨(some 19), none, (.mv (.v 18))⟩, ⟨(some 20), (some (19, true)), (.fad 2 (.v 1))⟩, ⟨(some 21), (some (19, true)), (.ld false 1 (.v 20))⟩, ⟨(some 22), (some (19, true)), (.call 57 [(.v 21), (.k (.int .i64 1)), (.k (.int .i64 4))])⟩, ⟨(some 23), none, (.pick (.v 19) (.v 22) (.k (.bool false)))⟩, ⟨(some 2), none, (.mv (.v 23))⟩]) .ret))
def ir44 : Fn := ⟨.own, 1, 24, [(.tmp 2)], ir44_c⟩
def ir46_c : C := (.seq (.reg false [] [⟨(some 3), none, (.box (.v 0))⟩, ⟨(some 6), none, (.mv (.k (.bool false)))⟩]) (.seq (.reg false [] [⟨(some 7), none, (.mv (.v 1))⟩, ⟨(some 8), none, (.mv (.v 2))⟩, ⟨(some 9), none, (.call 78 [(.v 7), (.v 8)])⟩, ⟨(some 10), none, (.mv (.v 9))⟩, ⟨(some 11), (some (10, true)), (.fad 0 (.v 3))⟩, ⟨(some 12), (some (10, true)), (.ld false 1 (.v 11))⟩, ⟨(some 13), (some (10, true)), (.mv (.v 1))⟩, ⟨(some 14), (some (10, true)), (.bin .sub .none (.v 12) (.v 13))⟩, ⟨(some 15), (some (10, true)), (.fad 1 (.v 3))⟩, ⟨(some 16), (some (10, true)), (.ld false 1 (.v 15))⟩, ⟨(some 17), (some (10, true)), (.mv (.v 2))⟩, ⟨(some 18), (some (10, true)), (.bin .sub .none (.v 16) (.v 17))⟩, ⟨(some 19), (some (10, true)), (.call 78 [(.v 14), (.v 18)])⟩, ⟨(some 20), none, (.pick (.v 10) (.v 19) (.k (.bool false)))⟩, ⟨(some 6), none, (.mv (.v 20))⟩]) .ret))
def ir46 : Fn := ⟨.own, 3, 21, [(.tmp 6)], ir46_c⟩
def ir47_c : C := (.seq (.reg false [] [⟨(some 8), none, (.mv (.k (.bool false)))⟩]) (.seq (.reg false [] [⟨(some 9), none, (.mv (.v 2))⟩, ⟨(some 10), none, (.mv (.v 3))⟩, ⟨(some 11), none, (.call 38 [(.v 9), (.v 10)])⟩, ⟨(some 12), none, (.mv (.v 11))⟩, ⟨(some 13), (some (12, true)), (.mv (.v 0))⟩, ⟨(some 14), (some (12, true)), (.mv (.v 2))⟩, ⟨(some 15), (some (12, true)), (.bin .sub .none (.v 13) (.v 14))⟩, ⟨(some 16), (some (12, true)), (.mv (.v 1))⟩, ⟨(some 17), (some (12, true)), (.mv (.v 3))⟩, ⟨(some 18), (some (12, true)), (.bin .sub .none (.v 16) (.v 17))⟩, ⟨(some 19), (some (12, true)), (.call 38 [(.v 15), (.v 18)])⟩, ⟨(some 20), none, (.pick (.v 12) (.v 19) (.k (.bool false)))⟩, ⟨(some 8), none, (.mv (.v 20))⟩]) .ret))
def ir47 : Fn := ⟨.own, 4, 21, [(.tmp 8)], ir47_c⟩
def ir73_c : C := (.seq (.reg false [] [⟨(some 4), none, (.mv (.k (.int .i64 0)))⟩]) (.seq (.seq (.reg false [] [⟨(some 5), none, (.mv (.v 0))⟩, ⟨(some 6), none, (.mv (.v 1))⟩, ⟨(some 7), none, (.bin .gtr .none (.v 5) (.v 6))⟩]) (.cond (.v 7) (.seq (.reg false [] [⟨(some 8), none, (.mv (.v 0))⟩, ⟨(some 4), none, (.mv (.v 8))⟩]) .ret) .skip)) (.seq (.reg false [] [⟨(some 9), none, (.mv (.v 1))⟩, ⟨(some 4), none, (.mv (.v 9))⟩]) .ret)))
def ir73 : Fn := ⟨.own, 2, 10, [(.tmp 4)], ir73_c⟩
def ir74_c : C := (.seq (.reg false [] [⟨(some 1), none, (.box (.v 0))⟩, ⟨(some 2), none, (.alc 2 [(.int .i64 0), .nilf])⟩]) (.seq (.reg false [] [⟨(some 3), none, (.mkf 95 [] [(.v 1)])⟩, ⟨(some 4), none, (.bld [(.int .i64 0), .nilf] [(0, (1, (.k (.int .i64 162)))), (1, (1, (.v 3)))])⟩, ⟨none, none, (.st 2 (.v 2) (.v 4))⟩]) .ret))
def ir74 : Fn := ⟨.ownF, 1, 5, [(.cell 2 true 2)], ir74_c⟩
def ir75_d0 : C := (.seq (.seq (.reg false [] [⟨(some 64), none, (.mv (.v 6))⟩, ⟨(some 65), none, (.len 1 (.v 64))⟩, ⟨(some 66), none, (.mv (.v 7))⟩, ⟨(some 67), none, (.fad 1 (.v 11))⟩, ⟨(some 68), none, (.ld false 1 (.v 67))⟩, ⟨(some 69), none, (.bin .add .none (.v 66) (.v 68))⟩, ⟨(some 70), none, (.bin .leq .none (.v 65) (.v 69))⟩]) (.cond (.v 70) .skip (.exit 6))) (.block 7 (.reg false [] [⟨(some 71), none, (.mv (.v 6))⟩, ⟨(some 72), none, (.bsl true 1 1 .nil [(0, (.k .nil))])⟩, ⟨(some 73), none, (.app true 1 (.v 71) (.v 72))⟩, ⟨(some 6), none, (.mv (.v 73))⟩])))
def ir75_b0 : C := ir75_d0
def ir75_l0 : C := .loop false [2, 5, 6, 7, 8, 11, 52, 53, 54] ir75_b0
def ir75_d1 : C := (.seq (.reg false [] [⟨(some 55), none, (.bin .lss .none (.v 54) (.v 53))⟩]) (.seq (.cond (.v 55) .skip (.exit 4)) (.seq (.block 5 (.seq (.reg false [] [⟨(some 56), none, (.ixa 3 (.v 52) (.v 54))⟩, ⟨(some 57), none, (.ld true 3 (.v 56))⟩, ⟨(some 11), none, (.alc 3 [(.int .i64 0), (.int .i64 0), .nil])⟩, ⟨none, none, (.st 3 (.v 11) (.v 57))⟩]) (.seq (.seq (.reg false [] [⟨(some 58), none, (.mv (.v 5))⟩, ⟨(some 59), none, (.fad 0 (.v 11))⟩, ⟨(some 60), none, (.ld false 1 (.v 59))⟩, ⟨(some 61), none, (.ixa 1 (.v 58) (.v 60))⟩, ⟨(some 62), none, (.ld false 1 (.v 61))⟩, ⟨(some 63), none, (.bin .geq .none (.v 62) (.k (.int .i64 0)))⟩]) (.cond (.v 63) (.exit 5) .skip)) (.seq (.block 6 ir75_l0) (.reg true [0, 0, 0, 4, 14, 0, 0, 0, 128, 448, 992, 2016, 0, 4096, 12288, 32736, 65535, 131071] [⟨(some 74), none, (.mv (.v 6))⟩, ⟨(some 75), none, (.mv (.v 7))⟩, ⟨(some 76), none, (.fad 1 (.v 11))⟩, ⟨(some 77), none, (.ld false 1 (.v 76))⟩, ⟨(some 78), none, (.bin .add .none (.v 75) (.v 77))⟩, ⟨(some 79), none, (.mv (.v 6))⟩, ⟨(some 80), none, (.mv (.v 7))⟩, ⟨(some 81), none, (.fad 1 (.v 11))⟩, ⟨(some 82), none, (.ld false 1 (.v 81))⟩, ⟨(some 83), none, (.bin .add .none (.v 80) (.v 82))⟩, ⟨(some 84), none, (.ixa 1 (.v 79) (.v 83))⟩, ⟨(some 85), none, (.ld false 1 (.v 84))⟩, ⟨(some 86), none, (.fad 0 (.v 11))⟩, ⟨(some 87), none, (.ld false 1 (.v 86))⟩, ⟨(some 88), none, (.bsl false 1 1 (.int .i64 0) [(0, (.v 87))])⟩, ⟨(some 89), none, (.app false 1 (.v 85) (.v 88))⟩, ⟨(some 90), none, (.ixa 1 (.v 74) (.v 78))⟩, ⟨none, none, (.st 1 (.v 90) (.v 89))⟩]))))) (.reg false [] [⟨(some 91), none, (.bin .add .none (.v 54) (.k (.int .i64 1)))⟩, ⟨(some 54), none, (.mv (.v 91))⟩]))))
def ir75_b1 : C := ir75_d1
def ir75_l1 : C := .loop false [2, 5, 6, 7, 8, 52, 53, 54] ir75_b1
def ir75_d2 : C := (.seq (.seq (.reg false [] [⟨(some 24), none, (.mv (.v 8))⟩, ⟨(some 25), none, (.mv (.v 6))⟩, ⟨(some 26), none, (.mv (.v 7))⟩, ⟨(some 27), none, (.ixa 1 (.v 25) (.v 26))⟩, ⟨(some 28), none, (.ld false 1 (.v 27))⟩, ⟨(some 29), none, (.len 1 (.v 28))⟩, ⟨(some 30), none, (.bin .lss .none (.v 24) (.v 29))⟩]) (.cond (.v 30) .skip (.exit 2))) (.seq (.block 3 (.seq (.reg false [] [⟨(some 33), none, (.mv (.v 6))⟩, ⟨(some 34), none, (.mv (.v 7))⟩, ⟨(some 35), none, (.ixa 1 (.v 33) (.v 34))⟩, ⟨(some 36), none, (.ld false 1 (.v 35))⟩, ⟨(some 37), none, (.mv (.v 8))⟩, ⟨(some 38), none, (.ixa 1 (.v 36) (.v 37))⟩, ⟨(some 39), none, (.ld false 1 (.v 38))⟩, ⟨(some 9), none, (.mv (.v 39))⟩]) (.seq (.seq (.reg false [] [⟨(some 40), none, (.mv (.v 5))⟩, ⟨(some 41), none, (.mv (.v 9))⟩, ⟨(some 42), none, (.ixa 1 (.v 40) (.v 41))⟩, ⟨(some 43), none, (.ld false 1 (.v 42))⟩, ⟨(some 44), none, (.bin .geq .none (.v 43) (.k (.int .i64 0)))⟩]) (.cond (.v 44) (.exit 3) .skip)) (.seq (.reg false [] [⟨(some 45), none, (.mv (.v 5))⟩, ⟨(some 46), none, (.mv (.v 9))⟩, ⟨(some 47), none, (.mv (.v 7))⟩, ⟨(some 48), none, (.ixa 1 (.v 45) (.v 46))⟩, ⟨none, none, (.st 1 (.v 48) (.v 47))⟩]) (.seq (.reg false [] [⟨(some 49), none, (.fad 1 (.v 2))⟩, ⟨(some 50), none, (.ld false 1 (.v 49))⟩, ⟨(some 51), none, (.mv (.v 9))⟩, ⟨(some 52), none, (.callv (.v 50) [(.v 51)])⟩, ⟨(some 53), none, (.len 1 (.v 52))⟩, ⟨(some 54), none, (.mv (.k (.int .i64 0)))⟩]) (.block 4 ir75_l1)))))) (.reg false [] [⟨(some 31), none, (.mv (.v 8))⟩, ⟨(some 32), none, (.bin .add .none (.v 31) (.k (.int .i64 1)))⟩, ⟨(some 8), none, (.mv (.v 32))⟩])))
def ir75_b2 : C := ir75_d2
def ir75_l2 : C := .loop false [2, 5, 6, 7, 8] ir75_b2
def ir75_d3 : C := (.seq (.seq (.reg false [] [⟨(some 18), none, (.mv (.v 7))⟩, ⟨(some 19), none, (.mv (.v 6))⟩, ⟨(some 20), none, (.len 1 (.v 19))⟩, ⟨(some 21), none, (.bin .lss .none (.v 18) (.v 20))⟩]) (.cond (.v 21) .skip (.exit 0))) (.seq (.block 1 (.seq (.reg false [] [⟨(some 8), none, (.mv (.k (.int .i64 0)))⟩]) (.block 2 ir75_l2))) (.reg false [] [⟨(some 22), none, (.mv (.v 7))⟩, ⟨(some 23), none, (.bin .add .none (.v 22) (.k (.int .i64 1)))⟩, ⟨(some 7), none, (.mv (.v 23))⟩])))
def ir75_b3 : C := ir75_d3
def ir75_l3 : C := .loop false [2, 5, 6, 7] ir75_b3
def ir75_c : C := (.seq (.reg false [] [⟨(some 2), none, (.box (.v 0))⟩, ⟨(some 4), none, (.mv (.k .nil))⟩]) (.seq (.reg false [] [⟨(some 12), none, (.bsl false 1 1 (.int .i64 0) [(0, (.k (.int .i64 (-1))))])⟩, ⟨(some 13), none, (.fad 0 (.v 2))⟩, ⟨(some 14), none, (.ld false 1 (.v 13))⟩, ⟨(some 15), none, (.call 96 [(.v 12), (.v 14)])⟩, ⟨(some 16), none, (.mv (.v 1))⟩, ⟨(some 17), none, (.bsl true 1 1 .nil [(0, (.v 16))])⟩, ⟨(some 5), none, (.mv (.v 15))⟩, ⟨(some 6), none, (.mv (.v 17))⟩]) (.seq (.seq (.reg false [] [⟨(some 7), none, (.mv (.k (.int .i64 0)))⟩]) (.block 0 ir75_l3)) (.seq (.reg false [] [⟨(some 92), none, (.mv (.v 5))⟩, ⟨(some 4), none, (.mv (.v 92))⟩]) .ret))))
def ir75 : Fn := ⟨.ref, 2, 93, [(.tmp 4)], ir75_c⟩
def ir76_c : C := (.seq (.reg false [] [⟨(some 3), none, (.box (.v 0))⟩, ⟨(some 4), none, (.box (.v 1))⟩, ⟨(some 5), none, (.box (.v 2))⟩, ⟨(some 6), none, (.mv (.k .nil))⟩]) (.seq (.reg false [] [⟨(some 7), none, (.fad 1 (.v 3))⟩, ⟨(some 8), none, (.ld false 1 (.v 7))⟩, ⟨(some 9), none, (.ld false 1 (.v 4))⟩, ⟨(some 10), none, (.callv (.v 8) [(.v 9)])⟩, ⟨(some 11), none, (.mkf 98 [] [(.v 5), (.v 4)])⟩, ⟨(some 12), none, (.call 97 [(.v 10), (.v 11)])⟩, ⟨(some 6), none, (.mv (.v 12))⟩]) .ret))
def ir76 : Fn := ⟨.ownF, 3, 13, [(.tmp 6)], ir76_c⟩
def ir78_c : C := (.seq (.reg false [] [⟨(some 4), none, (.mv (.k (.bool false)))⟩]) (.seq (.reg false [] [⟨(some 5), none, (.mv (.v 0))⟩, ⟨(some 6), none, (.bin .eql .none (.v 5) (.k (.int .i64 0)))⟩, ⟨(some 7), none, (.mv (.v 6))⟩, ⟨(some 8), (some (7, false)), (.mv (.v 0))⟩, ⟨(some 9), (some (7, false)), (.mv (.v 1))⟩, ⟨(some 10), (some (7, false)), (.bin .geq .none (.v 8) (.v 9))⟩, ⟨(some 11), none, (.pick (.v 7) (.k (.bool true)) (.v 10))⟩, ⟨(some 4), none, (.mv (.v 11))⟩]) .ret))
def ir78 : Fn := ⟨.own, 2, 12, [(.tmp 4)], ir78_c⟩
def ir95_d0 : C := (.seq (.seq (.reg false [] [⟨(some 27), none, (.mv (.v 8))⟩, ⟨(some 28), none, (.mv (.v 9))⟩, ⟨(some 29), none, (.bin .add .none (.v 27) (.v 28))⟩, ⟨(some 30), none, (.fad 2 (.v 1))⟩, ⟨(some 31), none, (.ld false 1 (.v 30))⟩, ⟨(some 32), none, (.bin .leq .none (.v 29) (.v 31))⟩]) (.cond (.v 32) .skip (.exit 2))) (.seq (.block 3 (.seq (.reg false [] [⟨(some 35), none, (.mv (.v 4))⟩, ⟨(some 36), none, (.mv (.v 8))⟩, ⟨(some 37), none, (.bin .add .none (.v 35) (.v 36))⟩, ⟨(some 38), none, (.mv (.v 5))⟩, ⟨(some 39), none, (.mv (.v 9))⟩, ⟨(some 40), none, (.bin .add .none (.v 38) (.v 39))⟩, ⟨(some 10), none, (.mv (.v 37))⟩, ⟨(some 11), none, (.mv (.v 40))⟩]) (.seq (.seq (.reg false [] [⟨(some 41), none, (.mv (.v 6))⟩, ⟨(some 42), none, (.bin .eql .none (.v 41) (.k (.int .i64 1)))⟩]) (.cond (.v 42) (.reg false [] [⟨(some 43), none, (.mv (.v 4))⟩, ⟨(some 44), none, (.mv (.v 8))⟩, ⟨(some 45), none, (.bin .sub .none (.v 43) (.v 44))⟩, ⟨(some 46), none, (.mv (.v 5))⟩, ⟨(some 47), none, (.mv (.v 9))⟩, ⟨(some 48), none, (.bin .sub .none (.v 46) (.v 47))⟩, ⟨(some 10), none, (.mv (.v 45))⟩, ⟨(some 11), none, (.mv (.v 48))⟩]) .skip)) (.seq (.reg false [] [⟨(some 49), none, (.mv (.v 8))⟩, ⟨(some 50), none, (.mv (.v 9))⟩, ⟨(some 51), none, (.bin .add .none (.v 49) (.v 50))⟩, ⟨(some 52), none, (.bin .gtr .none (.v 51) (.k (.int .i64 0)))⟩, ⟨(some 53), none, (.mv (.v 52))⟩, ⟨(some 54), (some (53, true)), (.mv (.v 10))⟩, ⟨(some 55), (some (53, true)), (.fad 0 (.v 1))⟩, ⟨(some 56), (some (53, true)), (.ld false 1 (.v 55))⟩, ⟨(some 57), (some (53, true)), (.call 57 [(.v 54), (.k (.int .i64 0)), (.v 56)])⟩, ⟨(some 58), none, (.pick (.v 53) (.v 57) (.k (.bool false)))⟩, ⟨(some 59), none, (.mv (.v 58))⟩, ⟨(some 60), (some (59, true)), (.mv (.v 11))⟩, ⟨(some 61), (some (59, true)), (.fad 1 (.v 1))⟩, ⟨(some 62), (some (59, true)), (.ld false 1 (.v 61))⟩, ⟨(some 63), (some (59, true)), (.call 57 [(.v 60), (.k (.int .i64 0)), (.v 62)])⟩, ⟨(some 64), none, (.pick (.v 59) (.v 63) (.k (.bool false)))⟩, ⟨(some 65), none, (.mv (.v 64))⟩, ⟨(some 66), (some (65, true)), (.mv (.v 8))⟩, ⟨(some 67), (some (65, true)), (.mv (.v 9))⟩, ⟨(some 68), (some (65, true)), (.call 78 [(.v 66), (.v 67)])⟩, ⟨(some 69), none, (.pick (.v 65) (.v 68) (.k (.bool false)))⟩, ⟨(some 70), none, (.mv (.v 69))⟩, ⟨(some 71), (some (70, true)), (.ld true 3 (.v 1))⟩, ⟨(some 72), (some (70, true)), (.mv (.v 10))⟩, ⟨(some 73), (some (70, true)), (.mv (.v 11))⟩, ⟨(some 74), (some (70, true)), (.call 46 [(.v 71), (.v 72), (.v 73)])⟩, ⟨(some 75), none, (.pick (.v 70) (.v 74) (.k (.bool false)))⟩]) (.cond (.v 75) (.reg false [] [⟨(some 76), none, (.mv (.v 7))⟩, ⟨(some 77), none, (.mv (.v 10))⟩, ⟨(some 78), none, (.bin .mul .none (.v 77) (.k (.int .i64 9)))⟩, ⟨(some 79), none, (.mv (.v 11))⟩, ⟨(some 80), none, (.bin .add .none (.v 78) (.v 79))⟩, ⟨(some 81), none, (.bin .mul .none (.k (.int .i64 2)) (.v 80))⟩, ⟨(some 82), none, (.bin .add .none (.v 81) (.k (.int .i64 1)))⟩, ⟨(some 83), none, (.mv (.v 6))⟩, ⟨(some 84), none, (.bin .sub .none (.v 82) (.v 83))⟩, ⟨(some 85), none, (.mv (.v 8))⟩, ⟨(some 86), none, (.mv (.v 9))⟩, ⟨(some 87), none, (.bsl false 1 2 (.int .i64 0) [(0, (.v 85)), (1, (.v 86))])⟩, ⟨(some 88), none, (.bld [(.int .i64 0), (.int .i64 0), .nil] [(0, (1, (.v 84))), (1, (1, (.k (.int .i64 1)))), (2, (1, (.v 87)))])⟩, ⟨(some 89), none, (.bsl false 3 1 (.agg [(.int .i64 0), (.int .i64 0), .nil]) [(0, (.v 88))])⟩, ⟨(some 90), none, (.app false 3 (.v 76) (.v 89))⟩, ⟨(some 7), none, (.mv (.v 90))⟩]) .skip))))) (.reg false [] [⟨(some 33), none, (.mv (.v 9))⟩, ⟨(some 34), none, (.bin .add .none (.v 33) (.k (.int .i64 1)))⟩, ⟨(some 9), none, (.mv (.v 34))⟩])))
def ir95_b0 : C := ir95_d0
def ir95_l0 : C := .loop true [1, 4, 5, 6, 7, 8, 9] ir95_b0
def ir95_d1 : C := (.seq (.seq (.reg false [] [⟨(some 21), none, (.mv (.v 8))⟩, ⟨(some 22), none, (.fad 2 (.v 1))⟩, ⟨(some 23), none, (.ld false 1 (.v 22))⟩, ⟨(some 24), none, (.bin .leq .none (.v 21) (.v 23))⟩]) (.cond (.v 24) .skip (.exit 0))) (.seq (.block 1 (.seq (.reg false [] [⟨(some 9), none, (.mv (.k (.int .i64 0)))⟩]) (.block 2 ir95_l0))) (.reg false [] [⟨(some 25), none, (.mv (.v 8))⟩, ⟨(some 26), none, (.bin .add .none (.v 25) (.k (.int .i64 1)))⟩, ⟨(some 8), none, (.mv (.v 26))⟩])))
def ir95_b1 : C := ir95_d1
def ir95_l1 : C := .loop true [1, 4, 5, 6, 7, 8] ir95_b1
def ir95_c : C := (.seq (.reg false [] [⟨(some 3), none, (.mv (.k .nil))⟩]) (.seq (.reg false [] [⟨(some 12), none, (.mv (.v 0))⟩, ⟨(some 13), none, (.bin .quo .none (.v 12) (.k (.int .i64 2)))⟩, ⟨(some 14), none, (.bin .quo .none (.v 13) (.k (.int .i64 9)))⟩, ⟨(some 15), none, (.mv (.v 0))⟩, ⟨(some 16), none, (.bin .quo .none (.v 15) (.k (.int .i64 2)))⟩, ⟨(some 17), none, (.bin .rem .none (.v 16) (.k (.int .i64 9)))⟩, ⟨(some 18), none, (.mv (.v 0))⟩, ⟨(some 19), none, (.bin .rem .none (.v 18) (.k (.int .i64 2)))⟩, ⟨(some 20), none, (.bsl false 3 0 (.agg [(.int .i64 0), (.int .i64 0), .nil]) [])⟩, ⟨(some 4), none, (.mv (.v 14))⟩, ⟨(some 5), none, (.mv (.v 17))⟩, ⟨(some 6), none, (.mv (.v 19))⟩, ⟨(some 7), none, (.mv (.v 20))⟩]) (.seq (.seq (.reg false [] [⟨(some 8), none, (.mv (.k (.int .i64 0)))⟩]) (.block 0 ir95_l1)) (.seq (.reg false [] [⟨(some 91), none, (.mv (.v 7))⟩, ⟨(some 3), none, (.mv (.v 91))⟩]) .ret))))
def ir95 : Fn := ⟨.ownF, 2, 92, [(.tmp 3)], ir95_c⟩
def ir97_d0 : C := (.seq (.seq (.reg false [] [⟨(some 16), none, (.mv (.v 6))⟩, ⟨(some 17), none, (.mv (.v 0))⟩, ⟨(some 18), none, (.len 1 (.v 17))⟩, ⟨(some 19), none, (.bin .lss .none (.v 16) (.v 18))⟩]) (.cond (.v 19) .skip (.exit 0))) (.seq (.block 1 (.seq (.reg false [] [⟨(some 22), none, (.mv (.v 0))⟩, ⟨(some 23), none, (.mv (.v 6))⟩, ⟨(some 24), none, (.ixa 3 (.v 22) (.v 23))⟩, ⟨(some 25), none, (.ld true 3 (.v 24))⟩, ⟨(some 7), none, (.alc 3 [(.int .i64 0), (.int .i64 0), .nil])⟩, ⟨none, none, (.st 3 (.v 7) (.v 25))⟩]) (.seq (.reg false [] [⟨(some 26), none, (.mv (.v 1))⟩, ⟨(some 27), none, (.ld true 3 (.v 7))⟩, ⟨(some 28), none, (.callv (.v 26) [(.v 27)])⟩, ⟨(some 29), none, (.un .not (.v 28))⟩]) (.cond (.v 29) (.seq (.reg false [] [⟨(some 30), none, (.mv (.v 0))⟩, ⟨(some 31), none, (.mv (.v 5))⟩, ⟨(some 32), none, (.ld true 3 (.v 7))⟩, ⟨(some 33), none, (.ixa 3 (.v 30) (.v 31))⟩, ⟨none, none, (.st 3 (.v 33) (.v 32))⟩]) (.reg false [] [⟨(some 34), none, (.mv (.v 5))⟩, ⟨(some 35), none, (.bin .add .none (.v 34) (.k (.int .i64 1)))⟩, ⟨(some 5), none, (.mv (.v 35))⟩])) .skip)))) (.reg false [] [⟨(some 20), none, (.mv (.v 6))⟩, ⟨(some 21), none, (.bin .add .none (.v 20) (.k (.int .i64 1)))⟩, ⟨(some 6), none, (.mv (.v 21))⟩])))
def ir97_b0 : C := ir97_d0
def ir97_l0 : C := .loop false [0, 1, 5, 6] ir97_b0
def ir97_c : C := (.seq (.reg false [] [⟨(some 4), none, (.mv (.k .nil))⟩]) (.seq (.reg false [] [⟨(some 8), none, (.mv (.v 0))⟩, ⟨(some 9), none, (.mv (.v 1))⟩, ⟨(some 10), none, (.call 107 [(.v 8), (.v 9)])⟩, ⟨(some 5), none, (.mv (.v 10))⟩]) (.seq (.seq (.reg false [] [⟨(some 11), none, (.mv (.v 5))⟩, ⟨(some 12), none, (.bin .eql .none (.v 11) (.k (.int .i64 (-1))))⟩]) (.cond (.v 12) (.seq (.reg false [] [⟨(some 13), none, (.mv (.v 0))⟩, ⟨(some 4), none, (.mv (.v 13))⟩]) .ret) .skip)) (.seq (.seq (.reg false [] [⟨(some 14), none, (.mv (.v 5))⟩, ⟨(some 15), none, (.bin .add .none (.v 14) (.k (.int .i64 1)))⟩, ⟨(some 6), none, (.mv (.v 15))⟩]) (.block 0 ir97_l0)) (.seq (.reg false [] [⟨(some 36), none, (.mv (.v 0))⟩, ⟨(some 37), none, (.mv (.v 5))⟩, ⟨(some 38), none, (.slc 3 (.v 36) (some (.v 37)) none)⟩, ⟨none, none, (.clr 3 (.agg [(.int .i64 0), (.int .i64 0), .nil]) (.v 38))⟩]) (.seq (.reg false [] [⟨(some 39), none, (.mv (.v 0))⟩, ⟨(some 40), none, (.mv (.v 5))⟩, ⟨(some 41), none, (.slc 3 (.v 39) none (some (.v 40)))⟩, ⟨(some 4), none, (.mv (.v 41))⟩]) .ret))))))
def ir97 : Fn := ⟨.refM, 2, 42, [(.tmp 4)], ir97_c⟩
def ir98_c : C := (.seq (.reg false [] [⟨(some 3), none, (.box (.v 0))⟩, ⟨(some 4), none, (.mv (.k (.bool false)))⟩]) (.seq (.reg true [0, 0, 2, 7, 15, 31, 63, 127, 127, 383, 1023, 2047, 127, 4223, 16383, 127, 127, 98431, 229503, 524287, 1048575, 2097151] [⟨(some 5), none, (.ld false 1 (.v 1))⟩, ⟨(some 6), none, (.fad 0 (.v 3))⟩, ⟨(some 7), none, (.ld false 1 (.v 6))⟩, ⟨(some 8), none, (.ixa 1 (.v 5) (.v 7))⟩, ⟨(some 9), none, (.ld false 1 (.v 8))⟩, ⟨(some 10), none, (.bin .lss .none (.v 9) (.k (.int .i64 0)))⟩, ⟨(some 11), none, (.mv (.v 10))⟩, ⟨(some 12), (some (11, false)), (.ld false 1 (.v 1))⟩, ⟨(some 13), (some (11, false)), (.fad 0 (.v 3))⟩, ⟨(some 14), (some (11, false)), (.ld false 1 (.v 13))⟩, ⟨(some 15), (some (11, false)), (.ixa 1 (.v 12) (.v 14))⟩, ⟨(some 16), (some (11, false)), (.ld false 1 (.v 15))⟩, ⟨(some 17), (some (11, false)), (.fad 1 (.v 3))⟩, ⟨(some 18), (some (11, false)), (.ld false 1 (.v 17))⟩, ⟨(some 19), (some (11, false)), (.bin .add .none (.v 16) (.v 18))⟩, ⟨(some 20), (some (11, false)), (.ld false 1 (.v 1))⟩, ⟨(some 21), (some (11, false)), (.ld false 1 (.v 2))⟩, ⟨(some 22), (some (11, false)), (.ixa 1 (.v 20) (.v 21))⟩, ⟨(some 23), (some (11, false)), (.ld false 1 (.v 22))⟩, ⟨(some 24), (some (11, false)), (.bin .neq .none (.v 19) (.v 23))⟩, ⟨(some 25), none, (.pick (.v 11) (.k (.bool true)) (.v 24))⟩, ⟨(some 4), none, (.mv (.v 25))⟩]) .ret))
def ir98 : Fn := ⟨.own, 3, 26, [(.tmp 4)], ir98_c⟩
def ir107_d0 : C := (.seq (.reg false [] [⟨(some 9), none, (.bin .lss .none (.v 8) (.v 7))⟩]) (.seq (.cond (.v 9) .skip (.exit 0)) (.seq (.block 1 (.seq (.reg false [] [⟨(some 10), none, (.mv (.v 8))⟩, ⟨(some 5), none, (.mv (.v 10))⟩]) (.seq (.reg false [] [⟨(some 11), none, (.mv (.v 1))⟩, ⟨(some 12), none, (.mv (.v 0))⟩, ⟨(some 13), none, (.mv (.v 5))⟩, ⟨(some 14), none, (.ixa 3 (.v 12) (.v 13))⟩, ⟨(some 15), none, (.ld true 3 (.v 14))⟩, ⟨(some 16), none, (.callv (.v 11) [(.v 15)])⟩]) (.cond (.v 16) (.seq (.reg false [] [⟨(some 17), none, (.mv (.v 5))⟩, ⟨(some 4), none, (.mv (.v 17))⟩]) .ret) .skip)))) (.reg false [] [⟨(some 18), none, (.bin .add .none (.v 8) (.k (.int .i64 1)))⟩, ⟨(some 8), none, (.mv (.v 18))⟩]))))
def ir107_b0 : C := ir107_d0
def ir107_l0 : C := .loop true [0, 1, 7, 8] ir107_b0
def ir107_c : C := (.seq (.reg false [] [⟨(some 4), none, (.mv (.k (.int .i64 0)))⟩]) (.seq (.seq (.reg false [] [⟨(some 6), none, (.mv (.v 0))⟩, ⟨(some 7), none, (.len 1 (.v 6))⟩, ⟨(some 8), none, (.mv (.k (.int .i64 0)))⟩]) (.block 0 ir107_l0)) (.seq (.reg false [] [⟨(some 4), none, (.mv (.k (.int .i64 (-1))))⟩]) .ret)))
def ir107 : Fn := ⟨.own, 2, 19, [(.tmp 4)], ir107_c⟩
def tab : List (Nat × Fun) := [(45, .ir ir45), (96, .ir ir96), (106, .ir ir106), (110, .ir ir110), (40, .ir ir40), (57, .ir ir57), (5, .ir ir5), (43, .ir ir43), (42, .ir ir42), (77, .ir ir77), (70, .ir ir70), (32, .ir ir32), (3, .ir ir3), (6, .ir ir6), (34, .ir ir34), (7, .ir ir7), (8, .ir ir8), (9, .ir ir9), (10, .ir ir10), (11, .ir ir11), (12, .ir ir12), (13, .ir ir13), (14, .ir ir14), (15, .ir ir15), (16, .ir ir16), (35, .ir ir35), (36, .ir ir36), (37, .ir ir37), (38, .ir ir38), (39, .ir ir39), (41, .ir ir41), (44, .ir ir44), (46, .ir ir46), (47, .ir ir47), (73, .ir ir73), (74, .ir ir74), (75, .ir ir75), (76, .ir ir76), (78, .ir ir78), (95, .ir ir95), (97, .ir ir97), (98, .ir ir98), (107, .ir ir107), (101, .prim .own (cloneP 1))]
def env : Env := fun f => tab.lookup f
theorem x96_0 (E : Env) (s : Fr × Heap) : loopF E true [7, 8] ir96_b0 s = andN (execD E ir96_d0 s) (loopK E true [7, 8] ir96_b0) := loopF_K _ _ _ s
@[simp] theorem l96_0 (E : Env) (s : Fr × Heap) : execD E ir96_l0 s = loopF E true [7, 8] ir96_b0 (gcFr true [7, 8] s) := execD_loopF _ _ _ s
theorem x32_0 (E : Env) (s : Fr × Heap) : loopF E true [0, 1, 12, 13] ir32_b0 s = andN (execD E ir32_d0 s) (loopK E true [0, 1, 12, 13] ir32_b0) := loopF_K _ _ _ s
@[simp] theorem l32_0 (E : Env) (s : Fr × Heap) : execD E ir32_l0 s = loopF E true [0, 1, 12, 13] ir32_b0 (gcFr true [0, 1, 12, 13] s) := execD_loopF _ _ _ s
theorem x3_0 (E : Env) (s : Fr × Heap) : loopF E true [26, 27, 32, 40, 41, 42] ir3_b0 s = andN (execD E ir3_d0 s) (loopK E true [26, 27, 32, 40, 41, 42] ir3_b0) := loopF_K _ _ _ s
@[simp] theorem l3_0 (E : Env) (s : Fr × Heap) : execD E ir3_l0 s = loopF E true [26, 27, 32, 40, 41, 42] ir3_b0 (gcFr true [26, 27, 32, 40, 41, 42] s) := execD_loopF _ _ _ s
theorem x3_1 (E : Env) (s : Fr × Heap) : loopF E true [26, 27, 32, 40, 41] ir3_b1 s = andN (execD E ir3_d1 s) (loopK E true [26, 27, 32, 40, 41] ir3_b1) := loopF_K _ _ _ s
@[simp] theorem l3_1 (E : Env) (s : Fr × Heap) : execD E ir3_l1 s = loopF E true [26, 27, 32, 40, 41] ir3_b1 (gcFr true [26, 27, 32, 40, 41] s) := execD_loopF _ _ _ s
theorem x3_2 (E : Env) (s : Fr × Heap) : loopF E true [1, 5, 6, 7, 8, 12, 16, 17, 105, 106, 107] ir3_b2 s = andN (execD E ir3_d2 s) (loopK E true [1, 5, 6, 7, 8, 12, 16, 17, 105, 106, 107] ir3_b2) := loopF_K _ _ _ s
@[simp] theorem l3_2 (E : Env) (s : Fr × Heap) : execD E ir3_l2 s = loopF E true [1, 5, 6, 7, 8, 12, 16, 17, 105, 106, 107] ir3_b2 (gcFr true [1, 5, 6, 7, 8, 12, 16, 17, 105, 106, 107] s) := execD_loopF _ _ _ s
theorem x8_0 (E : Env) (s : Fr × Heap) : loopF E true [0, 1, 2, 8, 9, 10, 11, 12, 13, 14, 15, 16, 17, 18] ir8_b0 s = andN (execD E ir8_d0 s) (loopK E true [0, 1, 2, 8, 9, 10, 11, 12, 13, 14, 15, 16, 17, 18] ir8_b0) := loopF_K _ _ _ s
@[simp] theorem l8_0 (E : Env) (s : Fr × Heap) : execD E ir8_l0 s = loopF E true [0, 1, 2, 8, 9, 10, 11, 12, 13, 14, 15, 16, 17, 18] ir8_b0 (gcFr true [0, 1, 2, 8, 9, 10, 11, 12, 13, 14, 15, 16, 17, 18] s) := execD_loopF _ _ _ s
theorem x8_1 (E : Env) (s : Fr × Heap) : loopF E true [0, 1, 2, 8, 9, 10, 11, 12, 13, 14, 15, 16, 17] ir8_b1 s = andN (execD E ir8_d1 s) (loopK E true [0, 1, 2, 8, 9, 10, 11, 12, 13, 14, 15, 16, 17] ir8_b1) := loopF_K _ _ _ s
@[simp] theorem l8_1 (E : Env) (s : Fr × Heap) : execD E ir8_l1 s = loopF E true [0, 1, 2, 8, 9, 10, 11, 12, 13, 14, 15, 16, 17] ir8_b1 (gcFr true [0, 1, 2, 8, 9, 10, 11, 12, 13, 14, 15, 16, 17] s) := execD_loopF _ _ _ s
theorem x8_2 (E : Env) (s : Fr × Heap) : loopF E true [0, 1, 2, 8, 9, 10, 11, 12, 13] ir8_b2 s = andN (execD E ir8_d2 s) (loopK E true [0, 1, 2, 8, 9, 10, 11, 12, 13] ir8_b2) := loopF_K _ _ _ s
@[simp] theorem l8_2 (E : Env) (s : Fr × Heap) : execD E ir8_l2 s = loopF E true [0, 1, 2, 8, 9, 10, 11, 12, 13] ir8_b2 (gcFr true [0, 1, 2, 8, 9, 10, 11, 12, 13] s) := execD_loopF _ _ _ s
theorem x11_0 (E : Env) (s : Fr × Heap) : loopF E true [0, 1, 12, 13] ir11_b0 s = andN (execD E ir11_d0 s) (loopK E true [0, 1, 12, 13] ir11_b0) := loopF_K _ _ _ s
@[simp] theorem l11_0 (E : Env) (s : Fr × Heap) : execD E ir11_l0 s = loopF E true [0, 1, 12, 13] ir11_b0 (gcFr true [0, 1, 12, 13] s) := execD_loopF _ _ _ s
theorem x12_0 (E : Env) (s : Fr × Heap) : loopF E true [0, 1, 6] ir12_b0 s = andN (execD E ir12_d0 s) (loopK E true [0, 1, 6] ir12_b0) := loopF_K _ _ _ s
@[simp] theorem l12_0 (E : Env) (s : Fr × Heap) : execD E ir12_l0 s = loopF E true [0, 1, 6] ir12_b0 (gcFr true [0, 1, 6] s) := execD_loopF _ _ _ s
theorem x14_0 (E : Env) (s : Fr × Heap) : loopF E true [0, 1, 6] ir14_b0 s = andN (execD E ir14_d0 s) (loopK E true [0, 1, 6] ir14_b0) := loopF_K _ _ _ s
@[simp] theorem l14_0 (E : Env) (s : Fr × Heap) : execD E ir14_l0 s = loopF E true [0, 1, 6] ir14_b0 (gcFr true [0, 1, 6] s) := execD_loopF _ _ _ s
theorem x15_0 (E : Env) (s : Fr × Heap) : loopF E true [0, 1, 6, 7, 8, 9] ir15_b0 s = andN (execD E ir15_d0 s) (loopK E true [0, 1, 6, 7, 8, 9] ir15_b0) := loopF_K _ _ _ s
@[simp] theorem l15_0 (E : Env) (s : Fr × Heap) : execD E ir15_l0 s = loopF E true [0, 1, 6, 7, 8, 9] ir15_b0 (gcFr true [0, 1, 6, 7, 8, 9] s) := execD_loopF _ _ _ s
theorem x15_1 (E : Env) (s : Fr × Heap) : loopF E true [0, 1, 6, 7, 8] ir15_b1 s = andN (execD E ir15_d1 s) (loopK E true [0, 1, 6, 7, 8] ir15_b1) := loopF_K _ _ _ s
@[simp] theorem l15_1 (E : Env) (s : Fr × Heap) : execD E ir15_l1 s = loopF E true [0, 1, 6, 7, 8] ir15_b1 (gcFr true [0, 1, 6, 7, 8] s) := execD_loopF _ _ _ s
theorem x16_0 (E : Env) (s : Fr × Heap) : loopF E true [0, 1, 6, 7, 8] ir16_b0 s = andN (execD E ir16_d0 s) (loopK E true [0, 1, 6, 7, 8] ir16_b0) := loopF_K _ _ _ s
@[simp] theorem l16_0 (E : Env) (s : Fr × Heap) : execD E ir16_l0 s = loopF E true [0, 1, 6, 7, 8] ir16_b0 (gcFr true [0, 1, 6, 7, 8] s) := execD_loopF _ _ _ s
theorem x16_1 (E : Env) (s : Fr × Heap) : loopF E true [0, 1, 6, 7] ir16_b1 s = andN (execD E ir16_d1 s) (loopK E true [0, 1, 6, 7] ir16_b1) := loopF_K _ _ _ s
@[simp] theorem l16_1 (E : Env) (s : Fr × Heap) : execD E ir16_l1 s = loopF E true [0, 1, 6, 7] ir16_b1 (gcFr true [0, 1, 6, 7] s) := execD_loopF _ _ _ s
theorem x36_0 (E : Env) (s : Fr × Heap) : loopF E true [1, 2, 3, 7] ir36_b0 s = andN (execD E ir36_d0 s) (loopK E true [1, 2, 3, 7] ir36_b0) := loopF_K _ _ _ s
@[simp] theorem l36_0 (E : Env) (s : Fr × Heap) : execD E ir36_l0 s = loopF E true [1, 2, 3, 7] ir36_b0 (gcFr true [1, 2, 3, 7] s) := execD_loopF _ _ _ s
theorem x39_0 (E : Env) (s : Fr × Heap) : loopF E true [0, 1, 2, 7, 10, 11, 12, 13, 14, 15, 16, 17] ir39_b0 s = andN (execD E ir39_d0 s) (loopK E true [0, 1, 2, 7, 10, 11, 12, 13, 14, 15, 16, 17] ir39_b0) := loopF_K _ _ _ s
@[simp] theorem l39_0 (E : Env) (s : Fr × Heap) : execD E ir39_l0 s = loopF E true [0, 1, 2, 7, 10, 11, 12, 13, 14, 15, 16, 17] ir39_b0 (gcFr true [0, 1, 2, 7, 10, 11, 12, 13, 14, 15, 16, 17] s) := execD_loopF _ _ _ s
theorem x39_1 (E : Env) (s : Fr × Heap) : loopF E true [0, 1, 2, 7, 10, 11, 12, 13, 14, 15, 16] ir39_b1 s = andN (execD E ir39_d1 s) (loopK E true [0, 1, 2, 7, 10, 11, 12, 13, 14, 15, 16] ir39_b1) := loopF_K _ _ _ s
@[simp] theorem l39_1 (E : Env) (s : Fr × Heap) : execD E ir39_l1 s = loopF E true [0, 1, 2, 7, 10, 11, 12, 13, 14, 15, 16] ir39_b1 (gcFr true [0, 1, 2, 7, 10, 11, 12, 13, 14, 15, 16] s) := execD_loopF _ _ _ s
theorem x39_2 (E : Env) (s : Fr × Heap) : loopF E true [0, 1, 2, 7, 10, 11] ir39_b2 s = andN (execD E ir39_d2 s) (loopK E true [0, 1, 2, 7, 10, 11] ir39_b2) := loopF_K _ _ _ s
@[simp] theorem l39_2 (E : Env) (s : Fr × Heap) : execD E ir39_l2 s = loopF E true [0, 1, 2, 7, 10, 11] ir39_b2 (gcFr true [0, 1, 2, 7, 10, 11] s) := execD_loopF _ _ _ s
theorem x39_3 (E : Env) (s : Fr × Heap) : loopF E true [0, 1, 2, 7, 29, 30] ir39_b3 s = andN (execD E ir39_d3 s) (loopK E true [0, 1, 2, 7, 29, 30] ir39_b3) := loopF_K _ _ _ s
@[simp] theorem l39_3 (E : Env) (s : Fr × Heap) : execD E ir39_l3 s = loopF E true [0, 1, 2, 7, 29, 30] ir39_b3 (gcFr true [0, 1, 2, 7, 29, 30] s) := execD_loopF _ _ _ s
theorem x75_0 (E : Env) (s : Fr × Heap) : loopF E false [2, 5, 6, 7, 8, 11, 52, 53, 54] ir75_b0 s = andN (execD E ir75_d0 s) (loopK E false [2, 5, 6, 7, 8, 11, 52, 53, 54] ir75_b0) := loopF_K _ _ _ s
@[simp] theorem l75_0 (E : Env) (s : Fr × Heap) : execD E ir75_l0 s = loopF E false [2, 5, 6, 7, 8, 11, 52, 53, 54] ir75_b0 (gcFr false [2, 5, 6, 7, 8, 11, 52, 53, 54] s) := execD_loopF _ _ _ s
theorem x75_1 (E : Env) (s : Fr × Heap) : loopF E false [2, 5, 6, 7, 8, 52, 53, 54] ir75_b1 s = andN (execD E ir75_d1 s) (loopK E false [2, 5, 6, 7, 8, 52, 53, 54] ir75_b1) := loopF_K _ _ _ s
@[simp] theorem l75_1 (E : Env) (s : Fr × Heap) : execD E ir75_l1 s = loopF E false [2, 5, 6, 7, 8, 52, 53, 54] ir75_b1 (gcFr false [2, 5, 6, 7, 8, 52, 53, 54] s) := execD_loopF _ _ _ s
theorem x75_2 (E : Env) (s : Fr × Heap) : loopF E false [2, 5, 6, 7, 8] ir75_b2 s = andN (execD E ir75_d2 s) (loopK E false [2, 5, 6, 7, 8] ir75_b2) := loopF_K _ _ _ s
@[simp] theorem l75_2 (E : Env) (s : Fr × Heap) : execD E ir75_l2 s = loopF E false [2, 5, 6, 7, 8] ir75_b2 (gcFr false [2, 5, 6, 7, 8] s) := execD_loopF _ _ _ s
theorem x75_3 (E : Env) (s : Fr × Heap) : loopF E false [2, 5, 6, 7] ir75_b3 s = andN (execD E ir75_d3 s) (loopK E false [2, 5, 6, 7] ir75_b3) := loopF_K _ _ _ s
@[simp] theorem l75_3 (E : Env) (s : Fr × Heap) : execD E ir75_l3 s = loopF E false [2, 5, 6, 7] ir75_b3 (gcFr false [2, 5, 6, 7] s) := execD_loopF _ _ _ s
theorem x95_0 (E : Env) (s : Fr × Heap) : loopF E true [1, 4, 5, 6, 7, 8, 9] ir95_b0 s = andN (execD E ir95_d0 s) (loopK E true [1, 4, 5, 6, 7, 8, 9] ir95_b0) := loopF_K _ _ _ s
@[simp] theorem l95_0 (E : Env) (s : Fr × Heap) : execD E ir95_l0 s = loopF E true [1, 4, 5, 6, 7, 8, 9] ir95_b0 (gcFr true [1, 4, 5, 6, 7, 8, 9] s) := execD_loopF _ _ _ s
theorem x95_1 (E : Env) (s : Fr × Heap) : loopF E true [1, 4, 5, 6, 7, 8] ir95_b1 s = andN (execD E ir95_d1 s) (loopK E true [1, 4, 5, 6, 7, 8] ir95_b1) := loopF_K _ _ _ s
@[simp] theorem l95_1 (E : Env) (s : Fr × Heap) : execD E ir95_l1 s = loopF E true [1, 4, 5, 6, 7, 8] ir95_b1 (gcFr true [1, 4, 5, 6, 7, 8] s) := execD_loopF _ _ _ s
theorem x97_0 (E : Env) (s : Fr × Heap) : loopF E false [0, 1, 5, 6] ir97_b0 s = andN (execD E ir97_d0 s) (loopK E false [0, 1, 5, 6] ir97_b0) := loopF_K _ _ _ s
@[simp] theorem l97_0 (E : Env) (s : Fr × Heap) : execD E ir97_l0 s = loopF E false [0, 1, 5, 6] ir97_b0 (gcFr false [0, 1, 5, 6] s) := execD_loopF _ _ _ s
theorem x107_0 (E : Env) (s : Fr × Heap) : loopF E true [0, 1, 7, 8] ir107_b0 s = andN (execD E ir107_d0 s) (loopK E true [0, 1, 7, 8] ir107_b0) := loopF_K _ _ _ s
@[simp] theorem l107_0 (E : Env) (s : Fr × Heap) : execD E ir107_l0 s = loopF E true [0, 1, 7, 8] ir107_b0 (gcFr true [0, 1, 7, 8] s) := execD_loopF _ _ _ s
@[simp] theorem e45 : env 45 = some (.ir ir45) := rfl
@[simp] theorem m45 : ir45.mode = .own := rfl
@[simp] theorem c45 (args : List V) (H : Heap) : evCall env (den env) 45 args H = ownC (ownR env 45) H (rdL (rd H depth) args) := call_own e45 rfl args H
@[simp] theorem e96 : env 96 = some (.ir ir96) := rfl
@[simp] theorem m96 : ir96.mode = .own := rfl
@[simp] theorem c96 (args : List V) (H : Heap) : evCall env (den env) 96 args H = ownC (ownR env 96) H (rdL (rd H depth) args) := call_own e96 rfl args H
@[simp] theorem e106 : env 106 = some (.ir ir106) := rfl
@[simp] theorem m106 : ir106.mode = .own := rfl
@[simp] theorem c106 (args : List V) (H : Heap) : evCall env (den env) 106 args H = ownC (ownR env 106) H (rdL (rd H depth) args) := call_own e106 rfl args H
@[simp] theorem e110 : env 110 = some (.ir ir110) := rfl
@[simp] theorem m110 : ir110.mode = .own := rfl
@[simp] theorem c110 (args : List V) (H : Heap) : evCall env (den env) 110 args H = ownC (ownR env 110) H (rdL (rd H depth) args) := call_own e110 rfl args H
@[simp] theorem e40 : env 40 = some (.ir ir40) := rfl
@[simp] theorem m40 : ir40.mode = .own := rfl
@[simp] theorem c40 (args : List V) (H : Heap) : evCall env (den env) 40 args H = ownC (ownR env 40) H (rdL (rd H depth) args) := call_own e40 rfl args H
@[simp] theorem e57 : env 57 = some (.ir ir57) := rfl
@[simp] theorem m57 : ir57.mode = .own := rfl
@[simp] theorem c57 (args : List V) (H : Heap) : evCall env (den env) 57 args H = ownC (ownR env 57) H (rdL (rd H depth) args) := call_own e57 rfl args H
@[simp] theorem e5 : env 5 = some (.ir ir5) := rfl
@[simp] theorem m5 : ir5.mode = .own := rfl
@[simp] theorem c5 (args : List V) (H : Heap) : evCall env (den env) 5 args H = ownC (ownR env 5) H (rdL (rd H depth) args) := call_own e5 rfl args H
@[simp] theorem e43 : env 43 = some (.ir ir43) := rfl
@[simp] theorem m43 : ir43.mode = .ref := rfl
@[simp] theorem c43 (args : List V) (H : Heap) : evCall env (den env) 43 args H = refC2 (den env 43) H (callM.rdArgs H args) := call_ref e43 rfl args H
@[simp] theorem e42 : env 42 = some (.ir ir42) := rfl
@[simp] theorem m42 : ir42.mode = .ref := rfl
@[simp] theorem c42 (args : List V) (H : Heap) : evCall env (den env) 42 args H = refC2 (den env 42) H (callM.rdArgs H args) := call_ref e42 rfl args H
@[simp] theorem e77 : env 77 = some (.ir ir77) := rfl
@[simp] theorem m77 : ir77.mode = .ref := rfl
@[simp] theorem c77 (args : List V) (H : Heap) : evCall env (den env) 77 args H = refC2 (den env 77) H (callM.rdArgs H args) := call_ref e77 rfl args H
@[simp] theorem e70 : env 70 = some (.ir ir70) := rfl
@[simp] theorem m70 : ir70.mode = .ref := rfl
@[simp] theorem c70 (args : List V) (H : Heap) : evCall env (den env) 70 args H = refC2 (den env 70) H (callM.rdArgs H args) := call_ref e70 rfl args H
@[simp] theorem e32 : env 32 = some (.ir ir32) := rfl
@[simp] theorem m32 : ir32.mode = .own := rfl
@[simp] theorem c32 (args : List V) (H : Heap) : evCall env (den env) 32 args H = ownC (ownR env 32) H (rdL (rd H depth) args) := call_own e32 rfl args H
@[simp] theorem e3 : env 3 = some (.ir ir3) := rfl
@[simp] theorem m3 : ir3.mode = .own := rfl
@[simp] theorem c3 (args : List V) (H : Heap) : evCall env (den env) 3 args H = ownC (ownR env 3) H (rdL (rd H depth) args) := call_own e3 rfl args H
@[simp] theorem e6 : env 6 = some (.ir ir6) := rfl
@[simp] theorem m6 : ir6.mode = .own := rfl
@[simp] theorem c6 (args : List V) (H : Heap) : evCall env (den env) 6 args H = ownC (ownR env 6) H (rdL (rd H depth) args) := call_own e6 rfl args H
@[simp] theorem e34 : env 34 = some (.ir ir34) := rfl
@[simp] theorem m34 : ir34.mode = .own := rfl
@[simp] theorem c34 (args : List V) (H : Heap) : evCall env (den env) 34 args H = ownC (ownR env 34) H (rdL (rd H depth) args) := call_own e34 rfl args H
@[simp] theorem e7 : env 7 = some (.ir ir7) := rfl
@[simp] theorem m7 : ir7.mode = .ownF := rfl
@[simp] theorem c7 (args : List V) (H : Heap) : evCall env (den env) 7 args H = ownFC (ownFR env 7) H (rdL (rd H depth) args) := call_ownF e7 rfl args H
@[simp] theorem e8 : env 8 = some (.ir ir8) := rfl
@[simp] theorem m8 : ir8.mode = .ownF := rfl
@[simp] theorem c8 (args : List V) (H : Heap) : evCall env (den env) 8 args H = ownFC (ownFR env 8) H (rdL (rd H depth) args) := call_ownF e8 rfl args H
@[simp] theorem e9 : env 9 = some (.ir ir9) := rfl
@[simp] theorem m9 : ir9.mode = .own := rfl
@[simp] theorem c9 (args : List V) (H : Heap) : evCall env (den env) 9 args H = ownC (ownR env 9) H (rdL (rd H depth) args) := call_own e9 rfl args H
@[simp] theorem e10 : env 10 = some (.ir ir10) := rfl
@[simp] theorem m10 : ir10.mode = .own := rfl
@[simp] theorem c10 (args : List V) (H : Heap) : evCall env (den env) 10 args H = ownC (ownR env 10) H (rdL (rd H depth) args) := call_own e10 rfl args H
@[simp] theorem e11 : env 11 = some (.ir ir11) := rfl
@[simp] theorem m11 : ir11.mode = .own := rfl
@[simp] theorem c11 (args : List V) (H : Heap) : evCall env (den env) 11 args H = ownC (ownR env 11) H (rdL (rd H depth) args) := call_own e11 rfl args H
@[simp] theorem e12 : env 12 = some (.ir ir12) := rfl
@[simp] theorem m12 : ir12.mode = .own := rfl
@[simp] theorem c12 (args : List V) (H : Heap) : evCall env (den env) 12 args H = ownC (ownR env 12) H (rdL (rd H depth) args) := call_own e12 rfl args H
@[simp] theorem e13 : env 13 = some (.ir ir13) := rfl
@[simp] theorem m13 : ir13.mode = .own := rfl
@[simp] theorem c13 (args : List V) (H : Heap) : evCall env (den env) 13 args H = ownC (ownR env 13) H (rdL (rd H depth) args) := call_own e13 rfl args H
@[simp] theorem e14 : env 14 = some (.ir ir14) := rfl
@[simp] theorem m14 : ir14.mode = .own := rfl
@[simp] theorem c14 (args : List V) (H : Heap) : evCall env (den env) 14 args H = ownC (ownR env 14) H (rdL (rd H depth) args) := call_own e14 rfl args H
@[simp] theorem e15 : env 15 = some (.ir ir15) := rfl
@[simp] theorem m15 : ir15.mode = .own := rfl
@[simp] theorem c15 (args : List V) (H : Heap) : evCall env (den env) 15 args H = ownC (ownR env 15) H (rdL (rd H depth) args) := call_own e15 rfl args H
@[simp] theorem e16 : env 16 = some (.ir ir16) := rfl
@[simp] theorem m16 : ir16.mode = .own := rfl
@[simp] theorem c16 (args : List V) (H : Heap) : evCall env (den env) 16 args H = ownC (ownR env 16) H (rdL (rd H depth) args) := call_own e16 rfl args H
@[simp] theorem e35 : env 35 = some (.ir ir35) := rfl
@[simp] theorem m35 : ir35.mode = .ownF := rfl
@[simp] theorem c35 (args : List V) (H : Heap) : evCall env (den env) 35 args H = ownFC (ownFR env 35) H (rdL (rd H depth) args) := call_ownF e35 rfl args H
@[simp] theorem e36 : env 36 = some (.ir ir36) := rfl
@[simp] theorem m36 : ir36.mode = .ownF := rfl
@[simp] theorem c36 (args : List V) (H : Heap) : evCall env (den env) 36 args H = ownFC (ownFR env 36) H (rdL (rd H depth) args) := call_ownF e36 rfl args H
@[simp] theorem e37 : env 37 = some (.ir ir37) := rfl
@[simp] theorem m37 : ir37.mode = .own := rfl
@[simp] theorem c37 (args : List V) (H : Heap) : evCall env (den env) 37 args H = ownC (ownR env 37) H (rdL (rd H depth) args) := call_own e37 rfl args H
@[simp] theorem e38 : env 38 = some (.ir ir38) := rfl
@[simp] theorem m38 : ir38.mode = .own := rfl
@[simp] theorem c38 (args : List V) (H : Heap) : evCall env (den env) 38 args H = ownC (ownR env 38) H (rdL (rd H depth) args) := call_own e38 rfl args H
@[simp] theorem e39 : env 39 = some (.ir ir39) := rfl
@[simp] theorem m39 : ir39.mode = .own := rfl
@[simp] theorem c39 (args : List V) (H : Heap) : evCall env (den env) 39 args H = ownC (ownR env 39) H (rdL (rd H depth) args) := call_own e39 rfl args H
@[simp] theorem e41 : env 41 = some (.ir ir41) := rfl
@[simp] theorem m41 : ir41.mode = .own := rfl
@[simp] theorem c41 (args : List V) (H : Heap) : evCall env (den env) 41 args H = ownC (ownR env 41) H (rdL (rd H depth) args) := call_own e41 rfl args H
@[simp] theorem e44 : env 44 = some (.ir ir44) := rfl
@[simp] theorem m44 : ir44.mode = .own := rfl
@[simp] theorem c44 (args : List V) (H : Heap) : evCall env (den env) 44 args H = ownC (ownR env 44) H (rdL (rd H depth) args) := call_own e44 rfl args H
@[simp] theorem e46 : env 46 = some (.ir ir46) := rfl
@[simp] theorem m46 : ir46.mode = .own := rfl
@[simp] theorem c46 (args : List V) (H : Heap) : evCall env (den env) 46 args H = ownC (ownR env 46) H (rdL (rd H depth) args) := call_own e46 rfl args H
@[simp] theorem e47 : env 47 = some (.ir ir47) := rfl
@[simp] theorem m47 : ir47.mode = .own := rfl
@[simp] theorem c47 (args : List V) (H : Heap) : evCall env (den env) 47 args H = ownC (ownR env 47) H (rdL (rd H depth) args) := call_own e47 rfl args H
@[simp] theorem e73 : env 73 = some (.ir ir73) := rfl
@[simp] theorem m73 : ir73.mode = .own := rfl
@[simp] theorem c73 (args : List V) (H : Heap) : evCall env (den env) 73 args H = ownC (ownR env 73) H (rdL (rd H depth) args) := call_own e73 rfl args H
@[simp] theorem e74 : env 74 = some (.ir ir74) := rfl
@[simp] theorem m74 : ir74.mode = .ownF := rfl
@[simp] theorem c74 (args : List V) (H : Heap) : evCall env (den env) 74 args H = ownFC (ownFR env 74) H (rdL (rd H depth) args) := call_ownF e74 rfl args H
@[simp] theorem e75 : env 75 = some (.ir ir75) := rfl
@[simp] theorem m75 : ir75.mode = .ref := rfl
@[simp] theorem c75 (args : List V) (H : Heap) : evCall env (den env) 75 args H = refC2 (den env 75) H (callM.rdArgs H args) := call_ref e75 rfl args H
@[simp] theorem e76 : env 76 = some (.ir ir76) := rfl
@[simp] theorem m76 : ir76.mode = .ownF := rfl
@[simp] theorem c76 (args : List V) (H : Heap) : evCall env (den env) 76 args H = ownFC (ownFR env 76) H (rdL (rd H depth) args) := call_ownF e76 rfl args H
@[simp] theorem e78 : env 78 = some (.ir ir78) := rfl
@[simp] theorem m78 : ir78.mode = .own := rfl
@[simp] theorem c78 (args : List V) (H : Heap) : evCall env (den env) 78 args H = ownC (ownR env 78) H (rdL (rd H depth) args) := call_own e78 rfl args H
@[simp] theorem e95 : env 95 = some (.ir ir95) := rfl
@[simp] theorem m95 : ir95.mode = .ownF := rfl
@[simp] theorem c95 (args : List V) (H : Heap) : evCall env (den env) 95 args H = ownFC (ownFR env 95) H (rdL (rd H depth) args) := call_ownF e95 rfl args H
@[simp] theorem e97 : env 97 = some (.ir ir97) := rfl
@[simp] theorem m97 : ir97.mode = .refM := rfl
@[simp] theorem c97 (args : List V) (H : Heap) : evCall env (den env) 97 args H = den env 97 args H := call_refM e97 rfl args H
@[simp] theorem e98 : env 98 = some (.ir ir98) := rfl
@[simp] theorem m98 : ir98.mode = .own := rfl
@[simp] theorem c98 (args : List V) (H : Heap) : evCall env (den env) 98 args H = ownC (ownR env 98) H (rdL (rd H depth) args) := call_own e98 rfl args H
@[simp] theorem e107 : env 107 = some (.ir ir107) := rfl
@[simp] theorem m107 : ir107.mode = .own := rfl
@[simp] theorem c107 (args : List V) (H : Heap) : evCall env (den env) 107 args H = ownC (ownR env 107) H (rdL (rd H depth) args) := call_own e107 rfl args H
@[simp] theorem e101 : env 101 = some (.prim .own (cloneP 1)) := rfl
@[simp] theorem c101 (args : List V) (H : Heap) : evCall env (den env) 101 args H = ownC (primR (cloneP 1)) H (rdL (rd H depth) args) := call_prim e101 args H
end Go.Proofs.Ytanlmanifpknoaa.Ev
namespace Go.Proofs.Ytanlmanifpknoaa.Ev
open Go
set_option linter.unusedVariables false
set_option linter.unusedSimpArgs false
attribute [local simp] til_getE til_length til_get til_drop til_take til_append til_nil til_cons til_replicate til_set
def inB (x a b : Int) : Bool := decide (a ≤ x ∧ x ≤ b)
theorem inB_iff (x a b : Int) : inB x a b = true ↔ a ≤ x ∧ x ≤ b := by simp [inB]
theorem w96 {n : Int} (h : -9223372036854775808 ≤ n ∧ n ≤ 9223372036854775807) : IntKind.i64.wrap n = n := IntWalk.i64_in n h

@[simp] theorem r40 (x a b : Int) : ownR env 40 [ti x, ti a, ti b] = some (.t (tb (inB x a b)), []) := by
  rw [own_ir e40 _ rfl]
  by_cases h : a ≤ x <;> simp [ir40, ir40_c, h, inB]
@[simp] theorem r57 (x a b : Int) : ownR env 57 [ti x, ti a, ti b] = some (.t (tb (inB x a b)), []) := by
  rw [own_ir e57 _ rfl]
  by_cases h : a ≤ x <;> simp [ir57, ir57_c, h, inB]
@[simp] theorem r45 (b : Bool) : ownR env 45 [tb b] = some (.t (ti (if b then 1 else 0)), []) := by
  rw [own_ir e45 _ rfl]
  cases b <;> simp [ir45, ir45_c]
end Go.Proofs.Ytanlmanifpknoaa.Ev

namespace Go.Proofs.Ytanlmanifpknoaa.Ev
open Go
set_option linter.unusedVariables false
set_option linter.unusedSimpArgs false
attribute [local simp] til_getE til_length til_get til_drop til_take til_append til_nil til_cons til_replicate til_set
end Go.Proofs.Ytanlmanifpknoaa.Ev

namespace Go.Proofs.Ytanlmanifpknoaa.Ev
open Go
set_option linter.unusedVariables false
set_option linter.unusedSimpArgs false
attribute [local simp] til_getE til_length til_get til_drop til_take til_append til_nil til_cons til_replicate til_set
end Go.Proofs.Ytanlmanifpknoaa.Ev

namespace Go.Proofs.Ytanlmanifpknoaa.Ev
open Go
set_option linter.unusedVariables false
set_option linter.unusedSimpArgs false
attribute [local simp] til_getE til_length til_get til_drop til_take til_append til_nil til_cons til_replicate til_set
end Go.Proofs.Ytanlmanifpknoaa.Ev

namespace Go.Proofs.Ytanlmanifpknoaa.Ev
open Go
set_option linter.unusedVariables false
set_option linter.unusedSimpArgs false
attribute [local simp] til_getE til_length til_get til_drop til_take til_append til_nil til_cons til_replicate til_set
end Go.Proofs.Ytanlmanifpknoaa.Ev

namespace Go.Proofs.Ytanlmanifpknoaa.Ev
open Go
set_option linter.unusedVariables false
set_option linter.unusedSimpArgs false
attribute [local simp] til_getE til_length til_get til_drop til_take til_append til_nil til_cons til_replicate til_set
end Go.Proofs.Ytanlmanifpknoaa.Ev

namespace Go.Proofs.Ytanlmanifpknoaa.Ev
open Go
set_option linter.unusedVariables false
set_option linter.unusedSimpArgs false
attribute [local simp] til_getE til_length til_get til_drop til_take til_append til_nil til_cons til_replicate til_set
end Go.Proofs.Ytanlmanifpknoaa.Ev

namespace Go.Proofs.Ytanlmanifpknoaa.Ev
open Go
set_option linter.unusedVariables false
set_option linter.unusedSimpArgs false
attribute [local simp] til_getE til_length til_get til_drop til_take til_append til_nil til_cons til_replicate til_set
end Go.Proofs.Ytanlmanifpknoaa.Ev

namespace Go.Proofs.Ytanlmanifpknoaa.Ev
open Go
set_option linter.unusedVariables false
set_option linter.unusedSimpArgs false
attribute [local simp] til_getE til_length til_get til_drop til_take til_append til_nil til_cons til_replicate til_set
end Go.Proofs.Ytanlmanifpknoaa.Ev

namespace Go.Proofs.Ytanlmanifpknoaa.Ev
open Go
set_option linter.unusedVariables false
set_option linter.unusedSimpArgs false
attribute [local simp] til_getE til_length til_get til_drop til_take til_append til_nil til_cons til_replicate til_set
end Go.Proofs.Ytanlmanifpknoaa.Ev

namespace Go.Proofs.Ytanlmanifpknoaa.Ev
open Go
set_option linter.unusedVariables false
set_option linter.unusedSimpArgs false
theorem til_snoc (l : List Int) (x : Int) : til l ++ [.int .i64 x] = til (l ++ [x]) := by simp [til]
theorem til_fold (a b : List Int) : til a ++ til b = til (a ++ b) := by simp [til]
theorem take_snoc {α : Type} (l : List α) (x : α) : (l ++ [x]).take (l.length + 1) = l ++ [x] := List.take_of_length_le (by simp)
attribute [local simp] til_getE til_length til_get til_drop til_take til_snoc til_fold take_snoc
def tll (gl : List (List Int)) : List T := gl.map fun l => .lst 1 (til l)
theorem tll_length (gl : List (List Int)) : (tll gl).length = gl.length := by simp [tll]
theorem tll_take (gl : List (List Int)) (n : Nat) : (tll gl).take n = tll (gl.take n) := by simp [tll, List.map_take]
theorem tll_get (gl : List (List Int)) (i : Nat) : (tll gl)[i]? = gl[i]?.map fun l => .lst 1 (til l) := by simp [tll]
theorem tll_getE (gl : List (List Int)) (i : Nat) (h : i < (tll gl).length) : (tll gl)[i] = .lst 1 (til (gl[i]'(by simpa [tll] using h))) := by simp [tll]
theorem tll_fold (a b : List (List Int)) : tll a ++ tll b = tll (a ++ b) := by simp [tll]
attribute [local simp] tll_length tll_take tll_get tll_getE tll_fold
end Go.Proofs.Ytanlmanifpknoaa.Ev

namespace Go.Proofs.Ytanlmanifpknoaa.Ev
open Go
set_option linter.unusedVariables false
set_option linter.unusedSimpArgs false
attribute [local simp] til_getE til_length til_get til_drop til_take til_snoc til_fold take_snoc tll_length tll_take tll_get tll_getE tll_fold
def voyT (v : Int × List Int) : T := .agg [.int .i64 v.1, .lst 1 (til v.2)]
def tlv (vs : List (Int × List Int)) : List T := vs.map voyT
theorem tlv_length (vs : List (Int × List Int)) : (tlv vs).length = vs.length := by simp [tlv]
theorem tlv_take (vs : List (Int × List Int)) (n : Nat) : (tlv vs).take n = tlv (vs.take n) := by simp [tlv, List.map_take]
theorem tlv_getE (vs : List (Int × List Int)) (i : Nat) (h : i < (tlv vs).length) : (tlv vs)[i] = .agg [.int .i64 (vs[i]'(by simpa [tlv] using h)).1, .lst 1 (til (vs[i]'(by simpa [tlv] using h)).2)] := by simp [tlv, voyT]
end Go.Proofs.Ytanlmanifpknoaa.Ev

namespace Go.Proofs.Ytanlmanifpknoaa.Ev
open Go
set_option linter.unusedVariables false
set_option linter.unusedSimpArgs false
attribute [local simp] til_getE til_length til_get til_drop til_take til_snoc til_fold take_snoc til_replicate til_set
end Go.Proofs.Ytanlmanifpknoaa.Ev

namespace Go.Proofs.Ytanlmanifpknoaa.Ev
open Go
set_option linter.unusedVariables false
set_option linter.unusedSimpArgs false
attribute [local simp] til_getE til_length til_get til_drop til_take til_snoc til_fold take_snoc til_replicate til_set
end Go.Proofs.Ytanlmanifpknoaa.Ev

namespace Go.Proofs.Ytanlmanifpknoaa.Ev
open Go
set_option linter.unusedVariables false
set_option linter.unusedSimpArgs false
attribute [local simp] til_getE til_length til_get til_drop til_take til_snoc til_fold take_snoc til_replicate til_set
end Go.Proofs.Ytanlmanifpknoaa.Ev

namespace Go.Proofs.Ytanlmanifpknoaa.Ev
open Go
set_option linter.unusedVariables false
set_option linter.unusedSimpArgs false
attribute [local simp] til_getE til_length til_get til_drop til_take til_snoc til_fold take_snoc til_replicate til_set
end Go.Proofs.Ytanlmanifpknoaa.Ev

namespace Go.Proofs.Ytanlmanifpknoaa.Ev
open Go
set_option linter.unusedVariables false
set_option linter.unusedSimpArgs false
attribute [local simp] til_getE til_length til_get til_drop til_take til_snoc til_fold take_snoc til_set
theorem wu64 {n : Int} (h : 0 ≤ n ∧ n ≤ 18446744073709551615) : IntKind.u64.wrap n = n := IntWalk.u64_in n h
theorem and32 (y : Nat) (h : y < 2 ^ 32) : andI .u64 (y : Int) 4294967295 = y := by
  unfold andI
  have h1 : (BitVec.ofInt IntKind.u64.bits (y : Int) &&& BitVec.ofInt IntKind.u64.bits 4294967295).toNat = y := by
    show (BitVec.ofInt 64 (y : Int) &&& BitVec.ofInt 64 ((4294967295 : Nat) : Int)).toNat = y
    rw [BitVec.toNat_and, BitVec.toNat_ofInt, BitVec.toNat_ofInt]
    have e2001 : ((y : Int) % ((2 ^ 64 : Nat) : Int)).toNat = y := by omega
    have e2002 : (((4294967295 : Nat) : Int) % ((2 ^ 64 : Nat) : Int)).toNat = 2 ^ 32 - 1 := by decide
    rw [e2001, e2002, Nat.and_two_pow_sub_one_eq_mod, Nat.mod_eq_of_lt h]
  rw [h1]
  exact wu64 (by omega)
theorem shr32 (y : Nat) (h : y < 2 ^ 32) : shrI .u64 (y : Int) 32 = 0 := by
  unfold shrI
  show (y : Int).fdiv (2 ^ (min 32 64)) = 0
  rw [Int.fdiv_eq_ediv_of_nonneg _ (by decide)]
  show (y : Int) / 4294967296 = 0
  omega
theorem r110 (y : Nat) (h : y < 2 ^ 31) : ownR env 110 [.int .u64 1, .int .u64 y] = some (.tup [.t (.int .u64 0), .t (.int .u64 y)], []) := by
  rw [own_ir e110 _ rfl]
  have a1 := and32 y (by omega)
  have a2 := and32 1 (by omega)
  have a3 := shr32 y (by omega)
  have a4 := shr32 1 (by omega)
  have a5 := and32 0 (by omega)
  have a6 := shr32 0 (by omega)
  simp at a2 a4 a5 a6
  have w1001 : IntKind.u64.wrap (y : Int) = y := wu64 (by omega)
  have w1000 : IntKind.u64.wrap 0 = 0 := wu64 (by omega)
  simp [ir110, ir110_c, a1, a2, a3, a4, a5, a6, w1001, w1000]
theorem r106 (y : Nat) (h : y < 2 ^ 31) : ownR env 106 [.int .u64 1, .int .u64 y] = some (.tup [.t (.int .u64 0), .t (.int .u64 y)], []) := by
  rw [own_ir e106 _ rfl]
  simp [ir106, ir106_c, r110 y h]
theorem l96 (v : Int) (n : Nat) (hn : n ≤ 2 ^ 20) : ∀ (d c : Nat), n - c ≤ d → 0 < c → c ≤ n →
    loopF env true [7, 8] ir96_b0 ([(7, .ref 0 0 n), (8, .t (ti c))], [.pure 1 (til (List.replicate c v ++ List.replicate (n - c) 0))]) =
      some (.exit 0, [(7, .ref 0 0 n), (8, .t (ti n)), (34, .t (ti n)), (35, .ref 0 0 n), (36, .t (ti n)), (37, .t (tb false))], [.pure 1 (til (List.replicate n v))])
  | d, c, hd, hc, hcn => by
    rw [x96_0]
    by_cases hlt : c < n
    · obtain ⟨d, rfl⟩ : ∃ e, d = e + 1 := ⟨d - 1, by omega⟩
      have ih := l96 v n hn d (min (2 * c) n) (by omega) (by omega) (by omega)
      have hw : IntKind.i64.wrap ((c : Int) + ((min c (n - c) : Nat) : Int)) = ((min (2 * c) n : Nat) : Int) := by rw [w96 (by omega)]; omega
      have ht : (List.replicate c v ++ List.replicate (n - c) 0).take c = List.replicate c v := by
        rw [List.take_append_of_le_length (by simp)]; simp
      generalize hM : min (2 * c) n = M at *
      have e2001 : c + min (n - c) c = M := by omega
      have hd2 : (List.replicate c v ++ List.replicate (n - c) 0).drop M = List.replicate (n - M) 0 := by
        rw [List.drop_append, List.drop_of_length_le (by simp; omega)]
        simp
        omega
      simp [ir96_d0, hlt, show c ≤ n by omega, ht, hw, e2001, hd2, ih]
    · have : c = n := by omega
      subst this
      simp [ir96_d0]
theorem r96 (v : Int) (n : Nat) (hn0 : 0 < n) (hn : n ≤ 2 ^ 20) : ownR env 96 [tl [v], ti n] = some (.ref 0 0 n, [.pure 1 (til (List.replicate n v))]) := by
  rw [own_ir e96 _ rfl]
  have h46 := r106 n (by omega)
  have w1001 : IntKind.u64.wrap (n : Int) = n := wu64 (by omega)
  have w1002 : IntKind.u64.wrap 1 = 1 := wu64 (by omega)
  have w1003 : IntKind.i64.wrap (n : Int) = n := w96 (by omega)
  have hl := l96 v n hn (n - 1) 1 (by omega) (by omega) (by omega)
  rw [show List.replicate 1 v = [v] from rfl] at hl
  simp only [Int.natCast_one] at hl
  have htk : List.take n [v] = [v] := List.take_of_length_le (by simp; omega)
  have htl : (til (List.replicate n 0)).tail = til (List.replicate (n - 1) 0) := by simp [til]
  simp only [List.singleton_append] at hl
  simp [ir96, ir96_c, htl, show min 1 n = 1 by omega, show min n 1 = 1 by omega, htk, h46, w1001, w1002, w1003, show ¬ ((n : Int) < 0) by omega, show ¬ (9223372036854775807 < (n : Int)) by omega, show (n : Int) ≤ 68719476736 by omega, hl, til_flat, til_replicate]
end Go.Proofs.Ytanlmanifpknoaa.Ev

namespace Go.Proofs.Ytanlmanifpknoaa.Ev
open Go
set_option linter.unusedVariables false
set_option linter.unusedSimpArgs false
attribute [local simp] til_getE til_length til_get til_drop til_take til_snoc til_fold take_snoc til_set
end Go.Proofs.Ytanlmanifpknoaa.Ev

namespace Go.Proofs.Ytanlmanifpknoaa.Ev
open Go
set_option linter.unusedVariables false
set_option linter.unusedSimpArgs false
attribute [local simp] til_getE til_length til_get til_drop til_take til_snoc til_fold take_snoc til_set
end Go.Proofs.Ytanlmanifpknoaa.Ev

namespace Go.Proofs.Ytanlmanifpknoaa.Ev
open Go
set_option linter.unusedVariables false
set_option linter.unusedSimpArgs false
attribute [local simp] til_getE til_length til_get til_drop til_take til_snoc til_fold take_snoc til_set
theorem get_app2 {α : Type} {H X : List α} {i : Nat} {b : α} (h : H[i]? = some b) : (H ++ X)[i]? = some b := by
  rw [List.getElem?_append_left (List.getElem?_eq_some_iff.1 h).1]; exact h
end Go.Proofs.Ytanlmanifpknoaa.Ev

namespace Go.Proofs.Ytanlmanifpknoaa.Ev
open Go
set_option linter.unusedVariables false
set_option linter.unusedSimpArgs false
attribute [local simp] til_getE til_length til_get til_drop til_take til_snoc til_fold take_snoc til_set
def raP (v : V) (p : List V × List (Nat × Blk)) : Option (List V × List (Nat × Blk)) := some (v :: p.1, p.2)
@[simp] theorem raP_eq (v : V) (vs : List V) (l : List (Nat × Blk)) : raP v (vs, l) = some (v :: vs, l) := rfl
def raQ (H : Heap) (vs : List V) (q : T × List (Nat × Blk)) : Option (List V × List (Nat × Blk)) := andO (callM.rdArgs H vs) (fun p => some (.t q.1 :: p.1, q.2 ++ p.2))
@[simp] theorem raQ_eq (H : Heap) (vs : List V) (t : T) (l : List (Nat × Blk)) : raQ H vs (t, l) = andO (callM.rdArgs H vs) (fun p => some (.t t :: p.1, l ++ p.2)) := rfl
@[simp] theorem ra_nil (H : Heap) : callM.rdArgs H [] = some ([], []) := rfl
@[simp] theorem ra_ptr (H : Heap) (i j c : Nat) (vs : List V) : callM.rdArgs H (.ptr i j c :: vs) = andO (callM.rdArgs H vs) (raP (.ptr i j c)) := by
  simp only [callM.rdArgs]; cases callM.rdArgs H vs <;> rfl
@[simp] theorem ra_map (H : Heap) (i : Nat) (vs : List V) : callM.rdArgs H (.map i :: vs) = andO (callM.rdArgs H vs) (raP (.map i)) := by
  simp only [callM.rdArgs]; cases callM.rdArgs H vs <;> rfl
@[simp] theorem ra_clo (H : Heap) (f : FuncId) (a b : List V) (vs : List V) : callM.rdArgs H (.clo f a b :: vs) = andO (callM.rdArgs H vs) (raP (.clo f a b)) := by
  simp only [callM.rdArgs]; cases callM.rdArgs H vs <;> rfl
@[simp] theorem ra_t (H : Heap) (x : T) (vs : List V) : callM.rdArgs H (.t x :: vs) = andO (callM.rdArgs H vs) (raP (.t x)) := by
  simp only [callM.rdArgs, depth_eq, r_t6]; cases callM.rdArgs H vs <;> rfl
@[simp] theorem ra_ref (H : Heap) (i o n : Nat) (vs : List V) : callM.rdArgs H (.ref i o n :: vs) = andO (rd H 6 (.ref i o n)) (raQ H vs) := by
  simp only [callM.rdArgs, depth_eq]
  cases rd H 6 (.ref i o n) with
  | none => rfl
  | some p => simp only [andO_some, raQ]; cases callM.rdArgs H vs <;> rfl
@[simp] theorem ra_agg (H : Heap) (x : List V) (vs : List V) : callM.rdArgs H (.agg x :: vs) = andO (rd H 6 (.agg x)) (raQ H vs) := by
  simp only [callM.rdArgs, depth_eq]
  cases rd H 6 (.agg x) with
  | none => rfl
  | some p => simp only [andO_some, raQ]; cases callM.rdArgs H vs <;> rfl
@[simp] theorem refC2_some (g : List V → Heap → Option (V × Heap)) (H : Heap) (as : List V) (l : List (Nat × Blk)) : refC2 g H (some (as, l)) = g as (frz H l) := rfl
structure Steps (f : FuncId) (ps : List V) (Inv : List (List Int) → (Nat → Prop) → Heap → Prop) (ok : List Int → Prop) (M : Nat) : Prop where
  call : ∀ (i o n : Nat) (H : Heap), evCall env (den env) f (.ref i o n :: ps) H = refC2 (den env f) H (andO (rd H 6 (.ref i o n)) (raQ H ps))
  ra : ∀ H, callM.rdArgs H ps = some (ps, [])
  step : ∀ gs W H g, gs.length < M → ok g → Inv gs W H → ∃ v H' W', den env f (.t (tl g) :: ps) H = some (v, H') ∧ H.length ≤ H'.length ∧ Inv (gs ++ [g]) W' H' ∧ (∀ id, W' id → W id ∨ H.length ≤ id) ∧ (∀ id, id < H.length → ¬ W id → H'[id]? = H[id]?)
  stable : ∀ gs W H H', Inv gs W H → H.length ≤ H'.length → (∀ id, W id → H'[id]? = H[id]?) → Inv gs W H'
  small : ∀ gs W H, Inv gs W H → ∀ id, W id → id < H.length

end Go.Proofs.Ytanlmanifpknoaa.Ev

namespace Go.Proofs.Ytanlmanifpknoaa.Ev
open Go
set_option linter.unusedVariables false
set_option linter.unusedSimpArgs false
attribute [local simp] til_getE til_length til_get til_drop til_take til_snoc til_fold take_snoc til_set
structure Ext (W W' : Nat → Prop) (H H' : Heap) : Prop where
  len : H.length ≤ H'.length
  own : ∀ id, W' id → W id ∨ H.length ≤ id
  keep : ∀ id, id < H.length → ¬ W id → H'[id]? = H[id]?
theorem Ext.trans {W W' W'' : Nat → Prop} {H H' H'' : Heap} (h : Ext W W' H H') (h' : Ext W' W'' H' H'') : Ext W W'' H H'' := by
  refine ⟨Nat.le_trans h.len h'.len, fun id hid => ?_, fun id hid hn => ?_⟩
  · rcases h'.own id hid with h1 | h1
    · exact h.own id h1
    · exact .inr (Nat.le_trans h.len h1)
  · rw [h'.keep id (Nat.lt_of_lt_of_le hid h.len) (fun hw => by
      rcases h.own id hw with h1 | h1
      · exact hn h1
      · omega)]
    exact h.keep id hid hn
theorem Ext.app {W : Nat → Prop} {H : Heap} (X : Heap) : Ext W W H (H ++ X) := ⟨by simp, fun id h => .inl h, fun id hid _ => get_app hid⟩
theorem Ext.get {W W' : Nat → Prop} {H H' : Heap} (h : Ext W W' H H') {id : Nat} {b : Blk} (hb : H[id]? = some b) (hn : ¬ W id) : H'[id]? = some b := by
  rw [h.keep id (List.getElem?_eq_some_iff.1 hb).1 hn]; exact hb
theorem Ext.not {W W' : Nat → Prop} {H H' : Heap} (h : Ext W W' H H') {id : Nat} (hid : id < H.length) (hn : ¬ W id) : ¬ W' id := fun hw => by
  rcases h.own id hw with h1 | h1
  · exact hn h1
  · omega
@[simp] theorem set_app0 {α : Type} (H : List α) (a b : α) (X : List α) : (H ++ a :: X).set H.length b = H ++ b :: X := by simp
@[simp] theorem set_app1 {α : Type} (H : List α) (a a1 b : α) (X : List α) : (H ++ a :: a1 :: X).set (H.length + 1) b = H ++ a :: b :: X := by simp
@[simp] theorem set_app2 {α : Type} (H : List α) (a a1 a2 b : α) (X : List α) : (H ++ a :: a1 :: a2 :: X).set (H.length + 2) b = H ++ a :: a1 :: b :: X := by simp
def Ends (r : Option Out) (e : Ex) (H : Heap) : Prop := ∃ fr, r = some (e, fr, H)
@[simp] theorem ends_some (e e' : Ex) (fr : Fr) (H H' : Heap) : Ends (some (e, fr, H)) e' H' ↔ e = e' ∧ H = H' := by
  constructor
  · rintro ⟨_, h⟩; cases h; exact ⟨rfl, rfl⟩
  · rintro ⟨rfl, rfl⟩; exact ⟨_, rfl⟩
section
variable {f : FuncId} {ps : List V} {Inv : List (List Int) → (Nat → Prop) → Heap → Prop} {ok : List Int → Prop} {M : Nat} (hs : Steps f ps Inv ok M) (ip im ie io : Nat) (people : List Int) (most : Int)
end
end Go.Proofs.Ytanlmanifpknoaa.Ev

namespace Go.Proofs.Ytanlmanifpknoaa.Ev
open Go
set_option linter.unusedVariables false
set_option linter.unusedSimpArgs false
attribute [local simp] til_getE til_length til_get til_drop til_take til_snoc til_fold take_snoc til_set
end Go.Proofs.Ytanlmanifpknoaa.Ev

namespace Go.Proofs.Ytanlmanifpknoaa.Ev
open Go
set_option linter.unusedVariables false
set_option linter.unusedSimpArgs false
attribute [local simp] til_getE til_length til_get til_drop til_take til_snoc til_fold take_snoc til_set
end Go.Proofs.Ytanlmanifpknoaa.Ev

namespace Go.Proofs.Ytanlmanifpknoaa.Ev
open Go
set_option linter.unusedVariables false
set_option linter.unusedSimpArgs false
attribute [local simp] til_getE til_length til_get til_drop til_take til_snoc til_fold take_snoc til_set
def tin (l : List Nat) : List T := l.map fun (n : Nat) => T.int .i64 (n : Int)
theorem tin_length (l : List Nat) : (tin l).length = l.length := by simp [tin]
theorem tin_getE (l : List Nat) (i : Nat) (h : i < (tin l).length) : (tin l)[i] = .int .i64 (l[i]'(by simpa [tin] using h) : Nat) := by simp [tin]
theorem tin_take (l : List Nat) (n : Nat) : (tin l).take n = tin (l.take n) := by simp [tin, List.map_take]
theorem tin_snoc (l : List Nat) (x : Nat) : tin l ++ [.int .i64 (x : Int)] = tin (l ++ [x]) := by simp [tin]
abbrev Ed := Nat × Nat × Int × List Int
def tleN (es : List Ed) : List T := es.map fun e => .agg [.int .i64 e.1, .int .i64 e.2.1, .int .i64 e.2.2.1, .lst 1 (til e.2.2.2)]
theorem tleN_length (es : List Ed) : (tleN es).length = es.length := by simp [tleN]
theorem tleN_getE (es : List Ed) (i : Nat) (h : i < (tleN es).length) : (tleN es)[i] = .agg [.int .i64 (es[i]'(by simpa [tleN] using h)).1, .int .i64 (es[i]'(by simpa [tleN] using h)).2.1, .int .i64 (es[i]'(by simpa [tleN] using h)).2.2.1, .lst 1 (til (es[i]'(by simpa [tleN] using h)).2.2.2)] := by simp [tleN]
def LayR (H : Heap) (k : Nat) (v : V) (l : List Nat) : Prop := (v = .t .nil ∧ l = []) ∨ (k = 0 ∧ v = .t (.lst 1 (tin l))) ∨ ∃ j, v = .ref j 0 l.length ∧ H[j]? = some (.pure 1 (tin l))
structure WS (H : Heap) (i2 i5 i6 : Nat) (many : Int) (clo : T) (dist : List Int) (ws : List (List Nat)) (Vs : List V) : Prop where
  g : H[i2]? = some (.box 2 [.t (ti many), .t clo])
  d : H[i5]? = some (.pure 1 (til dist))
  w : H[i6]? = some (.box 1 Vs)
  n : Vs.length = ws.length
  l : ∀ (k : Nat) l, ws[k]? = some l → ∃ v, Vs[k]? = some v ∧ LayR H k v l
  s : ∀ (k k' j n n' : Nat), Vs[k]? = some (.ref j 0 n) → Vs[k']? = some (.ref j 0 n') → k = k'
  x : ∀ (k j n : Nat), Vs[k]? = some (.ref j 0 n) → j ≠ i5
def OwnW (i5 i6 : Nat) (Vs : List V) (id : Nat) : Prop := id = i5 ∨ id = i6 ∨ ∃ k n : Nat, Vs[k]? = some (.ref id 0 n)
def padW (ws : List (List Nat)) (k : Nat) : List (List Nat) := ws ++ List.replicate (k + 1 - ws.length) []

variable {i2 i5 i6 : Nat} {many : Int} {clo : T} {dist : List Int} {ws : List (List Nat)} {Vs : List V} {H : Heap}
theorem WS.lt5 (h : WS H i2 i5 i6 many clo dist ws Vs) : i2 < H.length ∧ i5 < H.length ∧ i6 < H.length := ⟨(List.getElem?_eq_some_iff.1 h.g).1, (List.getElem?_eq_some_iff.1 h.d).1, (List.getElem?_eq_some_iff.1 h.w).1⟩
theorem WS.ref (h : WS H i2 i5 i6 many clo dist ws Vs) {k j n : Nat} (hk : Vs[k]? = some (.ref j 0 n)) : ∃ l, ws[k]? = some l ∧ n = l.length ∧ H[j]? = some (.pure 1 (tin l)) := by
  have hlt := (List.getElem?_eq_some_iff.1 hk).1
  have hw : k < ws.length := h.n ▸ hlt
  obtain ⟨v, hv, hr⟩ := h.l k ws[k] (by simp [hw])
  rw [hk] at hv; cases hv
  refine ⟨ws[k], by simp [hw], ?_⟩
  rcases hr with ⟨h1, _⟩ | ⟨_, h1⟩ | ⟨j', h1, h2⟩
  · cases h1
  · cases h1
  · cases h1; exact ⟨rfl, h2⟩
theorem WS.ne6 (h : WS H i2 i5 i6 many clo dist ws Vs) {k j n : Nat} (hk : Vs[k]? = some (.ref j 0 n)) : j ≠ i6 ∧ j ≠ i2 := by
  obtain ⟨l, _, _, h3⟩ := h.ref hk
  exact ⟨fun e => (by have := h.w; rw [← e, h3] at this; cases this), fun e => (by have := h.g; rw [← e, h3] at this; cases this)⟩
theorem WS.own_lt (h : WS H i2 i5 i6 many clo dist ws Vs) {id : Nat} (hi : OwnW i5 i6 Vs id) : id < H.length := by
  rcases hi with rfl | rfl | ⟨k, n, hk⟩
  · exact h.lt5.2.1
  · exact h.lt5.2.2
  · obtain ⟨l, _, _, h3⟩ := h.ref hk; exact (List.getElem?_eq_some_iff.1 h3).1
theorem LayR.mono {H H' : Heap} {k : Nat} {v : V} {l : List Nat} (h : LayR H k v l) (hk : ∀ j n, v = .ref j 0 n → H'[j]? = H[j]?) : LayR H' k v l := by
  rcases h with h | h | ⟨j, h1, h2⟩
  · exact .inl h
  · exact .inr (.inl h)
  · exact .inr (.inr ⟨j, h1, (hk j _ h1).trans h2⟩)
theorem WS.mono {H' : Heap} (h : WS H i2 i5 i6 many clo dist ws Vs) (h2 : H'[i2]? = H[i2]?) (hk : ∀ id, OwnW i5 i6 Vs id → H'[id]? = H[id]?) : WS H' i2 i5 i6 many clo dist ws Vs :=
  ⟨h2.trans h.g, (hk _ (.inl rfl)).trans h.d, (hk _ (.inr (.inl rfl))).trans h.w, h.n, fun k l hl => by
    obtain ⟨v, hv, hr⟩ := h.l k l hl
    exact ⟨v, hv, hr.mono fun j n e => hk j (.inr (.inr ⟨k, n, e ▸ hv⟩))⟩, h.s, h.x⟩
theorem WS.grow (h : WS H i2 i5 i6 many clo dist ws Vs) : WS (H.set i6 .dead ++ [.box 1 (Vs ++ [.t .nil])]) i2 i5 H.length many clo dist (ws ++ [[]]) (Vs ++ [.t .nil]) := by
  have h6 := h.lt5
  have hg : ∀ id, id < H.length → id ≠ i6 → (H.set i6 .dead ++ [.box 1 (Vs ++ [.t .nil])])[id]? = H[id]? := fun id hid hne => by
    rw [List.getElem?_append_left (by simpa using hid), List.getElem?_set_ne (Ne.symm hne)]
  have h26 : i2 ≠ i6 := fun e => by have := h.w; rw [← e, h.g] at this; cases this
  have h56 : i5 ≠ i6 := fun e => by have := h.w; rw [← e, h.d] at this; cases this
  have hV : ∀ (k j n : Nat), (Vs ++ [V.t .nil])[k]? = some (.ref j 0 n) → Vs[k]? = some (.ref j 0 n) := fun k j n hk => by
    rcases Nat.lt_or_ge k Vs.length with hlt | hge
    · rw [List.getElem?_append_left hlt] at hk; exact hk
    · rw [List.getElem?_append_right hge] at hk
      rcases Nat.eq_zero_or_pos (k - Vs.length) with h0 | h0
      · rw [h0] at hk; cases hk
      · rw [List.getElem?_eq_none (by simp; omega)] at hk; cases hk
  refine ⟨(hg _ h6.1 h26).trans h.g, (hg _ h6.2.1 h56).trans h.d, by simp, by simp [h.n], fun k l hl => ?_, fun k k' j n n' hk hk' => h.s k k' j n n' (hV _ _ _ hk) (hV _ _ _ hk'), fun k j n hk => h.x k j n (hV _ _ _ hk)⟩
  rcases Nat.lt_or_ge k ws.length with hlt | hge
  · rw [List.getElem?_append_left hlt] at hl
    obtain ⟨v, hv, hr⟩ := h.l k l hl
    refine ⟨v, by rw [List.getElem?_append_left (h.n ▸ hlt)]; exact hv, hr.mono fun j n e => ?_⟩
    obtain ⟨l', _, _, h3⟩ := h.ref (e ▸ hv)
    exact hg j (List.getElem?_eq_some_iff.1 h3).1 (h.ne6 (e ▸ hv)).1
  · rw [List.getElem?_append_right hge] at hl
    rcases Nat.eq_zero_or_pos (k - ws.length) with h0 | h0
    · rw [h0] at hl; cases hl
      have : k = Vs.length := by have := h.n; omega
      exact ⟨.t .nil, by simp [this], .inl ⟨rfl, rfl⟩⟩
    · rw [List.getElem?_eq_none (by simp; omega)] at hl; cases hl
theorem WS.grow_ext (h : WS H i2 i5 i6 many clo dist ws Vs) (X : Blk) : Ext (OwnW i5 i6 Vs) (OwnW i5 H.length (Vs ++ [.t .nil])) H (H.set i6 .dead ++ [X]) := by
  refine ⟨by simp, fun id hid => ?_, fun id hid hn => ?_⟩
  · rcases hid with h1 | h1 | ⟨k, n, hk⟩
    · exact .inl (.inl h1)
    · exact .inr (by omega)
    · left; right; right
      rcases Nat.lt_or_ge k Vs.length with hlt | hge
      · rw [List.getElem?_append_left hlt] at hk; exact ⟨k, n, hk⟩
      · rw [List.getElem?_append_right hge] at hk
        rcases Nat.eq_zero_or_pos (k - Vs.length) with h0 | h0
        · rw [h0] at hk; cases hk
        · rw [List.getElem?_eq_none (by simp; omega)] at hk; cases hk
  · rw [List.getElem?_append_left (by simpa using hid), List.getElem?_set_ne (fun e => hn (.inr (.inl e.symm)))]
end Go.Proofs.Ytanlmanifpknoaa.Ev

namespace Go.Proofs.Ytanlmanifpknoaa.Ev
open Go
set_option linter.unusedVariables false
set_option linter.unusedSimpArgs false
attribute [local simp] til_getE til_length til_get til_drop til_take til_snoc til_fold take_snoc til_set
def elVB (sz off len : Nat) (b : Blk) : Option (List V) := match b with
  | .box s vs => if s = sz then some ((vs.drop (off * sz)).take (len * sz)) else none
  | _ => none
@[simp] theorem elVB_b (sz off len s : Nat) (vs : List V) : elVB sz off len (.box s vs) = if s = sz then some ((vs.drop (off * sz)).take (len * sz)) else none := rfl
@[simp] theorem elV_ref (H : Heap) (sz id off len : Nat) : elemsV H sz (.ref id off len) = andO H[id]? (elVB sz off len) := by
  simp only [elemsV]
  cases H[id]? with
  | none => rfl
  | some b => cases b <;> rfl
def appMB (H : Heap) (sz id len : Nat) (ys : List V) (b : Blk) : Option (V × Heap) := match b with
  | .box s vs => if s = sz ∧ len * sz = vs.length ∧ ys.length % sz = 0 ∧ vs.length + ys.length ≤ lim ∧ ys.all V.one ∧ 0 < ys.length then some (.ref H.length 0 (len + ys.length / sz), H.set id .dead ++ [.box sz (vs ++ ys)]) else none
  | _ => none
@[simp] theorem appMB_b (H : Heap) (sz id len : Nat) (ys : List V) (s : Nat) (vs : List V) : appMB H sz id len ys (.box s vs) = if s = sz ∧ len * sz = vs.length ∧ ys.length % sz = 0 ∧ vs.length + ys.length ≤ lim ∧ ys.all V.one ∧ 0 < ys.length then some (.ref H.length 0 (len + ys.length / sz), H.set id .dead ++ [.box sz (vs ++ ys)]) else none := rfl
def appMV (H : Heap) (sz : Nat) (x : V) (ys : List V) : Option (V × Heap) := match x with
  | .ref id 0 len => andO H[id]? (appMB H sz id len ys)
  | _ => none
@[simp] theorem appMV_r (H : Heap) (sz id len : Nat) (ys : List V) : appMV H sz (.ref id 0 len) ys = andO H[id]? (appMB H sz id len ys) := rfl
@[simp] theorem appM_eq (H : Heap) (sz : Nat) (x y : V) : evAppM H sz x y = andO (elemsV H sz y) (appMV H sz x) := by
  unfold evAppM
  cases elemsV H sz y with
  | none => rfl
  | some ys =>
    simp only [andO_some]
    cases x with
    | ref id off len =>
      cases off with
      | zero =>
        simp only [appMV]
        cases H[id]? with
        | none => rfl
        | some b => cases b <;> rfl
      | succ n => rfl
    | _ => rfl
@[simp] theorem o_appM {E : Env} {rec : Rec} {fr : Fr} {H : Heap} (sz : Nat) (x y : A) : evO E rec fr H (.app true sz x y) = evAppM H sz (x.ev fr) (y.ev fr) := rfl
def bslM (H : Heap) (sz n : Nat) (vs : List V) : Option (V × Heap) := some (.ref H.length 0 n, H ++ [.box sz vs])
@[simp] theorem bslM_eq (H : Heap) (sz n : Nat) (vs : List V) : bslM H sz n vs = some (.ref H.length 0 n, H ++ [.box sz vs]) := rfl
@[simp] theorem o_bslM {E : Env} {rec : Rec} {fr : Fr} {H : Heap} (sz n : Nat) (z : T) (ps : List (Nat × A)) : evO E rec fr H (.bsl true sz n z ps) = andO (fillV (List.replicate n (z.cells.map V.t)).flatten (ps.map fun p => (p.1 * sz, sz, p.2.ev fr))) (bslM H sz n) := by
  simp only [evO]; cases fillV (List.replicate n (z.cells.map V.t)).flatten (ps.map fun p => (p.1 * sz, sz, p.2.ev fr)) <;> rfl

variable {i2 i5 : Nat} {many : Int} {clo : T} {dist : List Int}
theorem padW_done (ws : List (List Nat)) (k : Nat) (h : k < ws.length) : padW ws k = ws := by
  simp [padW, show k + 1 - ws.length = 0 by omega]
theorem padW_step (ws : List (List Nat)) (k : Nat) (h : ¬ k < ws.length) : padW (ws ++ [[]]) k = padW ws k := by
  simp only [padW, List.append_assoc, List.length_append, List.length_singleton]
  obtain ⟨m, hm⟩ : ∃ m, k + 1 - ws.length = m + 1 := ⟨k - ws.length, by omega⟩
  rw [hm, show k + 1 - (ws.length + 1) = m by omega, List.replicate_succ, List.singleton_append]
end Go.Proofs.Ytanlmanifpknoaa.Ev

namespace Go.Proofs.Ytanlmanifpknoaa.Ev
open Go
set_option linter.unusedVariables false
set_option linter.unusedSimpArgs false
attribute [local simp] til_getE til_length til_get til_drop til_take til_snoc til_fold take_snoc til_set tin_getE tin_length tin_take
variable {i2 i5 i6 : Nat} {many : Int} {clo : T} {dist : List Int} {ws : List (List Nat)} {Vs : List V} {H : Heap}
theorem splice_one {α : Type} (xs : List α) (k : Nat) (x : α) (h : k < xs.length) : xs.take k ++ x :: xs.drop (k + 1) = xs.set k x := by
  rw [List.set_eq_take_append_cons_drop, if_pos h]
def pushW (dist : List Int) (d : Nat) (ws : List (List Nat)) (e : Ed) : List (List Nat) :=
  if 0 ≤ dist[e.1]?.getD 0 then ws else (padW ws (d + e.2.1)).set (d + e.2.1) ((padW ws (d + e.2.1))[d + e.2.1]?.getD [] ++ [e.1])
theorem WS.push {H2 : Heap} (h : WS H i2 i5 i6 many clo dist ws Vs) (k : Nat) (hk : k < ws.length) (x : Nat) (jn : Nat) (hj : H.length ≤ jn) (h2 : ¬ OwnW i5 i6 Vs i2)
    (h6 : H2[i6]? = some (.box 1 (Vs.set k (.ref jn 0 (ws[k].length + 1))))) (hjn : H2[jn]? = some (.pure 1 (tin (ws[k] ++ [x])))) (hlen : H.length ≤ H2.length)
    (hkeep : ∀ id, id < H.length → id ≠ i6 → (∀ n : Nat, Vs[k]? ≠ some (.ref id 0 n)) → H2[id]? = H[id]?) :
    WS H2 i2 i5 i6 many clo dist (ws.set k (ws[k] ++ [x])) (Vs.set k (.ref jn 0 (ws[k].length + 1))) ∧ Ext (OwnW i5 i6 Vs) (OwnW i5 i6 (Vs.set k (.ref jn 0 (ws[k].length + 1)))) H H2 := by
  have hn := h.n
  have hlt := h.lt5
  have h56 : i5 ≠ i6 := fun e => (by have := h.w; rw [← e, h.d] at this; cases this)
  have hV : ∀ (m j n : Nat), (Vs.set k (V.ref jn 0 (ws[k].length + 1)))[m]? = some (.ref j 0 n) → (m = k ∧ j = jn) ∨ (m ≠ k ∧ Vs[m]? = some (.ref j 0 n)) := fun m j n hm => by
    by_cases hmk : m = k
    · subst hmk
      rw [List.getElem?_set_self (by omega)] at hm
      cases hm; exact .inl ⟨rfl, rfl⟩
    · rw [List.getElem?_set_ne (Ne.symm hmk)] at hm; exact .inr ⟨hmk, hm⟩
  constructor
  · refine ⟨(hkeep _ hlt.1 (fun e => h2 (.inr (.inl e))) (fun n e => h2 (.inr (.inr ⟨k, n, e⟩)))).trans h.g, (hkeep _ hlt.2.1 h56 (fun n e => h.x k i5 n e rfl)).trans h.d, h6, by simp [hn], fun m l hl => ?_, fun m m' j n n' hm hm' => ?_, fun m j n hm => ?_⟩
    · by_cases hmk : m = k
      · subst hmk
        rw [List.getElem?_set_self (by omega)] at hl
        cases hl
        exact ⟨_, List.getElem?_set_self (by omega), .inr (.inr ⟨jn, by simp, hjn⟩)⟩
      · rw [List.getElem?_set_ne (Ne.symm hmk)] at hl
        obtain ⟨v, hv, hr⟩ := h.l m l hl
        refine ⟨v, by rw [List.getElem?_set_ne (Ne.symm hmk)]; exact hv, hr.mono fun j n e => ?_⟩
        subst e
        obtain ⟨l', _, _, h3⟩ := h.ref hv
        exact hkeep j (List.getElem?_eq_some_iff.1 h3).1 (h.ne6 hv).1 (fun n' e => hmk (h.s m k j n n' hv e))
    · rcases hV m j n hm with ⟨a, b⟩ | ⟨a, b⟩
      · rcases hV m' j n' hm' with ⟨a', b'⟩ | ⟨a', b'⟩
        · omega
        · obtain ⟨l', _, _, h3⟩ := h.ref b'
          have := (List.getElem?_eq_some_iff.1 h3).1; omega
      · rcases hV m' j n' hm' with ⟨a', b'⟩ | ⟨a', b'⟩
        · obtain ⟨l', _, _, h3⟩ := h.ref b
          have := (List.getElem?_eq_some_iff.1 h3).1; omega
        · exact h.s m m' j n n' b b'
    · rcases hV m j n hm with ⟨a, b⟩ | ⟨a, b⟩
      · omega
      · exact h.x m j n b
  · refine ⟨hlen, fun id hid => ?_, fun id hid hn => ?_⟩
    · rcases hid with h1 | h1 | ⟨m, n, hm⟩
      · exact .inl (.inl h1)
      · exact .inl (.inr (.inl h1))
      · rcases hV m id n hm with ⟨a, b⟩ | ⟨a, b⟩
        · right; omega
        · exact .inl (.inr (.inr ⟨m, n, b⟩))
    · exact hkeep id hid (fun e => hn (.inr (.inl e))) (fun n e => hn (.inr (.inr ⟨k, n, e⟩)))
end Go.Proofs.Ytanlmanifpknoaa.Ev

namespace Go.Proofs.Ytanlmanifpknoaa.Ev
open Go
set_option linter.unusedVariables false
set_option linter.unusedSimpArgs false
attribute [local simp] til_getE til_length til_get til_drop til_take til_snoc til_fold take_snoc til_set tin_getE tin_length tin_take tleN_length tleN_getE
variable {i2 i5 : Nat} {many : Int} {clo : T} {dist : List Int}
theorem padW_length (ws : List (List Nat)) (k : Nat) : (padW ws k).length = max ws.length (k + 1) := by simp [padW]; omega
theorem padW_mem {ws : List (List Nat)} {k : Nat} {l : List Nat} (h : l ∈ padW ws k) : l ∈ ws ∨ l = [] := by
  rcases List.mem_append.1 h with h | h
  · exact .inl h
  · exact .inr (List.eq_of_mem_replicate h)
theorem pushW_length (dist : List Int) (d : Nat) (ws : List (List Nat)) (e : Ed) (M : Nat) (h : ws.length ≤ M) (h2 : d + e.2.1 + 1 ≤ M) : (pushW dist d ws e).length ≤ M := by
  unfold pushW
  split
  · exact h
  · simp [padW_length]; omega
theorem pushW_bound (dist : List Int) (d : Nat) (ws : List (List Nat)) (e : Ed) (B : Nat) (h : ∀ l ∈ ws, l.length ≤ B) : ∀ l ∈ pushW dist d ws e, l.length ≤ B + 1 := by
  intro l hl
  unfold pushW at hl
  split at hl
  · have := h l hl; omega
  · have hk : d + e.2.1 < (padW ws (d + e.2.1)).length := by rw [padW_length]; omega
    rcases List.mem_or_eq_of_mem_set hl with hl | hl
    · rcases padW_mem hl with h1 | h1
      · have := h l h1; omega
      · simp [h1]
    · subst hl
      simp only [hk, List.getElem?_eq_getElem, Option.getD_some, List.length_append, List.length_singleton]
      rcases padW_mem (List.getElem_mem hk) with h1 | h1
      · have := h _ h1; omega
      · rw [h1]; simp
end Go.Proofs.Ytanlmanifpknoaa.Ev

namespace Go.Proofs.Ytanlmanifpknoaa.Ev
open Go
set_option linter.unusedVariables false
set_option linter.unusedSimpArgs false
attribute [local simp] til_getE til_length til_get til_drop til_take til_snoc til_fold take_snoc til_set tin_getE tin_length tin_take tleN_length tleN_getE
theorem pushW_layer (dist : List Int) (d : Nat) (ws : List (List Nat)) (e : Ed) (he : 1 ≤ e.2.1) (h : d < ws.length) : (pushW dist d ws e)[d]? = ws[d]? ∧ d < (pushW dist d ws e).length := by
  unfold pushW
  split
  · exact ⟨rfl, h⟩
  · rw [List.getElem?_set_ne (by omega)]
    refine ⟨?_, by rw [List.length_set, padW_length]; omega⟩
    unfold padW
    rw [List.getElem?_append_left h]
theorem pushes_layer (dist : List Int) (d : Nat) : ∀ (es : List Ed) (ws : List (List Nat)), (∀ e ∈ es, 1 ≤ e.2.1) → d < ws.length → (es.foldl (pushW dist d) ws)[d]? = ws[d]?
  | [], ws, _, _ => rfl
  | e :: es, ws, he, h => by
    obtain ⟨h1, h2⟩ := pushW_layer dist d ws e (he e (List.mem_cons_self ..)) h
    rw [List.foldl_cons, pushes_layer dist d es _ (fun x hx => he x (List.mem_cons_of_mem _ hx)) h2, h1]
theorem pushW_P {P : Nat → Prop} (dist : List Int) (d : Nat) (ws : List (List Nat)) (e : Ed) (he : P e.1) (h : ∀ l ∈ ws, ∀ x ∈ l, P x) : ∀ l ∈ pushW dist d ws e, ∀ x ∈ l, P x := by
  intro l hl x hx
  have hp : ∀ l ∈ padW ws (d + e.2.1), ∀ x ∈ l, P x := fun l hl x hx => by
    rcases padW_mem hl with h1 | h1
    · exact h l h1 x hx
    · subst h1; cases hx
  unfold pushW at hl
  split at hl
  · exact h l hl x hx
  · rcases List.mem_or_eq_of_mem_set hl with hl | hl
    · exact hp l hl x hx
    · subst hl
      have hk : d + e.2.1 < (padW ws (d + e.2.1)).length := by rw [padW_length]; omega
      rcases List.mem_append.1 hx with hx | hx
      · simp only [hk, List.getElem?_eq_getElem, Option.getD_some] at hx
        exact hp _ (List.getElem_mem hk) x hx
      · simp at hx; subst hx; exact he
theorem pushes_P {P : Nat → Prop} (dist : List Int) (d : Nat) : ∀ (es : List Ed) (ws : List (List Nat)), (∀ e ∈ es, P e.1) → (∀ l ∈ ws, ∀ x ∈ l, P x) → ∀ l ∈ es.foldl (pushW dist d) ws, ∀ x ∈ l, P x
  | [], ws, _, h => h
  | e :: es, ws, he, h => pushes_P dist d es _ (fun x hx => he x (List.mem_cons_of_mem _ hx)) (pushW_P dist d ws e (he e (List.mem_cons_self ..)) h)
def negs (l : List Int) : Nat := l.countP fun x => decide (x < 0)
theorem negs_set : ∀ (l : List Int) (s : Nat) (d : Nat) (h : s < l.length), l[s] < 0 → negs (l.set s (d : Int)) + 1 = negs l
  | x :: l, 0, d, h, hx => by
    simp only [List.getElem_cons_zero] at hx
    have : ¬ ((d : Int) < 0) := by omega
    simp [negs, List.countP_cons, hx, this]
  | x :: l, s + 1, d, h, hx => by
    simp only [List.getElem_cons_succ] at hx
    have ih := negs_set l s d (by simpa using h) hx
    simp only [negs] at ih
    simp only [negs, List.set_cons_succ, List.countP_cons]
    omega
theorem negs_len (l : List Int) : negs l ≤ l.length := List.countP_le_length
def stepN (out : Nat → List Ed) (d : Nat) (st : List Int × List (List Nat)) (s : Nat) : List Int × List (List Nat) :=
  if 0 ≤ st.1[s]?.getD 0 then st else (st.1.set s d, (out s).foldl (pushW (st.1.set s d) d) st.2)
structure OkD (N C D d : Nat) (P : Nat → Prop) (st : List Int × List (List Nat)) : Prop where
  n : st.1.length = N
  w : st.2.length ≤ d + C + 1
  b : ∀ l ∈ st.2, l.length + D * negs st.1 ≤ 2 ^ 30
  p : ∀ l ∈ st.2, ∀ x ∈ l, P x
  t : D * negs st.1 ≤ 2 ^ 30
structure OkG (N C D : Nat) (P : Nat → Prop) (out : Nat → List Ed) : Prop where
  lt : ∀ s, P s → s < N
  deg : ∀ s, P s → (out s).length ≤ D
  ed : ∀ s, P s → ∀ e ∈ out s, P e.1 ∧ 1 ≤ e.2.1 ∧ e.2.1 ≤ C
theorem pushes_bound (dist : List Int) (d : Nat) : ∀ (es : List Ed) (ws : List (List Nat)) (B : Nat), (∀ l ∈ ws, l.length ≤ B) → ∀ l ∈ es.foldl (pushW dist d) ws, l.length ≤ B + es.length
  | [], ws, B, h => h
  | e :: es, ws, B, h => fun l hl => by
    have := pushes_bound dist d es _ (B + 1) (pushW_bound dist d ws e B h) l hl
    simp; omega
theorem pushes_length (dist : List Int) (d M : Nat) : ∀ (es : List Ed) (ws : List (List Nat)), (∀ e ∈ es, d + e.2.1 + 1 ≤ M) → ws.length ≤ M → (es.foldl (pushW dist d) ws).length ≤ M
  | [], ws, _, h => h
  | e :: es, ws, he, h => pushes_length dist d M es _ (fun x hx => he x (List.mem_cons_of_mem _ hx)) (pushW_length dist d ws e M h (he e (List.mem_cons_self ..)))
theorem OkD.step {N C D d : Nat} {P : Nat → Prop} {out : Nat → List Ed} (hG : OkG N C D P out) {st : List Int × List (List Nat)} (h : OkD N C D d P st) (s : Nat) (hs : P s) : OkD N C D d P (stepN out d st s) := by
  unfold stepN
  split
  · exact h
  · rename_i hn
    have hlt := hG.lt s hs
    have hlt' : s < st.1.length := by rw [h.n]; exact hlt
    have hng := negs_set st.1 s d hlt' (by simp [hlt'] at hn; omega)
    have hdeg := hG.deg s hs
    refine ⟨by simpa using h.n, pushes_length _ _ _ _ _ (fun e he => by have := (hG.ed s hs e he).2.2; omega) h.w, fun l hl => ?_, pushes_P _ _ _ _ (fun e he => (hG.ed s hs e he).1) h.p, ?_⟩
    rotate_left
    · have := h.t
      rw [← hng, Nat.mul_add, Nat.mul_one] at this
      show D * negs (st.1.set s d) ≤ 2 ^ 30
      omega
    have h1 : ∀ l ∈ st.2, l.length ≤ 2 ^ 30 - D * negs st.1 := fun l hl => by have := h.b l hl; omega
    have h2 := pushes_bound _ _ _ _ _ h1 l hl
    rw [← hng, Nat.mul_add, Nat.mul_one] at h2
    have := h.t
    rw [← hng, Nat.mul_add, Nat.mul_one] at this
    show l.length + D * negs (st.1.set s d) ≤ 2 ^ 30
    omega
theorem stepN_layer {N C D d : Nat} {P : Nat → Prop} {out : Nat → List Ed} (hG : OkG N C D P out) (st : List Int × List (List Nat)) (s : Nat) (hs : P s) (h : d < st.2.length) : (stepN out d st s).2[d]? = st.2[d]? := by
  unfold stepN
  split
  · rfl
  · exact pushes_layer _ _ _ _ (fun e he => (hG.ed s hs e he).2.1) h
variable {i2 i5 i6 : Nat} {many : Int} {clo : T} {dist : List Int} {ws : List (List Nat)} {Vs : List V} {H : Heap}
theorem WS.setd (h : WS H i2 i5 i6 many clo dist ws Vs) (h2 : ¬ OwnW i5 i6 Vs i2) (dist' : List Int) : WS (H.set i5 (.pure 1 (til dist'))) i2 i5 i6 many clo dist' ws Vs ∧ Ext (OwnW i5 i6 Vs) (OwnW i5 i6 Vs) H (H.set i5 (.pure 1 (til dist'))) := by
  have hlt := h.lt5
  have h56 : i5 ≠ i6 := fun e => (by have := h.w; rw [← e, h.d] at this; cases this)
  have h52 : i5 ≠ i2 := fun e => h2 (.inl e.symm)
  refine ⟨⟨by rw [List.getElem?_set_ne h52]; exact h.g, by rw [List.getElem?_set_self hlt.2.1], by rw [List.getElem?_set_ne h56]; exact h.w, h.n, fun k l hl => ?_, h.s, h.x⟩, by simp, fun id hid => .inl hid, fun id hid hn => ?_⟩
  · obtain ⟨v, hv, hr⟩ := h.l k l hl
    refine ⟨v, hv, hr.mono fun j n e => ?_⟩
    rw [List.getElem?_set_ne (fun e' => h.x k j n (e ▸ hv) e'.symm)]
  · rw [List.getElem?_set_ne (fun e => hn (.inl e.symm))]
end Go.Proofs.Ytanlmanifpknoaa.Ev

namespace Go.Proofs.Ytanlmanifpknoaa.Ev
open Go
set_option linter.unusedVariables false
set_option linter.unusedSimpArgs false
attribute [local simp] til_getE til_length til_get til_drop til_take til_snoc til_fold take_snoc til_set tin_getE tin_length tin_take tleN_length tleN_getE
theorem LayR.len {H : Heap} {k : Nat} {v : V} {l : List Nat} (h : LayR H k v l) : evLen H 1 v = some (l.length : Int) := by
  rcases h with ⟨rfl, rfl⟩ | ⟨_, rfl⟩ | ⟨j, rfl, hj⟩ <;> simp
theorem LayR.ix {H : Heap} {k : Nat} {v : V} {l : List Nat} (h : LayR H k v l) (i : Nat) (hi : i < l.length) : ∃ p, evIxa H 1 v (.t (ti i)) = some p ∧ evLd H false 1 p = some (.t (ti l[i])) := by
  rcases h with ⟨rfl, rfl⟩ | ⟨_, rfl⟩ | ⟨j, rfl, hj⟩
  · simp at hi
  · exact ⟨.rptr (ti l[i]) 0, by simp [hi], by simp⟩
  · exact ⟨.ptr j i 0, by simp [hj, hi], by simp [hj, hi]⟩
variable {i2 i5 : Nat} {many : Int}
end Go.Proofs.Ytanlmanifpknoaa.Ev

namespace Go.Proofs.Ytanlmanifpknoaa.Ev
open Go
set_option linter.unusedVariables false
set_option linter.unusedSimpArgs false
attribute [local simp] til_getE til_length til_get til_drop til_take til_snoc til_fold take_snoc til_set tin_getE tin_length tin_take tleN_length tleN_getE
def fromL (out : Nat → List Ed) : Nat → Nat → List Int × List (List Nat) → Option (List Int × List (List Nat))
  | 0, _, _ => none
  | n + 1, d, st => match st.2[d]? with
    | none => some st
    | some cur => fromL out n (d + 1) (cur.foldl (stepN out d) st)
theorem OkD.mono {N C D d : Nat} {P : Nat → Prop} {st : List Int × List (List Nat)} (h : OkD N C D d P st) : OkD N C D (d + 1) P st := ⟨h.n, by have := h.w; omega, h.b, h.p, h.t⟩
variable {i2 i5 : Nat} {many : Int}
end Go.Proofs.Ytanlmanifpknoaa.Ev

