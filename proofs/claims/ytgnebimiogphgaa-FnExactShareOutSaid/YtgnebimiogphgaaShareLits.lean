/- The program's functions in the machine's form. No condition. -/
import Derived.Test.YtgnebimiogphgaaAm3
namespace Go.Am.S
open Go Go.Am
def f3 : SFunc × List (List Nat × SCode) := (⟨2, [.tmp 4], (.seq (.region [⟨(some 4), none, .mov (.c (.b false))⟩])
 (.seq (.seq (.region [⟨(some 12), none, .mov (.t 1)⟩, ⟨(some 13), none, .len false (.t 12)⟩, ⟨(some 14), none, .bin .gtr (.t 13) (.c (.i .i64 1048576))⟩])
 (.cond (.t 14) (.seq (.region [⟨(some 4), none, .mov (.c (.b true))⟩])
 .ret)
 .skip))
 (.seq (.region [⟨(some 15), none, .mov (.t 0)⟩, ⟨(some 16), none, .mov (.t 1)⟩, ⟨(some 17), none, .call 7 [(.t 16)] [false]⟩, ⟨(some 18), none, .call 6 [(.t 15), (.t 17)] [false, false]⟩, ⟨(some 5), none, .mov (.t 18)⟩])
 (.seq (.region [⟨(some 19), none, .mov (.t 1)⟩, ⟨(some 20), none, .call 7 [(.t 19)] [false]⟩, ⟨(some 6), none, .mov (.t 20)⟩])
 (.seq (.region [⟨(some 21), none, .mov (.t 0)⟩, ⟨(some 22), none, .mov (.t 6)⟩, ⟨(some 23), none, .call 8 [(.t 21), (.t 22)] [false, false]⟩, ⟨(some 7), none, .mov (.t 23)⟩])
 (.seq (.seq (.region [⟨(some 24), none, .mov (.t 7)⟩, ⟨(some 25), none, .mov (.t 5)⟩, ⟨(some 26), none, .call 9 [(.t 24), (.t 25)] [false, false]⟩, ⟨(some 27), none, .un .not (.t 26)⟩])
 (.cond (.t 27) (.seq (.region [⟨(some 4), none, .mov (.c (.b false))⟩])
 .ret)
 .skip))
 (.seq (.seq (.region [⟨(some 28), none, .mov (.t 6)⟩, ⟨(some 29), none, .mov (.t 1)⟩, ⟨(some 30), none, .call 7 [(.t 29)] [false]⟩, ⟨(some 31), none, .call 9 [(.t 28), (.t 30)] [false, false]⟩, ⟨(some 32), none, .un .not (.t 31)⟩])
 (.cond (.t 32) (.seq (.region [⟨(some 4), none, .mov (.c (.b false))⟩])
 .ret)
 .skip))
 (.seq (.region [⟨(some 8), none, .mov (.c (.i .i64 1))⟩])
 (.seq (.region [⟨(some 33), none, .mov (.t 6)⟩, ⟨(some 34), none, .mov (.t 8)⟩, ⟨(some 35), none, .call 10 [(.t 33), (.t 34)] [true, false]⟩, ⟨(some 8), none, .mov (.t 35)⟩])
 (.seq (.seq (.region [⟨(some 36), none, .mov (.t 8)⟩, ⟨(some 37), none, .bin .lss (.t 36) (.c (.i .i64 0))⟩, ⟨(some 38), none, .mov (.t 37)⟩, ⟨(some 39), some (38, false), .mov (.t 7)⟩, ⟨(some 40), some (38, false), .mov (.t 5)⟩, ⟨(some 41), some (38, false), .call 9 [(.t 39), (.t 40)] [false, false]⟩, ⟨(some 42), some (38, false), .un .not (.t 41)⟩, ⟨(some 43), none, .pick (.t 38) (.c (.b true)) (.t 42)⟩])
 (.cond (.t 43) (.seq (.region [⟨(some 4), none, .mov (.c (.b false))⟩])
 .ret)
 .skip))
 (.seq (.region [⟨(some 9), none, .mov (.c (.i .i64 1))⟩])
 (.seq (.region [⟨(some 44), none, .mov (.t 7)⟩, ⟨(some 45), none, .mov (.t 9)⟩, ⟨(some 46), none, .call 10 [(.t 44), (.t 45)] [true, false]⟩, ⟨(some 9), none, .mov (.t 46)⟩])
 (.seq (.region [⟨(some 10), none, .mov (.c (.i .i64 1))⟩])
 (.seq (.region [⟨(some 47), none, .mov (.t 7)⟩, ⟨(some 48), none, .mov (.t 10)⟩, ⟨(some 49), none, .call 11 [(.t 47), (.t 48)] [false, false]⟩, ⟨(some 10), none, .mov (.t 49)⟩])
 (.seq (.seq (.region [⟨(some 50), none, .mov (.t 10)⟩, ⟨(some 51), none, .bin .lss (.t 50) (.c (.i .i64 0))⟩])
 (.cond (.t 51) (.seq (.region [⟨(some 4), none, .mov (.c (.b false))⟩])
 .ret)
 .skip))
 (.seq (.seq (.region [⟨(some 52), none, .mov (.t 10)⟩, ⟨(some 53), none, .mov (.t 9)⟩, ⟨(some 54), none, .bin .neq (.t 52) (.t 53)⟩])
 (.cond (.t 54) (.seq (.region [⟨(some 4), none, .mov (.c (.b false))⟩])
 .ret)
 .skip))
 (.seq (.region [⟨(some 55), none, .mov (.t 0)⟩, ⟨(some 56), none, .mov (.t 1)⟩, ⟨(some 57), none, .call 7 [(.t 56)] [false]⟩, ⟨(some 58), none, .call 8 [(.t 55), (.t 57)] [false, false]⟩, ⟨(some 11), none, .mov (.t 58)⟩])
 (.seq (.seq (.region [⟨(some 59), none, .mov (.t 11)⟩, ⟨(some 60), none, .mov (.t 5)⟩, ⟨(some 61), none, .call 9 [(.t 59), (.t 60)] [false, false]⟩, ⟨(some 62), none, .un .not (.t 61)⟩])
 (.cond (.t 62) (.seq (.region [⟨(some 4), none, .mov (.c (.b false))⟩])
 .ret)
 .skip))
 (.seq (.region [⟨(some 10), none, .mov (.c (.i .i64 1))⟩])
 (.seq (.region [⟨(some 63), none, .mov (.t 7)⟩, ⟨(some 64), none, .mov (.t 10)⟩, ⟨(some 65), none, .call 11 [(.t 63), (.t 64)] [false, false]⟩, ⟨(some 10), none, .mov (.t 65)⟩])
 (.seq (.seq (.region [⟨(some 66), none, .mov (.t 10)⟩, ⟨(some 67), none, .bin .lss (.t 66) (.c (.i .i64 0))⟩])
 (.cond (.t 67) (.seq (.region [⟨(some 4), none, .mov (.c (.b false))⟩])
 .ret)
 .skip))
 (.seq (.seq (.region [⟨(some 68), none, .mov (.t 10)⟩, ⟨(some 69), none, .mov (.t 9)⟩, ⟨(some 70), none, .bin .neq (.t 68) (.t 69)⟩])
 (.cond (.t 70) (.seq (.region [⟨(some 4), none, .mov (.c (.b false))⟩])
 .ret)
 .skip))
 (.seq (.region [⟨(some 4), none, .mov (.c (.b true))⟩])
 .ret)))))))))))))))))))))))⟩,
 [])
def f6 : SFunc × List (List Nat × SCode) := (⟨2, [.tmp 4], (.seq (.region [⟨(some 4), none, .mov (.c .nil)⟩])
 (.seq (.seq (.region [⟨(some 16), none, .mov (.t 0)⟩, ⟨(some 17), none, .call 29 [(.t 16), (.c (.i .i64 0)), (.c (.i .i64 1000000))] [false, false, false]⟩, ⟨(some 18), none, .un .not (.t 17)⟩, ⟨(some 19), none, .mov (.t 18)⟩, ⟨(some 20), some (19, false), .mov (.t 1)⟩, ⟨(some 21), some (19, false), .len false (.t 20)⟩, ⟨(some 22), some (19, false), .bin .gtr (.t 21) (.c (.i .i64 10))⟩, ⟨(some 23), none, .pick (.t 19) (.c (.b true)) (.t 22)⟩])
 (.cond (.t 23) (.seq (.region [⟨(some 4), none, .mov (.c .nil)⟩])
 .ret)
 .skip))
 (.seq (.region [⟨(some 5), none, .mov (.c (.i .i64 0))⟩])
 (.seq (.seq (.region [⟨(some 24), none, .mov (.t 1)⟩, ⟨(some 25), none, .len false (.t 24)⟩, ⟨(some 26), none, .mov (.c (.i .i64 0))⟩])
 (.block 0 (.loop 6 0 [0, 1, 5, 24, 25, 26])))
 (.seq (.seq (.region [⟨(some 37), none, .mov (.t 5)⟩, ⟨(some 38), none, .bin .eql (.t 37) (.c (.i .i64 0))⟩])
 (.cond (.t 38) (.seq (.region [⟨(some 4), none, .mov (.c .nil)⟩])
 .ret)
 .skip))
 (.seq (.region [⟨(some 39), none, .bsl 1 false [(1, (.i .i64 0))] 0 []⟩, ⟨(some 8), none, .mov (.t 39)⟩])
 (.seq (.region [⟨(some 40), none, .bsl 1 false [(1, (.i .i64 0))] 0 []⟩, ⟨(some 9), none, .mov (.t 40)⟩])
 (.seq (.region [⟨(some 41), none, .mov (.t 0)⟩, ⟨(some 10), none, .mov (.t 41)⟩])
 (.seq (.seq (.region [⟨(some 42), none, .mov (.t 1)⟩, ⟨(some 43), none, .len false (.t 42)⟩, ⟨(some 44), none, .mov (.c (.i .i64 0))⟩])
 (.block 2 (.loop 6 1 [0, 5, 8, 9, 10, 42, 43, 44])))
 (.seq (.block 4 (.loop 6 2 [8, 9, 10]))
 (.seq (.region [⟨(some 100), none, .mov (.t 8)⟩, ⟨(some 4), none, .mov (.t 100)⟩])
 .ret)))))))))))⟩,
 [([0, 1, 5, 24, 25, 26], (.seq (.region [⟨(some 27), none, .bin .lss (.t 26) (.t 25)⟩])
 (.seq (.cond (.t 27) .skip
 (.exit 0))
 (.seq (.block 1 (.seq (.region [⟨(some 28), none, .iaddr 1 (.t 24) (.t 26)⟩, ⟨(some 29), none, .load 1 false (.t 28)⟩, ⟨(some 7), none, .mov (.t 29)⟩])
 (.seq (.seq (.region [⟨(some 30), none, .mov (.t 7)⟩, ⟨(some 31), none, .call 29 [(.t 30), (.c (.i .i64 0)), (.c (.i .i64 1000))] [false, false, false]⟩, ⟨(some 32), none, .un .not (.t 31)⟩])
 (.cond (.t 32) (.seq (.region [⟨(some 4), none, .mov (.c .nil)⟩])
 .ret)
 .skip))
 (.region [⟨(some 33), none, .mov (.t 5)⟩, ⟨(some 34), none, .mov (.t 7)⟩, ⟨(some 35), none, .bin .add (.t 33) (.t 34)⟩, ⟨(some 5), none, .mov (.t 35)⟩]))))
 (.region [⟨(some 36), none, .bin .add (.t 26) (.c (.i .i64 1))⟩, ⟨(some 26), none, .mov (.t 36)⟩]))))), ([0, 5, 8, 9, 10, 42, 43, 44], (.seq (.region [⟨(some 45), none, .bin .lss (.t 44) (.t 43)⟩])
 (.seq (.cond (.t 45) .skip
 (.exit 2))
 (.seq (.block 3 (.seq (.region [⟨(some 46), none, .iaddr 1 (.t 42) (.t 44)⟩, ⟨(some 47), none, .load 1 false (.t 46)⟩, ⟨(some 12), none, .mov (.t 47)⟩])
 (.seq (.region [⟨(some 48), none, .mov (.t 8)⟩, ⟨(some 49), none, .mov (.t 0)⟩, ⟨(some 50), none, .mov (.t 12)⟩, ⟨(some 51), none, .bin .mul (.t 49) (.t 50)⟩, ⟨(some 52), none, .mov (.t 5)⟩, ⟨(some 53), none, .bin .quo (.t 51) (.t 52)⟩, ⟨(some 54), none, .bsl 1 false [(1, (.i .i64 0))] 1 [(0, (.t 53))]⟩, ⟨(some 55), none, .app 1 8 false (.t 48) (.t 54)⟩, ⟨(some 8), none, .mov (.t 55)⟩])
 (.seq (.region [⟨(some 56), none, .mov (.t 9)⟩, ⟨(some 57), none, .mov (.t 0)⟩, ⟨(some 58), none, .mov (.t 12)⟩, ⟨(some 59), none, .bin .mul (.t 57) (.t 58)⟩, ⟨(some 60), none, .mov (.t 5)⟩, ⟨(some 61), none, .bin .rem (.t 59) (.t 60)⟩, ⟨(some 62), none, .bsl 1 false [(1, (.i .i64 0))] 1 [(0, (.t 61))]⟩, ⟨(some 63), none, .app 1 8 false (.t 56) (.t 62)⟩, ⟨(some 9), none, .mov (.t 63)⟩])
 (.region [⟨(some 64), none, .mov (.t 10)⟩, ⟨(some 65), none, .mov (.t 0)⟩, ⟨(some 66), none, .mov (.t 12)⟩, ⟨(some 67), none, .bin .mul (.t 65) (.t 66)⟩, ⟨(some 68), none, .mov (.t 5)⟩, ⟨(some 69), none, .bin .quo (.t 67) (.t 68)⟩, ⟨(some 70), none, .bin .sub (.t 64) (.t 69)⟩, ⟨(some 10), none, .mov (.t 70)⟩])))))
 (.region [⟨(some 71), none, .bin .add (.t 44) (.c (.i .i64 1))⟩, ⟨(some 44), none, .mov (.t 71)⟩]))))), ([8, 9, 10], (.seq (.seq (.region [⟨(some 72), none, .mov (.t 10)⟩, ⟨(some 73), none, .bin .gtr (.t 72) (.c (.i .i64 0))⟩])
 (.cond (.t 73) .skip
 (.exit 4)))
 (.block 5 (.seq (.region [⟨(some 13), none, .mov (.c (.i .i64 0))⟩])
 (.seq (.seq (.region [⟨(some 74), none, .mov (.t 9)⟩, ⟨(some 75), none, .len false (.t 74)⟩, ⟨(some 76), none, .mov (.c (.i .i64 0))⟩])
 (.block 6 (.loop 6 3 [8, 9, 10, 13, 74, 75, 76])))
 (.seq (.region [⟨(some 89), none, .mov (.t 8)⟩, ⟨(some 90), none, .mov (.t 13)⟩, ⟨(some 91), none, .iaddr 1 (.t 89) (.t 90)⟩, ⟨(some 92), none, .load 1 false (.t 91)⟩, ⟨(some 93), none, .bin .add (.t 92) (.c (.i .i64 1))⟩, ⟨(some 94), none, .iaddr 1 (.t 89) (.t 90)⟩, ⟨none, none, .store 1 (.t 94) (.t 93)⟩])
 (.seq (.region [⟨(some 95), none, .mov (.t 9)⟩, ⟨(some 96), none, .mov (.t 13)⟩, ⟨(some 97), none, .iaddr 1 (.t 95) (.t 96)⟩, ⟨none, none, .store 1 (.t 97) (.c (.i .i64 (-1)))⟩])
 (.region [⟨(some 98), none, .mov (.t 10)⟩, ⟨(some 99), none, .bin .sub (.t 98) (.c (.i .i64 1))⟩, ⟨(some 10), none, .mov (.t 99)⟩])))))))), ([8, 9, 10, 13, 74, 75, 76], (.seq (.region [⟨(some 77), none, .bin .lss (.t 76) (.t 75)⟩])
 (.seq (.cond (.t 77) .skip
 (.exit 6))
 (.seq (.block 7 (.seq (.region [⟨(some 78), none, .mov (.t 76)⟩, ⟨(some 79), none, .iaddr 1 (.t 74) (.t 76)⟩, ⟨(some 80), none, .load 1 false (.t 79)⟩, ⟨(some 14), none, .mov (.t 78)⟩, ⟨(some 15), none, .mov (.t 80)⟩])
 (.seq (.region [⟨(some 81), none, .mov (.t 15)⟩, ⟨(some 82), none, .mov (.t 9)⟩, ⟨(some 83), none, .mov (.t 13)⟩, ⟨(some 84), none, .iaddr 1 (.t 82) (.t 83)⟩, ⟨(some 85), none, .load 1 false (.t 84)⟩, ⟨(some 86), none, .bin .gtr (.t 81) (.t 85)⟩])
 (.cond (.t 86) (.region [⟨(some 87), none, .mov (.t 14)⟩, ⟨(some 13), none, .mov (.t 87)⟩])
 .skip))))
 (.region [⟨(some 88), none, .bin .add (.t 76) (.c (.i .i64 1))⟩, ⟨(some 76), none, .mov (.t 88)⟩])))))])
def f7 : SFunc × List (List Nat × SCode) := (⟨1, [.tmp 2], (.seq (.region [⟨(some 2), none, .mov (.c .nil)⟩])
 (.seq (.region [⟨(some 5), none, .mov (.t 0)⟩, ⟨(some 6), none, .len false (.t 5)⟩, ⟨(some 7), none, .msl 1 8 false [(1, (.i .i64 0))] (.t 6) (.t 6)⟩, ⟨(some 3), none, .mov (.t 7)⟩])
 (.seq (.seq (.region [⟨(some 4), none, .mov (.c (.i .i64 0))⟩])
 (.block 0 (.loop 7 0 [0, 3, 4])))
 (.seq (.region [⟨(some 21), none, .mov (.t 3)⟩, ⟨(some 2), none, .mov (.t 21)⟩])
 .ret))))⟩,
 [([0, 3, 4], (.seq (.seq (.region [⟨(some 8), none, .mov (.t 4)⟩, ⟨(some 9), none, .mov (.t 0)⟩, ⟨(some 10), none, .len false (.t 9)⟩, ⟨(some 11), none, .bin .lss (.t 8) (.t 10)⟩])
 (.cond (.t 11) .skip
 (.exit 0)))
 (.seq (.block 1 (.region [⟨(some 14), none, .mov (.t 3)⟩, ⟨(some 15), none, .mov (.t 4)⟩, ⟨(some 16), none, .mov (.t 0)⟩, ⟨(some 17), none, .mov (.t 4)⟩, ⟨(some 18), none, .iaddr 1 (.t 16) (.t 17)⟩, ⟨(some 19), none, .load 1 false (.t 18)⟩, ⟨(some 20), none, .iaddr 1 (.t 14) (.t 15)⟩, ⟨none, none, .store 1 (.t 20) (.t 19)⟩]))
 (.region [⟨(some 12), none, .mov (.t 4)⟩, ⟨(some 13), none, .bin .add (.t 12) (.c (.i .i64 1))⟩, ⟨(some 4), none, .mov (.t 13)⟩]))))])
def f8 : SFunc × List (List Nat × SCode) := (⟨2, [.tmp 4], (.seq (.region [⟨(some 2), none, .box 1 (.t 0)⟩, ⟨(some 3), none, .box 1 (.t 1)⟩, ⟨(some 4), none, .mov (.c .nil)⟩])
 (.seq (.region [⟨(some 5), none, .alloc [(1, (.i .i64 0))]⟩, ⟨none, none, .store 1 (.t 5) (.c (.i .i64 0))⟩])
 (.seq (.seq (.region [⟨(some 13), none, .load 1 false (.t 3)⟩, ⟨(some 14), none, .len false (.t 13)⟩, ⟨(some 15), none, .bin .leq (.t 14) (.c (.i .i64 10))⟩, ⟨(some 16), none, .mov (.t 15)⟩, ⟨(some 17), some (16, true), .load 1 false (.t 3)⟩, ⟨(some 18), some (16, true), .call 30 [(.t 17), (.c (.i .i64 0)), (.c (.i .i64 1000))] [false, false, false]⟩, ⟨(some 19), none, .pick (.t 16) (.t 18) (.c (.b false))⟩])
 (.cond (.t 19) (.region [⟨(some 20), none, .load 1 false (.t 3)⟩, ⟨(some 21), none, .call 31 [(.t 20)] [false]⟩, ⟨none, none, .store 1 (.t 5) (.t 21)⟩])
 .skip))
 (.seq (.seq (.region [⟨(some 22), none, .load 1 false (.t 2)⟩, ⟨(some 23), none, .call 32 [(.t 22), (.c (.i .i64 0)), (.c (.i .i64 1000000))] [false, false, false]⟩, ⟨(some 24), none, .un .not (.t 23)⟩, ⟨(some 25), none, .mov (.t 24)⟩, ⟨(some 26), some (25, false), .load 1 false (.t 5)⟩, ⟨(some 27), some (25, false), .bin .lss (.t 26) (.c (.i .i64 1))⟩, ⟨(some 28), none, .pick (.t 25) (.c (.b true)) (.t 27)⟩])
 (.cond (.t 28) (.seq (.region [⟨(some 4), none, .mov (.c .nil)⟩])
 .ret)
 .skip))
 (.seq (.draw [⟨(some 29), none, .bsl 1 false [(1, (.i .i64 0))] 0 []⟩, ⟨(some 30), none, .load 1 false (.t 2)⟩, ⟨(some 6), none, .mov (.t 29)⟩, ⟨(some 7), none, .mov (.t 30)⟩] [[], [0], [1], []])
 (.seq (.seq (.region [⟨(some 31), none, .load 1 false (.t 3)⟩, ⟨(some 32), none, .len false (.t 31)⟩, ⟨(some 33), none, .mov (.c (.i .i64 0))⟩])
 (.block 0 (.loop 8 0 [2, 3, 5, 6, 7, 31, 32, 33])))
 (.seq (.region [⟨(some 53), none, .load 1 false (.t 3)⟩, ⟨(some 54), none, .len false (.t 53)⟩, ⟨(some 55), none, .call 33 [(.t 54)] [false]⟩, ⟨(some 10), none, .mov (.t 55)⟩])
 (.seq (.region [⟨(some 56), none, .mov (.t 10)⟩, ⟨(some 57), none, .mkfn 35 [(.t 2), (.t 3), (.t 5)]⟩, ⟨(some 58), none, .call 34 [(.t 56), (.t 57)] [true, false]⟩])
 (.seq (.seq (.region [⟨(some 59), none, .mov (.t 10)⟩, ⟨(some 60), none, .mov (.t 7)⟩, ⟨(some 61), none, .slice 1 (.t 59) none (some (.t 60)) none⟩, ⟨(some 62), none, .len false (.t 61)⟩, ⟨(some 63), none, .mov (.c (.i .i64 0))⟩])
 (.block 2 (.loop 8 1 [6, 61, 62, 63])))
 (.seq (.region [⟨(some 74), none, .mov (.t 6)⟩, ⟨(some 4), none, .mov (.t 74)⟩])
 .ret))))))))))⟩,
 [([2, 3, 5, 6, 7, 31, 32, 33], (.seq (.region [⟨(some 34), none, .bin .lss (.t 33) (.t 32)⟩])
 (.seq (.cond (.t 34) .skip
 (.exit 0))
 (.seq (.block 1 (.seq (.region [⟨(some 35), none, .iaddr 1 (.t 31) (.t 33)⟩, ⟨(some 36), none, .load 1 false (.t 35)⟩, ⟨(some 9), none, .mov (.t 36)⟩])
 (.seq (.region [⟨(some 37), none, .mov (.t 6)⟩, ⟨(some 38), none, .load 1 false (.t 2)⟩, ⟨(some 39), none, .mov (.t 9)⟩, ⟨(some 40), none, .bin .mul (.t 38) (.t 39)⟩, ⟨(some 41), none, .load 1 false (.t 5)⟩, ⟨(some 42), none, .bin .quo (.t 40) (.t 41)⟩, ⟨(some 43), none, .bsl 1 false [(1, (.i .i64 0))] 1 [(0, (.t 42))]⟩, ⟨(some 44), none, .app 1 8 false (.t 37) (.t 43)⟩, ⟨(some 6), none, .mov (.t 44)⟩])
 (.region [⟨(some 45), none, .mov (.t 7)⟩, ⟨(some 46), none, .load 1 false (.t 2)⟩, ⟨(some 47), none, .mov (.t 9)⟩, ⟨(some 48), none, .bin .mul (.t 46) (.t 47)⟩, ⟨(some 49), none, .load 1 false (.t 5)⟩, ⟨(some 50), none, .bin .quo (.t 48) (.t 49)⟩, ⟨(some 51), none, .bin .sub (.t 45) (.t 50)⟩, ⟨(some 7), none, .mov (.t 51)⟩]))))
 (.region [⟨(some 52), none, .bin .add (.t 33) (.c (.i .i64 1))⟩, ⟨(some 33), none, .mov (.t 52)⟩]))))), ([6, 61, 62, 63], (.seq (.region [⟨(some 64), none, .bin .lss (.t 63) (.t 62)⟩])
 (.seq (.cond (.t 64) .skip
 (.exit 2))
 (.seq (.block 3 (.seq (.region [⟨(some 65), none, .iaddr 1 (.t 61) (.t 63)⟩, ⟨(some 66), none, .load 1 false (.t 65)⟩, ⟨(some 12), none, .mov (.t 66)⟩])
 (.region [⟨(some 67), none, .mov (.t 6)⟩, ⟨(some 68), none, .mov (.t 12)⟩, ⟨(some 69), none, .iaddr 1 (.t 67) (.t 68)⟩, ⟨(some 70), none, .load 1 false (.t 69)⟩, ⟨(some 71), none, .bin .add (.t 70) (.c (.i .i64 1))⟩, ⟨(some 72), none, .iaddr 1 (.t 67) (.t 68)⟩, ⟨none, none, .store 1 (.t 72) (.t 71)⟩])))
 (.region [⟨(some 73), none, .bin .add (.t 63) (.c (.i .i64 1))⟩, ⟨(some 63), none, .mov (.t 73)⟩])))))])
def f9 : SFunc × List (List Nat × SCode) := (⟨2, [.tmp 4], (.seq (.region [⟨(some 4), none, .mov (.c (.b false))⟩])
 (.seq (.seq (.region [⟨(some 6), none, .mov (.t 0)⟩, ⟨(some 7), none, .len false (.t 6)⟩, ⟨(some 8), none, .mov (.t 1)⟩, ⟨(some 9), none, .len false (.t 8)⟩, ⟨(some 10), none, .bin .neq (.t 7) (.t 9)⟩])
 (.cond (.t 10) (.seq (.region [⟨(some 4), none, .mov (.c (.b false))⟩])
 .ret)
 .skip))
 (.seq (.seq (.region [⟨(some 5), none, .mov (.c (.i .i64 0))⟩])
 (.block 0 (.loop 9 0 [0, 1, 5])))
 (.seq (.region [⟨(some 4), none, .mov (.c (.b true))⟩])
 .ret))))⟩,
 [([0, 1, 5], (.seq (.seq (.region [⟨(some 11), none, .mov (.t 5)⟩, ⟨(some 12), none, .mov (.t 0)⟩, ⟨(some 13), none, .len false (.t 12)⟩, ⟨(some 14), none, .bin .lss (.t 11) (.t 13)⟩])
 (.cond (.t 14) .skip
 (.exit 0)))
 (.seq (.block 1 (.seq (.draw [⟨(some 17), none, .mov (.t 0)⟩, ⟨(some 18), none, .mov (.t 5)⟩, ⟨(some 19), none, .iaddr 1 (.t 17) (.t 18)⟩, ⟨(some 20), none, .load 1 false (.t 19)⟩, ⟨(some 21), none, .mov (.t 1)⟩, ⟨(some 22), none, .mov (.t 5)⟩, ⟨(some 23), none, .iaddr 1 (.t 21) (.t 22)⟩, ⟨(some 24), none, .load 1 false (.t 23)⟩, ⟨(some 25), none, .bin .neq (.t 20) (.t 24)⟩] [[], [0], [], [], [0, 1, 2, 3], [0, 1, 2, 3, 4], [0, 1, 2, 3], [0, 1, 2, 3], []])
 (.cond (.t 25) (.seq (.region [⟨(some 4), none, .mov (.c (.b false))⟩])
 .ret)
 .skip)))
 (.region [⟨(some 15), none, .mov (.t 5)⟩, ⟨(some 16), none, .bin .add (.t 15) (.c (.i .i64 1))⟩, ⟨(some 5), none, .mov (.t 16)⟩]))))])
def f10 : SFunc × List (List Nat × SCode) := (⟨2, [.tmp 4], (.seq (.region [⟨(some 4), none, .mov (.c (.i .i64 0))⟩])
 (.seq (.seq (.region [⟨(some 5), none, .mov (.c (.i .i64 0))⟩])
 (.block 0 (.loop 10 0 [0, 1, 5])))
 (.seq (.region [⟨(some 18), none, .mov (.t 1)⟩, ⟨(some 4), none, .mov (.t 18)⟩])
 .ret)))⟩,
 [([0, 1, 5], (.seq (.seq (.region [⟨(some 6), none, .mov (.t 5)⟩, ⟨(some 7), none, .mov (.t 0)⟩, ⟨(some 8), none, .len false (.t 7)⟩, ⟨(some 9), none, .bin .lss (.t 6) (.t 8)⟩])
 (.cond (.t 9) .skip
 (.exit 0)))
 (.seq (.block 1 (.seq (.region [⟨(some 12), none, .mov (.t 0)⟩, ⟨(some 13), none, .mov (.t 5)⟩, ⟨(some 14), none, .mov (.t 1)⟩, ⟨(some 15), none, .iaddr 1 (.t 12) (.t 13)⟩, ⟨none, none, .store 1 (.t 15) (.t 14)⟩])
 (.region [⟨(some 16), none, .mov (.t 1)⟩, ⟨(some 17), none, .bin .add (.t 16) (.c (.i .i64 1))⟩, ⟨(some 1), none, .mov (.t 17)⟩])))
 (.region [⟨(some 10), none, .mov (.t 5)⟩, ⟨(some 11), none, .bin .add (.t 10) (.c (.i .i64 1))⟩, ⟨(some 5), none, .mov (.t 11)⟩]))))])
def f11 : SFunc × List (List Nat × SCode) := (⟨2, [.tmp 4], (.seq (.region [⟨(some 4), none, .mov (.c (.i .i64 0))⟩])
 (.seq (.seq (.region [⟨(some 5), none, .mov (.c (.i .i64 0))⟩])
 (.block 0 (.loop 11 0 [0, 1, 5])))
 (.seq (.region [⟨(some 20), none, .mov (.t 1)⟩, ⟨(some 4), none, .mov (.t 20)⟩])
 .ret)))⟩,
 [([0, 1, 5], (.seq (.seq (.region [⟨(some 6), none, .mov (.t 5)⟩, ⟨(some 7), none, .mov (.t 0)⟩, ⟨(some 8), none, .len false (.t 7)⟩, ⟨(some 9), none, .bin .lss (.t 6) (.t 8)⟩])
 (.cond (.t 9) .skip
 (.exit 0)))
 (.seq (.block 1 (.seq (.seq (.region [⟨(some 12), none, .mov (.t 0)⟩, ⟨(some 13), none, .mov (.t 5)⟩, ⟨(some 14), none, .iaddr 1 (.t 12) (.t 13)⟩, ⟨(some 15), none, .load 1 false (.t 14)⟩, ⟨(some 16), none, .mov (.t 1)⟩, ⟨(some 17), none, .bin .neq (.t 15) (.t 16)⟩])
 (.cond (.t 17) (.seq (.region [⟨(some 4), none, .mov (.c (.i .i64 (-1)))⟩])
 .ret)
 .skip))
 (.region [⟨(some 18), none, .mov (.t 1)⟩, ⟨(some 19), none, .bin .add (.t 18) (.c (.i .i64 1))⟩, ⟨(some 1), none, .mov (.t 19)⟩])))
 (.region [⟨(some 10), none, .mov (.t 5)⟩, ⟨(some 11), none, .bin .add (.t 10) (.c (.i .i64 1))⟩, ⟨(some 5), none, .mov (.t 11)⟩]))))])
def f29 : SFunc × List (List Nat × SCode) := (⟨3, [.tmp 6], (.seq (.region [⟨(some 6), none, .mov (.c (.b false))⟩])
 (.seq (.region [⟨(some 7), none, .mov (.t 0)⟩, ⟨(some 8), none, .mov (.t 1)⟩, ⟨(some 9), none, .bin .geq (.t 7) (.t 8)⟩, ⟨(some 10), none, .mov (.t 9)⟩, ⟨(some 11), some (10, true), .mov (.t 0)⟩, ⟨(some 12), some (10, true), .mov (.t 2)⟩, ⟨(some 13), some (10, true), .bin .leq (.t 11) (.t 12)⟩, ⟨(some 14), none, .pick (.t 10) (.t 13) (.c (.b false))⟩, ⟨(some 6), none, .mov (.t 14)⟩])
 .ret))⟩,
 [])
def f30 : SFunc × List (List Nat × SCode) := (⟨3, [.tmp 6], (.seq (.region [⟨(some 4), none, .box 1 (.t 1)⟩, ⟨(some 5), none, .box 1 (.t 2)⟩, ⟨(some 6), none, .mov (.c (.b false))⟩])
 (.seq (.region [⟨(some 7), none, .mov (.t 0)⟩, ⟨(some 8), none, .mkfn 52 [(.t 4), (.t 5)]⟩, ⟨(some 9), none, .call 51 [(.t 7), (.t 8)] [false, false]⟩, ⟨(some 10), none, .un .not (.t 9)⟩, ⟨(some 6), none, .mov (.t 10)⟩])
 .ret))⟩,
 [])
def f31 : SFunc × List (List Nat × SCode) := (⟨1, [.tmp 2], (.seq (.region [⟨(some 2), none, .mov (.c (.i .i64 0))⟩])
 (.seq (.region [⟨(some 3), none, .mov (.c (.i .i64 0))⟩])
 (.seq (.seq (.region [⟨(some 6), none, .mov (.t 0)⟩, ⟨(some 7), none, .len false (.t 6)⟩, ⟨(some 8), none, .mov (.c (.i .i64 0))⟩])
 (.block 0 (.loop 31 0 [3, 6, 7, 8])))
 (.seq (.region [⟨(some 16), none, .mov (.t 3)⟩, ⟨(some 2), none, .mov (.t 16)⟩])
 .ret))))⟩,
 [([3, 6, 7, 8], (.seq (.region [⟨(some 9), none, .bin .lss (.t 8) (.t 7)⟩])
 (.seq (.cond (.t 9) .skip
 (.exit 0))
 (.seq (.block 1 (.seq (.region [⟨(some 10), none, .iaddr 1 (.t 6) (.t 8)⟩, ⟨(some 11), none, .load 1 false (.t 10)⟩, ⟨(some 5), none, .mov (.t 11)⟩])
 (.region [⟨(some 12), none, .mov (.t 3)⟩, ⟨(some 13), none, .mov (.t 5)⟩, ⟨(some 14), none, .bin .add (.t 12) (.t 13)⟩, ⟨(some 3), none, .mov (.t 14)⟩])))
 (.region [⟨(some 15), none, .bin .add (.t 8) (.c (.i .i64 1))⟩, ⟨(some 8), none, .mov (.t 15)⟩])))))])
def f32 : SFunc × List (List Nat × SCode) := (⟨3, [.tmp 6], (.seq (.region [⟨(some 6), none, .mov (.c (.b false))⟩])
 (.seq (.region [⟨(some 7), none, .mov (.t 0)⟩, ⟨(some 8), none, .mov (.t 1)⟩, ⟨(some 9), none, .bin .geq (.t 7) (.t 8)⟩, ⟨(some 10), none, .mov (.t 9)⟩, ⟨(some 11), some (10, true), .mov (.t 0)⟩, ⟨(some 12), some (10, true), .mov (.t 2)⟩, ⟨(some 13), some (10, true), .bin .leq (.t 11) (.t 12)⟩, ⟨(some 14), none, .pick (.t 10) (.t 13) (.c (.b false))⟩, ⟨(some 6), none, .mov (.t 14)⟩])
 .ret))⟩,
 [])
def f33 : SFunc × List (List Nat × SCode) := (⟨1, [.tmp 2], (.seq (.region [⟨(some 2), none, .mov (.c .nil)⟩])
 (.seq (.region [⟨(some 5), none, .bsl 1 false [(1, (.i .i64 0))] 0 []⟩, ⟨(some 3), none, .mov (.t 5)⟩])
 (.seq (.seq (.region [⟨(some 6), none, .mov (.t 0)⟩, ⟨(some 7), none, .mov (.c (.i .i64 0))⟩])
 (.block 0 (.loop 33 0 [3, 6, 7])))
 (.seq (.region [⟨(some 15), none, .mov (.t 3)⟩, ⟨(some 2), none, .mov (.t 15)⟩])
 .ret))))⟩,
 [([3, 6, 7], (.seq (.region [⟨(some 8), none, .bin .lss (.t 7) (.t 6)⟩])
 (.seq (.cond (.t 8) .skip
 (.exit 0))
 (.seq (.block 1 (.seq (.region [⟨(some 9), none, .mov (.t 7)⟩, ⟨(some 4), none, .mov (.t 9)⟩])
 (.region [⟨(some 10), none, .mov (.t 3)⟩, ⟨(some 11), none, .mov (.t 4)⟩, ⟨(some 12), none, .bsl 1 false [(1, (.i .i64 0))] 1 [(0, (.t 11))]⟩, ⟨(some 13), none, .app 1 8 false (.t 10) (.t 12)⟩, ⟨(some 3), none, .mov (.t 13)⟩])))
 (.region [⟨(some 14), none, .bin .add (.t 7) (.c (.i .i64 1))⟩, ⟨(some 7), none, .mov (.t 14)⟩])))))])
def f34 : SFunc × List (List Nat × SCode) := (⟨2, [], (.region [⟨(some 4), none, .mov (.t 0)⟩, ⟨(some 5), none, .mov (.t 0)⟩, ⟨(some 6), none, .len false (.t 5)⟩, ⟨(some 7), none, .mov (.t 1)⟩, ⟨(some 8), none, .call 53 [(.t 4), (.t 6), (.t 7)] [true, false, false]⟩])⟩,
 [])
def f35 : SFunc × List (List Nat × SCode) := (⟨5, [.tmp 7], (.seq (.region [⟨(some 7), none, .mov (.c (.i .i64 0))⟩])
 (.seq (.draw [⟨(some 8), none, .load 1 false (.t 2)⟩, ⟨(some 9), none, .load 1 false (.t 3)⟩, ⟨(some 10), none, .mov (.t 1)⟩, ⟨(some 11), none, .iaddr 1 (.t 9) (.t 10)⟩, ⟨(some 12), none, .load 1 false (.t 11)⟩, ⟨(some 13), none, .bin .mul (.t 8) (.t 12)⟩, ⟨(some 14), none, .load 1 false (.t 4)⟩, ⟨(some 15), none, .bin .rem (.t 13) (.t 14)⟩, ⟨(some 16), none, .load 1 false (.t 2)⟩, ⟨(some 17), none, .load 1 false (.t 3)⟩, ⟨(some 18), none, .mov (.t 0)⟩, ⟨(some 19), none, .iaddr 1 (.t 17) (.t 18)⟩, ⟨(some 20), none, .load 1 false (.t 19)⟩, ⟨(some 21), none, .bin .mul (.t 16) (.t 20)⟩, ⟨(some 22), none, .load 1 false (.t 4)⟩, ⟨(some 23), none, .bin .rem (.t 21) (.t 22)⟩, ⟨(some 24), none, .bin .sub (.t 15) (.t 23)⟩, ⟨(some 7), none, .mov (.t 24)⟩] [[], [0], [0, 1], [0], [0], [], [0, 1, 2, 3, 4, 5], [], [0, 1, 2, 3, 4, 5, 6, 7], [0, 1, 2, 3, 4, 5, 6, 7, 8], [0, 1, 2, 3, 4, 5, 6, 7, 8, 9], [0, 1, 2, 3, 4, 5, 6, 7, 8], [0, 1, 2, 3, 4, 5, 6, 7, 8], [0, 1, 2, 3, 4, 5, 6, 7], [0, 1, 2, 3, 4, 5, 6, 7, 8, 9, 10, 11, 12, 13], [0, 1, 2, 3, 4, 5, 6, 7], [], []])
 .ret))⟩,
 [])
def f51 : SFunc × List (List Nat × SCode) := (⟨2, [.tmp 4], (.seq (.region [⟨(some 4), none, .mov (.c (.b false))⟩])
 (.seq (.region [⟨(some 5), none, .mov (.t 0)⟩, ⟨(some 6), none, .mov (.t 1)⟩, ⟨(some 7), none, .call 59 [(.t 5), (.t 6)] [false, false]⟩, ⟨(some 8), none, .bin .geq (.t 7) (.c (.i .i64 0))⟩, ⟨(some 4), none, .mov (.t 8)⟩])
 .ret))⟩,
 [])
def f52 : SFunc × List (List Nat × SCode) := (⟨3, [.tmp 4], (.seq (.region [⟨(some 4), none, .mov (.c (.b false))⟩])
 (.seq (.region [⟨(some 5), none, .mov (.t 0)⟩, ⟨(some 6), none, .load 1 false (.t 1)⟩, ⟨(some 7), none, .load 1 false (.t 2)⟩, ⟨(some 8), none, .call 32 [(.t 5), (.t 6), (.t 7)] [false, false, false]⟩, ⟨(some 9), none, .un .not (.t 8)⟩, ⟨(some 4), none, .mov (.t 9)⟩])
 .ret))⟩,
 [])
def f53 : SFunc × List (List Nat × SCode) := (⟨3, [], (.seq (.region [⟨(some 6), none, .mov (.c (.i .i64 20))⟩])
 (.seq (.region [⟨(some 10), none, .mov (.t 6)⟩, ⟨(some 7), none, .mov (.c (.i .i64 0))⟩, ⟨(some 8), none, .mov (.t 10)⟩])
 (.seq (.block 0 (.loop 53 0 [0, 1, 2, 6, 7, 8]))
 (.seq (.region [⟨(some 23), none, .mov (.t 0)⟩, ⟨(some 24), none, .mov (.t 7)⟩, ⟨(some 25), none, .mov (.t 1)⟩, ⟨(some 26), none, .mov (.t 2)⟩, ⟨(some 27), none, .call 60 [(.t 23), (.t 24), (.t 25), (.t 26)] [true, false, false, false]⟩])
 (.block 2 (.loop 53 1 [0, 1, 2, 6]))))))⟩,
 [([0, 1, 2, 6, 7, 8], (.seq (.seq (.region [⟨(some 11), none, .mov (.t 8)⟩, ⟨(some 12), none, .mov (.t 1)⟩, ⟨(some 13), none, .bin .leq (.t 11) (.t 12)⟩])
 (.cond (.t 13) .skip
 (.exit 0)))
 (.block 1 (.seq (.region [⟨(some 14), none, .mov (.t 0)⟩, ⟨(some 15), none, .mov (.t 7)⟩, ⟨(some 16), none, .mov (.t 8)⟩, ⟨(some 17), none, .mov (.t 2)⟩, ⟨(some 18), none, .call 60 [(.t 14), (.t 15), (.t 16), (.t 17)] [true, false, false, false]⟩])
 (.seq (.region [⟨(some 19), none, .mov (.t 8)⟩, ⟨(some 7), none, .mov (.t 19)⟩])
 (.region [⟨(some 20), none, .mov (.t 8)⟩, ⟨(some 21), none, .mov (.t 6)⟩, ⟨(some 22), none, .bin .add (.t 20) (.t 21)⟩, ⟨(some 8), none, .mov (.t 22)⟩])))))), ([0, 1, 2, 6], (.seq (.seq (.region [⟨(some 28), none, .mov (.t 6)⟩, ⟨(some 29), none, .mov (.t 1)⟩, ⟨(some 30), none, .bin .lss (.t 28) (.t 29)⟩])
 (.cond (.t 30) .skip
 (.exit 2)))
 (.block 3 (.seq (.region [⟨(some 31), none, .mov (.t 6)⟩, ⟨(some 32), none, .bin .mul (.c (.i .i64 2)) (.t 31)⟩, ⟨(some 7), none, .mov (.c (.i .i64 0))⟩, ⟨(some 8), none, .mov (.t 32)⟩])
 (.seq (.block 4 (.loop 53 2 [0, 1, 2, 6, 7, 8]))
 (.seq (.seq (.region [⟨(some 49), none, .mov (.t 7)⟩, ⟨(some 50), none, .mov (.t 6)⟩, ⟨(some 51), none, .bin .add (.t 49) (.t 50)⟩, ⟨(some 9), none, .mov (.t 51)⟩])
 (.seq (.region [⟨(some 52), none, .mov (.t 9)⟩, ⟨(some 53), none, .mov (.t 1)⟩, ⟨(some 54), none, .bin .lss (.t 52) (.t 53)⟩])
 (.cond (.t 54) (.region [⟨(some 55), none, .mov (.t 0)⟩, ⟨(some 56), none, .mov (.t 7)⟩, ⟨(some 57), none, .mov (.t 9)⟩, ⟨(some 58), none, .mov (.t 1)⟩, ⟨(some 59), none, .mov (.t 2)⟩, ⟨(some 60), none, .call 61 [(.t 55), (.t 56), (.t 57), (.t 58), (.t 59)] [true, false, false, false, false]⟩])
 .skip)))
 (.region [⟨(some 61), none, .mov (.t 6)⟩, ⟨(some 62), none, .bin .mul (.t 61) (.c (.i .i64 2))⟩, ⟨(some 6), none, .mov (.t 62)⟩]))))))), ([0, 1, 2, 6, 7, 8], (.seq (.seq (.region [⟨(some 33), none, .mov (.t 8)⟩, ⟨(some 34), none, .mov (.t 1)⟩, ⟨(some 35), none, .bin .leq (.t 33) (.t 34)⟩])
 (.cond (.t 35) .skip
 (.exit 4)))
 (.block 5 (.seq (.region [⟨(some 36), none, .mov (.t 0)⟩, ⟨(some 37), none, .mov (.t 7)⟩, ⟨(some 38), none, .mov (.t 7)⟩, ⟨(some 39), none, .mov (.t 6)⟩, ⟨(some 40), none, .bin .add (.t 38) (.t 39)⟩, ⟨(some 41), none, .mov (.t 8)⟩, ⟨(some 42), none, .mov (.t 2)⟩, ⟨(some 43), none, .call 61 [(.t 36), (.t 37), (.t 40), (.t 41), (.t 42)] [true, false, false, false, false]⟩])
 (.seq (.region [⟨(some 44), none, .mov (.t 8)⟩, ⟨(some 7), none, .mov (.t 44)⟩])
 (.region [⟨(some 45), none, .mov (.t 8)⟩, ⟨(some 46), none, .mov (.t 6)⟩, ⟨(some 47), none, .bin .mul (.c (.i .i64 2)) (.t 46)⟩, ⟨(some 48), none, .bin .add (.t 45) (.t 47)⟩, ⟨(some 8), none, .mov (.t 48)⟩]))))))])
def f59 : SFunc × List (List Nat × SCode) := (⟨2, [.tmp 4], (.seq (.region [⟨(some 4), none, .mov (.c (.i .i64 0))⟩])
 (.seq (.seq (.region [⟨(some 6), none, .mov (.t 0)⟩, ⟨(some 7), none, .len false (.t 6)⟩, ⟨(some 8), none, .mov (.c (.i .i64 0))⟩])
 (.block 0 (.loop 59 0 [0, 1, 7, 8])))
 (.seq (.region [⟨(some 4), none, .mov (.c (.i .i64 (-1)))⟩])
 .ret)))⟩,
 [([0, 1, 7, 8], (.seq (.region [⟨(some 9), none, .bin .lss (.t 8) (.t 7)⟩])
 (.seq (.cond (.t 9) .skip
 (.exit 0))
 (.seq (.block 1 (.seq (.region [⟨(some 10), none, .mov (.t 8)⟩, ⟨(some 5), none, .mov (.t 10)⟩])
 (.seq (.region [⟨(some 11), none, .mov (.t 1)⟩, ⟨(some 12), none, .mov (.t 0)⟩, ⟨(some 13), none, .mov (.t 5)⟩, ⟨(some 14), none, .iaddr 1 (.t 12) (.t 13)⟩, ⟨(some 15), none, .load 1 false (.t 14)⟩, ⟨(some 16), none, .callv (.t 11) [(.t 15)] [false]⟩])
 (.cond (.t 16) (.seq (.region [⟨(some 17), none, .mov (.t 5)⟩, ⟨(some 4), none, .mov (.t 17)⟩])
 .ret)
 .skip))))
 (.region [⟨(some 18), none, .bin .add (.t 8) (.c (.i .i64 1))⟩, ⟨(some 8), none, .mov (.t 18)⟩])))))])
def f60 : SFunc × List (List Nat × SCode) := (⟨4, [], (.seq (.region [⟨(some 10), none, .mov (.t 1)⟩, ⟨(some 11), none, .bin .add (.t 10) (.c (.i .i64 1))⟩, ⟨(some 8), none, .mov (.t 11)⟩])
 (.block 0 (.loop 60 0 [0, 1, 2, 3, 8])))⟩,
 [([0, 1, 2, 3, 8], (.seq (.seq (.region [⟨(some 12), none, .mov (.t 8)⟩, ⟨(some 13), none, .mov (.t 2)⟩, ⟨(some 14), none, .bin .lss (.t 12) (.t 13)⟩])
 (.cond (.t 14) .skip
 (.exit 0)))
 (.seq (.block 1 (.seq (.region [⟨(some 17), none, .mov (.t 8)⟩, ⟨(some 9), none, .mov (.t 17)⟩])
 (.block 2 (.loop 60 1 [0, 1, 2, 3, 8, 9]))))
 (.region [⟨(some 15), none, .mov (.t 8)⟩, ⟨(some 16), none, .bin .add (.t 15) (.c (.i .i64 1))⟩, ⟨(some 8), none, .mov (.t 16)⟩])))), ([0, 1, 2, 3, 8, 9], (.seq (.seq (.draw [⟨(some 18), none, .mov (.t 9)⟩, ⟨(some 19), none, .mov (.t 1)⟩, ⟨(some 20), none, .bin .gtr (.t 18) (.t 19)⟩, ⟨(some 21), none, .mov (.t 20)⟩, ⟨(some 22), some (21, true), .mov (.t 3)⟩, ⟨(some 23), some (21, true), .mov (.t 0)⟩, ⟨(some 24), some (21, true), .mov (.t 9)⟩, ⟨(some 25), some (21, true), .iaddr 1 (.t 23) (.t 24)⟩, ⟨(some 26), some (21, true), .load 1 false (.t 25)⟩, ⟨(some 27), some (21, true), .mov (.t 0)⟩, ⟨(some 28), some (21, true), .mov (.t 9)⟩, ⟨(some 29), some (21, true), .bin .sub (.t 28) (.c (.i .i64 1))⟩, ⟨(some 30), some (21, true), .iaddr 1 (.t 27) (.t 29)⟩, ⟨(some 31), some (21, true), .load 1 false (.t 30)⟩, ⟨(some 32), some (21, true), .callv (.t 22) [(.t 26), (.t 31)] [false, false]⟩, ⟨(some 33), some (21, true), .bin .lss (.t 32) (.c (.i .i64 0))⟩, ⟨(some 34), none, .pick (.t 21) (.t 33) (.c (.b false))⟩] [[], [0], [], [], [], [4], [4, 5], [4], [4], [4, 5, 6, 7, 8], [4, 5, 6, 7, 8, 9], [4, 5, 6, 7, 8, 9], [4, 5, 6, 7, 8], [4, 5, 6, 7, 8], [], [], []])
 (.cond (.t 34) .skip
 (.exit 2)))
 (.seq (.block 3 (.draw [⟨(some 37), none, .mov (.t 0)⟩, ⟨(some 38), none, .mov (.t 9)⟩, ⟨(some 39), none, .mov (.t 0)⟩, ⟨(some 40), none, .mov (.t 9)⟩, ⟨(some 41), none, .bin .sub (.t 40) (.c (.i .i64 1))⟩, ⟨(some 42), none, .mov (.t 0)⟩, ⟨(some 43), none, .mov (.t 9)⟩, ⟨(some 44), none, .bin .sub (.t 43) (.c (.i .i64 1))⟩, ⟨(some 45), none, .iaddr 1 (.t 42) (.t 44)⟩, ⟨(some 46), none, .load 1 false (.t 45)⟩, ⟨(some 47), none, .mov (.t 0)⟩, ⟨(some 48), none, .mov (.t 9)⟩, ⟨(some 49), none, .iaddr 1 (.t 47) (.t 48)⟩, ⟨(some 50), none, .load 1 false (.t 49)⟩, ⟨(some 51), none, .iaddr 1 (.t 37) (.t 38)⟩, ⟨none, none, .store 1 (.t 51) (.t 46)⟩, ⟨(some 52), none, .iaddr 1 (.t 39) (.t 41)⟩, ⟨none, none, .store 1 (.t 52) (.t 50)⟩] [[], [0], [0, 1], [0, 1, 2], [0, 1, 2], [0, 1, 2, 3, 4], [0, 1, 2, 3, 4, 5], [0, 1, 2, 3, 4, 5], [0, 1, 2, 3, 4], [0, 1, 2, 3, 4], [0, 1, 2, 3, 4, 5, 6, 7, 8, 9], [0, 1, 2, 3, 4, 5, 6, 7, 8, 9, 10], [0, 1, 2, 3, 4, 5, 6, 7, 8, 9], [0, 1, 2, 3, 4, 5, 6, 7, 8, 9], [2, 3, 4], [2, 3, 4], [], []]))
 (.region [⟨(some 35), none, .mov (.t 9)⟩, ⟨(some 36), none, .bin .sub (.t 35) (.c (.i .i64 1))⟩, ⟨(some 9), none, .mov (.t 36)⟩]))))])
def FF : Funcs := fun f => match f with
  | 3 => some f3
  | 6 => some f6
  | 7 => some f7
  | 8 => some f8
  | 9 => some f9
  | 10 => some f10
  | 11 => some f11
  | 29 => some f29
  | 30 => some f30
  | 31 => some f31
  | 32 => some f32
  | 33 => some f33
  | 34 => some f34
  | 35 => some f35
  | 51 => some f51
  | 52 => some f52
  | 53 => some f53
  | 59 => some f59
  | 60 => some f60
  | _ => none
def annS : Nat → List Bool := fun f => match f with
  | 6 => [false, false]
  | 7 => [false]
  | 8 => [false, false]
  | 9 => [false, false]
  | 10 => [true, false]
  | 11 => [false, false]
  | 29 => [false, false, false]
  | 30 => [false, false, false]
  | 31 => [false]
  | 32 => [false, false, false]
  | 33 => [false]
  | 34 => [true, false]
  | 51 => [false, false]
  | 53 => [true, false, false]
  | 59 => [false, false]
  | 60 => [true, false, false, false]
  | 61 => [true, false, false, false, false]
  | _ => []
def EE : Ext := fun _ => none
end Go.Am.S
