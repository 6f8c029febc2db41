import Derived.Test.YtbdinipcomjmeaaGreatDoorEf
import Derived.KernelRfl
namespace Go.Sx
open Go
set_option maxRecDepth 100000
set_option linter.unusedSimpArgs false
set_option linter.unusedVariables false
abbrev ξr0 : Ex := (.int .i64 0)
abbrev ξr1 : List Ex := [(.var 0), (.var 1), (.var 2), (.var 3), (.var 4), (.var 5), (.var 6), (.var 7), (.var 8), (.var 9), (.var 10), (.var 11), (.var 12), (.var 13), (.var 14), (.var 15), (.var 16), (.var 17), (.var 18), (.var 19), (.var 20), (.var 21), (.var 22), (.var 23), (.var 24), (.var 25), (.var 26), (.var 27), (.var 28), (.var 29), (.var 30), (.var 31), (.var 32), (.var 33), (.var 34), (.var 35), (.var 36), (.var 37), (.var 38), (.var 39), (.var 40), (.var 41), (.var 42), (.var 43), (.var 44), (.var 45), (.var 46), (.var 47)]
abbrev ξr2 : Ex := (.bool false)
abbrev ξr3 : Ex := (.int .i64 1)
abbrev ξr4 : Tr := (.evs [.call 1 [(.var 13), (.var 14), (.var 15), (.var 17), (.var 18), (.var 19), (.var 20)] none 4, .call 2 [(.var 21), (.var 22), (.var 23), (.var 24)] none 4] (.ret [(.var 25), (.var 26), (.var 27), (.var 28)]))
abbrev ξr5 : Ex := (.bool true)
abbrev ξr6 : Ex := (.cmp .eql (.len (.var 6)) (.int .i64 2))
abbrev ξr7 : List Evn := [.call 3 [(.var 102), (.var 103), (.var 104), (.var 105), (.var 106), (.var 107), (.var 108), (.var 109), (.var 110), (.var 111), (.var 112), (.var 113), (.var 114), (.var 115), (.var 116), (.var 117), (.var 118), (.var 119), (.var 120), (.var 121), (.var 122), (.var 123), (.var 124), (.var 125), (.var 126), (.var 127), (.var 128), (.var 129), (.var 130), (.var 131), (.var 132), (.var 133), (.var 134), (.var 135), (.var 136), (.var 137), (.var 138), (.var 139), (.var 140), (.var 141), (.var 142), (.var 143), (.var 144), (.var 145), (.var 146), (.var 147), (.var 148), (.var 149), (.var 54), (.var 55), (.var 56), (.var 57), (.var 58), (.var 59), (.var 60), (.var 61), (.var 62), (.var 63), (.var 64), (.var 65), (.var 66), (.var 67), (.var 68), (.var 69), (.var 70), (.var 71), (.var 72), (.var 73), (.var 74), (.var 75), (.var 76), (.var 77), (.var 78), (.var 79), (.var 80), (.var 81), (.var 82), (.var 83), (.var 84), (.var 85), (.var 86), (.var 87), (.var 88), (.var 89), (.var 90), (.var 91), (.var 92), (.var 93), (.var 94), (.var 95), (.var 96), (.var 97), (.var 98), (.var 99), (.var 100), (.var 101)] none 49]
abbrev ξr8 : Ex := (.int .i64 9223372036854775807)
abbrev ξr9 : Tr := (.ret [(.var 33), (.var 34), (.var 35), (.var 0), (.var 1), (.var 2), (.var 3), (.var 4), (.var 5), (.var 6), (.var 7), (.var 8), (.var 9), (.var 10), (.var 11), (.var 12), (.var 13), (.var 14), (.var 15), (.var 16), (.var 17), (.var 18), (.var 19), (.var 20), (.var 21), (.var 22), (.var 23), (.var 36)])
abbrev ξr10 : Tr := (.ret [ξr0, ξr0, ξr0, ξr0, ξr0, ξr0, ξr0, ξr0, ξr0, ξr0, ξr0, ξr0, ξr0, ξr0, ξr0, ξr0, ξr0, ξr0, ξr0, ξr0, ξr0, ξr0, ξr0, ξr0, ξr0, ξr0, ξr0, ξr0, ξr0, ξr0, ξr0, ξr0, ξr0, ξr0, ξr0, ξr0, ξr0, ξr0, ξr0, ξr0, ξr0, ξr0, ξr0, ξr0, ξr0, ξr0, ξr0, ξr0, ξr2])
abbrev ξr11 : Tr := (.ite (.cmp .eql (.sidx (.var 0) ξr0) (.int .u8 119)) (.evs [.need [(.ite (.var 12) (.inb (.var 5) (.int .i64 2) 1) ξr5)], .need [(.ite (.var 12) (.inb (.var 5) (.int .i64 2) 1) ξr5)], .call 3 [(.sel (.var 5) (.int .i64 2) 1 0), ξr0, (.int .i64 3)] (some (.var 12)) 1] (.ret [(.sidx (.var 0) ξr0), (.var 4), (.var 0), (.ite (.var 12) (.var 13) ξr2), (.var 5)])) (.ite (.cmp .eql (.sidx (.var 0) ξr0) (.int .u8 97)) (.ite (.cmp .eql (.sidx (.var 0) ξr0) (.int .u8 97)) (.evs [.need [(.inb (.var 5) ξr3 1)], .call 3 [(.sel (.var 5) ξr3 1 0), ξr3, (.int .i64 100)] none 1, .need [(.ite (.var 13) (.inb (.var 5) ξr0 1) ξr5), (.ite (.var 13) (.inb (.var 5) ξr3 1) ξr5)], .call 3 [(.sel (.var 5) ξr0 1 0), ξr0, (.sel (.var 5) ξr3 1 0)] (some (.var 13)) 1] (.ret [(.sidx (.var 0) ξr0), (.var 4), (.var 0), (.ite (.var 13) (.var 14) ξr2), (.var 5)])) (.ret [(.sidx (.var 0) ξr0), (.var 4), (.var 0), ξr2, (.var 5)])) (.ite (.cmp .eql (.sidx (.var 0) ξr0) (.int .u8 100)) (.evs [.need [(.inb (.var 5) ξr3 1)], .call 3 [(.sel (.var 5) ξr3 1 0), ξr3, (.int .i64 100)] none 1, .need [(.ite (.var 13) (.inb (.var 5) ξr0 1) ξr5), (.ite (.var 13) (.inb (.var 5) ξr3 1) ξr5)], .call 3 [(.sel (.var 5) ξr0 1 0), ξr0, (.sel (.var 5) ξr3 1 0)] (some (.var 13)) 1] (.ret [(.sidx (.var 0) ξr0), (.var 4), (.var 0), (.ite (.var 13) (.var 14) ξr2), (.var 5)])) (.ret [(.sidx (.var 0) ξr0), (.var 4), (.var 0), ξr2, (.var 5)]))))
abbrev ξr12 : Ex := (.ite (.ite (.not (.var 112)) ξr5 (.not (.var 161))) ξr5 (.ite (.cmp .eql (.var 113) (.var 2)) (.ite (.cmp .eql (.var 114) (.var 3)) (.ite (.cmp .eql (.var 115) (.var 4)) (.ite (.cmp .eql (.var 116) (.var 5)) (.ite (.cmp .eql (.var 117) (.var 6)) (.ite (.cmp .eql (.var 118) (.var 7)) (.ite (.cmp .eql (.var 119) (.var 8)) (.ite (.cmp .eql (.var 120) (.var 9)) (.ite (.cmp .eql (.var 121) (.var 10)) (.ite (.cmp .eql (.var 122) (.var 11)) (.ite (.cmp .eql (.var 123) (.var 12)) (.ite (.cmp .eql (.var 124) (.var 13)) (.ite (.cmp .eql (.var 125) (.var 14)) (.ite (.cmp .eql (.var 126) (.var 15)) (.ite (.cmp .eql (.var 127) (.var 16)) (.ite (.cmp .eql (.var 128) (.var 17)) (.ite (.cmp .eql (.var 129) (.var 18)) (.ite (.cmp .eql (.var 130) (.var 19)) (.ite (.cmp .eql (.var 131) (.var 20)) (.ite (.cmp .eql (.var 132) (.var 21)) (.ite (.cmp .eql (.var 133) (.var 22)) (.ite (.cmp .eql (.var 134) (.var 23)) (.ite (.cmp .eql (.var 135) (.var 24)) (.ite (.cmp .eql (.var 136) (.var 25)) (.ite (.cmp .eql (.var 137) (.var 26)) (.ite (.cmp .eql (.var 138) (.var 27)) (.ite (.cmp .eql (.var 139) (.var 28)) (.ite (.cmp .eql (.var 140) (.var 29)) (.ite (.cmp .eql (.var 141) (.var 30)) (.ite (.cmp .eql (.var 142) (.var 31)) (.ite (.cmp .eql (.var 143) (.var 32)) (.ite (.cmp .eql (.var 144) (.var 33)) (.ite (.cmp .eql (.var 145) (.var 34)) (.ite (.cmp .eql (.var 146) (.var 35)) (.ite (.cmp .eql (.var 147) (.var 36)) (.ite (.cmp .eql (.var 148) (.var 37)) (.ite (.cmp .eql (.var 149) (.var 38)) (.ite (.cmp .eql (.var 150) (.var 39)) (.ite (.cmp .eql (.var 151) (.var 40)) (.ite (.cmp .eql (.var 152) (.var 41)) (.ite (.cmp .eql (.var 153) (.var 42)) (.ite (.cmp .eql (.var 154) (.var 43)) (.ite (.cmp .eql (.var 155) (.var 44)) (.ite (.cmp .eql (.var 156) (.var 45)) (.ite (.cmp .eql (.var 157) (.var 46)) (.ite (.cmp .eql (.var 158) (.var 47)) (.ite (.cmp .eql (.var 159) (.var 48)) (.cmp .eql (.var 160) (.var 49)) ξr2) ξr2) ξr2) ξr2) ξr2) ξr2) ξr2) ξr2) ξr2) ξr2) ξr2) ξr2) ξr2) ξr2) ξr2) ξr2) ξr2) ξr2) ξr2) ξr2) ξr2) ξr2) ξr2) ξr2) ξr2) ξr2) ξr2) ξr2) ξr2) ξr2) ξr2) ξr2) ξr2) ξr2) ξr2) ξr2) ξr2) ξr2) ξr2) ξr2) ξr2) ξr2) ξr2) ξr2) ξr2) ξr2) ξr2))
abbrev ξr13 : Tr := (.ite (.cmp .eql (.sidx (.var 0) ξr0) (.int .u8 119)) (.ite (.cmp .neq (.len (.var 6)) (.int .i64 3)) (.ret [(.sidx (.var 0) ξr0), (.var 6), ξr2, (.var 7)]) (.evs [.need [(.inb (.var 7) ξr0 1), (.inb (.var 7) ξr3 1)], .need [(.inb (.var 7) ξr0 1), (.inb (.var 7) ξr3 1)], .call 2 [(.sel (.var 7) ξr0 1 0), (.sel (.var 7) ξr3 1 0)] none 7] (.evs [.need [(.ite (.var 14) (.inb (.var 7) (.int .i64 2) 1) ξr5)], .need [(.ite (.var 14) (.inb (.var 7) (.int .i64 2) 1) ξr5)], .call 3 [(.sel (.var 7) (.int .i64 2) 1 0), ξr0, (.int .i64 3)] (some (.var 14)) 1] (.ret [(.sidx (.var 0) ξr0), (.var 6), (.ite (.var 14) (.var 15) ξr2), (.var 7)])))) (.ite (.cmp .eql (.sidx (.var 0) ξr0) (.int .u8 97)) (.ite (.cmp .eql (.sidx (.var 0) ξr0) (.int .u8 97)) (.evs [.need [(.ite ξr6 (.inb (.var 7) ξr3 1) ξr5), (.ite ξr6 (.inb (.var 7) ξr0 1) ξr5), (.ite ξr6 (.inb (.var 7) ξr3 1) ξr5)], .need [(.ite ξr6 (.inb (.var 7) ξr3 1) ξr5)], .call 3 [(.sel (.var 7) ξr3 1 0), ξr3, (.int .i64 100)] (some ξr6) 1, .need [(.ite (.ite ξr6 (.var 8) ξr2) (.inb (.var 7) ξr0 1) ξr5), (.ite (.ite ξr6 (.var 8) ξr2) (.inb (.var 7) ξr3 1) ξr5)], .call 3 [(.sel (.var 7) ξr0 1 0), ξr0, (.sel (.var 7) ξr3 1 0)] (some (.ite ξr6 (.var 8) ξr2)) 1] (.ret [(.sidx (.var 0) ξr0), (.var 6), (.ite (.ite ξr6 (.var 8) ξr2) (.var 9) ξr2), (.var 7)])) (.ret [(.sidx (.var 0) ξr0), (.var 6), ξr2, (.var 7)])) (.ite (.cmp .eql (.sidx (.var 0) ξr0) (.int .u8 100)) (.evs [.need [(.ite ξr6 (.inb (.var 7) ξr3 1) ξr5), (.ite ξr6 (.inb (.var 7) ξr0 1) ξr5), (.ite ξr6 (.inb (.var 7) ξr3 1) ξr5)], .need [(.ite ξr6 (.inb (.var 7) ξr3 1) ξr5)], .call 3 [(.sel (.var 7) ξr3 1 0), ξr3, (.int .i64 100)] (some ξr6) 1, .need [(.ite (.ite ξr6 (.var 8) ξr2) (.inb (.var 7) ξr0 1) ξr5), (.ite (.ite ξr6 (.var 8) ξr2) (.inb (.var 7) ξr3 1) ξr5)], .call 3 [(.sel (.var 7) ξr0 1 0), ξr0, (.sel (.var 7) ξr3 1 0)] (some (.ite ξr6 (.var 8) ξr2)) 1] (.ret [(.sidx (.var 0) ξr0), (.var 6), (.ite (.ite ξr6 (.var 8) ξr2) (.var 9) ξr2), (.var 7)])) (.ret [(.sidx (.var 0) ξr0), (.var 6), ξr2, (.var 7)]))))
abbrev ξr14 : Ex := (.ite (.cmp .eql (.var 2) (.var 51)) (.ite (.cmp .eql (.var 3) (.var 52)) (.ite (.cmp .eql (.var 4) (.var 53)) (.ite (.cmp .eql (.var 5) (.var 54)) (.ite (.cmp .eql (.var 6) (.var 55)) (.ite (.cmp .eql (.var 7) (.var 56)) (.ite (.cmp .eql (.var 8) (.var 57)) (.ite (.cmp .eql (.var 9) (.var 58)) (.ite (.cmp .eql (.var 10) (.var 59)) (.ite (.cmp .eql (.var 11) (.var 60)) (.ite (.cmp .eql (.var 12) (.var 61)) (.ite (.cmp .eql (.var 13) (.var 62)) (.ite (.cmp .eql (.var 14) (.var 63)) (.ite (.cmp .eql (.var 15) (.var 64)) (.ite (.cmp .eql (.var 16) (.var 65)) (.ite (.cmp .eql (.var 17) (.var 66)) (.ite (.cmp .eql (.var 18) (.var 67)) (.ite (.cmp .eql (.var 19) (.var 68)) (.ite (.cmp .eql (.var 20) (.var 69)) (.ite (.cmp .eql (.var 21) (.var 70)) (.ite (.cmp .eql (.var 22) (.var 71)) (.ite (.cmp .eql (.var 23) (.var 72)) (.ite (.cmp .eql (.var 24) (.var 73)) (.ite (.cmp .eql (.var 25) (.var 74)) (.ite (.cmp .eql (.var 26) (.var 75)) (.ite (.cmp .eql (.var 27) (.var 76)) (.ite (.cmp .eql (.var 28) (.var 77)) (.ite (.cmp .eql (.var 29) (.var 78)) (.ite (.cmp .eql (.var 30) (.var 79)) (.ite (.cmp .eql (.var 31) (.var 80)) (.ite (.cmp .eql (.var 32) (.var 81)) (.ite (.cmp .eql (.var 33) (.var 82)) (.ite (.cmp .eql (.var 34) (.var 83)) (.ite (.cmp .eql (.var 35) (.var 84)) (.ite (.cmp .eql (.var 36) (.var 85)) (.ite (.cmp .eql (.var 37) (.var 86)) (.ite (.cmp .eql (.var 38) (.var 87)) (.ite (.cmp .eql (.var 39) (.var 88)) (.ite (.cmp .eql (.var 40) (.var 89)) (.ite (.cmp .eql (.var 41) (.var 90)) (.ite (.cmp .eql (.var 42) (.var 91)) (.ite (.cmp .eql (.var 43) (.var 92)) (.ite (.cmp .eql (.var 44) (.var 93)) (.ite (.cmp .eql (.var 45) (.var 94)) (.ite (.cmp .eql (.var 46) (.var 95)) (.ite (.cmp .eql (.var 47) (.var 96)) (.ite (.cmp .eql (.var 48) (.var 97)) (.cmp .eql (.var 49) (.var 98)) ξr2) ξr2) ξr2) ξr2) ξr2) ξr2) ξr2) ξr2) ξr2) ξr2) ξr2) ξr2) ξr2) ξr2) ξr2) ξr2) ξr2) ξr2) ξr2) ξr2) ξr2) ξr2) ξr2) ξr2) ξr2) ξr2) ξr2) ξr2) ξr2) ξr2) ξr2) ξr2) ξr2) ξr2) ξr2) ξr2) ξr2) ξr2) ξr2) ξr2) ξr2) ξr2) ξr2) ξr2) ξr2) ξr2) ξr2)
abbrev ξr15 : Tr := (.ret [ξr0, ξr0, ξr0, ξr0, ξr0, ξr0, ξr0, ξr0, ξr0, ξr0, ξr0, ξr0, ξr2])
abbrev ξr16 : Tr := (.evs [.call 0 [(.var 0), (.int .i64 (-100)), (.int .i64 100)] none 1, .call 0 [(.var 1), (.int .i64 (-100)), (.int .i64 100)] (some (.not (.not (.var 2)))) 1] (.ite (.ite (.ite (.not (.var 2)) ξr5 (.not (.var 3))) ξr5 (.ite (.cmp .eql (.var 0) ξr0) (.cmp .eql (.var 1) ξr0) ξr2)) (.ret [ξr0, ξr0, ξr0, ξr0, ξr0, ξr0, ξr2]) (.evs [.call 1 [(.ar .sub .i64 (.ar .mul .i64 (.var 0) (.var 0)) (.ar .mul .i64 (.var 1) (.var 1))), ξr0, (.ar .add .i64 (.ar .mul .i64 (.var 0) (.var 0)) (.ar .mul .i64 (.var 1) (.var 1)))] none 4] (.evs [.call 1 [(.ar .mul .i64 (.ar .mul .i64 (.int .i64 2) (.var 0)) (.var 1)), ξr0, (.ar .add .i64 (.ar .mul .i64 (.var 0) (.var 0)) (.ar .mul .i64 (.var 1) (.var 1)))] none 4] (.ret [(.var 4), (.var 5), (.var 6), (.var 8), (.var 9), (.var 10), ξr5])))))
abbrev ξr17 : List Ex := [(.var 0), (.var 1), (.var 2)]
abbrev ξr18 : Tr := (.ite (.not (.var 12)) (.ret [ξr2]) (.evs [.call 0 [(.var 3), (.var 4), (.var 5)] none 1] (.ite (.not (.var 13)) (.ret [ξr2]) (.evs [.call 0 [(.var 6), (.var 7), (.var 8)] none 1] (.ite (.not (.var 14)) (.ret [ξr2]) (.evs [.call 0 [(.var 9), (.var 10), (.var 11)] none 1] (.ite (.not (.var 15)) (.ret [ξr2]) (.ret [ξr5]))))))))
abbrev ξr19 : Ex := (.ar .sub .i64 (.ar .add .i64 (.var 2) ξr3) ξr3)
abbrev ξr20 : Ex := (.var 0)
abbrev ξr21 : Ex := (.var 3)
abbrev ξr22 : Ex := (.var 2)
abbrev ξr23 : Ex := (.var 4)
abbrev ξr24 : Ex := (.var 5)
abbrev ξr25 : Ex := (.var 6)
abbrev ξr26 : Ex := (.var 10)
abbrev ξr27 : Ex := (.var 1)
abbrev ξr28 : Tr := (.ite (.not (.var 53)) ξr10 (.ret [(.var 54), (.var 55), (.var 56), (.var 57), (.var 58), (.var 59), (.var 60), (.var 61), (.var 62), (.var 63), (.var 64), (.var 65), (.var 66), (.var 67), (.var 68), (.var 69), (.var 70), (.var 71), (.var 72), (.var 73), (.var 74), (.var 75), (.var 76), (.var 77), (.var 78), (.var 79), (.var 80), (.var 81), (.var 82), (.var 83), (.var 84), (.var 85), (.var 86), (.var 87), (.var 88), (.var 89), (.var 90), (.var 91), (.var 92), (.var 93), (.var 94), (.var 95), (.var 96), (.var 97), (.var 98), (.var 99), (.var 100), (.var 101), ξr5]))
abbrev ξr29 : Ex := (.var 7)
abbrev ξr30 : Ex := (.var 11)
abbrev ξr31 : List Ex := [(.var 48), (.var 49), (.var 50), (.var 51), (.var 52), (.var 53), (.var 54), (.var 55), (.var 56), (.var 57), (.var 58), (.var 59), (.var 60), (.var 61), (.var 62), (.var 63), (.var 64), (.var 65), (.var 66), (.var 67), (.var 68), (.var 69), (.var 70), (.var 71), (.var 72), (.var 73), (.var 74), (.var 75), (.var 76), (.var 77), (.var 78), (.var 79), (.var 80), (.var 81), (.var 82), (.var 83), (.var 84), (.var 85), (.var 86), (.var 87), (.var 88), (.var 89), (.var 90), (.var 91), (.var 92), (.var 93), (.var 94), (.var 95)]
abbrev ξr32 : List Evn := [.call 0 ξr17 none 1, .call 0 [ξr21, ξr23, ξr24] (some (.not (.not ξr25))) 1]
abbrev ξr33 : Tr := (.evs [.need [(.inb ξr24 ξr0 1), (.inb ξr24 ξr3 1)], .need [(.inb ξr24 ξr0 1), (.inb ξr24 ξr3 1)], .call 2 [(.sel ξr24 ξr0 1 0), (.sel ξr24 ξr3 1 0)] none 7] (.ite (.cmp .eql (.sidx ξr20 ξr0) (.int .u8 114)) (.ite (.cmp .eql (.sidx ξr20 ξr0) (.int .u8 114)) (.ret [(.sidx ξr20 ξr0), ξr23, ξr20, (.var 12), ξr24]) ξr11) (.ite (.cmp .eql (.sidx ξr20 ξr0) (.int .u8 102)) (.ret [(.sidx ξr20 ξr0), ξr23, ξr20, (.var 12), ξr24]) ξr11)))
abbrev ξr34 : Ex := (.var 8)
abbrev ξr35 : Ex := (.var 9)
abbrev ξr36 : Tr := (.ret [ξr0, ξr0, ξr0, ξr2])
abbrev ξr37 : Ex := (.ar .add .i64 (.ar .add .i64 (.ar .add .i64 (.ar .mul .i64 (.conv .i64 (.sel ξr21 (.ar .rem .i64 ξr19 (.len ξr27)) 1 0)) (.int .i64 131)) (.ar .mul .i64 (.conv .i64 (.sel ξr21 (.ar .rem .i64 (.ar .add .i64 (.ar .mul .i64 ξr19 (.int .i64 7)) (.int .i64 3)) (.len ξr27)) 1 0)) (.int .i64 1117))) (.ar .mul .i64 ξr19 (.int .i64 29))) (.ar .mul .i64 (.ar .quo .i64 ξr19 (.len ξr27)) (.int .i64 53)))
abbrev ξr38 : List Ex := [(.ar .add .i64 (.ar .add .i64 ξr3 (.var 14)) ξr3), (.ite ξr20 (.var 18) (.var 15)), (.ite ξr20 (.var 19) (.var 16))]
abbrev ξr39 : Tr := (.evs [.call 3 [(.var 37), (.var 38), (.var 39), (.var 40)] none 4] (.ret [(.var 41), (.var 42), (.var 43), (.var 44)]))
abbrev ξr40 : Tr := (.evs [.call 1 ξr17 none 48] (.ret [ξr23, ξr24, ξr25, ξr29, ξr34, ξr35, ξr26, ξr30, (.var 12), (.var 13), (.var 14), (.var 15), (.var 16), (.var 17), (.var 18), (.var 19), (.var 20), (.var 21), (.var 22), (.var 23), (.var 24), (.var 25), (.var 26), (.var 27), (.var 28), (.var 29), (.var 30), (.var 31), (.var 32), (.var 33), (.var 34), (.var 35), (.var 36), (.var 37), (.var 38), (.var 39), (.var 40), (.var 41), (.var 42), (.var 43), (.var 44), (.var 45), (.var 46), (.var 47), (.var 48), (.var 49), (.var 50), (.var 51), ξr5]))
abbrev ξr41 : List Ex := [ξr0, ξr22, ξr23, ξr24, ξr25, ξr29, ξr34, ξr35, ξr26, ξr30, (.var 12), (.var 13), (.var 14), (.var 15), (.var 16), (.var 17), (.var 18), (.var 19), (.var 20), (.var 21), (.var 22), (.var 23), (.var 24), (.var 25), (.var 26), (.var 27), (.var 28), (.var 29), (.var 30), (.var 31), (.var 32), (.var 33), (.var 34), (.var 35), (.var 36), (.var 37), (.var 38), (.var 39), (.var 40), (.var 41), (.var 42), (.var 43), (.var 44), (.var 45), (.var 46), (.var 47), (.var 48), (.var 49), (.var 50), (.var 51)]
abbrev ξr42 : List Ex := [ξr22, ξr21, ξr23, ξr24, ξr25, ξr29, ξr34, ξr35, ξr26, ξr30, (.var 12), (.var 13), (.var 14), (.var 15), (.var 16), (.var 17), (.var 18), (.var 19), (.var 20), (.var 21), (.var 22), (.var 23), (.var 24), (.var 25), (.var 26), (.var 27), (.var 28), (.var 29), (.var 30), (.var 31), (.var 32), (.var 33), (.var 34), (.var 35), (.var 36), (.var 37), (.var 38), (.var 39), (.var 40), (.var 41), (.var 42), (.var 43), (.var 44), (.var 45), (.var 46), (.var 47), (.var 48), (.var 49)]
abbrev ξr43 : Tr := (.evs [.call 0 [ξr20, ξr27, ξr22, ξr25, ξr29, ξr34, (.var 12)] none 4] (.evs [.call 0 [ξr21, ξr23, ξr24, ξr35, ξr26, ξr30, (.var 16)] none 4] ξr4))
abbrev ξr44 : Tr := (.evs [.call 0 [ξr20, ξr27, ξr22, ξr21, ξr23, ξr24] none 4, .call 1 [ξr29, ξr34, ξr35, ξr26, ξr25] none 4] (.ret [ξr30, (.var 12), (.var 13), (.var 14)]))
abbrev ξr45 : Tr := (.ret [(.val (.slice none 0 0)), ξr2, (.val (.agg #[]))])
abbrev ξr46 : List Ex := [ξr20, ξr27, ξr22, ξr21, ξr23, ξr24, ξr25, ξr29, ξr34, ξr35, ξr26, ξr30]
abbrev ξr47 : Tr := (.ite (.cmp .neq (.len ξr25) (.int .i64 2)) (.ret [(.sidx ξr20 ξr0), ξr25, ξr2, ξr29]) (.evs [.need [(.inb ξr29 ξr0 1), (.inb ξr29 ξr3 1)], .need [(.inb ξr29 ξr0 1), (.inb ξr29 ξr3 1)], .call 2 [(.sel ξr29 ξr0 1 0), (.sel ξr29 ξr3 1 0)] none 7] (.ret [(.sidx ξr20 ξr0), ξr25, (.var 14), ξr29])))
abbrev ξr48 : Tr := (.evs [.call 0 [ξr20, ξr27, ξr22, ξr35, ξr26, ξr30, (.var 12)] none 4] (.evs [.call 0 [ξr21, ξr23, ξr24, ξr25, ξr29, ξr34, (.var 16)] none 4] ξr4))
abbrev ξr49 : Tr := (.ret [ξr3, ξr0, ξr3, ξr0, ξr0, ξr3, ξr0, ξr0, ξr3, ξr0, ξr0, ξr3, ξr0, ξr0, ξr3, ξr20, ξr27, ξr22, ξr0, ξr0, ξr3, ξr0, ξr0, ξr3, ξr0, ξr0, ξr3, ξr0, ξr0, ξr3, ξr20, ξr27, ξr22, ξr0, ξr0, ξr3, ξr0, ξr0, ξr3, ξr0, ξr0, ξr3, ξr0, ξr0, ξr3, ξr20, ξr27, ξr22])
abbrev ξr50 : Ex := (.var 12)
abbrev ξr51 : Tr := (.evs ξr32 (.ite (.ite (.not ξr25) ξr5 (.not ξr29)) ξr36 (.evs [.call 1 [(.ar .sub .i64 (.ar .mul .i64 ξr20 ξr21) (.ar .mul .i64 ξr27 ξr23)), (.ar .add .i64 (.ar .mul .i64 ξr20 ξr23) (.ar .mul .i64 ξr27 ξr21)), (.ar .mul .i64 ξr22 ξr24)] none 4] (.ret [ξr34, ξr35, ξr26, ξr30]))))
abbrev ξr52 : List Evn := [.need [ξr5]]
abbrev ξr53 : Ex := (.var 13)
abbrev ξr54 : Ex := (.var 14)
abbrev ξr55 : Ex := (.ite (.ite ξr21 ξr23 ξr2) ξr24 ξr2)
abbrev ξr56 : List Ex := [(.cmp .neq (.len ξr27) ξr0), (.inb ξr21 (.ar .rem .i64 ξr19 (.len ξr27)) 1), (.cmp .neq (.len ξr27) ξr0), (.inb ξr21 (.ar .rem .i64 (.ar .add .i64 (.ar .mul .i64 ξr19 (.int .i64 7)) (.int .i64 3)) (.len ξr27)) 1), (.cmp .neq (.len ξr27) ξr0)]
abbrev ξr57 : Tr := (.ret [ξr2])
abbrev ξr58 : Ex := (.var 15)
abbrev ξr59 : Ex := (.var 23)
abbrev ξr60 : Ex := (.var 16)
abbrev ξr61 : Tr := (.evs [.call 0 ξr17 none 4, .call 1 [ξr23, ξr24, ξr25, ξr29, ξr21] none 4] (.ret [ξr34, ξr35, ξr26, ξr30]))
abbrev ξr62 : List Ex := [(.var 29), (.var 30), (.var 31), (.var 33), (.var 34), (.var 35), (.var 36)]
abbrev ξr63 : List Ex := [(.var 25), (.var 26), (.var 27), (.var 29), (.var 30), (.var 31), (.var 32)]
abbrev ξr64 : Tr := (.ite ξr50 (.ret [ξr0, ξr0, ξr0, ξr0, ξr0, ξr0, ξr0, ξr0, ξr0, ξr0, ξr0, ξr0, ξr2, ξr50]) (.ret [ξr20, ξr27, ξr22, ξr21, ξr23, ξr24, ξr25, ξr29, ξr34, ξr35, ξr26, ξr30, ξr5, ξr50]))
abbrev ξr65 : List Evn := [.call 0 ξr17 none 1]
abbrev ξr66 : List Ex := [(.var 21), (.var 22), ξr59, (.var 25), (.var 26), (.var 27), (.var 28)]
abbrev ξr67 : Ex := (.var 24)
abbrev ξr68 : Ex := (.var 17)
abbrev ξr69 : Ex := (.var 20)
abbrev ξr70 : List Ex := [ξr50, ξr53, ξr54, ξr58, ξr60, ξr68, (.var 18), (.var 19), ξr69, (.var 21), (.var 22), ξr59]
abbrev ξr71 : Tr := (.ret [ξr23, ξr24, ξr25, ξr29, ξr34, ξr35, ξr26, ξr30, ξr50, ξr53, ξr54, ξr58, ξr60])
abbrev ξr72 : Tr := (.ret [ξr21, ξr23, ξr24, ξr25, ξr29, ξr34, ξr35, ξr26, ξr30, ξr50, ξr53, ξr54, ξr58])
abbrev ξr73 : List Ex := [(.inb ξr22 ξr0 1), (.inb ξr22 ξr3 1)]
abbrev ξr74 : List Ex := [(.inb ξr21 ξr0 1), (.inb ξr21 ξr3 1)]
abbrev ξr75 : List Evn := [.call 0 [ξr20, ξr27, ξr22, ξr20, ξr27, ξr22, ξr50] none 4]
abbrev ξr76 : Ex := (.len ξr20)
abbrev ξr77 : Ex := (.int .i64 2)
abbrev ξr78 : Ex := (.ar .sub .i64 ξr8 (.len ξr26))
abbrev ξr79 : Ex := (.var 52)
abbrev ξr80 : Ex := (.var 19)
abbrev ξr81 : Ex := (.var 50)
abbrev ξr82 : Ex := (.var 22)
abbrev ξr83 : Ex := (.var 18)
abbrev ξr84 : List Ex := [ξr21, ξr23, ξr24, ξr25, ξr29, ξr34, ξr35, ξr26, ξr30, ξr50, ξr53, ξr54]
abbrev ξr85 : Ex := (.var 51)
abbrev ξr86 : Ex := (.var 28)
abbrev ξr87 : Ex := (.var 21)
abbrev ξr88 : Tr := (.evs [.call 0 [ξr21, ξr23, ξr24, ξr20, ξr27, ξr22, ξr50] none 4] (.evs [.call 0 [ξr35, ξr26, ξr30, ξr25, ξr29, ξr34, ξr60] none 4] ξr4))
abbrev ξr89 : Tr := (.evs [.call 0 [ξr20, ξr27, ξr22, ξr21, ξr23, ξr24, ξr50] none 4] (.evs [.call 0 [ξr25, ξr29, ξr34, ξr35, ξr26, ξr30, ξr60] none 4] ξr4))
abbrev ξr90 : List Ex := [ξr35, ξr26, ξr30, ξr35, ξr26, ξr30, (.var 32)]
abbrev ξr91 : Tr := (.ret [ξr86, (.var 29), (.var 30), (.var 31), (.var 32), (.var 33), (.var 34), (.var 35), (.var 36), (.var 37), (.var 38), (.var 39), (.var 40)])
abbrev ξr92 : List Ex := [ξr53, ξr54, ξr58, ξr68, ξr83, ξr80, ξr69]
abbrev ξr93 : List Ex := [ξr25, ξr29, ξr34, ξr25, ξr29, ξr34, ξr67]
abbrev ξr94 : List Ex := [ξr21, ξr23, ξr24, ξr21, ξr23, ξr24, ξr60]
abbrev ξr95 : Ex := (.var 27)
abbrev ξr96 : Ex := (.var 26)
abbrev ξr97 : Ex := (.ar .sub .i64 (.ar .mul .i64 ξr20 ξr24) (.ar .mul .i64 ξr21 ξr22))
abbrev ξr98 : Ex := (.ite (.not ξr25) ξr5 (.not ξr29))
abbrev ξr99 : Ex := (.ar .add .i64 ξr22 ξr3)
abbrev ξr100 : Tr := (.evs [.call 0 [ξr20, ξr27, ξr22, ξr21, ξr23, ξr24] none 4] (.ret [ξr29, ξr34, ξr35, (.ite ξr25 ξr26 ξr2)]))
abbrev ξr101 : Ex := (.int .i64 2000000000)
abbrev ξr102 : Ex := (.ar .sub .i64 ξr8 (.len ξr25))
abbrev ξr103 : Ex := (.int .i64 (-1))
def tr_size : Tr := (.ret [(.mx false .i64 ξr20 (.ar .sub .i64 ξr0 ξr20))])
def Fs_size : List Fun1 := []
def F_size : Fun1 := ofTree Fs_size tr_size
def tr_within : Tr := (.ret [(.ite (.cmp .geq ξr20 ξr27) (.cmp .leq ξr20 ξr22) ξr2)])
def Fs_within : List Fun1 := []
def F_within : Fun1 := ofTree Fs_within tr_within
def G_within : Fun1 := ⟨fun _ => True, fun ins => [.bool (inRg (i0 ins 0) (i0 ins 1) (i0 ins 2))]⟩
theorem as_within (ins : List Value) (ht : TypedL [.int .i64, .int .i64, .int .i64] ins) (_ : G_within.pre ins) : F_within.pre ins ∧ F_within.out ins = G_within.out ins := by
  obtain ⟨a, b, c, rfl, _, _, _⟩ := ints3 ht
  refine ⟨trivial, ?_⟩
  show [if (decide (a ≥ b)) = true then Value.bool (decide (a ≤ c)) else Value.bool false] = [Value.bool (decide (b ≤ a) && decide (a ≤ c))]
  by_cases h : b ≤ a <;> simp [h]
def tr_l6In : Tr := (.ret [(.ite (.cmp .geq ξr20 ξr27) (.cmp .leq ξr20 ξr22) ξr2)])
def Fs_l6In : List Fun1 := []
def F_l6In : Fun1 := ofTree Fs_l6In tr_l6In
def G_l6In : Fun1 := ⟨fun _ => True, fun ins => [.bool (inRg (i0 ins 0) (i0 ins 1) (i0 ins 2))]⟩
theorem as_l6In (ins : List Value) (ht : TypedL [.int .i64, .int .i64, .int .i64] ins) (_ : G_l6In.pre ins) : F_l6In.pre ins ∧ F_l6In.out ins = G_l6In.out ins := by
  obtain ⟨a, b, c, rfl, _, _, _⟩ := ints3 ht
  refine ⟨trivial, ?_⟩
  show [if (decide (a ≥ b)) = true then Value.bool (decide (a ≤ c)) else Value.bool false] = [Value.bool (decide (b ≤ a) && decide (a ≤ c))]
  by_cases h : b ≤ a <;> simp [h]
def tr_l2In : Tr := (.evs [.call 0 [ξr20, (.int .i64 (-2000000000)), ξr101] none 1] (.ret [ξr27]))
def Fs_l2In : List Fun1 := [G_l6In]
def F_l2In : Fun1 := ofTree Fs_l2In tr_l2In
def G_l2In : Fun1 := ⟨fun _ => True, fun ins => [.bool (inR (i0 ins 0))]⟩
theorem as_l2In (ins : List Value) (ht : TypedL [.int .i64] ins) (_ : G_l2In.pre ins) : F_l2In.pre ins ∧ F_l2In.out ins = G_l2In.out ins := by
  obtain ⟨a, rfl, _⟩ := ints1 ht
  exact ⟨⟨⟨trivial, trivial⟩, trivial⟩, rfl⟩
def tr_divisor : Tr := (.lp 0 [ξr20, ξr27] [.int .i64, .int .i64] (.ite (.cmp .neq ξr21 ξr0) (.evs [.need [(.cmp .neq ξr21 ξr0)]] (.next 0 [ξr21, (.ar .rem .i64 ξr22 ξr21)])) (.ret [ξr22])))
def Fs_divisor : List Fun1 := []
def F_divisor : Fun1 := ⟨fun _ => True, fun ins => [.int .i64 (euc (i0 ins 0) (i0 ins 1))]⟩
theorem sat_divisor (P : Program) (ins : List Value) (K : List Value → Prop) (ht : TypedL [.int .i64, .int .i64] ins) (_ : F_divisor.pre ins) (hK : K (F_divisor.out ins)) : sat P (specsOf Fs_divisor) tr_divisor ins [] K := by
  obtain ⟨a, b, rfl, wa, wb⟩ := ints2 ht
  refine ⟨fun vs => ∃ x y, vs = [.int .i64 x, .int .i64 y] ∧ euc x y = euc a b, fun vs => (toI (vs.getD 1 undef)).natAbs, ⟨a, b, rfl, rfl⟩, ?_⟩
  rintro vs hty ⟨x, y, rfl, he⟩
  refine ⟨fun hc => ?_, fun hc => ?_⟩
  · have hy : y ≠ 0 := by simpa [ev, cmpI] using hc
    refine ⟨fun e he' => by rw [List.mem_singleton.1 he']; exact hc, ⟨_, _, rfl, ?_⟩, ?_⟩
    · rw [← he, euc_step hy]; rfl
    · show (x.tmod y).natAbs < y.natAbs
      rw [Int.natAbs_tmod]
      exact Nat.mod_lt _ (by omega)
  · have hy : y = 0 := by simpa [ev, cmpI] using hc
    subst hy
    rw [euc_zero] at he
    show K [.int .i64 x]
    rw [he]
    exact hK
def tr_l2Gcd : Tr := (.lp 0 [ξr20, ξr27] [.int .i64, .int .i64] (.ite (.cmp .neq ξr21 ξr0) (.evs [.need [(.cmp .neq ξr21 ξr0)]] (.next 0 [ξr21, (.ar .rem .i64 ξr22 ξr21)])) (.ret [(.mx false .i64 ξr22 (.ar .sub .i64 ξr0 ξr22))])))
def Fs_l2Gcd : List Fun1 := []
def F_l2Gcd : Fun1 := ⟨fun _ => True, fun ins => [.int .i64 (mxI false (euc (i0 ins 0) (i0 ins 1)) (IntKind.i64.wrap (0 - euc (i0 ins 0) (i0 ins 1))))]⟩
theorem sat_l2Gcd (P : Program) (ins : List Value) (K : List Value → Prop) (ht : TypedL [.int .i64, .int .i64] ins) (_ : F_l2Gcd.pre ins) (hK : K (F_l2Gcd.out ins)) : sat P (specsOf Fs_l2Gcd) tr_l2Gcd ins [] K := by
  obtain ⟨a, b, rfl, wa, wb⟩ := ints2 ht
  refine ⟨fun vs => ∃ x y, vs = [.int .i64 x, .int .i64 y] ∧ euc x y = euc a b, fun vs => (toI (vs.getD 1 undef)).natAbs, ⟨a, b, rfl, rfl⟩, ?_⟩
  rintro vs hty ⟨x, y, rfl, he⟩
  refine ⟨fun hc => ?_, fun hc => ?_⟩
  · have hy : y ≠ 0 := by simpa [ev, cmpI] using hc
    refine ⟨fun e he' => by rw [List.mem_singleton.1 he']; exact hc, ⟨_, _, rfl, ?_⟩, ?_⟩
    · rw [← he, euc_step hy]; rfl
    · show (x.tmod y).natAbs < y.natAbs
      rw [Int.natAbs_tmod]
      exact Nat.mod_lt _ (by omega)
  · have hy : y = 0 := by simpa [ev, cmpI] using hc
    subst hy
    rw [euc_zero] at he
    show K [.int .i64 (mxI false x (IntKind.i64.wrap (0 - x)))]
    rw [he]
    exact hK
def tr_lowest : Tr := (.evs [.call 0 [ξr20] none 1, .call 0 [ξr27] none 1, .call 1 [ξr21, ξr23] none 1, .call 1 [ξr24, ξr22] none 1] (.evs [.need [(.cmp .neq ξr25 ξr0), (.cmp .neq ξr25 ξr0), (.cmp .neq ξr25 ξr0)]] (.evs [.call 2 [(.ar .quo .i64 ξr20 ξr25), (.int .i64 (-2000000000)), ξr101] none 1, .call 2 [(.ar .quo .i64 ξr27 ξr25), (.int .i64 (-2000000000)), ξr101] (some (.not (.not ξr29))) 1] (.ite (.ite (.ite (.not ξr29) ξr5 (.not ξr34)) ξr5 (.cmp .gtr (.ar .quo .i64 ξr22 ξr25) ξr101)) ξr36 (.ret [(.ar .quo .i64 ξr20 ξr25), (.ar .quo .i64 ξr27 ξr25), (.ar .quo .i64 ξr22 ξr25), ξr5])))))
def Fs_lowest : List Fun1 := [F_size, F_divisor, G_within]
def F_lowest : Fun1 := ofTree Fs_lowest tr_lowest
def G_lowest : Fun1 := ⟨fun ins => lowOk (i0 ins 0) (i0 ins 1) (i0 ins 2), fun ins => fr4 (lowI (i0 ins 0) (i0 ins 1) (i0 ins 2))⟩
theorem as_lowest (ins : List Value) (ht : TypedL [.int .i64, .int .i64, .int .i64] ins) (hp : G_lowest.pre ins) : F_lowest.pre ins ∧ F_lowest.out ins = G_lowest.out ins := by
  obtain ⟨a, b, c, rfl, wa, wb, wc⟩ := ints3 ht
  obtain ⟨p1, p2, p3, p4, p5, p6⟩ : lowOk a b c := hp
  have e1 := size_abs ⟨p1, p2⟩
  have e2 := size_abs ⟨p3, p4⟩
  have e3 : euc (a.natAbs : Nat) (b.natAbs : Nat) = (Nat.gcd a.natAbs b.natAbs : Nat) := euc_nat _ _
  have e4 : euc (Nat.gcd a.natAbs b.natAbs : Nat) c = (gcd3 a b c : Nat) := by rw [euc_eq (by omega) (by omega)]; rfl
  have hg : gcd3 a b c ≠ 0 := by have := gcd3_pos (a := a) (b := b) p5; omega
  have hgi : ((gcd3 a b c : Nat) : Int) ≠ 0 := by omega
  have q1 := quo_ok (g := gcd3 a b c) ⟨p1, p2⟩
  have q2 := quo_ok (g := gcd3 a b c) ⟨p3, p4⟩
  have q3 := quo_ok (a := c) (g := gcd3 a b c) ⟨by omega, p6⟩
  simp only [F_lowest, G_lowest, tr_lowest, Fs_lowest, F_size, tr_size, Fs_size, F_divisor, G_within, lowI, arI, ofTree, okT, okE, evalT, evalE, evsIn, ev, callF, preF, hasF, needs, i0, b0, toI_int, toB_bool, List.getD_cons_zero, List.getD_cons_succ, List.cons_append, List.nil_append, List.replicate, if_true, if_false, Bool.false_eq_true, and_true, true_and, implies_true, forall_const, false_implies, cmpI, Bool.not_true, Bool.not_false, Bool.true_and, Bool.false_and, Bool.and_true, Bool.and_false, reduceIte, List.append_nil, reduceCtorEq, e1, e2, e3, e4, q1, q2, q3]
  have r1 : ∀ z, inRg z (-2000000000) 2000000000 = inR z := fun _ => rfl
  simp only [r1]
  cases h1 : inR (a.tdiv (gcd3 a b c)) <;> cases h2 : inR (b.tdiv (gcd3 a b c)) <;> by_cases h3 : c.tdiv (gcd3 a b c) ≤ 2000000000 <;> simp [h1, h2, h3, hgi, hg, fr4, zq] <;> omega
def tr_sFracValid : Tr := (.evs [.call 0 [ξr20] none 1, .call 0 [ξr27] (some ξr21) 1, .call 1 [ξr22, ξr3, ξr101] (some (.ite ξr21 ξr23 ξr2)) 1, .call 2 [ξr22, ξr20] (some ξr55) 1, .call 2 [ξr25, ξr27] (some ξr55) 1] (.ret [(.ite ξr55 (.cmp .eql ξr29 ξr3) ξr2)]))
def Fs_sFracValid : List Fun1 := [G_l2In, G_l6In, F_l2Gcd]
def F_sFracValid : Fun1 := ofTree Fs_sFracValid tr_sFracValid
def G_sFracValid : Fun1 := ⟨fun _ => True, fun ins => [.bool (validI (i0 ins 0) (i0 ins 1) (i0 ins 2))]⟩
theorem as_sFracValid (ins : List Value) (ht : TypedL [.int .i64, .int .i64, .int .i64] ins) (_ : G_sFracValid.pre ins) : F_sFracValid.pre ins ∧ F_sFracValid.out ins = G_sFracValid.out ins := by
  obtain ⟨a, b, c, rfl, wa, wb, wc⟩ := ints3 ht
  have key : inR a = true → inR b = true → inRg c 1 2000000000 = true → mxI false (euc c a) (IntKind.i64.wrap (0 - euc c a)) = (Nat.gcd c.natAbs a.natAbs : Nat) ∧
      mxI false (euc (Nat.gcd c.natAbs a.natAbs : Nat) b) (IntKind.i64.wrap (0 - euc (Nat.gcd c.natAbs a.natAbs : Nat) b)) = (gcd3 a b c : Nat) := by
    intro ha hb hc
    simp only [inR, inRg, Bool.and_eq_true, decide_eq_true_eq] at ha hb hc
    have h0 : Nat.gcd c.natAbs a.natAbs ≤ c.natAbs := Nat.gcd_le_left _ (by omega)
    have hp : 0 < Nat.gcd c.natAbs a.natAbs := Nat.gcd_pos_of_pos_left _ (by omega)
    refine ⟨gcd_small (by omega), ?_⟩
    have h2 : Nat.gcd ((Nat.gcd c.natAbs a.natAbs : Nat) : Int).natAbs b.natAbs ≤ Nat.gcd c.natAbs a.natAbs := Nat.gcd_le_left _ hp
    rw [gcd_small (by omega), Int.natAbs_natCast, gcd3_alt]
  simp only [F_sFracValid, G_sFracValid, tr_sFracValid, Fs_sFracValid, G_l2In, G_l6In, F_l2Gcd, validI, ofTree, okT, okE, evalT, evalE, evsIn, ev, callF, preF, hasF, needs, i0, b0, toI_int, toB_bool, List.getD_cons_zero, List.getD_cons_succ, List.cons_append, List.nil_append, List.replicate, if_true, if_false, Bool.false_eq_true, and_true, true_and, implies_true, forall_const, false_implies, cmpI, Bool.not_true, Bool.not_false, Bool.true_and, Bool.false_and, Bool.and_true, Bool.and_false, reduceIte, List.append_nil, reduceCtorEq]
  cases ha : inR a
  · simp [ha]
  · cases hb : inR b
    · simp [ha, hb]
    · cases hc : inRg c 1 2000000000
      · simp [ha, hb, hc]
      · obtain ⟨k1, k2⟩ := key ha hb hc
        simp only [ha, hb, hc, k1, k2, ofTree, okT, okE, evalT, evalE, evsIn, ev, callF, preF, hasF, needs, i0, b0, toI_int, toB_bool, List.getD_cons_zero, List.getD_cons_succ, List.cons_append, List.nil_append, List.replicate, if_true, if_false, Bool.false_eq_true, and_true, true_and, implies_true, forall_const, false_implies, cmpI, Bool.not_true, Bool.not_false, Bool.true_and, Bool.false_and, Bool.and_true, Bool.and_false, reduceIte, List.append_nil, reduceCtorEq]
        simp
        by_cases h1 : gcd3 a b c = 1
        · simp [h1]
        · rw [beq_eq_false_iff_ne.2 h1, beq_eq_false_iff_ne]
          omega
def tr_l2Low : Tr := (.evs [.call 0 [ξr22, ξr20] none 1, .call 0 [ξr21, ξr27] none 1] (.evs [.need [(.cmp .neq ξr23 ξr0), (.cmp .neq ξr23 ξr0), (.cmp .neq ξr23 ξr0)]] (.evs [.call 1 [(.ar .quo .i64 ξr20 ξr23), (.ar .quo .i64 ξr27 ξr23), (.ar .quo .i64 ξr22 ξr23)] none 1] (.ite (.not ξr24) ξr36 (.ret [(.ar .quo .i64 ξr20 ξr23), (.ar .quo .i64 ξr27 ξr23), (.ar .quo .i64 ξr22 ξr23), ξr5])))))
def Fs_l2Low : List Fun1 := [F_l2Gcd, G_sFracValid]
def F_l2Low : Fun1 := ofTree Fs_l2Low tr_l2Low
def G_l2Low : Fun1 := ⟨fun ins => lowOk (i0 ins 0) (i0 ins 1) (i0 ins 2), fun ins => fr4 (lowI (i0 ins 0) (i0 ins 1) (i0 ins 2))⟩
theorem as_l2Low (ins : List Value) (ht : TypedL [.int .i64, .int .i64, .int .i64] ins) (hp : G_l2Low.pre ins) : F_l2Low.pre ins ∧ F_l2Low.out ins = G_l2Low.out ins := by
  obtain ⟨a, b, c, rfl, wa, wb, wc⟩ := ints3 ht
  obtain ⟨p1, p2, p3, p4, p5, p6⟩ : lowOk a b c := hp
  have hc0 : 0 < c.natAbs := by omega
  have g1 : Nat.gcd c.natAbs a.natAbs ≤ c.natAbs := Nat.gcd_le_left _ hc0
  have gp : 0 < Nat.gcd c.natAbs a.natAbs := Nat.gcd_pos_of_pos_left _ hc0
  have e1 : mxI false (euc c a) (IntKind.i64.wrap (0 - euc c a)) = (Nat.gcd c.natAbs a.natAbs : Nat) := gcd_small (by omega)
  have g2 : Nat.gcd ((Nat.gcd c.natAbs a.natAbs : Nat) : Int).natAbs b.natAbs ≤ Nat.gcd c.natAbs a.natAbs := Nat.gcd_le_left _ gp
  have e2 : mxI false (euc (Nat.gcd c.natAbs a.natAbs : Nat) b) (IntKind.i64.wrap (0 - euc (Nat.gcd c.natAbs a.natAbs : Nat) b)) = (gcd3 a b c : Nat) := by
    rw [gcd_small (by omega), Int.natAbs_natCast, gcd3_alt]
  have hg : gcd3 a b c ≠ 0 := by have := gcd3_pos (a := a) (b := b) p5; omega
  have hgi : ((gcd3 a b c : Nat) : Int) ≠ 0 := by omega
  have q1 := quo_ok (g := gcd3 a b c) ⟨p1, p2⟩
  have q2 := quo_ok (g := gcd3 a b c) ⟨p3, p4⟩
  have q3 := quo_ok (a := c) (g := gcd3 a b c) ⟨by omega, p6⟩
  simp only [F_l2Low, G_l2Low, tr_l2Low, Fs_l2Low, F_l2Gcd, G_sFracValid, lowI, arI, ofTree, okT, okE, evalT, evalE, evsIn, ev, callF, preF, hasF, needs, i0, b0, toI_int, toB_bool, List.getD_cons_zero, List.getD_cons_succ, List.cons_append, List.nil_append, List.replicate, if_true, if_false, Bool.false_eq_true, and_true, true_and, implies_true, forall_const, false_implies, cmpI, Bool.not_true, Bool.not_false, Bool.true_and, Bool.false_and, Bool.and_true, Bool.and_false, reduceIte, List.append_nil, reduceCtorEq, e1, e2, q1, q2, q3, valid_low p5]
  cases h1 : inR (a.tdiv (gcd3 a b c)) <;> cases h2 : inR (b.tdiv (gcd3 a b c)) <;> by_cases h3 : c.tdiv (gcd3 a b c) ≤ 2000000000 <;> simp [h1, h2, h3, hgi, hg, fr4, zq] <;> omega
def tr_sFracMake : Tr := (.evs [.call 0 [ξr22, ξr3, (.int .i64 1000000000000000000)] none 1, .call 0 [ξr20, (.int .i64 (-1000000000000000000)), (.int .i64 1000000000000000000)] (some (.not (.not ξr21))) 1, .call 0 [ξr27, (.int .i64 (-1000000000000000000)), (.int .i64 1000000000000000000)] (some (.not (.ite (.not ξr21) ξr5 (.not ξr23)))) 1] (.ite (.ite (.ite (.not ξr21) ξr5 (.not ξr23)) ξr5 (.not ξr24)) ξr36 (.evs [.call 1 ξr17 none 4] (.ret [ξr25, ξr29, ξr34, ξr35]))))
def Fs_sFracMake : List Fun1 := [G_l6In, G_l2Low]
def F_sFracMake : Fun1 := ofTree Fs_sFracMake tr_sFracMake
def G_sFracMake : Fun1 := ⟨fun _ => True, fun ins => fr4 (makeI (i0 ins 0) (i0 ins 1) (i0 ins 2))⟩
theorem as_sFracMake (ins : List Value) (ht : TypedL [.int .i64, .int .i64, .int .i64] ins) (hp : G_sFracMake.pre ins) : F_sFracMake.pre ins ∧ F_sFracMake.out ins = G_sFracMake.out ins := by
  obtain ⟨a, b, c, rfl, wa, wb, wc⟩ := ints3 ht
  have hlow : inRg c 1 most = true → inRg a (-most) most = true → inRg b (-most) most = true → lowOk a b c := by
    intro h1 h2 h3
    simp only [inRg, Bool.and_eq_true, decide_eq_true_eq] at h1 h2 h3
    unfold most at h1 h2 h3
    unfold lowOk
    omega
  obtain ⟨x, y, z, t, hx⟩ := fr4_split (lowI a b c)
  simp only [F_sFracMake, G_sFracMake, tr_sFracMake, Fs_sFracMake, G_l6In, G_l2Low, makeI, ofTree, okT, okE, evalT, evalE, evsIn, ev, callF, preF, hasF, needs, i0, b0, toI_int, toB_bool, List.getD_cons_zero, List.getD_cons_succ, List.cons_append, List.nil_append, List.replicate, if_true, if_false, Bool.false_eq_true, and_true, true_and, implies_true, forall_const, false_implies, cmpI, Bool.not_true, Bool.not_false, Bool.true_and, Bool.false_and, Bool.and_true, Bool.and_false, reduceIte, List.append_nil, reduceCtorEq]
  have r1 : inRg c 1 1000000000000000000 = inRg c 1 most := rfl
  have r2 : ∀ z, inRg z (-1000000000000000000) 1000000000000000000 = inRg z (-most) most := fun _ => rfl
  simp only [r1, r2]
  cases h1 : inRg c 1 most
  · simp [h1, fr4, zq]
  · cases h2 : inRg a (-most) most
    · simp [h1, h2, fr4, zq]
    · cases h3 : inRg b (-most) most
      · simp [h1, h2, h3, fr4, zq]
      · simp [h1, h2, h3, hx, hlow h1 h2 h3]
def tr_direction : Tr := ξr16
def Fs_direction : List Fun1 := [G_within, G_lowest]
def F_direction : Fun1 := ofTree Fs_direction tr_direction
def G_direction : Fun1 := ⟨fun _ => True, fun ins => dirV (i0 ins 0) (i0 ins 1)⟩
theorem as_direction (ins : List Value) (ht : TypedL [.int .i64, .int .i64] ins) (hp : G_direction.pre ins) : F_direction.pre ins ∧ F_direction.out ins = G_direction.out ins := by
  obtain ⟨p, q, rfl, wp, wq⟩ := ints2 ht
  obtain ⟨x1, y1, z1, t1, hx1, hx1'⟩ := fr4_fr3 (lowI (p * p - q * q) 0 (p * p + q * q))
  obtain ⟨x2, y2, z2, t2, hx2, hx2'⟩ := fr4_fr3 (lowI (2 * p * q) 0 (p * p + q * q))
  simp only [F_direction, G_direction, tr_direction, Fs_direction, G_within, G_lowest, arI, ofTree, okT, okE, evalT, evalE, evsIn, ev, callF, preF, hasF, needs, i0, b0, toI_int, toB_bool, List.getD_cons_zero, List.getD_cons_succ, List.cons_append, List.nil_append, List.replicate, if_true, if_false, Bool.false_eq_true, and_true, true_and, implies_true, forall_const, false_implies, cmpI, Bool.not_true, Bool.not_false, Bool.true_and, Bool.false_and, Bool.and_true, Bool.and_false, reduceIte, List.append_nil, reduceCtorEq]
  cases h1 : inRg p (-100) 100
  · simp [h1, dirV, dirOk, dirC, dirS, fr3, zq]
  · cases h2 : inRg q (-100) 100
    · simp [h1, h2, dirV, dirOk, dirC, dirS, fr3, zq]
    · by_cases h3 : (p == 0 && q == 0) = true
      · have e3 := h3
        simp only [Bool.and_eq_true, beq_iff_eq] at e3
        obtain ⟨rfl, rfl⟩ := e3
        simp [h1, dirV, dirOk, dirC, dirS, fr3, zq]
      · have hd : dirOk p q = true := by
          simp only [dirOk, h1, h2, Bool.true_and]
          cases hb : (p == 0 && q == 0) with
          | true => exact absurd hb h3
          | false => rfl
        obtain ⟨l1, l2, w1, w2, w3, w4, w5, w6, _⟩ := dir_facts hd
        have h3' : (p == 0 && q == 0) = false := by simpa using h3
        have h4 : ¬(p = 0 ∧ q = 0) := by rintro ⟨rfl, rfl⟩; exact h3 rfl
        simp only [dirV, dirC, dirS, hd, if_true, hx1', hx2', w1, w2, w3, w4, w5, w6, hx1, hx2, h1, h2, ofTree, okT, okE, evalT, evalE, evsIn, ev, callF, preF, hasF, needs, i0, b0, toI_int, toB_bool, List.getD_cons_zero, List.getD_cons_succ, List.cons_append, List.nil_append, List.replicate, if_true, if_false, Bool.false_eq_true, and_true, true_and, implies_true, forall_const, false_implies, cmpI, Bool.not_true, Bool.not_false, Bool.true_and, Bool.false_and, Bool.and_true, Bool.and_false, reduceIte, List.append_nil, reduceCtorEq]
        clear hd w1 w2 w3 w4 w5 w6 hx1 hx2 hx1' hx2' h1 h2 ht hp
        generalize p * p - q * q = A at *
        generalize 2 * p * q = B at *
        generalize p * p + q * q = C at *
        by_cases h5 : p = 0
        · by_cases h6 : q = 0
          · exact absurd ⟨h5, h6⟩ h4
          · simp [h5, h6, l1, l2]
        · simp [h5, l1, l2]
def tr_l5Direction : Tr := ξr16
def Fs_l5Direction : List Fun1 := [G_l6In, G_sFracMake]
def F_l5Direction : Fun1 := ofTree Fs_l5Direction tr_l5Direction
def G_l5Direction : Fun1 := ⟨fun _ => True, fun ins => dirV (i0 ins 0) (i0 ins 1)⟩
theorem as_l5Direction (ins : List Value) (ht : TypedL [.int .i64, .int .i64] ins) (hp : G_l5Direction.pre ins) : F_l5Direction.pre ins ∧ F_l5Direction.out ins = G_l5Direction.out ins := by
  obtain ⟨p, q, rfl, wp, wq⟩ := ints2 ht
  obtain ⟨x1, y1, z1, t1, hx1, hx1'⟩ := fr4_fr3 (lowI (p * p - q * q) 0 (p * p + q * q))
  obtain ⟨x2, y2, z2, t2, hx2, hx2'⟩ := fr4_fr3 (lowI (2 * p * q) 0 (p * p + q * q))
  simp only [F_l5Direction, G_l5Direction, tr_l5Direction, Fs_l5Direction, G_l6In, G_sFracMake, arI, ofTree, okT, okE, evalT, evalE, evsIn, ev, callF, preF, hasF, needs, i0, b0, toI_int, toB_bool, List.getD_cons_zero, List.getD_cons_succ, List.cons_append, List.nil_append, List.replicate, if_true, if_false, Bool.false_eq_true, and_true, true_and, implies_true, forall_const, false_implies, cmpI, Bool.not_true, Bool.not_false, Bool.true_and, Bool.false_and, Bool.and_true, Bool.and_false, reduceIte, List.append_nil, reduceCtorEq]
  cases h1 : inRg p (-100) 100
  · simp [h1, dirV, dirOk, dirC, dirS, fr3, zq]
  · cases h2 : inRg q (-100) 100
    · simp [h1, h2, dirV, dirOk, dirC, dirS, fr3, zq]
    · by_cases h3 : (p == 0 && q == 0) = true
      · have e3 := h3
        simp only [Bool.and_eq_true, beq_iff_eq] at e3
        obtain ⟨rfl, rfl⟩ := e3
        simp [h1, dirV, dirOk, dirC, dirS, fr3, zq]
      · have hd : dirOk p q = true := by
          simp only [dirOk, h1, h2, Bool.true_and]
          cases hb : (p == 0 && q == 0) with
          | true => exact absurd hb h3
          | false => rfl
        obtain ⟨l1, l2, w1, w2, w3, w4, w5, w6, k1, k2, k3, k4, k5, k6⟩ := dir_facts hd
        have h3' : (p == 0 && q == 0) = false := by simpa using h3
        have h4 : ¬(p = 0 ∧ q = 0) := by rintro ⟨rfl, rfl⟩; exact h3 rfl
        have m1 := make_small k3 k4 k1 k2
        have m2 := make_small k5 k6 k1 k2
        simp only [m1, m2, dirV, dirC, dirS, hd, if_true, hx1', hx2', w1, w2, w3, w4, w5, w6, hx1, hx2, h1, h2, ofTree, okT, okE, evalT, evalE, evsIn, ev, callF, preF, hasF, needs, i0, b0, toI_int, toB_bool, List.getD_cons_zero, List.getD_cons_succ, List.cons_append, List.nil_append, List.replicate, if_true, if_false, Bool.false_eq_true, and_true, true_and, implies_true, forall_const, false_implies, cmpI, Bool.not_true, Bool.not_false, Bool.true_and, Bool.false_and, Bool.and_true, Bool.and_false, reduceIte, List.append_nil, reduceCtorEq]
        clear m1 m2 k1 k2 k3 k4 k5 k6 hd w1 w2 w3 w4 w5 w6 hx1 hx2 hx1' hx2' h1 h2 ht hp
        generalize p * p - q * q = A at *
        generalize 2 * p * q = B at *
        generalize p * p + q * q = C at *
        by_cases h5 : p = 0
        · by_cases h6 : q = 0
          · exact absurd ⟨h5, h6⟩ h4
          · simp [h5, h6, l1, l2]
        · simp [h5, l1, l2]
def tr_iFracValid : Tr := (.evs [.call 0 [ξr20, (.int .i64 (-2000000000)), ξr101] none 1, .call 0 [ξr27, (.int .i64 (-2000000000)), ξr101] (some ξr21) 1, .call 0 [ξr22, ξr3, ξr101] (some (.ite ξr21 ξr23 ξr2)) 1, .call 2 [ξr20] (some ξr55) 1, .call 2 [ξr27] (some ξr55) 1, .call 1 [ξr25, ξr29] (some ξr55) 1, .call 1 [ξr34, ξr22] (some ξr55) 1] (.ret [(.ite ξr55 (.cmp .eql ξr35 ξr3) ξr2)]))
def Fs_iFracValid : List Fun1 := [G_within, F_divisor, F_size]
def F_iFracValid : Fun1 := ofTree Fs_iFracValid tr_iFracValid
def G_iFracValid : Fun1 := ⟨fun _ => True, fun ins => [.bool (validI (i0 ins 0) (i0 ins 1) (i0 ins 2))]⟩
theorem as_iFracValid (ins : List Value) (ht : TypedL [.int .i64, .int .i64, .int .i64] ins) (_ : G_iFracValid.pre ins) : F_iFracValid.pre ins ∧ F_iFracValid.out ins = G_iFracValid.out ins := by
  obtain ⟨a, b, c, rfl, wa, wb, wc⟩ := ints3 ht
  have key : inR a = true → inR b = true → inRg c 1 2000000000 = true → mxI false a (IntKind.i64.wrap (0 - a)) = a.natAbs ∧ mxI false b (IntKind.i64.wrap (0 - b)) = b.natAbs ∧
      euc (a.natAbs : Nat) (b.natAbs : Nat) = (Nat.gcd a.natAbs b.natAbs : Nat) ∧ euc (Nat.gcd a.natAbs b.natAbs : Nat) c = (gcd3 a b c : Nat) := by
    intro ha hb hc
    simp only [inR, inRg, Bool.and_eq_true, decide_eq_true_eq] at ha hb hc
    exact ⟨size_abs (by omega), size_abs (by omega), euc_nat _ _, by rw [euc_eq (by omega) (by omega)]; rfl⟩
  have r1 : ∀ z, inRg z (-2000000000) 2000000000 = inR z := fun _ => rfl
  cases ha : inR a
  · simp only [F_iFracValid, G_iFracValid, tr_iFracValid, Fs_iFracValid, G_within, F_divisor, F_size, tr_size, Fs_size, validI, arI, r1, ha, ofTree, okT, okE, evalT, evalE, evsIn, ev, callF, preF, hasF, needs, i0, b0, toI_int, toB_bool, List.getD_cons_zero, List.getD_cons_succ, List.cons_append, List.nil_append, List.replicate, if_true, if_false, Bool.false_eq_true, and_true, true_and, implies_true, forall_const, false_implies, cmpI, Bool.not_true, Bool.not_false, Bool.true_and, Bool.false_and, Bool.and_true, Bool.and_false, reduceIte, List.append_nil, reduceCtorEq]
  · cases hb : inR b
    · simp only [F_iFracValid, G_iFracValid, tr_iFracValid, Fs_iFracValid, G_within, F_divisor, F_size, tr_size, Fs_size, validI, arI, r1, ha, hb, ofTree, okT, okE, evalT, evalE, evsIn, ev, callF, preF, hasF, needs, i0, b0, toI_int, toB_bool, List.getD_cons_zero, List.getD_cons_succ, List.cons_append, List.nil_append, List.replicate, if_true, if_false, Bool.false_eq_true, and_true, true_and, implies_true, forall_const, false_implies, cmpI, Bool.not_true, Bool.not_false, Bool.true_and, Bool.false_and, Bool.and_true, Bool.and_false, reduceIte, List.append_nil, reduceCtorEq]
    · cases hc : inRg c 1 2000000000
      · simp only [F_iFracValid, G_iFracValid, tr_iFracValid, Fs_iFracValid, G_within, F_divisor, F_size, tr_size, Fs_size, validI, arI, r1, ha, hb, hc, ofTree, okT, okE, evalT, evalE, evsIn, ev, callF, preF, hasF, needs, i0, b0, toI_int, toB_bool, List.getD_cons_zero, List.getD_cons_succ, List.cons_append, List.nil_append, List.replicate, if_true, if_false, Bool.false_eq_true, and_true, true_and, implies_true, forall_const, false_implies, cmpI, Bool.not_true, Bool.not_false, Bool.true_and, Bool.false_and, Bool.and_true, Bool.and_false, reduceIte, List.append_nil, reduceCtorEq]
      · obtain ⟨k1, k2, k3, k4⟩ := key ha hb hc
        simp only [F_iFracValid, G_iFracValid, tr_iFracValid, Fs_iFracValid, G_within, F_divisor, F_size, tr_size, Fs_size, validI, arI, r1, ha, hb, hc, k1, k2, k3, k4, ofTree, okT, okE, evalT, evalE, evsIn, ev, callF, preF, hasF, needs, i0, b0, toI_int, toB_bool, List.getD_cons_zero, List.getD_cons_succ, List.cons_append, List.nil_append, List.replicate, if_true, if_false, Bool.false_eq_true, and_true, true_and, implies_true, forall_const, false_implies, cmpI, Bool.not_true, Bool.not_false, Bool.true_and, Bool.false_and, Bool.and_true, Bool.and_false, reduceIte, List.append_nil, reduceCtorEq]
        by_cases h1 : gcd3 a b c = 1
        · simp [h1]
        · have h2 : ((gcd3 a b c : Nat) : Int) ≠ 1 := by omega
          rw [beq_eq_false_iff_ne.2 h2, beq_eq_false_iff_ne.2 h1]
def tr_realOk : Tr := (.evs ξr65 (.ret [(.ite ξr21 (.cmp .eql ξr27 ξr0) ξr2)]))
def Fs_realOk : List Fun1 := [G_iFracValid]
def F_realOk : Fun1 := ofTree Fs_realOk tr_realOk
def G_realOk : Fun1 := ⟨fun _ => True, fun ins => [.bool (realQ (q3 ins 0))]⟩
theorem as_realOk (ins : List Value) (ht : TypedL [.int .i64, .int .i64, .int .i64] ins) (_ : G_realOk.pre ins) : F_realOk.pre ins ∧ F_realOk.out ins = G_realOk.out ins := by
  obtain ⟨a, b, c, rfl, wa, wb, wc⟩ := ints3 ht
  simp only [F_realOk, G_realOk, tr_realOk, Fs_realOk, G_iFracValid, realQ, validQ, q3, ofTree, okT, okE, evalT, evalE, evsIn, ev, callF, preF, hasF, needs, i0, b0, toI_int, toB_bool, List.getD_cons_zero, List.getD_cons_succ, List.cons_append, List.nil_append, List.replicate, if_true, if_false, Bool.false_eq_true, and_true, true_and, implies_true, forall_const, false_implies, cmpI, Bool.not_true, Bool.not_false, Bool.true_and, Bool.false_and, Bool.and_true, Bool.and_false, reduceIte, List.append_nil, reduceCtorEq]
  cases h : validI a b c <;> simp [h]
def tr_iFracAdd : Tr := (.evs ξr32 (.ite ξr98 ξr36 (.evs [.call 1 [(.ar .add .i64 (.ar .mul .i64 ξr20 ξr24) (.ar .mul .i64 ξr21 ξr22)), (.ar .add .i64 (.ar .mul .i64 ξr27 ξr24) (.ar .mul .i64 ξr23 ξr22)), (.ar .mul .i64 ξr22 ξr24)] none 4] (.ret [ξr34, ξr35, ξr26, ξr30]))))
def Fs_iFracAdd : List Fun1 := [G_iFracValid, G_lowest]
def F_iFracAdd : Fun1 := ofTree Fs_iFracAdd tr_iFracAdd
def G_iFracAdd : Fun1 := ⟨fun _ => True, fun ins => fr4 (addQ (q3 ins 0) (q3 ins 3))⟩
theorem as_iFracAdd (ins : List Value) (ht : TypedL [.int .i64, .int .i64, .int .i64, .int .i64, .int .i64, .int .i64] ins) (_ : G_iFracAdd.pre ins) : F_iFracAdd.pre ins ∧ F_iFracAdd.out ins = G_iFracAdd.out ins := by
  obtain ⟨a, b, c, x, y, z, rfl, _⟩ := ints6 ht
  simp only [F_iFracAdd, G_iFracAdd, tr_iFracAdd, Fs_iFracAdd, G_iFracValid, G_lowest, addQ, validQ, q3, arI, ofTree, okT, okE, evalT, evalE, evsIn, ev, callF, preF, hasF, needs, i0, b0, toI_int, toB_bool, List.getD_cons_zero, List.getD_cons_succ, List.cons_append, List.nil_append, List.replicate, if_true, if_false, Bool.false_eq_true, and_true, true_and, implies_true, forall_const, false_implies, cmpI, Bool.not_true, Bool.not_false, Bool.true_and, Bool.false_and, Bool.and_true, Bool.and_false, reduceIte, List.append_nil, reduceCtorEq]
  cases h : validI a b c
  · simp [h, fr4, zq]
  · cases k : validI x y z
    · simp [h, k, fr4, zq]
    · obtain ⟨e1, e2, e3, e4, e5, e6, e7, e8, e9, l1, l2⟩ := sum_facts h k
      simp only [h, k, e1, e2, e3, e4, e5, e6, e7, ofTree, okT, okE, evalT, evalE, evsIn, ev, callF, preF, hasF, needs, i0, b0, toI_int, toB_bool, List.getD_cons_zero, List.getD_cons_succ, List.cons_append, List.nil_append, List.replicate, if_true, if_false, Bool.false_eq_true, and_true, true_and, implies_true, forall_const, false_implies, cmpI, Bool.not_true, Bool.not_false, Bool.true_and, Bool.false_and, Bool.and_true, Bool.and_false, reduceIte, List.append_nil, reduceCtorEq]
      simp [fr4, l1]
def tr_iFracTimes : Tr := ξr51
def Fs_iFracTimes : List Fun1 := [G_iFracValid, G_lowest]
def F_iFracTimes : Fun1 := ofTree Fs_iFracTimes tr_iFracTimes
def G_iFracTimes : Fun1 := ⟨fun _ => True, fun ins => fr4 (timesQ (q3 ins 0) (q3 ins 3))⟩
theorem as_iFracTimes (ins : List Value) (ht : TypedL [.int .i64, .int .i64, .int .i64, .int .i64, .int .i64, .int .i64] ins) (_ : G_iFracTimes.pre ins) : F_iFracTimes.pre ins ∧ F_iFracTimes.out ins = G_iFracTimes.out ins := by
  obtain ⟨a, b, c, x, y, z, rfl, _⟩ := ints6 ht
  simp only [F_iFracTimes, G_iFracTimes, tr_iFracTimes, Fs_iFracTimes, G_iFracValid, G_lowest, timesQ, validQ, q3, arI, ofTree, okT, okE, evalT, evalE, evsIn, ev, callF, preF, hasF, needs, i0, b0, toI_int, toB_bool, List.getD_cons_zero, List.getD_cons_succ, List.cons_append, List.nil_append, List.replicate, if_true, if_false, Bool.false_eq_true, and_true, true_and, implies_true, forall_const, false_implies, cmpI, Bool.not_true, Bool.not_false, Bool.true_and, Bool.false_and, Bool.and_true, Bool.and_false, reduceIte, List.append_nil, reduceCtorEq]
  cases h : validI a b c
  · simp [h, fr4, zq]
  · cases k : validI x y z
    · simp [h, k, fr4, zq]
    · obtain ⟨e1, e2, e3, e4, e5, e6, e7, l1⟩ := mul_facts h k
      simp only [h, k, e1, e2, e3, e4, e5, e6, e7, ofTree, okT, okE, evalT, evalE, evsIn, ev, callF, preF, hasF, needs, i0, b0, toI_int, toB_bool, List.getD_cons_zero, List.getD_cons_succ, List.cons_append, List.nil_append, List.replicate, if_true, if_false, Bool.false_eq_true, and_true, true_and, implies_true, forall_const, false_implies, cmpI, Bool.not_true, Bool.not_false, Bool.true_and, Bool.false_and, Bool.and_true, Bool.and_false, reduceIte, List.append_nil, reduceCtorEq]
      simp [fr4, l1]
def tr_l2Sum : Tr := (.evs [.call 0 ξr17 none 1, .call 0 [ξr23, ξr24, ξr25] (some (.not (.not ξr29))) 1] (.ite (.ite (.not ξr29) ξr5 (.not ξr34)) ξr36 (.evs [.call 1 [(.ar .add .i64 (.ar .mul .i64 ξr20 ξr25) (.ar .mul .i64 (.ar .mul .i64 ξr21 ξr23) ξr22)), (.ar .add .i64 (.ar .mul .i64 ξr27 ξr25) (.ar .mul .i64 (.ar .mul .i64 ξr21 ξr24) ξr22)), (.ar .mul .i64 ξr22 ξr25)] none 4] (.ret [ξr35, ξr26, ξr30, ξr50]))))
def Fs_l2Sum : List Fun1 := [G_sFracValid, G_l2Low]
def F_l2Sum : Fun1 := ofTree Fs_l2Sum tr_l2Sum
def G_l2Sum : Fun1 := ⟨fun ins => i0 ins 3 = 1 ∨ i0 ins 3 = -1, fun ins => fr4 (if i0 ins 3 = 1 then addQ (q3 ins 0) (q3 ins 4) else lessQ (q3 ins 0) (q3 ins 4))⟩
theorem as_l2Sum (ins : List Value) (ht : TypedL [.int .i64, .int .i64, .int .i64, .int .i64, .int .i64, .int .i64, .int .i64] ins) (hp : G_l2Sum.pre ins) : F_l2Sum.pre ins ∧ F_l2Sum.out ins = G_l2Sum.out ins := by
  obtain ⟨a, r1, rfl, w1, ht1⟩ := int_cons ht
  obtain ⟨b, c, s, x, y, z, rfl, _⟩ := ints6 ht1
  have hs : s = 1 ∨ s = -1 := hp
  clear hp
  cases h : validI a b c
  · rcases hs with rfl | rfl <;>
    · simp only [F_l2Sum, G_l2Sum, tr_l2Sum, Fs_l2Sum, G_sFracValid, G_l2Low, addQ, lessQ, validQ, q3, arI, h, ofTree, okT, okE, evalT, evalE, evsIn, ev, callF, preF, hasF, needs, i0, b0, toI_int, toB_bool, List.getD_cons_zero, List.getD_cons_succ, List.cons_append, List.nil_append, List.replicate, if_true, if_false, Bool.false_eq_true, and_true, true_and, implies_true, forall_const, false_implies, cmpI, Bool.not_true, Bool.not_false, Bool.true_and, Bool.false_and, Bool.and_true, Bool.and_false, reduceIte, List.append_nil, reduceCtorEq]
      simp [fr4, zq]
  · cases k : validI x y z
    · rcases hs with rfl | rfl <;>
      · simp only [F_l2Sum, G_l2Sum, tr_l2Sum, Fs_l2Sum, G_sFracValid, G_l2Low, addQ, lessQ, validQ, q3, arI, h, k, ofTree, okT, okE, evalT, evalE, evsIn, ev, callF, preF, hasF, needs, i0, b0, toI_int, toB_bool, List.getD_cons_zero, List.getD_cons_succ, List.cons_append, List.nil_append, List.replicate, if_true, if_false, Bool.false_eq_true, and_true, true_and, implies_true, forall_const, false_implies, cmpI, Bool.not_true, Bool.not_false, Bool.true_and, Bool.false_and, Bool.and_true, Bool.and_false, reduceIte, List.append_nil, reduceCtorEq]
        simp [fr4, zq]
    · obtain ⟨e1, e2, e3, e4, e5, e6, e7, e8, e9, l1, l2⟩ := sum_facts h k
      obtain ⟨k1, k2, _⟩ := valid_bounds k
      rcases hs with rfl | rfl
      · have u1 : IntKind.i64.wrap (1 * x) = x := by rw [Int.one_mul]; exact wrap_in (by omega)
        have u2 : IntKind.i64.wrap (1 * y) = y := by rw [Int.one_mul]; exact wrap_in (by omega)
        simp only [F_l2Sum, G_l2Sum, tr_l2Sum, Fs_l2Sum, G_sFracValid, G_l2Low, addQ, lessQ, validQ, q3, arI, h, k, u1, u2, e1, e2, e3, e4, e5, e6, e7, ofTree, okT, okE, evalT, evalE, evsIn, ev, callF, preF, hasF, needs, i0, b0, toI_int, toB_bool, List.getD_cons_zero, List.getD_cons_succ, List.cons_append, List.nil_append, List.replicate, if_true, if_false, Bool.false_eq_true, and_true, true_and, implies_true, forall_const, false_implies, cmpI, Bool.not_true, Bool.not_false, Bool.true_and, Bool.false_and, Bool.and_true, Bool.and_false, reduceIte, List.append_nil, reduceCtorEq]
        simp [fr4, l1]
      · have u1 : IntKind.i64.wrap (-1 * x) = -x := by rw [Int.neg_one_mul]; exact wrap_in (by omega)
        have u2 : IntKind.i64.wrap (-1 * y) = -y := by rw [Int.neg_one_mul]; exact wrap_in (by omega)
        have m2 := mulB k1 (b := c) (by have := valid_bounds h; omega)
        have m4 := mulB k2 (b := c) (by have := valid_bounds h; omega)
        have v1 : IntKind.i64.wrap (-x * c) = -(x * c) := by rw [Int.neg_mul]; exact wrap_in (by omega)
        have v2 : IntKind.i64.wrap (-y * c) = -(y * c) := by rw [Int.neg_mul]; exact wrap_in (by omega)
        have v3 : IntKind.i64.wrap (a * z + -(x * c)) = a * z - x * c := by rw [← Int.sub_eq_add_neg]; exact e8
        have v4 : IntKind.i64.wrap (b * z + -(y * c)) = b * z - y * c := by rw [← Int.sub_eq_add_neg]; exact e9
        simp only [F_l2Sum, G_l2Sum, tr_l2Sum, Fs_l2Sum, G_sFracValid, G_l2Low, addQ, lessQ, validQ, q3, arI, h, k, u1, u2, v1, v2, v3, v4, e1, e3, e5, ofTree, okT, okE, evalT, evalE, evsIn, ev, callF, preF, hasF, needs, i0, b0, toI_int, toB_bool, List.getD_cons_zero, List.getD_cons_succ, List.cons_append, List.nil_append, List.replicate, if_true, if_false, Bool.false_eq_true, and_true, true_and, implies_true, forall_const, false_implies, cmpI, Bool.not_true, Bool.not_false, Bool.true_and, Bool.false_and, Bool.and_true, Bool.and_false, reduceIte, List.append_nil, reduceCtorEq]
        simp [fr4, l2]
def tr_sFracAdd : Tr := (.evs [.call 0 [ξr20, ξr27, ξr22, ξr3, ξr21, ξr23, ξr24] none 4] (.ret [ξr25, ξr29, ξr34, ξr35]))
def Fs_sFracAdd : List Fun1 := [G_l2Sum]
def F_sFracAdd : Fun1 := ofTree Fs_sFracAdd tr_sFracAdd
def G_sFracAdd : Fun1 := ⟨fun _ => True, fun ins => fr4 (addQ (q3 ins 0) (q3 ins 3))⟩
theorem as_sFracAdd (ins : List Value) (ht : TypedL [.int .i64, .int .i64, .int .i64, .int .i64, .int .i64, .int .i64] ins) (_ : G_sFracAdd.pre ins) : F_sFracAdd.pre ins ∧ F_sFracAdd.out ins = G_sFracAdd.out ins := by
  obtain ⟨a, b, c, x, y, z, rfl, _⟩ := ints6 ht
  exact ⟨⟨⟨.inl rfl, trivial⟩, trivial⟩, rfl⟩
def tr_sFracTimes : Tr := ξr51
def Fs_sFracTimes : List Fun1 := [G_sFracValid, G_l2Low]
def F_sFracTimes : Fun1 := ofTree Fs_sFracTimes tr_sFracTimes
def G_sFracTimes : Fun1 := ⟨fun _ => True, fun ins => fr4 (timesQ (q3 ins 0) (q3 ins 3))⟩
theorem as_sFracTimes (ins : List Value) (ht : TypedL [.int .i64, .int .i64, .int .i64, .int .i64, .int .i64, .int .i64] ins) (_ : G_sFracTimes.pre ins) : F_sFracTimes.pre ins ∧ F_sFracTimes.out ins = G_sFracTimes.out ins := by
  obtain ⟨a, b, c, x, y, z, rfl, _⟩ := ints6 ht
  simp only [F_sFracTimes, G_sFracTimes, tr_sFracTimes, Fs_sFracTimes, G_sFracValid, G_l2Low, timesQ, validQ, q3, arI, ofTree, okT, okE, evalT, evalE, evsIn, ev, callF, preF, hasF, needs, i0, b0, toI_int, toB_bool, List.getD_cons_zero, List.getD_cons_succ, List.cons_append, List.nil_append, List.replicate, if_true, if_false, Bool.false_eq_true, and_true, true_and, implies_true, forall_const, false_implies, cmpI, Bool.not_true, Bool.not_false, Bool.true_and, Bool.false_and, Bool.and_true, Bool.and_false, reduceIte, List.append_nil, reduceCtorEq]
  cases h : validI a b c
  · simp [h, fr4, zq]
  · cases k : validI x y z
    · simp [h, k, fr4, zq]
    · obtain ⟨e1, e2, e3, e4, e5, e6, e7, l1⟩ := mul_facts h k
      simp only [h, k, e1, e2, e3, e4, e5, e6, e7, ofTree, okT, okE, evalT, evalE, evsIn, ev, callF, preF, hasF, needs, i0, b0, toI_int, toB_bool, List.getD_cons_zero, List.getD_cons_succ, List.cons_append, List.nil_append, List.replicate, if_true, if_false, Bool.false_eq_true, and_true, true_and, implies_true, forall_const, false_implies, cmpI, Bool.not_true, Bool.not_false, Bool.true_and, Bool.false_and, Bool.and_true, Bool.and_false, reduceIte, List.append_nil, reduceCtorEq]
      simp [fr4, l1]
def tr_keep : Tr := (.ite (.not ξr21) (.ret [ξr0, ξr0, ξr0, ξr5]) (.ret [ξr20, ξr27, ξr22, ξr23]))
def Fs_keep : List Fun1 := []
def F_keep : Fun1 := ofTree Fs_keep tr_keep
def tr_add : Tr := ξr44
def Fs_add : List Fun1 := [G_iFracAdd, F_keep]
def F_add : Fun1 := ofTree Fs_add tr_add
def G_add : Fun1 := ⟨fun _ => True, fun ins => fr3 (addQ (q3 ins 0) (q3 ins 3)) ++ [.bool (b0 ins 6 || !(addQ (q3 ins 0) (q3 ins 3)).isSome)]⟩
theorem as_add (ins : List Value) (ht : TypedL [.int .i64, .int .i64, .int .i64, .int .i64, .int .i64, .int .i64, .bool] ins) (_ : G_add.pre ins) : F_add.pre ins ∧ F_add.out ins = G_add.out ins := by
  obtain ⟨a, r1, rfl, _, ht1⟩ := int_cons ht
  obtain ⟨b, r2, rfl, _, ht2⟩ := int_cons ht1
  obtain ⟨c, r3, rfl, _, ht3⟩ := int_cons ht2
  obtain ⟨x, r4, rfl, _, ht4⟩ := int_cons ht3
  obtain ⟨y, r5, rfl, _, ht5⟩ := int_cons ht4
  obtain ⟨z, r6, rfl, _, ht6⟩ := int_cons ht5
  obtain ⟨t, r7, rfl, ht7⟩ := bool_cons ht6
  obtain rfl := ints0 ht7
  simp only [F_add, G_add, tr_add, Fs_add, G_iFracAdd, F_keep, tr_keep, Fs_keep, q3, fr4, fr3, ofTree, okT, okE, evalT, evalE, evsIn, ev, callF, preF, hasF, needs, i0, b0, toI_int, toB_bool, List.getD_cons_zero, List.getD_cons_succ, List.cons_append, List.nil_append, List.replicate, if_true, if_false, Bool.false_eq_true, and_true, true_and, implies_true, forall_const, false_implies, cmpI, Bool.not_true, Bool.not_false, Bool.true_and, Bool.false_and, Bool.and_true, Bool.and_false, reduceIte, List.append_nil, reduceCtorEq]
  cases h : addQ (a, b, c) (x, y, z) <;> simp [zq]
def tr_times : Tr := ξr44
def Fs_times : List Fun1 := [G_iFracTimes, F_keep]
def F_times : Fun1 := ofTree Fs_times tr_times
def G_times : Fun1 := ⟨fun _ => True, fun ins => fr3 (timesQ (q3 ins 0) (q3 ins 3)) ++ [.bool (b0 ins 6 || !(timesQ (q3 ins 0) (q3 ins 3)).isSome)]⟩
theorem as_times (ins : List Value) (ht : TypedL [.int .i64, .int .i64, .int .i64, .int .i64, .int .i64, .int .i64, .bool] ins) (_ : G_times.pre ins) : F_times.pre ins ∧ F_times.out ins = G_times.out ins := by
  obtain ⟨a, r1, rfl, _, ht1⟩ := int_cons ht
  obtain ⟨b, r2, rfl, _, ht2⟩ := int_cons ht1
  obtain ⟨c, r3, rfl, _, ht3⟩ := int_cons ht2
  obtain ⟨x, r4, rfl, _, ht4⟩ := int_cons ht3
  obtain ⟨y, r5, rfl, _, ht5⟩ := int_cons ht4
  obtain ⟨z, r6, rfl, _, ht6⟩ := int_cons ht5
  obtain ⟨t, r7, rfl, ht7⟩ := bool_cons ht6
  obtain rfl := ints0 ht7
  simp only [F_times, G_times, tr_times, Fs_times, G_iFracTimes, F_keep, tr_keep, Fs_keep, q3, fr4, fr3, ofTree, okT, okE, evalT, evalE, evsIn, ev, callF, preF, hasF, needs, i0, b0, toI_int, toB_bool, List.getD_cons_zero, List.getD_cons_succ, List.cons_append, List.nil_append, List.replicate, if_true, if_false, Bool.false_eq_true, and_true, true_and, implies_true, forall_const, false_implies, cmpI, Bool.not_true, Bool.not_false, Bool.true_and, Bool.false_and, Bool.and_true, Bool.and_false, reduceIte, List.append_nil, reduceCtorEq]
  cases h : timesQ (a, b, c) (x, y, z) <;> simp [zq]
def tr_need : Tr := (.ite (.not ξr20) (.ret [ξr5]) (.ret [ξr27]))
def Fs_need : List Fun1 := []
def F_need : Fun1 := ofTree Fs_need tr_need
def G_need : Fun1 := ⟨fun _ => True, fun ins => [.bool (b0 ins 1 || !b0 ins 0)]⟩
theorem as_need (ins : List Value) (ht : TypedL [.bool, .bool] ins) (_ : G_need.pre ins) : F_need.pre ins ∧ F_need.out ins = G_need.out ins := by
  obtain ⟨s, r1, rfl, ht1⟩ := bool_cons ht
  obtain ⟨t, r2, rfl, ht2⟩ := bool_cons ht1
  obtain rfl := ints0 ht2
  simp only [F_need, G_need, tr_need, Fs_need, ofTree, okT, okE, evalT, evalE, evsIn, ev, callF, preF, hasF, needs, i0, b0, toI_int, toB_bool, List.getD_cons_zero, List.getD_cons_succ, List.cons_append, List.nil_append, List.replicate, if_true, if_false, Bool.false_eq_true, and_true, true_and, implies_true, forall_const, false_implies, cmpI, Bool.not_true, Bool.not_false, Bool.true_and, Bool.false_and, Bool.and_true, Bool.and_false, reduceIte, List.append_nil, reduceCtorEq]
  cases s <;> cases t <;> simp
def tr_l6tAdd : Tr := (.evs [.call 0 [ξr20, ξr27, ξr22, ξr21, ξr23, ξr24, ξr25] none 4] (.ret [ξr34, ξr35, ξr26, (.ite ξr29 ξr30 ξr2)]))
def Fs_l6tAdd : List Fun1 := [G_l2Sum]
def F_l6tAdd : Fun1 := ofTree Fs_l6tAdd tr_l6tAdd
def signQ (s : Int) (a b : Q) : Option Q := if s = 1 then addQ a b else lessQ a b
def G_l6tAdd : Fun1 := ⟨fun ins => i0 ins 3 = 1 ∨ i0 ins 3 = -1, fun ins => fr3 (signQ (i0 ins 3) (q3 ins 0) (q3 ins 4)) ++ [.bool (b0 ins 7 && (signQ (i0 ins 3) (q3 ins 0) (q3 ins 4)).isSome)]⟩
theorem as_l6tAdd (ins : List Value) (ht : TypedL [.int .i64, .int .i64, .int .i64, .int .i64, .int .i64, .int .i64, .int .i64, .bool] ins) (hp : G_l6tAdd.pre ins) : F_l6tAdd.pre ins ∧ F_l6tAdd.out ins = G_l6tAdd.out ins := by
  obtain ⟨a, r1, rfl, _, ht1⟩ := int_cons ht
  obtain ⟨b, r2, rfl, _, ht2⟩ := int_cons ht1
  obtain ⟨c, r3, rfl, _, ht3⟩ := int_cons ht2
  obtain ⟨s, r4, rfl, _, ht4⟩ := int_cons ht3
  obtain ⟨x, r5, rfl, _, ht5⟩ := int_cons ht4
  obtain ⟨y, r6, rfl, _, ht6⟩ := int_cons ht5
  obtain ⟨z, r7, rfl, _, ht7⟩ := int_cons ht6
  obtain ⟨t, r8, rfl, ht8⟩ := bool_cons ht7
  obtain rfl := ints0 ht8
  have hp : s = 1 ∨ s = -1 := hp
  refine ⟨⟨⟨hp, trivial⟩, trivial⟩, ?_⟩
  simp only [F_l6tAdd, G_l6tAdd, tr_l6tAdd, Fs_l6tAdd, G_l2Sum, signQ, q3, fr4, fr3, ofTree, okT, okE, evalT, evalE, evsIn, ev, callF, preF, hasF, needs, i0, b0, toI_int, toB_bool, List.getD_cons_zero, List.getD_cons_succ, List.cons_append, List.nil_append, List.replicate, if_true, if_false, Bool.false_eq_true, and_true, true_and, implies_true, forall_const, false_implies, cmpI, Bool.not_true, Bool.not_false, Bool.true_and, Bool.false_and, Bool.and_true, Bool.and_false, reduceIte, List.append_nil, reduceCtorEq]
  cases t <;> simp
def tr_iTableValid : Tr := (.evs ξr65 (.ite (.not (.var 48)) ξr57 (.evs [.call 0 [ξr21, ξr23, ξr24] none 1] (.ite (.not (.var 49)) ξr57 (.evs [.call 0 [ξr25, ξr29, ξr34] none 1] (.ite (.not ξr81) ξr57 (.evs [.call 0 [ξr35, ξr26, ξr30] none 1] (.ite (.not ξr85) ξr57 (.evs [.call 0 [ξr50, ξr53, ξr54] none 1] (.ite (.not ξr79) ξr57 (.evs [.call 0 [ξr58, ξr60, ξr68] none 1] (.ite (.not (.var 53)) ξr57 (.evs [.call 0 [ξr83, ξr80, ξr69] none 1] (.ite (.not (.var 54)) ξr57 (.evs [.call 0 [ξr87, ξr82, ξr59] none 1] (.ite (.not (.var 55)) ξr57 (.evs [.call 0 [ξr67, (.var 25), ξr96] none 1] (.ite (.not (.var 56)) ξr57 (.evs [.call 0 [ξr95, ξr86, (.var 29)] none 1] (.ite (.not (.var 57)) ξr57 (.evs [.call 0 [(.var 30), (.var 31), (.var 32)] none 1] (.ite (.not (.var 58)) ξr57 (.evs [.call 0 [(.var 33), (.var 34), (.var 35)] none 1] (.ite (.not (.var 59)) ξr57 (.evs [.call 0 [(.var 36), (.var 37), (.var 38)] none 1] (.ite (.not (.var 60)) ξr57 (.evs [.call 0 [(.var 39), (.var 40), (.var 41)] none 1] (.ite (.not (.var 61)) ξr57 (.evs [.call 0 [(.var 42), (.var 43), (.var 44)] none 1] (.ite (.not (.var 62)) ξr57 (.evs [.call 0 [(.var 45), (.var 46), (.var 47)] none 1] (.ite (.not (.var 63)) ξr57 (.ret [ξr5])))))))))))))))))))))))))))))))))
def Fs_iTableValid : List Fun1 := [G_realOk]
def F_iTableValid : Fun1 := ofTree Fs_iTableValid tr_iTableValid
def G_iTableValid : Fun1 := ⟨fun _ => True, fun ins => [.bool (tabQ fun k => q3 ins (3 * k))]⟩
theorem out_iTableValid : (fun (g : Nat → Int) => F_iTableValid.out (ivs g 0 48)) = fun g => nestC (fun k => .bool (!realQ (q3 (ivs g 0 48) (3 * k)))) 0 16 := by kernel_rfl
theorem as_iTableValid (ins : List Value) (ht : TypedL (intTs 48 ++ []) ins) (_ : G_iTableValid.pre ins) : F_iTableValid.pre ins ∧ F_iTableValid.out ins = G_iTableValid.out ins := by
  obtain ⟨g, r, rfl, h1, _⟩ := ints_lit 48 0 ht
  obtain rfl := ints0 h1
  rw [List.append_nil]
  refine ⟨okT_free (by intro F hF ins; simp only [Fs_iTableValid, List.mem_singleton] at hF; rw [hF]; trivial) _ _ (by kernel_rfl), (congrFun out_iTableValid g).trans ?_⟩
  exact nestC_eq (fun k => rfl) 16 0
def tr_sTableValid : Tr := (.evs ξr65 (.ite (.ite (.not (.var 48)) ξr5 (.cmp .neq ξr27 ξr0)) ξr57 (.evs [.call 0 [ξr21, ξr23, ξr24] none 1] (.ite (.ite (.not (.var 49)) ξr5 (.cmp .neq ξr23 ξr0)) ξr57 (.evs [.call 0 [ξr25, ξr29, ξr34] none 1] (.ite (.ite (.not ξr81) ξr5 (.cmp .neq ξr29 ξr0)) ξr57 (.evs [.call 0 [ξr35, ξr26, ξr30] none 1] (.ite (.ite (.not ξr85) ξr5 (.cmp .neq ξr26 ξr0)) ξr57 (.evs [.call 0 [ξr50, ξr53, ξr54] none 1] (.ite (.ite (.not ξr79) ξr5 (.cmp .neq ξr53 ξr0)) ξr57 (.evs [.call 0 [ξr58, ξr60, ξr68] none 1] (.ite (.ite (.not (.var 53)) ξr5 (.cmp .neq ξr60 ξr0)) ξr57 (.evs [.call 0 [ξr83, ξr80, ξr69] none 1] (.ite (.ite (.not (.var 54)) ξr5 (.cmp .neq ξr80 ξr0)) ξr57 (.evs [.call 0 [ξr87, ξr82, ξr59] none 1] (.ite (.ite (.not (.var 55)) ξr5 (.cmp .neq ξr82 ξr0)) ξr57 (.evs [.call 0 [ξr67, (.var 25), ξr96] none 1] (.ite (.ite (.not (.var 56)) ξr5 (.cmp .neq (.var 25) ξr0)) ξr57 (.evs [.call 0 [ξr95, ξr86, (.var 29)] none 1] (.ite (.ite (.not (.var 57)) ξr5 (.cmp .neq ξr86 ξr0)) ξr57 (.evs [.call 0 [(.var 30), (.var 31), (.var 32)] none 1] (.ite (.ite (.not (.var 58)) ξr5 (.cmp .neq (.var 31) ξr0)) ξr57 (.evs [.call 0 [(.var 33), (.var 34), (.var 35)] none 1] (.ite (.ite (.not (.var 59)) ξr5 (.cmp .neq (.var 34) ξr0)) ξr57 (.evs [.call 0 [(.var 36), (.var 37), (.var 38)] none 1] (.ite (.ite (.not (.var 60)) ξr5 (.cmp .neq (.var 37) ξr0)) ξr57 (.evs [.call 0 [(.var 39), (.var 40), (.var 41)] none 1] (.ite (.ite (.not (.var 61)) ξr5 (.cmp .neq (.var 40) ξr0)) ξr57 (.evs [.call 0 [(.var 42), (.var 43), (.var 44)] none 1] (.ite (.ite (.not (.var 62)) ξr5 (.cmp .neq (.var 43) ξr0)) ξr57 (.evs [.call 0 [(.var 45), (.var 46), (.var 47)] none 1] (.ite (.ite (.not (.var 63)) ξr5 (.cmp .neq (.var 46) ξr0)) ξr57 (.ret [ξr5])))))))))))))))))))))))))))))))))
def Fs_sTableValid : List Fun1 := [G_sFracValid]
def F_sTableValid : Fun1 := ofTree Fs_sTableValid tr_sTableValid
def G_sTableValid : Fun1 := ⟨fun _ => True, fun ins => [.bool (allB (fun k => realQ (q3 ins (3 * k))) 0 16)]⟩
theorem out_sTableValid : (fun (g : Nat → Int) => F_sTableValid.out (ivs g 0 48)) = fun g => nestC (fun k => if toB (.bool (!validQ (q3 (ivs g 0 48) (3 * k)))) = true then .bool true else .bool (i0 (ivs g 0 48) (3 * k + 1) != 0)) 0 16 := by kernel_rfl
theorem as_sTableValid (ins : List Value) (ht : TypedL (intTs 48 ++ []) ins) (_ : G_sTableValid.pre ins) : F_sTableValid.pre ins ∧ F_sTableValid.out ins = G_sTableValid.out ins := by
  obtain ⟨g, r, rfl, h1, _⟩ := ints_lit 48 0 ht
  obtain rfl := ints0 h1
  rw [List.append_nil]
  refine ⟨okT_free (by intro F hF ins; simp only [Fs_sTableValid, List.mem_singleton] at hF; rw [hF]; trivial) _ _ (by kernel_rfl), (congrFun out_sTableValid g).trans ?_⟩
  refine nestC_eq (fun k => ?_) 16 0
  simp only [toB_bool, realQ, q3]
  by_cases h : validQ (i0 (ivs g 0 48) (3 * k), i0 (ivs g 0 48) (3 * k + 1), i0 (ivs g 0 48) (3 * k + 2)) = true <;> simp [bne, h]
def tr_gotTable : Tr := (.ite (.var 48) (.ret [ξr0, ξr0, ξr0, ξr0, ξr0, ξr0, ξr0, ξr0, ξr0, ξr0, ξr0, ξr0, ξr0, ξr0, ξr0, ξr0, ξr0, ξr0, ξr0, ξr0, ξr0, ξr0, ξr0, ξr0, ξr0, ξr0, ξr0, ξr0, ξr0, ξr0, ξr0, ξr0, ξr0, ξr0, ξr0, ξr0, ξr0, ξr0, ξr0, ξr0, ξr0, ξr0, ξr0, ξr0, ξr0, ξr0, ξr0, ξr0, ξr2, (.var 48)]) (.ret [ξr20, ξr27, ξr22, ξr21, ξr23, ξr24, ξr25, ξr29, ξr34, ξr35, ξr26, ξr30, ξr50, ξr53, ξr54, ξr58, ξr60, ξr68, ξr83, ξr80, ξr69, ξr87, ξr82, ξr59, ξr67, (.var 25), ξr96, ξr95, ξr86, (.var 29), (.var 30), (.var 31), (.var 32), (.var 33), (.var 34), (.var 35), (.var 36), (.var 37), (.var 38), (.var 39), (.var 40), (.var 41), (.var 42), (.var 43), (.var 44), (.var 45), (.var 46), (.var 47), ξr5, (.var 48)]))
def Fs_gotTable : List Fun1 := []
def F_gotTable : Fun1 := ofTree Fs_gotTable tr_gotTable
def G_gotTable : Fun1 := ⟨fun _ => True, fun ins => gotV (b0 ins 48) ins 0 48 ++ [.bool (!b0 ins 48), .bool (b0 ins 48)]⟩
theorem out_gotTable : (fun (g : Nat → Int) => F_gotTable.out (ivs g 0 48 ++ [.bool true])) = fun g => G_gotTable.out (ivs g 0 48 ++ [.bool true]) := by kernel_rfl
theorem out_gotTable' : (fun (g : Nat → Int) => F_gotTable.out (ivs g 0 48 ++ [.bool false])) = fun g => G_gotTable.out (ivs g 0 48 ++ [.bool false]) := by kernel_rfl
theorem as_gotTable (ins : List Value) (ht : TypedL (intTs 48 ++ [.bool]) ins) (_ : G_gotTable.pre ins) : F_gotTable.pre ins ∧ F_gotTable.out ins = G_gotTable.out ins := by
  obtain ⟨g, r, rfl, h1, _⟩ := ints_lit 48 0 ht
  obtain ⟨b, r2, rfl, h2⟩ := bool_cons h1
  obtain rfl := ints0 h2
  cases b
  · exact ⟨trivial, congrFun out_gotTable' g⟩
  · exact ⟨trivial, congrFun out_gotTable g⟩
def tr_l6tOf0 : Tr := (.ret ξr46)
def Fs_l6tOf0 : List Fun1 := []
def F_l6tOf0 : Fun1 := ofTree Fs_l6tOf0 tr_l6tOf0
def tr_l6tOf1 : Tr := (.ret ξr70)
def Fs_l6tOf1 : List Fun1 := []
def F_l6tOf1 : Fun1 := ofTree Fs_l6tOf1 tr_l6tOf1
def tr_l6tOf2 : Tr := (.ret [ξr67, (.var 25), ξr96, ξr95, ξr86, (.var 29), (.var 30), (.var 31), (.var 32), (.var 33), (.var 34), (.var 35)])
def Fs_l6tOf2 : List Fun1 := []
def F_l6tOf2 : Fun1 := ofTree Fs_l6tOf2 tr_l6tOf2
def tr_l6tOf3 : Tr := (.ret [(.var 36), (.var 37), (.var 38), (.var 39), (.var 40), (.var 41), (.var 42), (.var 43), (.var 44), (.var 45), (.var 46), (.var 47)])
def Fs_l6tOf3 : List Fun1 := []
def F_l6tOf3 : Fun1 := ofTree Fs_l6tOf3 tr_l6tOf3
def tr_l6tRow : Tr := (.evs [.call 0 [ξr20, ξr27, ξr22, ξr50, ξr53, ξr54] none 4] (.evs [.call 1 [ξr0, ξr0, ξr3, ξr3, (.var 25), ξr96, ξr95, (.ite ξr67 ξr86 ξr2)] none 4] (.evs [.call 0 [ξr21, ξr23, ξr24, ξr58, ξr60, ξr68] none 4] (.evs [.call 1 [(.var 29), (.var 30), (.var 31), ξr3, (.var 33), (.var 34), (.var 35), (.ite (.var 32) (.var 36) ξr2)] none 4] (.evs [.call 0 [ξr25, ξr29, ξr34, ξr83, ξr80, ξr69] none 4] (.evs [.call 1 [(.var 37), (.var 38), (.var 39), ξr3, (.var 41), (.var 42), (.var 43), (.ite (.var 40) (.var 44) ξr2)] none 4] (.evs [.call 0 [ξr35, ξr26, ξr30, ξr87, ξr82, ξr59] none 4] (.evs [.call 1 [(.var 45), (.var 46), (.var 47), ξr3, (.var 49), ξr81, ξr85, (.ite (.var 48) ξr79 ξr2)] none 4] (.ret [(.var 53), (.var 54), (.var 55), (.var 56)])))))))))
def Fs_l6tRow : List Fun1 := [G_sFracTimes, G_l6tAdd]
def F_l6tRow : Fun1 := ofTree Fs_l6tRow tr_l6tRow
def G_l6tRow : Fun1 := ⟨fun _ => True, fun ins => fl3 [(cellS' (fun k => q3 ins (3 * k)) (fun k => q3 ins (12 + 3 * k)) (b0 ins 24)).1] ++ [.bool (cellS' (fun k => q3 ins (3 * k)) (fun k => q3 ins (12 + 3 * k)) (b0 ins 24)).2]⟩
theorem out_l6tRow : (fun (g : Nat → Int) (s : Bool) => F_l6tRow.out (ivs g 0 24 ++ [.bool s])) = fun g s => G_l6tRow.out (ivs g 0 24 ++ [.bool s]) := by kernel_rfl
theorem as_l6tRow (ins : List Value) (ht : TypedL (intTs 24 ++ [.bool]) ins) (_ : G_l6tRow.pre ins) : F_l6tRow.pre ins ∧ F_l6tRow.out ins = G_l6tRow.out ins := by
  obtain ⟨g, r, rfl, h1, _⟩ := ints_lit 24 0 ht
  obtain ⟨s, r2, rfl, h2⟩ := bool_cons h1
  obtain rfl := ints0 h2
  refine ⟨?_, congrFun (congrFun out_l6tRow g) s⟩
  exact ⟨⟨trivial, trivial⟩, ⟨.inl rfl, trivial⟩, ⟨trivial, trivial⟩, ⟨.inl rfl, trivial⟩, ⟨trivial, trivial⟩, ⟨.inl rfl, trivial⟩, ⟨trivial, trivial⟩, ⟨.inl rfl, trivial⟩, trivial⟩
def tr_iTableTimes : Tr := (.evs [.call 0 ξr1 none 1, .call 0 ξr31 (some (.var 96)) 1, .call 1 [(.ite (.var 96) (.var 97) ξr2), ξr2] none 1] (.evs [.call 2 [ξr20, ξr27, ξr22, (.var 48), (.var 49), ξr81, (.var 98)] none 4] (.evs [.call 2 [ξr21, ξr23, ξr24, (.var 60), (.var 61), (.var 62), (.var 102)] none 4, .call 3 [(.var 99), (.var 100), (.var 101), (.var 103), (.var 104), (.var 105), (.var 106)] none 4] (.evs [.call 2 [ξr25, ξr29, ξr34, (.var 72), (.var 73), (.var 74), (.var 110)] none 4, .call 3 [(.var 107), (.var 108), (.var 109), (.var 111), (.var 112), (.var 113), (.var 114)] none 4] (.evs [.call 2 [ξr35, ξr26, ξr30, (.var 84), (.var 85), (.var 86), (.var 118)] none 4, .call 3 [(.var 115), (.var 116), (.var 117), (.var 119), (.var 120), (.var 121), (.var 122)] none 4] (.evs [.call 2 [ξr20, ξr27, ξr22, ξr85, ξr79, (.var 53), (.var 126)] none 4] (.evs [.call 2 [ξr21, ξr23, ξr24, (.var 63), (.var 64), (.var 65), (.var 130)] none 4, .call 3 [(.var 127), (.var 128), (.var 129), (.var 131), (.var 132), (.var 133), (.var 134)] none 4] (.evs [.call 2 [ξr25, ξr29, ξr34, (.var 75), (.var 76), (.var 77), (.var 138)] none 4, .call 3 [(.var 135), (.var 136), (.var 137), (.var 139), (.var 140), (.var 141), (.var 142)] none 4] (.evs [.call 2 [ξr35, ξr26, ξr30, (.var 87), (.var 88), (.var 89), (.var 146)] none 4, .call 3 [(.var 143), (.var 144), (.var 145), (.var 147), (.var 148), (.var 149), (.var 150)] none 4] (.evs [.call 2 [ξr20, ξr27, ξr22, (.var 54), (.var 55), (.var 56), (.var 154)] none 4] (.evs [.call 2 [ξr21, ξr23, ξr24, (.var 66), (.var 67), (.var 68), (.var 158)] none 4, .call 3 [(.var 155), (.var 156), (.var 157), (.var 159), (.var 160), (.var 161), (.var 162)] none 4] (.evs [.call 2 [ξr25, ξr29, ξr34, (.var 78), (.var 79), (.var 80), (.var 166)] none 4, .call 3 [(.var 163), (.var 164), (.var 165), (.var 167), (.var 168), (.var 169), (.var 170)] none 4] (.evs [.call 2 [ξr35, ξr26, ξr30, (.var 90), (.var 91), (.var 92), (.var 174)] none 4, .call 3 [(.var 171), (.var 172), (.var 173), (.var 175), (.var 176), (.var 177), (.var 178)] none 4] (.evs [.call 2 [ξr20, ξr27, ξr22, (.var 57), (.var 58), (.var 59), (.var 182)] none 4] (.evs [.call 2 [ξr21, ξr23, ξr24, (.var 69), (.var 70), (.var 71), (.var 186)] none 4, .call 3 [(.var 183), (.var 184), (.var 185), (.var 187), (.var 188), (.var 189), (.var 190)] none 4] (.evs [.call 2 [ξr25, ξr29, ξr34, (.var 81), (.var 82), (.var 83), (.var 194)] none 4, .call 3 [(.var 191), (.var 192), (.var 193), (.var 195), (.var 196), (.var 197), (.var 198)] none 4] (.evs [.call 2 [ξr35, ξr26, ξr30, (.var 93), (.var 94), (.var 95), (.var 202)] none 4, .call 3 [(.var 199), (.var 200), (.var 201), (.var 203), (.var 204), (.var 205), (.var 206)] none 4] (.evs [.call 2 [ξr50, ξr53, ξr54, (.var 48), (.var 49), ξr81, (.var 210)] none 4] (.evs [.call 2 [ξr58, ξr60, ξr68, (.var 60), (.var 61), (.var 62), (.var 214)] none 4, .call 3 [(.var 211), (.var 212), (.var 213), (.var 215), (.var 216), (.var 217), (.var 218)] none 4] (.evs [.call 2 [ξr83, ξr80, ξr69, (.var 72), (.var 73), (.var 74), (.var 222)] none 4, .call 3 [(.var 219), (.var 220), (.var 221), (.var 223), (.var 224), (.var 225), (.var 226)] none 4] (.evs [.call 2 [ξr87, ξr82, ξr59, (.var 84), (.var 85), (.var 86), (.var 230)] none 4, .call 3 [(.var 227), (.var 228), (.var 229), (.var 231), (.var 232), (.var 233), (.var 234)] none 4] (.evs [.call 2 [ξr50, ξr53, ξr54, ξr85, ξr79, (.var 53), (.var 238)] none 4] (.evs [.call 2 [ξr58, ξr60, ξr68, (.var 63), (.var 64), (.var 65), (.var 242)] none 4, .call 3 [(.var 239), (.var 240), (.var 241), (.var 243), (.var 244), (.var 245), (.var 246)] none 4] (.evs [.call 2 [ξr83, ξr80, ξr69, (.var 75), (.var 76), (.var 77), (.var 250)] none 4, .call 3 [(.var 247), (.var 248), (.var 249), (.var 251), (.var 252), (.var 253), (.var 254)] none 4] (.evs [.call 2 [ξr87, ξr82, ξr59, (.var 87), (.var 88), (.var 89), (.var 258)] none 4, .call 3 [(.var 255), (.var 256), (.var 257), (.var 259), (.var 260), (.var 261), (.var 262)] none 4] (.evs [.call 2 [ξr50, ξr53, ξr54, (.var 54), (.var 55), (.var 56), (.var 266)] none 4] (.evs [.call 2 [ξr58, ξr60, ξr68, (.var 66), (.var 67), (.var 68), (.var 270)] none 4, .call 3 [(.var 267), (.var 268), (.var 269), (.var 271), (.var 272), (.var 273), (.var 274)] none 4] (.evs [.call 2 [ξr83, ξr80, ξr69, (.var 78), (.var 79), (.var 80), (.var 278)] none 4, .call 3 [(.var 275), (.var 276), (.var 277), (.var 279), (.var 280), (.var 281), (.var 282)] none 4] (.evs [.call 2 [ξr87, ξr82, ξr59, (.var 90), (.var 91), (.var 92), (.var 286)] none 4, .call 3 [(.var 283), (.var 284), (.var 285), (.var 287), (.var 288), (.var 289), (.var 290)] none 4] (.evs [.call 2 [ξr50, ξr53, ξr54, (.var 57), (.var 58), (.var 59), (.var 294)] none 4] (.evs [.call 2 [ξr58, ξr60, ξr68, (.var 69), (.var 70), (.var 71), (.var 298)] none 4, .call 3 [(.var 295), (.var 296), (.var 297), (.var 299), (.var 300), (.var 301), (.var 302)] none 4] (.evs [.call 2 [ξr83, ξr80, ξr69, (.var 81), (.var 82), (.var 83), (.var 306)] none 4, .call 3 [(.var 303), (.var 304), (.var 305), (.var 307), (.var 308), (.var 309), (.var 310)] none 4] (.evs [.call 2 [ξr87, ξr82, ξr59, (.var 93), (.var 94), (.var 95), (.var 314)] none 4, .call 3 [(.var 311), (.var 312), (.var 313), (.var 315), (.var 316), (.var 317), (.var 318)] none 4] (.evs [.call 2 [ξr67, (.var 25), ξr96, (.var 48), (.var 49), ξr81, (.var 322)] none 4] (.evs [.call 2 [ξr95, ξr86, (.var 29), (.var 60), (.var 61), (.var 62), (.var 326)] none 4, .call 3 [(.var 323), (.var 324), (.var 325), (.var 327), (.var 328), (.var 329), (.var 330)] none 4] (.evs [.call 2 [(.var 30), (.var 31), (.var 32), (.var 72), (.var 73), (.var 74), (.var 334)] none 4, .call 3 [(.var 331), (.var 332), (.var 333), (.var 335), (.var 336), (.var 337), (.var 338)] none 4] (.evs [.call 2 [(.var 33), (.var 34), (.var 35), (.var 84), (.var 85), (.var 86), (.var 342)] none 4, .call 3 [(.var 339), (.var 340), (.var 341), (.var 343), (.var 344), (.var 345), (.var 346)] none 4] (.evs [.call 2 [ξr67, (.var 25), ξr96, ξr85, ξr79, (.var 53), (.var 350)] none 4] (.evs [.call 2 [ξr95, ξr86, (.var 29), (.var 63), (.var 64), (.var 65), (.var 354)] none 4, .call 3 [(.var 351), (.var 352), (.var 353), (.var 355), (.var 356), (.var 357), (.var 358)] none 4] (.evs [.call 2 [(.var 30), (.var 31), (.var 32), (.var 75), (.var 76), (.var 77), (.var 362)] none 4, .call 3 [(.var 359), (.var 360), (.var 361), (.var 363), (.var 364), (.var 365), (.var 366)] none 4] (.evs [.call 2 [(.var 33), (.var 34), (.var 35), (.var 87), (.var 88), (.var 89), (.var 370)] none 4, .call 3 [(.var 367), (.var 368), (.var 369), (.var 371), (.var 372), (.var 373), (.var 374)] none 4] (.evs [.call 2 [ξr67, (.var 25), ξr96, (.var 54), (.var 55), (.var 56), (.var 378)] none 4] (.evs [.call 2 [ξr95, ξr86, (.var 29), (.var 66), (.var 67), (.var 68), (.var 382)] none 4, .call 3 [(.var 379), (.var 380), (.var 381), (.var 383), (.var 384), (.var 385), (.var 386)] none 4] (.evs [.call 2 [(.var 30), (.var 31), (.var 32), (.var 78), (.var 79), (.var 80), (.var 390)] none 4, .call 3 [(.var 387), (.var 388), (.var 389), (.var 391), (.var 392), (.var 393), (.var 394)] none 4] (.evs [.call 2 [(.var 33), (.var 34), (.var 35), (.var 90), (.var 91), (.var 92), (.var 398)] none 4, .call 3 [(.var 395), (.var 396), (.var 397), (.var 399), (.var 400), (.var 401), (.var 402)] none 4] (.evs [.call 2 [ξr67, (.var 25), ξr96, (.var 57), (.var 58), (.var 59), (.var 406)] none 4] (.evs [.call 2 [ξr95, ξr86, (.var 29), (.var 69), (.var 70), (.var 71), (.var 410)] none 4, .call 3 [(.var 407), (.var 408), (.var 409), (.var 411), (.var 412), (.var 413), (.var 414)] none 4] (.evs [.call 2 [(.var 30), (.var 31), (.var 32), (.var 81), (.var 82), (.var 83), (.var 418)] none 4, .call 3 [(.var 415), (.var 416), (.var 417), (.var 419), (.var 420), (.var 421), (.var 422)] none 4] (.evs [.call 2 [(.var 33), (.var 34), (.var 35), (.var 93), (.var 94), (.var 95), (.var 426)] none 4, .call 3 [(.var 423), (.var 424), (.var 425), (.var 427), (.var 428), (.var 429), (.var 430)] none 4] (.evs [.call 2 [(.var 36), (.var 37), (.var 38), (.var 48), (.var 49), ξr81, (.var 434)] none 4] (.evs [.call 2 [(.var 39), (.var 40), (.var 41), (.var 60), (.var 61), (.var 62), (.var 438)] none 4, .call 3 [(.var 435), (.var 436), (.var 437), (.var 439), (.var 440), (.var 441), (.var 442)] none 4] (.evs [.call 2 [(.var 42), (.var 43), (.var 44), (.var 72), (.var 73), (.var 74), (.var 446)] none 4, .call 3 [(.var 443), (.var 444), (.var 445), (.var 447), (.var 448), (.var 449), (.var 450)] none 4] (.evs [.call 2 [(.var 45), (.var 46), (.var 47), (.var 84), (.var 85), (.var 86), (.var 454)] none 4, .call 3 [(.var 451), (.var 452), (.var 453), (.var 455), (.var 456), (.var 457), (.var 458)] none 4] (.evs [.call 2 [(.var 36), (.var 37), (.var 38), ξr85, ξr79, (.var 53), (.var 462)] none 4] (.evs [.call 2 [(.var 39), (.var 40), (.var 41), (.var 63), (.var 64), (.var 65), (.var 466)] none 4, .call 3 [(.var 463), (.var 464), (.var 465), (.var 467), (.var 468), (.var 469), (.var 470)] none 4] (.evs [.call 2 [(.var 42), (.var 43), (.var 44), (.var 75), (.var 76), (.var 77), (.var 474)] none 4, .call 3 [(.var 471), (.var 472), (.var 473), (.var 475), (.var 476), (.var 477), (.var 478)] none 4] (.evs [.call 2 [(.var 45), (.var 46), (.var 47), (.var 87), (.var 88), (.var 89), (.var 482)] none 4, .call 3 [(.var 479), (.var 480), (.var 481), (.var 483), (.var 484), (.var 485), (.var 486)] none 4] (.evs [.call 2 [(.var 36), (.var 37), (.var 38), (.var 54), (.var 55), (.var 56), (.var 490)] none 4] (.evs [.call 2 [(.var 39), (.var 40), (.var 41), (.var 66), (.var 67), (.var 68), (.var 494)] none 4, .call 3 [(.var 491), (.var 492), (.var 493), (.var 495), (.var 496), (.var 497), (.var 498)] none 4] (.evs [.call 2 [(.var 42), (.var 43), (.var 44), (.var 78), (.var 79), (.var 80), (.var 502)] none 4, .call 3 [(.var 499), (.var 500), (.var 501), (.var 503), (.var 504), (.var 505), (.var 506)] none 4] (.evs [.call 2 [(.var 45), (.var 46), (.var 47), (.var 90), (.var 91), (.var 92), (.var 510)] none 4, .call 3 [(.var 507), (.var 508), (.var 509), (.var 511), (.var 512), (.var 513), (.var 514)] none 4] (.evs [.call 2 [(.var 36), (.var 37), (.var 38), (.var 57), (.var 58), (.var 59), (.var 518)] none 4] (.evs [.call 2 [(.var 39), (.var 40), (.var 41), (.var 69), (.var 70), (.var 71), (.var 522)] none 4, .call 3 [(.var 519), (.var 520), (.var 521), (.var 523), (.var 524), (.var 525), (.var 526)] none 4] (.evs [.call 2 [(.var 42), (.var 43), (.var 44), (.var 81), (.var 82), (.var 83), (.var 530)] none 4, .call 3 [(.var 527), (.var 528), (.var 529), (.var 531), (.var 532), (.var 533), (.var 534)] none 4] (.evs [.call 2 [(.var 45), (.var 46), (.var 47), (.var 93), (.var 94), (.var 95), (.var 538)] none 4, .call 3 [(.var 535), (.var 536), (.var 537), (.var 539), (.var 540), (.var 541), (.var 542)] none 4] (.evs [.call 4 [(.var 123), (.var 124), (.var 125), (.var 151), (.var 152), (.var 153), (.var 179), (.var 180), (.var 181), (.var 207), (.var 208), (.var 209), (.var 235), (.var 236), (.var 237), (.var 263), (.var 264), (.var 265), (.var 291), (.var 292), (.var 293), (.var 319), (.var 320), (.var 321), (.var 347), (.var 348), (.var 349), (.var 375), (.var 376), (.var 377), (.var 403), (.var 404), (.var 405), (.var 431), (.var 432), (.var 433), (.var 459), (.var 460), (.var 461), (.var 487), (.var 488), (.var 489), (.var 515), (.var 516), (.var 517), (.var 543), (.var 544), (.var 545), (.var 546)] none 50] (.ret [(.var 547), (.var 548), (.var 549), (.var 550), (.var 551), (.var 552), (.var 553), (.var 554), (.var 555), (.var 556), (.var 557), (.var 558), (.var 559), (.var 560), (.var 561), (.var 562), (.var 563), (.var 564), (.var 565), (.var 566), (.var 567), (.var 568), (.var 569), (.var 570), (.var 571), (.var 572), (.var 573), (.var 574), (.var 575), (.var 576), (.var 577), (.var 578), (.var 579), (.var 580), (.var 581), (.var 582), (.var 583), (.var 584), (.var 585), (.var 586), (.var 587), (.var 588), (.var 589), (.var 590), (.var 591), (.var 592), (.var 593), (.var 594), (.var 595)])))))))))))))))))))))))))))))))))))))))))))))))))))))))))))))))))))
def Fs_iTableTimes : List Fun1 := [G_iTableValid, G_need, G_times, G_add, G_gotTable]
def F_iTableTimes : Fun1 := ofTree Fs_iTableTimes tr_iTableTimes
def G_iTableTimes : Fun1 := ⟨fun _ => True, fun ins => ttW (tabQ (fun k => q3 ins (3 * k)) && tabQ (fun k => q3 ins (48 + 3 * k))) (dotK (fun k => q3 ins (3 * k)) (fun k => q3 ins (48 + 3 * k)))⟩
def ttI (a b : Nat → Q) : List Q × Bool := cellsI (fun k s => cellI (rowF a (k / 4)) (colF b (k % 4)) s) 0 16 (false || !andG (tabQ a) (tabQ b))
theorem ttI_fin (a b : Nat → Q) : gotL (ttI a b).2 (ttI a b).1 ++ [.bool (!(ttI a b).2)] = ttV (tabQ a && tabQ b) (dotK a b) := by
  unfold ttI
  rw [andG_eq, Bool.false_or]
  exact ttI_eq (d := dotK a b) (fun k s => cellI_spec _ _ s) _
theorem out_iTableTimes : (fun (g : Nat → Int) => evalT' Fs_iTableTimes tr_iTableTimes (ivs g 0 96)) = fun g =>
    gotL (ttI (fun k => q3 (ivs g 0 96) (3 * k)) (fun k => q3 (ivs g 0 96) (48 + 3 * k))).2 (ttI (fun k => q3 (ivs g 0 96) (3 * k)) (fun k => q3 (ivs g 0 96) (48 + 3 * k))).1 ++
      [.bool (!(ttI (fun k => q3 (ivs g 0 96) (3 * k)) (fun k => q3 (ivs g 0 96) (48 + 3 * k))).2)] := by kernel_rfl
theorem as_iTableTimes (ins : List Value) (ht : TypedL (intTs 96 ++ []) ins) (_ : G_iTableTimes.pre ins) : F_iTableTimes.pre ins ∧ F_iTableTimes.out ins = G_iTableTimes.out ins := by
  obtain ⟨g, r, rfl, h1, _⟩ := ints_lit 96 0 ht
  obtain rfl := ints0 h1
  rw [List.append_nil]
  refine ⟨okT_free (by intro F hF ins; simp only [Fs_iTableTimes, List.mem_cons, List.not_mem_nil, or_false] at hF; rcases hF with rfl | rfl | rfl | rfl | rfl <;> trivial) _ _ (by kernel_rfl), (evalT_sel (lens := [1]) (Lens.cons (fun _ => rfl) Lens.nil) _ _ (by kernel_rfl)).trans ((congrFun out_iTableTimes g).trans ?_)⟩
  exact (ttI_fin _ _).trans (ttV_eq _ _)
def tr_sTableTimes : Tr := (.evs [.call 0 ξr1 none 1, .call 0 ξr31 (some (.var 96)) 1] (.ite (.ite (.var 96) (.var 97) ξr2) (.evs ξr52 (.evs [.need [ξr5], .call 1 ξr1 none 12, .call 5 [(.var 98), (.var 99), (.var 100), (.var 101), (.var 102), (.var 103), (.var 104), (.var 105), (.var 106), (.var 107), (.var 108), (.var 109), (.var 48), (.var 49), ξr81, (.var 60), (.var 61), (.var 62), (.var 72), (.var 73), (.var 74), (.var 84), (.var 85), (.var 86), (.ite (.var 96) (.var 97) ξr2)] none 4] (.ite (.var 113) (.evs ξr52 (.evs [.need [ξr5], .call 1 ξr1 none 12, .call 5 [(.var 114), (.var 115), (.var 116), (.var 117), (.var 118), (.var 119), (.var 120), (.var 121), (.var 122), (.var 123), (.var 124), (.var 125), ξr85, ξr79, (.var 53), (.var 63), (.var 64), (.var 65), (.var 75), (.var 76), (.var 77), (.var 87), (.var 88), (.var 89), (.var 113)] none 4] (.ite (.var 129) (.evs ξr52 (.evs [.need [ξr5], .call 1 ξr1 none 12, .call 5 [(.var 130), (.var 131), (.var 132), (.var 133), (.var 134), (.var 135), (.var 136), (.var 137), (.var 138), (.var 139), (.var 140), (.var 141), (.var 54), (.var 55), (.var 56), (.var 66), (.var 67), (.var 68), (.var 78), (.var 79), (.var 80), (.var 90), (.var 91), (.var 92), (.var 129)] none 4] (.ite (.var 145) (.evs ξr52 (.evs [.need [ξr5], .call 1 ξr1 none 12, .call 5 [(.var 146), (.var 147), (.var 148), (.var 149), (.var 150), (.var 151), (.var 152), (.var 153), (.var 154), (.var 155), (.var 156), (.var 157), (.var 57), (.var 58), (.var 59), (.var 69), (.var 70), (.var 71), (.var 81), (.var 82), (.var 83), (.var 93), (.var 94), (.var 95), (.var 145)] none 4] (.ite (.var 161) (.evs ξr52 (.evs [.need [ξr5], .call 2 ξr1 none 12, .call 5 [(.var 162), (.var 163), (.var 164), (.var 165), (.var 166), (.var 167), (.var 168), (.var 169), (.var 170), (.var 171), (.var 172), (.var 173), (.var 48), (.var 49), ξr81, (.var 60), (.var 61), (.var 62), (.var 72), (.var 73), (.var 74), (.var 84), (.var 85), (.var 86), (.var 161)] none 4] (.ite (.var 177) (.evs ξr52 (.evs [.need [ξr5], .call 2 ξr1 none 12, .call 5 [(.var 178), (.var 179), (.var 180), (.var 181), (.var 182), (.var 183), (.var 184), (.var 185), (.var 186), (.var 187), (.var 188), (.var 189), ξr85, ξr79, (.var 53), (.var 63), (.var 64), (.var 65), (.var 75), (.var 76), (.var 77), (.var 87), (.var 88), (.var 89), (.var 177)] none 4] (.ite (.var 193) (.evs ξr52 (.evs [.need [ξr5], .call 2 ξr1 none 12, .call 5 [(.var 194), (.var 195), (.var 196), (.var 197), (.var 198), (.var 199), (.var 200), (.var 201), (.var 202), (.var 203), (.var 204), (.var 205), (.var 54), (.var 55), (.var 56), (.var 66), (.var 67), (.var 68), (.var 78), (.var 79), (.var 80), (.var 90), (.var 91), (.var 92), (.var 193)] none 4] (.ite (.var 209) (.evs ξr52 (.evs [.need [ξr5], .call 2 ξr1 none 12, .call 5 [(.var 210), (.var 211), (.var 212), (.var 213), (.var 214), (.var 215), (.var 216), (.var 217), (.var 218), (.var 219), (.var 220), (.var 221), (.var 57), (.var 58), (.var 59), (.var 69), (.var 70), (.var 71), (.var 81), (.var 82), (.var 83), (.var 93), (.var 94), (.var 95), (.var 209)] none 4] (.ite (.var 225) (.evs ξr52 (.evs [.need [ξr5], .call 3 ξr1 none 12, .call 5 [(.var 226), (.var 227), (.var 228), (.var 229), (.var 230), (.var 231), (.var 232), (.var 233), (.var 234), (.var 235), (.var 236), (.var 237), (.var 48), (.var 49), ξr81, (.var 60), (.var 61), (.var 62), (.var 72), (.var 73), (.var 74), (.var 84), (.var 85), (.var 86), (.var 225)] none 4] (.ite (.var 241) (.evs ξr52 (.evs [.need [ξr5], .call 3 ξr1 none 12, .call 5 [(.var 242), (.var 243), (.var 244), (.var 245), (.var 246), (.var 247), (.var 248), (.var 249), (.var 250), (.var 251), (.var 252), (.var 253), ξr85, ξr79, (.var 53), (.var 63), (.var 64), (.var 65), (.var 75), (.var 76), (.var 77), (.var 87), (.var 88), (.var 89), (.var 241)] none 4] (.ite (.var 257) (.evs ξr52 (.evs [.need [ξr5], .call 3 ξr1 none 12, .call 5 [(.var 258), (.var 259), (.var 260), (.var 261), (.var 262), (.var 263), (.var 264), (.var 265), (.var 266), (.var 267), (.var 268), (.var 269), (.var 54), (.var 55), (.var 56), (.var 66), (.var 67), (.var 68), (.var 78), (.var 79), (.var 80), (.var 90), (.var 91), (.var 92), (.var 257)] none 4] (.ite (.var 273) (.evs ξr52 (.evs [.need [ξr5], .call 3 ξr1 none 12, .call 5 [(.var 274), (.var 275), (.var 276), (.var 277), (.var 278), (.var 279), (.var 280), (.var 281), (.var 282), (.var 283), (.var 284), (.var 285), (.var 57), (.var 58), (.var 59), (.var 69), (.var 70), (.var 71), (.var 81), (.var 82), (.var 83), (.var 93), (.var 94), (.var 95), (.var 273)] none 4] (.ite (.var 289) (.evs ξr52 (.evs [.need [ξr5], .call 4 ξr1 none 12, .call 5 [(.var 290), (.var 291), (.var 292), (.var 293), (.var 294), (.var 295), (.var 296), (.var 297), (.var 298), (.var 299), (.var 300), (.var 301), (.var 48), (.var 49), ξr81, (.var 60), (.var 61), (.var 62), (.var 72), (.var 73), (.var 74), (.var 84), (.var 85), (.var 86), (.var 289)] none 4] (.ite (.var 305) (.evs ξr52 (.evs [.need [ξr5], .call 4 ξr1 none 12, .call 5 [(.var 306), (.var 307), (.var 308), (.var 309), (.var 310), (.var 311), (.var 312), (.var 313), (.var 314), (.var 315), (.var 316), (.var 317), ξr85, ξr79, (.var 53), (.var 63), (.var 64), (.var 65), (.var 75), (.var 76), (.var 77), (.var 87), (.var 88), (.var 89), (.var 305)] none 4] (.ite (.var 321) (.evs ξr52 (.evs [.need [ξr5], .call 4 ξr1 none 12, .call 5 [(.var 322), (.var 323), (.var 324), (.var 325), (.var 326), (.var 327), (.var 328), (.var 329), (.var 330), (.var 331), (.var 332), (.var 333), (.var 54), (.var 55), (.var 56), (.var 66), (.var 67), (.var 68), (.var 78), (.var 79), (.var 80), (.var 90), (.var 91), (.var 92), (.var 321)] none 4] (.ite (.var 337) (.evs ξr52 (.evs [.need [ξr5], .call 4 ξr1 none 12, .call 5 [(.var 338), (.var 339), (.var 340), (.var 341), (.var 342), (.var 343), (.var 344), (.var 345), (.var 346), (.var 347), (.var 348), (.var 349), (.var 57), (.var 58), (.var 59), (.var 69), (.var 70), (.var 71), (.var 81), (.var 82), (.var 83), (.var 93), (.var 94), (.var 95), (.var 337)] none 4] (.ite (.not (.var 353)) ξr10 (.ret [(.var 110), (.var 111), (.var 112), (.var 126), (.var 127), (.var 128), (.var 142), (.var 143), (.var 144), (.var 158), (.var 159), (.var 160), (.var 174), (.var 175), (.var 176), (.var 190), (.var 191), (.var 192), (.var 206), (.var 207), (.var 208), (.var 222), (.var 223), (.var 224), (.var 238), (.var 239), (.var 240), (.var 254), (.var 255), (.var 256), (.var 270), (.var 271), (.var 272), (.var 286), (.var 287), (.var 288), (.var 302), (.var 303), (.var 304), (.var 318), (.var 319), (.var 320), (.var 334), (.var 335), (.var 336), (.var 350), (.var 351), (.var 352), ξr5])))) (.ite (.not (.var 337)) ξr10 (.ret [(.var 110), (.var 111), (.var 112), (.var 126), (.var 127), (.var 128), (.var 142), (.var 143), (.var 144), (.var 158), (.var 159), (.var 160), (.var 174), (.var 175), (.var 176), (.var 190), (.var 191), (.var 192), (.var 206), (.var 207), (.var 208), (.var 222), (.var 223), (.var 224), (.var 238), (.var 239), (.var 240), (.var 254), (.var 255), (.var 256), (.var 270), (.var 271), (.var 272), (.var 286), (.var 287), (.var 288), (.var 302), (.var 303), (.var 304), (.var 318), (.var 319), (.var 320), (.var 334), (.var 335), (.var 336), ξr0, ξr0, ξr0, ξr5]))))) (.ite (.not (.var 321)) ξr10 (.ret [(.var 110), (.var 111), (.var 112), (.var 126), (.var 127), (.var 128), (.var 142), (.var 143), (.var 144), (.var 158), (.var 159), (.var 160), (.var 174), (.var 175), (.var 176), (.var 190), (.var 191), (.var 192), (.var 206), (.var 207), (.var 208), (.var 222), (.var 223), (.var 224), (.var 238), (.var 239), (.var 240), (.var 254), (.var 255), (.var 256), (.var 270), (.var 271), (.var 272), (.var 286), (.var 287), (.var 288), (.var 302), (.var 303), (.var 304), (.var 318), (.var 319), (.var 320), ξr0, ξr0, ξr0, ξr0, ξr0, ξr0, ξr5]))))) (.ite (.not (.var 305)) ξr10 (.ret [(.var 110), (.var 111), (.var 112), (.var 126), (.var 127), (.var 128), (.var 142), (.var 143), (.var 144), (.var 158), (.var 159), (.var 160), (.var 174), (.var 175), (.var 176), (.var 190), (.var 191), (.var 192), (.var 206), (.var 207), (.var 208), (.var 222), (.var 223), (.var 224), (.var 238), (.var 239), (.var 240), (.var 254), (.var 255), (.var 256), (.var 270), (.var 271), (.var 272), (.var 286), (.var 287), (.var 288), (.var 302), (.var 303), (.var 304), ξr0, ξr0, ξr0, ξr0, ξr0, ξr0, ξr0, ξr0, ξr0, ξr5]))))) (.ite (.not (.var 289)) ξr10 (.ret [(.var 110), (.var 111), (.var 112), (.var 126), (.var 127), (.var 128), (.var 142), (.var 143), (.var 144), (.var 158), (.var 159), (.var 160), (.var 174), (.var 175), (.var 176), (.var 190), (.var 191), (.var 192), (.var 206), (.var 207), (.var 208), (.var 222), (.var 223), (.var 224), (.var 238), (.var 239), (.var 240), (.var 254), (.var 255), (.var 256), (.var 270), (.var 271), (.var 272), (.var 286), (.var 287), (.var 288), ξr0, ξr0, ξr0, ξr0, ξr0, ξr0, ξr0, ξr0, ξr0, ξr0, ξr0, ξr0, ξr5]))))) (.ite (.not (.var 273)) ξr10 (.ret [(.var 110), (.var 111), (.var 112), (.var 126), (.var 127), (.var 128), (.var 142), (.var 143), (.var 144), (.var 158), (.var 159), (.var 160), (.var 174), (.var 175), (.var 176), (.var 190), (.var 191), (.var 192), (.var 206), (.var 207), (.var 208), (.var 222), (.var 223), (.var 224), (.var 238), (.var 239), (.var 240), (.var 254), (.var 255), (.var 256), (.var 270), (.var 271), (.var 272), ξr0, ξr0, ξr0, ξr0, ξr0, ξr0, ξr0, ξr0, ξr0, ξr0, ξr0, ξr0, ξr0, ξr0, ξr0, ξr5]))))) (.ite (.not (.var 257)) ξr10 (.ret [(.var 110), (.var 111), (.var 112), (.var 126), (.var 127), (.var 128), (.var 142), (.var 143), (.var 144), (.var 158), (.var 159), (.var 160), (.var 174), (.var 175), (.var 176), (.var 190), (.var 191), (.var 192), (.var 206), (.var 207), (.var 208), (.var 222), (.var 223), (.var 224), (.var 238), (.var 239), (.var 240), (.var 254), (.var 255), (.var 256), ξr0, ξr0, ξr0, ξr0, ξr0, ξr0, ξr0, ξr0, ξr0, ξr0, ξr0, ξr0, ξr0, ξr0, ξr0, ξr0, ξr0, ξr0, ξr5]))))) (.ite (.not (.var 241)) ξr10 (.ret [(.var 110), (.var 111), (.var 112), (.var 126), (.var 127), (.var 128), (.var 142), (.var 143), (.var 144), (.var 158), (.var 159), (.var 160), (.var 174), (.var 175), (.var 176), (.var 190), (.var 191), (.var 192), (.var 206), (.var 207), (.var 208), (.var 222), (.var 223), (.var 224), (.var 238), (.var 239), (.var 240), ξr0, ξr0, ξr0, ξr0, ξr0, ξr0, ξr0, ξr0, ξr0, ξr0, ξr0, ξr0, ξr0, ξr0, ξr0, ξr0, ξr0, ξr0, ξr0, ξr0, ξr0, ξr5]))))) (.ite (.not (.var 225)) ξr10 (.ret [(.var 110), (.var 111), (.var 112), (.var 126), (.var 127), (.var 128), (.var 142), (.var 143), (.var 144), (.var 158), (.var 159), (.var 160), (.var 174), (.var 175), (.var 176), (.var 190), (.var 191), (.var 192), (.var 206), (.var 207), (.var 208), (.var 222), (.var 223), (.var 224), ξr0, ξr0, ξr0, ξr0, ξr0, ξr0, ξr0, ξr0, ξr0, ξr0, ξr0, ξr0, ξr0, ξr0, ξr0, ξr0, ξr0, ξr0, ξr0, ξr0, ξr0, ξr0, ξr0, ξr0, ξr5]))))) (.ite (.not (.var 209)) ξr10 (.ret [(.var 110), (.var 111), (.var 112), (.var 126), (.var 127), (.var 128), (.var 142), (.var 143), (.var 144), (.var 158), (.var 159), (.var 160), (.var 174), (.var 175), (.var 176), (.var 190), (.var 191), (.var 192), (.var 206), (.var 207), (.var 208), ξr0, ξr0, ξr0, ξr0, ξr0, ξr0, ξr0, ξr0, ξr0, ξr0, ξr0, ξr0, ξr0, ξr0, ξr0, ξr0, ξr0, ξr0, ξr0, ξr0, ξr0, ξr0, ξr0, ξr0, ξr0, ξr0, ξr0, ξr5]))))) (.ite (.not (.var 193)) ξr10 (.ret [(.var 110), (.var 111), (.var 112), (.var 126), (.var 127), (.var 128), (.var 142), (.var 143), (.var 144), (.var 158), (.var 159), (.var 160), (.var 174), (.var 175), (.var 176), (.var 190), (.var 191), (.var 192), ξr0, ξr0, ξr0, ξr0, ξr0, ξr0, ξr0, ξr0, ξr0, ξr0, ξr0, ξr0, ξr0, ξr0, ξr0, ξr0, ξr0, ξr0, ξr0, ξr0, ξr0, ξr0, ξr0, ξr0, ξr0, ξr0, ξr0, ξr0, ξr0, ξr0, ξr5]))))) (.ite (.not (.var 177)) ξr10 (.ret [(.var 110), (.var 111), (.var 112), (.var 126), (.var 127), (.var 128), (.var 142), (.var 143), (.var 144), (.var 158), (.var 159), (.var 160), (.var 174), (.var 175), (.var 176), ξr0, ξr0, ξr0, ξr0, ξr0, ξr0, ξr0, ξr0, ξr0, ξr0, ξr0, ξr0, ξr0, ξr0, ξr0, ξr0, ξr0, ξr0, ξr0, ξr0, ξr0, ξr0, ξr0, ξr0, ξr0, ξr0, ξr0, ξr0, ξr0, ξr0, ξr0, ξr0, ξr0, ξr5]))))) (.ite (.not (.var 161)) ξr10 (.ret [(.var 110), (.var 111), (.var 112), (.var 126), (.var 127), (.var 128), (.var 142), (.var 143), (.var 144), (.var 158), (.var 159), (.var 160), ξr0, ξr0, ξr0, ξr0, ξr0, ξr0, ξr0, ξr0, ξr0, ξr0, ξr0, ξr0, ξr0, ξr0, ξr0, ξr0, ξr0, ξr0, ξr0, ξr0, ξr0, ξr0, ξr0, ξr0, ξr0, ξr0, ξr0, ξr0, ξr0, ξr0, ξr0, ξr0, ξr0, ξr0, ξr0, ξr0, ξr5]))))) (.ite (.not (.var 145)) ξr10 (.ret [(.var 110), (.var 111), (.var 112), (.var 126), (.var 127), (.var 128), (.var 142), (.var 143), (.var 144), ξr0, ξr0, ξr0, ξr0, ξr0, ξr0, ξr0, ξr0, ξr0, ξr0, ξr0, ξr0, ξr0, ξr0, ξr0, ξr0, ξr0, ξr0, ξr0, ξr0, ξr0, ξr0, ξr0, ξr0, ξr0, ξr0, ξr0, ξr0, ξr0, ξr0, ξr0, ξr0, ξr0, ξr0, ξr0, ξr0, ξr0, ξr0, ξr0, ξr5]))))) (.ite (.not (.var 129)) ξr10 (.ret [(.var 110), (.var 111), (.var 112), (.var 126), (.var 127), (.var 128), ξr0, ξr0, ξr0, ξr0, ξr0, ξr0, ξr0, ξr0, ξr0, ξr0, ξr0, ξr0, ξr0, ξr0, ξr0, ξr0, ξr0, ξr0, ξr0, ξr0, ξr0, ξr0, ξr0, ξr0, ξr0, ξr0, ξr0, ξr0, ξr0, ξr0, ξr0, ξr0, ξr0, ξr0, ξr0, ξr0, ξr0, ξr0, ξr0, ξr0, ξr0, ξr0, ξr5]))))) (.ite (.not (.var 113)) ξr10 (.ret [(.var 110), (.var 111), (.var 112), ξr0, ξr0, ξr0, ξr0, ξr0, ξr0, ξr0, ξr0, ξr0, ξr0, ξr0, ξr0, ξr0, ξr0, ξr0, ξr0, ξr0, ξr0, ξr0, ξr0, ξr0, ξr0, ξr0, ξr0, ξr0, ξr0, ξr0, ξr0, ξr0, ξr0, ξr0, ξr0, ξr0, ξr0, ξr0, ξr0, ξr0, ξr0, ξr0, ξr0, ξr0, ξr0, ξr0, ξr0, ξr0, ξr5]))))) (.ite (.not (.ite (.var 96) (.var 97) ξr2)) ξr10 (.ret [ξr0, ξr0, ξr0, ξr0, ξr0, ξr0, ξr0, ξr0, ξr0, ξr0, ξr0, ξr0, ξr0, ξr0, ξr0, ξr0, ξr0, ξr0, ξr0, ξr0, ξr0, ξr0, ξr0, ξr0, ξr0, ξr0, ξr0, ξr0, ξr0, ξr0, ξr0, ξr0, ξr0, ξr0, ξr0, ξr0, ξr0, ξr0, ξr0, ξr0, ξr0, ξr0, ξr0, ξr0, ξr0, ξr0, ξr0, ξr0, ξr5]))))
def Fs_sTableTimes : List Fun1 := [G_sTableValid, F_l6tOf0, F_l6tOf1, F_l6tOf2, F_l6tOf3, G_l6tRow]
def F_sTableTimes : Fun1 := ofTree Fs_sTableTimes tr_sTableTimes
def G_sTableTimes : Fun1 := ⟨fun _ => True, fun ins => ttW (tabQ (fun k => q3 ins (3 * k)) && tabQ (fun k => q3 ins (48 + 3 * k))) (dotK (fun k => q3 ins (3 * k)) (fun k => q3 ins (48 + 3 * k)))⟩
theorem out_sTableTimes : (fun (g : Nat → Int) => evalT' Fs_sTableTimes tr_sTableTimes (ivs g 0 96)) = fun g =>
    nestS (fun k s => cellS' (rowF (fun k => q3 (ivs g 0 96) (3 * k)) (k / 4)) (colF (fun k => q3 (ivs g 0 96) (48 + 3 * k)) (k % 4)) s) 16 0 [] (andG (tabQ fun k => q3 (ivs g 0 96) (3 * k)) (tabQ fun k => q3 (ivs g 0 96) (48 + 3 * k))) := by kernel_rfl
theorem ttS_fin (a b : Nat → Q) : nestS (fun k s => cellS' (rowF a (k / 4)) (colF b (k % 4)) s) 16 0 [] (andG (tabQ a) (tabQ b)) = ttV (tabQ a && tabQ b) (dotK a b) := by
  rw [andG_eq]
  exact ttS_eq (d := dotK a b) (fun k s => by simp only [cellS'_eq]; exact cellS_spec _ _ s) _
theorem as_sTableTimes (ins : List Value) (ht : TypedL (intTs 96 ++ []) ins) (_ : G_sTableTimes.pre ins) : F_sTableTimes.pre ins ∧ F_sTableTimes.out ins = G_sTableTimes.out ins := by
  obtain ⟨g, r, rfl, h1, _⟩ := ints_lit 96 0 ht
  obtain rfl := ints0 h1
  rw [List.append_nil]
  refine ⟨okT_free (by intro F hF ins; simp only [Fs_sTableTimes, List.mem_cons, List.not_mem_nil, or_false] at hF; rcases hF with rfl | rfl | rfl | rfl | rfl | rfl <;> trivial) _ _ (by kernel_rfl), (evalT_sel (lens := [1]) (Lens.cons (fun _ => rfl) Lens.nil) _ _ (by kernel_rfl)).trans ((congrFun out_sTableTimes g).trans ?_)⟩
  exact (ttS_fin _ _).trans (ttV_eq _ _)
def tr_gotStokes : Tr := ξr64
def Fs_gotStokes : List Fun1 := []
def F_gotStokes : Fun1 := ofTree Fs_gotStokes tr_gotStokes
def G_gotStokes : Fun1 := ⟨fun _ => True, fun ins => gotV (b0 ins 12) ins 0 12 ++ [.bool (!b0 ins 12), .bool (b0 ins 12)]⟩
theorem out_gotStokes : (fun (g : Nat → Int) => F_gotStokes.out (ivs g 0 12 ++ [.bool true])) = fun g => G_gotStokes.out (ivs g 0 12 ++ [.bool true]) := by kernel_rfl
theorem out_gotStokes' : (fun (g : Nat → Int) => F_gotStokes.out (ivs g 0 12 ++ [.bool false])) = fun g => G_gotStokes.out (ivs g 0 12 ++ [.bool false]) := by kernel_rfl
theorem as_gotStokes (ins : List Value) (ht : TypedL (intTs 12 ++ [.bool]) ins) (_ : G_gotStokes.pre ins) : F_gotStokes.pre ins ∧ F_gotStokes.out ins = G_gotStokes.out ins := by
  obtain ⟨g, r, rfl, h1, _⟩ := ints_lit 12 0 ht
  obtain ⟨b, r2, rfl, h2⟩ := bool_cons h1
  obtain rfl := ints0 h2
  cases b
  · exact ⟨trivial, congrFun out_gotStokes' g⟩
  · exact ⟨trivial, congrFun out_gotStokes g⟩
def tr_iStokesValid : Tr := (.evs ξr65 ξr18)
def Fs_iStokesValid : List Fun1 := [G_realOk]
def F_iStokesValid : Fun1 := ofTree Fs_iStokesValid tr_iStokesValid
def G_iStokesValid : Fun1 := ⟨fun _ => True, fun ins => [.bool (stQ fun k => q3 ins (3 * k))]⟩
theorem out_iStokesValid : (fun (g : Nat → Int) => F_iStokesValid.out (ivs g 0 12)) = fun g => nestC (fun k => .bool (!realQ (q3 (ivs g 0 12) (3 * k)))) 0 4 := by kernel_rfl
theorem as_iStokesValid (ins : List Value) (ht : TypedL (intTs 12 ++ []) ins) (_ : G_iStokesValid.pre ins) : F_iStokesValid.pre ins ∧ F_iStokesValid.out ins = G_iStokesValid.out ins := by
  obtain ⟨g, r, rfl, h1, _⟩ := ints_lit 12 0 ht
  obtain rfl := ints0 h1
  rw [List.append_nil]
  refine ⟨okT_free (by intro F hF ins; simp only [Fs_iStokesValid, List.mem_singleton] at hF; rw [hF]; trivial) _ _ (by kernel_rfl), (congrFun out_iStokesValid g).trans ?_⟩
  exact nestC_eq (fun k => rfl) 4 0
def tr_iTableApply : Tr := (.evs [.call 0 ξr1 none 1, .call 1 [(.var 48), (.var 49), ξr81, ξr85, ξr79, (.var 53), (.var 54), (.var 55), (.var 56), (.var 57), (.var 58), (.var 59)] (some (.var 60)) 1, .call 2 [(.ite (.var 60) (.var 61) ξr2), ξr2] none 1] (.evs [.call 3 [ξr20, ξr27, ξr22, (.var 48), (.var 49), ξr81, (.var 62)] none 4] (.evs [.call 3 [ξr21, ξr23, ξr24, ξr85, ξr79, (.var 53), (.var 66)] none 4, .call 4 [(.var 63), (.var 64), (.var 65), (.var 67), (.var 68), (.var 69), (.var 70)] none 4] (.evs [.call 3 [ξr25, ξr29, ξr34, (.var 54), (.var 55), (.var 56), (.var 74)] none 4, .call 4 [(.var 71), (.var 72), (.var 73), (.var 75), (.var 76), (.var 77), (.var 78)] none 4] (.evs [.call 3 [ξr35, ξr26, ξr30, (.var 57), (.var 58), (.var 59), (.var 82)] none 4, .call 4 [(.var 79), (.var 80), (.var 81), (.var 83), (.var 84), (.var 85), (.var 86)] none 4] (.evs [.call 3 [ξr50, ξr53, ξr54, (.var 48), (.var 49), ξr81, (.var 90)] none 4] (.evs [.call 3 [ξr58, ξr60, ξr68, ξr85, ξr79, (.var 53), (.var 94)] none 4, .call 4 [(.var 91), (.var 92), (.var 93), (.var 95), (.var 96), (.var 97), (.var 98)] none 4] (.evs [.call 3 [ξr83, ξr80, ξr69, (.var 54), (.var 55), (.var 56), (.var 102)] none 4, .call 4 [(.var 99), (.var 100), (.var 101), (.var 103), (.var 104), (.var 105), (.var 106)] none 4] (.evs [.call 3 [ξr87, ξr82, ξr59, (.var 57), (.var 58), (.var 59), (.var 110)] none 4, .call 4 [(.var 107), (.var 108), (.var 109), (.var 111), (.var 112), (.var 113), (.var 114)] none 4] (.evs [.call 3 [ξr67, (.var 25), ξr96, (.var 48), (.var 49), ξr81, (.var 118)] none 4] (.evs [.call 3 [ξr95, ξr86, (.var 29), ξr85, ξr79, (.var 53), (.var 122)] none 4, .call 4 [(.var 119), (.var 120), (.var 121), (.var 123), (.var 124), (.var 125), (.var 126)] none 4] (.evs [.call 3 [(.var 30), (.var 31), (.var 32), (.var 54), (.var 55), (.var 56), (.var 130)] none 4, .call 4 [(.var 127), (.var 128), (.var 129), (.var 131), (.var 132), (.var 133), (.var 134)] none 4] (.evs [.call 3 [(.var 33), (.var 34), (.var 35), (.var 57), (.var 58), (.var 59), (.var 138)] none 4, .call 4 [(.var 135), (.var 136), (.var 137), (.var 139), (.var 140), (.var 141), (.var 142)] none 4] (.evs [.call 3 [(.var 36), (.var 37), (.var 38), (.var 48), (.var 49), ξr81, (.var 146)] none 4] (.evs [.call 3 [(.var 39), (.var 40), (.var 41), ξr85, ξr79, (.var 53), (.var 150)] none 4, .call 4 [(.var 147), (.var 148), (.var 149), (.var 151), (.var 152), (.var 153), (.var 154)] none 4] (.evs [.call 3 [(.var 42), (.var 43), (.var 44), (.var 54), (.var 55), (.var 56), (.var 158)] none 4, .call 4 [(.var 155), (.var 156), (.var 157), (.var 159), (.var 160), (.var 161), (.var 162)] none 4] (.evs [.call 3 [(.var 45), (.var 46), (.var 47), (.var 57), (.var 58), (.var 59), (.var 166)] none 4, .call 4 [(.var 163), (.var 164), (.var 165), (.var 167), (.var 168), (.var 169), (.var 170)] none 4] (.evs [.call 5 [(.var 87), (.var 88), (.var 89), (.var 115), (.var 116), (.var 117), (.var 143), (.var 144), (.var 145), (.var 171), (.var 172), (.var 173), (.var 174)] none 14] (.ret [(.var 175), (.var 176), (.var 177), (.var 178), (.var 179), (.var 180), (.var 181), (.var 182), (.var 183), (.var 184), (.var 185), (.var 186), (.var 187)])))))))))))))))))))
def Fs_iTableApply : List Fun1 := [G_iTableValid, G_iStokesValid, G_need, G_times, G_add, G_gotStokes]
def F_iTableApply : Fun1 := ofTree Fs_iTableApply tr_iTableApply
def apQ (ins : List Value) : Bool := tabQ (fun k => q3 ins (3 * k)) && stQ (fun k => q3 ins (48 + 3 * k))
def apD (ins : List Value) (k : Nat) : Option Q := dotQ (rowF (fun k => q3 ins (3 * k)) k) (fun k => q3 ins (48 + 3 * k))
def G_iTableApply : Fun1 := ⟨fun _ => True, fun ins => nttW 4 (apQ ins) (apD ins)⟩
def taI (a b : Nat → Q) : List Q × Bool := cellsI (fun k s => cellI (rowF a k) b s) 0 4 (false || !andG (tabQ a) (stQ b))
theorem taI_fin (a b : Nat → Q) : gotL (taI a b).2 (taI a b).1 ++ [.bool (!(taI a b).2)] = nttV 4 (tabQ a && stQ b) (fun k => dotQ (rowF a k) b) := by
  unfold taI
  rw [andG_eq, Bool.false_or]
  exact nttI_eq (d := fun k => dotQ (rowF a k) b) (fun k s => cellI_spec _ _ s) 4 _
theorem out_iTableApply : (fun (g : Nat → Int) => evalT' Fs_iTableApply tr_iTableApply (ivs g 0 60)) = fun g =>
    gotL (taI (fun k => q3 (ivs g 0 60) (3 * k)) (fun k => q3 (ivs g 0 60) (48 + 3 * k))).2 (taI (fun k => q3 (ivs g 0 60) (3 * k)) (fun k => q3 (ivs g 0 60) (48 + 3 * k))).1 ++
      [.bool (!(taI (fun k => q3 (ivs g 0 60) (3 * k)) (fun k => q3 (ivs g 0 60) (48 + 3 * k))).2)] := by kernel_rfl
theorem as_iTableApply (ins : List Value) (ht : TypedL (intTs 60 ++ []) ins) (_ : G_iTableApply.pre ins) : F_iTableApply.pre ins ∧ F_iTableApply.out ins = G_iTableApply.out ins := by
  obtain ⟨g, r, rfl, h1, _⟩ := ints_lit 60 0 ht
  obtain rfl := ints0 h1
  rw [List.append_nil]
  refine ⟨okT_free (by intro F hF ins; simp only [Fs_iTableApply, List.mem_cons, List.not_mem_nil, or_false] at hF; rcases hF with rfl | rfl | rfl | rfl | rfl | rfl <;> trivial) _ _ (by kernel_rfl), (evalT_sel (lens := [1, 1]) (Lens.cons (fun _ => rfl) (Lens.cons (fun _ => rfl) Lens.nil)) _ _ (by kernel_rfl)).trans ((congrFun out_iTableApply g).trans ?_)⟩
  exact (taI_fin _ _).trans (nttV_eq _ _ _)
def tr_l3Inner : Tr := (.evs [.call 0 [ξr20, ξr27, ξr22, ξr21, ξr23, ξr24] none 4] (.evs [.call 0 [ξr25, ξr29, ξr34, ξr35, ξr26, ξr30] none 4] (.ite (.ite (.not ξr58) ξr5 (.not ξr80)) ξr36 (.evs [.call 1 [ξr50, ξr53, ξr54, ξr60, ξr68, ξr83] none 4] (.ret [ξr69, ξr87, ξr82, ξr59])))))
def Fs_l3Inner : List Fun1 := [G_sFracTimes, G_sFracAdd]
def F_l3Inner : Fun1 := ofTree Fs_l3Inner tr_l3Inner
def G_l3Inner : Fun1 := ⟨fun _ => True, fun ins => fr4 (mixQ (q3 ins 0) (q3 ins 3) (q3 ins 6) (q3 ins 9))⟩
theorem as_l3Inner (ins : List Value) (ht : TypedL (intTs 12 ++ []) ins) (_ : G_l3Inner.pre ins) : F_l3Inner.pre ins ∧ F_l3Inner.out ins = G_l3Inner.out ins := by
  obtain ⟨g, r, rfl, h1, _⟩ := ints_lit 12 0 ht
  obtain rfl := ints0 h1
  rw [List.append_nil]
  simp only [ivs, F_l3Inner, G_l3Inner, tr_l3Inner, Fs_l3Inner, G_sFracTimes, G_sFracAdd, mixQ, q3, fr4, ofTree, okT, okE, evalT, evalE, evsIn, ev, callF, preF, hasF, needs, i0, b0, toI_int, toB_bool, List.getD_cons_zero, List.getD_cons_succ, List.cons_append, List.nil_append, List.replicate, if_true, if_false, Bool.false_eq_true, and_true, true_and, implies_true, forall_const, false_implies, cmpI, Bool.not_true, Bool.not_false, Bool.true_and, Bool.false_and, Bool.and_true, Bool.and_false, reduceIte, List.append_nil, reduceCtorEq]
  cases h1 : timesQ (g 0, g (0 + 1), g (0 + 1 + 1)) (g (0 + 1 + 1 + 1), g (0 + 1 + 1 + 1 + 1), g (0 + 1 + 1 + 1 + 1 + 1)) with
  | none => simp [zq]
  | some x =>
    cases h2 : timesQ (g (0 + 1 + 1 + 1 + 1 + 1 + 1), g (0 + 1 + 1 + 1 + 1 + 1 + 1 + 1), g (0 + 1 + 1 + 1 + 1 + 1 + 1 + 1 + 1)) (g (0 + 1 + 1 + 1 + 1 + 1 + 1 + 1 + 1 + 1), g (0 + 1 + 1 + 1 + 1 + 1 + 1 + 1 + 1 + 1 + 1), g (0 + 1 + 1 + 1 + 1 + 1 + 1 + 1 + 1 + 1 + 1 + 1)) with
    | none => simp [zq]
    | some y => simp
def tr_iMatValid : Tr := (.evs ξr65 ξr18)
def Fs_iMatValid : List Fun1 := [G_iFracValid]
def F_iMatValid : Fun1 := ofTree Fs_iMatValid tr_iMatValid
def G_iMatValid : Fun1 := ⟨fun _ => True, fun ins => [.bool (matQ fun k => q3 ins (3 * k))]⟩
theorem out_iMatValid : (fun (g : Nat → Int) => F_iMatValid.out (ivs g 0 12)) = fun g => nestC (fun k => .bool (!validQ (q3 (ivs g 0 12) (3 * k)))) 0 4 := by kernel_rfl
theorem as_iMatValid (ins : List Value) (ht : TypedL (intTs 12 ++ []) ins) (_ : G_iMatValid.pre ins) : F_iMatValid.pre ins ∧ F_iMatValid.out ins = G_iMatValid.out ins := by
  obtain ⟨g, r, rfl, h1, _⟩ := ints_lit 12 0 ht
  obtain rfl := ints0 h1
  rw [List.append_nil]
  refine ⟨okT_free (by intro F hF ins; simp only [Fs_iMatValid, List.mem_singleton] at hF; rw [hF]; trivial) _ _ (by kernel_rfl), (congrFun out_iMatValid g).trans ?_⟩
  exact nestC_eq (fun k => rfl) 4 0
def tr_sMatValid : Tr := (.evs ξr65 ξr18)
def Fs_sMatValid : List Fun1 := [G_sFracValid]
def F_sMatValid : Fun1 := ofTree Fs_sMatValid tr_sMatValid
def G_sMatValid : Fun1 := ⟨fun _ => True, fun ins => [.bool (matQ fun k => q3 ins (3 * k))]⟩
theorem out_sMatValid : (fun (g : Nat → Int) => F_sMatValid.out (ivs g 0 12)) = fun g => nestC (fun k => .bool (!validQ (q3 (ivs g 0 12) (3 * k)))) 0 4 := by kernel_rfl
theorem as_sMatValid (ins : List Value) (ht : TypedL (intTs 12 ++ []) ins) (_ : G_sMatValid.pre ins) : F_sMatValid.pre ins ∧ F_sMatValid.out ins = G_sMatValid.out ins := by
  obtain ⟨g, r, rfl, h1, _⟩ := ints_lit 12 0 ht
  obtain rfl := ints0 h1
  rw [List.append_nil]
  refine ⟨okT_free (by intro F hF ins; simp only [Fs_sMatValid, List.mem_singleton] at hF; rw [hF]; trivial) _ _ (by kernel_rfl), (congrFun out_sMatValid g).trans ?_⟩
  exact nestC_eq (fun k => rfl) 4 0
def tr_iFracLess : Tr := (.evs ξr32 (.ite ξr98 ξr36 (.evs [.call 1 [ξr97, (.ar .sub .i64 (.ar .mul .i64 ξr27 ξr24) (.ar .mul .i64 ξr23 ξr22)), (.ar .mul .i64 ξr22 ξr24)] none 4] (.ret [ξr34, ξr35, ξr26, ξr30]))))
def Fs_iFracLess : List Fun1 := [G_iFracValid, G_lowest]
def F_iFracLess : Fun1 := ofTree Fs_iFracLess tr_iFracLess
def G_iFracLess : Fun1 := ⟨fun _ => True, fun ins => fr4 (lessQ (q3 ins 0) (q3 ins 3))⟩
theorem as_iFracLess (ins : List Value) (ht : TypedL [.int .i64, .int .i64, .int .i64, .int .i64, .int .i64, .int .i64] ins) (_ : G_iFracLess.pre ins) : F_iFracLess.pre ins ∧ F_iFracLess.out ins = G_iFracLess.out ins := by
  obtain ⟨a, b, c, x, y, z, rfl, _⟩ := ints6 ht
  simp only [F_iFracLess, G_iFracLess, tr_iFracLess, Fs_iFracLess, G_iFracValid, G_lowest, lessQ, validQ, q3, arI, ofTree, okT, okE, evalT, evalE, evsIn, ev, callF, preF, hasF, needs, i0, b0, toI_int, toB_bool, List.getD_cons_zero, List.getD_cons_succ, List.cons_append, List.nil_append, List.replicate, if_true, if_false, Bool.false_eq_true, and_true, true_and, implies_true, forall_const, false_implies, cmpI, Bool.not_true, Bool.not_false, Bool.true_and, Bool.false_and, Bool.and_true, Bool.and_false, reduceIte, List.append_nil, reduceCtorEq]
  cases h : validI a b c
  · simp [h, fr4, zq]
  · cases k : validI x y z
    · simp [h, k, fr4, zq]
    · obtain ⟨e1, e2, e3, e4, e5, e6, e7, e8, e9, l1, l2⟩ := sum_facts h k
      simp only [h, k, e1, e2, e3, e4, e5, e8, e9, ofTree, okT, okE, evalT, evalE, evsIn, ev, callF, preF, hasF, needs, i0, b0, toI_int, toB_bool, List.getD_cons_zero, List.getD_cons_succ, List.cons_append, List.nil_append, List.replicate, if_true, if_false, Bool.false_eq_true, and_true, true_and, implies_true, forall_const, false_implies, cmpI, Bool.not_true, Bool.not_false, Bool.true_and, Bool.false_and, Bool.and_true, Bool.and_false, reduceIte, List.append_nil, reduceCtorEq]
      simp [fr4, l2]
def tr_iFracMirror : Tr := (.evs ξr65 (.ite (.not ξr21) ξr36 (.ret [ξr20, (.ar .sub .i64 ξr0 ξr27), ξr22, ξr5])))
def Fs_iFracMirror : List Fun1 := [G_iFracValid]
def F_iFracMirror : Fun1 := ofTree Fs_iFracMirror tr_iFracMirror
def G_iFracMirror : Fun1 := ⟨fun _ => True, fun ins => fr4 (mirQ (q3 ins 0))⟩
theorem as_iFracMirror (ins : List Value) (ht : TypedL [.int .i64, .int .i64, .int .i64] ins) (_ : G_iFracMirror.pre ins) : F_iFracMirror.pre ins ∧ F_iFracMirror.out ins = G_iFracMirror.out ins := by
  obtain ⟨a, b, c, rfl, _⟩ := ints3 ht
  simp only [F_iFracMirror, G_iFracMirror, tr_iFracMirror, Fs_iFracMirror, G_iFracValid, mirQ, validQ, q3, arI, ofTree, okT, okE, evalT, evalE, evsIn, ev, callF, preF, hasF, needs, i0, b0, toI_int, toB_bool, List.getD_cons_zero, List.getD_cons_succ, List.cons_append, List.nil_append, List.replicate, if_true, if_false, Bool.false_eq_true, and_true, true_and, implies_true, forall_const, false_implies, cmpI, Bool.not_true, Bool.not_false, Bool.true_and, Bool.false_and, Bool.and_true, Bool.and_false, reduceIte, List.append_nil, reduceCtorEq]
  cases h : validI a b c
  · simp [fr4, zq]
  · obtain ⟨b1, b2, b3⟩ := valid_bounds h
    have e : IntKind.i64.wrap (-b) = -b := wrap_in (by omega)
    simp [fr4, e]
def tr_sFracMirror : Tr := (.evs ξr65 (.ite (.not ξr21) ξr36 (.ret [ξr20, (.ar .sub .i64 ξr0 ξr27), ξr22, ξr5])))
def Fs_sFracMirror : List Fun1 := [G_sFracValid]
def F_sFracMirror : Fun1 := ofTree Fs_sFracMirror tr_sFracMirror
def G_sFracMirror : Fun1 := ⟨fun _ => True, fun ins => fr4 (mirQ (q3 ins 0))⟩
theorem as_sFracMirror (ins : List Value) (ht : TypedL [.int .i64, .int .i64, .int .i64] ins) (_ : G_sFracMirror.pre ins) : F_sFracMirror.pre ins ∧ F_sFracMirror.out ins = G_sFracMirror.out ins := by
  obtain ⟨a, b, c, rfl, _⟩ := ints3 ht
  simp only [F_sFracMirror, G_sFracMirror, tr_sFracMirror, Fs_sFracMirror, G_sFracValid, mirQ, validQ, q3, arI, ofTree, okT, okE, evalT, evalE, evsIn, ev, callF, preF, hasF, needs, i0, b0, toI_int, toB_bool, List.getD_cons_zero, List.getD_cons_succ, List.cons_append, List.nil_append, List.replicate, if_true, if_false, Bool.false_eq_true, and_true, true_and, implies_true, forall_const, false_implies, cmpI, Bool.not_true, Bool.not_false, Bool.true_and, Bool.false_and, Bool.and_true, Bool.and_false, reduceIte, List.append_nil, reduceCtorEq]
  cases h : validI a b c
  · simp [fr4, zq]
  · obtain ⟨b1, b2, b3⟩ := valid_bounds h
    have e : IntKind.i64.wrap (-b) = -b := wrap_in (by omega)
    simp [fr4, e]
def tr_iFracPower : Tr := (.evs ξr65 (.ite (.not ξr21) ξr36 (.evs [.call 1 [(.ar .add .i64 (.ar .mul .i64 ξr20 ξr20) (.ar .mul .i64 ξr27 ξr27)), ξr0, (.ar .mul .i64 ξr22 ξr22)] none 4] (.ret [ξr23, ξr24, ξr25, ξr29]))))
def Fs_iFracPower : List Fun1 := [G_iFracValid, G_lowest]
def F_iFracPower : Fun1 := ofTree Fs_iFracPower tr_iFracPower
def G_iFracPower : Fun1 := ⟨fun _ => True, fun ins => fr4 (powQ (q3 ins 0))⟩
theorem as_iFracPower (ins : List Value) (ht : TypedL [.int .i64, .int .i64, .int .i64] ins) (_ : G_iFracPower.pre ins) : F_iFracPower.pre ins ∧ F_iFracPower.out ins = G_iFracPower.out ins := by
  obtain ⟨a, b, c, rfl, _⟩ := ints3 ht
  simp only [F_iFracPower, G_iFracPower, tr_iFracPower, Fs_iFracPower, G_iFracValid, G_lowest, powQ, validQ, q3, arI, ofTree, okT, okE, evalT, evalE, evsIn, ev, callF, preF, hasF, needs, i0, b0, toI_int, toB_bool, List.getD_cons_zero, List.getD_cons_succ, List.cons_append, List.nil_append, List.replicate, if_true, if_false, Bool.false_eq_true, and_true, true_and, implies_true, forall_const, false_implies, cmpI, Bool.not_true, Bool.not_false, Bool.true_and, Bool.false_and, Bool.and_true, Bool.and_false, reduceIte, List.append_nil, reduceCtorEq]
  cases h : validI a b c
  · simp [fr4, zq]
  · obtain ⟨b1, b2, b3⟩ := valid_bounds h
    have m1 := mulB b1 b1
    have m2 := mulB b2 b2
    have m3 := denB b3 b3
    have p1 := sq_nonneg a
    have p2 := sq_nonneg b
    have e1 : IntKind.i64.wrap (a * a) = a * a := wrap_in (by omega)
    have e2 : IntKind.i64.wrap (b * b) = b * b := wrap_in (by omega)
    have e3 : IntKind.i64.wrap (c * c) = c * c := wrap_in (by omega)
    have e4 : IntKind.i64.wrap (a * a + b * b) = a * a + b * b := wrap_in (by omega)
    have l : lowOk (a * a + b * b) 0 (c * c) := by unfold lowOk; omega
    simp [fr4, e1, e2, e3, e4, l]
def tr_iHalf : Tr := (.evs [.call 0 ξr17 none 1, .call 0 [ξr77, ξr0, ξr3] (some (.not (.not ξr21))) 1] (.ite (.ite (.ite (.not ξr21) ξr5 (.not ξr23)) ξr5 (.ite ξr2 (.ite ξr5 ξr5 ξr2) ξr2)) ξr36 (.evs [.call 1 [ξr77, ξr0, (.int .i64 4)] none 4] (.ite (.not ξr34) ξr36 (.evs [.call 2 [ξr20, ξr27, ξr22, ξr24, ξr25, ξr29] none 4] (.ret [ξr35, ξr26, ξr30, ξr50]))))))
def Fs_iHalf : List Fun1 := [G_iFracValid, G_lowest, G_iFracTimes]
def F_iHalf : Fun1 := ofTree Fs_iHalf tr_iHalf
def G_iHalf : Fun1 := ⟨fun _ => True, fun ins => fr4 (halfQ (q3 ins 0))⟩
theorem as_iHalf (ins : List Value) (ht : TypedL [.int .i64, .int .i64, .int .i64] ins) (_ : G_iHalf.pre ins) : F_iHalf.pre ins ∧ F_iHalf.out ins = G_iHalf.out ins := by
  obtain ⟨a, b, c, rfl, _⟩ := ints3 ht
  have h2 : validI 2 0 1 = true := by decide
  have h3 : lowI 2 0 4 = some (1, 0, 2) := by decide
  have l : lowOk 2 0 4 := by unfold lowOk; omega
  simp only [F_iHalf, G_iHalf, tr_iHalf, Fs_iHalf, G_iFracValid, G_lowest, G_iFracTimes, halfQ, validQ, q3, fr4, h2, h3, ofTree, okT, okE, evalT, evalE, evsIn, ev, callF, preF, hasF, needs, i0, b0, toI_int, toB_bool, List.getD_cons_zero, List.getD_cons_succ, List.cons_append, List.nil_append, List.replicate, if_true, if_false, Bool.false_eq_true, and_true, true_and, implies_true, forall_const, false_implies, cmpI, Bool.not_true, Bool.not_false, Bool.true_and, Bool.false_and, Bool.and_true, Bool.and_false, reduceIte, List.append_nil, reduceCtorEq]
  cases h : validI a b c
  · have : timesQ (a, b, c) (1, 0, 2) = none := by simp [timesQ, validQ, h]
    simp [this, zq]
  · simp [l]
def tr_whole2 : Tr := (.ret [])
def Fs_whole2 : List Fun1 := []
def F_whole2 : Fun1 := ofTree Fs_whole2 tr_whole2
def tr_less : Tr := ξr44
def Fs_less : List Fun1 := [G_iFracLess, F_keep]
def F_less : Fun1 := ofTree Fs_less tr_less
def G_less : Fun1 := ⟨fun _ => True, fun ins => fr3 (lessQ (q3 ins 0) (q3 ins 3)) ++ [.bool (b0 ins 6 || !(lessQ (q3 ins 0) (q3 ins 3)).isSome)]⟩
theorem as_less (ins : List Value) (ht : TypedL [.int .i64, .int .i64, .int .i64, .int .i64, .int .i64, .int .i64, .bool] ins) (_ : G_less.pre ins) : F_less.pre ins ∧ F_less.out ins = G_less.out ins := by
  obtain ⟨a, r1, rfl, _, ht1⟩ := int_cons ht
  obtain ⟨b, r2, rfl, _, ht2⟩ := int_cons ht1
  obtain ⟨c, r3, rfl, _, ht3⟩ := int_cons ht2
  obtain ⟨x, r4, rfl, _, ht4⟩ := int_cons ht3
  obtain ⟨y, r5, rfl, _, ht5⟩ := int_cons ht4
  obtain ⟨z, r6, rfl, _, ht6⟩ := int_cons ht5
  obtain ⟨t, r7, rfl, ht7⟩ := bool_cons ht6
  obtain rfl := ints0 ht7
  simp only [F_less, G_less, tr_less, Fs_less, G_iFracLess, F_keep, tr_keep, Fs_keep, q3, fr4, fr3, ofTree, okT, okE, evalT, evalE, evsIn, ev, callF, preF, hasF, needs, i0, b0, toI_int, toB_bool, List.getD_cons_zero, List.getD_cons_succ, List.cons_append, List.nil_append, List.replicate, if_true, if_false, Bool.false_eq_true, and_true, true_and, implies_true, forall_const, false_implies, cmpI, Bool.not_true, Bool.not_false, Bool.true_and, Bool.false_and, Bool.and_true, Bool.and_false, reduceIte, List.append_nil, reduceCtorEq]
  cases h : lessQ (a, b, c) (x, y, z) <;> simp [zq]
def tr_mirror : Tr := ξr61
def Fs_mirror : List Fun1 := [G_iFracMirror, F_keep]
def F_mirror : Fun1 := ofTree Fs_mirror tr_mirror
def G_mirror : Fun1 := ⟨fun _ => True, fun ins => fr3 (mirQ (q3 ins 0)) ++ [.bool (b0 ins 3 || !(mirQ (q3 ins 0)).isSome)]⟩
theorem as_mirror (ins : List Value) (ht : TypedL [.int .i64, .int .i64, .int .i64, .bool] ins) (_ : G_mirror.pre ins) : F_mirror.pre ins ∧ F_mirror.out ins = G_mirror.out ins := by
  obtain ⟨a, r1, rfl, _, ht1⟩ := int_cons ht
  obtain ⟨b, r2, rfl, _, ht2⟩ := int_cons ht1
  obtain ⟨c, r3, rfl, _, ht3⟩ := int_cons ht2
  obtain ⟨t, r7, rfl, ht7⟩ := bool_cons ht3
  obtain rfl := ints0 ht7
  simp only [F_mirror, G_mirror, tr_mirror, Fs_mirror, G_iFracMirror, F_keep, tr_keep, Fs_keep, q3, fr4, fr3, ofTree, okT, okE, evalT, evalE, evsIn, ev, callF, preF, hasF, needs, i0, b0, toI_int, toB_bool, List.getD_cons_zero, List.getD_cons_succ, List.cons_append, List.nil_append, List.replicate, if_true, if_false, Bool.false_eq_true, and_true, true_and, implies_true, forall_const, false_implies, cmpI, Bool.not_true, Bool.not_false, Bool.true_and, Bool.false_and, Bool.and_true, Bool.and_false, reduceIte, List.append_nil, reduceCtorEq]
  cases h : mirQ (a, b, c) <;> simp [zq]
def tr_power : Tr := ξr61
def Fs_power : List Fun1 := [G_iFracPower, F_keep]
def F_power : Fun1 := ofTree Fs_power tr_power
def G_power : Fun1 := ⟨fun _ => True, fun ins => fr3 (powQ (q3 ins 0)) ++ [.bool (b0 ins 3 || !(powQ (q3 ins 0)).isSome)]⟩
theorem as_power (ins : List Value) (ht : TypedL [.int .i64, .int .i64, .int .i64, .bool] ins) (_ : G_power.pre ins) : F_power.pre ins ∧ F_power.out ins = G_power.out ins := by
  obtain ⟨a, r1, rfl, _, ht1⟩ := int_cons ht
  obtain ⟨b, r2, rfl, _, ht2⟩ := int_cons ht1
  obtain ⟨c, r3, rfl, _, ht3⟩ := int_cons ht2
  obtain ⟨t, r7, rfl, ht7⟩ := bool_cons ht3
  obtain rfl := ints0 ht7
  simp only [F_power, G_power, tr_power, Fs_power, G_iFracPower, F_keep, tr_keep, Fs_keep, q3, fr4, fr3, ofTree, okT, okE, evalT, evalE, evsIn, ev, callF, preF, hasF, needs, i0, b0, toI_int, toB_bool, List.getD_cons_zero, List.getD_cons_succ, List.cons_append, List.nil_append, List.replicate, if_true, if_false, Bool.false_eq_true, and_true, true_and, implies_true, forall_const, false_implies, cmpI, Bool.not_true, Bool.not_false, Bool.true_and, Bool.false_and, Bool.and_true, Bool.and_false, reduceIte, List.append_nil, reduceCtorEq]
  cases h : powQ (a, b, c) <;> simp [zq]
def tr_overTwo : Tr := ξr61
def Fs_overTwo : List Fun1 := [G_iHalf, F_keep]
def F_overTwo : Fun1 := ofTree Fs_overTwo tr_overTwo
def G_overTwo : Fun1 := ⟨fun _ => True, fun ins => fr3 (halfQ (q3 ins 0)) ++ [.bool (b0 ins 3 || !(halfQ (q3 ins 0)).isSome)]⟩
theorem as_overTwo (ins : List Value) (ht : TypedL [.int .i64, .int .i64, .int .i64, .bool] ins) (_ : G_overTwo.pre ins) : F_overTwo.pre ins ∧ F_overTwo.out ins = G_overTwo.out ins := by
  obtain ⟨a, r1, rfl, _, ht1⟩ := int_cons ht
  obtain ⟨b, r2, rfl, _, ht2⟩ := int_cons ht1
  obtain ⟨c, r3, rfl, _, ht3⟩ := int_cons ht2
  obtain ⟨t, r7, rfl, ht7⟩ := bool_cons ht3
  obtain rfl := ints0 ht7
  simp only [F_overTwo, G_overTwo, tr_overTwo, Fs_overTwo, G_iHalf, F_keep, tr_keep, Fs_keep, q3, fr4, fr3, ofTree, okT, okE, evalT, evalE, evsIn, ev, callF, preF, hasF, needs, i0, b0, toI_int, toB_bool, List.getD_cons_zero, List.getD_cons_succ, List.cons_append, List.nil_append, List.replicate, if_true, if_false, Bool.false_eq_true, and_true, true_and, implies_true, forall_const, false_implies, cmpI, Bool.not_true, Bool.not_false, Bool.true_and, Bool.false_and, Bool.and_true, Bool.and_false, reduceIte, List.append_nil, reduceCtorEq]
  cases h : halfQ (a, b, c) <;> simp [zq]
def tr_real : Tr := (.evs ξr65 (.ite (.not ξr23) (.ret [ξr0, ξr0, ξr0, ξr5]) (.evs [.call 1 [ξr20, ξr0, ξr22] none 4, .call 2 [ξr24, ξr25, ξr29, ξr34, ξr21] none 4] (.ret [ξr35, ξr26, ξr30, ξr50]))))
def Fs_real : List Fun1 := [G_iFracValid, G_lowest, F_keep]
def F_real : Fun1 := ofTree Fs_real tr_real
def G_real : Fun1 := ⟨fun _ => True, fun ins => fr3 (reQ (q3 ins 0)) ++ [.bool (b0 ins 3 || !(reQ (q3 ins 0)).isSome)]⟩
theorem as_real (ins : List Value) (ht : TypedL [.int .i64, .int .i64, .int .i64, .bool] ins) (_ : G_real.pre ins) : F_real.pre ins ∧ F_real.out ins = G_real.out ins := by
  obtain ⟨a, r1, rfl, _, ht1⟩ := int_cons ht
  obtain ⟨b, r2, rfl, _, ht2⟩ := int_cons ht1
  obtain ⟨c, r3, rfl, _, ht3⟩ := int_cons ht2
  obtain ⟨t, r7, rfl, ht7⟩ := bool_cons ht3
  obtain rfl := ints0 ht7
  simp only [F_real, G_real, tr_real, Fs_real, G_iFracValid, G_lowest, F_keep, tr_keep, Fs_keep, reQ, validQ, q3, fr4, fr3, ofTree, okT, okE, evalT, evalE, evsIn, ev, callF, preF, hasF, needs, i0, b0, toI_int, toB_bool, List.getD_cons_zero, List.getD_cons_succ, List.cons_append, List.nil_append, List.replicate, if_true, if_false, Bool.false_eq_true, and_true, true_and, implies_true, forall_const, false_implies, cmpI, Bool.not_true, Bool.not_false, Bool.true_and, Bool.false_and, Bool.and_true, Bool.and_false, reduceIte, List.append_nil, reduceCtorEq]
  cases h : validI a b c
  · simp [zq]
  · obtain ⟨b1, b2, b3⟩ := valid_bounds h
    have l : lowOk a 0 c := by unfold lowOk; omega
    cases k : lowI a 0 c <;> simp [zq, l, k]
def tr_imag : Tr := (.evs ξr65 (.ite (.not ξr23) (.ret [ξr0, ξr0, ξr0, ξr5]) (.evs [.call 1 [ξr27, ξr0, ξr22] none 4, .call 2 [ξr24, ξr25, ξr29, ξr34, ξr21] none 4] (.ret [ξr35, ξr26, ξr30, ξr50]))))
def Fs_imag : List Fun1 := [G_iFracValid, G_lowest, F_keep]
def F_imag : Fun1 := ofTree Fs_imag tr_imag
def G_imag : Fun1 := ⟨fun _ => True, fun ins => fr3 (imQ (q3 ins 0)) ++ [.bool (b0 ins 3 || !(imQ (q3 ins 0)).isSome)]⟩
theorem as_imag (ins : List Value) (ht : TypedL [.int .i64, .int .i64, .int .i64, .bool] ins) (_ : G_imag.pre ins) : F_imag.pre ins ∧ F_imag.out ins = G_imag.out ins := by
  obtain ⟨a, r1, rfl, _, ht1⟩ := int_cons ht
  obtain ⟨b, r2, rfl, _, ht2⟩ := int_cons ht1
  obtain ⟨c, r3, rfl, _, ht3⟩ := int_cons ht2
  obtain ⟨t, r7, rfl, ht7⟩ := bool_cons ht3
  obtain rfl := ints0 ht7
  simp only [F_imag, G_imag, tr_imag, Fs_imag, G_iFracValid, G_lowest, F_keep, tr_keep, Fs_keep, imQ, validQ, q3, fr4, fr3, ofTree, okT, okE, evalT, evalE, evsIn, ev, callF, preF, hasF, needs, i0, b0, toI_int, toB_bool, List.getD_cons_zero, List.getD_cons_succ, List.cons_append, List.nil_append, List.replicate, if_true, if_false, Bool.false_eq_true, and_true, true_and, implies_true, forall_const, false_implies, cmpI, Bool.not_true, Bool.not_false, Bool.true_and, Bool.false_and, Bool.and_true, Bool.and_false, reduceIte, List.append_nil, reduceCtorEq]
  cases h : validI a b c
  · simp [zq]
  · obtain ⟨b1, b2, b3⟩ := valid_bounds h
    have l : lowOk b 0 c := by unfold lowOk; omega
    cases k : lowI b 0 c <;> simp [zq, l, k]
def tr_iPair : Tr := (.evs [.call 0 [ξr21, ξr23, ξr24, ξr25] none 4, .call 1 [ξr20, ξr27, ξr22, ξr29, ξr34, ξr35, ξr26] none 4] (.ret [ξr30, ξr50, ξr53, ξr54]))
def Fs_iPair : List Fun1 := [G_mirror, G_times]
def F_iPair : Fun1 := ofTree Fs_iPair tr_iPair
def G_iPair : Fun1 := ⟨fun _ => True, fun ins => fr3 (pairQ (q3 ins 0) (q3 ins 3)) ++ [.bool (b0 ins 6 || !(pairQ (q3 ins 0) (q3 ins 3)).isSome)]⟩
theorem as_iPair (ins : List Value) (ht : TypedL [.int .i64, .int .i64, .int .i64, .int .i64, .int .i64, .int .i64, .bool] ins) (_ : G_iPair.pre ins) : F_iPair.pre ins ∧ F_iPair.out ins = G_iPair.out ins := by
  obtain ⟨a, r1, rfl, _, ht1⟩ := int_cons ht
  obtain ⟨b, r2, rfl, _, ht2⟩ := int_cons ht1
  obtain ⟨c, r3, rfl, _, ht3⟩ := int_cons ht2
  obtain ⟨x, r4, rfl, _, ht4⟩ := int_cons ht3
  obtain ⟨y, r5, rfl, _, ht5⟩ := int_cons ht4
  obtain ⟨z, r6, rfl, _, ht6⟩ := int_cons ht5
  obtain ⟨t, r7, rfl, ht7⟩ := bool_cons ht6
  obtain rfl := ints0 ht7
  simp only [F_iPair, G_iPair, tr_iPair, Fs_iPair, G_mirror, G_times, pairQ, q3, fr3, ofTree, okT, okE, evalT, evalE, evsIn, ev, callF, preF, hasF, needs, i0, b0, toI_int, toB_bool, List.getD_cons_zero, List.getD_cons_succ, List.cons_append, List.nil_append, List.replicate, if_true, if_false, Bool.false_eq_true, and_true, true_and, implies_true, forall_const, false_implies, cmpI, Bool.not_true, Bool.not_false, Bool.true_and, Bool.false_and, Bool.and_true, Bool.and_false, reduceIte, List.append_nil, reduceCtorEq]
  cases h : mirQ (x, y, z)
  · simp [zq, show timesQ (a, b, c) (0, 0, 0) = none from times_zq' _]
  · simp
def tr_iHalfS : Tr := (.evs [.call 0 [] none 0, .call 1 [ξr20, ξr27, ξr22, ξr21] none 4] (.ret [ξr23, ξr24, ξr25, ξr29]))
def Fs_iHalfS : List Fun1 := [F_whole2, G_overTwo]
def F_iHalfS : Fun1 := ofTree Fs_iHalfS tr_iHalfS
def G_iHalfS : Fun1 := G_overTwo
theorem as_iHalfS (ins : List Value) (ht : TypedL [.int .i64, .int .i64, .int .i64, .bool] ins) (_ : G_iHalfS.pre ins) : F_iHalfS.pre ins ∧ F_iHalfS.out ins = G_iHalfS.out ins := by
  obtain ⟨a, r1, rfl, _, ht1⟩ := int_cons ht
  obtain ⟨b, r2, rfl, _, ht2⟩ := int_cons ht1
  obtain ⟨c, r3, rfl, _, ht3⟩ := int_cons ht2
  obtain ⟨t, r7, rfl, ht7⟩ := bool_cons ht3
  obtain rfl := ints0 ht7
  exact ⟨⟨⟨trivial, trivial, trivial⟩, trivial⟩, rfl⟩
def tr_l2SumP : Tr := (.evs ξr32 (.ite ξr98 ξr36 (.evs [.call 1 [(.ar .add .i64 (.ar .mul .i64 ξr20 ξr24) (.ar .mul .i64 (.ar .mul .i64 ξr3 ξr21) ξr22)), (.ar .add .i64 (.ar .mul .i64 ξr27 ξr24) (.ar .mul .i64 (.ar .mul .i64 ξr3 ξr23) ξr22)), (.ar .mul .i64 ξr22 ξr24)] none 4] (.ret [ξr34, ξr35, ξr26, ξr30]))))
def Fs_l2SumP : List Fun1 := [G_sFracValid, G_l2Low]
def F_l2SumP : Fun1 := ofTree Fs_l2SumP tr_l2SumP
def G_l2SumP : Fun1 := ⟨fun _ => True, fun ins => fr4 (addQ (q3 ins 0) (q3 ins 3))⟩
theorem as_l2SumP (ins : List Value) (ht : TypedL [.int .i64, .int .i64, .int .i64, .int .i64, .int .i64, .int .i64] ins) (_ : G_l2SumP.pre ins) : F_l2SumP.pre ins ∧ F_l2SumP.out ins = G_l2SumP.out ins := by
  obtain ⟨a, b, c, x, y, z, rfl, _⟩ := ints6 ht
  cases h : validI a b c
  · simp only [F_l2SumP, G_l2SumP, tr_l2SumP, Fs_l2SumP, G_sFracValid, G_l2Low, addQ, validQ, q3, arI, h, ofTree, okT, okE, evalT, evalE, evsIn, ev, callF, preF, hasF, needs, i0, b0, toI_int, toB_bool, List.getD_cons_zero, List.getD_cons_succ, List.cons_append, List.nil_append, List.replicate, if_true, if_false, Bool.false_eq_true, and_true, true_and, implies_true, forall_const, false_implies, cmpI, Bool.not_true, Bool.not_false, Bool.true_and, Bool.false_and, Bool.and_true, Bool.and_false, reduceIte, List.append_nil, reduceCtorEq]
    simp [fr4, zq]
  · cases k : validI x y z
    · simp only [F_l2SumP, G_l2SumP, tr_l2SumP, Fs_l2SumP, G_sFracValid, G_l2Low, addQ, validQ, q3, arI, h, k, ofTree, okT, okE, evalT, evalE, evsIn, ev, callF, preF, hasF, needs, i0, b0, toI_int, toB_bool, List.getD_cons_zero, List.getD_cons_succ, List.cons_append, List.nil_append, List.replicate, if_true, if_false, Bool.false_eq_true, and_true, true_and, implies_true, forall_const, false_implies, cmpI, Bool.not_true, Bool.not_false, Bool.true_and, Bool.false_and, Bool.and_true, Bool.and_false, reduceIte, List.append_nil, reduceCtorEq]
      simp [fr4, zq]
    · obtain ⟨e1, e2, e3, e4, e5, e6, e7, e8, e9, l1, l2⟩ := sum_facts h k
      obtain ⟨k1, k2, _⟩ := valid_bounds k
      have u1 : IntKind.i64.wrap (1 * x) = x := by rw [Int.one_mul]; exact wrap_in (by omega)
      have u2 : IntKind.i64.wrap (1 * y) = y := by rw [Int.one_mul]; exact wrap_in (by omega)
      simp only [F_l2SumP, G_l2SumP, tr_l2SumP, Fs_l2SumP, G_sFracValid, G_l2Low, addQ, validQ, q3, arI, h, k, u1, u2, e1, e2, e3, e4, e5, e6, e7, ofTree, okT, okE, evalT, evalE, evsIn, ev, callF, preF, hasF, needs, i0, b0, toI_int, toB_bool, List.getD_cons_zero, List.getD_cons_succ, List.cons_append, List.nil_append, List.replicate, if_true, if_false, Bool.false_eq_true, and_true, true_and, implies_true, forall_const, false_implies, cmpI, Bool.not_true, Bool.not_false, Bool.true_and, Bool.false_and, Bool.and_true, Bool.and_false, reduceIte, List.append_nil, reduceCtorEq]
      simp [fr4, l1]
def tr_l2SumM : Tr := (.evs ξr32 (.ite ξr98 ξr36 (.evs [.call 1 [(.ar .add .i64 (.ar .mul .i64 ξr20 ξr24) (.ar .mul .i64 (.ar .mul .i64 ξr103 ξr21) ξr22)), (.ar .add .i64 (.ar .mul .i64 ξr27 ξr24) (.ar .mul .i64 (.ar .mul .i64 ξr103 ξr23) ξr22)), (.ar .mul .i64 ξr22 ξr24)] none 4] (.ret [ξr34, ξr35, ξr26, ξr30]))))
def Fs_l2SumM : List Fun1 := [G_sFracValid, G_l2Low]
def F_l2SumM : Fun1 := ofTree Fs_l2SumM tr_l2SumM
def G_l2SumM : Fun1 := ⟨fun _ => True, fun ins => fr4 (lessQ (q3 ins 0) (q3 ins 3))⟩
theorem as_l2SumM (ins : List Value) (ht : TypedL [.int .i64, .int .i64, .int .i64, .int .i64, .int .i64, .int .i64] ins) (_ : G_l2SumM.pre ins) : F_l2SumM.pre ins ∧ F_l2SumM.out ins = G_l2SumM.out ins := by
  obtain ⟨a, b, c, x, y, z, rfl, _⟩ := ints6 ht
  cases h : validI a b c
  · simp only [F_l2SumM, G_l2SumM, tr_l2SumM, Fs_l2SumM, G_sFracValid, G_l2Low, lessQ, validQ, q3, arI, h, ofTree, okT, okE, evalT, evalE, evsIn, ev, callF, preF, hasF, needs, i0, b0, toI_int, toB_bool, List.getD_cons_zero, List.getD_cons_succ, List.cons_append, List.nil_append, List.replicate, if_true, if_false, Bool.false_eq_true, and_true, true_and, implies_true, forall_const, false_implies, cmpI, Bool.not_true, Bool.not_false, Bool.true_and, Bool.false_and, Bool.and_true, Bool.and_false, reduceIte, List.append_nil, reduceCtorEq]
    simp [fr4, zq]
  · cases k : validI x y z
    · simp only [F_l2SumM, G_l2SumM, tr_l2SumM, Fs_l2SumM, G_sFracValid, G_l2Low, lessQ, validQ, q3, arI, h, k, ofTree, okT, okE, evalT, evalE, evsIn, ev, callF, preF, hasF, needs, i0, b0, toI_int, toB_bool, List.getD_cons_zero, List.getD_cons_succ, List.cons_append, List.nil_append, List.replicate, if_true, if_false, Bool.false_eq_true, and_true, true_and, implies_true, forall_const, false_implies, cmpI, Bool.not_true, Bool.not_false, Bool.true_and, Bool.false_and, Bool.and_true, Bool.and_false, reduceIte, List.append_nil, reduceCtorEq]
      simp [fr4, zq]
    · obtain ⟨e1, e2, e3, e4, e5, e6, e7, e8, e9, l1, l2⟩ := sum_facts h k
      obtain ⟨k1, k2, _⟩ := valid_bounds k
      have u1 : IntKind.i64.wrap (-1 * x) = -x := by rw [Int.neg_one_mul]; exact wrap_in (by omega)
      have u2 : IntKind.i64.wrap (-1 * y) = -y := by rw [Int.neg_one_mul]; exact wrap_in (by omega)
      have m2 := mulB k1 (b := c) (by have := valid_bounds h; omega)
      have m4 := mulB k2 (b := c) (by have := valid_bounds h; omega)
      have v1 : IntKind.i64.wrap (-x * c) = -(x * c) := by rw [Int.neg_mul]; exact wrap_in (by omega)
      have v2 : IntKind.i64.wrap (-y * c) = -(y * c) := by rw [Int.neg_mul]; exact wrap_in (by omega)
      have v3 : IntKind.i64.wrap (a * z + -(x * c)) = a * z - x * c := by rw [← Int.sub_eq_add_neg]; exact e8
      have v4 : IntKind.i64.wrap (b * z + -(y * c)) = b * z - y * c := by rw [← Int.sub_eq_add_neg]; exact e9
      simp only [F_l2SumM, G_l2SumM, tr_l2SumM, Fs_l2SumM, G_sFracValid, G_l2Low, lessQ, validQ, q3, arI, h, k, u1, u2, v1, v2, v3, v4, e1, e3, e5, ofTree, okT, okE, evalT, evalE, evsIn, ev, callF, preF, hasF, needs, i0, b0, toI_int, toB_bool, List.getD_cons_zero, List.getD_cons_succ, List.cons_append, List.nil_append, List.replicate, if_true, if_false, Bool.false_eq_true, and_true, true_and, implies_true, forall_const, false_implies, cmpI, Bool.not_true, Bool.not_false, Bool.true_and, Bool.false_and, Bool.and_true, Bool.and_false, reduceIte, List.append_nil, reduceCtorEq]
      simp [fr4, l2]
def tr_l6tAddP : Tr := ξr100
def Fs_l6tAddP : List Fun1 := [G_l2SumP]
def F_l6tAddP : Fun1 := ofTree Fs_l6tAddP tr_l6tAddP
def G_l6tAddP : Fun1 := ⟨fun _ => True, fun ins => fr3 (addQ (q3 ins 0) (q3 ins 3)) ++ [.bool (b0 ins 6 && (addQ (q3 ins 0) (q3 ins 3)).isSome)]⟩
theorem as_l6tAddP (ins : List Value) (ht : TypedL [.int .i64, .int .i64, .int .i64, .int .i64, .int .i64, .int .i64, .bool] ins) (_ : G_l6tAddP.pre ins) : F_l6tAddP.pre ins ∧ F_l6tAddP.out ins = G_l6tAddP.out ins := by
  obtain ⟨a, r1, rfl, _, ht1⟩ := int_cons ht
  obtain ⟨b, r2, rfl, _, ht2⟩ := int_cons ht1
  obtain ⟨c, r3, rfl, _, ht3⟩ := int_cons ht2
  obtain ⟨x, r4, rfl, _, ht4⟩ := int_cons ht3
  obtain ⟨y, r5, rfl, _, ht5⟩ := int_cons ht4
  obtain ⟨z, r6, rfl, _, ht6⟩ := int_cons ht5
  obtain ⟨t, r7, rfl, ht7⟩ := bool_cons ht6
  obtain rfl := ints0 ht7
  simp only [F_l6tAddP, G_l6tAddP, tr_l6tAddP, Fs_l6tAddP, G_l2SumP, q3, fr4, fr3, ofTree, okT, okE, evalT, evalE, evsIn, ev, callF, preF, hasF, needs, i0, b0, toI_int, toB_bool, List.getD_cons_zero, List.getD_cons_succ, List.cons_append, List.nil_append, List.replicate, if_true, if_false, Bool.false_eq_true, and_true, true_and, implies_true, forall_const, false_implies, cmpI, Bool.not_true, Bool.not_false, Bool.true_and, Bool.false_and, Bool.and_true, Bool.and_false, reduceIte, List.append_nil, reduceCtorEq]
  cases t <;> simp
def tr_l6tAddM : Tr := ξr100
def Fs_l6tAddM : List Fun1 := [G_l2SumM]
def F_l6tAddM : Fun1 := ofTree Fs_l6tAddM tr_l6tAddM
def G_l6tAddM : Fun1 := ⟨fun _ => True, fun ins => fr3 (lessQ (q3 ins 0) (q3 ins 3)) ++ [.bool (b0 ins 6 && (lessQ (q3 ins 0) (q3 ins 3)).isSome)]⟩
theorem as_l6tAddM (ins : List Value) (ht : TypedL [.int .i64, .int .i64, .int .i64, .int .i64, .int .i64, .int .i64, .bool] ins) (_ : G_l6tAddM.pre ins) : F_l6tAddM.pre ins ∧ F_l6tAddM.out ins = G_l6tAddM.out ins := by
  obtain ⟨a, r1, rfl, _, ht1⟩ := int_cons ht
  obtain ⟨b, r2, rfl, _, ht2⟩ := int_cons ht1
  obtain ⟨c, r3, rfl, _, ht3⟩ := int_cons ht2
  obtain ⟨x, r4, rfl, _, ht4⟩ := int_cons ht3
  obtain ⟨y, r5, rfl, _, ht5⟩ := int_cons ht4
  obtain ⟨z, r6, rfl, _, ht6⟩ := int_cons ht5
  obtain ⟨t, r7, rfl, ht7⟩ := bool_cons ht6
  obtain rfl := ints0 ht7
  simp only [F_l6tAddM, G_l6tAddM, tr_l6tAddM, Fs_l6tAddM, G_l2SumM, q3, fr4, fr3, ofTree, okT, okE, evalT, evalE, evsIn, ev, callF, preF, hasF, needs, i0, b0, toI_int, toB_bool, List.getD_cons_zero, List.getD_cons_succ, List.cons_append, List.nil_append, List.replicate, if_true, if_false, Bool.false_eq_true, and_true, true_and, implies_true, forall_const, false_implies, cmpI, Bool.not_true, Bool.not_false, Bool.true_and, Bool.false_and, Bool.and_true, Bool.and_false, reduceIte, List.append_nil, reduceCtorEq]
  cases t <;> simp
def tr_l6tPair : Tr := (.evs [.call 0 [ξr21, ξr23, ξr24] none 4] (.evs [.call 1 [ξr20, ξr27, ξr22, ξr29, ξr34, ξr35] none 4] (.ret [ξr30, ξr50, ξr53, (.ite (.ite ξr25 ξr26 ξr2) ξr54 ξr2)])))
def Fs_l6tPair : List Fun1 := [G_sFracMirror, G_sFracTimes]
def F_l6tPair : Fun1 := ofTree Fs_l6tPair tr_l6tPair
def G_l6tPair : Fun1 := ⟨fun _ => True, fun ins => fr3 (pairQ (q3 ins 0) (q3 ins 3)) ++ [.bool (b0 ins 6 && (pairQ (q3 ins 0) (q3 ins 3)).isSome)]⟩
theorem as_l6tPair (ins : List Value) (ht : TypedL [.int .i64, .int .i64, .int .i64, .int .i64, .int .i64, .int .i64, .bool] ins) (_ : G_l6tPair.pre ins) : F_l6tPair.pre ins ∧ F_l6tPair.out ins = G_l6tPair.out ins := by
  obtain ⟨a, r1, rfl, _, ht1⟩ := int_cons ht
  obtain ⟨b, r2, rfl, _, ht2⟩ := int_cons ht1
  obtain ⟨c, r3, rfl, _, ht3⟩ := int_cons ht2
  obtain ⟨x, r4, rfl, _, ht4⟩ := int_cons ht3
  obtain ⟨y, r5, rfl, _, ht5⟩ := int_cons ht4
  obtain ⟨z, r6, rfl, _, ht6⟩ := int_cons ht5
  obtain ⟨t, r7, rfl, ht7⟩ := bool_cons ht6
  obtain rfl := ints0 ht7
  simp only [F_l6tPair, G_l6tPair, tr_l6tPair, Fs_l6tPair, G_sFracMirror, G_sFracTimes, pairQ, q3, fr3, fr4, ofTree, okT, okE, evalT, evalE, evsIn, ev, callF, preF, hasF, needs, i0, b0, toI_int, toB_bool, List.getD_cons_zero, List.getD_cons_succ, List.cons_append, List.nil_append, List.replicate, if_true, if_false, Bool.false_eq_true, and_true, true_and, implies_true, forall_const, false_implies, cmpI, Bool.not_true, Bool.not_false, Bool.true_and, Bool.false_and, Bool.and_true, Bool.and_false, reduceIte, List.append_nil, reduceCtorEq]
  cases h : mirQ (x, y, z)
  · cases t <;> simp [zq, show timesQ (a, b, c) (0, 0, 0) = none from times_zq' _]
  · cases t <;> simp
def tr_l6tPart20 : Tr := (.evs [.call 0 [ξr20, ξr0, (.ar .mul .i64 (.mx false .i64 ξr3 ξr22) ξr77)] none 4] (.ret [ξr23, ξr24, ξr25, (.ite ξr21 ξr29 ξr2)]))
def Fs_l6tPart20 : List Fun1 := [G_sFracMake]
def F_l6tPart20 : Fun1 := ofTree Fs_l6tPart20 tr_l6tPart20
def G_l6tPart20 : Fun1 := ⟨fun _ => True, fun ins => fr3 (partP (q3 ins 0)) ++ [.bool (b0 ins 3 && (partP (q3 ins 0)).isSome)]⟩
theorem as_l6tPart20 (ins : List Value) (ht : TypedL [.int .i64, .int .i64, .int .i64, .bool] ins) (_ : G_l6tPart20.pre ins) : F_l6tPart20.pre ins ∧ F_l6tPart20.out ins = G_l6tPart20.out ins := by
  obtain ⟨a, r1, rfl, _, ht1⟩ := int_cons ht
  obtain ⟨b, r2, rfl, _, ht2⟩ := int_cons ht1
  obtain ⟨c, r3, rfl, _, ht3⟩ := int_cons ht2
  obtain ⟨t, r7, rfl, ht7⟩ := bool_cons ht3
  obtain rfl := ints0 ht7
  simp only [F_l6tPart20, G_l6tPart20, tr_l6tPart20, Fs_l6tPart20, G_sFracMake, partP, q3, fr4, fr3, arI, ofTree, okT, okE, evalT, evalE, evsIn, ev, callF, preF, hasF, needs, i0, b0, toI_int, toB_bool, List.getD_cons_zero, List.getD_cons_succ, List.cons_append, List.nil_append, List.replicate, if_true, if_false, Bool.false_eq_true, and_true, true_and, implies_true, forall_const, false_implies, cmpI, Bool.not_true, Bool.not_false, Bool.true_and, Bool.false_and, Bool.and_true, Bool.and_false, reduceIte, List.append_nil, reduceCtorEq]
  cases t <;> simp
def tr_l6tPart10 : Tr := (.evs [.call 0 [ξr20, ξr0, (.ar .mul .i64 (.mx false .i64 ξr3 ξr22) ξr3)] none 4] (.ret [ξr23, ξr24, ξr25, (.ite ξr21 ξr29 ξr2)]))
def Fs_l6tPart10 : List Fun1 := [G_sFracMake]
def F_l6tPart10 : Fun1 := ofTree Fs_l6tPart10 tr_l6tPart10
def G_l6tPart10 : Fun1 := ⟨fun _ => True, fun ins => fr3 (partR (q3 ins 0)) ++ [.bool (b0 ins 3 && (partR (q3 ins 0)).isSome)]⟩
theorem as_l6tPart10 (ins : List Value) (ht : TypedL [.int .i64, .int .i64, .int .i64, .bool] ins) (_ : G_l6tPart10.pre ins) : F_l6tPart10.pre ins ∧ F_l6tPart10.out ins = G_l6tPart10.out ins := by
  obtain ⟨a, r1, rfl, _, ht1⟩ := int_cons ht
  obtain ⟨b, r2, rfl, _, ht2⟩ := int_cons ht1
  obtain ⟨c, r3, rfl, _, ht3⟩ := int_cons ht2
  obtain ⟨t, r7, rfl, ht7⟩ := bool_cons ht3
  obtain rfl := ints0 ht7
  simp only [F_l6tPart10, G_l6tPart10, tr_l6tPart10, Fs_l6tPart10, G_sFracMake, partR, q3, fr4, fr3, arI, ofTree, okT, okE, evalT, evalE, evsIn, ev, callF, preF, hasF, needs, i0, b0, toI_int, toB_bool, List.getD_cons_zero, List.getD_cons_succ, List.cons_append, List.nil_append, List.replicate, if_true, if_false, Bool.false_eq_true, and_true, true_and, implies_true, forall_const, false_implies, cmpI, Bool.not_true, Bool.not_false, Bool.true_and, Bool.false_and, Bool.and_true, Bool.and_false, reduceIte, List.append_nil, reduceCtorEq]
  cases t <;> simp
def tr_l6tPart11 : Tr := (.evs [.call 0 [ξr27, ξr0, (.ar .mul .i64 (.mx false .i64 ξr3 ξr22) ξr3)] none 4] (.ret [ξr23, ξr24, ξr25, (.ite ξr21 ξr29 ξr2)]))
def Fs_l6tPart11 : List Fun1 := [G_sFracMake]
def F_l6tPart11 : Fun1 := ofTree Fs_l6tPart11 tr_l6tPart11
def G_l6tPart11 : Fun1 := ⟨fun _ => True, fun ins => fr3 (partI (q3 ins 0)) ++ [.bool (b0 ins 3 && (partI (q3 ins 0)).isSome)]⟩
theorem as_l6tPart11 (ins : List Value) (ht : TypedL [.int .i64, .int .i64, .int .i64, .bool] ins) (_ : G_l6tPart11.pre ins) : F_l6tPart11.pre ins ∧ F_l6tPart11.out ins = G_l6tPart11.out ins := by
  obtain ⟨a, r1, rfl, _, ht1⟩ := int_cons ht
  obtain ⟨b, r2, rfl, _, ht2⟩ := int_cons ht1
  obtain ⟨c, r3, rfl, _, ht3⟩ := int_cons ht2
  obtain ⟨t, r7, rfl, ht7⟩ := bool_cons ht3
  obtain rfl := ints0 ht7
  simp only [F_l6tPart11, G_l6tPart11, tr_l6tPart11, Fs_l6tPart11, G_sFracMake, partI, q3, fr4, fr3, arI, ofTree, okT, okE, evalT, evalE, evsIn, ev, callF, preF, hasF, needs, i0, b0, toI_int, toB_bool, List.getD_cons_zero, List.getD_cons_succ, List.cons_append, List.nil_append, List.replicate, if_true, if_false, Bool.false_eq_true, and_true, true_and, implies_true, forall_const, false_implies, cmpI, Bool.not_true, Bool.not_false, Bool.true_and, Bool.false_and, Bool.and_true, Bool.and_false, reduceIte, List.append_nil, reduceCtorEq]
  cases t <;> simp
def tr_l6tPowersA : Tr := (.evs ξr75 (.evs [.call 0 ξr94 none 4, .call 1 ξr92 none 4] (.evs [.call 0 ξr93 none 4, .call 1 ξr66 none 4] (.evs [.call 0 ξr90 none 4, .call 1 ξr62 none 4] ξr39))))
def Fs_l6tPowersA : List Fun1 := [G_l6tPair, G_l6tAddP, G_l6tAddM, G_l6tPart20]
def F_l6tPowersA : Fun1 := ofTree Fs_l6tPowersA tr_l6tPowersA
def tr_l6tPowersB : Tr := (.evs ξr75 (.evs [.call 0 ξr94 none 4, .call 2 ξr92 none 4] (.evs [.call 0 ξr93 none 4, .call 1 ξr66 none 4] (.evs [.call 0 ξr90 none 4, .call 2 ξr62 none 4] ξr39))))
def Fs_l6tPowersB : List Fun1 := [G_l6tPair, G_l6tAddP, G_l6tAddM, G_l6tPart20]
def F_l6tPowersB : Fun1 := ofTree Fs_l6tPowersB tr_l6tPowersB
def tr_l6tPowersC : Tr := (.evs ξr75 (.evs [.call 0 ξr94 none 4, .call 1 ξr92 none 4] (.evs [.call 0 ξr93 none 4, .call 2 ξr66 none 4] (.evs [.call 0 ξr90 none 4, .call 2 ξr62 none 4] ξr39))))
def Fs_l6tPowersC : List Fun1 := [G_l6tPair, G_l6tAddP, G_l6tAddM, G_l6tPart20]
def F_l6tPowersC : Fun1 := ofTree Fs_l6tPowersC tr_l6tPowersC
def tr_l6tPowersD : Tr := (.evs ξr75 (.evs [.call 0 ξr94 none 4, .call 2 ξr92 none 4] (.evs [.call 0 ξr93 none 4, .call 2 ξr66 none 4] (.evs [.call 0 ξr90 none 4, .call 1 ξr62 none 4] ξr39))))
def Fs_l6tPowersD : List Fun1 := [G_l6tPair, G_l6tAddP, G_l6tAddM, G_l6tPart20]
def F_l6tPowersD : Fun1 := ofTree Fs_l6tPowersD tr_l6tPowersD
def tr_l6tTwo2 : Tr := ξr89
def Fs_l6tTwo2 : List Fun1 := [G_l6tPair, G_l6tAddP, G_l6tPart10]
def F_l6tTwo2 : Fun1 := ofTree Fs_l6tTwo2 tr_l6tTwo2
def tr_l6tTwo3 : Tr := ξr88
def Fs_l6tTwo3 : List Fun1 := [G_l6tPair, G_l6tAddP, G_l6tPart11]
def F_l6tTwo3 : Fun1 := ofTree Fs_l6tTwo3 tr_l6tTwo3
def tr_l6tTwo6 : Tr := ξr89
def Fs_l6tTwo6 : List Fun1 := [G_l6tPair, G_l6tAddM, G_l6tPart10]
def F_l6tTwo6 : Fun1 := ofTree Fs_l6tTwo6 tr_l6tTwo6
def tr_l6tTwo7 : Tr := ξr88
def Fs_l6tTwo7 : List Fun1 := [G_l6tPair, G_l6tAddM, G_l6tPart11]
def F_l6tTwo7 : Fun1 := ofTree Fs_l6tTwo7 tr_l6tTwo7
def tr_l6tTwo8 : Tr := ξr43
def Fs_l6tTwo8 : List Fun1 := [G_l6tPair, G_l6tAddP, G_l6tPart10]
def F_l6tTwo8 : Fun1 := ofTree Fs_l6tTwo8 tr_l6tTwo8
def tr_l6tTwo9 : Tr := ξr43
def Fs_l6tTwo9 : List Fun1 := [G_l6tPair, G_l6tAddM, G_l6tPart10]
def F_l6tTwo9 : Fun1 := ofTree Fs_l6tTwo9 tr_l6tTwo9
def tr_l6tTwo10 : Tr := ξr48
def Fs_l6tTwo10 : List Fun1 := [G_l6tPair, G_l6tAddP, G_l6tPart10]
def F_l6tTwo10 : Fun1 := ofTree Fs_l6tTwo10 tr_l6tTwo10
def tr_l6tTwo11 : Tr := (.evs [.call 0 [ξr21, ξr23, ξr24, ξr25, ξr29, ξr34, ξr50] none 4] (.evs [.call 0 [ξr20, ξr27, ξr22, ξr35, ξr26, ξr30, ξr60] none 4] ξr4))
def Fs_l6tTwo11 : List Fun1 := [G_l6tPair, G_l6tAddM, G_l6tPart11]
def F_l6tTwo11 : Fun1 := ofTree Fs_l6tTwo11 tr_l6tTwo11
def tr_l6tTwo12 : Tr := ξr43
def Fs_l6tTwo12 : List Fun1 := [G_l6tPair, G_l6tAddP, G_l6tPart11]
def F_l6tTwo12 : Fun1 := ofTree Fs_l6tTwo12 tr_l6tTwo12
def tr_l6tTwo13 : Tr := ξr43
def Fs_l6tTwo13 : List Fun1 := [G_l6tPair, G_l6tAddM, G_l6tPart11]
def F_l6tTwo13 : Fun1 := ofTree Fs_l6tTwo13 tr_l6tTwo13
def tr_l6tTwo14 : Tr := ξr48
def Fs_l6tTwo14 : List Fun1 := [G_l6tPair, G_l6tAddP, G_l6tPart11]
def F_l6tTwo14 : Fun1 := ofTree Fs_l6tTwo14 tr_l6tTwo14
def tr_l6tTwo15 : Tr := ξr48
def Fs_l6tTwo15 : List Fun1 := [G_l6tPair, G_l6tAddM, G_l6tPart10]
def F_l6tTwo15 : Fun1 := ofTree Fs_l6tTwo15 tr_l6tTwo15
def tr_iTableOf : Tr := (.evs [.call 0 ξr46 none 1, .call 1 [ξr50, ξr2] none 1] (.evs [.call 2 [ξr20, ξr27, ξr22, ξr53] none 4, .call 2 [ξr21, ξr23, ξr24, ξr68] none 4, .call 2 [ξr25, ξr29, ξr34, ξr87] none 4, .call 2 [ξr35, ξr26, ξr30, (.var 25)] none 4] (.evs [.call 5 [ξr54, ξr58, ξr60, ξr83, ξr80, ξr69, (.var 29)] none 4, .call 5 [(.var 30), (.var 31), (.var 32), ξr82, ξr59, ξr67, (.var 33)] none 4, .call 5 [(.var 34), (.var 35), (.var 36), ξr96, ξr95, ξr86, (.var 37)] none 4, .call 4 [(.var 38), (.var 39), (.var 40), (.var 41)] none 4, .call 6 [ξr54, ξr58, ξr60, ξr83, ξr80, ξr69, (.var 45)] none 4, .call 5 [(.var 46), (.var 47), (.var 48), ξr82, ξr59, ξr67, (.var 49)] none 4, .call 6 [ξr81, ξr85, ξr79, ξr96, ξr95, ξr86, (.var 53)] none 4, .call 4 [(.var 54), (.var 55), (.var 56), (.var 57)] none 4, .call 3 [ξr20, ξr27, ξr22, ξr21, ξr23, ξr24, (.var 61)] none 4, .call 3 [ξr25, ξr29, ξr34, ξr35, ξr26, ξr30, (.var 65)] none 4, .call 5 [(.var 62), (.var 63), (.var 64), (.var 66), (.var 67), (.var 68), (.var 69)] none 4, .call 7 [(.var 70), (.var 71), (.var 72), (.var 73)] none 4, .call 3 [ξr21, ξr23, ξr24, ξr20, ξr27, ξr22, (.var 77)] none 4, .call 3 [ξr35, ξr26, ξr30, ξr25, ξr29, ξr34, (.var 81)] none 4, .call 5 [(.var 78), (.var 79), (.var 80), (.var 82), (.var 83), (.var 84), (.var 85)] none 4, .call 8 [(.var 86), (.var 87), (.var 88), (.var 89)] none 4, .call 5 [ξr54, ξr58, ξr60, ξr83, ξr80, ξr69, (.var 93)] none 4, .call 6 [(.var 94), (.var 95), (.var 96), ξr82, ξr59, ξr67, (.var 97)] none 4, .call 6 [(.var 98), (.var 99), (.var 100), ξr96, ξr95, ξr86, (.var 101)] none 4, .call 4 [(.var 102), (.var 103), (.var 104), (.var 105)] none 4, .call 6 [ξr54, ξr58, ξr60, ξr83, ξr80, ξr69, (.var 109)] none 4, .call 6 [(.var 110), (.var 111), (.var 112), ξr82, ξr59, ξr67, (.var 113)] none 4, .call 5 [(.var 114), (.var 115), (.var 116), ξr96, ξr95, ξr86, (.var 117)] none 4, .call 4 [(.var 118), (.var 119), (.var 120), (.var 121)] none 4, .call 3 [ξr20, ξr27, ξr22, ξr21, ξr23, ξr24, (.var 125)] none 4, .call 3 [ξr25, ξr29, ξr34, ξr35, ξr26, ξr30, (.var 129)] none 4, .call 6 [(.var 126), (.var 127), (.var 128), (.var 130), (.var 131), (.var 132), (.var 133)] none 4, .call 7 [(.var 134), (.var 135), (.var 136), (.var 137)] none 4, .call 3 [ξr21, ξr23, ξr24, ξr20, ξr27, ξr22, (.var 141)] none 4, .call 3 [ξr35, ξr26, ξr30, ξr25, ξr29, ξr34, (.var 145)] none 4, .call 6 [(.var 142), (.var 143), (.var 144), (.var 146), (.var 147), (.var 148), (.var 149)] none 4, .call 8 [(.var 150), (.var 151), (.var 152), (.var 153)] none 4, .call 3 [ξr20, ξr27, ξr22, ξr25, ξr29, ξr34, (.var 157)] none 4, .call 3 [ξr21, ξr23, ξr24, ξr35, ξr26, ξr30, (.var 161)] none 4, .call 5 [(.var 158), (.var 159), (.var 160), (.var 162), (.var 163), (.var 164), (.var 165)] none 4, .call 7 [(.var 166), (.var 167), (.var 168), (.var 169)] none 4, .call 3 [ξr20, ξr27, ξr22, ξr25, ξr29, ξr34, (.var 173)] none 4, .call 3 [ξr21, ξr23, ξr24, ξr35, ξr26, ξr30, (.var 177)] none 4, .call 6 [(.var 174), (.var 175), (.var 176), (.var 178), (.var 179), (.var 180), (.var 181)] none 4, .call 7 [(.var 182), (.var 183), (.var 184), (.var 185)] none 4, .call 3 [ξr20, ξr27, ξr22, ξr35, ξr26, ξr30, (.var 189)] none 4, .call 3 [ξr21, ξr23, ξr24, ξr25, ξr29, ξr34, (.var 193)] none 4, .call 5 [(.var 190), (.var 191), (.var 192), (.var 194), (.var 195), (.var 196), (.var 197)] none 4, .call 7 [(.var 198), (.var 199), (.var 200), (.var 201)] none 4, .call 3 [ξr21, ξr23, ξr24, ξr25, ξr29, ξr34, (.var 205)] none 4, .call 3 [ξr20, ξr27, ξr22, ξr35, ξr26, ξr30, (.var 209)] none 4, .call 6 [(.var 206), (.var 207), (.var 208), (.var 210), (.var 211), (.var 212), (.var 213)] none 4, .call 8 [(.var 214), (.var 215), (.var 216), (.var 217)] none 4, .call 3 [ξr20, ξr27, ξr22, ξr25, ξr29, ξr34, (.var 221)] none 4, .call 3 [ξr21, ξr23, ξr24, ξr35, ξr26, ξr30, (.var 225)] none 4, .call 5 [(.var 222), (.var 223), (.var 224), (.var 226), (.var 227), (.var 228), (.var 229)] none 4, .call 8 [(.var 230), (.var 231), (.var 232), (.var 233)] none 4, .call 3 [ξr20, ξr27, ξr22, ξr25, ξr29, ξr34, (.var 237)] none 4, .call 3 [ξr21, ξr23, ξr24, ξr35, ξr26, ξr30, (.var 241)] none 4, .call 6 [(.var 238), (.var 239), (.var 240), (.var 242), (.var 243), (.var 244), (.var 245)] none 4, .call 8 [(.var 246), (.var 247), (.var 248), (.var 249)] none 4, .call 3 [ξr20, ξr27, ξr22, ξr35, ξr26, ξr30, (.var 253)] none 4, .call 3 [ξr21, ξr23, ξr24, ξr25, ξr29, ξr34, (.var 257)] none 4, .call 5 [(.var 254), (.var 255), (.var 256), (.var 258), (.var 259), (.var 260), (.var 261)] none 4, .call 8 [(.var 262), (.var 263), (.var 264), (.var 265)] none 4, .call 3 [ξr20, ξr27, ξr22, ξr35, ξr26, ξr30, (.var 269)] none 4, .call 3 [ξr21, ξr23, ξr24, ξr25, ξr29, ξr34, (.var 273)] none 4, .call 6 [(.var 270), (.var 271), (.var 272), (.var 274), (.var 275), (.var 276), (.var 277)] none 4, .call 7 [(.var 278), (.var 279), (.var 280), (.var 281)] none 4] (.evs [.call 9 [(.var 42), (.var 43), (.var 44), (.var 58), (.var 59), (.var 60), (.var 74), (.var 75), (.var 76), (.var 90), (.var 91), (.var 92), (.var 106), (.var 107), (.var 108), (.var 122), (.var 123), (.var 124), (.var 138), (.var 139), (.var 140), (.var 154), (.var 155), (.var 156), (.var 170), (.var 171), (.var 172), (.var 186), (.var 187), (.var 188), (.var 202), (.var 203), (.var 204), (.var 218), (.var 219), (.var 220), (.var 234), (.var 235), (.var 236), (.var 250), (.var 251), (.var 252), (.var 266), (.var 267), (.var 268), (.var 282), (.var 283), (.var 284), (.var 285)] none 50] (.ret [(.var 286), (.var 287), (.var 288), (.var 289), (.var 290), (.var 291), (.var 292), (.var 293), (.var 294), (.var 295), (.var 296), (.var 297), (.var 298), (.var 299), (.var 300), (.var 301), (.var 302), (.var 303), (.var 304), (.var 305), (.var 306), (.var 307), (.var 308), (.var 309), (.var 310), (.var 311), (.var 312), (.var 313), (.var 314), (.var 315), (.var 316), (.var 317), (.var 318), (.var 319), (.var 320), (.var 321), (.var 322), (.var 323), (.var 324), (.var 325), (.var 326), (.var 327), (.var 328), (.var 329), (.var 330), (.var 331), (.var 332), (.var 333), (.var 334)])))))
def Fs_iTableOf : List Fun1 := [G_iMatValid, G_need, G_power, G_iPair, G_iHalfS, G_add, G_less, G_real, G_imag, G_gotTable]
def F_iTableOf : Fun1 := ofTree Fs_iTableOf tr_iTableOf
def G_iTableOf : Fun1 := ⟨fun _ => True, fun ins => nttW 16 (matQ fun k => q3 ins (3 * k)) (toD fun k => q3 ins (3 * k))⟩
theorem out_iTableOf : (fun (g : Nat → Int) => F_iTableOf.out (ivs g 0 12)) = fun g =>
    gotL (tofI fun k => q3 (ivs g 0 12) (3 * k)).2 (tofI fun k => q3 (ivs g 0 12) (3 * k)).1 ++ [.bool (!(tofI fun k => q3 (ivs g 0 12) (3 * k)).2)] := by kernel_rfl
theorem as_iTableOf (ins : List Value) (ht : TypedL (intTs 12 ++ []) ins) (_ : G_iTableOf.pre ins) : F_iTableOf.pre ins ∧ F_iTableOf.out ins = G_iTableOf.out ins := by
  obtain ⟨g, r, rfl, h1, _⟩ := ints_lit 12 0 ht
  obtain rfl := ints0 h1
  rw [List.append_nil]
  refine ⟨okT_free (by intro F hF ins; simp only [Fs_iTableOf, List.mem_cons, List.not_mem_nil, or_false] at hF; rcases hF with rfl | rfl | rfl | rfl | rfl | rfl | rfl | rfl | rfl | rfl <;> trivial) _ _ (by kernel_rfl), (congrFun out_iTableOf g).trans ?_⟩
  exact (tofI_eq _).trans (nttV_eq _ _ _)
def tr_sTableOf : Tr := (.evs [.call 0 ξr46 none 1] (.ite (.not ξr50) ξr10 (.evs [.call 1 [ξr20, ξr27, ξr22, ξr21, ξr23, ξr24, ξr25, ξr29, ξr34, ξr35, ξr26, ξr30, ξr50] none 4] (.evs [.call 2 [ξr20, ξr27, ξr22, ξr21, ξr23, ξr24, ξr25, ξr29, ξr34, ξr35, ξr26, ξr30, ξr60] none 4] (.evs [.call 5 [ξr20, ξr27, ξr22, ξr21, ξr23, ξr24, ξr25, ξr29, ξr34, ξr35, ξr26, ξr30, ξr69] none 4] (.evs [.call 6 [ξr20, ξr27, ξr22, ξr21, ξr23, ξr24, ξr25, ξr29, ξr34, ξr35, ξr26, ξr30, ξr67] none 4] (.evs [.call 3 [ξr20, ξr27, ξr22, ξr21, ξr23, ξr24, ξr25, ξr29, ξr34, ξr35, ξr26, ξr30, ξr86] none 4] (.evs [.call 4 [ξr20, ξr27, ξr22, ξr21, ξr23, ξr24, ξr25, ξr29, ξr34, ξr35, ξr26, ξr30, (.var 32)] none 4] (.evs [.call 7 [ξr20, ξr27, ξr22, ξr21, ξr23, ξr24, ξr25, ξr29, ξr34, ξr35, ξr26, ξr30, (.var 36)] none 4] (.evs [.call 8 [ξr20, ξr27, ξr22, ξr21, ξr23, ξr24, ξr25, ξr29, ξr34, ξr35, ξr26, ξr30, (.var 40)] none 4] (.evs [.call 9 [ξr20, ξr27, ξr22, ξr21, ξr23, ξr24, ξr25, ξr29, ξr34, ξr35, ξr26, ξr30, (.var 44)] none 4] (.evs [.call 10 [ξr20, ξr27, ξr22, ξr21, ξr23, ξr24, ξr25, ξr29, ξr34, ξr35, ξr26, ξr30, (.var 48)] none 4] (.evs [.call 11 [ξr20, ξr27, ξr22, ξr21, ξr23, ξr24, ξr25, ξr29, ξr34, ξr35, ξr26, ξr30, ξr79] none 4] (.evs [.call 12 [ξr20, ξr27, ξr22, ξr21, ξr23, ξr24, ξr25, ξr29, ξr34, ξr35, ξr26, ξr30, (.var 56)] none 4] (.evs [.call 13 [ξr20, ξr27, ξr22, ξr21, ξr23, ξr24, ξr25, ξr29, ξr34, ξr35, ξr26, ξr30, (.var 60)] none 4] (.evs [.call 14 [ξr20, ξr27, ξr22, ξr21, ξr23, ξr24, ξr25, ξr29, ξr34, ξr35, ξr26, ξr30, (.var 64)] none 4] (.evs [.call 15 [ξr20, ξr27, ξr22, ξr21, ξr23, ξr24, ξr25, ξr29, ξr34, ξr35, ξr26, ξr30, (.var 68)] none 4] (.evs [.call 16 [ξr20, ξr27, ξr22, ξr21, ξr23, ξr24, ξr25, ξr29, ξr34, ξr35, ξr26, ξr30, (.var 72)] none 4] (.ite (.not (.var 76)) ξr10 (.ret [ξr53, ξr54, ξr58, ξr68, ξr83, ξr80, ξr87, ξr82, ξr59, (.var 25), ξr96, ξr95, (.var 29), (.var 30), (.var 31), (.var 33), (.var 34), (.var 35), (.var 37), (.var 38), (.var 39), (.var 41), (.var 42), (.var 43), (.var 45), (.var 46), (.var 47), (.var 49), ξr81, ξr85, (.var 53), (.var 54), (.var 55), (.var 57), (.var 58), (.var 59), (.var 61), (.var 62), (.var 63), (.var 65), (.var 66), (.var 67), (.var 69), (.var 70), (.var 71), (.var 73), (.var 74), (.var 75), ξr5]))))))))))))))))))))
def Fs_sTableOf : List Fun1 := [G_sMatValid, F_l6tPowersA, F_l6tPowersB, F_l6tPowersC, F_l6tPowersD, F_l6tTwo2, F_l6tTwo3, F_l6tTwo6, F_l6tTwo7, F_l6tTwo8, F_l6tTwo9, F_l6tTwo10, F_l6tTwo11, F_l6tTwo12, F_l6tTwo13, F_l6tTwo14, F_l6tTwo15]
def F_sTableOf : Fun1 := ofTree Fs_sTableOf tr_sTableOf
theorem pre_l6tPowersA (ins : List Value) : F_l6tPowersA.pre ins := okT_free (by intro F hF ins; simp only [Fs_l6tPowersA, List.mem_cons, List.not_mem_nil, or_false] at hF; rcases hF with rfl | rfl | rfl | rfl <;> trivial) _ _ (by kernel_rfl)
theorem pre_l6tPowersB (ins : List Value) : F_l6tPowersB.pre ins := okT_free (by intro F hF ins; simp only [Fs_l6tPowersB, List.mem_cons, List.not_mem_nil, or_false] at hF; rcases hF with rfl | rfl | rfl | rfl <;> trivial) _ _ (by kernel_rfl)
theorem pre_l6tPowersC (ins : List Value) : F_l6tPowersC.pre ins := okT_free (by intro F hF ins; simp only [Fs_l6tPowersC, List.mem_cons, List.not_mem_nil, or_false] at hF; rcases hF with rfl | rfl | rfl | rfl <;> trivial) _ _ (by kernel_rfl)
theorem pre_l6tPowersD (ins : List Value) : F_l6tPowersD.pre ins := okT_free (by intro F hF ins; simp only [Fs_l6tPowersD, List.mem_cons, List.not_mem_nil, or_false] at hF; rcases hF with rfl | rfl | rfl | rfl <;> trivial) _ _ (by kernel_rfl)
theorem pre_l6tTwo2 (ins : List Value) : F_l6tTwo2.pre ins := okT_free (by intro F hF ins; simp only [Fs_l6tTwo2, List.mem_cons, List.not_mem_nil, or_false] at hF; rcases hF with rfl | rfl | rfl <;> trivial) _ _ (by kernel_rfl)
theorem pre_l6tTwo3 (ins : List Value) : F_l6tTwo3.pre ins := okT_free (by intro F hF ins; simp only [Fs_l6tTwo3, List.mem_cons, List.not_mem_nil, or_false] at hF; rcases hF with rfl | rfl | rfl <;> trivial) _ _ (by kernel_rfl)
theorem pre_l6tTwo6 (ins : List Value) : F_l6tTwo6.pre ins := okT_free (by intro F hF ins; simp only [Fs_l6tTwo6, List.mem_cons, List.not_mem_nil, or_false] at hF; rcases hF with rfl | rfl | rfl <;> trivial) _ _ (by kernel_rfl)
theorem pre_l6tTwo7 (ins : List Value) : F_l6tTwo7.pre ins := okT_free (by intro F hF ins; simp only [Fs_l6tTwo7, List.mem_cons, List.not_mem_nil, or_false] at hF; rcases hF with rfl | rfl | rfl <;> trivial) _ _ (by kernel_rfl)
theorem pre_l6tTwo8 (ins : List Value) : F_l6tTwo8.pre ins := okT_free (by intro F hF ins; simp only [Fs_l6tTwo8, List.mem_cons, List.not_mem_nil, or_false] at hF; rcases hF with rfl | rfl | rfl <;> trivial) _ _ (by kernel_rfl)
theorem pre_l6tTwo9 (ins : List Value) : F_l6tTwo9.pre ins := okT_free (by intro F hF ins; simp only [Fs_l6tTwo9, List.mem_cons, List.not_mem_nil, or_false] at hF; rcases hF with rfl | rfl | rfl <;> trivial) _ _ (by kernel_rfl)
theorem pre_l6tTwo10 (ins : List Value) : F_l6tTwo10.pre ins := okT_free (by intro F hF ins; simp only [Fs_l6tTwo10, List.mem_cons, List.not_mem_nil, or_false] at hF; rcases hF with rfl | rfl | rfl <;> trivial) _ _ (by kernel_rfl)
theorem pre_l6tTwo11 (ins : List Value) : F_l6tTwo11.pre ins := okT_free (by intro F hF ins; simp only [Fs_l6tTwo11, List.mem_cons, List.not_mem_nil, or_false] at hF; rcases hF with rfl | rfl | rfl <;> trivial) _ _ (by kernel_rfl)
theorem pre_l6tTwo12 (ins : List Value) : F_l6tTwo12.pre ins := okT_free (by intro F hF ins; simp only [Fs_l6tTwo12, List.mem_cons, List.not_mem_nil, or_false] at hF; rcases hF with rfl | rfl | rfl <;> trivial) _ _ (by kernel_rfl)
theorem pre_l6tTwo13 (ins : List Value) : F_l6tTwo13.pre ins := okT_free (by intro F hF ins; simp only [Fs_l6tTwo13, List.mem_cons, List.not_mem_nil, or_false] at hF; rcases hF with rfl | rfl | rfl <;> trivial) _ _ (by kernel_rfl)
theorem pre_l6tTwo14 (ins : List Value) : F_l6tTwo14.pre ins := okT_free (by intro F hF ins; simp only [Fs_l6tTwo14, List.mem_cons, List.not_mem_nil, or_false] at hF; rcases hF with rfl | rfl | rfl <;> trivial) _ _ (by kernel_rfl)
theorem pre_l6tTwo15 (ins : List Value) : F_l6tTwo15.pre ins := okT_free (by intro F hF ins; simp only [Fs_l6tTwo15, List.mem_cons, List.not_mem_nil, or_false] at hF; rcases hF with rfl | rfl | rfl <;> trivial) _ _ (by kernel_rfl)
def G_sTableOf : Fun1 := ⟨fun _ => True, fun ins => nttW 16 (matQ fun k => q3 ins (3 * k)) (toD fun k => q3 ins (3 * k))⟩
theorem out_sTableOf : (fun (g : Nat → Int) => F_sTableOf.out (ivs g 0 12)) = fun g =>
    if toB (.bool (!matQ fun k => q3 (ivs g 0 12) (3 * k))) = true then zeros 48 ++ [.bool false] else nfinS 16 (tofS fun k => q3 (ivs g 0 12) (3 * k)).2 (tofS fun k => q3 (ivs g 0 12) (3 * k)).1 := by kernel_rfl
theorem as_sTableOf (ins : List Value) (ht : TypedL (intTs 12 ++ []) ins) (_ : G_sTableOf.pre ins) : F_sTableOf.pre ins ∧ F_sTableOf.out ins = G_sTableOf.out ins := by
  obtain ⟨g, r, rfl, h1, _⟩ := ints_lit 12 0 ht
  obtain rfl := ints0 h1
  rw [List.append_nil]
  have hF : Free Fs_sTableOf [true, true, true, true, true, true, true, true, true, true, true, true, true, true, true, true, true] :=
    .yes (fun _ => trivial) (.yes pre_l6tPowersA (.yes pre_l6tPowersB (.yes pre_l6tPowersC (.yes pre_l6tPowersD (.yes pre_l6tTwo2 (.yes pre_l6tTwo3 (.yes pre_l6tTwo6 (.yes pre_l6tTwo7 (.yes pre_l6tTwo8 (.yes pre_l6tTwo9 (.yes pre_l6tTwo10 (.yes pre_l6tTwo11 (.yes pre_l6tTwo12 (.yes pre_l6tTwo13 (.yes pre_l6tTwo14 (.yes pre_l6tTwo15 .nil))))))))))))))))
  refine ⟨okT_mask hF _ _ (by kernel_rfl), (congrFun out_sTableOf g).trans ?_⟩
  exact (tofS_eq _).trans (nttV_eq _ _ _)
def tr_mcell00 : Tr := (.evs [.call 0 [ξr20, ξr27, ξr22, ξr50, ξr53, ξr54, ξr67] none 4, .call 0 [ξr21, ξr23, ξr24, ξr83, ξr80, ξr69, ξr86] none 4, .call 1 ξr63 none 4] ξr9)
def Fs_mcell00 : List Fun1 := [G_times, G_add]
def F_mcell00 : Fun1 := ofTree Fs_mcell00 tr_mcell00
def G_mcell00 : Fun1 := ⟨fun _ => True, fun ins => fl3 [(mixI (b0 ins 24) (q3 ins 0) (q3 ins 12) (q3 ins 3) (q3 ins 18)).1] ++ (copyV ins 0 24 ++ [.bool (mixI (b0 ins 24) (q3 ins 0) (q3 ins 12) (q3 ins 3) (q3 ins 18)).2])⟩
theorem out_mcell00 : (fun (g : Nat → Int) (s : Bool) => F_mcell00.out (ivs g 0 24 ++ [.bool s])) = fun g s => G_mcell00.out (ivs g 0 24 ++ [.bool s]) := by kernel_rfl
theorem as_mcell00 (ins : List Value) (ht : TypedL (intTs 24 ++ [.bool]) ins) (_ : G_mcell00.pre ins) : F_mcell00.pre ins ∧ F_mcell00.out ins = G_mcell00.out ins := by
  obtain ⟨g, r, rfl, h1, _⟩ := ints_lit 24 0 ht
  obtain ⟨s, r2, rfl, h2⟩ := bool_cons h1
  obtain rfl := ints0 h2
  exact ⟨okT_free (by intro F hF ins; simp only [Fs_mcell00, List.mem_cons, List.not_mem_nil, or_false] at hF; rcases hF with rfl | rfl <;> trivial) _ _ (by kernel_rfl), congrFun (congrFun out_mcell00 g) s⟩
def tr_mcell01 : Tr := (.evs [.call 0 [ξr20, ξr27, ξr22, ξr58, ξr60, ξr68, ξr67] none 4, .call 0 [ξr21, ξr23, ξr24, ξr87, ξr82, ξr59, ξr86] none 4, .call 1 ξr63 none 4] ξr9)
def Fs_mcell01 : List Fun1 := [G_times, G_add]
def F_mcell01 : Fun1 := ofTree Fs_mcell01 tr_mcell01
def G_mcell01 : Fun1 := ⟨fun _ => True, fun ins => fl3 [(mixI (b0 ins 24) (q3 ins 0) (q3 ins 15) (q3 ins 3) (q3 ins 21)).1] ++ (copyV ins 0 24 ++ [.bool (mixI (b0 ins 24) (q3 ins 0) (q3 ins 15) (q3 ins 3) (q3 ins 21)).2])⟩
theorem out_mcell01 : (fun (g : Nat → Int) (s : Bool) => F_mcell01.out (ivs g 0 24 ++ [.bool s])) = fun g s => G_mcell01.out (ivs g 0 24 ++ [.bool s]) := by kernel_rfl
theorem as_mcell01 (ins : List Value) (ht : TypedL (intTs 24 ++ [.bool]) ins) (_ : G_mcell01.pre ins) : F_mcell01.pre ins ∧ F_mcell01.out ins = G_mcell01.out ins := by
  obtain ⟨g, r, rfl, h1, _⟩ := ints_lit 24 0 ht
  obtain ⟨s, r2, rfl, h2⟩ := bool_cons h1
  obtain rfl := ints0 h2
  exact ⟨okT_free (by intro F hF ins; simp only [Fs_mcell01, List.mem_cons, List.not_mem_nil, or_false] at hF; rcases hF with rfl | rfl <;> trivial) _ _ (by kernel_rfl), congrFun (congrFun out_mcell01 g) s⟩
def tr_mcell10 : Tr := (.evs [.call 0 [ξr25, ξr29, ξr34, ξr50, ξr53, ξr54, ξr67] none 4, .call 0 [ξr35, ξr26, ξr30, ξr83, ξr80, ξr69, ξr86] none 4, .call 1 ξr63 none 4] ξr9)
def Fs_mcell10 : List Fun1 := [G_times, G_add]
def F_mcell10 : Fun1 := ofTree Fs_mcell10 tr_mcell10
def G_mcell10 : Fun1 := ⟨fun _ => True, fun ins => fl3 [(mixI (b0 ins 24) (q3 ins 6) (q3 ins 12) (q3 ins 9) (q3 ins 18)).1] ++ (copyV ins 0 24 ++ [.bool (mixI (b0 ins 24) (q3 ins 6) (q3 ins 12) (q3 ins 9) (q3 ins 18)).2])⟩
theorem out_mcell10 : (fun (g : Nat → Int) (s : Bool) => F_mcell10.out (ivs g 0 24 ++ [.bool s])) = fun g s => G_mcell10.out (ivs g 0 24 ++ [.bool s]) := by kernel_rfl
theorem as_mcell10 (ins : List Value) (ht : TypedL (intTs 24 ++ [.bool]) ins) (_ : G_mcell10.pre ins) : F_mcell10.pre ins ∧ F_mcell10.out ins = G_mcell10.out ins := by
  obtain ⟨g, r, rfl, h1, _⟩ := ints_lit 24 0 ht
  obtain ⟨s, r2, rfl, h2⟩ := bool_cons h1
  obtain rfl := ints0 h2
  exact ⟨okT_free (by intro F hF ins; simp only [Fs_mcell10, List.mem_cons, List.not_mem_nil, or_false] at hF; rcases hF with rfl | rfl <;> trivial) _ _ (by kernel_rfl), congrFun (congrFun out_mcell10 g) s⟩
def tr_mcell11 : Tr := (.evs [.call 0 [ξr25, ξr29, ξr34, ξr58, ξr60, ξr68, ξr67] none 4, .call 0 [ξr35, ξr26, ξr30, ξr87, ξr82, ξr59, ξr86] none 4, .call 1 ξr63 none 4] ξr9)
def Fs_mcell11 : List Fun1 := [G_times, G_add]
def F_mcell11 : Fun1 := ofTree Fs_mcell11 tr_mcell11
def G_mcell11 : Fun1 := ⟨fun _ => True, fun ins => fl3 [(mixI (b0 ins 24) (q3 ins 6) (q3 ins 15) (q3 ins 9) (q3 ins 21)).1] ++ (copyV ins 0 24 ++ [.bool (mixI (b0 ins 24) (q3 ins 6) (q3 ins 15) (q3 ins 9) (q3 ins 21)).2])⟩
theorem out_mcell11 : (fun (g : Nat → Int) (s : Bool) => F_mcell11.out (ivs g 0 24 ++ [.bool s])) = fun g s => G_mcell11.out (ivs g 0 24 ++ [.bool s]) := by kernel_rfl
theorem as_mcell11 (ins : List Value) (ht : TypedL (intTs 24 ++ [.bool]) ins) (_ : G_mcell11.pre ins) : F_mcell11.pre ins ∧ F_mcell11.out ins = G_mcell11.out ins := by
  obtain ⟨g, r, rfl, h1, _⟩ := ints_lit 24 0 ht
  obtain ⟨s, r2, rfl, h2⟩ := bool_cons h1
  obtain rfl := ints0 h2
  exact ⟨okT_free (by intro F hF ins; simp only [Fs_mcell11, List.mem_cons, List.not_mem_nil, or_false] at hF; rcases hF with rfl | rfl <;> trivial) _ _ (by kernel_rfl), congrFun (congrFun out_mcell11 g) s⟩
def tr_gotMat : Tr := ξr64
def Fs_gotMat : List Fun1 := []
def F_gotMat : Fun1 := ofTree Fs_gotMat tr_gotMat
def G_gotMat : Fun1 := ⟨fun _ => True, fun ins => gotV (b0 ins 12) ins 0 12 ++ [.bool (!b0 ins 12), .bool (b0 ins 12)]⟩
theorem out_gotMat : (fun (g : Nat → Int) => F_gotMat.out (ivs g 0 12 ++ [.bool true])) = fun g => G_gotMat.out (ivs g 0 12 ++ [.bool true]) := by kernel_rfl
theorem out_gotMat' : (fun (g : Nat → Int) => F_gotMat.out (ivs g 0 12 ++ [.bool false])) = fun g => G_gotMat.out (ivs g 0 12 ++ [.bool false]) := by kernel_rfl
theorem as_gotMat (ins : List Value) (ht : TypedL (intTs 12 ++ [.bool]) ins) (_ : G_gotMat.pre ins) : F_gotMat.pre ins ∧ F_gotMat.out ins = G_gotMat.out ins := by
  obtain ⟨g, r, rfl, h1, _⟩ := ints_lit 12 0 ht
  obtain ⟨b, r2, rfl, h2⟩ := bool_cons h1
  obtain rfl := ints0 h2
  cases b
  · exact ⟨trivial, congrFun out_gotMat' g⟩
  · exact ⟨trivial, congrFun out_gotMat g⟩
def tr_iMatTimes : Tr := (.evs [.call 0 ξr46 none 1, .call 0 ξr70 (some ξr67) 1, .call 1 [(.ite ξr67 (.var 25) ξr2), ξr2] none 1] (.evs [.call 2 [ξr20, ξr27, ξr22, ξr21, ξr23, ξr24, ξr25, ξr29, ξr34, ξr35, ξr26, ξr30, ξr50, ξr53, ξr54, ξr58, ξr60, ξr68, ξr83, ξr80, ξr69, ξr87, ξr82, ξr59, ξr96] none 28, .call 3 [(.var 30), (.var 31), (.var 32), (.var 33), (.var 34), (.var 35), (.var 36), (.var 37), (.var 38), (.var 39), (.var 40), (.var 41), (.var 42), (.var 43), (.var 44), (.var 45), (.var 46), (.var 47), (.var 48), (.var 49), ξr81, ξr85, ξr79, (.var 53), (.var 54)] none 28, .call 4 [(.var 58), (.var 59), (.var 60), (.var 61), (.var 62), (.var 63), (.var 64), (.var 65), (.var 66), (.var 67), (.var 68), (.var 69), (.var 70), (.var 71), (.var 72), (.var 73), (.var 74), (.var 75), (.var 76), (.var 77), (.var 78), (.var 79), (.var 80), (.var 81), (.var 82)] none 28, .call 5 [(.var 86), (.var 87), (.var 88), (.var 89), (.var 90), (.var 91), (.var 92), (.var 93), (.var 94), (.var 95), (.var 96), (.var 97), (.var 98), (.var 99), (.var 100), (.var 101), (.var 102), (.var 103), (.var 104), (.var 105), (.var 106), (.var 107), (.var 108), (.var 109), (.var 110)] none 28, .call 6 [ξr95, ξr86, (.var 29), (.var 55), (.var 56), (.var 57), (.var 83), (.var 84), (.var 85), (.var 111), (.var 112), (.var 113), (.var 138)] none 14] (.ret [(.var 139), (.var 140), (.var 141), (.var 142), (.var 143), (.var 144), (.var 145), (.var 146), (.var 147), (.var 148), (.var 149), (.var 150), (.var 151)])))
def Fs_iMatTimes : List Fun1 := [G_iMatValid, G_need, G_mcell00, G_mcell01, G_mcell10, G_mcell11, G_gotMat]
def F_iMatTimes : Fun1 := ofTree Fs_iMatTimes tr_iMatTimes
def G_iMatTimes : Fun1 := ⟨fun _ => True, fun ins => nttW 4 (matQ (fun k => q3 ins (3 * k)) && matQ (fun k => q3 ins (12 + 3 * k))) (mulM (fun k => q3 ins (3 * k)) (fun k => q3 ins (12 + 3 * k)))⟩
theorem out_iMatTimes : (fun (g : Nat → Int) => evalT' Fs_iMatTimes tr_iMatTimes (ivs g 0 24)) = fun g =>
    gotL (mtI (fun k => q3 (ivs g 0 24) (3 * k)) (fun k => q3 (ivs g 0 24) (12 + 3 * k))).2 (mtI (fun k => q3 (ivs g 0 24) (3 * k)) (fun k => q3 (ivs g 0 24) (12 + 3 * k))).1 ++ [.bool (!(mtI (fun k => q3 (ivs g 0 24) (3 * k)) (fun k => q3 (ivs g 0 24) (12 + 3 * k))).2)] := by kernel_rfl
theorem as_iMatTimes (ins : List Value) (ht : TypedL (intTs 24 ++ []) ins) (_ : G_iMatTimes.pre ins) : F_iMatTimes.pre ins ∧ F_iMatTimes.out ins = G_iMatTimes.out ins := by
  obtain ⟨g, r, rfl, h1, _⟩ := ints_lit 24 0 ht
  obtain rfl := ints0 h1
  rw [List.append_nil]
  refine ⟨okT_free (by intro F hF ins; simp only [Fs_iMatTimes, List.mem_cons, List.not_mem_nil, or_false] at hF; rcases hF with rfl | rfl | rfl | rfl | rfl | rfl | rfl <;> trivial) _ _ (by kernel_rfl), (evalT_sel (lens := [1]) (Lens.cons (fun _ => rfl) Lens.nil) _ _ (by kernel_rfl)).trans ((congrFun out_iMatTimes g).trans ?_)⟩
  exact (mtI_eq _ _).trans (nttV_eq _ _ _)
def tr_l5Four : Tr := (.ite (.not ξr50) ξr15 (.ret [ξr20, ξr27, ξr22, ξr21, ξr23, ξr24, ξr25, ξr29, ξr34, ξr35, ξr26, ξr30, ξr5]))
def Fs_l5Four : List Fun1 := []
def F_l5Four : Fun1 := ofTree Fs_l5Four tr_l5Four
def G_l5Four : Fun1 := ⟨fun _ => True, fun ins => gotV (!b0 ins 12) ins 0 12 ++ [.bool (b0 ins 12)]⟩
theorem out_l5Four : (fun (g : Nat → Int) => F_l5Four.out (ivs g 0 12 ++ [.bool true])) = fun g => G_l5Four.out (ivs g 0 12 ++ [.bool true]) := by kernel_rfl
theorem out_l5Four' : (fun (g : Nat → Int) => F_l5Four.out (ivs g 0 12 ++ [.bool false])) = fun g => G_l5Four.out (ivs g 0 12 ++ [.bool false]) := by kernel_rfl
theorem as_l5Four (ins : List Value) (ht : TypedL (intTs 12 ++ [.bool]) ins) (_ : G_l5Four.pre ins) : F_l5Four.pre ins ∧ F_l5Four.out ins = G_l5Four.out ins := by
  obtain ⟨g, r, rfl, h1, _⟩ := ints_lit 12 0 ht
  obtain ⟨b, r2, rfl, h2⟩ := bool_cons h1
  obtain rfl := ints0 h2
  refine ⟨okT_free (fun F hF => by cases hF) _ _ (by kernel_rfl), ?_⟩
  cases b
  · exact congrFun out_l5Four' g
  · exact congrFun out_l5Four g
def tr_sMatTimes : Tr := (.evs [.call 0 ξr46 none 1, .call 0 ξr70 (some (.not (.not ξr67))) 1] (.ite (.ite (.not ξr67) ξr5 (.not (.var 25))) ξr15 (.evs [.call 1 [ξr20, ξr27, ξr22, ξr50, ξr53, ξr54, ξr21, ξr23, ξr24, ξr83, ξr80, ξr69] none 4] (.evs [.call 1 [ξr20, ξr27, ξr22, ξr58, ξr60, ξr68, ξr21, ξr23, ξr24, ξr87, ξr82, ξr59] none 4] (.evs [.call 1 [ξr25, ξr29, ξr34, ξr50, ξr53, ξr54, ξr35, ξr26, ξr30, ξr83, ξr80, ξr69] none 4] (.evs [.call 1 [ξr25, ξr29, ξr34, ξr58, ξr60, ξr68, ξr35, ξr26, ξr30, ξr87, ξr82, ξr59] none 4] (.evs [.call 2 [ξr96, ξr95, ξr86, (.var 30), (.var 31), (.var 32), (.var 34), (.var 35), (.var 36), (.var 38), (.var 39), (.var 40), (.ite (.ite (.ite (.var 29) (.var 33) ξr2) (.var 37) ξr2) (.var 41) ξr2)] none 13] (.ret [(.var 42), (.var 43), (.var 44), (.var 45), (.var 46), (.var 47), (.var 48), (.var 49), ξr81, ξr85, ξr79, (.var 53), (.var 54)]))))))))
def Fs_sMatTimes : List Fun1 := [G_sMatValid, G_l3Inner, G_l5Four]
def F_sMatTimes : Fun1 := ofTree Fs_sMatTimes tr_sMatTimes
def G_sMatTimes : Fun1 := ⟨fun _ => True, fun ins => nttW 4 (matQ (fun k => q3 ins (3 * k)) && matQ (fun k => q3 ins (12 + 3 * k))) (mulM (fun k => q3 ins (3 * k)) (fun k => q3 ins (12 + 3 * k)))⟩
theorem out_sMatTimes : (fun (g : Nat → Int) => evalT' Fs_sMatTimes tr_sMatTimes (ivs g 0 24)) = fun g =>
    mtS (fun k => q3 (ivs g 0 24) (3 * k)) (fun k => q3 (ivs g 0 24) (12 + 3 * k)) := by kernel_rfl
theorem as_sMatTimes (ins : List Value) (ht : TypedL (intTs 24 ++ []) ins) (_ : G_sMatTimes.pre ins) : F_sMatTimes.pre ins ∧ F_sMatTimes.out ins = G_sMatTimes.out ins := by
  obtain ⟨g, r, rfl, h1, _⟩ := ints_lit 24 0 ht
  obtain rfl := ints0 h1
  rw [List.append_nil]
  refine ⟨okT_free (by intro F hF ins; simp only [Fs_sMatTimes, List.mem_cons, List.not_mem_nil, or_false] at hF; rcases hF with rfl | rfl | rfl <;> trivial) _ _ (by kernel_rfl), (evalT_sel (lens := [1]) (Lens.cons (fun _ => rfl) Lens.nil) _ _ (by kernel_rfl)).trans ((congrFun out_sMatTimes g).trans ?_)⟩
  exact (mtS_eq _ _).trans (nttV_eq _ _ _)
def tr_wholeM : Tr := (.ret [])
def Fs_wholeM : List Fun1 := []
def F_wholeM : Fun1 := ofTree Fs_wholeM tr_wholeM
def tr_l5One : Tr := (.ret [ξr20, ξr27, ξr22, ξr0, ξr0, ξr3, ξr0, ξr0, ξr3, ξr21, ξr23, ξr24])
def Fs_l5One : List Fun1 := []
def F_l5One : Fun1 := ofTree Fs_l5One tr_l5One
def tr_pick : Tr := (.ite (.ite (.cmp .lss ξr20 ξr3) ξr5 (.cmp .eql (.len ξr27) ξr0)) (.ret [ξr0, ξr27, ξr99]) (.ite (.cmp .lss ξr19 (.len ξr27)) (.evs [.need [(.inb ξr21 ξr19 1)], .need [(.cmp .neq ξr20 ξr0)]] (.ret [(.ar .rem .i64 (.conv .i64 (.sel ξr21 ξr19 1 0)) ξr20), ξr27, ξr99])) (.evs [.need ξr56, .need ξr56] (.evs ξr52 (.evs [.need [(.cmp .neq ξr20 ξr0)]] (.ret [(.ar .rem .i64 (.ar .xor .i64 ξr37 (.ar .quo .i64 ξr37 (.int .i64 64))) ξr20), ξr27, ξr99]))))))
def Fs_pick : List Fun1 := []
def F_pick : Fun1 := ofTree Fs_pick tr_pick
theorem pick_tree {arr : Array Value} {b : Value} {n p L : Int} (hL : lenV b = L) (hs : L = (arr.size : Int)) (hL2 : L ≤ 9223372036854775807) (hn : I64 n) (hp : 0 ≤ p ∧ p ≤ 1000000000) (hb : ∀ i : Nat, 0 ≤ toI (arr.getD i undef) ∧ toI (arr.getD i undef) ≤ 255) :
    okT [] tr_pick [.int .i64 n, b, .int .i64 p, .agg arr] ∧ ∃ x, evalT [] tr_pick [.int .i64 n, b, .int .i64 p, .agg arr] = [.int .i64 x, b, .int .i64 (p + 1)] ∧ 0 ≤ x ∧ x ≤ max 0 (n - 1) := by
  have w1 : IntKind.i64.wrap (p + 1) = p + 1 := wrap_in (by omega)
  have w2 : IntKind.i64.wrap (p + 1 - 1) = p := by rw [show p + 1 - 1 = p by omega]; exact wrap_in (by omega)
  have wb : ∀ i : Nat, IntKind.i64.wrap (toI (arr.getD i undef)) = toI (arr.getD i undef) := fun i => wrap_in (by have := hb i; omega)
  unfold tr_pick
  simp only [okT, evalT, okE, evalE, needs, evsIn, ev, cmpI, arI, toI_int, List.getD_cons_zero, List.getD_cons_succ, w1, w2, hL, toB_bool, Value.cells, Nat.mul_one, Nat.add_zero, wb]
  by_cases c1 : n < 1
  · simp only [c1, decide_true, if_true, toB_bool]
    exact ⟨trivial, 0, rfl, by omega, by omega⟩
  by_cases c2 : L = 0
  · simp only [c1, c2, decide_false, Bool.false_eq_true, if_false, toB_bool, beq_self_eq_true, if_true]
    exact ⟨trivial, 0, rfl, by omega, by omega⟩
  have c3 : (L == 0) = false := by simp [c2]
  simp only [c1, c3, decide_false, Bool.false_eq_true, if_false, toB_bool]
  have n0 : (n != 0) = true := by simp; omega
  by_cases c4 : p < L
  · simp only [c4, decide_true, if_true]
    have h1 := hb p.toNat
    obtain ⟨r1, r2⟩ := tmod_rng (n := n) h1.1 (by omega)
    refine ⟨⟨⟨⟨by rw [Value.bool.injEq, decide_eq_true_eq]; omega, trivial⟩, ⟨by rw [n0], trivial⟩, trivial⟩, trivial⟩, _, rfl, r1, by omega⟩
  · simp only [c4, decide_false, Bool.false_eq_true, if_false]
    have w3 : IntKind.i64.wrap (p * 7) = p * 7 := wrap_in (by omega)
    have w4 : IntKind.i64.wrap (p * 7 + 3) = p * 7 + 3 := wrap_in (by omega)
    obtain ⟨a1, a2⟩ := tmod_rng (x := p) (n := L) (by omega) (by omega)
    obtain ⟨b1, b2⟩ := tmod_rng (x := p * 7 + 3) (n := L) (by omega) (by omega)
    obtain ⟨d1, d2⟩ := tdiv_range (x := p) (n := L) (by omega) (by omega)
    simp only [w3, w4]
    have y1 := hb (p.tmod L).toNat
    have y2 := hb ((p * 7 + 3).tmod L).toNat
    generalize toI (arr.getD (p.tmod L).toNat undef) = u at y1 ⊢
    generalize toI (arr.getD ((p * 7 + 3).tmod L).toNat undef) = v at y2 ⊢
    generalize p.tdiv L = z at d1 d2 ⊢
    rw [wrap_in (z := u * 131) (by omega), wrap_in (z := v * 1117) (by omega), wrap_in (z := p * 29) (by omega), wrap_in (z := z) (by omega), wrap_in (z := z * 53) (by omega),
      wrap_in (z := u * 131 + v * 1117) (by omega), wrap_in (z := u * 131 + v * 1117 + p * 29) (by omega), wrap_in (z := u * 131 + v * 1117 + p * 29 + z * 53) (by omega)]
    have hx : 0 ≤ u * 131 + v * 1117 + p * 29 + z * 53 ∧ u * 131 + v * 1117 + p * 29 + z * 53 ≤ 4611686018427387903 := by omega
    generalize u * 131 + v * 1117 + p * 29 + z * 53 = X at hx ⊢
    obtain ⟨t1, t2⟩ := tdiv_range (x := X) (n := 64) hx.1 (by omega)
    rw [wrap_in (z := X.tdiv 64) (by omega)]
    have hxr := xor_nonneg hx (y := X.tdiv 64) (by omega)
    obtain ⟨r1, r2⟩ := tmod_rng (n := n) hxr.1 (by omega)
    have L0 : (L != 0) = true := by simp [c2]
    refine ⟨⟨⟨⟨by rw [L0], by rw [Value.bool.injEq, decide_eq_true_eq]; omega, by rw [L0], by rw [Value.bool.injEq, decide_eq_true_eq]; omega, by rw [L0], trivial⟩, ⟨by rw [L0], by rw [Value.bool.injEq, decide_eq_true_eq]; omega, by rw [L0], by rw [Value.bool.injEq, decide_eq_true_eq]; omega, by rw [L0], trivial⟩, trivial⟩, ⟨⟨trivial, trivial⟩, trivial⟩, ⟨⟨by rw [n0], trivial⟩, trivial⟩, trivial⟩, _, rfl, r1, by omega⟩
def G_pick (cb : CodeB) : Fun1 := ⟨fun ins => goodSl cb (ins.getD 1 undef) ∧ (∃ n, ins.getD 0 undef = .int .i64 n ∧ I64 n) ∧ ∃ p, ins.getD 2 undef = .int .i64 p ∧ 0 ≤ p ∧ p ≤ 1000000000, fun ins => F_pick.out [ins.getD 0 undef, ins.getD 1 undef, ins.getD 2 undef, rowU cb (ins.getD 1 undef)]⟩
theorem pick_facts {cb : CodeB} (hk : CodeOk cb) {n p : Int} {b : Value} (hb : goodSl cb b) (hn : I64 n) (hp : 0 ≤ p ∧ p ≤ 1000000000) :
    F_pick.pre [.int .i64 n, b, .int .i64 p, rowU cb b] ∧ ∃ x, F_pick.out [.int .i64 n, b, .int .i64 p, rowU cb b] = [.int .i64 x, b, .int .i64 (p + 1)] ∧ 0 ≤ x ∧ x ≤ max 0 (n - 1) := by
  obtain ⟨a, len, cap, arr, hv, hr, hsz, hlen, harr⟩ := goodSl_row hk hb
  rw [hr]
  exact pick_tree (L := len) (by rw [hv]; rfl) (by omega) (by omega) hn hp (row_byte harr)
theorem ghost_pick {cb : CodeB} (hk : CodeOk cb) (n b p : Value) (ht : TypedL [.int .i64, .sl, .int .i64] [n, b, p]) (h : (G_pick cb).pre [n, b, p]) : goodSl cb b ∧ F_pick.pre [n, b, p, rowU cb b] ∧ F_pick.out [n, b, p, rowU cb b] = (G_pick cb).out [n, b, p] := by
  obtain ⟨h1, ⟨n, hn, hn'⟩, p, hp, hp'⟩ := h
  have hn : _ = Value.int .i64 n := hn
  have hp : _ = Value.int .i64 p := hp
  simp only [List.getD_cons_zero, List.getD_cons_succ] at hn hp h1
  subst hn hp
  exact ⟨h1, (pick_facts hk h1 hn' hp').1, rfl⟩
def tr_sMatAdjoint : Tr := (.evs [.call 0 ξr17 none 4] (.evs [.call 0 [ξr25, ξr29, ξr34] none 4] (.evs [.call 0 [ξr21, ξr23, ξr24] none 4] (.evs [.call 0 [ξr35, ξr26, ξr30] none 4] (.evs [.call 1 [ξr50, ξr53, ξr54, ξr60, ξr68, ξr83, ξr69, ξr87, ξr82, ξr67, (.var 25), ξr96, (.ite (.ite (.ite ξr58 ξr80 ξr2) ξr59 ξr2) ξr95 ξr2)] none 13] ξr91)))))
def Fs_sMatAdjoint : List Fun1 := [G_sFracMirror, G_l5Four]
def F_sMatAdjoint : Fun1 := ofTree Fs_sMatAdjoint tr_sMatAdjoint
def rotH (p q : Int) (i : Nat) : Int :=
  if dirOk p q = true then
    (if i = 0 then ((dirC p q).getD zq).1 else if i = 1 then ((dirC p q).getD zq).2.1 else if i = 2 then ((dirC p q).getD zq).2.2
     else if i = 3 then -((dirS p q).getD zq).1 else if i = 4 then 0 else if i = 5 then ((dirS p q).getD zq).2.2
     else if i = 6 then ((dirS p q).getD zq).1 else if i = 7 then ((dirS p q).getD zq).2.1 else if i = 8 then ((dirS p q).getD zq).2.2
     else if i = 9 then ((dirC p q).getD zq).1 else if i = 10 then ((dirC p q).getD zq).2.1 else ((dirC p q).getD zq).2.2)
  else 0
def rotW (p q : Int) : List Value := ivs (rotH p q) 0 12 ++ [.bool (dirOk p q)]
theorem dirS_wrap (p q : Int) : IntKind.i64.wrap (0 - ((dirS p q).getD zq).1) = -((dirS p q).getD zq).1 ∧ IntKind.i64.wrap (0 - ((dirS p q).getD zq).2.1) = 0 := by
  cases h : dirS p q with
  | none => exact ⟨rfl, rfl⟩
  | some v =>
    have hd : dirOk p q = true := by
      unfold dirS at h
      cases hd : dirOk p q with
      | true => rfl
      | false => rw [hd] at h; cases h
    have hl : lowI (2 * p * q) 0 (p * p + q * q) = some v := by
      unfold dirS at h
      rw [if_pos hd] at h
      exact h
    have h0 := low_real hl
    obtain ⟨_, l2, _⟩ := dir_facts hd
    obtain ⟨b1, b2, b3⟩ := valid_bounds (low_valid l2 hl)
    refine ⟨?_, ?_⟩
    · show IntKind.i64.wrap (0 - v.1) = -v.1
      rw [wrap_in (by omega)]; omega
    · show IntKind.i64.wrap (0 - v.2.1) = 0
      rw [h0]; rfl
def adjG (a b c d : Option Q) (i : Nat) : Int :=
  if (a.isSome && b.isSome && c.isSome && d.isSome) = true then
    (if i = 0 then (a.getD zq).1 else if i = 1 then (a.getD zq).2.1 else if i = 2 then (a.getD zq).2.2
     else if i = 3 then (b.getD zq).1 else if i = 4 then (b.getD zq).2.1 else if i = 5 then (b.getD zq).2.2
     else if i = 6 then (c.getD zq).1 else if i = 7 then (c.getD zq).2.1 else if i = 8 then (c.getD zq).2.2
     else if i = 9 then (d.getD zq).1 else if i = 10 then (d.getD zq).2.1 else (d.getD zq).2.2)
  else 0
def adjV (a b c d : Option Q) : List Value := ivs (adjG a b c d) 0 12 ++ [.bool (a.isSome && b.isSome && c.isSome && d.isSome)]
def adjW (ins : List Value) : List Value := adjV (mirQ (q3 ins 0)) (mirQ (q3 ins 6)) (mirQ (q3 ins 3)) (mirQ (q3 ins 9))
def andV (x y : Value) : Value := if toB x = true then y else .bool false
theorem adj_one (a b c d : Option Q) : gotV (((!a.isSome || !b.isSome) || !c.isSome) || !d.isSome) (fr3 a ++ (fr3 b ++ (fr3 c ++ fr3 d))) 0 12 ++ [.bool (!(((!a.isSome || !b.isSome) || !c.isSome) || !d.isSome))] = adjV a b c d := by
  cases a <;> cases b <;> cases c <;> cases d <;> rfl
theorem adj_two (a b c d : Option Q) : gotV (!toB (andV (andV (andV (.bool a.isSome) (.bool b.isSome)) (.bool c.isSome)) (.bool d.isSome))) (fr3 a ++ (fr3 b ++ (fr3 c ++ fr3 d))) 0 12 ++ [.bool (toB (andV (andV (andV (.bool a.isSome) (.bool b.isSome)) (.bool c.isSome)) (.bool d.isSome)))] = adjV a b c d := by
  cases a <;> cases b <;> cases c <;> cases d <;> rfl
def filtI (k : Bool) (a b d : Option Q) : List Value := gotV (((((false || !k) || !a.isSome) || !b.isSome) || !b.isSome) || !d.isSome) (fr3 a ++ (fr3 b ++ (fr3 b ++ fr3 d))) 0 12 ++ [.bool (!(((((false || !k) || !a.isSome) || !b.isSome) || !b.isSome) || !d.isSome))]
def filtS (k : Bool) (a b d : Option Q) : List Value := if toB (.bool (!k)) = true then zeros 12 ++ [.bool false] else gotV (!toB (andV (andV (.bool a.isSome) (.bool b.isSome)) (.bool d.isSome))) (fr3 a ++ (fr3 b ++ (fr3 b ++ fr3 d))) 0 12 ++ [.bool (toB (andV (andV (.bool a.isSome) (.bool b.isSome)) (.bool d.isSome)))]
def filtG (k : Bool) (a b d : Option Q) (i : Nat) : Int :=
  if (k && (a.isSome && (b.isSome && d.isSome))) = true then
    (if i = 0 then (a.getD zq).1 else if i = 1 then (a.getD zq).2.1 else if i = 2 then (a.getD zq).2.2
     else if i = 3 then (b.getD zq).1 else if i = 4 then (b.getD zq).2.1 else if i = 5 then (b.getD zq).2.2
     else if i = 6 then (b.getD zq).1 else if i = 7 then (b.getD zq).2.1 else if i = 8 then (b.getD zq).2.2
     else if i = 9 then (d.getD zq).1 else if i = 10 then (d.getD zq).2.1 else (d.getD zq).2.2)
  else 0
def filtV (k : Bool) (a b d : Option Q) : List Value := ivs (filtG k a b d) 0 12 ++ [.bool (k && (a.isSome && (b.isSome && d.isSome)))]
theorem filt_one (k : Bool) (a b d : Option Q) : filtI k a b d = filtV k a b d := by
  cases k <;> cases a <;> cases b <;> cases d <;> rfl
theorem filt_two (k : Bool) (a b d : Option Q) : filtS k a b d = filtV k a b d := by
  cases k <;> cases a <;> cases b <;> cases d <;> rfl
def filtW (p q : Int) : List Value := filtV (dirOk p q) (timesQ ((dirC p q).getD zq) ((dirC p q).getD zq)) (timesQ ((dirC p q).getD zq) ((dirS p q).getD zq)) (timesQ ((dirS p q).getD zq) ((dirS p q).getD zq))
def turnW (k : Int) : List Value := [if toB (Value.bool (k == 0)) = true then .int .i64 1 else if toB (Value.bool (k == 1)) = true then .int .i64 0 else if toB (Value.bool (k == 2)) = true then .int .i64 (-1) else .int .i64 0,
  if toB (Value.bool (k == 0)) = true then .int .i64 0 else if toB (Value.bool (k == 1)) = true then .int .i64 1 else if toB (Value.bool (k == 2)) = true then .int .i64 0 else .int .i64 (-1),
  if toB (Value.bool (k == 0)) = true then .int .i64 1 else if toB (Value.bool (k == 1)) = true then .int .i64 1 else if toB (Value.bool (k == 2)) = true then .int .i64 1 else .int .i64 1]
def diagW (k : Int) : List Value := [.int .i64 1, .int .i64 0, .int .i64 1, .int .i64 0, .int .i64 0, .int .i64 1, .int .i64 0, .int .i64 0, .int .i64 1] ++ turnW k
def mulW (ins : List Value) : List Value := nttW 4 (matQ (fun k => q3 ins (3 * k)) && matQ (fun k => q3 ins (12 + 3 * k))) (mulM (fun k => q3 ins (3 * k)) (fun k => q3 ins (12 + 3 * k)))
def plA (g : Nat → Int) (k : Int) : List Value := mulW (ivs g 0 12 ++ diagW k)
def plM (g : Nat → Int) (k : Int) : List Value := mulW ((plA g k).take 12 ++ (adjW (ivs g 0 12)).take 12)
def plateV (p q k : Int) : List Value :=
  if (dirOk p q && (inRg k 0 3 && (b0 (plA (rotH p q) k) 12 && b0 (plM (rotH p q) k) 12))) = true then (plM (rotH p q) k).take 12 ++ [.bool true] else zeros 12 ++ [.bool false]
theorem plate_lit (p q k : Int) : ∃ (g : Nat → Int) (b : Bool), plateV p q k = ivs g 0 12 ++ [.bool b] := by
  unfold plateV
  split
  · exact ⟨_, true, rfl⟩
  · exact ⟨fun _ => 0, false, rfl⟩
def G_sMatAdjoint : Fun1 := ⟨fun _ => True, adjW⟩
theorem adj_sI (g : Nat → Int) : F_sMatAdjoint.out (ivs g 0 12) = gotV (!toB (andV (andV (andV (.bool (mirQ (q3 (ivs g 0 12) 0)).isSome) (.bool (mirQ (q3 (ivs g 0 12) 6)).isSome)) (.bool (mirQ (q3 (ivs g 0 12) 3)).isSome)) (.bool (mirQ (q3 (ivs g 0 12) 9)).isSome))) (fr3 (mirQ (q3 (ivs g 0 12) 0)) ++ (fr3 (mirQ (q3 (ivs g 0 12) 6)) ++ (fr3 (mirQ (q3 (ivs g 0 12) 3)) ++ fr3 (mirQ (q3 (ivs g 0 12) 9))))) 0 12 ++ [.bool (toB (andV (andV (andV (.bool (mirQ (q3 (ivs g 0 12) 0)).isSome) (.bool (mirQ (q3 (ivs g 0 12) 6)).isSome)) (.bool (mirQ (q3 (ivs g 0 12) 3)).isSome)) (.bool (mirQ (q3 (ivs g 0 12) 9)).isSome)))] := by
  kernel_rfl
theorem as_sMatAdjoint (ins : List Value) (ht : TypedL (intTs 12 ++ []) ins) (_ : G_sMatAdjoint.pre ins) : F_sMatAdjoint.pre ins ∧ F_sMatAdjoint.out ins = G_sMatAdjoint.out ins := by
  obtain ⟨g, r, rfl, h1, _⟩ := ints_lit 12 0 ht
  obtain rfl := ints0 h1
  rw [List.append_nil]
  exact ⟨okT_free (by intro F hF ins; simp only [Fs_sMatAdjoint, List.mem_cons, List.not_mem_nil, or_false] at hF; rcases hF with rfl | rfl <;> trivial) _ _ (by kernel_rfl), (adj_sI g).trans (adj_two _ _ _ _)⟩
def tr_sMatRotator : Tr := (.evs [.call 0 [ξr20, ξr27] none 7] (.evs [.call 1 [ξr22, ξr21, ξr23, (.ar .sub .i64 ξr0 ξr24), ξr0, ξr29, ξr24, ξr25, ξr29, ξr22, ξr21, ξr23, ξr34] none 13] (.ret [ξr35, ξr26, ξr30, ξr50, ξr53, ξr54, ξr58, ξr60, ξr68, ξr83, ξr80, ξr69, ξr87])))
def Fs_sMatRotator : List Fun1 := [G_l5Direction, G_l5Four]
def F_sMatRotator : Fun1 := ofTree Fs_sMatRotator tr_sMatRotator
def G_sMatRotator : Fun1 := ⟨fun _ => True, fun ins => rotW (i0 ins 0) (i0 ins 1)⟩
theorem as_sMatRotator (ins : List Value) (ht : TypedL [.int .i64, .int .i64] ins) (_ : G_sMatRotator.pre ins) : F_sMatRotator.pre ins ∧ F_sMatRotator.out ins = G_sMatRotator.out ins := by
  obtain ⟨p, q, rfl, wp, wq⟩ := ints2 ht
  obtain ⟨w1, w2⟩ := dirS_wrap p q
  rw [Int.zero_sub] at w1 w2
  simp only [F_sMatRotator, G_sMatRotator, tr_sMatRotator, Fs_sMatRotator, G_l5Direction, G_l5Four, gotV, dirV, fr3, arI, ofTree, okT, okE, evalT, evalE, evsIn, ev, callF, preF, hasF, needs, i0, b0, toI_int, toB_bool, List.getD_cons_zero, List.getD_cons_succ, List.cons_append, List.nil_append, List.replicate, if_true, if_false, Bool.false_eq_true, and_true, true_and, implies_true, forall_const, false_implies, cmpI, Bool.not_true, Bool.not_false, Bool.true_and, Bool.false_and, Bool.and_true, Bool.and_false, reduceIte, List.append_nil, reduceCtorEq]
  cases h : dirOk p q
  · simp [h, rotW, rotH, ivs]
  · simp [h, rotW, rotH, ivs, w1, w2]
def tr_l5PhaseK : Tr := (.evs [.need [(.cmp .leq ξr0 ξr20), (.cmp .lss ξr20 (.int .i64 4))]] (.ret [(.ite (.cmp .eql ξr20 ξr0) ξr3 (.ite (.cmp .eql ξr20 ξr3) ξr0 (.ite (.cmp .eql ξr20 ξr77) ξr103 ξr0))), (.ite (.cmp .eql ξr20 ξr0) ξr0 (.ite (.cmp .eql ξr20 ξr3) ξr3 (.ite (.cmp .eql ξr20 ξr77) ξr0 ξr103))), (.ite (.cmp .eql ξr20 ξr0) ξr3 (.ite (.cmp .eql ξr20 ξr3) ξr3 (.ite (.cmp .eql ξr20 ξr77) ξr3 ξr3)))]))
def Fs_l5PhaseK : List Fun1 := []
def F_l5PhaseK : Fun1 := ofTree Fs_l5PhaseK tr_l5PhaseK
def tr_sMatPlate : Tr := (.evs [.call 0 [ξr20, ξr27] none 13] (.evs [.call 1 [ξr22, ξr0, (.int .i64 3)] (some (.not (.not ξr58))) 1] (.ite (.ite (.not ξr58) ξr5 (.not ξr60)) ξr15 (.evs [.call 2 ξr84 none 13] (.evs [.call 3 [ξr0] none 3, .call 3 [ξr22] none 3, .call 4 [(.var 30), (.var 31), (.var 32), (.var 33), (.var 34), (.var 35)] none 12, .call 5 [ξr21, ξr23, ξr24, ξr25, ξr29, ξr34, ξr35, ξr26, ξr30, ξr50, ξr53, ξr54, (.var 36), (.var 37), (.var 38), (.var 39), (.var 40), (.var 41), (.var 42), (.var 43), (.var 44), (.var 45), (.var 46), (.var 47)] none 13] (.evs [.call 5 [(.var 48), (.var 49), ξr81, ξr85, ξr79, (.var 53), (.var 54), (.var 55), (.var 56), (.var 57), (.var 58), (.var 59), ξr68, ξr83, ξr80, ξr69, ξr87, ξr82, ξr59, ξr67, (.var 25), ξr96, ξr95, ξr86] none 13] (.ite (.ite (.not (.var 60)) ξr5 (.not (.var 73))) ξr15 (.ret [(.var 61), (.var 62), (.var 63), (.var 64), (.var 65), (.var 66), (.var 67), (.var 68), (.var 69), (.var 70), (.var 71), (.var 72), ξr5]))))))))
def Fs_sMatPlate : List Fun1 := [G_sMatRotator, G_l6In, G_sMatAdjoint, F_l5PhaseK, F_l5One, G_sMatTimes]
theorem ite_t {P : Program} {specs : List Spec} {c : Ex} {a b : Tr} {env : List Value} {N : List (List Value → Prop)} {K : List Value → Prop} (h : ev env c = .bool true) (ha : sat P specs a env N K) : sat P specs (.ite c a b) env N K :=
  ⟨fun _ => ha, (fun h2 => by rw [h] at h2; cases h2)⟩
theorem ite_f {P : Program} {specs : List Spec} {c : Ex} {a b : Tr} {env : List Value} {N : List (List Value → Prop)} {K : List Value → Prop} (h : ev env c = .bool false) (hb : sat P specs b env N K) : sat P specs (.ite c a b) env N K :=
  ⟨(fun h2 => by rw [h] at h2; cases h2), fun _ => hb⟩
theorem beq_f {k m : UInt8} (h : k ≠ m) : Value.bool ((k.toNat : Int) == (m.toNat : Int)) = .bool false := by
  congr 1
  rw [beq_eq_false_iff_ne]
  intro e
  exact h (UInt8.toNat_inj.1 (by omega))
theorem two_list {ns : List Int} (h : ns.length = 2) : ∃ p q, ns = [p, q] := by
  match ns, h with
  | [p, q], _ => exact ⟨p, q, rfl⟩
theorem three_list {ns : List Int} (h : ns.length = 3) : ∃ p q r, ns = [p, q, r] := by
  match ns, h with
  | [p, q, r], _ => exact ⟨p, q, r, rfl⟩
theorem ok_len2 {k : UInt8} {ns : List Int} (hk : k = 114 ∨ k = 102 ∨ k = 97 ∨ k = 100) (h : ns.length ≠ 2) : okPiece k ns = false := by
  match ns, h with
  | [], _ => rcases hk with rfl | rfl | rfl | rfl <;> rfl
  | [_], _ => rcases hk with rfl | rfl | rfl | rfl <;> rfl
  | [_, _], h => exact absurd rfl h
  | _ :: _ :: _ :: _, _ => rcases hk with rfl | rfl | rfl | rfl <;> rfl
theorem ok_len3 {ns : List Int} (h : ns.length ≠ 3) : okPiece 119 ns = false := by
  match ns, h with
  | [], _ => rfl
  | [_], _ => rfl
  | [_, _], _ => rfl
  | [_, _, _], h => exact absurd rfl h
  | _ :: _ :: _ :: _ :: _, _ => rfl
theorem ok_other {k : UInt8} {ns : List Int} (h1 : k ≠ 114) (h2 : k ≠ 102) (h3 : k ≠ 119) (h4 : k ≠ 97) (h5 : k ≠ 100) : okPiece k ns = false := by
  unfold okPiece
  rw [if_neg (by simp [h1, h2]), if_neg h3, if_neg (by simp [h4, h5])]
theorem k_cases (k : UInt8) : k = 114 ∨ k = 102 ∨ k = 119 ∨ k = 97 ∨ k = 100 ∨ (k ≠ 114 ∧ k ≠ 102 ∧ k ≠ 119 ∧ k ≠ 97 ∧ k ≠ 100) := by
  by_cases h1 : k = 114
  · exact .inl h1
  by_cases h2 : k = 102
  · exact .inr (.inl h2)
  by_cases h3 : k = 119
  · exact .inr (.inr (.inl h3))
  by_cases h4 : k = 97
  · exact .inr (.inr (.inr (.inl h4)))
  by_cases h5 : k = 100
  · exact .inr (.inr (.inr (.inr (.inl h5))))
  exact .inr (.inr (.inr (.inr (.inr ⟨h1, h2, h3, h4, h5⟩))))
theorem phase_pre {k : Int} (h0 : 0 ≤ k) (h1 : k ≤ 3) : F_l5PhaseK.pre [.int .i64 k] := by
  have n1 : Value.bool (decide ((0 : Int) ≤ k)) = .bool true := bt h0
  have n2 : Value.bool (decide (k < (4 : Int))) = .bool true := bt (by omega)
  exact ⟨⟨⟨n1, n2, trivial⟩, trivial⟩, trivial⟩
def SP_sMatPlate : Spec := fun ins K => ∃ p q k, ins = [.int .i64 p, .int .i64 q, .int .i64 k] ∧ K (plateV p q k)
set_option maxHeartbeats 2000000 in
theorem sat_sMatPlate (P : Program) (ins : List Value) (K : List Value → Prop) (_ : TypedL [.int .i64, .int .i64, .int .i64] ins) (h : SP_sMatPlate ins K) : sat P (specsOf Fs_sMatPlate) tr_sMatPlate ins [] K := by
  obtain ⟨p, q, k, rfl, hK⟩ := h
  unfold plateV at hK
  refine evs_step (call_step rfl ⟨trivial, evs_nil ?_⟩)
  show sat P _ _ ([.int .i64 p, .int .i64 q, .int .i64 k] ++ (ivs (rotH p q) 0 12 ++ [.bool (dirOk p q)])) [] K
  generalize rotH p q = g at *
  cases hd : dirOk p q with
  | false =>
    rw [hd] at hK
    exact evs_step (callg_step rfl (fun h => by cases h) (fun _ => evs_nil (ite_t rfl hK)))
  | true =>
    refine evs_step (callg_step rfl (fun _ => ⟨trivial, evs_nil ?_⟩) (fun h => by cases h))
    show sat P _ _ ([.int .i64 p, .int .i64 q, .int .i64 k] ++ (ivs g 0 12 ++ [.bool true]) ++ [.bool (inRg k 0 3)]) [] K
    rw [hd, Bool.true_and] at hK
    cases hk : inRg k 0 3 with
    | false =>
      rw [hk] at hK
      exact ite_t rfl hK
    | true =>
      rw [hk, Bool.true_and] at hK
      have hk2 : 0 ≤ k ∧ k ≤ 3 := by simpa [inRg] using hk
      refine ite_f rfl (evs_step (call_step rfl ⟨trivial, evs_nil ?_⟩))
      refine evs_step (call_step rfl ⟨phase_pre (k := 0) (by omega) (by omega), call_step rfl ⟨phase_pre hk2.1 hk2.2, call_step rfl ⟨trivial, call_step rfl ⟨trivial, evs_nil ?_⟩⟩⟩⟩)
      refine evs_step (call_step rfl ⟨trivial, evs_nil ?_⟩)
      refine ⟨fun h => ?_, fun h => ?_⟩
      · have h' : (if toB (.bool (!(b0 (plA g k) 12))) = true then Value.bool true else .bool (!(b0 (plM g k) 12))) = .bool true := Eq.trans (by kernel_rfl) h
        have hf : (b0 (plA g k) 12 && b0 (plM g k) 12) = false := by
          generalize b0 (plA g k) 12 = x at h'
          generalize b0 (plM g k) 12 = y at h'
          cases x <;> cases y <;> first | rfl | cases h'
        rw [hf] at hK
        exact hK
      · have h' : (if toB (.bool (!(b0 (plA g k) 12))) = true then Value.bool true else .bool (!(b0 (plM g k) 12))) = .bool false := Eq.trans (by kernel_rfl) h
        have hf : (b0 (plA g k) 12 && b0 (plM g k) 12) = true := by
          generalize b0 (plA g k) 12 = x at h'
          generalize b0 (plM g k) 12 = y at h'
          cases x <;> cases y <;> first | rfl | cases h'
        rw [hf] at hK
        have hK : K ((plM g k).take 12 ++ [.bool true]) := hK
        refine Eq.mp (congrArg K ?_) hK
        kernel_rfl
def tr_sMatFilter : Tr := (.evs [.call 0 [ξr20, ξr27] none 7] (.ite (.not ξr34) ξr15 (.evs [.call 1 [ξr22, ξr21, ξr23, ξr22, ξr21, ξr23] none 4] (.evs [.call 1 [ξr22, ξr21, ξr23, ξr24, ξr25, ξr29] none 4] (.evs [.call 1 [ξr24, ξr25, ξr29, ξr24, ξr25, ξr29] none 4] (.evs [.call 2 [ξr35, ξr26, ξr30, ξr53, ξr54, ξr58, ξr53, ξr54, ξr58, ξr68, ξr83, ξr80, (.ite (.ite ξr50 ξr60 ξr2) ξr69 ξr2)] none 13] (.ret [ξr87, ξr82, ξr59, ξr67, (.var 25), ξr96, ξr95, ξr86, (.var 29), (.var 30), (.var 31), (.var 32), (.var 33)])))))))
def Fs_sMatFilter : List Fun1 := [G_l5Direction, G_sFracTimes, G_l5Four]
def F_sMatFilter : Fun1 := ofTree Fs_sMatFilter tr_sMatFilter
def G_sMatFilter : Fun1 := ⟨fun _ => True, fun ins => filtW (i0 ins 0) (i0 ins 1)⟩
theorem filt_sI (p q : Int) : F_sMatFilter.out [.int .i64 p, .int .i64 q] = filtS (dirOk p q) (timesQ ((dirC p q).getD zq) ((dirC p q).getD zq)) (timesQ ((dirC p q).getD zq) ((dirS p q).getD zq)) (timesQ ((dirS p q).getD zq) ((dirS p q).getD zq)) := by kernel_rfl
theorem as_sMatFilter (ins : List Value) (ht : TypedL [.int .i64, .int .i64] ins) (_ : G_sMatFilter.pre ins) : F_sMatFilter.pre ins ∧ F_sMatFilter.out ins = G_sMatFilter.out ins := by
  obtain ⟨p, q, rfl, wp, wq⟩ := ints2 ht
  exact ⟨okT_free (by intro F hF ins; simp only [Fs_sMatFilter, List.mem_cons, List.not_mem_nil, or_false] at hF; rcases hF with rfl | rfl | rfl <;> trivial) _ _ (by kernel_rfl), (filt_sI p q).trans (filt_two _ _ _ _)⟩
def tr_l6tDiag : Tr := (.evs ξr52 (.evs ξr52 (.evs ξr52 (.evs ξr52 (.evs ξr52 (.evs ξr52 (.evs ξr52 (.evs ξr52 (.evs ξr52 (.evs ξr52 (.evs ξr52 (.evs ξr52 (.evs ξr52 (.evs ξr52 (.evs ξr52 (.evs ξr52 ξr49))))))))))))))))
def Fs_l6tDiag : List Fun1 := []
def F_l6tDiag : Fun1 := ofTree Fs_l6tDiag tr_l6tDiag
def tr_l6tUnit : Tr := (.evs [.call 0 [ξr3, ξr0, ξr3] none 48] (.ret ξr1))
def Fs_l6tUnit : List Fun1 := [F_l6tDiag]
def F_l6tUnit : Fun1 := ofTree Fs_l6tUnit tr_l6tUnit
abbrev F_pickC := G_pick
abbrev F_openC := G_open
def tr_iDiag : Tr := (.ret [ξr20, ξr27, ξr22, ξr0, ξr0, ξr3, ξr0, ξr0, ξr3, ξr0, ξr0, ξr3, ξr0, ξr0, ξr3, ξr21, ξr23, ξr24, ξr0, ξr0, ξr3, ξr0, ξr0, ξr3, ξr0, ξr0, ξr3, ξr0, ξr0, ξr3, ξr21, ξr23, ξr24, ξr0, ξr0, ξr3, ξr0, ξr0, ξr3, ξr0, ξr0, ξr3, ξr0, ξr0, ξr3, ξr21, ξr23, ξr24])
def Fs_iDiag : List Fun1 := []
def F_iDiag : Fun1 := ofTree Fs_iDiag tr_iDiag
def tr_wholeK1 : Tr := (.ret [])
def Fs_wholeK1 : List Fun1 := []
def F_wholeK1 : Fun1 := ofTree Fs_wholeK1 tr_wholeK1
def tr_iFracCompare : Tr := (.evs ξr32 (.ite ξr98 (.ret [ξr0, ξr2]) (.ite (.cmp .lss ξr97 ξr0) (.ret [ξr103, ξr5]) (.ite (.cmp .gtr ξr97 ξr0) (.ret [ξr3, ξr5]) (.ret [ξr0, ξr5])))))
def Fs_iFracCompare : List Fun1 := [G_realOk]
def F_iFracCompare : Fun1 := ofTree Fs_iFracCompare tr_iFracCompare
def G_iFracCompare : Fun1 := ⟨fun _ => True, fun ins => [.int .i64 (cmpF (q3 ins 0) (q3 ins 3)), .bool (realQ (q3 ins 0) && realQ (q3 ins 3))]⟩
theorem cmp_facts {a b c x y z : Int} (h : realQ (a, b, c) = true) (k : realQ (x, y, z) = true) : IntKind.i64.wrap (a * z) = a * z ∧ IntKind.i64.wrap (x * c) = x * c ∧ IntKind.i64.wrap (a * z - x * c) = a * z - x * c ∧ I64 (a * z - x * c) := by
  have h := realQ_valid h
  have k := realQ_valid k
  obtain ⟨e1, e2, e3, e4, e5, e6, e7, e8, e9, l1, l2⟩ := sum_facts h k
  exact ⟨e1, e2, e8, (I64_iff _).1 e8⟩
theorem as_iFracCompare (ins : List Value) (ht : TypedL [.int .i64, .int .i64, .int .i64, .int .i64, .int .i64, .int .i64] ins) (_ : G_iFracCompare.pre ins) : F_iFracCompare.pre ins ∧ F_iFracCompare.out ins = G_iFracCompare.out ins := by
  obtain ⟨a, b, c, x, y, z, rfl, _⟩ := ints6 ht
  simp only [F_iFracCompare, G_iFracCompare, tr_iFracCompare, Fs_iFracCompare, G_realOk, cmpF, crossI, q3, arI, ofTree, okT, okE, evalT, evalE, evsIn, ev, callF, preF, hasF, needs, i0, b0, toI_int, toB_bool, List.getD_cons_zero, List.getD_cons_succ, List.cons_append, List.nil_append, List.replicate, if_true, if_false, Bool.false_eq_true, and_true, true_and, implies_true, forall_const, false_implies, cmpI, Bool.not_true, Bool.not_false, Bool.true_and, Bool.false_and, Bool.and_true, Bool.and_false, reduceIte, List.append_nil, reduceCtorEq]
  cases h : realQ (a, b, c)
  · simp [h]
  · cases k : realQ (x, y, z)
    · simp [h, k]
    · obtain ⟨e1, e2, e3, _⟩ := cmp_facts h k
      simp only [h, k, e1, e2, e3, ofTree, okT, okE, evalT, evalE, evsIn, ev, callF, preF, hasF, needs, i0, b0, toI_int, toB_bool, List.getD_cons_zero, List.getD_cons_succ, List.cons_append, List.nil_append, List.replicate, if_true, if_false, Bool.false_eq_true, and_true, true_and, implies_true, forall_const, false_implies, cmpI, Bool.not_true, Bool.not_false, Bool.true_and, Bool.false_and, Bool.and_true, Bool.and_false, reduceIte, List.append_nil, reduceCtorEq]
      unfold sgnI
      generalize a * z - x * c = m
      by_cases h1 : m < 0
      · simp [h1]
      · by_cases h2 : m > 0
        · simp [h1, h2]
        · simp [h1, h2]
def tr_six : Tr := (.evs [.app (.val (.agg #[])) 3 (.cells [])] (.evs [.call 0 [] none 0] (.evs [.call 2 [ξr20, ξr27, ξr22, ξr21, ξr23, ξr24, ξr25, ξr29, ξr34, ξr35, ξr26, ξr30, ξr50, ξr53, ξr54, ξr58, ξr60, ξr68, ξr83, ξr80, ξr69, ξr87, ξr82, ξr59, ξr67, (.var 25), ξr96, ξr95, ξr86, (.var 29), (.var 30), (.var 31), (.var 32), (.var 33), (.var 34), (.var 35), (.var 36), (.var 37), (.var 38), (.var 39), (.var 40), (.var 41), (.var 42), (.var 43), (.var 44), (.var 45), (.var 46), (.var 47), ξr3, ξr0, ξr3, ξr3, ξr0, ξr3, ξr0, ξr0, ξr3, ξr0, ξr0, ξr3] none 13] (.ite (.not (.var 62)) ξr45 (.evs [.app (.val (.agg #[])) 3 (.cells [ξr81, ξr85, ξr79])] (.evs [.call 1 [] none 0] (.evs [.call 2 [ξr20, ξr27, ξr22, ξr21, ξr23, ξr24, ξr25, ξr29, ξr34, ξr35, ξr26, ξr30, ξr50, ξr53, ξr54, ξr58, ξr60, ξr68, ξr83, ξr80, ξr69, ξr87, ξr82, ξr59, ξr67, (.var 25), ξr96, ξr95, ξr86, (.var 29), (.var 30), (.var 31), (.var 32), (.var 33), (.var 34), (.var 35), (.var 36), (.var 37), (.var 38), (.var 39), (.var 40), (.var 41), (.var 42), (.var 43), (.var 44), (.var 45), (.var 46), (.var 47), ξr3, ξr0, ξr3, ξr103, ξr0, ξr3, ξr0, ξr0, ξr3, ξr0, ξr0, ξr3] none 13] (.ite (.not (.var 77)) ξr45 (.evs [.app (.var 64) 3 (.cells [(.var 65), (.var 66), (.var 67)])] (.evs [.call 0 [] none 0] (.evs [.call 2 [ξr20, ξr27, ξr22, ξr21, ξr23, ξr24, ξr25, ξr29, ξr34, ξr35, ξr26, ξr30, ξr50, ξr53, ξr54, ξr58, ξr60, ξr68, ξr83, ξr80, ξr69, ξr87, ξr82, ξr59, ξr67, (.var 25), ξr96, ξr95, ξr86, (.var 29), (.var 30), (.var 31), (.var 32), (.var 33), (.var 34), (.var 35), (.var 36), (.var 37), (.var 38), (.var 39), (.var 40), (.var 41), (.var 42), (.var 43), (.var 44), (.var 45), (.var 46), (.var 47), ξr3, ξr0, ξr3, ξr0, ξr0, ξr3, ξr3, ξr0, ξr3, ξr0, ξr0, ξr3] none 13] (.ite (.not (.var 92)) ξr45 (.evs [.app (.var 79) 3 (.cells [(.var 80), (.var 81), (.var 82)])] (.evs [.call 1 [] none 0] (.evs [.call 2 [ξr20, ξr27, ξr22, ξr21, ξr23, ξr24, ξr25, ξr29, ξr34, ξr35, ξr26, ξr30, ξr50, ξr53, ξr54, ξr58, ξr60, ξr68, ξr83, ξr80, ξr69, ξr87, ξr82, ξr59, ξr67, (.var 25), ξr96, ξr95, ξr86, (.var 29), (.var 30), (.var 31), (.var 32), (.var 33), (.var 34), (.var 35), (.var 36), (.var 37), (.var 38), (.var 39), (.var 40), (.var 41), (.var 42), (.var 43), (.var 44), (.var 45), (.var 46), (.var 47), ξr3, ξr0, ξr3, ξr0, ξr0, ξr3, ξr103, ξr0, ξr3, ξr0, ξr0, ξr3] none 13] (.ite (.not (.var 107)) ξr45 (.evs [.app (.var 94) 3 (.cells [(.var 95), (.var 96), (.var 97)])] (.evs [.call 0 [] none 0] (.evs [.call 2 [ξr20, ξr27, ξr22, ξr21, ξr23, ξr24, ξr25, ξr29, ξr34, ξr35, ξr26, ξr30, ξr50, ξr53, ξr54, ξr58, ξr60, ξr68, ξr83, ξr80, ξr69, ξr87, ξr82, ξr59, ξr67, (.var 25), ξr96, ξr95, ξr86, (.var 29), (.var 30), (.var 31), (.var 32), (.var 33), (.var 34), (.var 35), (.var 36), (.var 37), (.var 38), (.var 39), (.var 40), (.var 41), (.var 42), (.var 43), (.var 44), (.var 45), (.var 46), (.var 47), ξr3, ξr0, ξr3, ξr0, ξr0, ξr3, ξr0, ξr0, ξr3, ξr3, ξr0, ξr3] none 13] (.ite (.not (.var 122)) ξr45 (.evs [.app (.var 109) 3 (.cells [(.var 110), (.var 111), (.var 112)])] (.evs [.call 1 [] none 0] (.evs [.call 2 [ξr20, ξr27, ξr22, ξr21, ξr23, ξr24, ξr25, ξr29, ξr34, ξr35, ξr26, ξr30, ξr50, ξr53, ξr54, ξr58, ξr60, ξr68, ξr83, ξr80, ξr69, ξr87, ξr82, ξr59, ξr67, (.var 25), ξr96, ξr95, ξr86, (.var 29), (.var 30), (.var 31), (.var 32), (.var 33), (.var 34), (.var 35), (.var 36), (.var 37), (.var 38), (.var 39), (.var 40), (.var 41), (.var 42), (.var 43), (.var 44), (.var 45), (.var 46), (.var 47), ξr3, ξr0, ξr3, ξr0, ξr0, ξr3, ξr0, ξr0, ξr3, ξr103, ξr0, ξr3] none 13] (.ite (.not (.var 137)) ξr45 (.evs [.app (.var 124) 3 (.cells [(.var 125), (.var 126), (.var 127)])] (.ret [(.var 138), ξr5, (.var 139)]))))))))))))))))))))))))))
def Fs_six : List Fun1 := [F_wholeK1, F_wholeM, G_iTableApply]
def kOk (l : List Value) (k : Nat) : Bool := nttT 4 (apQ (l ++ kd k)) (apD (l ++ kd k))
def kX (l : List Value) (k : Nat) : Q := tri (nttH 4 (apQ (l ++ kd k)) (apD (l ++ kd k))) 0
def sixV (l : List Value) : Nat → List Value
  | 0 => []
  | k + 1 => sixV l k ++ vQ (kX l k)
theorem sixV_len (l : List Value) : ∀ k, (sixV l k).length = k * 3
  | 0 => rfl
  | k + 1 => by rw [sixV, List.length_append, sixV_len l k]; simp [vQ]; omega
theorem kd_get (g : Nat → Int) (k : Nat) : (∀ j, j < 16 → q3 (ivs g 0 48 ++ kd k) (3 * j) = tri g (3 * j)) ∧ ∀ j, j < 4 → q3 (ivs g 0 48 ++ kd k) (48 + 3 * j) = q3 (kd k) (3 * j) :=
  ⟨get16 rfl rfl rfl rfl rfl rfl rfl rfl rfl rfl rfl rfl rfl rfl rfl rfl, get4 rfl rfl rfl rfl⟩
theorem kd_val {k : Nat} (hk : k < 6) : ∃ s : Rat, (s = 1 ∨ s = -1) ∧ s = (if k % 2 = 0 then 1 else -1) ∧ ∀ x : Nat → Rat, x 0 * reR (q3 (kd k) (3 * 0)) + x 1 * reR (q3 (kd k) (3 * 1)) + x 2 * reR (q3 (kd k) (3 * 2)) + x 3 * reR (q3 (kd k) (3 * 3)) = x 0 + s * x (1 + k / 2) := by
  have r1 : reR (1, 0, 1) = 1 := by decide +kernel
  have r0 : reR (0, 0, 1) = 0 := by decide +kernel
  have rm : reR (-1, 0, 1) = -1 := by decide +kernel
  rcases (by omega : k = 0 ∨ k = 1 ∨ k = 2 ∨ k = 3 ∨ k = 4 ∨ k = 5) with rfl | rfl | rfl | rfl | rfl | rfl
  · exact ⟨1, .inl rfl, rfl, fun x => by show x 0 * reR (1, 0, 1) + x 1 * reR (1, 0, 1) + x 2 * reR (0, 0, 1) + x 3 * reR (0, 0, 1) = x 0 + 1 * x 1; rw [r1, r0]; grind⟩
  · exact ⟨-1, .inr rfl, rfl, fun x => by show x 0 * reR (1, 0, 1) + x 1 * reR (-1, 0, 1) + x 2 * reR (0, 0, 1) + x 3 * reR (0, 0, 1) = x 0 + -1 * x 1; rw [r1, r0, rm]; grind⟩
  · exact ⟨1, .inl rfl, rfl, fun x => by show x 0 * reR (1, 0, 1) + x 1 * reR (0, 0, 1) + x 2 * reR (1, 0, 1) + x 3 * reR (0, 0, 1) = x 0 + 1 * x 2; rw [r1, r0]; grind⟩
  · exact ⟨-1, .inr rfl, rfl, fun x => by show x 0 * reR (1, 0, 1) + x 1 * reR (0, 0, 1) + x 2 * reR (-1, 0, 1) + x 3 * reR (0, 0, 1) = x 0 + -1 * x 2; rw [r1, r0, rm]; grind⟩
  · exact ⟨1, .inl rfl, rfl, fun x => by show x 0 * reR (1, 0, 1) + x 1 * reR (0, 0, 1) + x 2 * reR (0, 0, 1) + x 3 * reR (1, 0, 1) = x 0 + 1 * x 3; rw [r1, r0]; grind⟩
  · exact ⟨-1, .inr rfl, rfl, fun x => by show x 0 * reR (1, 0, 1) + x 1 * reR (0, 0, 1) + x 2 * reR (0, 0, 1) + x 3 * reR (-1, 0, 1) = x 0 + -1 * x 3; rw [r1, r0, rm]; grind⟩
theorem kX_of {l : List Value} {t : Nat → Q} {k : Nat} (hk : k < 6) (e1 : ∀ j, j < 16 → q3 (l ++ kd k) (3 * j) = t j) (e2 : ∀ j, j < 4 → q3 (l ++ kd k) (48 + 3 * j) = q3 (kd k) (3 * j)) (h : kOk l k = true) :
    realQ (kX l k) = true ∧ (∀ j, j < 16 → realQ (t j) = true) ∧ reR (kX l k) = reR (t 0) + (if k % 2 = 0 then 1 else -1) * reR (t (1 + k / 2)) := by
  have h : nttT 4 (apQ (l ++ kd k)) (apD (l ++ kd k)) = true := h
  obtain ⟨o1, o2⟩ := nttT_ok h
  unfold apQ at o1
  rw [Bool.and_eq_true] at o1
  have ht : ∀ j, j < 16 → realQ (t j) = true := fun j hj => by rw [← e1 j hj]; exact tab_get o1.1 j hj
  have hs : ∀ j, j < 4 → realQ (q3 (kd k) (3 * j)) = true := kd_real k hk
  obtain ⟨v, hv⟩ := o2 0 (by omega)
  have hx : tri (nttH 4 (apQ (l ++ kd k)) (apD (l ++ kd k))) (3 * 0) = v := ntt_tri h hv
  have hx : kX l k = v := hx
  unfold apD at hv
  rw [dot_congr (row_congr e1 (by omega : 0 < 4)) e2] at hv
  obtain ⟨d1, d2, d3⟩ := dot_val hv (fun j hj => realQ_im (ht (4 * 0 + j) (by omega))) (fun j hj => realQ_im (hs j hj))
  obtain ⟨s, _, hs1, hs2⟩ := kd_val hk
  rw [hx]
  refine ⟨realQ_of d3 d2, ht, ?_⟩
  rw [d1, ← hs1]
  have := hs2 fun j => reR (rowF t 0 j)
  refine this.trans ?_
  unfold rowF
  simp only [Nat.mul_zero, Nat.zero_add]
theorem kX_real {g : Nat → Int} {k : Nat} (hk : k < 6) (h : kOk (ivs g 0 48) k = true) : realQ (kX (ivs g 0 48) k) = true ∧ (∀ j, j < 16 → realQ (tri g (3 * j)) = true) ∧
    reR (kX (ivs g 0 48) k) = reR (tri g 0) + (if k % 2 = 0 then 1 else -1) * reR (tri g (3 * (1 + k / 2))) :=
  kX_of (t := fun j => tri g (3 * j)) hk (kd_get g k).1 (kd_get g k).2 h
theorem sixV_get (l : List Value) : ∀ (n k j : Nat), k < n → j < 3 → (sixV l n).getD (k * 3 + j) undef = (vQ (kX l k)).getD j undef
  | 0, k, j, h, _ => by omega
  | n + 1, k, j, h, hj => by
    rw [sixV]
    by_cases hk : k < n
    · rw [← sixV_get l n k j hk hj]
      simp only [List.getD_eq_getElem?_getD]
      rw [List.getElem?_append_left (by rw [sixV_len]; omega)]
    · obtain rfl : k = n := by omega
      simp only [List.getD_eq_getElem?_getD]
      rw [List.getElem?_append_right (by rw [sixV_len]; omega), sixV_len, show k * 3 + j - k * 3 = j by omega]
theorem six_sel (l : List Value) {n k j : Nat} (hk : k < n) (hj : j < 3) : (Value.agg (sixV l n).toArray).cells.getD (k * 3 + j) undef = (vQ (kX l k)).getD j undef := by
  rw [← sixV_get l n k j hk hj]
  show (sixV l n).toArray.getD _ _ = _
  simp [Array.getD_eq_getD_getElem?, List.getD_eq_getElem?_getD]
theorem rq3_six (l : List Value) {n k : Nat} (hk : k < n) : rq3 (.agg (sixV l n).toArray) k = kX l k := by
  unfold rq3
  rw [six_sel l hk (by omega : 0 < 3), six_sel l hk (by omega : 1 < 3), six_sel l hk (by omega : 2 < 3)]
  rfl
theorem six_size (l : List Value) (n : Nat) : (Value.agg (sixV l n).toArray).cells.size = n * 3 := by
  show (sixV l n).toArray.size = _
  rw [List.size_toArray, sixV_len]
theorem grt_congr {x y : Nat → Q} : ∀ {n : Nat}, (∀ j, j < n → x j = y j) → grt x n = grt y n
  | 0, _ => rfl
  | n + 1, h => by
    have e := grt_congr (n := n) fun j hj => h j (by omega)
    have hl : grt y n < n + 1 := by
      rcases Nat.eq_zero_or_pos n with rfl | hp
      · exact Nat.zero_lt_one
      · have := grt_lt y n hp; omega
    rw [grt, grt, e, h n (by omega), h _ hl]
def enQ (l : List Value) : Q := if allB (kOk l) 0 6 = true then kX l (grt (kX l) 6) else zq
def enV (l : List Value) : List Value := vQ (enQ l) ++ [.bool (allB (kOk l) 0 6)]
theorem enV_true {l : List Value} (h : allB (kOk l) 0 6 = true) : enV l = vQ (kX l (grt (kX l) 6)) ++ [.bool true] := by
  unfold enV enQ
  rw [if_pos h, h]
theorem enV_false {l : List Value} (h : allB (kOk l) 0 6 = false) : enV l = zeros 3 ++ [.bool false] := by
  unfold enV enQ
  rw [h]
  rfl
def SP_six : Spec := fun ins K => (allB (kOk ins) 0 6 = true → ∀ a cap, K [.slice a 6 cap, .bool true, .agg (sixV ins 6).toArray]) ∧ (allB (kOk ins) 0 6 = false → K [.slice none 0 0, .bool false, .agg #[]])
def rndP (l : List Value) (K : List Value → Prop) : List Prop → Nat → Value → Array Value → Prop
  | [], _, s, c => K [s, .bool true, .agg c]
  | p :: r, k, s, c => p ∧ True ∧ (Value.bool (!(nttT 4 (apQ (l ++ kd k)) (apD (l ++ kd k)))) = .bool true → K [.slice none 0 0, .bool false, .agg #[]]) ∧
      (Value.bool (!(nttT 4 (apQ (l ++ kd k)) (apD (l ++ kd k)))) = .bool false → c.size + 3 ≤ 1099511627776 ∧
        ∀ a len cap, HasTy .sl (.slice a len cap) ∧ len ≤ cap → len * 3 = c.size + 3 → rndP l K r (k + 1) (.slice a len cap) (c ++ [Value.int .i64 (nttH 4 (apQ (l ++ kd k)) (apD (l ++ kd k)) 0), .int .i64 (nttH 4 (apQ (l ++ kd k)) (apD (l ++ kd k)) 1), .int .i64 (nttH 4 (apQ (l ++ kd k)) (apD (l ++ kd k)) 2)].toArray))
theorem six_eq : (fun (P : Program) (g : Nat → Int) (K : List Value → Prop) => sat P (specsOf Fs_six) tr_six (ivs g 0 48) [] K) = fun P g K =>
    (0 + 0 ≤ 1099511627776 ∧ ∀ a len cap, HasTy .sl (.slice a len cap) ∧ len ≤ cap → len * 3 = 0 + 0 → rndP (ivs g 0 48) K [F_wholeK1.pre [], F_wholeM.pre [], F_wholeK1.pre [], F_wholeM.pre [], F_wholeK1.pre [], F_wholeM.pre []] 0 (.slice a len cap) #[]) := by kernel_rfl
theorem rnd_ok {l : List Value} {K : List Value → Prop} (hT : allB (kOk l) 0 6 = true → ∀ a cap, K [.slice a 6 cap, .bool true, .agg (sixV l 6).toArray]) (hF : ∀ k, k < 6 → kOk l k = false → K [.slice none 0 0, .bool false, .agg #[]]) :
    ∀ (ps : List Prop) (k : Nat) (a : Option Addr) (cap : Nat), (∀ p ∈ ps, p) → ps.length + k = 6 → allB (kOk l) 0 k = true → rndP l K ps k (.slice a k cap) (sixV l k).toArray
  | [], k, a, cap, _, hk, hall => by
    obtain rfl : k = 6 := by simpa using hk
    exact hT hall a cap
  | p :: r, k, a, cap, hp, hk, hall => by
    have hk : r.length + 1 + k = 6 := hk
    refine ⟨hp p List.mem_cons_self, trivial, fun h => ?_, fun h => ?_⟩
    · have h : (!(kOk l k)) = true := Value.bool.inj h
      exact hF k (by omega) (by simpa using h)
    · have h : (!(kOk l k)) = false := Value.bool.inj h
      have hs : (sixV l k).toArray.size = k * 3 := by rw [List.size_toArray, sixV_len]
      refine ⟨by rw [hs]; omega, fun a' len cap' ht hl => ?_⟩
      rw [hs] at hl
      obtain rfl : len = k + 1 := by omega
      have e : (sixV l k).toArray ++ [Value.int .i64 (nttH 4 (apQ (l ++ kd k)) (apD (l ++ kd k)) 0), .int .i64 (nttH 4 (apQ (l ++ kd k)) (apD (l ++ kd k)) 1), .int .i64 (nttH 4 (apQ (l ++ kd k)) (apD (l ++ kd k)) 2)].toArray = (sixV l (k + 1)).toArray := by
        rw [List.append_toArray]; rfl
      rw [e]
      refine rnd_ok hT hF r (k + 1) a' cap' (fun q hq => hp q (List.mem_cons_of_mem _ hq)) (by omega) ?_
      rw [allB_snoc, hall, Nat.zero_add]
      simpa using h
theorem sat_six (P : Program) (ins : List Value) (K : List Value → Prop) (ht : TypedL (intTs 48 ++ []) ins) (h : SP_six ins K) : sat P (specsOf Fs_six) tr_six ins [] K := by
  obtain ⟨g, r, rfl, h1, _⟩ := ints_lit 48 0 ht
  obtain rfl := ints0 h1
  rw [List.append_nil] at *
  obtain ⟨hT, hF⟩ := h
  refine Eq.mpr (congrFun (congrFun (congrFun six_eq P) g) K) ⟨by omega, fun a len cap hty hl => ?_⟩
  obtain rfl : len = 0 := by omega
  have pw : F_wholeK1.pre [] := okT_free (fun F hF => by cases hF) _ _ (by kernel_rfl)
  have pm : F_wholeM.pre [] := okT_free (fun F hF => by cases hF) _ _ (by kernel_rfl)
  refine rnd_ok hT (fun k hk hb => hF ?_) _ 0 a cap ?_ rfl rfl
  · cases ha : allB (kOk (ivs g 0 48)) 0 6 with
    | false => rfl
    | true => rw [allB_get ha k (Nat.zero_le _) (by omega)] at hb; cases hb
  · intro p hp
    simp only [List.mem_cons, List.not_mem_nil, or_false] at hp
    rcases hp with rfl | rfl | rfl | rfl | rfl | rfl
    · exact pw
    · exact pm
    · exact pw
    · exact pm
    · exact pw
    · exact pm
def tr_iTableKeeps : Tr := (.evs [.call 0 ξr1 none 3] (.lp 0 [ξr0, (.var 49)] [.int .i64, .bool] (.ite (.cmp .lss ξr85 (.len (.var 48))) (.evs [.need [(.inb ξr81 ξr85 3)]] (.evs [.call 1 [(.sel ξr81 ξr85 3 0), (.sel ξr81 ξr85 3 1), (.sel ξr81 ξr85 3 2), ξr0, ξr0, ξr3] none 2] (.evs [.call 1 [(.sel ξr81 ξr85 3 0), (.sel ξr81 ξr85 3 1), (.sel ξr81 ξr85 3 2), ξr3, ξr0, ξr3] none 2] (.next 0 [(.ar .add .i64 ξr85 ξr3), (.ite (.ite ξr79 (.cmp .geq (.var 53) ξr0) ξr2) (.cmp .leq (.var 55) ξr0) ξr2)])))) (.ret [ξr79]))))
def Ss_iTableKeeps : List Spec := [SP_six, G_iFracCompare.spec]
def F_iTableKeeps : Fun1 := ⟨fun _ => True, fun ins => [.bool (allB (kOk ins) 0 6 && allB (fun k => inUnit (kX ins k)) 0 6)]⟩
theorem sat_iTableKeeps (P : Program) (ins : List Value) (K : List Value → Prop) (ht : TypedL (intTs 48 ++ []) ins) (_ : F_iTableKeeps.pre ins) (hK : K (F_iTableKeeps.out ins)) : sat P Ss_iTableKeeps tr_iTableKeeps ins [] K := by
  obtain ⟨g, r, rfl, h1, _⟩ := ints_lit 48 0 ht
  obtain rfl := ints0 h1
  rw [List.append_nil] at *
  have hK : K [.bool (allB (kOk (ivs g 0 48)) 0 6 && allB (fun k => inUnit (kX (ivs g 0 48) k)) 0 6)] := hK
  refine evs_step (call_step (sp := SP_six) rfl ?_)
  show SP_six (ivs g 0 48) _
  refine ⟨fun ha a cap => evs_nil ?_, fun ha => evs_nil ?_⟩
  · rw [ha, Bool.true_and] at hK
    refine ⟨fun vs => ∃ k : Nat, vs = [.int .i64 k, .bool (allB (fun k => inUnit (kX (ivs g 0 48) k)) 0 k)] ∧ k ≤ 6, fun vs => 6 - (toI (vs.getD 0 undef)).toNat, ⟨0, rfl, Nat.zero_le _⟩, ?_⟩
    rintro vs hty ⟨k, rfl, hk⟩
    refine ⟨fun h => ?_, fun h => ?_⟩
    · have hlt : k < 6 := by
        have : decide ((k : Int) < ((6 : Nat) : Int)) = true := Value.bool.inj h
        have := of_decide_eq_true this
        omega
      have hin := inb_ok3 (six_size (ivs g 0 48) 6) hlt
      refine ⟨fun e he => by rw [List.mem_singleton.1 he]; exact hin, evs_nil ?_⟩
      refine evs_step (call_step (sp := G_iFracCompare.spec) rfl ⟨trivial, evs_nil ?_⟩)
      refine evs_step (call_step (sp := G_iFracCompare.spec) rfl ⟨trivial, evs_nil ?_⟩)
      have hx : rq3 (.agg (sixV (ivs g 0 48) 6).toArray) k = kX (ivs g 0 48) k := rq3_six _ hlt
      have hv : (if toB (if toB (.bool (allB (fun k => inUnit (kX (ivs g 0 48) k)) 0 k)) = true then Value.bool (decide (cmpF (rq3 (.agg (sixV (ivs g 0 48) 6).toArray) k) nil1 ≥ 0)) else .bool false) = true then Value.bool (decide (cmpF (rq3 (.agg (sixV (ivs g 0 48) 6).toArray) k) oneQ ≤ 0)) else .bool false) = .bool (allB (fun k => inUnit (kX (ivs g 0 48) k)) 0 (k + 1)) := by
        rw [hx, allB_snoc, Nat.zero_add]
        unfold inUnit
        generalize decide (cmpF (kX (ivs g 0 48) k) nil1 ≥ 0) = p
        generalize decide (cmpF (kX (ivs g 0 48) k) oneQ ≤ 0) = q
        generalize allB _ 0 k = s
        cases s <;> cases p <;> simp
      refine ⟨⟨k + 1, ?_, by omega⟩, ?_⟩
      · show [Value.int .i64 (IntKind.i64.wrap ((k : Int) + 1)), _] = _
        rw [wrap_next hlt (by omega)]
        exact congrArg (fun z => [Value.int .i64 ((k + 1 : Nat) : Int), z]) hv
      · show 6 - (toI (.int .i64 (IntKind.i64.wrap ((k : Int) + 1)))).toNat < 6 - (toI (.int .i64 (k : Int))).toNat
        rw [wrap_next hlt (by omega : 6 ≤ 9223372036854775807)]
        simp only [toI_int, Int.toNat_natCast]
        omega
    · have hge : ¬ k < 6 := by
        have : decide ((k : Int) < ((6 : Nat) : Int)) = false := Value.bool.inj h
        have := of_decide_eq_false this
        omega
      obtain rfl : k = 6 := by omega
      exact hK
  · rw [ha, Bool.false_and] at hK
    refine ⟨fun vs => ∃ z : Int, vs = [.int .i64 0, .bool false], fun vs => 0, ⟨0, rfl⟩, ?_⟩
    rintro vs hty ⟨_, rfl⟩
    exact ⟨fun h => (by cases h), fun h => hK⟩
def tr_greatest : Tr := (.lp 0 [ξr0, ξr0] [.int .i64, .int .i64] (.ite (.cmp .lss ξr22 ξr76) (.evs [.need [(.inb ξr27 ξr22 3), (.inb ξr27 ξr21 3)], .need [(.inb ξr27 ξr22 3), (.inb ξr27 ξr21 3)], .call 0 [(.sel ξr27 ξr22 3 0), (.sel ξr27 ξr22 3 1), (.sel ξr27 ξr22 3 2), (.sel ξr27 ξr21 3 0), (.sel ξr27 ξr21 3 1), (.sel ξr27 ξr21 3 2)] none 2] (.ite (.cmp .gtr ξr23 ξr0) (.next 0 [ξr99, ξr22]) (.next 0 [ξr99, ξr21]))) (.ret [ξr21])))
def Fs_greatest : List Fun1 := [G_iFracCompare]
def F_greatest : Fun1 := ⟨fun ins => Fit3 (ins.getD 0 undef) (ins.getD 1 undef), fun ins => [.int .i64 ((grt (rq3 (ins.getD 1 undef)) (rlen (ins.getD 0 undef)) : Nat) : Int)]⟩
theorem sat_greatest (P : Program) (ins : List Value) (K : List Value → Prop) (ht : TypedL [.sl, .row .i64 3] ins) (hp : F_greatest.pre ins) (hK : K (F_greatest.out ins)) : sat P (specsOf Fs_greatest) tr_greatest ins [] K := by
  obtain ⟨x, c, rfl, hx, hcT⟩ := two_of ht
  obtain ⟨a, n, cap, rfl, hc, hn⟩ : Fit3 x c := hp
  have hK : K [.int .i64 ((grt (rq3 c) n : Nat) : Int)] := hK
  refine ⟨fun vs => ∃ k : Nat, vs = [.int .i64 k, .int .i64 ((grt (rq3 c) k : Nat) : Int)] ∧ k ≤ n, fun vs => n - (toI (vs.getD 0 undef)).toNat, ⟨0, rfl, Nat.zero_le _⟩, ?_⟩
  rintro vs hty ⟨k, rfl, hk⟩
  refine ⟨fun h => ?_, fun h => ?_⟩
  · have hlt : k < n := by
      have : decide ((k : Int) < (n : Int)) = true := Value.bool.inj h
      simpa using this
    have hgl : grt (rq3 c) k < n := by
      rcases Nat.eq_zero_or_pos k with rfl | hp
      · exact hlt
      · have := grt_lt (rq3 c) k hp; omega
    have hin := inb_ok3 hc hlt
    have hin2 := inb_ok3 hc hgl
    have hall2 : ∀ e ∈ ([.inb (.var 1) (.var 2) 3, .inb (.var 1) (.var 3) 3] : List Ex), ev ([.slice a n cap, c] ++ [.int .i64 k, .int .i64 ((grt (rq3 c) k : Nat) : Int)]) e = .bool true := by
      intro e he
      simp only [List.mem_cons, List.not_mem_nil, or_false] at he
      rcases he with rfl | rfl
      · exact hin
      · exact hin2
    refine ⟨hall2, hall2, trivial, ?_⟩
    have done : 0 ≤ 0 → n - (toI (.int .i64 (IntKind.i64.wrap ((k : Int) + 1)))).toNat < n - (toI (.int .i64 (k : Int))).toNat := fun _ => by
      rw [wrap_next hlt hn]
      simp only [toI_int, Int.toNat_natCast]
      omega
    refine ⟨fun h2 => ?_, fun h2 => ?_⟩
    · have h2 : decide (cmpF (rq3 c k) (rq3 c (grt (rq3 c) k)) > 0) = true := Value.bool.inj h2
      have h2 := of_decide_eq_true h2
      refine ⟨⟨k + 1, ?_, by omega⟩, done (Nat.le_refl _)⟩
      show [Value.int .i64 (IntKind.i64.wrap ((k : Int) + 1)), Value.int .i64 (k : Int)] = _
      rw [wrap_next hlt hn, grt, if_pos h2]
    · have h2 : decide (cmpF (rq3 c k) (rq3 c (grt (rq3 c) k)) > 0) = false := Value.bool.inj h2
      have h2 := of_decide_eq_false h2
      refine ⟨⟨k + 1, ?_, by omega⟩, done (Nat.le_refl _)⟩
      show [Value.int .i64 (IntKind.i64.wrap ((k : Int) + 1)), Value.int .i64 ((grt (rq3 c) k : Nat) : Int)] = _
      rw [wrap_next hlt hn, grt, if_neg h2]
  · have hge : ¬ k < n := by
      have : decide ((k : Int) < (n : Int)) = false := Value.bool.inj h
      simpa using this
    obtain rfl : k = n := by omega
    exact hK
def tr_iTableEnergy : Tr := (.evs [.call 0 ξr1 none 3] (.ite (.not (.var 49)) ξr36 (.evs [.call 1 [(.var 48), ξr81] none 1, .need [(.inb ξr81 ξr85 3)]] (.ret [(.sel ξr81 ξr85 3 0), (.sel ξr81 ξr85 3 1), (.sel ξr81 ξr85 3 2), ξr5]))))
def Ss_iTableEnergy : List Spec := [SP_six, F_greatest.spec]
def F_iTableEnergy : Fun1 := ⟨fun _ => True, fun ins => enV ins⟩
theorem sat_iTableEnergy (P : Program) (ins : List Value) (K : List Value → Prop) (ht : TypedL (intTs 48 ++ []) ins) (_ : F_iTableEnergy.pre ins) (hK : K (F_iTableEnergy.out ins)) : sat P Ss_iTableEnergy tr_iTableEnergy ins [] K := by
  obtain ⟨g, r, rfl, h1, _⟩ := ints_lit 48 0 ht
  obtain rfl := ints0 h1
  rw [List.append_nil] at *
  have hK : K (enV (ivs g 0 48)) := hK
  refine evs_step (call_step (sp := SP_six) rfl ?_)
  show SP_six (ivs g 0 48) _
  refine ⟨fun ha a cap => evs_nil ?_, fun ha => evs_nil ?_⟩
  · rw [enV_true ha] at hK
    refine ⟨fun h => (by cases h), fun _ => ?_⟩
    refine evs_step (call_step (sp := F_greatest.spec) rfl ⟨⟨a, 6, cap, rfl, six_size _ 6, by omega⟩, ?_⟩)
    have e : grt (rq3 (.agg (sixV (ivs g 0 48) 6).toArray)) 6 = grt (kX (ivs g 0 48)) 6 := grt_congr fun j hj => rq3_six _ hj
    have hlt := grt_lt (kX (ivs g 0 48)) 6 (by omega)
    show evSat P _ _ (_ ++ [.int .i64 ((grt (rq3 (.agg (sixV (ivs g 0 48) 6).toArray)) 6 : Nat) : Int)]) _
    rw [e]
    generalize grt (kX (ivs g 0 48)) 6 = m at *
    refine ⟨fun e he => by rw [List.mem_singleton.1 he]; exact inb_ok3 (six_size _ 6) hlt, evs_nil ?_⟩
    show K [(Value.agg (sixV (ivs g 0 48) 6).toArray).cells.getD (m * 3 + 0) undef, (Value.agg (sixV (ivs g 0 48) 6).toArray).cells.getD (m * 3 + 1) undef, (Value.agg (sixV (ivs g 0 48) 6).toArray).cells.getD (m * 3 + 2) undef, .bool true]
    rw [six_sel _ hlt (by omega : 0 < 3), six_sel _ hlt (by omega : 1 < 3), six_sel _ hlt (by omega : 2 < 3)]
    exact hK
  · rw [enV_false ha] at hK
    exact ⟨fun _ => hK, fun h => (by cases h)⟩
def tr_diagonal : Tr := ξr49
def Fs_diagonal : List Fun1 := []
def F_diagonal : Fun1 := ofTree Fs_diagonal tr_diagonal
def tr_iTableFade : Tr := (.evs ξr65 (.ite (.not ξr21) ξr10 ξr40))
def Fs_iTableFade : List Fun1 := [G_realOk, F_diagonal]
def F_iTableFade : Fun1 := ofTree Fs_iTableFade tr_iTableFade
def dgF (c : Q) (k : Nat) : Q := if k = 0 then oneQ else if k % 5 = 0 then c else nil1
def fdD (c : Q) (k : Nat) : Option Q := some (dgF c k)
def G_iTableFade : Fun1 := ⟨fun _ => True, fun ins => nttW 16 (realQ (q3 ins 0)) (fdD (q3 ins 0))⟩
theorem out_iTableFade : (fun (g : Nat → Int) => F_iTableFade.out (ivs g 0 3)) = fun g => if toB (.bool (!realQ (tri g 0))) = true then zeros 48 ++ [.bool false] else F_diagonal.out (ivs g 0 3) ++ [.bool true] := by kernel_rfl
theorem fade_yes : (fun (g : Nat → Int) => F_diagonal.out (ivs g 0 3) ++ [.bool true]) = fun g => nttW 16 true (fdD (tri g 0)) := by kernel_rfl
theorem fade_no : (fun (g : Nat → Int) => zeros 48 ++ [.bool false]) = fun g => nttW 16 false (fdD (tri g 0)) := by kernel_rfl
theorem as_iTableFade (ins : List Value) (ht : TypedL (intTs 3 ++ []) ins) (_ : G_iTableFade.pre ins) : F_iTableFade.pre ins ∧ F_iTableFade.out ins = G_iTableFade.out ins := by
  obtain ⟨g, r, rfl, h1, _⟩ := ints_lit 3 0 ht
  obtain rfl := ints0 h1
  rw [List.append_nil]
  refine ⟨okT_free (by intro F hF ins; simp only [Fs_iTableFade, List.mem_cons, List.not_mem_nil, or_false] at hF; rcases hF with rfl | rfl; · trivial
                       · exact okT_free (fun F hF => by cases hF) _ _ (by kernel_rfl)) _ _ (by kernel_rfl), (congrFun out_iTableFade g).trans ?_⟩
  show _ = nttW 16 (realQ (tri g 0)) (fdD (tri g 0))
  cases realQ (tri g 0)
  · exact congrFun fade_no g
  · exact congrFun fade_yes g
def tr_sTableFade : Tr := (.evs ξr65 (.ite (.ite (.not ξr21) ξr5 (.cmp .neq ξr27 ξr0)) ξr10 ξr40))
def Fs_sTableFade : List Fun1 := [G_sFracValid, F_l6tDiag]
def F_sTableFade : Fun1 := ofTree Fs_sTableFade tr_sTableFade
def G_sTableFade : Fun1 := ⟨fun _ => True, fun ins => nttW 16 (realQ (q3 ins 0)) (fdD (q3 ins 0))⟩
theorem out_sTableFade : (fun (g : Nat → Int) => F_sTableFade.out (ivs g 0 3)) = fun g => if toB (if toB (.bool (!validQ (tri g 0))) = true then .bool true else .bool (!((tri g 0).2.1 == 0))) = true then zeros 48 ++ [.bool false] else F_l6tDiag.out (ivs g 0 3) ++ [.bool true] := by kernel_rfl
theorem sfade_yes : (fun (g : Nat → Int) => F_l6tDiag.out (ivs g 0 3) ++ [.bool true]) = fun g => nttW 16 true (fdD (tri g 0)) := by kernel_rfl
theorem sfade_no : (fun (g : Nat → Int) => zeros 48 ++ [.bool false]) = fun g => nttW 16 false (fdD (tri g 0)) := by kernel_rfl
theorem as_sTableFade (ins : List Value) (ht : TypedL (intTs 3 ++ []) ins) (_ : G_sTableFade.pre ins) : F_sTableFade.pre ins ∧ F_sTableFade.out ins = G_sTableFade.out ins := by
  obtain ⟨g, r, rfl, h1, _⟩ := ints_lit 3 0 ht
  obtain rfl := ints0 h1
  rw [List.append_nil]
  refine ⟨okT_free (by intro F hF ins; simp only [Fs_sTableFade, List.mem_cons, List.not_mem_nil, or_false] at hF; rcases hF with rfl | rfl; · trivial
                       · exact okT_free (fun F hF => by cases hF) _ _ (by kernel_rfl)) _ _ (by kernel_rfl), (congrFun out_sTableFade g).trans ?_⟩
  show _ = nttW 16 (realQ (tri g 0)) (fdD (tri g 0))
  unfold realQ
  cases validQ (tri g 0)
  · exact congrFun sfade_no g
  · cases (tri g 0).2.1 == 0
    · exact congrFun sfade_no g
    · exact congrFun sfade_yes g
def SP_Split : Spec := SP_split
def SP_plainNumber : Spec := SP_num num
def SP_l6Dec : Spec := SP_itoa
def tr_l7Cut : Tr := (.evs [.app (.val (.agg #[])) 1 (.cells [])] (.lp 0 [ξr0, ξr0, ξr22, (.val (.agg #[]))] [.int .i64, .int .i64, .sl, .rowC [.str]] (.ite (.cmp .leq ξr23 ξr76) (.evs [.need [(.ite (.not (.cmp .eql ξr23 ξr76)) (.cmp .leq ξr0 ξr23) ξr5), (.ite (.not (.cmp .eql ξr23 ξr76)) (.cmp .lss ξr23 ξr76) ξr5)]] (.ite (.ite (.cmp .eql ξr23 ξr76) ξr5 (.cmp .eql (.sidx ξr20 ξr23) ξr27)) (.evs [.need [(.cmp .leq ξr0 ξr24), (.cmp .leq ξr24 ξr23), (.cmp .leq ξr23 ξr76)], .app ξr29 1 (.cells [(.ssub ξr20 ξr24 ξr23)])] (.next 0 [(.ar .add .i64 ξr23 ξr3), (.ar .add .i64 ξr23 ξr3), ξr34, ξr35])) (.next 0 [(.ar .add .i64 ξr23 ξr3), ξr24, ξr25, ξr29]))) (.ret [ξr25, ξr29]))))
def Fs_l7Cut : List Fun1 := []
def SP_l7Cut : Spec := SP_cut
theorem cut_last {c : UInt8} {s : List UInt8} {fr i : Nat} (h : i = s.length) : cutGo c ((s.drop fr).take (i - fr)) (s.drop i) = [(s.drop fr).take (i - fr)] := by
  rw [show s.drop i = [] from List.drop_eq_nil_of_le (by omega)]; rfl
theorem cut_hit {c : UInt8} {s : List UInt8} {fr i : Nat} (h : s[i]? = some c) : cutGo c ((s.drop fr).take (i - fr)) (s.drop i) = (s.drop fr).take (i - fr) :: cutGo c ((s.drop (i + 1)).take (i + 1 - (i + 1))) (s.drop (i + 1)) := by
  obtain ⟨hi, he⟩ := List.getElem?_eq_some_iff.1 h
  rw [List.drop_eq_getElem_cons hi, he, cutGo, if_pos rfl, Nat.sub_self, List.take_zero]
theorem cut_skip {c x : UInt8} {s : List UInt8} {fr i : Nat} (h : s[i]? = some x) (hx : x ≠ c) (hf : fr ≤ i) : cutGo c ((s.drop fr).take (i - fr)) (s.drop i) = cutGo c ((s.drop fr).take (i + 1 - fr)) (s.drop (i + 1)) := by
  obtain ⟨hi, he⟩ := List.getElem?_eq_some_iff.1 h
  rw [List.drop_eq_getElem_cons hi, he, cutGo, if_neg hx]
  congr 1
  rw [show i + 1 - fr = (i - fr) + 1 by omega, List.take_add_one]
  congr 1
  rw [List.getElem?_drop, show fr + (i - fr) = i by omega, h]
  rfl
theorem sat_l7Cut (P : Program) (ins : List Value) (K : List Value → Prop) (ht : TypedL [.str, .int .u8] ins) (h : SP_l7Cut ins K) : sat P (specsOf Fs_l7Cut) tr_l7Cut ins [] K := by
  obtain ⟨s, c, rfl, hs, hK⟩ := h
  refine evs_step (app_empty (by omega) fun a2 cap2 => evs_nil ?_)
  refine ⟨fun vs => ∃ (i fr : Nat) (a : Option Addr) (cap : Nat) (done : List (List UInt8)), vs = [.int .i64 i, .int .i64 fr, .slice a done.length cap, rowS done] ∧ i ≤ s.length + 1 ∧ fr ≤ i ∧
      (i ≤ s.length → cut c s = done ++ cutGo c ((s.drop fr).take (i - fr)) (s.drop i)) ∧ (i = s.length + 1 → cut c s = done) ∧ done.length ≤ i, fun vs => s.length + 1 - (toI (vs.getD 0 undef)).toNat, ?_, ?_⟩
  · exact ⟨0, 0, a2, cap2, [], rfl, by omega, by omega, fun _ => by simp [cut], fun h => by omega, by simp⟩
  · rintro vs hty ⟨i, fr, a, cap, done, rfl, hi, hfr, h1, h2, hd⟩
    have hlen : lenV (bv s) = (s.length : Int) := len_bv s
    refine ⟨fun hc => ?_, fun hc => ?_⟩
    · have hc : Value.bool (decide ((i : Int) ≤ lenV (bv s))) = .bool true := hc
      rw [hlen] at hc
      have hle : i ≤ s.length := by have := bt_of hc; omega
      have hcut := h1 hle
      have hw : IntKind.i64.wrap ((i : Int) + 1) = ((i + 1 : Nat) : Int) := by rw [wrap_in (by omega)]; omega
      refine evs_step (need_step (all_cons (need_if fun _ => ?_) (all_cons (need_if fun hg => ?_) all_nil)) (evs_nil ?_))
      · exact bt (Int.natCast_nonneg i)
      · have hg : (!((i : Int) == lenV (bv s))) = true := hg
        rw [hlen] at hg
        have : ¬ (i : Int) = s.length := by simpa using hg
        show Value.bool (decide ((i : Int) < lenV (bv s))) = _
        rw [hlen]
        exact bt (by omega)
      · have hbr : ∀ b, (if (((i : Int) == lenV (bv s)) : Bool) = true then Value.bool true else Value.bool (byteV (strV (bv s)) i == (c.toNat : Int))) = .bool b →
            (b = true ∧ (i = s.length ∨ s[i]? = some c)) ∨ (b = false ∧ ∃ x, s[i]? = some x ∧ x ≠ c) := by
          intro b hb
          rw [hlen] at hb
          by_cases he : i = s.length
          · rw [if_pos (by simp [he])] at hb
            exact .inl ⟨(Value.bool.inj hb).symm, .inl he⟩
          · rw [if_neg (by simp; omega)] at hb
            have hil : i < s.length := by omega
            rw [byte_bv (List.getElem?_eq_getElem hil)] at hb
            have hb := Value.bool.inj hb
            by_cases hx : s[i] = c
            · refine .inl ⟨by rw [← hb, hx]; simp, .inr (by rw [List.getElem?_eq_getElem hil, hx])⟩
            · refine .inr ⟨?_, s[i], List.getElem?_eq_getElem hil, hx⟩
              rw [← hb, beq_eq_false_iff_ne]
              intro e
              exact hx (UInt8.toNat_inj.1 (by omega))
        refine ⟨fun hx => ?_, fun hx => ?_⟩
        · have hyes : i = s.length ∨ s[i]? = some c := by
            rcases hbr true hx with h | h
            · exact h.2
            · cases h.1
          have hdl : done.length + 1 ≤ 2097154 := by omega
          refine evs_step (need_step (all_cons (bt (Int.natCast_nonneg fr)) (all_cons ?_ (all_cons hc all_nil))) (app_step (xs := done.map bv) (ys := [bv ((s.drop fr).take (i - fr))]) rfl ?_ (by simp; omega) fun a3 len3 cap3 _ hl => evs_nil ?_))
          · show Value.bool (decide ((fr : Int) ≤ (i : Int))) = _
            exact bt (by omega)
          · show [Value.string ((strV (bv s)).extract ((fr : Int)).toNat ((i : Int)).toNat)] = _
            rw [Int.toNat_natCast, Int.toNat_natCast, extract_bv]
          · have hl3 : len3 = (done ++ [(s.drop fr).take (i - fr)]).length := by simp at hl ⊢; omega
            subst hl3
            show (∃ _, _) ∧ _
            rw [show Value.agg (done.map bv ++ [bv ((s.drop fr).take (i - fr))]).toArray = rowS (done ++ [(s.drop fr).take (i - fr)]) from rowS_snoc _ _]
            refine ⟨⟨i + 1, i + 1, a3, cap3, done ++ [(s.drop fr).take (i - fr)], ?_, by omega, by omega, fun hle2 => ?_, fun he => ?_, by simp; omega⟩, ?_⟩
            · show [Value.int .i64 (IntKind.i64.wrap ((i : Int) + 1)), .int .i64 (IntKind.i64.wrap ((i : Int) + 1)), .slice a3 (done ++ [(s.drop fr).take (i - fr)]).length cap3, rowS (done ++ [(s.drop fr).take (i - fr)])] = _
              rw [hw]
            · rw [hcut]
              rcases hyes with h | h
              · omega
              · rw [cut_hit h]; simp
            · rw [hcut, cut_last (by omega)]
            · show s.length + 1 - (IntKind.i64.wrap ((i : Int) + 1)).toNat < s.length + 1 - ((i : Int)).toNat
              rw [hw]; omega
        · obtain ⟨x, hxs, hxc⟩ : ∃ x, s[i]? = some x ∧ x ≠ c := by
            rcases hbr false hx with h | h
            · cases h.1
            · exact h.2
          have hil := (List.getElem?_eq_some_iff.1 hxs).1
          refine ⟨⟨i + 1, fr, a, cap, done, ?_, by omega, by omega, fun hle2 => ?_, fun he => by omega, by omega⟩, ?_⟩
          · show [Value.int .i64 (IntKind.i64.wrap ((i : Int) + 1)), .int .i64 fr, .slice a done.length cap, rowS done] = _
            rw [hw]
          · rw [hcut, cut_skip hxs hxc hfr]
          · show s.length + 1 - (IntKind.i64.wrap ((i : Int) + 1)).toNat < s.length + 1 - ((i : Int)).toNat
            rw [hw]; omega
    · have hc : Value.bool (decide ((i : Int) ≤ lenV (bv s))) = .bool false := hc
      rw [hlen] at hc
      have hn := bf_of hc
      have hcut := h2 (by omega)
      rw [hcut] at hK
      exact hK a _ cap rfl
def tr_l7Number : Tr := (.evs [.call 0 [ξr76, ξr3, (.int .i64 4)] none 1] (.ite (.not ξr27) (.ret [ξr0, ξr2]) (.lp 0 [ξr0, ξr3, ξr0] [.int .i64, .int .i64, .int .i64] (.ite (.cmp .lss ξr22 ξr76) (.evs [.need [(.ite (.cmp .eql ξr22 ξr0) (.cmp .leq ξr0 ξr22) ξr5), (.ite (.cmp .eql ξr22 ξr0) (.cmp .lss ξr22 ξr76) ξr5)]] (.ite (.ite (.cmp .eql ξr22 ξr0) (.cmp .eql (.sidx ξr20 ξr22) (.int .u8 45)) ξr2) (.next 0 [ξr99, ξr103, ξr23]) (.evs [.need [(.cmp .leq ξr0 ξr22), (.cmp .lss ξr22 ξr76)], .need [(.ite (.cmp .geq (.sidx ξr20 ξr22) (.int .u8 48)) (.cmp .leq ξr0 ξr22) ξr5), (.ite (.cmp .geq (.sidx ξr20 ξr22) (.int .u8 48)) (.cmp .lss ξr22 ξr76) ξr5)]] (.ite (.ite (.cmp .geq (.sidx ξr20 ξr22) (.int .u8 48)) (.cmp .leq (.sidx ξr20 ξr22) (.int .u8 57)) ξr2) (.evs [.need [(.cmp .leq ξr0 ξr22), (.cmp .lss ξr22 ξr76)]] (.next 0 [ξr99, ξr21, (.ar .add .i64 (.ar .mul .i64 (.int .i64 10) ξr23) (.conv .i64 (.ar .sub .u8 (.sidx ξr20 ξr22) (.int .u8 48))))])) (.ret [ξr0, ξr2]))))) (.evs [.call 1 [(.ar .mul .i64 ξr21 ξr23)] none 1] (.ret [(.ar .mul .i64 ξr21 ξr23), (.seq ξr24 ξr20)]))))))
def Ss_l7Number : List Spec := [G_l6In.spec, SP_l6Dec]
def SP_l7Number : Spec := SP_num snum
def nst : List UInt8 → Option (Int × Nat)
  | [] => some (1, 0)
  | x :: r => if x = 45 then (digGo 0 r).map fun n => (-1, n) else (digGo 0 (x :: r)).map fun n => (1, n)
theorem digGo_app (b : List UInt8) : ∀ (a : List UInt8) (acc : Nat), digGo acc (a ++ b) = (digGo acc a).bind fun u => digGo u b
  | [], acc => rfl
  | x :: r, acc => by
    simp only [List.cons_append, digGo]
    split
    · exact digGo_app b r _
    · rfl
theorem nst_step {p : List UInt8} {x : UInt8} {sg : Int} {n : Nat} (h : nst p = some (sg, n)) : nst (p ++ [x]) = if p = [] ∧ x = 45 then some (-1, 0) else if 48 ≤ x.toNat ∧ x.toNat ≤ 57 then some (sg, 10 * n + (x.toNat - 48)) else none := by
  cases p with
  | nil =>
    cases h
    by_cases hx : x = 45
    · simp [nst, hx, digGo]
    · simp only [List.nil_append, nst, hx, and_false, if_false, digGo]
      split <;> simp
  | cons y r =>
    rw [if_neg (by simp)]
    simp only [List.cons_append, nst] at h ⊢
    by_cases hy : y = 45
    · rw [if_pos hy] at h ⊢
      cases hd : digGo 0 r with
      | none => rw [hd] at h; cases h
      | some u =>
        rw [hd] at h
        cases h
        rw [digGo_app, hd]
        simp only [Option.bind_some, digGo]
        split <;> simp
    · rw [if_neg hy] at h ⊢
      cases hd : digGo 0 (y :: r) with
      | none => rw [hd] at h; cases h
      | some u =>
        rw [hd] at h
        cases h
        have e : digGo 0 (y :: (r ++ [x])) = (digGo 0 (y :: r)).bind fun u => digGo u [x] := digGo_app [x] (y :: r) 0
        rw [e, hd]
        simp only [Option.bind_some, digGo]
        split <;> simp
theorem nst_none {p q : List UInt8} (h : nst p = none) : nst (p ++ q) = none := by
  cases p with
  | nil => cases h
  | cons y r =>
    simp only [List.cons_append, nst] at h ⊢
    split at h
    · rename_i hy
      rw [if_pos hy, digGo_app]
      rw [Option.map_eq_none_iff] at h
      rw [h]; rfl
    · rename_i hy
      rw [if_neg hy]
      rw [Option.map_eq_none_iff] at h
      have e : digGo 0 (y :: (r ++ q)) = (digGo 0 (y :: r)).bind fun u => digGo u q := digGo_app q (y :: r) 0
      rw [e, h]; rfl
theorem sraw_nst {l : List UInt8} (h : l ≠ []) : sraw l = (nst l).map fun p => p.1 * (p.2 : Int) := by
  cases l with
  | nil => exact absurd rfl h
  | cons x r =>
    simp only [sraw, nst]
    split
    · cases digGo 0 r <;> simp
    · cases digGo 0 (x :: r) <;> simp
theorem nst_lt {p : List UInt8} {sg : Int} {n : Nat} (h : nst p = some (sg, n)) : (sg = 1 ∨ sg = -1) ∧ n < 10 ^ p.length := by
  cases p with
  | nil => cases h; exact ⟨.inl rfl, by simp⟩
  | cons y r =>
    simp only [nst] at h
    split at h
    · cases hd : digGo 0 r with
      | none => rw [hd] at h; cases h
      | some u =>
        rw [hd] at h
        cases h
        have := digGo_lt hd
        refine ⟨.inr rfl, ?_⟩
        rw [List.length_cons, Nat.pow_succ]
        omega
    · cases hd : digGo 0 (y :: r) with
      | none => rw [hd] at h; cases h
      | some u =>
        rw [hd] at h
        cases h
        have := digGo_lt hd
        exact ⟨.inl rfl, by omega⟩
set_option maxHeartbeats 1000000 in
theorem sat_l7Number (P : Program) (ins : List Value) (K : List Value → Prop) (_ : TypedL [.str] ins) (h : SP_l7Number ins K) : sat P Ss_l7Number tr_l7Number ins [] K := by
  obtain ⟨l, rfl, hl, hK⟩ := h
  have hlen : lenV (bv l) = (l.length : Int) := len_bv l
  refine evs_step (call_step rfl ⟨trivial, evs_nil ?_⟩)
  have hno : snum l = none → ∀ z, I64 z → K [.int .i64 z, .bool false] := by
    intro hn
    rw [hn] at hK
    exact hK
  have hin : i0 [lenV (bv l) |> Value.int .i64, .int .i64 1, .int .i64 4] 0 = (l.length : Int) := by
    show lenV (bv l) = _
    exact hlen
  have hG : G_l6In.out [Value.int .i64 (lenV (bv l)), .int .i64 1, .int .i64 4] = [.bool (inRg (l.length : Int) 1 4)] := by
    show [Value.bool (inRg (lenV (bv l)) 1 4)] = _
    rw [hlen]
  show sat P _ _ ([bv l] ++ G_l6In.out [Value.int .i64 (lenV (bv l)), .int .i64 1, .int .i64 4]) _ K
  rw [hG]
  have i640 : I64 0 := by unfold I64; omega
  refine ⟨fun hc => ?_, fun hc => ?_⟩
  · have hc : Value.bool (!inRg (l.length : Int) 1 4) = .bool true := hc
    have hc := Value.bool.inj hc
    refine hno ?_ 0 i640
    unfold snum
    split
    · rename_i h4
      have : l = [] := by
        cases l with
        | nil => rfl
        | cons x r => simp [inRg] at hc; simp at h4; omega
      rw [this]; rfl
    · rfl
  · have hc : Value.bool (!inRg (l.length : Int) 1 4) = .bool false := hc
    have hc := Value.bool.inj hc
    have h14 : 1 ≤ l.length ∧ l.length ≤ 4 := by simp [inRg] at hc; omega
    have hne : l ≠ [] := by intro e; rw [e] at h14; simp at h14
    refine ⟨fun vs => ∃ (i : Nat) (sg : Int) (n : Nat), vs = [.int .i64 i, .int .i64 sg, .int .i64 n] ∧ i ≤ l.length ∧ nst (l.take i) = some (sg, n), fun vs => l.length - (toI (vs.getD 0 undef)).toNat, ?_, ?_⟩
    · exact ⟨0, 1, 0, rfl, Nat.zero_le _, rfl⟩
    · rintro vs hty ⟨i, sg, n, rfl, hi, hst⟩
      obtain ⟨hsg, hn⟩ := nst_lt hst
      have hn4 : n < 10000 := by
        have h1 : (l.take i).length ≤ 4 := by simp; omega
        have := Nat.pow_le_pow_right (n := 10) (by decide) h1
        omega
      refine ⟨fun hc => ?_, fun hc => ?_⟩
      · have hc : Value.bool (decide ((i : Int) < lenV (bv l))) = .bool true := hc
        have hc2 := hc
        rw [hlen] at hc2
        have hlt : i < l.length := by have := bt_of hc2; omega
        have hx := List.getElem?_eq_getElem hlt
        have hb : byteV (strV (bv l)) (i : Int) = (l[i].toNat : Int) := byte_bv hx
        have hw : IntKind.i64.wrap ((i : Int) + 1) = ((i + 1 : Nat) : Int) := by rw [wrap_in (by omega)]; omega
        have htk : l.take (i + 1) = l.take i ++ [l[i]] := by rw [List.take_add_one, hx]; rfl
        have hstep := nst_step (x := l[i]) hst
        rw [← htk] at hstep
        have hmu : ∀ a b, l.length - (toI ([Value.int .i64 (IntKind.i64.wrap ((i : Int) + 1)), a, b].getD 0 undef)).toNat < l.length - (toI ([Value.int .i64 (i : Int), .int .i64 sg, .int .i64 n].getD 0 undef)).toNat := by
          intro a b
          show l.length - (IntKind.i64.wrap ((i : Int) + 1)).toNat < l.length - ((i : Int)).toNat
          rw [hw, Int.toNat_natCast, Int.toNat_natCast]
          clear hn4 hst hstep
          omega
        have hnil : l.take i = [] ↔ i = 0 := by
          constructor
          · intro e
            exact (List.take_eq_nil_iff.1 e).elim id fun h => absurd h hne
          · rintro rfl; rfl
        have h0i : Value.bool (decide (0 ≤ (i : Int))) = .bool true := bt (Int.natCast_nonneg i)
        have hfail : nst (l.take (i + 1)) = none → snum l = none := by
          intro hnn
          have : nst l = none := by
            rw [← List.take_append_drop (i + 1) l]
            exact nst_none hnn
          unfold snum
          rw [if_pos h14.2, sraw_nst hne, this]
          rfl
        refine evs_step (need_step (all_cons (need_if fun _ => h0i) (all_cons (need_if fun _ => hc) all_nil)) (evs_nil ?_))
        refine ⟨fun hg => ?_, fun hg => ?_⟩
        · have hg : (if ((i : Int) == 0) = true then Value.bool (byteV (strV (bv l)) i == 45) else Value.bool false) = .bool true := hg
          rw [hb] at hg
          have hi0 : i = 0 := by
            by_cases e : i = 0
            · exact e
            · rw [if_neg (by simp; omega)] at hg; cases hg
          rw [if_pos (by simp [hi0])] at hg
          have h45 : l[i] = 45 := by
            have := Value.bool.inj hg
            have : (l[i].toNat : Int) = 45 := by simpa using this
            exact UInt8.toNat_inj.1 (by show l[i].toNat = 45; omega)
          rw [if_pos ⟨hnil.2 hi0, h45⟩] at hstep
          have hn0 : n = 0 := by
            rw [hnil.2 hi0] at hst
            cases hst; rfl
          refine ⟨⟨i + 1, -1, 0, ?_, hlt, hstep⟩, hmu _ _⟩
          show [Value.int .i64 (IntKind.i64.wrap ((i : Int) + 1)), .int .i64 (-1), .int .i64 n] = _
          rw [hw, hn0]
        · have hg : (if ((i : Int) == 0) = true then Value.bool (byteV (strV (bv l)) i == 45) else Value.bool false) = .bool false := hg
          rw [hb] at hg
          have hno45 : ¬ (l.take i = [] ∧ l[i] = 45) := by
            rintro ⟨e1, e2⟩
            rw [if_pos (by simp [hnil.1 e1]), e2] at hg
            cases hg
          rw [if_neg hno45] at hstep
          refine evs_step (need_step (all_cons h0i (all_cons hc all_nil)) (need_step (all_cons (need_if fun _ => h0i) (all_cons (need_if fun _ => hc) all_nil)) (evs_nil ?_)))
          refine ⟨fun hd => ?_, fun hd => ?_⟩
          · have hd : (if decide (byteV (strV (bv l)) i ≥ 48) = true then Value.bool (decide (byteV (strV (bv l)) i ≤ 57)) else Value.bool false) = .bool true := hd
            rw [hb] at hd
            have hdig : 48 ≤ l[i].toNat ∧ l[i].toNat ≤ 57 := by
              by_cases e : (l[i].toNat : Int) ≥ 48
              · rw [if_pos (by simpa using e)] at hd
                have := bt_of hd
                omega
              · rw [if_neg (by simpa using e)] at hd; cases hd
            rw [if_pos hdig] at hstep
            refine evs_step (need_step (all_cons h0i (all_cons hc all_nil)) (evs_nil ⟨⟨i + 1, sg, 10 * n + (l[i].toNat - 48), ?_, hlt, hstep⟩, hmu _ _⟩))
            show [Value.int .i64 (IntKind.i64.wrap ((i : Int) + 1)), .int .i64 sg, .int .i64 (IntKind.i64.wrap (IntKind.i64.wrap (10 * (n : Int)) + IntKind.i64.wrap (IntKind.u8.wrap (byteV (strV (bv l)) i - 48))))] = _
            rw [hw, hb]
            have e1 : IntKind.u8.wrap ((l[i].toNat : Int) - 48) = ((l[i].toNat - 48 : Nat) : Int) := by
              rw [wrap_of_range (k := .u8) (by simp only [IntKind.min, IntKind.bits, IntKind.signed]; simp; omega) (by simp only [IntKind.max, IntKind.bits, IntKind.signed]; simp; omega)]
              omega
            rw [e1, wrap_in (show I64 (((l[i].toNat - 48 : Nat) : Int)) by unfold I64; omega), wrap_in (show I64 (10 * (n : Int)) by unfold I64; omega), wrap_in (by omega)]
            congr 4
          · have hd : (if decide (byteV (strV (bv l)) i ≥ 48) = true then Value.bool (decide (byteV (strV (bv l)) i ≤ 57)) else Value.bool false) = .bool false := hd
            rw [hb] at hd
            have hdig : ¬ (48 ≤ l[i].toNat ∧ l[i].toNat ≤ 57) := by
              intro e
              rw [if_pos (by simp; omega)] at hd
              have := bf_of hd
              omega
            rw [if_neg hdig] at hstep
            exact hno (hfail hstep) 0 i640
      · have hc : Value.bool (decide ((i : Int) < lenV (bv l))) = .bool false := hc
        rw [hlen] at hc
        have hge : i = l.length := by have := bf_of hc; omega
        subst hge
        rw [List.take_length] at hst
        have hsr : sraw l = some (sg * (n : Int)) := by rw [sraw_nst hne, hst]; rfl
        have hb : I64 (sg * (n : Int)) := by
          unfold I64
          rcases hsg with rfl | rfl <;> omega
        have hw : IntKind.i64.wrap (sg * (n : Int)) = sg * (n : Int) := wrap_in hb
        refine evs_step (call_step rfl ⟨IntKind.i64.wrap (sg * (n : Int)), rfl, evs_nil ?_⟩)
        show K [Value.int .i64 (IntKind.i64.wrap (sg * (n : Int))), .bool ((strV (bv (Lib.itoa (IntKind.i64.wrap (sg * (n : Int)))))).toList == (strV (bv l)).toList)]
        rw [hw, seq_bv]
        unfold snum at hK
        rw [if_pos h14.2, hsr] at hK
        dsimp only at hK
        by_cases he : Lib.itoa (sg * (n : Int)) = l
        · rw [if_pos he] at hK
          rw [decide_eq_true he]
          exact hK
        · rw [if_neg he] at hK
          rw [decide_eq_false he]
          exact hK _ hb
def tr_l7One : Tr := (.ite (.cmp .lss ξr76 ξr77) (.ret [(.int .u8 0), (.val (.slice none 0 0)), ξr2, (.val (.agg #[]))]) (.evs [.need [ξr5, (.cmp .lss ξr0 ξr76)], .app (.val (.agg #[])) 1 (.cells [])] (.evs [.need [ξr5, (.cmp .leq ξr3 ξr76), (.cmp .leq ξr76 ξr76)], .call 0 [(.ssub ξr20 ξr3 ξr76), (.int .u8 58)] none 2] (.lp 0 [ξr0, ξr27, (.val (.agg #[]))] [.int .i64, .sl, .row .i64 1] (.ite (.cmp .lss ξr24 (.len ξr21)) (.evs [.need [(.inb ξr23 ξr24 1)], .call 1 [(.sel ξr23 ξr24 1 0)] none 2] (.ite (.not ξr35) (.ret [(.sidx ξr20 ξr0), ξr25, ξr2, ξr29]) (.evs [.app ξr29 1 (.cells [ξr34])] (.next 0 [(.ar .add .i64 ξr24 ξr3), ξr26, ξr30])))) (.ite (.cmp .eql (.sidx ξr20 ξr0) (.int .u8 114)) (.ite (.cmp .eql (.sidx ξr20 ξr0) (.int .u8 114)) ξr47 ξr13) (.ite (.cmp .eql (.sidx ξr20 ξr0) (.int .u8 102)) ξr47 ξr13)))))))
def Ss_l7One : List Spec := [SP_l7Cut, SP_l7Number, G_l5Direction.spec, G_l6In.spec]
def SP_l7One : Spec := SP_one
set_option maxHeartbeats 2000000 in
theorem sat_l7One (P : Program) (ins : List Value) (K : List Value → Prop) (_ : TypedL [.str] ins) (h : SP_l7One ins K) : sat P Ss_l7One tr_l7One ins [] K := by
  obtain ⟨s, rfl, hl, hK⟩ := h
  have hlen : lenV (bv s) = (s.length : Int) := len_bv s
  have hno : pieceW snum s = none → ∀ k x c, K [k, x, .bool false, c] := by
    intro hn
    rw [hn] at hK
    exact hK
  refine ⟨fun hc => ?_, fun hc => ?_⟩
  · have hc : Value.bool (decide (lenV (bv s) < 2)) = .bool true := hc
    rw [hlen] at hc
    have hlt := bt_of hc
    refine hno ?_ _ _ _
    match s, hlt with
    | [], _ => rfl
    | [k], _ => rfl
    | _ :: _ :: _, h => simp at h; omega
  · have hc : Value.bool (decide (lenV (bv s) < 2)) = .bool false := hc
    rw [hlen] at hc
    have hge := bf_of hc
    obtain ⟨k, r, rfl⟩ : ∃ k r, s = k :: r := by
      cases s with
      | nil => simp at hge
      | cons k r => exact ⟨k, r, rfl⟩
    have h0l : Value.bool (decide (0 < lenV (bv (k :: r)))) = .bool true := by
      rw [hlen]
      exact bt (by simp only [List.length_cons]; omega)
    refine evs_step (need_step (all_cons rfl (all_cons h0l all_nil)) (app_empty (by omega) fun a1 cap1 => evs_nil ?_))
    refine evs_step (need_step (all_cons rfl (all_cons ?_ (all_cons ?_ all_nil))) (call_step rfl ?_))
    · show Value.bool (decide (1 ≤ lenV (bv (k :: r)))) = _
      rw [hlen]
      exact bt (by simp only [List.length_cons]; omega)
    · show Value.bool (decide (lenV (bv (k :: r)) ≤ lenV (bv (k :: r)))) = _
      exact bt (Int.le_refl _)
    · refine ⟨r, 58, ?_, by simp at hl; omega, fun a2 len2 cap2 hl2 => evs_nil ?_⟩
      · show [Value.string ((strV (bv (k :: r))).extract 1 (lenV (bv (k :: r))).toNat), u8 58] = _
        rw [extract_bv, hlen]
        simp
      subst hl2
      refine ⟨fun vs => ∃ (i : Nat) (a : Option Addr) (cap : Nat) (ns : List Int), vs = [.int .i64 i, .slice a i cap, rowI ns] ∧ i ≤ (cut 58 r).length ∧ numsW snum ((cut 58 r).take i) = some ns, fun vs => (cut 58 r).length - (toI (vs.getD 0 undef)).toNat, ?_, ?_⟩
      · exact ⟨0, a1, cap1, [], rfl, Nat.zero_le _, rfl⟩
      · rintro vs hty ⟨i, a, cap, ns, rfl, hi, hns⟩
        have hnl : ns.length = i := by
          rw [numsW_length hns]; simp; omega
        have hcc := cut_count 58 r
        refine ⟨fun hc => ?_, fun hc => ?_⟩
        · have hlt : i < (cut 58 r).length := by
            have hc : Value.bool (decide ((i : Int) < ((cut 58 r).length : Int))) = .bool true := hc
            have := bt_of hc; omega
          have hx := List.getElem?_eq_getElem hlt
          have hw : IntKind.i64.wrap ((i : Int) + 1) = ((i + 1 : Nat) : Int) := by rw [wrap_in (by simp at hl; omega)]; omega
          have htk : (cut 58 r).take (i + 1) = (cut 58 r).take i ++ [(cut 58 r)[i]] := by rw [List.take_add_one, hx]; rfl
          have hwl := cut_len 58 r _ (List.getElem_mem hlt)
          have hsn := numsW_snoc (nm := snum) (w := (cut 58 r)[i]) (ws := (cut 58 r).take i)
          rw [hns] at hsn
          refine evs_step (need_step (all_cons (inb_true (c := rowS (cut 58 r)) (i := i) (n := 1) (by simp [rowS_cells]; omega)) all_nil) (call_step rfl ?_))
          refine ⟨(cut 58 r)[i], ?_, by simp at hl; omega, ?_⟩
          · show [(rowS (cut 58 r)).cells.getD (((i : Int)).toNat * 1 + 0) undef] = _
            rw [Int.toNat_natCast, rowS_get hx]
          cases hv : snum (cut 58 r)[i] with
          | none =>
            intro z _
            refine evs_nil (ite_t rfl ?_)
            refine hno ?_ _ _ _
            have : numsW snum (cut 58 r) = none := numsW_none hv (List.getElem_mem hlt)
            simp only [pieceW, this]
          | some n =>
            rw [hv] at hsn
            have hsn : numsW snum ((cut 58 r).take i ++ [(cut 58 r)[i]]) = some (ns ++ [n]) := hsn
            refine evs_nil (ite_f rfl ?_)
            refine evs_step (app_step (xs := intVals ns) (ys := [.int .i64 n]) rfl rfl (by rw [intVals_map]; simp; simp at hl; omega) fun a3 len3 cap3 _ hl3 => evs_nil ?_)
            have hl3 : len3 = i + 1 := by rw [intVals_map] at hl3; simp at hl3; omega
            subst hl3
            refine ⟨⟨i + 1, a3, cap3, ns ++ [n], ?_, hlt, by rw [htk]; exact hsn⟩, ?_⟩
            · rw [← rowI_snoc]
              show [Value.int .i64 (IntKind.i64.wrap ((i : Int) + 1)), .slice a3 (i + 1) cap3, Value.agg (intVals ns ++ [Value.int .i64 n]).toArray] = _
              rw [hw]
            · show (cut 58 r).length - (IntKind.i64.wrap ((i : Int) + 1)).toNat < (cut 58 r).length - ((i : Int)).toNat
              rw [hw, Int.toNat_natCast, Int.toNat_natCast]
              omega
        · have hge : i = (cut 58 r).length := by
            have hc : Value.bool (decide ((i : Int) < ((cut 58 r).length : Int))) = .bool false := hc
            have := bf_of hc; omega
          have hns2 : numsW snum (cut 58 r) = some ns := by
            rw [← hns, hge, List.take_length]
          have hdone : ∀ b, okPiece k ns = b → K [u8 k, .slice a i cap, .bool b, rowI ns] := by
            intro b hb
            simp only [pieceW, hns2, hb] at hK
            cases b with
            | true => exact hK a i cap hnl.symm
            | false => exact hK _ _ _
          clear hK hno hc hty hns hns2 hge hcc hi
          subst hnl
          have hneq : ∀ m : Nat, Value.bool ((ns.length : Int) != (m : Int)) = .bool (decide (ns.length ≠ m)) := by
            intro m
            congr 1
            by_cases e : ns.length = m
            · simp [e]
            · simp [e]; omega
          have heq : ∀ m : Nat, Value.bool ((ns.length : Int) == (m : Int)) = .bool (decide (ns.length = m)) := by
            intro m
            congr 1
            by_cases e : ns.length = m
            · simp [e]
            · simp [e]; omega
          rcases k_cases k with rfl | rfl | rfl | rfl | rfl | ⟨k1, k2, k3, k4, k5⟩
          · refine ite_t rfl (ite_t rfl ?_)
            by_cases h2 : ns.length = 2
            · obtain ⟨p, q, rfl⟩ := two_list h2
              refine ite_f rfl (evs_step (need_step (all_cons rfl (all_cons rfl all_nil)) (need_step (all_cons rfl (all_cons rfl all_nil)) (call_step rfl ⟨trivial, evs_nil ?_⟩))))
              exact hdone (dirOk p q) rfl
            · exact ite_t ((hneq 2).trans (bt h2)) (hdone false (ok_len2 (by simp) h2))
          · refine ite_f rfl (ite_t rfl ?_)
            by_cases h2 : ns.length = 2
            · obtain ⟨p, q, rfl⟩ := two_list h2
              refine ite_f rfl (evs_step (need_step (all_cons rfl (all_cons rfl all_nil)) (need_step (all_cons rfl (all_cons rfl all_nil)) (call_step rfl ⟨trivial, evs_nil ?_⟩))))
              exact hdone (dirOk p q) rfl
            · exact ite_t ((hneq 2).trans (bt h2)) (hdone false (ok_len2 (by simp) h2))
          · refine ite_f rfl (ite_f rfl (ite_t rfl ?_))
            by_cases h3 : ns.length = 3
            · obtain ⟨p, q, t, rfl⟩ := three_list h3
              refine ite_f rfl (evs_step (need_step (all_cons rfl (all_cons rfl all_nil)) (need_step (all_cons rfl (all_cons rfl all_nil)) (call_step rfl ⟨trivial, evs_nil ?_⟩))))
              refine evs_step (need_step (all_cons (need_if fun _ => rfl) all_nil) (need_step (all_cons (need_if fun _ => rfl) all_nil) (callg_step rfl (fun hg => ⟨trivial, evs_nil ?_⟩) (fun hg => evs_nil ?_))))
              · have hg : dirOk p q = true := hg
                have := hdone (dirOk p q && inRg t 0 3) rfl
                rw [hg, Bool.true_and] at this
                show K [_, _, (if toB (Value.bool (dirOk p q)) = true then Value.bool (inRg t 0 3) else Value.bool false), _]
                rw [hg]
                exact this
              · have hg : dirOk p q = false := hg
                have := hdone (dirOk p q && inRg t 0 3) rfl
                rw [hg, Bool.false_and] at this
                show K [_, _, (if toB (Value.bool (dirOk p q)) = true then _ else Value.bool false), _]
                rw [hg]
                exact this
            · exact ite_t ((hneq 3).trans (bt h3)) (hdone false (ok_len3 h3))
          · refine ite_f rfl (ite_f rfl (ite_f rfl (ite_t rfl (ite_t rfl ?_))))
            by_cases h2 : ns.length = 2
            · obtain ⟨n, d, rfl⟩ := two_list h2
              refine evs_step (need_step (all_cons (need_if fun _ => rfl) (all_cons (need_if fun _ => rfl) (all_cons (need_if fun _ => rfl) all_nil))) (need_step (all_cons (need_if fun _ => rfl) all_nil) (callg_step rfl (fun _ => ⟨trivial, ?_⟩) (fun hg => (by cases hg)))))
              refine need_step (all_cons (need_if fun _ => rfl) (all_cons (need_if fun _ => rfl) all_nil)) (callg_step rfl (fun hg => ⟨trivial, evs_nil ?_⟩) (fun hg => evs_nil ?_))
              · have hg : inRg d 1 100 = true := hg
                have := hdone (inRg d 1 100 && inRg n 0 d) rfl
                rw [hg, Bool.true_and] at this
                show K [_, _, (if toB (Value.bool (inRg d 1 100)) = true then Value.bool (inRg n 0 d) else Value.bool false), _]
                rw [hg]
                exact this
              · have hg : inRg d 1 100 = false := hg
                have := hdone (inRg d 1 100 && inRg n 0 d) rfl
                rw [hg, Bool.false_and] at this
                show K [_, _, (if toB (Value.bool (inRg d 1 100)) = true then _ else Value.bool false), _]
                rw [hg]
                exact this
            · have e2 : Value.bool ((ns.length : Int) == 2) = .bool false := (heq 2).trans (congrArg Value.bool (decide_eq_false h2))
              have g0 : ¬ toB (Value.bool ((ns.length : Int) == 2)) = true := by rw [e2]; simp
              refine evs_step (need_step (all_cons (need_if fun h => absurd h g0) (all_cons (need_if fun h => absurd h g0) (all_cons (need_if fun h => absurd h g0) all_nil))) (need_step (all_cons (need_if fun h => absurd h g0) all_nil) (callg_step rfl (fun h => absurd h g0) (fun _ => ?_))))
              have g1 : ∀ v : Value, ¬ toB (if toB (Value.bool ((ns.length : Int) == 2)) = true then v else Value.bool false) = true := by
                intro v
                rw [if_neg g0]
                simp
              refine need_step (all_cons (need_if fun h => absurd h (g1 _)) (all_cons (need_if fun h => absurd h (g1 _)) all_nil)) (callg_step rfl (fun h => absurd h (g1 _)) (fun _ => evs_nil ?_))
              show K [_, _, (if toB (if toB (Value.bool ((ns.length : Int) == 2)) = true then undef else Value.bool false) = true then undef else Value.bool false), _]
              rw [if_neg (g1 _)]
              exact hdone false (ok_len2 (by simp) h2)
          · refine ite_f rfl (ite_f rfl (ite_f rfl (ite_f rfl (ite_t rfl ?_))))
            by_cases h2 : ns.length = 2
            · obtain ⟨n, d, rfl⟩ := two_list h2
              refine evs_step (need_step (all_cons (need_if fun _ => rfl) (all_cons (need_if fun _ => rfl) (all_cons (need_if fun _ => rfl) all_nil))) (need_step (all_cons (need_if fun _ => rfl) all_nil) (callg_step rfl (fun _ => ⟨trivial, ?_⟩) (fun hg => (by cases hg)))))
              refine need_step (all_cons (need_if fun _ => rfl) (all_cons (need_if fun _ => rfl) all_nil)) (callg_step rfl (fun hg => ⟨trivial, evs_nil ?_⟩) (fun hg => evs_nil ?_))
              · have hg : inRg d 1 100 = true := hg
                have := hdone (inRg d 1 100 && inRg n 0 d) rfl
                rw [hg, Bool.true_and] at this
                show K [_, _, (if toB (Value.bool (inRg d 1 100)) = true then Value.bool (inRg n 0 d) else Value.bool false), _]
                rw [hg]
                exact this
              · have hg : inRg d 1 100 = false := hg
                have := hdone (inRg d 1 100 && inRg n 0 d) rfl
                rw [hg, Bool.false_and] at this
                show K [_, _, (if toB (Value.bool (inRg d 1 100)) = true then _ else Value.bool false), _]
                rw [hg]
                exact this
            · have e2 : Value.bool ((ns.length : Int) == 2) = .bool false := (heq 2).trans (congrArg Value.bool (decide_eq_false h2))
              have g0 : ¬ toB (Value.bool ((ns.length : Int) == 2)) = true := by rw [e2]; simp
              refine evs_step (need_step (all_cons (need_if fun h => absurd h g0) (all_cons (need_if fun h => absurd h g0) (all_cons (need_if fun h => absurd h g0) all_nil))) (need_step (all_cons (need_if fun h => absurd h g0) all_nil) (callg_step rfl (fun h => absurd h g0) (fun _ => ?_))))
              have g1 : ∀ v : Value, ¬ toB (if toB (Value.bool ((ns.length : Int) == 2)) = true then v else Value.bool false) = true := by
                intro v
                rw [if_neg g0]
                simp
              refine need_step (all_cons (need_if fun h => absurd h (g1 _)) (all_cons (need_if fun h => absurd h (g1 _)) all_nil)) (callg_step rfl (fun h => absurd h (g1 _)) (fun _ => evs_nil ?_))
              show K [_, _, (if toB (if toB (Value.bool ((ns.length : Int) == 2)) = true then undef else Value.bool false) = true then undef else Value.bool false), _]
              rw [if_neg (g1 _)]
              exact hdone false (ok_len2 (by simp) h2)
          · exact ite_f (beq_f k1) (ite_f (beq_f k2) (ite_f (beq_f k3) (ite_f (beq_f k4) (ite_f (beq_f k5) (hdone false (ok_other k1 k2 k3 k4 k5))))))
def tr_l7Bench : Tr := (.evs [.app (.val (.agg #[])) 2 (.cells [])] (.ite (.seq ξr20 (.val (.string ⟨#[]⟩))) (.ret [ξr27, ξr5, (.val (.agg #[]))]) (.ite (.cmp .gtr ξr76 (.int .i64 300)) (.ret [ξr27, ξr2, (.val (.agg #[]))]) (.evs [.call 0 [ξr20, (.int .u8 32)] none 2] (.lp 0 [ξr0, ξr27, (.val (.agg #[]))] [.int .i64, .sl, .rowC [.int .u8, .fat .i64 1]] (.ite (.cmp .lss ξr24 (.len ξr21)) (.evs [.need [(.inb ξr23 ξr24 1)], .call 1 [(.sel ξr23 ξr24 1 0)] none 4] (.ite (.not ξr26) (.ret [ξr25, ξr2, ξr29]) (.evs [.app ξr29 2 (.cells [ξr34, (.fat ξr35 ξr30)])] (.next 0 [(.ar .add .i64 ξr24 ξr3), ξr50, ξr53])))) (.ret [ξr25, (.cmp .leq (.len ξr25) (.int .i64 12)), ξr29])))))))
def Ss_l7Bench : List Spec := [SP_l7Cut, SP_l7One]
def SP_l7Bench : Spec := SP_sb
end Go.Sx
