import Derived.Test.YtidldoahiddpgaaGreatDoorEf
import Derived.KernelRfl
namespace Go.Sx
open Go
set_option maxRecDepth 100000
set_option linter.unusedSimpArgs false
set_option linter.unusedVariables false
abbrev ξ0 : Ex := (.int .i64 0)
abbrev ξ1 : Ex := (.bool false)
abbrev ξ2 : Ex := (.int .i64 1)
abbrev ξ3 : List Ex := [(.var 0), (.var 1), (.var 2), (.var 3), (.var 4), (.var 5), (.var 6), (.var 7), (.var 8), (.var 9), (.var 10), (.var 11), (.var 12), (.var 13), (.var 14), (.var 15), (.var 16), (.var 17), (.var 18), (.var 19), (.var 20), (.var 21), (.var 22), (.var 23), (.var 24), (.var 25), (.var 26), (.var 27), (.var 28), (.var 29), (.var 30), (.var 31), (.var 32), (.var 33), (.var 34), (.var 35), (.var 36), (.var 37), (.var 38), (.var 39), (.var 40), (.var 41), (.var 42), (.var 43), (.var 44), (.var 45), (.var 46), (.var 47)]
abbrev ξ4 : Tr := (.evs [.call 1 [(.var 13), (.var 14), (.var 15), (.var 17), (.var 18), (.var 19), (.var 20)] none 4, .call 2 [(.var 21), (.var 22), (.var 23), (.var 24)] none 4] (.ret [(.var 25), (.var 26), (.var 27), (.var 28)]))
abbrev ξ5 : Ex := (.bool true)
abbrev ξ6 : Ex := (.cmp .eql (.len (.var 6)) (.int .i64 2))
abbrev ξ7 : List Ex := [(.var 0), (.var 1), (.var 2), (.var 3), (.var 4), (.var 5), (.var 6), (.var 7), (.var 8), (.var 9), (.var 10), (.var 11)]
abbrev ξ8 : Ex := (.int .i64 9223372036854775807)
abbrev ξ9 : List Ex := [(.var 0), (.var 1), (.var 2)]
abbrev ξ10 : Tr := (.ite (.cmp .eql (.sidx (.var 0) ξ0) (.int .u8 119)) (.evs [.need [(.ite (.var 12) (.inb (.var 5) (.int .i64 2) 1) ξ5)], .need [(.ite (.var 12) (.inb (.var 5) (.int .i64 2) 1) ξ5)], .call 3 [(.sel (.var 5) (.int .i64 2) 1 0), ξ0, (.int .i64 3)] (some (.var 12)) 1] (.ret [(.sidx (.var 0) ξ0), (.var 4), (.var 0), (.ite (.var 12) (.var 13) ξ1), (.var 5)])) (.ite (.cmp .eql (.sidx (.var 0) ξ0) (.int .u8 97)) (.ite (.cmp .eql (.sidx (.var 0) ξ0) (.int .u8 97)) (.evs [.need [(.inb (.var 5) ξ2 1)], .call 3 [(.sel (.var 5) ξ2 1 0), ξ2, (.int .i64 100)] none 1, .need [(.ite (.var 13) (.inb (.var 5) ξ0 1) ξ5), (.ite (.var 13) (.inb (.var 5) ξ2 1) ξ5)], .call 3 [(.sel (.var 5) ξ0 1 0), ξ0, (.sel (.var 5) ξ2 1 0)] (some (.var 13)) 1] (.ret [(.sidx (.var 0) ξ0), (.var 4), (.var 0), (.ite (.var 13) (.var 14) ξ1), (.var 5)])) (.ret [(.sidx (.var 0) ξ0), (.var 4), (.var 0), ξ1, (.var 5)])) (.ite (.cmp .eql (.sidx (.var 0) ξ0) (.int .u8 100)) (.evs [.need [(.inb (.var 5) ξ2 1)], .call 3 [(.sel (.var 5) ξ2 1 0), ξ2, (.int .i64 100)] none 1, .need [(.ite (.var 13) (.inb (.var 5) ξ0 1) ξ5), (.ite (.var 13) (.inb (.var 5) ξ2 1) ξ5)], .call 3 [(.sel (.var 5) ξ0 1 0), ξ0, (.sel (.var 5) ξ2 1 0)] (some (.var 13)) 1] (.ret [(.sidx (.var 0) ξ0), (.var 4), (.var 0), (.ite (.var 13) (.var 14) ξ1), (.var 5)])) (.ret [(.sidx (.var 0) ξ0), (.var 4), (.var 0), ξ1, (.var 5)]))))
abbrev ξ11 : Tr := (.ite (.cmp .eql (.sidx (.var 0) ξ0) (.int .u8 119)) (.ite (.cmp .neq (.len (.var 6)) (.int .i64 3)) (.ret [(.sidx (.var 0) ξ0), (.var 6), ξ1, (.var 7)]) (.evs [.need [(.inb (.var 7) ξ0 1), (.inb (.var 7) ξ2 1)], .need [(.inb (.var 7) ξ0 1), (.inb (.var 7) ξ2 1)], .call 2 [(.sel (.var 7) ξ0 1 0), (.sel (.var 7) ξ2 1 0)] none 7] (.evs [.need [(.ite (.var 14) (.inb (.var 7) (.int .i64 2) 1) ξ5)], .need [(.ite (.var 14) (.inb (.var 7) (.int .i64 2) 1) ξ5)], .call 3 [(.sel (.var 7) (.int .i64 2) 1 0), ξ0, (.int .i64 3)] (some (.var 14)) 1] (.ret [(.sidx (.var 0) ξ0), (.var 6), (.ite (.var 14) (.var 15) ξ1), (.var 7)])))) (.ite (.cmp .eql (.sidx (.var 0) ξ0) (.int .u8 97)) (.ite (.cmp .eql (.sidx (.var 0) ξ0) (.int .u8 97)) (.evs [.need [(.ite ξ6 (.inb (.var 7) ξ2 1) ξ5), (.ite ξ6 (.inb (.var 7) ξ0 1) ξ5), (.ite ξ6 (.inb (.var 7) ξ2 1) ξ5)], .need [(.ite ξ6 (.inb (.var 7) ξ2 1) ξ5)], .call 3 [(.sel (.var 7) ξ2 1 0), ξ2, (.int .i64 100)] (some ξ6) 1, .need [(.ite (.ite ξ6 (.var 8) ξ1) (.inb (.var 7) ξ0 1) ξ5), (.ite (.ite ξ6 (.var 8) ξ1) (.inb (.var 7) ξ2 1) ξ5)], .call 3 [(.sel (.var 7) ξ0 1 0), ξ0, (.sel (.var 7) ξ2 1 0)] (some (.ite ξ6 (.var 8) ξ1)) 1] (.ret [(.sidx (.var 0) ξ0), (.var 6), (.ite (.ite ξ6 (.var 8) ξ1) (.var 9) ξ1), (.var 7)])) (.ret [(.sidx (.var 0) ξ0), (.var 6), ξ1, (.var 7)])) (.ite (.cmp .eql (.sidx (.var 0) ξ0) (.int .u8 100)) (.evs [.need [(.ite ξ6 (.inb (.var 7) ξ2 1) ξ5), (.ite ξ6 (.inb (.var 7) ξ0 1) ξ5), (.ite ξ6 (.inb (.var 7) ξ2 1) ξ5)], .need [(.ite ξ6 (.inb (.var 7) ξ2 1) ξ5)], .call 3 [(.sel (.var 7) ξ2 1 0), ξ2, (.int .i64 100)] (some ξ6) 1, .need [(.ite (.ite ξ6 (.var 8) ξ1) (.inb (.var 7) ξ0 1) ξ5), (.ite (.ite ξ6 (.var 8) ξ1) (.inb (.var 7) ξ2 1) ξ5)], .call 3 [(.sel (.var 7) ξ0 1 0), ξ0, (.sel (.var 7) ξ2 1 0)] (some (.ite ξ6 (.var 8) ξ1)) 1] (.ret [(.sidx (.var 0) ξ0), (.var 6), (.ite (.ite ξ6 (.var 8) ξ1) (.var 9) ξ1), (.var 7)])) (.ret [(.sidx (.var 0) ξ0), (.var 6), ξ1, (.var 7)]))))
abbrev ξ12 : Tr := (.ret [ξ0, ξ0, ξ0, ξ0, ξ0, ξ0, ξ0, ξ0, ξ0, ξ0, ξ0, ξ0, ξ1])
abbrev ξ13 : Tr := (.ret [ξ0, ξ0, ξ0, ξ0, ξ0, ξ0, ξ0, ξ0, ξ0, ξ0, ξ0, ξ0, ξ0, ξ0, ξ0, ξ0, ξ0, ξ0, ξ0, ξ0, ξ0, ξ0, ξ0, ξ0, ξ0, ξ0, ξ0, ξ0, ξ0, ξ0, ξ0, ξ0, ξ0, ξ0, ξ0, ξ0, ξ0, ξ0, ξ0, ξ0, ξ0, ξ0, ξ0, ξ0, ξ0, ξ0, ξ0, ξ0, ξ1])
abbrev ξ14 : Ex := (.var 2)
abbrev ξ15 : Ex := (.var 3)
abbrev ξ16 : Ex := (.var 1)
abbrev ξ17 : Ex := (.var 10)
abbrev ξ18 : Ex := (.var 11)
abbrev ξ19 : List Evn := [.call 3 [(.var 31), (.var 32), (.var 33), (.var 34), (.var 35), (.var 36), (.var 37), (.var 38), (.var 39), (.var 40), (.var 41), (.var 42), (.var 43), (.var 44), (.var 45), (.var 46), (.var 47), (.var 48), (.var 49), (.var 50), (.var 51), (.var 52), (.var 53), (.var 54), (.var 55), (.var 56), (.var 57), (.var 58), (.var 59), (.var 60), (.var 61), (.var 62), (.var 63), (.var 64), (.var 65), (.var 66), (.var 67), (.var 68), (.var 69), (.var 70), (.var 71), (.var 72), (.var 73), (.var 74), (.var 75), (.var 76), (.var 77), (.var 78), (.var 19), (.var 20), (.var 21), (.var 22), (.var 23), (.var 24), (.var 25), (.var 26), (.var 27), (.var 28), (.var 29), (.var 30)] none 13]
abbrev ξ20 : Ex := (.var 0)
abbrev ξ21 : Ex := (.var 4)
abbrev ξ22 : Ex := (.var 5)
abbrev ξ23 : Ex := (.var 6)
abbrev ξ24 : Ex := (.var 7)
abbrev ξ25 : Ex := (.var 8)
abbrev ξ26 : Ex := (.var 9)
abbrev ξ27 : Ex := (.var 12)
abbrev ξ28 : Ex := (.ar .sub .i64 (.ar .add .i64 ξ14 ξ2) ξ2)
abbrev ξ29 : Ex := (.ite (.cmp .eql (.var 14) (.var 27)) (.ite (.cmp .eql (.var 15) (.var 28)) (.ite (.cmp .eql (.var 16) (.var 29)) (.ite (.cmp .eql (.var 17) (.var 30)) (.ite (.cmp .eql (.var 18) (.var 31)) (.ite (.cmp .eql (.var 19) (.var 32)) (.ite (.cmp .eql (.var 20) (.var 33)) (.ite (.cmp .eql (.var 21) (.var 34)) (.ite (.cmp .eql (.var 22) (.var 35)) (.ite (.cmp .eql (.var 23) (.var 36)) (.ite (.cmp .eql (.var 24) (.var 37)) (.cmp .eql (.var 25) (.var 38)) ξ1) ξ1) ξ1) ξ1) ξ1) ξ1) ξ1) ξ1) ξ1) ξ1) ξ1)
abbrev ξ30 : Tr := (.ret [(.var 33), (.var 34), (.var 35), ξ20, ξ16, ξ14, ξ15, ξ21, ξ22, ξ23, ξ24, ξ25, ξ26, ξ17, ξ18, ξ27, (.var 13), (.var 14), (.var 15), (.var 16), (.var 17), (.var 18), (.var 19), (.var 20), (.var 21), (.var 22), (.var 23), (.var 36)])
abbrev ξ31 : Tr := (.evs [.call 0 [ξ20, (.int .i64 (-100)), (.int .i64 100)] none 1, .call 0 [ξ16, (.int .i64 (-100)), (.int .i64 100)] (some (.not (.not ξ14))) 1] (.ite (.ite (.ite (.not ξ14) ξ5 (.not ξ15)) ξ5 (.ite (.cmp .eql ξ20 ξ0) (.cmp .eql ξ16 ξ0) ξ1)) (.ret [ξ0, ξ0, ξ0, ξ0, ξ0, ξ0, ξ1]) (.evs [.call 1 [(.ar .sub .i64 (.ar .mul .i64 ξ20 ξ20) (.ar .mul .i64 ξ16 ξ16)), ξ0, (.ar .add .i64 (.ar .mul .i64 ξ20 ξ20) (.ar .mul .i64 ξ16 ξ16))] none 4] (.evs [.call 1 [(.ar .mul .i64 (.ar .mul .i64 (.int .i64 2) ξ20) ξ16), ξ0, (.ar .add .i64 (.ar .mul .i64 ξ20 ξ20) (.ar .mul .i64 ξ16 ξ16))] none 4] (.ret [ξ21, ξ22, ξ23, ξ25, ξ26, ξ17, ξ5])))))
abbrev ξ32 : Tr := (.evs [.call 0 ξ9 none 1] (.ite (.not ξ27) (.ret [ξ1]) (.evs [.call 0 [ξ15, ξ21, ξ22] none 1] (.ite (.not (.var 13)) (.ret [ξ1]) (.evs [.call 0 [ξ23, ξ24, ξ25] none 1] (.ite (.not (.var 14)) (.ret [ξ1]) (.evs [.call 0 [ξ26, ξ17, ξ18] none 1] (.ite (.not (.var 15)) (.ret [ξ1]) (.ret [ξ5])))))))))
abbrev ξ33 : Tr := (.evs [.call 1 ξ9 none 48] (.ret [ξ21, ξ22, ξ23, ξ24, ξ25, ξ26, ξ17, ξ18, ξ27, (.var 13), (.var 14), (.var 15), (.var 16), (.var 17), (.var 18), (.var 19), (.var 20), (.var 21), (.var 22), (.var 23), (.var 24), (.var 25), (.var 26), (.var 27), (.var 28), (.var 29), (.var 30), (.var 31), (.var 32), (.var 33), (.var 34), (.var 35), (.var 36), (.var 37), (.var 38), (.var 39), (.var 40), (.var 41), (.var 42), (.var 43), (.var 44), (.var 45), (.var 46), (.var 47), (.var 48), (.var 49), (.var 50), (.var 51), ξ5]))
abbrev ξ34 : List Evn := [.call 0 ξ9 none 1, .call 0 [ξ15, ξ21, ξ22] (some (.not (.not ξ23))) 1]
abbrev ξ35 : Tr := (.evs [.need [(.inb ξ22 ξ0 1), (.inb ξ22 ξ2 1)], .need [(.inb ξ22 ξ0 1), (.inb ξ22 ξ2 1)], .call 2 [(.sel ξ22 ξ0 1 0), (.sel ξ22 ξ2 1 0)] none 7] (.ite (.cmp .eql (.sidx ξ20 ξ0) (.int .u8 114)) (.ite (.cmp .eql (.sidx ξ20 ξ0) (.int .u8 114)) (.ret [(.sidx ξ20 ξ0), ξ21, ξ20, ξ27, ξ22]) ξ10) (.ite (.cmp .eql (.sidx ξ20 ξ0) (.int .u8 102)) (.ret [(.sidx ξ20 ξ0), ξ21, ξ20, ξ27, ξ22]) ξ10)))
abbrev ξ36 : Tr := (.evs [.call 0 [ξ20, ξ16, ξ14, ξ23, ξ24, ξ25, ξ27] none 4] (.evs [.call 0 [ξ15, ξ21, ξ22, ξ26, ξ17, ξ18, (.var 16)] none 4] ξ4))
abbrev ξ37 : Ex := (.ar .add .i64 (.ar .add .i64 (.ar .add .i64 (.ar .mul .i64 (.conv .i64 (.sel ξ15 (.ar .rem .i64 ξ28 (.len ξ16)) 1 0)) (.int .i64 131)) (.ar .mul .i64 (.conv .i64 (.sel ξ15 (.ar .rem .i64 (.ar .add .i64 (.ar .mul .i64 ξ28 (.int .i64 7)) (.int .i64 3)) (.len ξ16)) 1 0)) (.int .i64 1117))) (.ar .mul .i64 ξ28 (.int .i64 29))) (.ar .mul .i64 (.ar .quo .i64 ξ28 (.len ξ16)) (.int .i64 53)))
abbrev ξ38 : List Ex := [ξ27, (.var 13), (.var 14), (.var 15), (.var 16), (.var 17), (.var 18), (.var 19), (.var 20), (.var 21), (.var 22), (.var 23)]
abbrev ξ39 : Tr := (.ret [ξ0, ξ0, ξ0, ξ1])
abbrev ξ40 : Ex := (.var 14)
abbrev ξ41 : Ex := (.var 15)
abbrev ξ42 : Ex := (.var 13)
abbrev ξ43 : Tr := (.evs [.call 3 [(.var 37), (.var 38), (.var 39), (.var 40)] none 4] (.ret [(.var 41), (.var 42), (.var 43), (.var 44)]))
abbrev ξ44 : Ex := (.var 16)
abbrev ξ45 : Ex := (.var 17)
abbrev ξ46 : Tr := (.ret [ξ1])
abbrev ξ47 : Tr := (.evs ξ34 (.ite (.ite (.not ξ23) ξ5 (.not ξ24)) ξ39 (.evs [.call 1 [(.ar .sub .i64 (.ar .mul .i64 ξ20 ξ15) (.ar .mul .i64 ξ16 ξ21)), (.ar .add .i64 (.ar .mul .i64 ξ20 ξ21) (.ar .mul .i64 ξ16 ξ15)), (.ar .mul .i64 ξ14 ξ22)] none 4] (.ret [ξ25, ξ26, ξ17, ξ18]))))
abbrev ξ48 : Ex := (.var 23)
abbrev ξ49 : Ex := (.int .i64 2)
abbrev ξ50 : List Ex := [(.ar .add .i64 (.ar .add .i64 ξ2 ξ40) ξ2), (.ite ξ20 (.var 18) ξ41), (.ite ξ20 (.var 19) ξ44)]
abbrev ξ51 : Tr := (.ite (.cmp .neq (.len ξ23) ξ49) (.ret [(.sidx ξ20 ξ0), ξ23, ξ1, ξ24]) (.evs [.need [(.inb ξ24 ξ0 1), (.inb ξ24 ξ2 1)], .need [(.inb ξ24 ξ0 1), (.inb ξ24 ξ2 1)], .call 2 [(.sel ξ24 ξ0 1 0), (.sel ξ24 ξ2 1 0)] none 7] (.ret [(.sidx ξ20 ξ0), ξ23, ξ40, ξ24])))
abbrev ξ52 : Tr := (.evs [.call 0 [ξ20, ξ16, ξ14, ξ15, ξ21, ξ22] none 4, .call 1 [ξ24, ξ25, ξ26, ξ17, ξ23] none 4] (.ret [ξ18, ξ27, ξ42, ξ40]))
abbrev ξ53 : Tr := (.evs [.call 0 [ξ20, ξ16, ξ14, ξ26, ξ17, ξ18, ξ27] none 4] (.evs [.call 0 [ξ15, ξ21, ξ22, ξ23, ξ24, ξ25, ξ44] none 4] ξ4))
abbrev ξ54 : Tr := (.ret [ξ2, ξ0, ξ2, ξ0, ξ0, ξ2, ξ0, ξ0, ξ2, ξ0, ξ0, ξ2, ξ0, ξ0, ξ2, ξ20, ξ16, ξ14, ξ0, ξ0, ξ2, ξ0, ξ0, ξ2, ξ0, ξ0, ξ2, ξ0, ξ0, ξ2, ξ20, ξ16, ξ14, ξ0, ξ0, ξ2, ξ0, ξ0, ξ2, ξ0, ξ0, ξ2, ξ0, ξ0, ξ2, ξ20, ξ16, ξ14])
abbrev ξ55 : Ex := (.var 24)
abbrev ξ56 : List Ex := [(.cmp .neq (.len ξ16) ξ0), (.inb ξ15 (.ar .rem .i64 ξ28 (.len ξ16)) 1), (.cmp .neq (.len ξ16) ξ0), (.inb ξ15 (.ar .rem .i64 (.ar .add .i64 (.ar .mul .i64 ξ28 (.int .i64 7)) (.int .i64 3)) (.len ξ16)) 1), (.cmp .neq (.len ξ16) ξ0)]
abbrev ξ57 : Ex := (.var 22)
abbrev ξ58 : Ex := (.var 20)
abbrev ξ59 : Ex := (.ite (.ite ξ15 ξ21 ξ1) ξ22 ξ1)
abbrev ξ60 : Ex := (.var 18)
abbrev ξ61 : List Ex := [(.var 29), (.var 30), (.var 31), (.var 33), (.var 34), (.var 35), (.var 36)]
abbrev ξ62 : List Ex := [(.var 25), (.var 26), (.var 27), (.var 29), (.var 30), (.var 31), (.var 32)]
abbrev ξ63 : Ex := (.var 19)
abbrev ξ64 : Ex := (.var 21)
abbrev ξ65 : Tr := (.evs [.call 0 ξ9 none 4, .call 1 [ξ21, ξ22, ξ23, ξ24, ξ15] none 4] (.ret [ξ25, ξ26, ξ17, ξ18]))
abbrev ξ66 : Ex := (.var 28)
abbrev ξ67 : Tr := (.ite ξ27 (.ret [ξ0, ξ0, ξ0, ξ0, ξ0, ξ0, ξ0, ξ0, ξ0, ξ0, ξ0, ξ0, ξ1, ξ27]) (.ret [ξ20, ξ16, ξ14, ξ15, ξ21, ξ22, ξ23, ξ24, ξ25, ξ26, ξ17, ξ18, ξ5, ξ27]))
abbrev ξ68 : Ex := (.len ξ20)
abbrev ξ69 : List Ex := [(.inb ξ15 ξ0 1), (.inb ξ15 ξ2 1)]
abbrev ξ70 : Ex := (.var 26)
abbrev ξ71 : List Ex := [(.inb ξ14 ξ0 1), (.inb ξ14 ξ2 1)]
abbrev ξ72 : List Evn := [.call 0 [ξ20, ξ16, ξ14, ξ20, ξ16, ξ14, ξ27] none 4]
abbrev ξ73 : Ex := (.var 27)
abbrev ξ74 : Ex := (.var 25)
abbrev ξ75 : Tr := (.ret [ξ21, ξ22, ξ23, ξ24, ξ25, ξ26, ξ17, ξ18, ξ27, ξ42, ξ40, ξ41, ξ44])
abbrev ξ76 : Tr := (.ret [ξ15, ξ21, ξ22, ξ23, ξ24, ξ25, ξ26, ξ17, ξ18, ξ27, ξ42, ξ40, ξ41])
abbrev ξ77 : Ex := (.ar .sub .i64 ξ8 (.len ξ17))
abbrev ξ78 : List Evn := [.call 0 ξ9 none 1]
abbrev ξ79 : Ex := (.var 32)
abbrev ξ80 : List Evn := [.call 0 [ξ20, ξ16, ξ14, ξ15, ξ21, ξ22] none 4]
abbrev ξ81 : List Evn := [.need [ξ5]]
abbrev ξ82 : Ex := (.int .i64 2000000000)
abbrev ξ83 : List Ex := [ξ15, ξ21, ξ22, ξ23, ξ24, ξ25, ξ26, ξ17, ξ18, ξ27, ξ42, ξ40]
abbrev ξ84 : Tr := (.ret [ξ66, (.var 29), (.var 30), (.var 31), ξ79, (.var 33), (.var 34), (.var 35), (.var 36), (.var 37), (.var 38), (.var 39), (.var 40)])
abbrev ξ85 : Ex := (.var 48)
abbrev ξ86 : Tr := (.evs [.call 0 [ξ20, ξ16, ξ14, ξ15, ξ21, ξ22, ξ27] none 4] (.evs [.call 0 [ξ23, ξ24, ξ25, ξ26, ξ17, ξ18, ξ44] none 4] ξ4))
abbrev ξ87 : Tr := (.evs [.call 0 [ξ15, ξ21, ξ22, ξ20, ξ16, ξ14, ξ27] none 4] (.evs [.call 0 [ξ26, ξ17, ξ18, ξ23, ξ24, ξ25, ξ44] none 4] ξ4))
abbrev ξ88 : Ex := (.ite (.var 46) (.var 59) ξ1)
abbrev ξ89 : Ex := (.ar .sub .i64 (.ar .mul .i64 ξ20 ξ22) (.ar .mul .i64 ξ15 ξ14))
abbrev ξ90 : List Ex := [ξ85, (.var 49), (.var 50), (.var 51), (.var 52), (.var 53), (.var 54), (.var 55), (.var 56), (.var 57), (.var 58), (.var 59)]
abbrev ξ91 : Ex := (.var 33)
abbrev ξ92 : Ex := (.var 30)
abbrev ξ93 : Ex := (.ite (.not ξ23) ξ5 (.not ξ24))
abbrev ξ94 : Ex := (.var 31)
abbrev ξ95 : Ex := (.var 29)
abbrev ξ96 : List Ex := [ξ64, ξ57, ξ48, ξ74, ξ70, ξ73, ξ66]
abbrev ξ97 : List Ex := [ξ42, ξ40, ξ41, ξ45, ξ60, ξ63, ξ58]
abbrev ξ98 : List Ex := [ξ26, ξ17, ξ18, ξ26, ξ17, ξ18, ξ79]
abbrev ξ99 : List Ex := [ξ23, ξ24, ξ25, ξ23, ξ24, ξ25, ξ55]
abbrev ξ100 : List Ex := [ξ15, ξ21, ξ22, ξ15, ξ21, ξ22, ξ44]
abbrev ξ101 : List Ex := [ξ15, ξ21, ξ22]
abbrev ξ102 : Ex := (.ar .sub .i64 ξ8 (.len ξ23))
abbrev ξ103 : Tr := (.ite (.not ξ60) ξ12 (.ret [ξ63, ξ58, ξ64, ξ57, ξ48, ξ55, ξ74, ξ70, ξ73, ξ66, ξ95, ξ92, ξ5]))
def tr_size : Tr := (.ret [(.mx false .i64 ξ20 (.ar .sub .i64 ξ0 ξ20))])
def Fs_size : List Fun1 := []
def F_size : Fun1 := ofTree Fs_size tr_size
def tr_within : Tr := (.ret [(.ite (.cmp .geq ξ20 ξ16) (.cmp .leq ξ20 ξ14) ξ1)])
def Fs_within : List Fun1 := []
def F_within : Fun1 := ofTree Fs_within tr_within
def G_within : Fun1 := ⟨fun _ => True, fun ins => [.bool (inRg (i0 ins 0) (i0 ins 1) (i0 ins 2))]⟩
theorem as_within (ins : List Value) (ht : TypedL [.int .i64, .int .i64, .int .i64] ins) (_ : G_within.pre ins) : F_within.pre ins ∧ F_within.out ins = G_within.out ins := by
  obtain ⟨a, b, c, rfl, _, _, _⟩ := ints3 ht
  refine ⟨trivial, ?_⟩
  show [if (decide (a ≥ b)) = true then Value.bool (decide (a ≤ c)) else Value.bool false] = [Value.bool (decide (b ≤ a) && decide (a ≤ c))]
  by_cases h : b ≤ a <;> simp [h]
def tr_l6In : Tr := (.ret [(.ite (.cmp .geq ξ20 ξ16) (.cmp .leq ξ20 ξ14) ξ1)])
def Fs_l6In : List Fun1 := []
def F_l6In : Fun1 := ofTree Fs_l6In tr_l6In
def G_l6In : Fun1 := ⟨fun _ => True, fun ins => [.bool (inRg (i0 ins 0) (i0 ins 1) (i0 ins 2))]⟩
theorem as_l6In (ins : List Value) (ht : TypedL [.int .i64, .int .i64, .int .i64] ins) (_ : G_l6In.pre ins) : F_l6In.pre ins ∧ F_l6In.out ins = G_l6In.out ins := by
  obtain ⟨a, b, c, rfl, _, _, _⟩ := ints3 ht
  refine ⟨trivial, ?_⟩
  show [if (decide (a ≥ b)) = true then Value.bool (decide (a ≤ c)) else Value.bool false] = [Value.bool (decide (b ≤ a) && decide (a ≤ c))]
  by_cases h : b ≤ a <;> simp [h]
def tr_l2In : Tr := (.evs [.call 0 [ξ20, (.int .i64 (-2000000000)), ξ82] none 1] (.ret [ξ16]))
def Fs_l2In : List Fun1 := [G_l6In]
def F_l2In : Fun1 := ofTree Fs_l2In tr_l2In
def G_l2In : Fun1 := ⟨fun _ => True, fun ins => [.bool (inR (i0 ins 0))]⟩
theorem as_l2In (ins : List Value) (ht : TypedL [.int .i64] ins) (_ : G_l2In.pre ins) : F_l2In.pre ins ∧ F_l2In.out ins = G_l2In.out ins := by
  obtain ⟨a, rfl, _⟩ := ints1 ht
  exact ⟨⟨⟨trivial, trivial⟩, trivial⟩, rfl⟩
def tr_divisor : Tr := (.lp 0 [ξ20, ξ16] [.int .i64, .int .i64] (.ite (.cmp .neq ξ15 ξ0) (.evs [.need [(.cmp .neq ξ15 ξ0)]] (.next 0 [ξ15, (.ar .rem .i64 ξ14 ξ15)])) (.ret [ξ14])))
def Fs_divisor : List Fun1 := []
def F_divisor : Fun1 := ⟨fun _ => True, fun ins => [.int .i64 (euc (i0 ins 0) (i0 ins 1))]⟩
theorem sat_divisor (P : Program) (ins : List Value) (K : List Value → Prop) (ht : TypedL [.int .i64, .int .i64] ins) (_ : F_divisor.pre ins) (hK : K (F_divisor.out ins)) : sat P (specsOf Fs_divisor) tr_divisor ins [] K := by
  obtain ⟨a, b, rfl, wa, wb⟩ := ints2 ht
  refine ⟨fun vs => ∃ x y, vs = [.int .i64 x, .int .i64 y] ∧ euc x y = euc a b, fun vs => (toI (vs.getD 1 undef)).natAbs, ⟨a, b, rfl, rfl⟩, ?_⟩
  rintro vs hty ⟨x, y, rfl, he⟩
  refine ⟨fun hc => ?_, fun hc => ?_⟩
  · have hy : y ≠ 0 := by simpa [ev, cmpI] using hc
    refine ⟨fun e he' => by rw [List.mem_singleton.1 he']; exact hc, ⟨_, _, rfl, ?_⟩, ?_⟩
    · rw [← he, euc_step hy]; rfl
    · show (x.tmod y).natAbs < y.natAbs
      rw [Int.natAbs_tmod]
      exact Nat.mod_lt _ (by omega)
  · have hy : y = 0 := by simpa [ev, cmpI] using hc
    subst hy
    rw [euc_zero] at he
    show K [.int .i64 x]
    rw [he]
    exact hK
def tr_l2Gcd : Tr := (.lp 0 [ξ20, ξ16] [.int .i64, .int .i64] (.ite (.cmp .neq ξ15 ξ0) (.evs [.need [(.cmp .neq ξ15 ξ0)]] (.next 0 [ξ15, (.ar .rem .i64 ξ14 ξ15)])) (.ret [(.mx false .i64 ξ14 (.ar .sub .i64 ξ0 ξ14))])))
def Fs_l2Gcd : List Fun1 := []
def F_l2Gcd : Fun1 := ⟨fun _ => True, fun ins => [.int .i64 (mxI false (euc (i0 ins 0) (i0 ins 1)) (IntKind.i64.wrap (0 - euc (i0 ins 0) (i0 ins 1))))]⟩
theorem sat_l2Gcd (P : Program) (ins : List Value) (K : List Value → Prop) (ht : TypedL [.int .i64, .int .i64] ins) (_ : F_l2Gcd.pre ins) (hK : K (F_l2Gcd.out ins)) : sat P (specsOf Fs_l2Gcd) tr_l2Gcd ins [] K := by
  obtain ⟨a, b, rfl, wa, wb⟩ := ints2 ht
  refine ⟨fun vs => ∃ x y, vs = [.int .i64 x, .int .i64 y] ∧ euc x y = euc a b, fun vs => (toI (vs.getD 1 undef)).natAbs, ⟨a, b, rfl, rfl⟩, ?_⟩
  rintro vs hty ⟨x, y, rfl, he⟩
  refine ⟨fun hc => ?_, fun hc => ?_⟩
  · have hy : y ≠ 0 := by simpa [ev, cmpI] using hc
    refine ⟨fun e he' => by rw [List.mem_singleton.1 he']; exact hc, ⟨_, _, rfl, ?_⟩, ?_⟩
    · rw [← he, euc_step hy]; rfl
    · show (x.tmod y).natAbs < y.natAbs
      rw [Int.natAbs_tmod]
      exact Nat.mod_lt _ (by omega)
  · have hy : y = 0 := by simpa [ev, cmpI] using hc
    subst hy
    rw [euc_zero] at he
    show K [.int .i64 (mxI false x (IntKind.i64.wrap (0 - x)))]
    rw [he]
    exact hK
def tr_lowest : Tr := (.evs [.call 0 [ξ20] none 1, .call 0 [ξ16] none 1, .call 1 [ξ15, ξ21] none 1, .call 1 [ξ22, ξ14] none 1] (.evs [.need [(.cmp .neq ξ23 ξ0), (.cmp .neq ξ23 ξ0), (.cmp .neq ξ23 ξ0)]] (.evs [.call 2 [(.ar .quo .i64 ξ20 ξ23), (.int .i64 (-2000000000)), ξ82] none 1, .call 2 [(.ar .quo .i64 ξ16 ξ23), (.int .i64 (-2000000000)), ξ82] (some (.not (.not ξ24))) 1] (.ite (.ite (.ite (.not ξ24) ξ5 (.not ξ25)) ξ5 (.cmp .gtr (.ar .quo .i64 ξ14 ξ23) ξ82)) ξ39 (.ret [(.ar .quo .i64 ξ20 ξ23), (.ar .quo .i64 ξ16 ξ23), (.ar .quo .i64 ξ14 ξ23), ξ5])))))
def Fs_lowest : List Fun1 := [F_size, F_divisor, G_within]
def F_lowest : Fun1 := ofTree Fs_lowest tr_lowest
def G_lowest : Fun1 := ⟨fun ins => lowOk (i0 ins 0) (i0 ins 1) (i0 ins 2), fun ins => fr4 (lowI (i0 ins 0) (i0 ins 1) (i0 ins 2))⟩
theorem as_lowest (ins : List Value) (ht : TypedL [.int .i64, .int .i64, .int .i64] ins) (hp : G_lowest.pre ins) : F_lowest.pre ins ∧ F_lowest.out ins = G_lowest.out ins := by
  obtain ⟨a, b, c, rfl, wa, wb, wc⟩ := ints3 ht
  obtain ⟨p1, p2, p3, p4, p5, p6⟩ : lowOk a b c := hp
  have e1 := size_abs ⟨p1, p2⟩
  have e2 := size_abs ⟨p3, p4⟩
  have e3 : euc (a.natAbs : Nat) (b.natAbs : Nat) = (Nat.gcd a.natAbs b.natAbs : Nat) := euc_nat _ _
  have e4 : euc (Nat.gcd a.natAbs b.natAbs : Nat) c = (gcd3 a b c : Nat) := by rw [euc_eq (by omega) (by omega)]; rfl
  have hg : gcd3 a b c ≠ 0 := by have := gcd3_pos (a := a) (b := b) p5; omega
  have hgi : ((gcd3 a b c : Nat) : Int) ≠ 0 := by omega
  have q1 := quo_ok (g := gcd3 a b c) ⟨p1, p2⟩
  have q2 := quo_ok (g := gcd3 a b c) ⟨p3, p4⟩
  have q3 := quo_ok (a := c) (g := gcd3 a b c) ⟨by omega, p6⟩
  simp only [F_lowest, G_lowest, tr_lowest, Fs_lowest, F_size, tr_size, Fs_size, F_divisor, G_within, lowI, arI, ofTree, okT, okE, evalT, evalE, evsIn, ev, callF, preF, hasF, needs, i0, b0, toI_int, toB_bool, List.getD_cons_zero, List.getD_cons_succ, List.cons_append, List.nil_append, List.replicate, if_true, if_false, Bool.false_eq_true, and_true, true_and, implies_true, forall_const, false_implies, cmpI, Bool.not_true, Bool.not_false, Bool.true_and, Bool.false_and, Bool.and_true, Bool.and_false, reduceIte, List.append_nil, reduceCtorEq, e1, e2, e3, e4, q1, q2, q3]
  have r1 : ∀ z, inRg z (-2000000000) 2000000000 = inR z := fun _ => rfl
  simp only [r1]
  cases h1 : inR (a.tdiv (gcd3 a b c)) <;> cases h2 : inR (b.tdiv (gcd3 a b c)) <;> by_cases h3 : c.tdiv (gcd3 a b c) ≤ 2000000000 <;> simp [h1, h2, h3, hgi, hg, fr4, zq] <;> omega
def tr_sFracValid : Tr := (.evs [.call 0 [ξ20] none 1, .call 0 [ξ16] (some ξ15) 1, .call 1 [ξ14, ξ2, ξ82] (some (.ite ξ15 ξ21 ξ1)) 1, .call 2 [ξ14, ξ20] (some ξ59) 1, .call 2 [ξ23, ξ16] (some ξ59) 1] (.ret [(.ite ξ59 (.cmp .eql ξ24 ξ2) ξ1)]))
def Fs_sFracValid : List Fun1 := [G_l2In, G_l6In, F_l2Gcd]
def F_sFracValid : Fun1 := ofTree Fs_sFracValid tr_sFracValid
def G_sFracValid : Fun1 := ⟨fun _ => True, fun ins => [.bool (validI (i0 ins 0) (i0 ins 1) (i0 ins 2))]⟩
theorem as_sFracValid (ins : List Value) (ht : TypedL [.int .i64, .int .i64, .int .i64] ins) (_ : G_sFracValid.pre ins) : F_sFracValid.pre ins ∧ F_sFracValid.out ins = G_sFracValid.out ins := by
  obtain ⟨a, b, c, rfl, wa, wb, wc⟩ := ints3 ht
  have key : inR a = true → inR b = true → inRg c 1 2000000000 = true → mxI false (euc c a) (IntKind.i64.wrap (0 - euc c a)) = (Nat.gcd c.natAbs a.natAbs : Nat) ∧
      mxI false (euc (Nat.gcd c.natAbs a.natAbs : Nat) b) (IntKind.i64.wrap (0 - euc (Nat.gcd c.natAbs a.natAbs : Nat) b)) = (gcd3 a b c : Nat) := by
    intro ha hb hc
    simp only [inR, inRg, Bool.and_eq_true, decide_eq_true_eq] at ha hb hc
    have h0 : Nat.gcd c.natAbs a.natAbs ≤ c.natAbs := Nat.gcd_le_left _ (by omega)
    have hp : 0 < Nat.gcd c.natAbs a.natAbs := Nat.gcd_pos_of_pos_left _ (by omega)
    refine ⟨gcd_small (by omega), ?_⟩
    have h2 : Nat.gcd ((Nat.gcd c.natAbs a.natAbs : Nat) : Int).natAbs b.natAbs ≤ Nat.gcd c.natAbs a.natAbs := Nat.gcd_le_left _ hp
    rw [gcd_small (by omega), Int.natAbs_natCast, gcd3_alt]
  simp only [F_sFracValid, G_sFracValid, tr_sFracValid, Fs_sFracValid, G_l2In, G_l6In, F_l2Gcd, validI, ofTree, okT, okE, evalT, evalE, evsIn, ev, callF, preF, hasF, needs, i0, b0, toI_int, toB_bool, List.getD_cons_zero, List.getD_cons_succ, List.cons_append, List.nil_append, List.replicate, if_true, if_false, Bool.false_eq_true, and_true, true_and, implies_true, forall_const, false_implies, cmpI, Bool.not_true, Bool.not_false, Bool.true_and, Bool.false_and, Bool.and_true, Bool.and_false, reduceIte, List.append_nil, reduceCtorEq]
  cases ha : inR a
  · simp [ha]
  · cases hb : inR b
    · simp [ha, hb]
    · cases hc : inRg c 1 2000000000
      · simp [ha, hb, hc]
      · obtain ⟨k1, k2⟩ := key ha hb hc
        simp only [ha, hb, hc, k1, k2, ofTree, okT, okE, evalT, evalE, evsIn, ev, callF, preF, hasF, needs, i0, b0, toI_int, toB_bool, List.getD_cons_zero, List.getD_cons_succ, List.cons_append, List.nil_append, List.replicate, if_true, if_false, Bool.false_eq_true, and_true, true_and, implies_true, forall_const, false_implies, cmpI, Bool.not_true, Bool.not_false, Bool.true_and, Bool.false_and, Bool.and_true, Bool.and_false, reduceIte, List.append_nil, reduceCtorEq]
        simp
        by_cases h1 : gcd3 a b c = 1
        · simp [h1]
        · rw [beq_eq_false_iff_ne.2 h1, beq_eq_false_iff_ne]
          omega
def tr_l2Low : Tr := (.evs [.call 0 [ξ14, ξ20] none 1, .call 0 [ξ15, ξ16] none 1] (.evs [.need [(.cmp .neq ξ21 ξ0), (.cmp .neq ξ21 ξ0), (.cmp .neq ξ21 ξ0)]] (.evs [.call 1 [(.ar .quo .i64 ξ20 ξ21), (.ar .quo .i64 ξ16 ξ21), (.ar .quo .i64 ξ14 ξ21)] none 1] (.ite (.not ξ22) ξ39 (.ret [(.ar .quo .i64 ξ20 ξ21), (.ar .quo .i64 ξ16 ξ21), (.ar .quo .i64 ξ14 ξ21), ξ5])))))
def Fs_l2Low : List Fun1 := [F_l2Gcd, G_sFracValid]
def F_l2Low : Fun1 := ofTree Fs_l2Low tr_l2Low
def G_l2Low : Fun1 := ⟨fun ins => lowOk (i0 ins 0) (i0 ins 1) (i0 ins 2), fun ins => fr4 (lowI (i0 ins 0) (i0 ins 1) (i0 ins 2))⟩
theorem as_l2Low (ins : List Value) (ht : TypedL [.int .i64, .int .i64, .int .i64] ins) (hp : G_l2Low.pre ins) : F_l2Low.pre ins ∧ F_l2Low.out ins = G_l2Low.out ins := by
  obtain ⟨a, b, c, rfl, wa, wb, wc⟩ := ints3 ht
  obtain ⟨p1, p2, p3, p4, p5, p6⟩ : lowOk a b c := hp
  have hc0 : 0 < c.natAbs := by omega
  have g1 : Nat.gcd c.natAbs a.natAbs ≤ c.natAbs := Nat.gcd_le_left _ hc0
  have gp : 0 < Nat.gcd c.natAbs a.natAbs := Nat.gcd_pos_of_pos_left _ hc0
  have e1 : mxI false (euc c a) (IntKind.i64.wrap (0 - euc c a)) = (Nat.gcd c.natAbs a.natAbs : Nat) := gcd_small (by omega)
  have g2 : Nat.gcd ((Nat.gcd c.natAbs a.natAbs : Nat) : Int).natAbs b.natAbs ≤ Nat.gcd c.natAbs a.natAbs := Nat.gcd_le_left _ gp
  have e2 : mxI false (euc (Nat.gcd c.natAbs a.natAbs : Nat) b) (IntKind.i64.wrap (0 - euc (Nat.gcd c.natAbs a.natAbs : Nat) b)) = (gcd3 a b c : Nat) := by
    rw [gcd_small (by omega), Int.natAbs_natCast, gcd3_alt]
  have hg : gcd3 a b c ≠ 0 := by have := gcd3_pos (a := a) (b := b) p5; omega
  have hgi : ((gcd3 a b c : Nat) : Int) ≠ 0 := by omega
  have q1 := quo_ok (g := gcd3 a b c) ⟨p1, p2⟩
  have q2 := quo_ok (g := gcd3 a b c) ⟨p3, p4⟩
  have q3 := quo_ok (a := c) (g := gcd3 a b c) ⟨by omega, p6⟩
  simp only [F_l2Low, G_l2Low, tr_l2Low, Fs_l2Low, F_l2Gcd, G_sFracValid, lowI, arI, ofTree, okT, okE, evalT, evalE, evsIn, ev, callF, preF, hasF, needs, i0, b0, toI_int, toB_bool, List.getD_cons_zero, List.getD_cons_succ, List.cons_append, List.nil_append, List.replicate, if_true, if_false, Bool.false_eq_true, and_true, true_and, implies_true, forall_const, false_implies, cmpI, Bool.not_true, Bool.not_false, Bool.true_and, Bool.false_and, Bool.and_true, Bool.and_false, reduceIte, List.append_nil, reduceCtorEq, e1, e2, q1, q2, q3, valid_low p5]
  cases h1 : inR (a.tdiv (gcd3 a b c)) <;> cases h2 : inR (b.tdiv (gcd3 a b c)) <;> by_cases h3 : c.tdiv (gcd3 a b c) ≤ 2000000000 <;> simp [h1, h2, h3, hgi, hg, fr4, zq] <;> omega
def A_l2Low : AF
  | [.itv a b, .itv c d, .itv e f] => if decide (-9223372036854775808 < a) && (decide (b ≤ 9223372036854775807) && (decide (-9223372036854775808 < c) && (decide (d ≤ 9223372036854775807) && (decide (1 ≤ e) && decide (f ≤ 9223372036854775807))))) then some [.any, .any, .any, .any] else none
  | _ => none
theorem aok_l2Low {cb : CodeB} : AOK cb G_l2Low A_l2Low := by
  intro I O h ins hi
  match I, ins, hi, h with
  | [.itv a b, .itv c d, .itv e f], [x, y, z], ⟨⟨x', hx, x1, x2⟩, ⟨y', hy, y1, y2⟩, ⟨z', hz, z1, z2⟩, _⟩, h =>
    simp only [A_l2Low] at h
    split at h
    · rename_i hc
      cases h
      simp only [Bool.and_eq_true, decide_eq_true_eq] at hc
      subst hx hy hz
      exact ⟨show lowOk x' y' z' by unfold lowOk; omega, trivial, trivial, trivial, trivial, trivial⟩
    · cases h
def tr_sFracMake : Tr := (.evs [.call 0 [ξ14, ξ2, (.int .i64 1000000000000000000)] none 1, .call 0 [ξ20, (.int .i64 (-1000000000000000000)), (.int .i64 1000000000000000000)] (some (.not (.not ξ15))) 1, .call 0 [ξ16, (.int .i64 (-1000000000000000000)), (.int .i64 1000000000000000000)] (some (.not (.ite (.not ξ15) ξ5 (.not ξ21)))) 1] (.ite (.ite (.ite (.not ξ15) ξ5 (.not ξ21)) ξ5 (.not ξ22)) ξ39 (.evs [.call 1 ξ9 none 4] (.ret [ξ23, ξ24, ξ25, ξ26]))))
def Fs_sFracMake : List Fun1 := [G_l6In, G_l2Low]
def F_sFracMake : Fun1 := ofTree Fs_sFracMake tr_sFracMake
def G_sFracMake : Fun1 := ⟨fun _ => True, fun ins => fr4 (makeI (i0 ins 0) (i0 ins 1) (i0 ins 2))⟩
theorem as_sFracMake (ins : List Value) (ht : TypedL [.int .i64, .int .i64, .int .i64] ins) (hp : G_sFracMake.pre ins) : F_sFracMake.pre ins ∧ F_sFracMake.out ins = G_sFracMake.out ins := by
  obtain ⟨a, b, c, rfl, wa, wb, wc⟩ := ints3 ht
  have hlow : inRg c 1 most = true → inRg a (-most) most = true → inRg b (-most) most = true → lowOk a b c := by
    intro h1 h2 h3
    simp only [inRg, Bool.and_eq_true, decide_eq_true_eq] at h1 h2 h3
    unfold most at h1 h2 h3
    unfold lowOk
    omega
  obtain ⟨x, y, z, t, hx⟩ := fr4_split (lowI a b c)
  simp only [F_sFracMake, G_sFracMake, tr_sFracMake, Fs_sFracMake, G_l6In, G_l2Low, makeI, ofTree, okT, okE, evalT, evalE, evsIn, ev, callF, preF, hasF, needs, i0, b0, toI_int, toB_bool, List.getD_cons_zero, List.getD_cons_succ, List.cons_append, List.nil_append, List.replicate, if_true, if_false, Bool.false_eq_true, and_true, true_and, implies_true, forall_const, false_implies, cmpI, Bool.not_true, Bool.not_false, Bool.true_and, Bool.false_and, Bool.and_true, Bool.and_false, reduceIte, List.append_nil, reduceCtorEq]
  have r1 : inRg c 1 1000000000000000000 = inRg c 1 most := rfl
  have r2 : ∀ z, inRg z (-1000000000000000000) 1000000000000000000 = inRg z (-most) most := fun _ => rfl
  simp only [r1, r2]
  cases h1 : inRg c 1 most
  · simp [h1, fr4, zq]
  · cases h2 : inRg a (-most) most
    · simp [h1, h2, fr4, zq]
    · cases h3 : inRg b (-most) most
      · simp [h1, h2, h3, fr4, zq]
      · simp [h1, h2, h3, hx, hlow h1 h2 h3]
def A_sFracMake : AF := aAny 4
theorem aok_sFracMake {cb : CodeB} : AOK cb G_sFracMake A_sFracMake := aAny_ok (fun _ => trivial) (fun ins => by rfl)
def tr_direction : Tr := ξ31
def Fs_direction : List Fun1 := [G_within, G_lowest]
def F_direction : Fun1 := ofTree Fs_direction tr_direction
def G_direction : Fun1 := ⟨fun _ => True, fun ins => dirV (i0 ins 0) (i0 ins 1)⟩
theorem as_direction (ins : List Value) (ht : TypedL [.int .i64, .int .i64] ins) (hp : G_direction.pre ins) : F_direction.pre ins ∧ F_direction.out ins = G_direction.out ins := by
  obtain ⟨p, q, rfl, wp, wq⟩ := ints2 ht
  obtain ⟨x1, y1, z1, t1, hx1, hx1'⟩ := fr4_fr3 (lowI (p * p - q * q) 0 (p * p + q * q))
  obtain ⟨x2, y2, z2, t2, hx2, hx2'⟩ := fr4_fr3 (lowI (2 * p * q) 0 (p * p + q * q))
  simp only [F_direction, G_direction, tr_direction, Fs_direction, G_within, G_lowest, arI, ofTree, okT, okE, evalT, evalE, evsIn, ev, callF, preF, hasF, needs, i0, b0, toI_int, toB_bool, List.getD_cons_zero, List.getD_cons_succ, List.cons_append, List.nil_append, List.replicate, if_true, if_false, Bool.false_eq_true, and_true, true_and, implies_true, forall_const, false_implies, cmpI, Bool.not_true, Bool.not_false, Bool.true_and, Bool.false_and, Bool.and_true, Bool.and_false, reduceIte, List.append_nil, reduceCtorEq]
  cases h1 : inRg p (-100) 100
  · simp [h1, dirV, dirOk, dirC, dirS, fr3, zq]
  · cases h2 : inRg q (-100) 100
    · simp [h1, h2, dirV, dirOk, dirC, dirS, fr3, zq]
    · by_cases h3 : (p == 0 && q == 0) = true
      · have e3 := h3
        simp only [Bool.and_eq_true, beq_iff_eq] at e3
        obtain ⟨rfl, rfl⟩ := e3
        simp [h1, dirV, dirOk, dirC, dirS, fr3, zq]
      · have hd : dirOk p q = true := by
          simp only [dirOk, h1, h2, Bool.true_and]
          cases hb : (p == 0 && q == 0) with
          | true => exact absurd hb h3
          | false => rfl
        obtain ⟨l1, l2, w1, w2, w3, w4, w5, w6, _⟩ := dir_facts hd
        have h3' : (p == 0 && q == 0) = false := by simpa using h3
        have h4 : ¬(p = 0 ∧ q = 0) := by rintro ⟨rfl, rfl⟩; exact h3 rfl
        simp only [dirV, dirC, dirS, hd, if_true, hx1', hx2', w1, w2, w3, w4, w5, w6, hx1, hx2, h1, h2, ofTree, okT, okE, evalT, evalE, evsIn, ev, callF, preF, hasF, needs, i0, b0, toI_int, toB_bool, List.getD_cons_zero, List.getD_cons_succ, List.cons_append, List.nil_append, List.replicate, if_true, if_false, Bool.false_eq_true, and_true, true_and, implies_true, forall_const, false_implies, cmpI, Bool.not_true, Bool.not_false, Bool.true_and, Bool.false_and, Bool.and_true, Bool.and_false, reduceIte, List.append_nil, reduceCtorEq]
        clear hd w1 w2 w3 w4 w5 w6 hx1 hx2 hx1' hx2' h1 h2 ht hp
        generalize p * p - q * q = A at *
        generalize 2 * p * q = B at *
        generalize p * p + q * q = C at *
        by_cases h5 : p = 0
        · by_cases h6 : q = 0
          · exact absurd ⟨h5, h6⟩ h4
          · simp [h5, h6, l1, l2]
        · simp [h5, l1, l2]
def tr_l5Direction : Tr := ξ31
def Fs_l5Direction : List Fun1 := [G_l6In, G_sFracMake]
def F_l5Direction : Fun1 := ofTree Fs_l5Direction tr_l5Direction
def G_l5Direction : Fun1 := ⟨fun _ => True, fun ins => dirV (i0 ins 0) (i0 ins 1)⟩
theorem as_l5Direction (ins : List Value) (ht : TypedL [.int .i64, .int .i64] ins) (hp : G_l5Direction.pre ins) : F_l5Direction.pre ins ∧ F_l5Direction.out ins = G_l5Direction.out ins := by
  obtain ⟨p, q, rfl, wp, wq⟩ := ints2 ht
  obtain ⟨x1, y1, z1, t1, hx1, hx1'⟩ := fr4_fr3 (lowI (p * p - q * q) 0 (p * p + q * q))
  obtain ⟨x2, y2, z2, t2, hx2, hx2'⟩ := fr4_fr3 (lowI (2 * p * q) 0 (p * p + q * q))
  simp only [F_l5Direction, G_l5Direction, tr_l5Direction, Fs_l5Direction, G_l6In, G_sFracMake, arI, ofTree, okT, okE, evalT, evalE, evsIn, ev, callF, preF, hasF, needs, i0, b0, toI_int, toB_bool, List.getD_cons_zero, List.getD_cons_succ, List.cons_append, List.nil_append, List.replicate, if_true, if_false, Bool.false_eq_true, and_true, true_and, implies_true, forall_const, false_implies, cmpI, Bool.not_true, Bool.not_false, Bool.true_and, Bool.false_and, Bool.and_true, Bool.and_false, reduceIte, List.append_nil, reduceCtorEq]
  cases h1 : inRg p (-100) 100
  · simp [h1, dirV, dirOk, dirC, dirS, fr3, zq]
  · cases h2 : inRg q (-100) 100
    · simp [h1, h2, dirV, dirOk, dirC, dirS, fr3, zq]
    · by_cases h3 : (p == 0 && q == 0) = true
      · have e3 := h3
        simp only [Bool.and_eq_true, beq_iff_eq] at e3
        obtain ⟨rfl, rfl⟩ := e3
        simp [h1, dirV, dirOk, dirC, dirS, fr3, zq]
      · have hd : dirOk p q = true := by
          simp only [dirOk, h1, h2, Bool.true_and]
          cases hb : (p == 0 && q == 0) with
          | true => exact absurd hb h3
          | false => rfl
        obtain ⟨l1, l2, w1, w2, w3, w4, w5, w6, k1, k2, k3, k4, k5, k6⟩ := dir_facts hd
        have h3' : (p == 0 && q == 0) = false := by simpa using h3
        have h4 : ¬(p = 0 ∧ q = 0) := by rintro ⟨rfl, rfl⟩; exact h3 rfl
        have m1 := make_small k3 k4 k1 k2
        have m2 := make_small k5 k6 k1 k2
        simp only [m1, m2, dirV, dirC, dirS, hd, if_true, hx1', hx2', w1, w2, w3, w4, w5, w6, hx1, hx2, h1, h2, ofTree, okT, okE, evalT, evalE, evsIn, ev, callF, preF, hasF, needs, i0, b0, toI_int, toB_bool, List.getD_cons_zero, List.getD_cons_succ, List.cons_append, List.nil_append, List.replicate, if_true, if_false, Bool.false_eq_true, and_true, true_and, implies_true, forall_const, false_implies, cmpI, Bool.not_true, Bool.not_false, Bool.true_and, Bool.false_and, Bool.and_true, Bool.and_false, reduceIte, List.append_nil, reduceCtorEq]
        clear m1 m2 k1 k2 k3 k4 k5 k6 hd w1 w2 w3 w4 w5 w6 hx1 hx2 hx1' hx2' h1 h2 ht hp
        generalize p * p - q * q = A at *
        generalize 2 * p * q = B at *
        generalize p * p + q * q = C at *
        by_cases h5 : p = 0
        · by_cases h6 : q = 0
          · exact absurd ⟨h5, h6⟩ h4
          · simp [h5, h6, l1, l2]
        · simp [h5, l1, l2]
def tr_iFracValid : Tr := (.evs [.call 0 [ξ20, (.int .i64 (-2000000000)), ξ82] none 1, .call 0 [ξ16, (.int .i64 (-2000000000)), ξ82] (some ξ15) 1, .call 0 [ξ14, ξ2, ξ82] (some (.ite ξ15 ξ21 ξ1)) 1, .call 2 [ξ20] (some ξ59) 1, .call 2 [ξ16] (some ξ59) 1, .call 1 [ξ23, ξ24] (some ξ59) 1, .call 1 [ξ25, ξ14] (some ξ59) 1] (.ret [(.ite ξ59 (.cmp .eql ξ26 ξ2) ξ1)]))
def Fs_iFracValid : List Fun1 := [G_within, F_divisor, F_size]
def F_iFracValid : Fun1 := ofTree Fs_iFracValid tr_iFracValid
def G_iFracValid : Fun1 := ⟨fun _ => True, fun ins => [.bool (validI (i0 ins 0) (i0 ins 1) (i0 ins 2))]⟩
theorem as_iFracValid (ins : List Value) (ht : TypedL [.int .i64, .int .i64, .int .i64] ins) (_ : G_iFracValid.pre ins) : F_iFracValid.pre ins ∧ F_iFracValid.out ins = G_iFracValid.out ins := by
  obtain ⟨a, b, c, rfl, wa, wb, wc⟩ := ints3 ht
  have key : inR a = true → inR b = true → inRg c 1 2000000000 = true → mxI false a (IntKind.i64.wrap (0 - a)) = a.natAbs ∧ mxI false b (IntKind.i64.wrap (0 - b)) = b.natAbs ∧
      euc (a.natAbs : Nat) (b.natAbs : Nat) = (Nat.gcd a.natAbs b.natAbs : Nat) ∧ euc (Nat.gcd a.natAbs b.natAbs : Nat) c = (gcd3 a b c : Nat) := by
    intro ha hb hc
    simp only [inR, inRg, Bool.and_eq_true, decide_eq_true_eq] at ha hb hc
    exact ⟨size_abs (by omega), size_abs (by omega), euc_nat _ _, by rw [euc_eq (by omega) (by omega)]; rfl⟩
  have r1 : ∀ z, inRg z (-2000000000) 2000000000 = inR z := fun _ => rfl
  cases ha : inR a
  · simp only [F_iFracValid, G_iFracValid, tr_iFracValid, Fs_iFracValid, G_within, F_divisor, F_size, tr_size, Fs_size, validI, arI, r1, ha, ofTree, okT, okE, evalT, evalE, evsIn, ev, callF, preF, hasF, needs, i0, b0, toI_int, toB_bool, List.getD_cons_zero, List.getD_cons_succ, List.cons_append, List.nil_append, List.replicate, if_true, if_false, Bool.false_eq_true, and_true, true_and, implies_true, forall_const, false_implies, cmpI, Bool.not_true, Bool.not_false, Bool.true_and, Bool.false_and, Bool.and_true, Bool.and_false, reduceIte, List.append_nil, reduceCtorEq]
  · cases hb : inR b
    · simp only [F_iFracValid, G_iFracValid, tr_iFracValid, Fs_iFracValid, G_within, F_divisor, F_size, tr_size, Fs_size, validI, arI, r1, ha, hb, ofTree, okT, okE, evalT, evalE, evsIn, ev, callF, preF, hasF, needs, i0, b0, toI_int, toB_bool, List.getD_cons_zero, List.getD_cons_succ, List.cons_append, List.nil_append, List.replicate, if_true, if_false, Bool.false_eq_true, and_true, true_and, implies_true, forall_const, false_implies, cmpI, Bool.not_true, Bool.not_false, Bool.true_and, Bool.false_and, Bool.and_true, Bool.and_false, reduceIte, List.append_nil, reduceCtorEq]
    · cases hc : inRg c 1 2000000000
      · simp only [F_iFracValid, G_iFracValid, tr_iFracValid, Fs_iFracValid, G_within, F_divisor, F_size, tr_size, Fs_size, validI, arI, r1, ha, hb, hc, ofTree, okT, okE, evalT, evalE, evsIn, ev, callF, preF, hasF, needs, i0, b0, toI_int, toB_bool, List.getD_cons_zero, List.getD_cons_succ, List.cons_append, List.nil_append, List.replicate, if_true, if_false, Bool.false_eq_true, and_true, true_and, implies_true, forall_const, false_implies, cmpI, Bool.not_true, Bool.not_false, Bool.true_and, Bool.false_and, Bool.and_true, Bool.and_false, reduceIte, List.append_nil, reduceCtorEq]
      · obtain ⟨k1, k2, k3, k4⟩ := key ha hb hc
        simp only [F_iFracValid, G_iFracValid, tr_iFracValid, Fs_iFracValid, G_within, F_divisor, F_size, tr_size, Fs_size, validI, arI, r1, ha, hb, hc, k1, k2, k3, k4, ofTree, okT, okE, evalT, evalE, evsIn, ev, callF, preF, hasF, needs, i0, b0, toI_int, toB_bool, List.getD_cons_zero, List.getD_cons_succ, List.cons_append, List.nil_append, List.replicate, if_true, if_false, Bool.false_eq_true, and_true, true_and, implies_true, forall_const, false_implies, cmpI, Bool.not_true, Bool.not_false, Bool.true_and, Bool.false_and, Bool.and_true, Bool.and_false, reduceIte, List.append_nil, reduceCtorEq]
        by_cases h1 : gcd3 a b c = 1
        · simp [h1]
        · have h2 : ((gcd3 a b c : Nat) : Int) ≠ 1 := by omega
          rw [beq_eq_false_iff_ne.2 h2, beq_eq_false_iff_ne.2 h1]
def tr_realOk : Tr := (.evs ξ78 (.ret [(.ite ξ15 (.cmp .eql ξ16 ξ0) ξ1)]))
def Fs_realOk : List Fun1 := [G_iFracValid]
def F_realOk : Fun1 := ofTree Fs_realOk tr_realOk
def G_realOk : Fun1 := ⟨fun _ => True, fun ins => [.bool (realQ (q3 ins 0))]⟩
theorem as_realOk (ins : List Value) (ht : TypedL [.int .i64, .int .i64, .int .i64] ins) (_ : G_realOk.pre ins) : F_realOk.pre ins ∧ F_realOk.out ins = G_realOk.out ins := by
  obtain ⟨a, b, c, rfl, wa, wb, wc⟩ := ints3 ht
  simp only [F_realOk, G_realOk, tr_realOk, Fs_realOk, G_iFracValid, realQ, validQ, q3, ofTree, okT, okE, evalT, evalE, evsIn, ev, callF, preF, hasF, needs, i0, b0, toI_int, toB_bool, List.getD_cons_zero, List.getD_cons_succ, List.cons_append, List.nil_append, List.replicate, if_true, if_false, Bool.false_eq_true, and_true, true_and, implies_true, forall_const, false_implies, cmpI, Bool.not_true, Bool.not_false, Bool.true_and, Bool.false_and, Bool.and_true, Bool.and_false, reduceIte, List.append_nil, reduceCtorEq]
  cases h : validI a b c <;> simp [h]
def tr_iFracAdd : Tr := (.evs ξ34 (.ite ξ93 ξ39 (.evs [.call 1 [(.ar .add .i64 (.ar .mul .i64 ξ20 ξ22) (.ar .mul .i64 ξ15 ξ14)), (.ar .add .i64 (.ar .mul .i64 ξ16 ξ22) (.ar .mul .i64 ξ21 ξ14)), (.ar .mul .i64 ξ14 ξ22)] none 4] (.ret [ξ25, ξ26, ξ17, ξ18]))))
def Fs_iFracAdd : List Fun1 := [G_iFracValid, G_lowest]
def F_iFracAdd : Fun1 := ofTree Fs_iFracAdd tr_iFracAdd
def G_iFracAdd : Fun1 := ⟨fun _ => True, fun ins => fr4 (addQ (q3 ins 0) (q3 ins 3))⟩
theorem as_iFracAdd (ins : List Value) (ht : TypedL [.int .i64, .int .i64, .int .i64, .int .i64, .int .i64, .int .i64] ins) (_ : G_iFracAdd.pre ins) : F_iFracAdd.pre ins ∧ F_iFracAdd.out ins = G_iFracAdd.out ins := by
  obtain ⟨a, b, c, x, y, z, rfl, _⟩ := ints6 ht
  simp only [F_iFracAdd, G_iFracAdd, tr_iFracAdd, Fs_iFracAdd, G_iFracValid, G_lowest, addQ, validQ, q3, arI, ofTree, okT, okE, evalT, evalE, evsIn, ev, callF, preF, hasF, needs, i0, b0, toI_int, toB_bool, List.getD_cons_zero, List.getD_cons_succ, List.cons_append, List.nil_append, List.replicate, if_true, if_false, Bool.false_eq_true, and_true, true_and, implies_true, forall_const, false_implies, cmpI, Bool.not_true, Bool.not_false, Bool.true_and, Bool.false_and, Bool.and_true, Bool.and_false, reduceIte, List.append_nil, reduceCtorEq]
  cases h : validI a b c
  · simp [h, fr4, zq]
  · cases k : validI x y z
    · simp [h, k, fr4, zq]
    · obtain ⟨e1, e2, e3, e4, e5, e6, e7, e8, e9, l1, l2⟩ := sum_facts h k
      simp only [h, k, e1, e2, e3, e4, e5, e6, e7, ofTree, okT, okE, evalT, evalE, evsIn, ev, callF, preF, hasF, needs, i0, b0, toI_int, toB_bool, List.getD_cons_zero, List.getD_cons_succ, List.cons_append, List.nil_append, List.replicate, if_true, if_false, Bool.false_eq_true, and_true, true_and, implies_true, forall_const, false_implies, cmpI, Bool.not_true, Bool.not_false, Bool.true_and, Bool.false_and, Bool.and_true, Bool.and_false, reduceIte, List.append_nil, reduceCtorEq]
      simp [fr4, l1]
def tr_iFracTimes : Tr := ξ47
def Fs_iFracTimes : List Fun1 := [G_iFracValid, G_lowest]
def F_iFracTimes : Fun1 := ofTree Fs_iFracTimes tr_iFracTimes
def G_iFracTimes : Fun1 := ⟨fun _ => True, fun ins => fr4 (timesQ (q3 ins 0) (q3 ins 3))⟩
theorem as_iFracTimes (ins : List Value) (ht : TypedL [.int .i64, .int .i64, .int .i64, .int .i64, .int .i64, .int .i64] ins) (_ : G_iFracTimes.pre ins) : F_iFracTimes.pre ins ∧ F_iFracTimes.out ins = G_iFracTimes.out ins := by
  obtain ⟨a, b, c, x, y, z, rfl, _⟩ := ints6 ht
  simp only [F_iFracTimes, G_iFracTimes, tr_iFracTimes, Fs_iFracTimes, G_iFracValid, G_lowest, timesQ, validQ, q3, arI, ofTree, okT, okE, evalT, evalE, evsIn, ev, callF, preF, hasF, needs, i0, b0, toI_int, toB_bool, List.getD_cons_zero, List.getD_cons_succ, List.cons_append, List.nil_append, List.replicate, if_true, if_false, Bool.false_eq_true, and_true, true_and, implies_true, forall_const, false_implies, cmpI, Bool.not_true, Bool.not_false, Bool.true_and, Bool.false_and, Bool.and_true, Bool.and_false, reduceIte, List.append_nil, reduceCtorEq]
  cases h : validI a b c
  · simp [h, fr4, zq]
  · cases k : validI x y z
    · simp [h, k, fr4, zq]
    · obtain ⟨e1, e2, e3, e4, e5, e6, e7, l1⟩ := mul_facts h k
      simp only [h, k, e1, e2, e3, e4, e5, e6, e7, ofTree, okT, okE, evalT, evalE, evsIn, ev, callF, preF, hasF, needs, i0, b0, toI_int, toB_bool, List.getD_cons_zero, List.getD_cons_succ, List.cons_append, List.nil_append, List.replicate, if_true, if_false, Bool.false_eq_true, and_true, true_and, implies_true, forall_const, false_implies, cmpI, Bool.not_true, Bool.not_false, Bool.true_and, Bool.false_and, Bool.and_true, Bool.and_false, reduceIte, List.append_nil, reduceCtorEq]
      simp [fr4, l1]
def tr_l2Sum : Tr := (.evs [.call 0 ξ9 none 1, .call 0 [ξ21, ξ22, ξ23] (some (.not (.not ξ24))) 1] (.ite (.ite (.not ξ24) ξ5 (.not ξ25)) ξ39 (.evs [.call 1 [(.ar .add .i64 (.ar .mul .i64 ξ20 ξ23) (.ar .mul .i64 (.ar .mul .i64 ξ15 ξ21) ξ14)), (.ar .add .i64 (.ar .mul .i64 ξ16 ξ23) (.ar .mul .i64 (.ar .mul .i64 ξ15 ξ22) ξ14)), (.ar .mul .i64 ξ14 ξ23)] none 4] (.ret [ξ26, ξ17, ξ18, ξ27]))))
def Fs_l2Sum : List Fun1 := [G_sFracValid, G_l2Low]
def F_l2Sum : Fun1 := ofTree Fs_l2Sum tr_l2Sum
def G_l2Sum : Fun1 := ⟨fun ins => i0 ins 3 = 1 ∨ i0 ins 3 = -1, fun ins => fr4 (if i0 ins 3 = 1 then addQ (q3 ins 0) (q3 ins 4) else lessQ (q3 ins 0) (q3 ins 4))⟩
theorem as_l2Sum (ins : List Value) (ht : TypedL [.int .i64, .int .i64, .int .i64, .int .i64, .int .i64, .int .i64, .int .i64] ins) (hp : G_l2Sum.pre ins) : F_l2Sum.pre ins ∧ F_l2Sum.out ins = G_l2Sum.out ins := by
  obtain ⟨a, r1, rfl, w1, ht1⟩ := int_cons ht
  obtain ⟨b, c, s, x, y, z, rfl, _⟩ := ints6 ht1
  have hs : s = 1 ∨ s = -1 := hp
  clear hp
  cases h : validI a b c
  · rcases hs with rfl | rfl <;>
    · simp only [F_l2Sum, G_l2Sum, tr_l2Sum, Fs_l2Sum, G_sFracValid, G_l2Low, addQ, lessQ, validQ, q3, arI, h, ofTree, okT, okE, evalT, evalE, evsIn, ev, callF, preF, hasF, needs, i0, b0, toI_int, toB_bool, List.getD_cons_zero, List.getD_cons_succ, List.cons_append, List.nil_append, List.replicate, if_true, if_false, Bool.false_eq_true, and_true, true_and, implies_true, forall_const, false_implies, cmpI, Bool.not_true, Bool.not_false, Bool.true_and, Bool.false_and, Bool.and_true, Bool.and_false, reduceIte, List.append_nil, reduceCtorEq]
      simp [fr4, zq]
  · cases k : validI x y z
    · rcases hs with rfl | rfl <;>
      · simp only [F_l2Sum, G_l2Sum, tr_l2Sum, Fs_l2Sum, G_sFracValid, G_l2Low, addQ, lessQ, validQ, q3, arI, h, k, ofTree, okT, okE, evalT, evalE, evsIn, ev, callF, preF, hasF, needs, i0, b0, toI_int, toB_bool, List.getD_cons_zero, List.getD_cons_succ, List.cons_append, List.nil_append, List.replicate, if_true, if_false, Bool.false_eq_true, and_true, true_and, implies_true, forall_const, false_implies, cmpI, Bool.not_true, Bool.not_false, Bool.true_and, Bool.false_and, Bool.and_true, Bool.and_false, reduceIte, List.append_nil, reduceCtorEq]
        simp [fr4, zq]
    · obtain ⟨e1, e2, e3, e4, e5, e6, e7, e8, e9, l1, l2⟩ := sum_facts h k
      obtain ⟨k1, k2, _⟩ := valid_bounds k
      rcases hs with rfl | rfl
      · have u1 : IntKind.i64.wrap (1 * x) = x := by rw [Int.one_mul]; exact wrap_in (by omega)
        have u2 : IntKind.i64.wrap (1 * y) = y := by rw [Int.one_mul]; exact wrap_in (by omega)
        simp only [F_l2Sum, G_l2Sum, tr_l2Sum, Fs_l2Sum, G_sFracValid, G_l2Low, addQ, lessQ, validQ, q3, arI, h, k, u1, u2, e1, e2, e3, e4, e5, e6, e7, ofTree, okT, okE, evalT, evalE, evsIn, ev, callF, preF, hasF, needs, i0, b0, toI_int, toB_bool, List.getD_cons_zero, List.getD_cons_succ, List.cons_append, List.nil_append, List.replicate, if_true, if_false, Bool.false_eq_true, and_true, true_and, implies_true, forall_const, false_implies, cmpI, Bool.not_true, Bool.not_false, Bool.true_and, Bool.false_and, Bool.and_true, Bool.and_false, reduceIte, List.append_nil, reduceCtorEq]
        simp [fr4, l1]
      · have u1 : IntKind.i64.wrap (-1 * x) = -x := by rw [Int.neg_one_mul]; exact wrap_in (by omega)
        have u2 : IntKind.i64.wrap (-1 * y) = -y := by rw [Int.neg_one_mul]; exact wrap_in (by omega)
        have m2 := mulB k1 (b := c) (by have := valid_bounds h; omega)
        have m4 := mulB k2 (b := c) (by have := valid_bounds h; omega)
        have v1 : IntKind.i64.wrap (-x * c) = -(x * c) := by rw [Int.neg_mul]; exact wrap_in (by omega)
        have v2 : IntKind.i64.wrap (-y * c) = -(y * c) := by rw [Int.neg_mul]; exact wrap_in (by omega)
        have v3 : IntKind.i64.wrap (a * z + -(x * c)) = a * z - x * c := by rw [← Int.sub_eq_add_neg]; exact e8
        have v4 : IntKind.i64.wrap (b * z + -(y * c)) = b * z - y * c := by rw [← Int.sub_eq_add_neg]; exact e9
        simp only [F_l2Sum, G_l2Sum, tr_l2Sum, Fs_l2Sum, G_sFracValid, G_l2Low, addQ, lessQ, validQ, q3, arI, h, k, u1, u2, v1, v2, v3, v4, e1, e3, e5, ofTree, okT, okE, evalT, evalE, evsIn, ev, callF, preF, hasF, needs, i0, b0, toI_int, toB_bool, List.getD_cons_zero, List.getD_cons_succ, List.cons_append, List.nil_append, List.replicate, if_true, if_false, Bool.false_eq_true, and_true, true_and, implies_true, forall_const, false_implies, cmpI, Bool.not_true, Bool.not_false, Bool.true_and, Bool.false_and, Bool.and_true, Bool.and_false, reduceIte, List.append_nil, reduceCtorEq]
        simp [fr4, l2]
def tr_sFracAdd : Tr := (.evs [.call 0 [ξ20, ξ16, ξ14, ξ2, ξ15, ξ21, ξ22] none 4] (.ret [ξ23, ξ24, ξ25, ξ26]))
def Fs_sFracAdd : List Fun1 := [G_l2Sum]
def F_sFracAdd : Fun1 := ofTree Fs_sFracAdd tr_sFracAdd
def G_sFracAdd : Fun1 := ⟨fun _ => True, fun ins => fr4 (addQ (q3 ins 0) (q3 ins 3))⟩
theorem as_sFracAdd (ins : List Value) (ht : TypedL [.int .i64, .int .i64, .int .i64, .int .i64, .int .i64, .int .i64] ins) (_ : G_sFracAdd.pre ins) : F_sFracAdd.pre ins ∧ F_sFracAdd.out ins = G_sFracAdd.out ins := by
  obtain ⟨a, b, c, x, y, z, rfl, _⟩ := ints6 ht
  exact ⟨⟨⟨.inl rfl, trivial⟩, trivial⟩, rfl⟩
def A_sFracAdd : AF := aAny 4
theorem aok_sFracAdd {cb : CodeB} : AOK cb G_sFracAdd A_sFracAdd := aAny_ok (fun _ => trivial) (fun ins => by rfl)
def tr_sFracTimes : Tr := ξ47
def Fs_sFracTimes : List Fun1 := [G_sFracValid, G_l2Low]
def F_sFracTimes : Fun1 := ofTree Fs_sFracTimes tr_sFracTimes
def G_sFracTimes : Fun1 := ⟨fun _ => True, fun ins => fr4 (timesQ (q3 ins 0) (q3 ins 3))⟩
theorem as_sFracTimes (ins : List Value) (ht : TypedL [.int .i64, .int .i64, .int .i64, .int .i64, .int .i64, .int .i64] ins) (_ : G_sFracTimes.pre ins) : F_sFracTimes.pre ins ∧ F_sFracTimes.out ins = G_sFracTimes.out ins := by
  obtain ⟨a, b, c, x, y, z, rfl, _⟩ := ints6 ht
  simp only [F_sFracTimes, G_sFracTimes, tr_sFracTimes, Fs_sFracTimes, G_sFracValid, G_l2Low, timesQ, validQ, q3, arI, ofTree, okT, okE, evalT, evalE, evsIn, ev, callF, preF, hasF, needs, i0, b0, toI_int, toB_bool, List.getD_cons_zero, List.getD_cons_succ, List.cons_append, List.nil_append, List.replicate, if_true, if_false, Bool.false_eq_true, and_true, true_and, implies_true, forall_const, false_implies, cmpI, Bool.not_true, Bool.not_false, Bool.true_and, Bool.false_and, Bool.and_true, Bool.and_false, reduceIte, List.append_nil, reduceCtorEq]
  cases h : validI a b c
  · simp [h, fr4, zq]
  · cases k : validI x y z
    · simp [h, k, fr4, zq]
    · obtain ⟨e1, e2, e3, e4, e5, e6, e7, l1⟩ := mul_facts h k
      simp only [h, k, e1, e2, e3, e4, e5, e6, e7, ofTree, okT, okE, evalT, evalE, evsIn, ev, callF, preF, hasF, needs, i0, b0, toI_int, toB_bool, List.getD_cons_zero, List.getD_cons_succ, List.cons_append, List.nil_append, List.replicate, if_true, if_false, Bool.false_eq_true, and_true, true_and, implies_true, forall_const, false_implies, cmpI, Bool.not_true, Bool.not_false, Bool.true_and, Bool.false_and, Bool.and_true, Bool.and_false, reduceIte, List.append_nil, reduceCtorEq]
      simp [fr4, l1]
def A_sFracTimes : AF := aAny 4
theorem aok_sFracTimes {cb : CodeB} : AOK cb G_sFracTimes A_sFracTimes := aAny_ok (fun _ => trivial) (fun ins => by rfl)
def tr_keep : Tr := (.ite (.not ξ15) (.ret [ξ0, ξ0, ξ0, ξ5]) (.ret [ξ20, ξ16, ξ14, ξ21]))
def Fs_keep : List Fun1 := []
def F_keep : Fun1 := ofTree Fs_keep tr_keep
def tr_add : Tr := ξ52
def Fs_add : List Fun1 := [G_iFracAdd, F_keep]
def F_add : Fun1 := ofTree Fs_add tr_add
def G_add : Fun1 := ⟨fun _ => True, fun ins => fr3 (addQ (q3 ins 0) (q3 ins 3)) ++ [.bool (b0 ins 6 || !(addQ (q3 ins 0) (q3 ins 3)).isSome)]⟩
theorem as_add (ins : List Value) (ht : TypedL [.int .i64, .int .i64, .int .i64, .int .i64, .int .i64, .int .i64, .bool] ins) (_ : G_add.pre ins) : F_add.pre ins ∧ F_add.out ins = G_add.out ins := by
  obtain ⟨a, r1, rfl, _, ht1⟩ := int_cons ht
  obtain ⟨b, r2, rfl, _, ht2⟩ := int_cons ht1
  obtain ⟨c, r3, rfl, _, ht3⟩ := int_cons ht2
  obtain ⟨x, r4, rfl, _, ht4⟩ := int_cons ht3
  obtain ⟨y, r5, rfl, _, ht5⟩ := int_cons ht4
  obtain ⟨z, r6, rfl, _, ht6⟩ := int_cons ht5
  obtain ⟨t, r7, rfl, ht7⟩ := bool_cons ht6
  obtain rfl := ints0 ht7
  simp only [F_add, G_add, tr_add, Fs_add, G_iFracAdd, F_keep, tr_keep, Fs_keep, q3, fr4, fr3, ofTree, okT, okE, evalT, evalE, evsIn, ev, callF, preF, hasF, needs, i0, b0, toI_int, toB_bool, List.getD_cons_zero, List.getD_cons_succ, List.cons_append, List.nil_append, List.replicate, if_true, if_false, Bool.false_eq_true, and_true, true_and, implies_true, forall_const, false_implies, cmpI, Bool.not_true, Bool.not_false, Bool.true_and, Bool.false_and, Bool.and_true, Bool.and_false, reduceIte, List.append_nil, reduceCtorEq]
  cases h : addQ (a, b, c) (x, y, z) <;> simp [zq]
def tr_times : Tr := ξ52
def Fs_times : List Fun1 := [G_iFracTimes, F_keep]
def F_times : Fun1 := ofTree Fs_times tr_times
def G_times : Fun1 := ⟨fun _ => True, fun ins => fr3 (timesQ (q3 ins 0) (q3 ins 3)) ++ [.bool (b0 ins 6 || !(timesQ (q3 ins 0) (q3 ins 3)).isSome)]⟩
theorem as_times (ins : List Value) (ht : TypedL [.int .i64, .int .i64, .int .i64, .int .i64, .int .i64, .int .i64, .bool] ins) (_ : G_times.pre ins) : F_times.pre ins ∧ F_times.out ins = G_times.out ins := by
  obtain ⟨a, r1, rfl, _, ht1⟩ := int_cons ht
  obtain ⟨b, r2, rfl, _, ht2⟩ := int_cons ht1
  obtain ⟨c, r3, rfl, _, ht3⟩ := int_cons ht2
  obtain ⟨x, r4, rfl, _, ht4⟩ := int_cons ht3
  obtain ⟨y, r5, rfl, _, ht5⟩ := int_cons ht4
  obtain ⟨z, r6, rfl, _, ht6⟩ := int_cons ht5
  obtain ⟨t, r7, rfl, ht7⟩ := bool_cons ht6
  obtain rfl := ints0 ht7
  simp only [F_times, G_times, tr_times, Fs_times, G_iFracTimes, F_keep, tr_keep, Fs_keep, q3, fr4, fr3, ofTree, okT, okE, evalT, evalE, evsIn, ev, callF, preF, hasF, needs, i0, b0, toI_int, toB_bool, List.getD_cons_zero, List.getD_cons_succ, List.cons_append, List.nil_append, List.replicate, if_true, if_false, Bool.false_eq_true, and_true, true_and, implies_true, forall_const, false_implies, cmpI, Bool.not_true, Bool.not_false, Bool.true_and, Bool.false_and, Bool.and_true, Bool.and_false, reduceIte, List.append_nil, reduceCtorEq]
  cases h : timesQ (a, b, c) (x, y, z) <;> simp [zq]
def tr_need : Tr := (.ite (.not ξ20) (.ret [ξ5]) (.ret [ξ16]))
def Fs_need : List Fun1 := []
def F_need : Fun1 := ofTree Fs_need tr_need
def G_need : Fun1 := ⟨fun _ => True, fun ins => [.bool (b0 ins 1 || !b0 ins 0)]⟩
theorem as_need (ins : List Value) (ht : TypedL [.bool, .bool] ins) (_ : G_need.pre ins) : F_need.pre ins ∧ F_need.out ins = G_need.out ins := by
  obtain ⟨s, r1, rfl, ht1⟩ := bool_cons ht
  obtain ⟨t, r2, rfl, ht2⟩ := bool_cons ht1
  obtain rfl := ints0 ht2
  simp only [F_need, G_need, tr_need, Fs_need, ofTree, okT, okE, evalT, evalE, evsIn, ev, callF, preF, hasF, needs, i0, b0, toI_int, toB_bool, List.getD_cons_zero, List.getD_cons_succ, List.cons_append, List.nil_append, List.replicate, if_true, if_false, Bool.false_eq_true, and_true, true_and, implies_true, forall_const, false_implies, cmpI, Bool.not_true, Bool.not_false, Bool.true_and, Bool.false_and, Bool.and_true, Bool.and_false, reduceIte, List.append_nil, reduceCtorEq]
  cases s <;> cases t <;> simp
def tr_l6tAdd : Tr := (.evs [.call 0 [ξ20, ξ16, ξ14, ξ15, ξ21, ξ22, ξ23] none 4] (.ret [ξ25, ξ26, ξ17, (.ite ξ24 ξ18 ξ1)]))
def Fs_l6tAdd : List Fun1 := [G_l2Sum]
def F_l6tAdd : Fun1 := ofTree Fs_l6tAdd tr_l6tAdd
def signQ (s : Int) (a b : Q) : Option Q := if s = 1 then addQ a b else lessQ a b
def G_l6tAdd : Fun1 := ⟨fun ins => i0 ins 3 = 1 ∨ i0 ins 3 = -1, fun ins => fr3 (signQ (i0 ins 3) (q3 ins 0) (q3 ins 4)) ++ [.bool (b0 ins 7 && (signQ (i0 ins 3) (q3 ins 0) (q3 ins 4)).isSome)]⟩
theorem as_l6tAdd (ins : List Value) (ht : TypedL [.int .i64, .int .i64, .int .i64, .int .i64, .int .i64, .int .i64, .int .i64, .bool] ins) (hp : G_l6tAdd.pre ins) : F_l6tAdd.pre ins ∧ F_l6tAdd.out ins = G_l6tAdd.out ins := by
  obtain ⟨a, r1, rfl, _, ht1⟩ := int_cons ht
  obtain ⟨b, r2, rfl, _, ht2⟩ := int_cons ht1
  obtain ⟨c, r3, rfl, _, ht3⟩ := int_cons ht2
  obtain ⟨s, r4, rfl, _, ht4⟩ := int_cons ht3
  obtain ⟨x, r5, rfl, _, ht5⟩ := int_cons ht4
  obtain ⟨y, r6, rfl, _, ht6⟩ := int_cons ht5
  obtain ⟨z, r7, rfl, _, ht7⟩ := int_cons ht6
  obtain ⟨t, r8, rfl, ht8⟩ := bool_cons ht7
  obtain rfl := ints0 ht8
  have hp : s = 1 ∨ s = -1 := hp
  refine ⟨⟨⟨hp, trivial⟩, trivial⟩, ?_⟩
  simp only [F_l6tAdd, G_l6tAdd, tr_l6tAdd, Fs_l6tAdd, G_l2Sum, signQ, q3, fr4, fr3, ofTree, okT, okE, evalT, evalE, evsIn, ev, callF, preF, hasF, needs, i0, b0, toI_int, toB_bool, List.getD_cons_zero, List.getD_cons_succ, List.cons_append, List.nil_append, List.replicate, if_true, if_false, Bool.false_eq_true, and_true, true_and, implies_true, forall_const, false_implies, cmpI, Bool.not_true, Bool.not_false, Bool.true_and, Bool.false_and, Bool.and_true, Bool.and_false, reduceIte, List.append_nil, reduceCtorEq]
  cases t <;> simp
def tr_iTableValid : Tr := (.evs ξ78 (.ite (.not ξ85) ξ46 (.evs [.call 0 ξ101 none 1] (.ite (.not (.var 49)) ξ46 (.evs [.call 0 [ξ23, ξ24, ξ25] none 1] (.ite (.not (.var 50)) ξ46 (.evs [.call 0 [ξ26, ξ17, ξ18] none 1] (.ite (.not (.var 51)) ξ46 (.evs [.call 0 [ξ27, ξ42, ξ40] none 1] (.ite (.not (.var 52)) ξ46 (.evs [.call 0 [ξ41, ξ44, ξ45] none 1] (.ite (.not (.var 53)) ξ46 (.evs [.call 0 [ξ60, ξ63, ξ58] none 1] (.ite (.not (.var 54)) ξ46 (.evs [.call 0 [ξ64, ξ57, ξ48] none 1] (.ite (.not (.var 55)) ξ46 (.evs [.call 0 [ξ55, ξ74, ξ70] none 1] (.ite (.not (.var 56)) ξ46 (.evs [.call 0 [ξ73, ξ66, ξ95] none 1] (.ite (.not (.var 57)) ξ46 (.evs [.call 0 [ξ92, ξ94, ξ79] none 1] (.ite (.not (.var 58)) ξ46 (.evs [.call 0 [ξ91, (.var 34), (.var 35)] none 1] (.ite (.not (.var 59)) ξ46 (.evs [.call 0 [(.var 36), (.var 37), (.var 38)] none 1] (.ite (.not (.var 60)) ξ46 (.evs [.call 0 [(.var 39), (.var 40), (.var 41)] none 1] (.ite (.not (.var 61)) ξ46 (.evs [.call 0 [(.var 42), (.var 43), (.var 44)] none 1] (.ite (.not (.var 62)) ξ46 (.evs [.call 0 [(.var 45), (.var 46), (.var 47)] none 1] (.ite (.not (.var 63)) ξ46 (.ret [ξ5])))))))))))))))))))))))))))))))))
def Fs_iTableValid : List Fun1 := [G_realOk]
def F_iTableValid : Fun1 := ofTree Fs_iTableValid tr_iTableValid
def G_iTableValid : Fun1 := ⟨fun _ => True, fun ins => [.bool (tabQ fun k => q3 ins (3 * k))]⟩
theorem out_iTableValid : (fun (g : Nat → Int) => F_iTableValid.out (ivs g 0 48)) = fun g => nestC (fun k => .bool (!realQ (q3 (ivs g 0 48) (3 * k)))) 0 16 := by kernel_rfl
theorem as_iTableValid (ins : List Value) (ht : TypedL (intTs 48 ++ []) ins) (_ : G_iTableValid.pre ins) : F_iTableValid.pre ins ∧ F_iTableValid.out ins = G_iTableValid.out ins := by
  obtain ⟨g, r, rfl, h1, _⟩ := ints_lit 48 0 ht
  obtain rfl := ints0 h1
  rw [List.append_nil]
  refine ⟨okT_free (by intro F hF ins; simp only [Fs_iTableValid, List.mem_singleton] at hF; rw [hF]; trivial) _ _ (by kernel_rfl), (congrFun out_iTableValid g).trans ?_⟩
  exact nestC_eq (fun k => rfl) 16 0
def tr_sTableValid : Tr := (.evs ξ78 (.ite (.ite (.not ξ85) ξ5 (.cmp .neq ξ16 ξ0)) ξ46 (.evs [.call 0 ξ101 none 1] (.ite (.ite (.not (.var 49)) ξ5 (.cmp .neq ξ21 ξ0)) ξ46 (.evs [.call 0 [ξ23, ξ24, ξ25] none 1] (.ite (.ite (.not (.var 50)) ξ5 (.cmp .neq ξ24 ξ0)) ξ46 (.evs [.call 0 [ξ26, ξ17, ξ18] none 1] (.ite (.ite (.not (.var 51)) ξ5 (.cmp .neq ξ17 ξ0)) ξ46 (.evs [.call 0 [ξ27, ξ42, ξ40] none 1] (.ite (.ite (.not (.var 52)) ξ5 (.cmp .neq ξ42 ξ0)) ξ46 (.evs [.call 0 [ξ41, ξ44, ξ45] none 1] (.ite (.ite (.not (.var 53)) ξ5 (.cmp .neq ξ44 ξ0)) ξ46 (.evs [.call 0 [ξ60, ξ63, ξ58] none 1] (.ite (.ite (.not (.var 54)) ξ5 (.cmp .neq ξ63 ξ0)) ξ46 (.evs [.call 0 [ξ64, ξ57, ξ48] none 1] (.ite (.ite (.not (.var 55)) ξ5 (.cmp .neq ξ57 ξ0)) ξ46 (.evs [.call 0 [ξ55, ξ74, ξ70] none 1] (.ite (.ite (.not (.var 56)) ξ5 (.cmp .neq ξ74 ξ0)) ξ46 (.evs [.call 0 [ξ73, ξ66, ξ95] none 1] (.ite (.ite (.not (.var 57)) ξ5 (.cmp .neq ξ66 ξ0)) ξ46 (.evs [.call 0 [ξ92, ξ94, ξ79] none 1] (.ite (.ite (.not (.var 58)) ξ5 (.cmp .neq ξ94 ξ0)) ξ46 (.evs [.call 0 [ξ91, (.var 34), (.var 35)] none 1] (.ite (.ite (.not (.var 59)) ξ5 (.cmp .neq (.var 34) ξ0)) ξ46 (.evs [.call 0 [(.var 36), (.var 37), (.var 38)] none 1] (.ite (.ite (.not (.var 60)) ξ5 (.cmp .neq (.var 37) ξ0)) ξ46 (.evs [.call 0 [(.var 39), (.var 40), (.var 41)] none 1] (.ite (.ite (.not (.var 61)) ξ5 (.cmp .neq (.var 40) ξ0)) ξ46 (.evs [.call 0 [(.var 42), (.var 43), (.var 44)] none 1] (.ite (.ite (.not (.var 62)) ξ5 (.cmp .neq (.var 43) ξ0)) ξ46 (.evs [.call 0 [(.var 45), (.var 46), (.var 47)] none 1] (.ite (.ite (.not (.var 63)) ξ5 (.cmp .neq (.var 46) ξ0)) ξ46 (.ret [ξ5])))))))))))))))))))))))))))))))))
def Fs_sTableValid : List Fun1 := [G_sFracValid]
def F_sTableValid : Fun1 := ofTree Fs_sTableValid tr_sTableValid
def G_sTableValid : Fun1 := ⟨fun _ => True, fun ins => [.bool (allB (fun k => realQ (q3 ins (3 * k))) 0 16)]⟩
theorem out_sTableValid : (fun (g : Nat → Int) => F_sTableValid.out (ivs g 0 48)) = fun g => nestC (fun k => if toB (.bool (!validQ (q3 (ivs g 0 48) (3 * k)))) = true then .bool true else .bool (i0 (ivs g 0 48) (3 * k + 1) != 0)) 0 16 := by kernel_rfl
theorem as_sTableValid (ins : List Value) (ht : TypedL (intTs 48 ++ []) ins) (_ : G_sTableValid.pre ins) : F_sTableValid.pre ins ∧ F_sTableValid.out ins = G_sTableValid.out ins := by
  obtain ⟨g, r, rfl, h1, _⟩ := ints_lit 48 0 ht
  obtain rfl := ints0 h1
  rw [List.append_nil]
  refine ⟨okT_free (by intro F hF ins; simp only [Fs_sTableValid, List.mem_singleton] at hF; rw [hF]; trivial) _ _ (by kernel_rfl), (congrFun out_sTableValid g).trans ?_⟩
  refine nestC_eq (fun k => ?_) 16 0
  simp only [toB_bool, realQ, q3]
  by_cases h : validQ (i0 (ivs g 0 48) (3 * k), i0 (ivs g 0 48) (3 * k + 1), i0 (ivs g 0 48) (3 * k + 2)) = true <;> simp [bne, h]
def tr_gotTable : Tr := (.ite ξ85 (.ret [ξ0, ξ0, ξ0, ξ0, ξ0, ξ0, ξ0, ξ0, ξ0, ξ0, ξ0, ξ0, ξ0, ξ0, ξ0, ξ0, ξ0, ξ0, ξ0, ξ0, ξ0, ξ0, ξ0, ξ0, ξ0, ξ0, ξ0, ξ0, ξ0, ξ0, ξ0, ξ0, ξ0, ξ0, ξ0, ξ0, ξ0, ξ0, ξ0, ξ0, ξ0, ξ0, ξ0, ξ0, ξ0, ξ0, ξ0, ξ0, ξ1, ξ85]) (.ret [ξ20, ξ16, ξ14, ξ15, ξ21, ξ22, ξ23, ξ24, ξ25, ξ26, ξ17, ξ18, ξ27, ξ42, ξ40, ξ41, ξ44, ξ45, ξ60, ξ63, ξ58, ξ64, ξ57, ξ48, ξ55, ξ74, ξ70, ξ73, ξ66, ξ95, ξ92, ξ94, ξ79, ξ91, (.var 34), (.var 35), (.var 36), (.var 37), (.var 38), (.var 39), (.var 40), (.var 41), (.var 42), (.var 43), (.var 44), (.var 45), (.var 46), (.var 47), ξ5, ξ85]))
def Fs_gotTable : List Fun1 := []
def F_gotTable : Fun1 := ofTree Fs_gotTable tr_gotTable
def G_gotTable : Fun1 := ⟨fun _ => True, fun ins => gotV (b0 ins 48) ins 0 48 ++ [.bool (!b0 ins 48), .bool (b0 ins 48)]⟩
theorem out_gotTable : (fun (g : Nat → Int) => F_gotTable.out (ivs g 0 48 ++ [.bool true])) = fun g => G_gotTable.out (ivs g 0 48 ++ [.bool true]) := by kernel_rfl
theorem out_gotTable' : (fun (g : Nat → Int) => F_gotTable.out (ivs g 0 48 ++ [.bool false])) = fun g => G_gotTable.out (ivs g 0 48 ++ [.bool false]) := by kernel_rfl
theorem as_gotTable (ins : List Value) (ht : TypedL (intTs 48 ++ [.bool]) ins) (_ : G_gotTable.pre ins) : F_gotTable.pre ins ∧ F_gotTable.out ins = G_gotTable.out ins := by
  obtain ⟨g, r, rfl, h1, _⟩ := ints_lit 48 0 ht
  obtain ⟨b, r2, rfl, h2⟩ := bool_cons h1
  obtain rfl := ints0 h2
  cases b
  · exact ⟨trivial, congrFun out_gotTable' g⟩
  · exact ⟨trivial, congrFun out_gotTable g⟩
def tr_l6tOf0 : Tr := (.ret ξ7)
def Fs_l6tOf0 : List Fun1 := []
def F_l6tOf0 : Fun1 := ofTree Fs_l6tOf0 tr_l6tOf0
def tr_l6tOf1 : Tr := (.ret ξ38)
def Fs_l6tOf1 : List Fun1 := []
def F_l6tOf1 : Fun1 := ofTree Fs_l6tOf1 tr_l6tOf1
def tr_l6tOf2 : Tr := (.ret [ξ55, ξ74, ξ70, ξ73, ξ66, ξ95, ξ92, ξ94, ξ79, ξ91, (.var 34), (.var 35)])
def Fs_l6tOf2 : List Fun1 := []
def F_l6tOf2 : Fun1 := ofTree Fs_l6tOf2 tr_l6tOf2
def tr_l6tOf3 : Tr := (.ret [(.var 36), (.var 37), (.var 38), (.var 39), (.var 40), (.var 41), (.var 42), (.var 43), (.var 44), (.var 45), (.var 46), (.var 47)])
def Fs_l6tOf3 : List Fun1 := []
def F_l6tOf3 : Fun1 := ofTree Fs_l6tOf3 tr_l6tOf3
def tr_l6tRow : Tr := (.evs [.call 0 [ξ20, ξ16, ξ14, ξ27, ξ42, ξ40] none 4] (.evs [.call 1 [ξ0, ξ0, ξ2, ξ2, ξ74, ξ70, ξ73, (.ite ξ55 ξ66 ξ1)] none 4] (.evs [.call 0 [ξ15, ξ21, ξ22, ξ41, ξ44, ξ45] none 4] (.evs [.call 1 [ξ95, ξ92, ξ94, ξ2, ξ91, (.var 34), (.var 35), (.ite ξ79 (.var 36) ξ1)] none 4] (.evs [.call 0 [ξ23, ξ24, ξ25, ξ60, ξ63, ξ58] none 4] (.evs [.call 1 [(.var 37), (.var 38), (.var 39), ξ2, (.var 41), (.var 42), (.var 43), (.ite (.var 40) (.var 44) ξ1)] none 4] (.evs [.call 0 [ξ26, ξ17, ξ18, ξ64, ξ57, ξ48] none 4] (.evs [.call 1 [(.var 45), (.var 46), (.var 47), ξ2, (.var 49), (.var 50), (.var 51), (.ite ξ85 (.var 52) ξ1)] none 4] (.ret [(.var 53), (.var 54), (.var 55), (.var 56)])))))))))
def Fs_l6tRow : List Fun1 := [G_sFracTimes, G_l6tAdd]
def F_l6tRow : Fun1 := ofTree Fs_l6tRow tr_l6tRow
def G_l6tRow : Fun1 := ⟨fun _ => True, fun ins => fl3 [(cellS' (fun k => q3 ins (3 * k)) (fun k => q3 ins (12 + 3 * k)) (b0 ins 24)).1] ++ [.bool (cellS' (fun k => q3 ins (3 * k)) (fun k => q3 ins (12 + 3 * k)) (b0 ins 24)).2]⟩
theorem out_l6tRow : (fun (g : Nat → Int) (s : Bool) => F_l6tRow.out (ivs g 0 24 ++ [.bool s])) = fun g s => G_l6tRow.out (ivs g 0 24 ++ [.bool s]) := by kernel_rfl
theorem as_l6tRow (ins : List Value) (ht : TypedL (intTs 24 ++ [.bool]) ins) (_ : G_l6tRow.pre ins) : F_l6tRow.pre ins ∧ F_l6tRow.out ins = G_l6tRow.out ins := by
  obtain ⟨g, r, rfl, h1, _⟩ := ints_lit 24 0 ht
  obtain ⟨s, r2, rfl, h2⟩ := bool_cons h1
  obtain rfl := ints0 h2
  refine ⟨?_, congrFun (congrFun out_l6tRow g) s⟩
  exact ⟨⟨trivial, trivial⟩, ⟨.inl rfl, trivial⟩, ⟨trivial, trivial⟩, ⟨.inl rfl, trivial⟩, ⟨trivial, trivial⟩, ⟨.inl rfl, trivial⟩, ⟨trivial, trivial⟩, ⟨.inl rfl, trivial⟩, trivial⟩
def tr_gotStokes : Tr := ξ67
def Fs_gotStokes : List Fun1 := []
def F_gotStokes : Fun1 := ofTree Fs_gotStokes tr_gotStokes
def G_gotStokes : Fun1 := ⟨fun _ => True, fun ins => gotV (b0 ins 12) ins 0 12 ++ [.bool (!b0 ins 12), .bool (b0 ins 12)]⟩
theorem out_gotStokes : (fun (g : Nat → Int) => F_gotStokes.out (ivs g 0 12 ++ [.bool true])) = fun g => G_gotStokes.out (ivs g 0 12 ++ [.bool true]) := by kernel_rfl
theorem out_gotStokes' : (fun (g : Nat → Int) => F_gotStokes.out (ivs g 0 12 ++ [.bool false])) = fun g => G_gotStokes.out (ivs g 0 12 ++ [.bool false]) := by kernel_rfl
theorem as_gotStokes (ins : List Value) (ht : TypedL (intTs 12 ++ [.bool]) ins) (_ : G_gotStokes.pre ins) : F_gotStokes.pre ins ∧ F_gotStokes.out ins = G_gotStokes.out ins := by
  obtain ⟨g, r, rfl, h1, _⟩ := ints_lit 12 0 ht
  obtain ⟨b, r2, rfl, h2⟩ := bool_cons h1
  obtain rfl := ints0 h2
  cases b
  · exact ⟨trivial, congrFun out_gotStokes' g⟩
  · exact ⟨trivial, congrFun out_gotStokes g⟩
def tr_iStokesValid : Tr := ξ32
def Fs_iStokesValid : List Fun1 := [G_realOk]
def F_iStokesValid : Fun1 := ofTree Fs_iStokesValid tr_iStokesValid
def G_iStokesValid : Fun1 := ⟨fun _ => True, fun ins => [.bool (stQ fun k => q3 ins (3 * k))]⟩
theorem out_iStokesValid : (fun (g : Nat → Int) => F_iStokesValid.out (ivs g 0 12)) = fun g => nestC (fun k => .bool (!realQ (q3 (ivs g 0 12) (3 * k)))) 0 4 := by kernel_rfl
theorem as_iStokesValid (ins : List Value) (ht : TypedL (intTs 12 ++ []) ins) (_ : G_iStokesValid.pre ins) : F_iStokesValid.pre ins ∧ F_iStokesValid.out ins = G_iStokesValid.out ins := by
  obtain ⟨g, r, rfl, h1, _⟩ := ints_lit 12 0 ht
  obtain rfl := ints0 h1
  rw [List.append_nil]
  refine ⟨okT_free (by intro F hF ins; simp only [Fs_iStokesValid, List.mem_singleton] at hF; rw [hF]; trivial) _ _ (by kernel_rfl), (congrFun out_iStokesValid g).trans ?_⟩
  exact nestC_eq (fun k => rfl) 4 0
def tr_sStokesValid : Tr := (.evs ξ78 (.ite (.ite (.not ξ27) ξ5 (.cmp .neq ξ16 ξ0)) ξ46 (.evs [.call 0 ξ101 none 1] (.ite (.ite (.not ξ42) ξ5 (.cmp .neq ξ21 ξ0)) ξ46 (.evs [.call 0 [ξ23, ξ24, ξ25] none 1] (.ite (.ite (.not ξ40) ξ5 (.cmp .neq ξ24 ξ0)) ξ46 (.evs [.call 0 [ξ26, ξ17, ξ18] none 1] (.ite (.ite (.not ξ41) ξ5 (.cmp .neq ξ17 ξ0)) ξ46 (.ret [ξ5])))))))))
def Fs_sStokesValid : List Fun1 := [G_sFracValid]
def F_sStokesValid : Fun1 := ofTree Fs_sStokesValid tr_sStokesValid
def G_sStokesValid : Fun1 := ⟨fun _ => True, fun ins => [.bool (allB (fun k => realQ (q3 ins (3 * k))) 0 4)]⟩
theorem out_sStokesValid : (fun (g : Nat → Int) => F_sStokesValid.out (ivs g 0 12)) = fun g => nestC (fun k => if toB (.bool (!validQ (q3 (ivs g 0 12) (3 * k)))) = true then .bool true else .bool (i0 (ivs g 0 12) (3 * k + 1) != 0)) 0 4 := by kernel_rfl
theorem as_sStokesValid (ins : List Value) (ht : TypedL (intTs 12 ++ []) ins) (_ : G_sStokesValid.pre ins) : F_sStokesValid.pre ins ∧ F_sStokesValid.out ins = G_sStokesValid.out ins := by
  obtain ⟨g, r, rfl, h1, _⟩ := ints_lit 12 0 ht
  obtain rfl := ints0 h1
  rw [List.append_nil]
  refine ⟨okT_free (by intro F hF ins; simp only [Fs_sStokesValid, List.mem_singleton] at hF; rw [hF]; trivial) _ _ (by kernel_rfl), (congrFun out_sStokesValid g).trans ?_⟩
  refine nestC_eq (fun k => ?_) 4 0
  simp only [toB_bool, realQ, q3]
  by_cases h : validQ (i0 (ivs g 0 12) (3 * k), i0 (ivs g 0 12) (3 * k + 1), i0 (ivs g 0 12) (3 * k + 2)) = true <;> simp [bne, h]
def A_sStokesValid : AF := aAny 1
theorem aok_sStokesValid {cb : CodeB} : AOK cb G_sStokesValid A_sStokesValid := aAny_ok (fun _ => trivial) (fun ins => by rfl)
def tr_iTableApply : Tr := (.evs [.call 0 ξ3 none 1, .call 1 ξ90 (some (.var 60)) 1, .call 2 [(.ite (.var 60) (.var 61) ξ1), ξ1] none 1] (.evs [.call 3 [ξ20, ξ16, ξ14, ξ85, (.var 49), (.var 50), (.var 62)] none 4] (.evs [.call 3 [ξ15, ξ21, ξ22, (.var 51), (.var 52), (.var 53), (.var 66)] none 4, .call 4 [(.var 63), (.var 64), (.var 65), (.var 67), (.var 68), (.var 69), (.var 70)] none 4] (.evs [.call 3 [ξ23, ξ24, ξ25, (.var 54), (.var 55), (.var 56), (.var 74)] none 4, .call 4 [(.var 71), (.var 72), (.var 73), (.var 75), (.var 76), (.var 77), (.var 78)] none 4] (.evs [.call 3 [ξ26, ξ17, ξ18, (.var 57), (.var 58), (.var 59), (.var 82)] none 4, .call 4 [(.var 79), (.var 80), (.var 81), (.var 83), (.var 84), (.var 85), (.var 86)] none 4] (.evs [.call 3 [ξ27, ξ42, ξ40, ξ85, (.var 49), (.var 50), (.var 90)] none 4] (.evs [.call 3 [ξ41, ξ44, ξ45, (.var 51), (.var 52), (.var 53), (.var 94)] none 4, .call 4 [(.var 91), (.var 92), (.var 93), (.var 95), (.var 96), (.var 97), (.var 98)] none 4] (.evs [.call 3 [ξ60, ξ63, ξ58, (.var 54), (.var 55), (.var 56), (.var 102)] none 4, .call 4 [(.var 99), (.var 100), (.var 101), (.var 103), (.var 104), (.var 105), (.var 106)] none 4] (.evs [.call 3 [ξ64, ξ57, ξ48, (.var 57), (.var 58), (.var 59), (.var 110)] none 4, .call 4 [(.var 107), (.var 108), (.var 109), (.var 111), (.var 112), (.var 113), (.var 114)] none 4] (.evs [.call 3 [ξ55, ξ74, ξ70, ξ85, (.var 49), (.var 50), (.var 118)] none 4] (.evs [.call 3 [ξ73, ξ66, ξ95, (.var 51), (.var 52), (.var 53), (.var 122)] none 4, .call 4 [(.var 119), (.var 120), (.var 121), (.var 123), (.var 124), (.var 125), (.var 126)] none 4] (.evs [.call 3 [ξ92, ξ94, ξ79, (.var 54), (.var 55), (.var 56), (.var 130)] none 4, .call 4 [(.var 127), (.var 128), (.var 129), (.var 131), (.var 132), (.var 133), (.var 134)] none 4] (.evs [.call 3 [ξ91, (.var 34), (.var 35), (.var 57), (.var 58), (.var 59), (.var 138)] none 4, .call 4 [(.var 135), (.var 136), (.var 137), (.var 139), (.var 140), (.var 141), (.var 142)] none 4] (.evs [.call 3 [(.var 36), (.var 37), (.var 38), ξ85, (.var 49), (.var 50), (.var 146)] none 4] (.evs [.call 3 [(.var 39), (.var 40), (.var 41), (.var 51), (.var 52), (.var 53), (.var 150)] none 4, .call 4 [(.var 147), (.var 148), (.var 149), (.var 151), (.var 152), (.var 153), (.var 154)] none 4] (.evs [.call 3 [(.var 42), (.var 43), (.var 44), (.var 54), (.var 55), (.var 56), (.var 158)] none 4, .call 4 [(.var 155), (.var 156), (.var 157), (.var 159), (.var 160), (.var 161), (.var 162)] none 4] (.evs [.call 3 [(.var 45), (.var 46), (.var 47), (.var 57), (.var 58), (.var 59), (.var 166)] none 4, .call 4 [(.var 163), (.var 164), (.var 165), (.var 167), (.var 168), (.var 169), (.var 170)] none 4] (.evs [.call 5 [(.var 87), (.var 88), (.var 89), (.var 115), (.var 116), (.var 117), (.var 143), (.var 144), (.var 145), (.var 171), (.var 172), (.var 173), (.var 174)] none 14] (.ret [(.var 175), (.var 176), (.var 177), (.var 178), (.var 179), (.var 180), (.var 181), (.var 182), (.var 183), (.var 184), (.var 185), (.var 186), (.var 187)])))))))))))))))))))
def Fs_iTableApply : List Fun1 := [G_iTableValid, G_iStokesValid, G_need, G_times, G_add, G_gotStokes]
def F_iTableApply : Fun1 := ofTree Fs_iTableApply tr_iTableApply
def apQ (ins : List Value) : Bool := tabQ (fun k => q3 ins (3 * k)) && stQ (fun k => q3 ins (48 + 3 * k))
def apD (ins : List Value) (k : Nat) : Option Q := dotQ (rowF (fun k => q3 ins (3 * k)) k) (fun k => q3 ins (48 + 3 * k))
def G_iTableApply : Fun1 := ⟨fun _ => True, fun ins => nttW 4 (apQ ins) (apD ins)⟩
def taI (a b : Nat → Q) : List Q × Bool := cellsI (fun k s => cellI (rowF a k) b s) 0 4 (false || !andG (tabQ a) (stQ b))
theorem taI_fin (a b : Nat → Q) : gotL (taI a b).2 (taI a b).1 ++ [.bool (!(taI a b).2)] = nttV 4 (tabQ a && stQ b) (fun k => dotQ (rowF a k) b) := by
  unfold taI
  rw [andG_eq, Bool.false_or]
  exact nttI_eq (d := fun k => dotQ (rowF a k) b) (fun k s => cellI_spec _ _ s) 4 _
theorem out_iTableApply : (fun (g : Nat → Int) => evalT' Fs_iTableApply tr_iTableApply (ivs g 0 60)) = fun g =>
    gotL (taI (fun k => q3 (ivs g 0 60) (3 * k)) (fun k => q3 (ivs g 0 60) (48 + 3 * k))).2 (taI (fun k => q3 (ivs g 0 60) (3 * k)) (fun k => q3 (ivs g 0 60) (48 + 3 * k))).1 ++
      [.bool (!(taI (fun k => q3 (ivs g 0 60) (3 * k)) (fun k => q3 (ivs g 0 60) (48 + 3 * k))).2)] := by kernel_rfl
theorem as_iTableApply (ins : List Value) (ht : TypedL (intTs 60 ++ []) ins) (_ : G_iTableApply.pre ins) : F_iTableApply.pre ins ∧ F_iTableApply.out ins = G_iTableApply.out ins := by
  obtain ⟨g, r, rfl, h1, _⟩ := ints_lit 60 0 ht
  obtain rfl := ints0 h1
  rw [List.append_nil]
  refine ⟨okT_free (by intro F hF ins; simp only [Fs_iTableApply, List.mem_cons, List.not_mem_nil, or_false] at hF; rcases hF with rfl | rfl | rfl | rfl | rfl | rfl <;> trivial) _ _ (by kernel_rfl), (evalT_sel (lens := [1, 1]) (Lens.cons (fun _ => rfl) (Lens.cons (fun _ => rfl) Lens.nil)) _ _ (by kernel_rfl)).trans ((congrFun out_iTableApply g).trans ?_)⟩
  exact (taI_fin _ _).trans (nttV_eq _ _ _)
def tr_sTableApply : Tr := (.evs [.call 0 ξ3 none 1, .call 1 ξ90 (some (.var 60)) 1] (.ite (.ite (.var 60) (.var 61) ξ1) (.evs [.call 2 ξ3 none 12, .call 6 [(.var 62), (.var 63), (.var 64), (.var 65), (.var 66), (.var 67), (.var 68), (.var 69), (.var 70), (.var 71), (.var 72), (.var 73), ξ85, (.var 49), (.var 50), (.var 51), (.var 52), (.var 53), (.var 54), (.var 55), (.var 56), (.var 57), (.var 58), (.var 59), (.ite (.var 60) (.var 61) ξ1)] none 4] (.ite (.var 77) (.evs [.call 3 ξ3 none 12, .call 6 [(.var 78), (.var 79), (.var 80), (.var 81), (.var 82), (.var 83), (.var 84), (.var 85), (.var 86), (.var 87), (.var 88), (.var 89), ξ85, (.var 49), (.var 50), (.var 51), (.var 52), (.var 53), (.var 54), (.var 55), (.var 56), (.var 57), (.var 58), (.var 59), (.var 77)] none 4] (.ite (.var 93) (.evs [.call 4 ξ3 none 12, .call 6 [(.var 94), (.var 95), (.var 96), (.var 97), (.var 98), (.var 99), (.var 100), (.var 101), (.var 102), (.var 103), (.var 104), (.var 105), ξ85, (.var 49), (.var 50), (.var 51), (.var 52), (.var 53), (.var 54), (.var 55), (.var 56), (.var 57), (.var 58), (.var 59), (.var 93)] none 4] (.ite (.var 109) (.evs [.call 5 ξ3 none 12, .call 6 [(.var 110), (.var 111), (.var 112), (.var 113), (.var 114), (.var 115), (.var 116), (.var 117), (.var 118), (.var 119), (.var 120), (.var 121), ξ85, (.var 49), (.var 50), (.var 51), (.var 52), (.var 53), (.var 54), (.var 55), (.var 56), (.var 57), (.var 58), (.var 59), (.var 109)] none 4] (.ite (.not (.var 125)) ξ12 (.ret [(.var 74), (.var 75), (.var 76), (.var 90), (.var 91), (.var 92), (.var 106), (.var 107), (.var 108), (.var 122), (.var 123), (.var 124), ξ5]))) (.ite (.not (.var 109)) ξ12 (.ret [(.var 74), (.var 75), (.var 76), (.var 90), (.var 91), (.var 92), (.var 106), (.var 107), (.var 108), ξ0, ξ0, ξ0, ξ5])))) (.ite (.not (.var 93)) ξ12 (.ret [(.var 74), (.var 75), (.var 76), (.var 90), (.var 91), (.var 92), ξ0, ξ0, ξ0, ξ0, ξ0, ξ0, ξ5])))) (.ite (.not (.var 77)) ξ12 (.ret [(.var 74), (.var 75), (.var 76), ξ0, ξ0, ξ0, ξ0, ξ0, ξ0, ξ0, ξ0, ξ0, ξ5])))) (.ite (.not (.ite (.var 60) (.var 61) ξ1)) ξ12 (.ret [ξ0, ξ0, ξ0, ξ0, ξ0, ξ0, ξ0, ξ0, ξ0, ξ0, ξ0, ξ0, ξ5]))))
def Fs_sTableApply : List Fun1 := [G_sTableValid, G_sStokesValid, F_l6tOf0, F_l6tOf1, F_l6tOf2, F_l6tOf3, G_l6tRow]
def F_sTableApply : Fun1 := ofTree Fs_sTableApply tr_sTableApply
def G_sTableApply : Fun1 := ⟨fun _ => True, fun ins => nttW 4 (apQ ins) (apD ins)⟩
theorem out_sTableApply : (fun (g : Nat → Int) => evalT' Fs_sTableApply tr_sTableApply (ivs g 0 60)) = fun g =>
    nnestS 4 (fun k s => cellS' (rowF (fun k => q3 (ivs g 0 60) (3 * k)) k) (fun k => q3 (ivs g 0 60) (48 + 3 * k)) s) 4 0 [] (andG (tabQ fun k => q3 (ivs g 0 60) (3 * k)) (stQ fun k => q3 (ivs g 0 60) (48 + 3 * k))) := by kernel_rfl
theorem taS_fin (a b : Nat → Q) : nnestS 4 (fun k s => cellS' (rowF a k) b s) 4 0 [] (andG (tabQ a) (stQ b)) = nttV 4 (tabQ a && stQ b) (fun k => dotQ (rowF a k) b) := by
  rw [andG_eq]
  exact nttS_eq (d := fun k => dotQ (rowF a k) b) (fun k s => by simp only [cellS'_eq]; exact cellS_spec _ _ s) 4 _
theorem as_sTableApply (ins : List Value) (ht : TypedL (intTs 60 ++ []) ins) (_ : G_sTableApply.pre ins) : F_sTableApply.pre ins ∧ F_sTableApply.out ins = G_sTableApply.out ins := by
  obtain ⟨g, r, rfl, h1, _⟩ := ints_lit 60 0 ht
  obtain rfl := ints0 h1
  rw [List.append_nil]
  refine ⟨okT_free (by intro F hF ins; simp only [Fs_sTableApply, List.mem_cons, List.not_mem_nil, or_false] at hF; rcases hF with rfl | rfl | rfl | rfl | rfl | rfl | rfl <;> trivial) _ _ (by kernel_rfl), (evalT_sel (lens := [1, 1]) (Lens.cons (fun _ => rfl) (Lens.cons (fun _ => rfl) Lens.nil)) _ _ (by kernel_rfl)).trans ((congrFun out_sTableApply g).trans ?_)⟩
  exact (taS_fin _ _).trans (nttV_eq _ _ _)
def tr_l3Inner : Tr := (.evs ξ80 (.evs [.call 0 [ξ23, ξ24, ξ25, ξ26, ξ17, ξ18] none 4] (.ite (.ite (.not ξ41) ξ5 (.not ξ63)) ξ39 (.evs [.call 1 [ξ27, ξ42, ξ40, ξ44, ξ45, ξ60] none 4] (.ret [ξ58, ξ64, ξ57, ξ48])))))
def Fs_l3Inner : List Fun1 := [G_sFracTimes, G_sFracAdd]
def F_l3Inner : Fun1 := ofTree Fs_l3Inner tr_l3Inner
def G_l3Inner : Fun1 := ⟨fun _ => True, fun ins => fr4 (mixQ (q3 ins 0) (q3 ins 3) (q3 ins 6) (q3 ins 9))⟩
theorem as_l3Inner (ins : List Value) (ht : TypedL (intTs 12 ++ []) ins) (_ : G_l3Inner.pre ins) : F_l3Inner.pre ins ∧ F_l3Inner.out ins = G_l3Inner.out ins := by
  obtain ⟨g, r, rfl, h1, _⟩ := ints_lit 12 0 ht
  obtain rfl := ints0 h1
  rw [List.append_nil]
  simp only [ivs, F_l3Inner, G_l3Inner, tr_l3Inner, Fs_l3Inner, G_sFracTimes, G_sFracAdd, mixQ, q3, fr4, ofTree, okT, okE, evalT, evalE, evsIn, ev, callF, preF, hasF, needs, i0, b0, toI_int, toB_bool, List.getD_cons_zero, List.getD_cons_succ, List.cons_append, List.nil_append, List.replicate, if_true, if_false, Bool.false_eq_true, and_true, true_and, implies_true, forall_const, false_implies, cmpI, Bool.not_true, Bool.not_false, Bool.true_and, Bool.false_and, Bool.and_true, Bool.and_false, reduceIte, List.append_nil, reduceCtorEq]
  cases h1 : timesQ (g 0, g (0 + 1), g (0 + 1 + 1)) (g (0 + 1 + 1 + 1), g (0 + 1 + 1 + 1 + 1), g (0 + 1 + 1 + 1 + 1 + 1)) with
  | none => simp [zq]
  | some x =>
    cases h2 : timesQ (g (0 + 1 + 1 + 1 + 1 + 1 + 1), g (0 + 1 + 1 + 1 + 1 + 1 + 1 + 1), g (0 + 1 + 1 + 1 + 1 + 1 + 1 + 1 + 1)) (g (0 + 1 + 1 + 1 + 1 + 1 + 1 + 1 + 1 + 1), g (0 + 1 + 1 + 1 + 1 + 1 + 1 + 1 + 1 + 1 + 1), g (0 + 1 + 1 + 1 + 1 + 1 + 1 + 1 + 1 + 1 + 1 + 1)) with
    | none => simp [zq]
    | some y => simp
def tr_iMatValid : Tr := ξ32
def Fs_iMatValid : List Fun1 := [G_iFracValid]
def F_iMatValid : Fun1 := ofTree Fs_iMatValid tr_iMatValid
def G_iMatValid : Fun1 := ⟨fun _ => True, fun ins => [.bool (matQ fun k => q3 ins (3 * k))]⟩
theorem out_iMatValid : (fun (g : Nat → Int) => F_iMatValid.out (ivs g 0 12)) = fun g => nestC (fun k => .bool (!validQ (q3 (ivs g 0 12) (3 * k)))) 0 4 := by kernel_rfl
theorem as_iMatValid (ins : List Value) (ht : TypedL (intTs 12 ++ []) ins) (_ : G_iMatValid.pre ins) : F_iMatValid.pre ins ∧ F_iMatValid.out ins = G_iMatValid.out ins := by
  obtain ⟨g, r, rfl, h1, _⟩ := ints_lit 12 0 ht
  obtain rfl := ints0 h1
  rw [List.append_nil]
  refine ⟨okT_free (by intro F hF ins; simp only [Fs_iMatValid, List.mem_singleton] at hF; rw [hF]; trivial) _ _ (by kernel_rfl), (congrFun out_iMatValid g).trans ?_⟩
  exact nestC_eq (fun k => rfl) 4 0
def tr_sMatValid : Tr := ξ32
def Fs_sMatValid : List Fun1 := [G_sFracValid]
def F_sMatValid : Fun1 := ofTree Fs_sMatValid tr_sMatValid
def G_sMatValid : Fun1 := ⟨fun _ => True, fun ins => [.bool (matQ fun k => q3 ins (3 * k))]⟩
theorem out_sMatValid : (fun (g : Nat → Int) => F_sMatValid.out (ivs g 0 12)) = fun g => nestC (fun k => .bool (!validQ (q3 (ivs g 0 12) (3 * k)))) 0 4 := by kernel_rfl
theorem as_sMatValid (ins : List Value) (ht : TypedL (intTs 12 ++ []) ins) (_ : G_sMatValid.pre ins) : F_sMatValid.pre ins ∧ F_sMatValid.out ins = G_sMatValid.out ins := by
  obtain ⟨g, r, rfl, h1, _⟩ := ints_lit 12 0 ht
  obtain rfl := ints0 h1
  rw [List.append_nil]
  refine ⟨okT_free (by intro F hF ins; simp only [Fs_sMatValid, List.mem_singleton] at hF; rw [hF]; trivial) _ _ (by kernel_rfl), (congrFun out_sMatValid g).trans ?_⟩
  exact nestC_eq (fun k => rfl) 4 0
def tr_iFracLess : Tr := (.evs ξ34 (.ite ξ93 ξ39 (.evs [.call 1 [ξ89, (.ar .sub .i64 (.ar .mul .i64 ξ16 ξ22) (.ar .mul .i64 ξ21 ξ14)), (.ar .mul .i64 ξ14 ξ22)] none 4] (.ret [ξ25, ξ26, ξ17, ξ18]))))
def Fs_iFracLess : List Fun1 := [G_iFracValid, G_lowest]
def F_iFracLess : Fun1 := ofTree Fs_iFracLess tr_iFracLess
def G_iFracLess : Fun1 := ⟨fun _ => True, fun ins => fr4 (lessQ (q3 ins 0) (q3 ins 3))⟩
theorem as_iFracLess (ins : List Value) (ht : TypedL [.int .i64, .int .i64, .int .i64, .int .i64, .int .i64, .int .i64] ins) (_ : G_iFracLess.pre ins) : F_iFracLess.pre ins ∧ F_iFracLess.out ins = G_iFracLess.out ins := by
  obtain ⟨a, b, c, x, y, z, rfl, _⟩ := ints6 ht
  simp only [F_iFracLess, G_iFracLess, tr_iFracLess, Fs_iFracLess, G_iFracValid, G_lowest, lessQ, validQ, q3, arI, ofTree, okT, okE, evalT, evalE, evsIn, ev, callF, preF, hasF, needs, i0, b0, toI_int, toB_bool, List.getD_cons_zero, List.getD_cons_succ, List.cons_append, List.nil_append, List.replicate, if_true, if_false, Bool.false_eq_true, and_true, true_and, implies_true, forall_const, false_implies, cmpI, Bool.not_true, Bool.not_false, Bool.true_and, Bool.false_and, Bool.and_true, Bool.and_false, reduceIte, List.append_nil, reduceCtorEq]
  cases h : validI a b c
  · simp [h, fr4, zq]
  · cases k : validI x y z
    · simp [h, k, fr4, zq]
    · obtain ⟨e1, e2, e3, e4, e5, e6, e7, e8, e9, l1, l2⟩ := sum_facts h k
      simp only [h, k, e1, e2, e3, e4, e5, e8, e9, ofTree, okT, okE, evalT, evalE, evsIn, ev, callF, preF, hasF, needs, i0, b0, toI_int, toB_bool, List.getD_cons_zero, List.getD_cons_succ, List.cons_append, List.nil_append, List.replicate, if_true, if_false, Bool.false_eq_true, and_true, true_and, implies_true, forall_const, false_implies, cmpI, Bool.not_true, Bool.not_false, Bool.true_and, Bool.false_and, Bool.and_true, Bool.and_false, reduceIte, List.append_nil, reduceCtorEq]
      simp [fr4, l2]
def tr_iFracMirror : Tr := (.evs ξ78 (.ite (.not ξ15) ξ39 (.ret [ξ20, (.ar .sub .i64 ξ0 ξ16), ξ14, ξ5])))
def Fs_iFracMirror : List Fun1 := [G_iFracValid]
def F_iFracMirror : Fun1 := ofTree Fs_iFracMirror tr_iFracMirror
def G_iFracMirror : Fun1 := ⟨fun _ => True, fun ins => fr4 (mirQ (q3 ins 0))⟩
theorem as_iFracMirror (ins : List Value) (ht : TypedL [.int .i64, .int .i64, .int .i64] ins) (_ : G_iFracMirror.pre ins) : F_iFracMirror.pre ins ∧ F_iFracMirror.out ins = G_iFracMirror.out ins := by
  obtain ⟨a, b, c, rfl, _⟩ := ints3 ht
  simp only [F_iFracMirror, G_iFracMirror, tr_iFracMirror, Fs_iFracMirror, G_iFracValid, mirQ, validQ, q3, arI, ofTree, okT, okE, evalT, evalE, evsIn, ev, callF, preF, hasF, needs, i0, b0, toI_int, toB_bool, List.getD_cons_zero, List.getD_cons_succ, List.cons_append, List.nil_append, List.replicate, if_true, if_false, Bool.false_eq_true, and_true, true_and, implies_true, forall_const, false_implies, cmpI, Bool.not_true, Bool.not_false, Bool.true_and, Bool.false_and, Bool.and_true, Bool.and_false, reduceIte, List.append_nil, reduceCtorEq]
  cases h : validI a b c
  · simp [fr4, zq]
  · obtain ⟨b1, b2, b3⟩ := valid_bounds h
    have e : IntKind.i64.wrap (-b) = -b := wrap_in (by omega)
    simp [fr4, e]
def tr_sFracMirror : Tr := (.evs ξ78 (.ite (.not ξ15) ξ39 (.ret [ξ20, (.ar .sub .i64 ξ0 ξ16), ξ14, ξ5])))
def Fs_sFracMirror : List Fun1 := [G_sFracValid]
def F_sFracMirror : Fun1 := ofTree Fs_sFracMirror tr_sFracMirror
def G_sFracMirror : Fun1 := ⟨fun _ => True, fun ins => fr4 (mirQ (q3 ins 0))⟩
theorem as_sFracMirror (ins : List Value) (ht : TypedL [.int .i64, .int .i64, .int .i64] ins) (_ : G_sFracMirror.pre ins) : F_sFracMirror.pre ins ∧ F_sFracMirror.out ins = G_sFracMirror.out ins := by
  obtain ⟨a, b, c, rfl, _⟩ := ints3 ht
  simp only [F_sFracMirror, G_sFracMirror, tr_sFracMirror, Fs_sFracMirror, G_sFracValid, mirQ, validQ, q3, arI, ofTree, okT, okE, evalT, evalE, evsIn, ev, callF, preF, hasF, needs, i0, b0, toI_int, toB_bool, List.getD_cons_zero, List.getD_cons_succ, List.cons_append, List.nil_append, List.replicate, if_true, if_false, Bool.false_eq_true, and_true, true_and, implies_true, forall_const, false_implies, cmpI, Bool.not_true, Bool.not_false, Bool.true_and, Bool.false_and, Bool.and_true, Bool.and_false, reduceIte, List.append_nil, reduceCtorEq]
  cases h : validI a b c
  · simp [fr4, zq]
  · obtain ⟨b1, b2, b3⟩ := valid_bounds h
    have e : IntKind.i64.wrap (-b) = -b := wrap_in (by omega)
    simp [fr4, e]
def A_sFracMirror : AF := aAny 4
theorem aok_sFracMirror {cb : CodeB} : AOK cb G_sFracMirror A_sFracMirror := aAny_ok (fun _ => trivial) (fun ins => by rfl)
def tr_iFracPower : Tr := (.evs ξ78 (.ite (.not ξ15) ξ39 (.evs [.call 1 [(.ar .add .i64 (.ar .mul .i64 ξ20 ξ20) (.ar .mul .i64 ξ16 ξ16)), ξ0, (.ar .mul .i64 ξ14 ξ14)] none 4] (.ret [ξ21, ξ22, ξ23, ξ24]))))
def Fs_iFracPower : List Fun1 := [G_iFracValid, G_lowest]
def F_iFracPower : Fun1 := ofTree Fs_iFracPower tr_iFracPower
def G_iFracPower : Fun1 := ⟨fun _ => True, fun ins => fr4 (powQ (q3 ins 0))⟩
theorem as_iFracPower (ins : List Value) (ht : TypedL [.int .i64, .int .i64, .int .i64] ins) (_ : G_iFracPower.pre ins) : F_iFracPower.pre ins ∧ F_iFracPower.out ins = G_iFracPower.out ins := by
  obtain ⟨a, b, c, rfl, _⟩ := ints3 ht
  simp only [F_iFracPower, G_iFracPower, tr_iFracPower, Fs_iFracPower, G_iFracValid, G_lowest, powQ, validQ, q3, arI, ofTree, okT, okE, evalT, evalE, evsIn, ev, callF, preF, hasF, needs, i0, b0, toI_int, toB_bool, List.getD_cons_zero, List.getD_cons_succ, List.cons_append, List.nil_append, List.replicate, if_true, if_false, Bool.false_eq_true, and_true, true_and, implies_true, forall_const, false_implies, cmpI, Bool.not_true, Bool.not_false, Bool.true_and, Bool.false_and, Bool.and_true, Bool.and_false, reduceIte, List.append_nil, reduceCtorEq]
  cases h : validI a b c
  · simp [fr4, zq]
  · obtain ⟨b1, b2, b3⟩ := valid_bounds h
    have m1 := mulB b1 b1
    have m2 := mulB b2 b2
    have m3 := denB b3 b3
    have p1 := sq_nonneg a
    have p2 := sq_nonneg b
    have e1 : IntKind.i64.wrap (a * a) = a * a := wrap_in (by omega)
    have e2 : IntKind.i64.wrap (b * b) = b * b := wrap_in (by omega)
    have e3 : IntKind.i64.wrap (c * c) = c * c := wrap_in (by omega)
    have e4 : IntKind.i64.wrap (a * a + b * b) = a * a + b * b := wrap_in (by omega)
    have l : lowOk (a * a + b * b) 0 (c * c) := by unfold lowOk; omega
    simp [fr4, e1, e2, e3, e4, l]
def tr_iHalf : Tr := (.evs [.call 0 ξ9 none 1, .call 0 [ξ49, ξ0, ξ2] (some (.not (.not ξ15))) 1] (.ite (.ite (.ite (.not ξ15) ξ5 (.not ξ21)) ξ5 (.ite ξ1 (.ite ξ5 ξ5 ξ1) ξ1)) ξ39 (.evs [.call 1 [ξ49, ξ0, (.int .i64 4)] none 4] (.ite (.not ξ25) ξ39 (.evs [.call 2 [ξ20, ξ16, ξ14, ξ22, ξ23, ξ24] none 4] (.ret [ξ26, ξ17, ξ18, ξ27]))))))
def Fs_iHalf : List Fun1 := [G_iFracValid, G_lowest, G_iFracTimes]
def F_iHalf : Fun1 := ofTree Fs_iHalf tr_iHalf
def G_iHalf : Fun1 := ⟨fun _ => True, fun ins => fr4 (halfQ (q3 ins 0))⟩
theorem as_iHalf (ins : List Value) (ht : TypedL [.int .i64, .int .i64, .int .i64] ins) (_ : G_iHalf.pre ins) : F_iHalf.pre ins ∧ F_iHalf.out ins = G_iHalf.out ins := by
  obtain ⟨a, b, c, rfl, _⟩ := ints3 ht
  have h2 : validI 2 0 1 = true := by decide
  have h3 : lowI 2 0 4 = some (1, 0, 2) := by decide
  have l : lowOk 2 0 4 := by unfold lowOk; omega
  simp only [F_iHalf, G_iHalf, tr_iHalf, Fs_iHalf, G_iFracValid, G_lowest, G_iFracTimes, halfQ, validQ, q3, fr4, h2, h3, ofTree, okT, okE, evalT, evalE, evsIn, ev, callF, preF, hasF, needs, i0, b0, toI_int, toB_bool, List.getD_cons_zero, List.getD_cons_succ, List.cons_append, List.nil_append, List.replicate, if_true, if_false, Bool.false_eq_true, and_true, true_and, implies_true, forall_const, false_implies, cmpI, Bool.not_true, Bool.not_false, Bool.true_and, Bool.false_and, Bool.and_true, Bool.and_false, reduceIte, List.append_nil, reduceCtorEq]
  cases h : validI a b c
  · have : timesQ (a, b, c) (1, 0, 2) = none := by simp [timesQ, validQ, h]
    simp [this, zq]
  · simp [l]
def tr_whole2 : Tr := (.ret [])
def Fs_whole2 : List Fun1 := []
def F_whole2 : Fun1 := ofTree Fs_whole2 tr_whole2
def tr_less : Tr := ξ52
def Fs_less : List Fun1 := [G_iFracLess, F_keep]
def F_less : Fun1 := ofTree Fs_less tr_less
def G_less : Fun1 := ⟨fun _ => True, fun ins => fr3 (lessQ (q3 ins 0) (q3 ins 3)) ++ [.bool (b0 ins 6 || !(lessQ (q3 ins 0) (q3 ins 3)).isSome)]⟩
theorem as_less (ins : List Value) (ht : TypedL [.int .i64, .int .i64, .int .i64, .int .i64, .int .i64, .int .i64, .bool] ins) (_ : G_less.pre ins) : F_less.pre ins ∧ F_less.out ins = G_less.out ins := by
  obtain ⟨a, r1, rfl, _, ht1⟩ := int_cons ht
  obtain ⟨b, r2, rfl, _, ht2⟩ := int_cons ht1
  obtain ⟨c, r3, rfl, _, ht3⟩ := int_cons ht2
  obtain ⟨x, r4, rfl, _, ht4⟩ := int_cons ht3
  obtain ⟨y, r5, rfl, _, ht5⟩ := int_cons ht4
  obtain ⟨z, r6, rfl, _, ht6⟩ := int_cons ht5
  obtain ⟨t, r7, rfl, ht7⟩ := bool_cons ht6
  obtain rfl := ints0 ht7
  simp only [F_less, G_less, tr_less, Fs_less, G_iFracLess, F_keep, tr_keep, Fs_keep, q3, fr4, fr3, ofTree, okT, okE, evalT, evalE, evsIn, ev, callF, preF, hasF, needs, i0, b0, toI_int, toB_bool, List.getD_cons_zero, List.getD_cons_succ, List.cons_append, List.nil_append, List.replicate, if_true, if_false, Bool.false_eq_true, and_true, true_and, implies_true, forall_const, false_implies, cmpI, Bool.not_true, Bool.not_false, Bool.true_and, Bool.false_and, Bool.and_true, Bool.and_false, reduceIte, List.append_nil, reduceCtorEq]
  cases h : lessQ (a, b, c) (x, y, z) <;> simp [zq]
def tr_mirror : Tr := ξ65
def Fs_mirror : List Fun1 := [G_iFracMirror, F_keep]
def F_mirror : Fun1 := ofTree Fs_mirror tr_mirror
def G_mirror : Fun1 := ⟨fun _ => True, fun ins => fr3 (mirQ (q3 ins 0)) ++ [.bool (b0 ins 3 || !(mirQ (q3 ins 0)).isSome)]⟩
theorem as_mirror (ins : List Value) (ht : TypedL [.int .i64, .int .i64, .int .i64, .bool] ins) (_ : G_mirror.pre ins) : F_mirror.pre ins ∧ F_mirror.out ins = G_mirror.out ins := by
  obtain ⟨a, r1, rfl, _, ht1⟩ := int_cons ht
  obtain ⟨b, r2, rfl, _, ht2⟩ := int_cons ht1
  obtain ⟨c, r3, rfl, _, ht3⟩ := int_cons ht2
  obtain ⟨t, r7, rfl, ht7⟩ := bool_cons ht3
  obtain rfl := ints0 ht7
  simp only [F_mirror, G_mirror, tr_mirror, Fs_mirror, G_iFracMirror, F_keep, tr_keep, Fs_keep, q3, fr4, fr3, ofTree, okT, okE, evalT, evalE, evsIn, ev, callF, preF, hasF, needs, i0, b0, toI_int, toB_bool, List.getD_cons_zero, List.getD_cons_succ, List.cons_append, List.nil_append, List.replicate, if_true, if_false, Bool.false_eq_true, and_true, true_and, implies_true, forall_const, false_implies, cmpI, Bool.not_true, Bool.not_false, Bool.true_and, Bool.false_and, Bool.and_true, Bool.and_false, reduceIte, List.append_nil, reduceCtorEq]
  cases h : mirQ (a, b, c) <;> simp [zq]
def tr_power : Tr := ξ65
def Fs_power : List Fun1 := [G_iFracPower, F_keep]
def F_power : Fun1 := ofTree Fs_power tr_power
def G_power : Fun1 := ⟨fun _ => True, fun ins => fr3 (powQ (q3 ins 0)) ++ [.bool (b0 ins 3 || !(powQ (q3 ins 0)).isSome)]⟩
theorem as_power (ins : List Value) (ht : TypedL [.int .i64, .int .i64, .int .i64, .bool] ins) (_ : G_power.pre ins) : F_power.pre ins ∧ F_power.out ins = G_power.out ins := by
  obtain ⟨a, r1, rfl, _, ht1⟩ := int_cons ht
  obtain ⟨b, r2, rfl, _, ht2⟩ := int_cons ht1
  obtain ⟨c, r3, rfl, _, ht3⟩ := int_cons ht2
  obtain ⟨t, r7, rfl, ht7⟩ := bool_cons ht3
  obtain rfl := ints0 ht7
  simp only [F_power, G_power, tr_power, Fs_power, G_iFracPower, F_keep, tr_keep, Fs_keep, q3, fr4, fr3, ofTree, okT, okE, evalT, evalE, evsIn, ev, callF, preF, hasF, needs, i0, b0, toI_int, toB_bool, List.getD_cons_zero, List.getD_cons_succ, List.cons_append, List.nil_append, List.replicate, if_true, if_false, Bool.false_eq_true, and_true, true_and, implies_true, forall_const, false_implies, cmpI, Bool.not_true, Bool.not_false, Bool.true_and, Bool.false_and, Bool.and_true, Bool.and_false, reduceIte, List.append_nil, reduceCtorEq]
  cases h : powQ (a, b, c) <;> simp [zq]
def tr_overTwo : Tr := ξ65
def Fs_overTwo : List Fun1 := [G_iHalf, F_keep]
def F_overTwo : Fun1 := ofTree Fs_overTwo tr_overTwo
def G_overTwo : Fun1 := ⟨fun _ => True, fun ins => fr3 (halfQ (q3 ins 0)) ++ [.bool (b0 ins 3 || !(halfQ (q3 ins 0)).isSome)]⟩
theorem as_overTwo (ins : List Value) (ht : TypedL [.int .i64, .int .i64, .int .i64, .bool] ins) (_ : G_overTwo.pre ins) : F_overTwo.pre ins ∧ F_overTwo.out ins = G_overTwo.out ins := by
  obtain ⟨a, r1, rfl, _, ht1⟩ := int_cons ht
  obtain ⟨b, r2, rfl, _, ht2⟩ := int_cons ht1
  obtain ⟨c, r3, rfl, _, ht3⟩ := int_cons ht2
  obtain ⟨t, r7, rfl, ht7⟩ := bool_cons ht3
  obtain rfl := ints0 ht7
  simp only [F_overTwo, G_overTwo, tr_overTwo, Fs_overTwo, G_iHalf, F_keep, tr_keep, Fs_keep, q3, fr4, fr3, ofTree, okT, okE, evalT, evalE, evsIn, ev, callF, preF, hasF, needs, i0, b0, toI_int, toB_bool, List.getD_cons_zero, List.getD_cons_succ, List.cons_append, List.nil_append, List.replicate, if_true, if_false, Bool.false_eq_true, and_true, true_and, implies_true, forall_const, false_implies, cmpI, Bool.not_true, Bool.not_false, Bool.true_and, Bool.false_and, Bool.and_true, Bool.and_false, reduceIte, List.append_nil, reduceCtorEq]
  cases h : halfQ (a, b, c) <;> simp [zq]
def tr_real : Tr := (.evs ξ78 (.ite (.not ξ21) (.ret [ξ0, ξ0, ξ0, ξ5]) (.evs [.call 1 [ξ20, ξ0, ξ14] none 4, .call 2 [ξ22, ξ23, ξ24, ξ25, ξ15] none 4] (.ret [ξ26, ξ17, ξ18, ξ27]))))
def Fs_real : List Fun1 := [G_iFracValid, G_lowest, F_keep]
def F_real : Fun1 := ofTree Fs_real tr_real
def G_real : Fun1 := ⟨fun _ => True, fun ins => fr3 (reQ (q3 ins 0)) ++ [.bool (b0 ins 3 || !(reQ (q3 ins 0)).isSome)]⟩
theorem as_real (ins : List Value) (ht : TypedL [.int .i64, .int .i64, .int .i64, .bool] ins) (_ : G_real.pre ins) : F_real.pre ins ∧ F_real.out ins = G_real.out ins := by
  obtain ⟨a, r1, rfl, _, ht1⟩ := int_cons ht
  obtain ⟨b, r2, rfl, _, ht2⟩ := int_cons ht1
  obtain ⟨c, r3, rfl, _, ht3⟩ := int_cons ht2
  obtain ⟨t, r7, rfl, ht7⟩ := bool_cons ht3
  obtain rfl := ints0 ht7
  simp only [F_real, G_real, tr_real, Fs_real, G_iFracValid, G_lowest, F_keep, tr_keep, Fs_keep, reQ, validQ, q3, fr4, fr3, ofTree, okT, okE, evalT, evalE, evsIn, ev, callF, preF, hasF, needs, i0, b0, toI_int, toB_bool, List.getD_cons_zero, List.getD_cons_succ, List.cons_append, List.nil_append, List.replicate, if_true, if_false, Bool.false_eq_true, and_true, true_and, implies_true, forall_const, false_implies, cmpI, Bool.not_true, Bool.not_false, Bool.true_and, Bool.false_and, Bool.and_true, Bool.and_false, reduceIte, List.append_nil, reduceCtorEq]
  cases h : validI a b c
  · simp [zq]
  · obtain ⟨b1, b2, b3⟩ := valid_bounds h
    have l : lowOk a 0 c := by unfold lowOk; omega
    cases k : lowI a 0 c <;> simp [zq, l, k]
def tr_imag : Tr := (.evs ξ78 (.ite (.not ξ21) (.ret [ξ0, ξ0, ξ0, ξ5]) (.evs [.call 1 [ξ16, ξ0, ξ14] none 4, .call 2 [ξ22, ξ23, ξ24, ξ25, ξ15] none 4] (.ret [ξ26, ξ17, ξ18, ξ27]))))
def Fs_imag : List Fun1 := [G_iFracValid, G_lowest, F_keep]
def F_imag : Fun1 := ofTree Fs_imag tr_imag
def G_imag : Fun1 := ⟨fun _ => True, fun ins => fr3 (imQ (q3 ins 0)) ++ [.bool (b0 ins 3 || !(imQ (q3 ins 0)).isSome)]⟩
theorem as_imag (ins : List Value) (ht : TypedL [.int .i64, .int .i64, .int .i64, .bool] ins) (_ : G_imag.pre ins) : F_imag.pre ins ∧ F_imag.out ins = G_imag.out ins := by
  obtain ⟨a, r1, rfl, _, ht1⟩ := int_cons ht
  obtain ⟨b, r2, rfl, _, ht2⟩ := int_cons ht1
  obtain ⟨c, r3, rfl, _, ht3⟩ := int_cons ht2
  obtain ⟨t, r7, rfl, ht7⟩ := bool_cons ht3
  obtain rfl := ints0 ht7
  simp only [F_imag, G_imag, tr_imag, Fs_imag, G_iFracValid, G_lowest, F_keep, tr_keep, Fs_keep, imQ, validQ, q3, fr4, fr3, ofTree, okT, okE, evalT, evalE, evsIn, ev, callF, preF, hasF, needs, i0, b0, toI_int, toB_bool, List.getD_cons_zero, List.getD_cons_succ, List.cons_append, List.nil_append, List.replicate, if_true, if_false, Bool.false_eq_true, and_true, true_and, implies_true, forall_const, false_implies, cmpI, Bool.not_true, Bool.not_false, Bool.true_and, Bool.false_and, Bool.and_true, Bool.and_false, reduceIte, List.append_nil, reduceCtorEq]
  cases h : validI a b c
  · simp [zq]
  · obtain ⟨b1, b2, b3⟩ := valid_bounds h
    have l : lowOk b 0 c := by unfold lowOk; omega
    cases k : lowI b 0 c <;> simp [zq, l, k]
def tr_iPair : Tr := (.evs [.call 0 [ξ15, ξ21, ξ22, ξ23] none 4, .call 1 [ξ20, ξ16, ξ14, ξ24, ξ25, ξ26, ξ17] none 4] (.ret [ξ18, ξ27, ξ42, ξ40]))
def Fs_iPair : List Fun1 := [G_mirror, G_times]
def F_iPair : Fun1 := ofTree Fs_iPair tr_iPair
def G_iPair : Fun1 := ⟨fun _ => True, fun ins => fr3 (pairQ (q3 ins 0) (q3 ins 3)) ++ [.bool (b0 ins 6 || !(pairQ (q3 ins 0) (q3 ins 3)).isSome)]⟩
theorem as_iPair (ins : List Value) (ht : TypedL [.int .i64, .int .i64, .int .i64, .int .i64, .int .i64, .int .i64, .bool] ins) (_ : G_iPair.pre ins) : F_iPair.pre ins ∧ F_iPair.out ins = G_iPair.out ins := by
  obtain ⟨a, r1, rfl, _, ht1⟩ := int_cons ht
  obtain ⟨b, r2, rfl, _, ht2⟩ := int_cons ht1
  obtain ⟨c, r3, rfl, _, ht3⟩ := int_cons ht2
  obtain ⟨x, r4, rfl, _, ht4⟩ := int_cons ht3
  obtain ⟨y, r5, rfl, _, ht5⟩ := int_cons ht4
  obtain ⟨z, r6, rfl, _, ht6⟩ := int_cons ht5
  obtain ⟨t, r7, rfl, ht7⟩ := bool_cons ht6
  obtain rfl := ints0 ht7
  simp only [F_iPair, G_iPair, tr_iPair, Fs_iPair, G_mirror, G_times, pairQ, q3, fr3, ofTree, okT, okE, evalT, evalE, evsIn, ev, callF, preF, hasF, needs, i0, b0, toI_int, toB_bool, List.getD_cons_zero, List.getD_cons_succ, List.cons_append, List.nil_append, List.replicate, if_true, if_false, Bool.false_eq_true, and_true, true_and, implies_true, forall_const, false_implies, cmpI, Bool.not_true, Bool.not_false, Bool.true_and, Bool.false_and, Bool.and_true, Bool.and_false, reduceIte, List.append_nil, reduceCtorEq]
  cases h : mirQ (x, y, z)
  · simp [zq, show timesQ (a, b, c) (0, 0, 0) = none from times_zq' _]
  · simp
def tr_iHalfS : Tr := (.evs [.call 0 [] none 0, .call 1 [ξ20, ξ16, ξ14, ξ15] none 4] (.ret [ξ21, ξ22, ξ23, ξ24]))
def Fs_iHalfS : List Fun1 := [F_whole2, G_overTwo]
def F_iHalfS : Fun1 := ofTree Fs_iHalfS tr_iHalfS
def G_iHalfS : Fun1 := G_overTwo
theorem as_iHalfS (ins : List Value) (ht : TypedL [.int .i64, .int .i64, .int .i64, .bool] ins) (_ : G_iHalfS.pre ins) : F_iHalfS.pre ins ∧ F_iHalfS.out ins = G_iHalfS.out ins := by
  obtain ⟨a, r1, rfl, _, ht1⟩ := int_cons ht
  obtain ⟨b, r2, rfl, _, ht2⟩ := int_cons ht1
  obtain ⟨c, r3, rfl, _, ht3⟩ := int_cons ht2
  obtain ⟨t, r7, rfl, ht7⟩ := bool_cons ht3
  obtain rfl := ints0 ht7
  exact ⟨⟨⟨trivial, trivial, trivial⟩, trivial⟩, rfl⟩
def tr_l2SumP : Tr := (.evs ξ34 (.ite ξ93 ξ39 (.evs [.call 1 [(.ar .add .i64 (.ar .mul .i64 ξ20 ξ22) (.ar .mul .i64 (.ar .mul .i64 ξ2 ξ15) ξ14)), (.ar .add .i64 (.ar .mul .i64 ξ16 ξ22) (.ar .mul .i64 (.ar .mul .i64 ξ2 ξ21) ξ14)), (.ar .mul .i64 ξ14 ξ22)] none 4] (.ret [ξ25, ξ26, ξ17, ξ18]))))
def Fs_l2SumP : List Fun1 := [G_sFracValid, G_l2Low]
def F_l2SumP : Fun1 := ofTree Fs_l2SumP tr_l2SumP
def G_l2SumP : Fun1 := ⟨fun _ => True, fun ins => fr4 (addQ (q3 ins 0) (q3 ins 3))⟩
theorem as_l2SumP (ins : List Value) (ht : TypedL [.int .i64, .int .i64, .int .i64, .int .i64, .int .i64, .int .i64] ins) (_ : G_l2SumP.pre ins) : F_l2SumP.pre ins ∧ F_l2SumP.out ins = G_l2SumP.out ins := by
  obtain ⟨a, b, c, x, y, z, rfl, _⟩ := ints6 ht
  cases h : validI a b c
  · simp only [F_l2SumP, G_l2SumP, tr_l2SumP, Fs_l2SumP, G_sFracValid, G_l2Low, addQ, validQ, q3, arI, h, ofTree, okT, okE, evalT, evalE, evsIn, ev, callF, preF, hasF, needs, i0, b0, toI_int, toB_bool, List.getD_cons_zero, List.getD_cons_succ, List.cons_append, List.nil_append, List.replicate, if_true, if_false, Bool.false_eq_true, and_true, true_and, implies_true, forall_const, false_implies, cmpI, Bool.not_true, Bool.not_false, Bool.true_and, Bool.false_and, Bool.and_true, Bool.and_false, reduceIte, List.append_nil, reduceCtorEq]
    simp [fr4, zq]
  · cases k : validI x y z
    · simp only [F_l2SumP, G_l2SumP, tr_l2SumP, Fs_l2SumP, G_sFracValid, G_l2Low, addQ, validQ, q3, arI, h, k, ofTree, okT, okE, evalT, evalE, evsIn, ev, callF, preF, hasF, needs, i0, b0, toI_int, toB_bool, List.getD_cons_zero, List.getD_cons_succ, List.cons_append, List.nil_append, List.replicate, if_true, if_false, Bool.false_eq_true, and_true, true_and, implies_true, forall_const, false_implies, cmpI, Bool.not_true, Bool.not_false, Bool.true_and, Bool.false_and, Bool.and_true, Bool.and_false, reduceIte, List.append_nil, reduceCtorEq]
      simp [fr4, zq]
    · obtain ⟨e1, e2, e3, e4, e5, e6, e7, e8, e9, l1, l2⟩ := sum_facts h k
      obtain ⟨k1, k2, _⟩ := valid_bounds k
      have u1 : IntKind.i64.wrap (1 * x) = x := by rw [Int.one_mul]; exact wrap_in (by omega)
      have u2 : IntKind.i64.wrap (1 * y) = y := by rw [Int.one_mul]; exact wrap_in (by omega)
      simp only [F_l2SumP, G_l2SumP, tr_l2SumP, Fs_l2SumP, G_sFracValid, G_l2Low, addQ, validQ, q3, arI, h, k, u1, u2, e1, e2, e3, e4, e5, e6, e7, ofTree, okT, okE, evalT, evalE, evsIn, ev, callF, preF, hasF, needs, i0, b0, toI_int, toB_bool, List.getD_cons_zero, List.getD_cons_succ, List.cons_append, List.nil_append, List.replicate, if_true, if_false, Bool.false_eq_true, and_true, true_and, implies_true, forall_const, false_implies, cmpI, Bool.not_true, Bool.not_false, Bool.true_and, Bool.false_and, Bool.and_true, Bool.and_false, reduceIte, List.append_nil, reduceCtorEq]
      simp [fr4, l1]
def tr_l2SumM : Tr := (.evs ξ34 (.ite ξ93 ξ39 (.evs [.call 1 [(.ar .add .i64 (.ar .mul .i64 ξ20 ξ22) (.ar .mul .i64 (.ar .mul .i64 (.int .i64 (-1)) ξ15) ξ14)), (.ar .add .i64 (.ar .mul .i64 ξ16 ξ22) (.ar .mul .i64 (.ar .mul .i64 (.int .i64 (-1)) ξ21) ξ14)), (.ar .mul .i64 ξ14 ξ22)] none 4] (.ret [ξ25, ξ26, ξ17, ξ18]))))
def Fs_l2SumM : List Fun1 := [G_sFracValid, G_l2Low]
def F_l2SumM : Fun1 := ofTree Fs_l2SumM tr_l2SumM
def G_l2SumM : Fun1 := ⟨fun _ => True, fun ins => fr4 (lessQ (q3 ins 0) (q3 ins 3))⟩
theorem as_l2SumM (ins : List Value) (ht : TypedL [.int .i64, .int .i64, .int .i64, .int .i64, .int .i64, .int .i64] ins) (_ : G_l2SumM.pre ins) : F_l2SumM.pre ins ∧ F_l2SumM.out ins = G_l2SumM.out ins := by
  obtain ⟨a, b, c, x, y, z, rfl, _⟩ := ints6 ht
  cases h : validI a b c
  · simp only [F_l2SumM, G_l2SumM, tr_l2SumM, Fs_l2SumM, G_sFracValid, G_l2Low, lessQ, validQ, q3, arI, h, ofTree, okT, okE, evalT, evalE, evsIn, ev, callF, preF, hasF, needs, i0, b0, toI_int, toB_bool, List.getD_cons_zero, List.getD_cons_succ, List.cons_append, List.nil_append, List.replicate, if_true, if_false, Bool.false_eq_true, and_true, true_and, implies_true, forall_const, false_implies, cmpI, Bool.not_true, Bool.not_false, Bool.true_and, Bool.false_and, Bool.and_true, Bool.and_false, reduceIte, List.append_nil, reduceCtorEq]
    simp [fr4, zq]
  · cases k : validI x y z
    · simp only [F_l2SumM, G_l2SumM, tr_l2SumM, Fs_l2SumM, G_sFracValid, G_l2Low, lessQ, validQ, q3, arI, h, k, ofTree, okT, okE, evalT, evalE, evsIn, ev, callF, preF, hasF, needs, i0, b0, toI_int, toB_bool, List.getD_cons_zero, List.getD_cons_succ, List.cons_append, List.nil_append, List.replicate, if_true, if_false, Bool.false_eq_true, and_true, true_and, implies_true, forall_const, false_implies, cmpI, Bool.not_true, Bool.not_false, Bool.true_and, Bool.false_and, Bool.and_true, Bool.and_false, reduceIte, List.append_nil, reduceCtorEq]
      simp [fr4, zq]
    · obtain ⟨e1, e2, e3, e4, e5, e6, e7, e8, e9, l1, l2⟩ := sum_facts h k
      obtain ⟨k1, k2, _⟩ := valid_bounds k
      have u1 : IntKind.i64.wrap (-1 * x) = -x := by rw [Int.neg_one_mul]; exact wrap_in (by omega)
      have u2 : IntKind.i64.wrap (-1 * y) = -y := by rw [Int.neg_one_mul]; exact wrap_in (by omega)
      have m2 := mulB k1 (b := c) (by have := valid_bounds h; omega)
      have m4 := mulB k2 (b := c) (by have := valid_bounds h; omega)
      have v1 : IntKind.i64.wrap (-x * c) = -(x * c) := by rw [Int.neg_mul]; exact wrap_in (by omega)
      have v2 : IntKind.i64.wrap (-y * c) = -(y * c) := by rw [Int.neg_mul]; exact wrap_in (by omega)
      have v3 : IntKind.i64.wrap (a * z + -(x * c)) = a * z - x * c := by rw [← Int.sub_eq_add_neg]; exact e8
      have v4 : IntKind.i64.wrap (b * z + -(y * c)) = b * z - y * c := by rw [← Int.sub_eq_add_neg]; exact e9
      simp only [F_l2SumM, G_l2SumM, tr_l2SumM, Fs_l2SumM, G_sFracValid, G_l2Low, lessQ, validQ, q3, arI, h, k, u1, u2, v1, v2, v3, v4, e1, e3, e5, ofTree, okT, okE, evalT, evalE, evsIn, ev, callF, preF, hasF, needs, i0, b0, toI_int, toB_bool, List.getD_cons_zero, List.getD_cons_succ, List.cons_append, List.nil_append, List.replicate, if_true, if_false, Bool.false_eq_true, and_true, true_and, implies_true, forall_const, false_implies, cmpI, Bool.not_true, Bool.not_false, Bool.true_and, Bool.false_and, Bool.and_true, Bool.and_false, reduceIte, List.append_nil, reduceCtorEq]
      simp [fr4, l2]
def tr_l6tAddP : Tr := (.evs ξ80 (.ret [ξ24, ξ25, ξ26, (.ite ξ23 ξ17 ξ1)]))
def Fs_l6tAddP : List Fun1 := [G_l2SumP]
def F_l6tAddP : Fun1 := ofTree Fs_l6tAddP tr_l6tAddP
def G_l6tAddP : Fun1 := ⟨fun _ => True, fun ins => fr3 (addQ (q3 ins 0) (q3 ins 3)) ++ [.bool (b0 ins 6 && (addQ (q3 ins 0) (q3 ins 3)).isSome)]⟩
theorem as_l6tAddP (ins : List Value) (ht : TypedL [.int .i64, .int .i64, .int .i64, .int .i64, .int .i64, .int .i64, .bool] ins) (_ : G_l6tAddP.pre ins) : F_l6tAddP.pre ins ∧ F_l6tAddP.out ins = G_l6tAddP.out ins := by
  obtain ⟨a, r1, rfl, _, ht1⟩ := int_cons ht
  obtain ⟨b, r2, rfl, _, ht2⟩ := int_cons ht1
  obtain ⟨c, r3, rfl, _, ht3⟩ := int_cons ht2
  obtain ⟨x, r4, rfl, _, ht4⟩ := int_cons ht3
  obtain ⟨y, r5, rfl, _, ht5⟩ := int_cons ht4
  obtain ⟨z, r6, rfl, _, ht6⟩ := int_cons ht5
  obtain ⟨t, r7, rfl, ht7⟩ := bool_cons ht6
  obtain rfl := ints0 ht7
  simp only [F_l6tAddP, G_l6tAddP, tr_l6tAddP, Fs_l6tAddP, G_l2SumP, q3, fr4, fr3, ofTree, okT, okE, evalT, evalE, evsIn, ev, callF, preF, hasF, needs, i0, b0, toI_int, toB_bool, List.getD_cons_zero, List.getD_cons_succ, List.cons_append, List.nil_append, List.replicate, if_true, if_false, Bool.false_eq_true, and_true, true_and, implies_true, forall_const, false_implies, cmpI, Bool.not_true, Bool.not_false, Bool.true_and, Bool.false_and, Bool.and_true, Bool.and_false, reduceIte, List.append_nil, reduceCtorEq]
  cases t <;> simp
def tr_l6tAddM : Tr := (.evs ξ80 (.ret [ξ24, ξ25, ξ26, (.ite ξ23 ξ17 ξ1)]))
def Fs_l6tAddM : List Fun1 := [G_l2SumM]
def F_l6tAddM : Fun1 := ofTree Fs_l6tAddM tr_l6tAddM
def G_l6tAddM : Fun1 := ⟨fun _ => True, fun ins => fr3 (lessQ (q3 ins 0) (q3 ins 3)) ++ [.bool (b0 ins 6 && (lessQ (q3 ins 0) (q3 ins 3)).isSome)]⟩
theorem as_l6tAddM (ins : List Value) (ht : TypedL [.int .i64, .int .i64, .int .i64, .int .i64, .int .i64, .int .i64, .bool] ins) (_ : G_l6tAddM.pre ins) : F_l6tAddM.pre ins ∧ F_l6tAddM.out ins = G_l6tAddM.out ins := by
  obtain ⟨a, r1, rfl, _, ht1⟩ := int_cons ht
  obtain ⟨b, r2, rfl, _, ht2⟩ := int_cons ht1
  obtain ⟨c, r3, rfl, _, ht3⟩ := int_cons ht2
  obtain ⟨x, r4, rfl, _, ht4⟩ := int_cons ht3
  obtain ⟨y, r5, rfl, _, ht5⟩ := int_cons ht4
  obtain ⟨z, r6, rfl, _, ht6⟩ := int_cons ht5
  obtain ⟨t, r7, rfl, ht7⟩ := bool_cons ht6
  obtain rfl := ints0 ht7
  simp only [F_l6tAddM, G_l6tAddM, tr_l6tAddM, Fs_l6tAddM, G_l2SumM, q3, fr4, fr3, ofTree, okT, okE, evalT, evalE, evsIn, ev, callF, preF, hasF, needs, i0, b0, toI_int, toB_bool, List.getD_cons_zero, List.getD_cons_succ, List.cons_append, List.nil_append, List.replicate, if_true, if_false, Bool.false_eq_true, and_true, true_and, implies_true, forall_const, false_implies, cmpI, Bool.not_true, Bool.not_false, Bool.true_and, Bool.false_and, Bool.and_true, Bool.and_false, reduceIte, List.append_nil, reduceCtorEq]
  cases t <;> simp
def tr_l6tPair : Tr := (.evs [.call 0 ξ101 none 4] (.evs [.call 1 [ξ20, ξ16, ξ14, ξ24, ξ25, ξ26] none 4] (.ret [ξ18, ξ27, ξ42, (.ite (.ite ξ23 ξ17 ξ1) ξ40 ξ1)])))
def Fs_l6tPair : List Fun1 := [G_sFracMirror, G_sFracTimes]
def F_l6tPair : Fun1 := ofTree Fs_l6tPair tr_l6tPair
def G_l6tPair : Fun1 := ⟨fun _ => True, fun ins => fr3 (pairQ (q3 ins 0) (q3 ins 3)) ++ [.bool (b0 ins 6 && (pairQ (q3 ins 0) (q3 ins 3)).isSome)]⟩
theorem as_l6tPair (ins : List Value) (ht : TypedL [.int .i64, .int .i64, .int .i64, .int .i64, .int .i64, .int .i64, .bool] ins) (_ : G_l6tPair.pre ins) : F_l6tPair.pre ins ∧ F_l6tPair.out ins = G_l6tPair.out ins := by
  obtain ⟨a, r1, rfl, _, ht1⟩ := int_cons ht
  obtain ⟨b, r2, rfl, _, ht2⟩ := int_cons ht1
  obtain ⟨c, r3, rfl, _, ht3⟩ := int_cons ht2
  obtain ⟨x, r4, rfl, _, ht4⟩ := int_cons ht3
  obtain ⟨y, r5, rfl, _, ht5⟩ := int_cons ht4
  obtain ⟨z, r6, rfl, _, ht6⟩ := int_cons ht5
  obtain ⟨t, r7, rfl, ht7⟩ := bool_cons ht6
  obtain rfl := ints0 ht7
  simp only [F_l6tPair, G_l6tPair, tr_l6tPair, Fs_l6tPair, G_sFracMirror, G_sFracTimes, pairQ, q3, fr3, fr4, ofTree, okT, okE, evalT, evalE, evsIn, ev, callF, preF, hasF, needs, i0, b0, toI_int, toB_bool, List.getD_cons_zero, List.getD_cons_succ, List.cons_append, List.nil_append, List.replicate, if_true, if_false, Bool.false_eq_true, and_true, true_and, implies_true, forall_const, false_implies, cmpI, Bool.not_true, Bool.not_false, Bool.true_and, Bool.false_and, Bool.and_true, Bool.and_false, reduceIte, List.append_nil, reduceCtorEq]
  cases h : mirQ (x, y, z)
  · cases t <;> simp [zq, show timesQ (a, b, c) (0, 0, 0) = none from times_zq' _]
  · cases t <;> simp
def tr_l6tPart20 : Tr := (.evs [.call 0 [ξ20, ξ0, (.ar .mul .i64 (.mx false .i64 ξ2 ξ14) ξ49)] none 4] (.ret [ξ21, ξ22, ξ23, (.ite ξ15 ξ24 ξ1)]))
def Fs_l6tPart20 : List Fun1 := [G_sFracMake]
def F_l6tPart20 : Fun1 := ofTree Fs_l6tPart20 tr_l6tPart20
def G_l6tPart20 : Fun1 := ⟨fun _ => True, fun ins => fr3 (partP (q3 ins 0)) ++ [.bool (b0 ins 3 && (partP (q3 ins 0)).isSome)]⟩
theorem as_l6tPart20 (ins : List Value) (ht : TypedL [.int .i64, .int .i64, .int .i64, .bool] ins) (_ : G_l6tPart20.pre ins) : F_l6tPart20.pre ins ∧ F_l6tPart20.out ins = G_l6tPart20.out ins := by
  obtain ⟨a, r1, rfl, _, ht1⟩ := int_cons ht
  obtain ⟨b, r2, rfl, _, ht2⟩ := int_cons ht1
  obtain ⟨c, r3, rfl, _, ht3⟩ := int_cons ht2
  obtain ⟨t, r7, rfl, ht7⟩ := bool_cons ht3
  obtain rfl := ints0 ht7
  simp only [F_l6tPart20, G_l6tPart20, tr_l6tPart20, Fs_l6tPart20, G_sFracMake, partP, q3, fr4, fr3, arI, ofTree, okT, okE, evalT, evalE, evsIn, ev, callF, preF, hasF, needs, i0, b0, toI_int, toB_bool, List.getD_cons_zero, List.getD_cons_succ, List.cons_append, List.nil_append, List.replicate, if_true, if_false, Bool.false_eq_true, and_true, true_and, implies_true, forall_const, false_implies, cmpI, Bool.not_true, Bool.not_false, Bool.true_and, Bool.false_and, Bool.and_true, Bool.and_false, reduceIte, List.append_nil, reduceCtorEq]
  cases t <;> simp
def tr_l6tPart10 : Tr := (.evs [.call 0 [ξ20, ξ0, (.ar .mul .i64 (.mx false .i64 ξ2 ξ14) ξ2)] none 4] (.ret [ξ21, ξ22, ξ23, (.ite ξ15 ξ24 ξ1)]))
def Fs_l6tPart10 : List Fun1 := [G_sFracMake]
def F_l6tPart10 : Fun1 := ofTree Fs_l6tPart10 tr_l6tPart10
def G_l6tPart10 : Fun1 := ⟨fun _ => True, fun ins => fr3 (partR (q3 ins 0)) ++ [.bool (b0 ins 3 && (partR (q3 ins 0)).isSome)]⟩
theorem as_l6tPart10 (ins : List Value) (ht : TypedL [.int .i64, .int .i64, .int .i64, .bool] ins) (_ : G_l6tPart10.pre ins) : F_l6tPart10.pre ins ∧ F_l6tPart10.out ins = G_l6tPart10.out ins := by
  obtain ⟨a, r1, rfl, _, ht1⟩ := int_cons ht
  obtain ⟨b, r2, rfl, _, ht2⟩ := int_cons ht1
  obtain ⟨c, r3, rfl, _, ht3⟩ := int_cons ht2
  obtain ⟨t, r7, rfl, ht7⟩ := bool_cons ht3
  obtain rfl := ints0 ht7
  simp only [F_l6tPart10, G_l6tPart10, tr_l6tPart10, Fs_l6tPart10, G_sFracMake, partR, q3, fr4, fr3, arI, ofTree, okT, okE, evalT, evalE, evsIn, ev, callF, preF, hasF, needs, i0, b0, toI_int, toB_bool, List.getD_cons_zero, List.getD_cons_succ, List.cons_append, List.nil_append, List.replicate, if_true, if_false, Bool.false_eq_true, and_true, true_and, implies_true, forall_const, false_implies, cmpI, Bool.not_true, Bool.not_false, Bool.true_and, Bool.false_and, Bool.and_true, Bool.and_false, reduceIte, List.append_nil, reduceCtorEq]
  cases t <;> simp
def tr_l6tPart11 : Tr := (.evs [.call 0 [ξ16, ξ0, (.ar .mul .i64 (.mx false .i64 ξ2 ξ14) ξ2)] none 4] (.ret [ξ21, ξ22, ξ23, (.ite ξ15 ξ24 ξ1)]))
def Fs_l6tPart11 : List Fun1 := [G_sFracMake]
def F_l6tPart11 : Fun1 := ofTree Fs_l6tPart11 tr_l6tPart11
def G_l6tPart11 : Fun1 := ⟨fun _ => True, fun ins => fr3 (partI (q3 ins 0)) ++ [.bool (b0 ins 3 && (partI (q3 ins 0)).isSome)]⟩
theorem as_l6tPart11 (ins : List Value) (ht : TypedL [.int .i64, .int .i64, .int .i64, .bool] ins) (_ : G_l6tPart11.pre ins) : F_l6tPart11.pre ins ∧ F_l6tPart11.out ins = G_l6tPart11.out ins := by
  obtain ⟨a, r1, rfl, _, ht1⟩ := int_cons ht
  obtain ⟨b, r2, rfl, _, ht2⟩ := int_cons ht1
  obtain ⟨c, r3, rfl, _, ht3⟩ := int_cons ht2
  obtain ⟨t, r7, rfl, ht7⟩ := bool_cons ht3
  obtain rfl := ints0 ht7
  simp only [F_l6tPart11, G_l6tPart11, tr_l6tPart11, Fs_l6tPart11, G_sFracMake, partI, q3, fr4, fr3, arI, ofTree, okT, okE, evalT, evalE, evsIn, ev, callF, preF, hasF, needs, i0, b0, toI_int, toB_bool, List.getD_cons_zero, List.getD_cons_succ, List.cons_append, List.nil_append, List.replicate, if_true, if_false, Bool.false_eq_true, and_true, true_and, implies_true, forall_const, false_implies, cmpI, Bool.not_true, Bool.not_false, Bool.true_and, Bool.false_and, Bool.and_true, Bool.and_false, reduceIte, List.append_nil, reduceCtorEq]
  cases t <;> simp
def tr_l6tPowersA : Tr := (.evs ξ72 (.evs [.call 0 ξ100 none 4, .call 1 ξ97 none 4] (.evs [.call 0 ξ99 none 4, .call 1 ξ96 none 4] (.evs [.call 0 ξ98 none 4, .call 1 ξ61 none 4] ξ43))))
def Fs_l6tPowersA : List Fun1 := [G_l6tPair, G_l6tAddP, G_l6tAddM, G_l6tPart20]
def F_l6tPowersA : Fun1 := ofTree Fs_l6tPowersA tr_l6tPowersA
def tr_l6tPowersB : Tr := (.evs ξ72 (.evs [.call 0 ξ100 none 4, .call 2 ξ97 none 4] (.evs [.call 0 ξ99 none 4, .call 1 ξ96 none 4] (.evs [.call 0 ξ98 none 4, .call 2 ξ61 none 4] ξ43))))
def Fs_l6tPowersB : List Fun1 := [G_l6tPair, G_l6tAddP, G_l6tAddM, G_l6tPart20]
def F_l6tPowersB : Fun1 := ofTree Fs_l6tPowersB tr_l6tPowersB
def tr_l6tPowersC : Tr := (.evs ξ72 (.evs [.call 0 ξ100 none 4, .call 1 ξ97 none 4] (.evs [.call 0 ξ99 none 4, .call 2 ξ96 none 4] (.evs [.call 0 ξ98 none 4, .call 2 ξ61 none 4] ξ43))))
def Fs_l6tPowersC : List Fun1 := [G_l6tPair, G_l6tAddP, G_l6tAddM, G_l6tPart20]
def F_l6tPowersC : Fun1 := ofTree Fs_l6tPowersC tr_l6tPowersC
def tr_l6tPowersD : Tr := (.evs ξ72 (.evs [.call 0 ξ100 none 4, .call 2 ξ97 none 4] (.evs [.call 0 ξ99 none 4, .call 2 ξ96 none 4] (.evs [.call 0 ξ98 none 4, .call 1 ξ61 none 4] ξ43))))
def Fs_l6tPowersD : List Fun1 := [G_l6tPair, G_l6tAddP, G_l6tAddM, G_l6tPart20]
def F_l6tPowersD : Fun1 := ofTree Fs_l6tPowersD tr_l6tPowersD
def tr_l6tTwo2 : Tr := ξ86
def Fs_l6tTwo2 : List Fun1 := [G_l6tPair, G_l6tAddP, G_l6tPart10]
def F_l6tTwo2 : Fun1 := ofTree Fs_l6tTwo2 tr_l6tTwo2
def tr_l6tTwo3 : Tr := ξ87
def Fs_l6tTwo3 : List Fun1 := [G_l6tPair, G_l6tAddP, G_l6tPart11]
def F_l6tTwo3 : Fun1 := ofTree Fs_l6tTwo3 tr_l6tTwo3
def tr_l6tTwo6 : Tr := ξ86
def Fs_l6tTwo6 : List Fun1 := [G_l6tPair, G_l6tAddM, G_l6tPart10]
def F_l6tTwo6 : Fun1 := ofTree Fs_l6tTwo6 tr_l6tTwo6
def tr_l6tTwo7 : Tr := ξ87
def Fs_l6tTwo7 : List Fun1 := [G_l6tPair, G_l6tAddM, G_l6tPart11]
def F_l6tTwo7 : Fun1 := ofTree Fs_l6tTwo7 tr_l6tTwo7
def tr_l6tTwo8 : Tr := ξ36
def Fs_l6tTwo8 : List Fun1 := [G_l6tPair, G_l6tAddP, G_l6tPart10]
def F_l6tTwo8 : Fun1 := ofTree Fs_l6tTwo8 tr_l6tTwo8
def tr_l6tTwo9 : Tr := ξ36
def Fs_l6tTwo9 : List Fun1 := [G_l6tPair, G_l6tAddM, G_l6tPart10]
def F_l6tTwo9 : Fun1 := ofTree Fs_l6tTwo9 tr_l6tTwo9
def tr_l6tTwo10 : Tr := ξ53
def Fs_l6tTwo10 : List Fun1 := [G_l6tPair, G_l6tAddP, G_l6tPart10]
def F_l6tTwo10 : Fun1 := ofTree Fs_l6tTwo10 tr_l6tTwo10
def tr_l6tTwo11 : Tr := (.evs [.call 0 [ξ15, ξ21, ξ22, ξ23, ξ24, ξ25, ξ27] none 4] (.evs [.call 0 [ξ20, ξ16, ξ14, ξ26, ξ17, ξ18, ξ44] none 4] ξ4))
def Fs_l6tTwo11 : List Fun1 := [G_l6tPair, G_l6tAddM, G_l6tPart11]
def F_l6tTwo11 : Fun1 := ofTree Fs_l6tTwo11 tr_l6tTwo11
def tr_l6tTwo12 : Tr := ξ36
def Fs_l6tTwo12 : List Fun1 := [G_l6tPair, G_l6tAddP, G_l6tPart11]
def F_l6tTwo12 : Fun1 := ofTree Fs_l6tTwo12 tr_l6tTwo12
def tr_l6tTwo13 : Tr := ξ36
def Fs_l6tTwo13 : List Fun1 := [G_l6tPair, G_l6tAddM, G_l6tPart11]
def F_l6tTwo13 : Fun1 := ofTree Fs_l6tTwo13 tr_l6tTwo13
def tr_l6tTwo14 : Tr := ξ53
def Fs_l6tTwo14 : List Fun1 := [G_l6tPair, G_l6tAddP, G_l6tPart11]
def F_l6tTwo14 : Fun1 := ofTree Fs_l6tTwo14 tr_l6tTwo14
def tr_l6tTwo15 : Tr := ξ53
def Fs_l6tTwo15 : List Fun1 := [G_l6tPair, G_l6tAddM, G_l6tPart10]
def F_l6tTwo15 : Fun1 := ofTree Fs_l6tTwo15 tr_l6tTwo15
def tr_iTableOf : Tr := (.evs [.call 0 ξ7 none 1, .call 1 [ξ27, ξ1] none 1] (.evs [.call 2 [ξ20, ξ16, ξ14, ξ42] none 4, .call 2 [ξ15, ξ21, ξ22, ξ45] none 4, .call 2 [ξ23, ξ24, ξ25, ξ64] none 4, .call 2 [ξ26, ξ17, ξ18, ξ74] none 4] (.evs [.call 5 [ξ40, ξ41, ξ44, ξ60, ξ63, ξ58, ξ95] none 4, .call 5 [ξ92, ξ94, ξ79, ξ57, ξ48, ξ55, ξ91] none 4, .call 5 [(.var 34), (.var 35), (.var 36), ξ70, ξ73, ξ66, (.var 37)] none 4, .call 4 [(.var 38), (.var 39), (.var 40), (.var 41)] none 4, .call 6 [ξ40, ξ41, ξ44, ξ60, ξ63, ξ58, (.var 45)] none 4, .call 5 [(.var 46), (.var 47), ξ85, ξ57, ξ48, ξ55, (.var 49)] none 4, .call 6 [(.var 50), (.var 51), (.var 52), ξ70, ξ73, ξ66, (.var 53)] none 4, .call 4 [(.var 54), (.var 55), (.var 56), (.var 57)] none 4, .call 3 [ξ20, ξ16, ξ14, ξ15, ξ21, ξ22, (.var 61)] none 4, .call 3 [ξ23, ξ24, ξ25, ξ26, ξ17, ξ18, (.var 65)] none 4, .call 5 [(.var 62), (.var 63), (.var 64), (.var 66), (.var 67), (.var 68), (.var 69)] none 4, .call 7 [(.var 70), (.var 71), (.var 72), (.var 73)] none 4, .call 3 [ξ15, ξ21, ξ22, ξ20, ξ16, ξ14, (.var 77)] none 4, .call 3 [ξ26, ξ17, ξ18, ξ23, ξ24, ξ25, (.var 81)] none 4, .call 5 [(.var 78), (.var 79), (.var 80), (.var 82), (.var 83), (.var 84), (.var 85)] none 4, .call 8 [(.var 86), (.var 87), (.var 88), (.var 89)] none 4, .call 5 [ξ40, ξ41, ξ44, ξ60, ξ63, ξ58, (.var 93)] none 4, .call 6 [(.var 94), (.var 95), (.var 96), ξ57, ξ48, ξ55, (.var 97)] none 4, .call 6 [(.var 98), (.var 99), (.var 100), ξ70, ξ73, ξ66, (.var 101)] none 4, .call 4 [(.var 102), (.var 103), (.var 104), (.var 105)] none 4, .call 6 [ξ40, ξ41, ξ44, ξ60, ξ63, ξ58, (.var 109)] none 4, .call 6 [(.var 110), (.var 111), (.var 112), ξ57, ξ48, ξ55, (.var 113)] none 4, .call 5 [(.var 114), (.var 115), (.var 116), ξ70, ξ73, ξ66, (.var 117)] none 4, .call 4 [(.var 118), (.var 119), (.var 120), (.var 121)] none 4, .call 3 [ξ20, ξ16, ξ14, ξ15, ξ21, ξ22, (.var 125)] none 4, .call 3 [ξ23, ξ24, ξ25, ξ26, ξ17, ξ18, (.var 129)] none 4, .call 6 [(.var 126), (.var 127), (.var 128), (.var 130), (.var 131), (.var 132), (.var 133)] none 4, .call 7 [(.var 134), (.var 135), (.var 136), (.var 137)] none 4, .call 3 [ξ15, ξ21, ξ22, ξ20, ξ16, ξ14, (.var 141)] none 4, .call 3 [ξ26, ξ17, ξ18, ξ23, ξ24, ξ25, (.var 145)] none 4, .call 6 [(.var 142), (.var 143), (.var 144), (.var 146), (.var 147), (.var 148), (.var 149)] none 4, .call 8 [(.var 150), (.var 151), (.var 152), (.var 153)] none 4, .call 3 [ξ20, ξ16, ξ14, ξ23, ξ24, ξ25, (.var 157)] none 4, .call 3 [ξ15, ξ21, ξ22, ξ26, ξ17, ξ18, (.var 161)] none 4, .call 5 [(.var 158), (.var 159), (.var 160), (.var 162), (.var 163), (.var 164), (.var 165)] none 4, .call 7 [(.var 166), (.var 167), (.var 168), (.var 169)] none 4, .call 3 [ξ20, ξ16, ξ14, ξ23, ξ24, ξ25, (.var 173)] none 4, .call 3 [ξ15, ξ21, ξ22, ξ26, ξ17, ξ18, (.var 177)] none 4, .call 6 [(.var 174), (.var 175), (.var 176), (.var 178), (.var 179), (.var 180), (.var 181)] none 4, .call 7 [(.var 182), (.var 183), (.var 184), (.var 185)] none 4, .call 3 [ξ20, ξ16, ξ14, ξ26, ξ17, ξ18, (.var 189)] none 4, .call 3 [ξ15, ξ21, ξ22, ξ23, ξ24, ξ25, (.var 193)] none 4, .call 5 [(.var 190), (.var 191), (.var 192), (.var 194), (.var 195), (.var 196), (.var 197)] none 4, .call 7 [(.var 198), (.var 199), (.var 200), (.var 201)] none 4, .call 3 [ξ15, ξ21, ξ22, ξ23, ξ24, ξ25, (.var 205)] none 4, .call 3 [ξ20, ξ16, ξ14, ξ26, ξ17, ξ18, (.var 209)] none 4, .call 6 [(.var 206), (.var 207), (.var 208), (.var 210), (.var 211), (.var 212), (.var 213)] none 4, .call 8 [(.var 214), (.var 215), (.var 216), (.var 217)] none 4, .call 3 [ξ20, ξ16, ξ14, ξ23, ξ24, ξ25, (.var 221)] none 4, .call 3 [ξ15, ξ21, ξ22, ξ26, ξ17, ξ18, (.var 225)] none 4, .call 5 [(.var 222), (.var 223), (.var 224), (.var 226), (.var 227), (.var 228), (.var 229)] none 4, .call 8 [(.var 230), (.var 231), (.var 232), (.var 233)] none 4, .call 3 [ξ20, ξ16, ξ14, ξ23, ξ24, ξ25, (.var 237)] none 4, .call 3 [ξ15, ξ21, ξ22, ξ26, ξ17, ξ18, (.var 241)] none 4, .call 6 [(.var 238), (.var 239), (.var 240), (.var 242), (.var 243), (.var 244), (.var 245)] none 4, .call 8 [(.var 246), (.var 247), (.var 248), (.var 249)] none 4, .call 3 [ξ20, ξ16, ξ14, ξ26, ξ17, ξ18, (.var 253)] none 4, .call 3 [ξ15, ξ21, ξ22, ξ23, ξ24, ξ25, (.var 257)] none 4, .call 5 [(.var 254), (.var 255), (.var 256), (.var 258), (.var 259), (.var 260), (.var 261)] none 4, .call 8 [(.var 262), (.var 263), (.var 264), (.var 265)] none 4, .call 3 [ξ20, ξ16, ξ14, ξ26, ξ17, ξ18, (.var 269)] none 4, .call 3 [ξ15, ξ21, ξ22, ξ23, ξ24, ξ25, (.var 273)] none 4, .call 6 [(.var 270), (.var 271), (.var 272), (.var 274), (.var 275), (.var 276), (.var 277)] none 4, .call 7 [(.var 278), (.var 279), (.var 280), (.var 281)] none 4] (.evs [.call 9 [(.var 42), (.var 43), (.var 44), (.var 58), (.var 59), (.var 60), (.var 74), (.var 75), (.var 76), (.var 90), (.var 91), (.var 92), (.var 106), (.var 107), (.var 108), (.var 122), (.var 123), (.var 124), (.var 138), (.var 139), (.var 140), (.var 154), (.var 155), (.var 156), (.var 170), (.var 171), (.var 172), (.var 186), (.var 187), (.var 188), (.var 202), (.var 203), (.var 204), (.var 218), (.var 219), (.var 220), (.var 234), (.var 235), (.var 236), (.var 250), (.var 251), (.var 252), (.var 266), (.var 267), (.var 268), (.var 282), (.var 283), (.var 284), (.var 285)] none 50] (.ret [(.var 286), (.var 287), (.var 288), (.var 289), (.var 290), (.var 291), (.var 292), (.var 293), (.var 294), (.var 295), (.var 296), (.var 297), (.var 298), (.var 299), (.var 300), (.var 301), (.var 302), (.var 303), (.var 304), (.var 305), (.var 306), (.var 307), (.var 308), (.var 309), (.var 310), (.var 311), (.var 312), (.var 313), (.var 314), (.var 315), (.var 316), (.var 317), (.var 318), (.var 319), (.var 320), (.var 321), (.var 322), (.var 323), (.var 324), (.var 325), (.var 326), (.var 327), (.var 328), (.var 329), (.var 330), (.var 331), (.var 332), (.var 333), (.var 334)])))))
def Fs_iTableOf : List Fun1 := [G_iMatValid, G_need, G_power, G_iPair, G_iHalfS, G_add, G_less, G_real, G_imag, G_gotTable]
def F_iTableOf : Fun1 := ofTree Fs_iTableOf tr_iTableOf
def G_iTableOf : Fun1 := ⟨fun _ => True, fun ins => nttW 16 (matQ fun k => q3 ins (3 * k)) (toD fun k => q3 ins (3 * k))⟩
theorem out_iTableOf : (fun (g : Nat → Int) => F_iTableOf.out (ivs g 0 12)) = fun g =>
    gotL (tofI fun k => q3 (ivs g 0 12) (3 * k)).2 (tofI fun k => q3 (ivs g 0 12) (3 * k)).1 ++ [.bool (!(tofI fun k => q3 (ivs g 0 12) (3 * k)).2)] := by kernel_rfl
theorem as_iTableOf (ins : List Value) (ht : TypedL (intTs 12 ++ []) ins) (_ : G_iTableOf.pre ins) : F_iTableOf.pre ins ∧ F_iTableOf.out ins = G_iTableOf.out ins := by
  obtain ⟨g, r, rfl, h1, _⟩ := ints_lit 12 0 ht
  obtain rfl := ints0 h1
  rw [List.append_nil]
  refine ⟨okT_free (by intro F hF ins; simp only [Fs_iTableOf, List.mem_cons, List.not_mem_nil, or_false] at hF; rcases hF with rfl | rfl | rfl | rfl | rfl | rfl | rfl | rfl | rfl | rfl <;> trivial) _ _ (by kernel_rfl), (congrFun out_iTableOf g).trans ?_⟩
  exact (tofI_eq _).trans (nttV_eq _ _ _)
def tr_sTableOf : Tr := (.evs [.call 0 ξ7 none 1] (.ite (.not ξ27) ξ13 (.evs [.call 1 [ξ20, ξ16, ξ14, ξ15, ξ21, ξ22, ξ23, ξ24, ξ25, ξ26, ξ17, ξ18, ξ27] none 4] (.evs [.call 2 [ξ20, ξ16, ξ14, ξ15, ξ21, ξ22, ξ23, ξ24, ξ25, ξ26, ξ17, ξ18, ξ44] none 4] (.evs [.call 5 [ξ20, ξ16, ξ14, ξ15, ξ21, ξ22, ξ23, ξ24, ξ25, ξ26, ξ17, ξ18, ξ58] none 4] (.evs [.call 6 [ξ20, ξ16, ξ14, ξ15, ξ21, ξ22, ξ23, ξ24, ξ25, ξ26, ξ17, ξ18, ξ55] none 4] (.evs [.call 3 [ξ20, ξ16, ξ14, ξ15, ξ21, ξ22, ξ23, ξ24, ξ25, ξ26, ξ17, ξ18, ξ66] none 4] (.evs [.call 4 [ξ20, ξ16, ξ14, ξ15, ξ21, ξ22, ξ23, ξ24, ξ25, ξ26, ξ17, ξ18, ξ79] none 4] (.evs [.call 7 [ξ20, ξ16, ξ14, ξ15, ξ21, ξ22, ξ23, ξ24, ξ25, ξ26, ξ17, ξ18, (.var 36)] none 4] (.evs [.call 8 [ξ20, ξ16, ξ14, ξ15, ξ21, ξ22, ξ23, ξ24, ξ25, ξ26, ξ17, ξ18, (.var 40)] none 4] (.evs [.call 9 [ξ20, ξ16, ξ14, ξ15, ξ21, ξ22, ξ23, ξ24, ξ25, ξ26, ξ17, ξ18, (.var 44)] none 4] (.evs [.call 10 [ξ20, ξ16, ξ14, ξ15, ξ21, ξ22, ξ23, ξ24, ξ25, ξ26, ξ17, ξ18, ξ85] none 4] (.evs [.call 11 [ξ20, ξ16, ξ14, ξ15, ξ21, ξ22, ξ23, ξ24, ξ25, ξ26, ξ17, ξ18, (.var 52)] none 4] (.evs [.call 12 [ξ20, ξ16, ξ14, ξ15, ξ21, ξ22, ξ23, ξ24, ξ25, ξ26, ξ17, ξ18, (.var 56)] none 4] (.evs [.call 13 [ξ20, ξ16, ξ14, ξ15, ξ21, ξ22, ξ23, ξ24, ξ25, ξ26, ξ17, ξ18, (.var 60)] none 4] (.evs [.call 14 [ξ20, ξ16, ξ14, ξ15, ξ21, ξ22, ξ23, ξ24, ξ25, ξ26, ξ17, ξ18, (.var 64)] none 4] (.evs [.call 15 [ξ20, ξ16, ξ14, ξ15, ξ21, ξ22, ξ23, ξ24, ξ25, ξ26, ξ17, ξ18, (.var 68)] none 4] (.evs [.call 16 [ξ20, ξ16, ξ14, ξ15, ξ21, ξ22, ξ23, ξ24, ξ25, ξ26, ξ17, ξ18, (.var 72)] none 4] (.ite (.not (.var 76)) ξ13 (.ret [ξ42, ξ40, ξ41, ξ45, ξ60, ξ63, ξ64, ξ57, ξ48, ξ74, ξ70, ξ73, ξ95, ξ92, ξ94, ξ91, (.var 34), (.var 35), (.var 37), (.var 38), (.var 39), (.var 41), (.var 42), (.var 43), (.var 45), (.var 46), (.var 47), (.var 49), (.var 50), (.var 51), (.var 53), (.var 54), (.var 55), (.var 57), (.var 58), (.var 59), (.var 61), (.var 62), (.var 63), (.var 65), (.var 66), (.var 67), (.var 69), (.var 70), (.var 71), (.var 73), (.var 74), (.var 75), ξ5]))))))))))))))))))))
def Fs_sTableOf : List Fun1 := [G_sMatValid, F_l6tPowersA, F_l6tPowersB, F_l6tPowersC, F_l6tPowersD, F_l6tTwo2, F_l6tTwo3, F_l6tTwo6, F_l6tTwo7, F_l6tTwo8, F_l6tTwo9, F_l6tTwo10, F_l6tTwo11, F_l6tTwo12, F_l6tTwo13, F_l6tTwo14, F_l6tTwo15]
def F_sTableOf : Fun1 := ofTree Fs_sTableOf tr_sTableOf
theorem pre_l6tPowersA (ins : List Value) : F_l6tPowersA.pre ins := okT_free (by intro F hF ins; simp only [Fs_l6tPowersA, List.mem_cons, List.not_mem_nil, or_false] at hF; rcases hF with rfl | rfl | rfl | rfl <;> trivial) _ _ (by kernel_rfl)
theorem pre_l6tPowersB (ins : List Value) : F_l6tPowersB.pre ins := okT_free (by intro F hF ins; simp only [Fs_l6tPowersB, List.mem_cons, List.not_mem_nil, or_false] at hF; rcases hF with rfl | rfl | rfl | rfl <;> trivial) _ _ (by kernel_rfl)
theorem pre_l6tPowersC (ins : List Value) : F_l6tPowersC.pre ins := okT_free (by intro F hF ins; simp only [Fs_l6tPowersC, List.mem_cons, List.not_mem_nil, or_false] at hF; rcases hF with rfl | rfl | rfl | rfl <;> trivial) _ _ (by kernel_rfl)
theorem pre_l6tPowersD (ins : List Value) : F_l6tPowersD.pre ins := okT_free (by intro F hF ins; simp only [Fs_l6tPowersD, List.mem_cons, List.not_mem_nil, or_false] at hF; rcases hF with rfl | rfl | rfl | rfl <;> trivial) _ _ (by kernel_rfl)
theorem pre_l6tTwo2 (ins : List Value) : F_l6tTwo2.pre ins := okT_free (by intro F hF ins; simp only [Fs_l6tTwo2, List.mem_cons, List.not_mem_nil, or_false] at hF; rcases hF with rfl | rfl | rfl <;> trivial) _ _ (by kernel_rfl)
theorem pre_l6tTwo3 (ins : List Value) : F_l6tTwo3.pre ins := okT_free (by intro F hF ins; simp only [Fs_l6tTwo3, List.mem_cons, List.not_mem_nil, or_false] at hF; rcases hF with rfl | rfl | rfl <;> trivial) _ _ (by kernel_rfl)
theorem pre_l6tTwo6 (ins : List Value) : F_l6tTwo6.pre ins := okT_free (by intro F hF ins; simp only [Fs_l6tTwo6, List.mem_cons, List.not_mem_nil, or_false] at hF; rcases hF with rfl | rfl | rfl <;> trivial) _ _ (by kernel_rfl)
theorem pre_l6tTwo7 (ins : List Value) : F_l6tTwo7.pre ins := okT_free (by intro F hF ins; simp only [Fs_l6tTwo7, List.mem_cons, List.not_mem_nil, or_false] at hF; rcases hF with rfl | rfl | rfl <;> trivial) _ _ (by kernel_rfl)
theorem pre_l6tTwo8 (ins : List Value) : F_l6tTwo8.pre ins := okT_free (by intro F hF ins; simp only [Fs_l6tTwo8, List.mem_cons, List.not_mem_nil, or_false] at hF; rcases hF with rfl | rfl | rfl <;> trivial) _ _ (by kernel_rfl)
theorem pre_l6tTwo9 (ins : List Value) : F_l6tTwo9.pre ins := okT_free (by intro F hF ins; simp only [Fs_l6tTwo9, List.mem_cons, List.not_mem_nil, or_false] at hF; rcases hF with rfl | rfl | rfl <;> trivial) _ _ (by kernel_rfl)
theorem pre_l6tTwo10 (ins : List Value) : F_l6tTwo10.pre ins := okT_free (by intro F hF ins; simp only [Fs_l6tTwo10, List.mem_cons, List.not_mem_nil, or_false] at hF; rcases hF with rfl | rfl | rfl <;> trivial) _ _ (by kernel_rfl)
theorem pre_l6tTwo11 (ins : List Value) : F_l6tTwo11.pre ins := okT_free (by intro F hF ins; simp only [Fs_l6tTwo11, List.mem_cons, List.not_mem_nil, or_false] at hF; rcases hF with rfl | rfl | rfl <;> trivial) _ _ (by kernel_rfl)
theorem pre_l6tTwo12 (ins : List Value) : F_l6tTwo12.pre ins := okT_free (by intro F hF ins; simp only [Fs_l6tTwo12, List.mem_cons, List.not_mem_nil, or_false] at hF; rcases hF with rfl | rfl | rfl <;> trivial) _ _ (by kernel_rfl)
theorem pre_l6tTwo13 (ins : List Value) : F_l6tTwo13.pre ins := okT_free (by intro F hF ins; simp only [Fs_l6tTwo13, List.mem_cons, List.not_mem_nil, or_false] at hF; rcases hF with rfl | rfl | rfl <;> trivial) _ _ (by kernel_rfl)
theorem pre_l6tTwo14 (ins : List Value) : F_l6tTwo14.pre ins := okT_free (by intro F hF ins; simp only [Fs_l6tTwo14, List.mem_cons, List.not_mem_nil, or_false] at hF; rcases hF with rfl | rfl | rfl <;> trivial) _ _ (by kernel_rfl)
theorem pre_l6tTwo15 (ins : List Value) : F_l6tTwo15.pre ins := okT_free (by intro F hF ins; simp only [Fs_l6tTwo15, List.mem_cons, List.not_mem_nil, or_false] at hF; rcases hF with rfl | rfl | rfl <;> trivial) _ _ (by kernel_rfl)
def G_sTableOf : Fun1 := ⟨fun _ => True, fun ins => nttW 16 (matQ fun k => q3 ins (3 * k)) (toD fun k => q3 ins (3 * k))⟩
theorem out_sTableOf : (fun (g : Nat → Int) => F_sTableOf.out (ivs g 0 12)) = fun g =>
    if toB (.bool (!matQ fun k => q3 (ivs g 0 12) (3 * k))) = true then zeros 48 ++ [.bool false] else nfinS 16 (tofS fun k => q3 (ivs g 0 12) (3 * k)).2 (tofS fun k => q3 (ivs g 0 12) (3 * k)).1 := by kernel_rfl
theorem as_sTableOf (ins : List Value) (ht : TypedL (intTs 12 ++ []) ins) (_ : G_sTableOf.pre ins) : F_sTableOf.pre ins ∧ F_sTableOf.out ins = G_sTableOf.out ins := by
  obtain ⟨g, r, rfl, h1, _⟩ := ints_lit 12 0 ht
  obtain rfl := ints0 h1
  rw [List.append_nil]
  have hF : Free Fs_sTableOf [true, true, true, true, true, true, true, true, true, true, true, true, true, true, true, true, true] :=
    .yes (fun _ => trivial) (.yes pre_l6tPowersA (.yes pre_l6tPowersB (.yes pre_l6tPowersC (.yes pre_l6tPowersD (.yes pre_l6tTwo2 (.yes pre_l6tTwo3 (.yes pre_l6tTwo6 (.yes pre_l6tTwo7 (.yes pre_l6tTwo8 (.yes pre_l6tTwo9 (.yes pre_l6tTwo10 (.yes pre_l6tTwo11 (.yes pre_l6tTwo12 (.yes pre_l6tTwo13 (.yes pre_l6tTwo14 (.yes pre_l6tTwo15 .nil))))))))))))))))
  refine ⟨okT_mask hF _ _ (by kernel_rfl), (congrFun out_sTableOf g).trans ?_⟩
  exact (tofS_eq _).trans (nttV_eq _ _ _)
def tr_mcell00 : Tr := (.evs [.call 0 [ξ20, ξ16, ξ14, ξ27, ξ42, ξ40, ξ55] none 4, .call 0 [ξ15, ξ21, ξ22, ξ60, ξ63, ξ58, ξ66] none 4, .call 1 ξ62 none 4] ξ30)
def Fs_mcell00 : List Fun1 := [G_times, G_add]
def F_mcell00 : Fun1 := ofTree Fs_mcell00 tr_mcell00
def G_mcell00 : Fun1 := ⟨fun _ => True, fun ins => fl3 [(mixI (b0 ins 24) (q3 ins 0) (q3 ins 12) (q3 ins 3) (q3 ins 18)).1] ++ (copyV ins 0 24 ++ [.bool (mixI (b0 ins 24) (q3 ins 0) (q3 ins 12) (q3 ins 3) (q3 ins 18)).2])⟩
theorem out_mcell00 : (fun (g : Nat → Int) (s : Bool) => F_mcell00.out (ivs g 0 24 ++ [.bool s])) = fun g s => G_mcell00.out (ivs g 0 24 ++ [.bool s]) := by kernel_rfl
theorem as_mcell00 (ins : List Value) (ht : TypedL (intTs 24 ++ [.bool]) ins) (_ : G_mcell00.pre ins) : F_mcell00.pre ins ∧ F_mcell00.out ins = G_mcell00.out ins := by
  obtain ⟨g, r, rfl, h1, _⟩ := ints_lit 24 0 ht
  obtain ⟨s, r2, rfl, h2⟩ := bool_cons h1
  obtain rfl := ints0 h2
  exact ⟨okT_free (by intro F hF ins; simp only [Fs_mcell00, List.mem_cons, List.not_mem_nil, or_false] at hF; rcases hF with rfl | rfl <;> trivial) _ _ (by kernel_rfl), congrFun (congrFun out_mcell00 g) s⟩
def tr_mcell01 : Tr := (.evs [.call 0 [ξ20, ξ16, ξ14, ξ41, ξ44, ξ45, ξ55] none 4, .call 0 [ξ15, ξ21, ξ22, ξ64, ξ57, ξ48, ξ66] none 4, .call 1 ξ62 none 4] ξ30)
def Fs_mcell01 : List Fun1 := [G_times, G_add]
def F_mcell01 : Fun1 := ofTree Fs_mcell01 tr_mcell01
def G_mcell01 : Fun1 := ⟨fun _ => True, fun ins => fl3 [(mixI (b0 ins 24) (q3 ins 0) (q3 ins 15) (q3 ins 3) (q3 ins 21)).1] ++ (copyV ins 0 24 ++ [.bool (mixI (b0 ins 24) (q3 ins 0) (q3 ins 15) (q3 ins 3) (q3 ins 21)).2])⟩
theorem out_mcell01 : (fun (g : Nat → Int) (s : Bool) => F_mcell01.out (ivs g 0 24 ++ [.bool s])) = fun g s => G_mcell01.out (ivs g 0 24 ++ [.bool s]) := by kernel_rfl
theorem as_mcell01 (ins : List Value) (ht : TypedL (intTs 24 ++ [.bool]) ins) (_ : G_mcell01.pre ins) : F_mcell01.pre ins ∧ F_mcell01.out ins = G_mcell01.out ins := by
  obtain ⟨g, r, rfl, h1, _⟩ := ints_lit 24 0 ht
  obtain ⟨s, r2, rfl, h2⟩ := bool_cons h1
  obtain rfl := ints0 h2
  exact ⟨okT_free (by intro F hF ins; simp only [Fs_mcell01, List.mem_cons, List.not_mem_nil, or_false] at hF; rcases hF with rfl | rfl <;> trivial) _ _ (by kernel_rfl), congrFun (congrFun out_mcell01 g) s⟩
def tr_mcell10 : Tr := (.evs [.call 0 [ξ23, ξ24, ξ25, ξ27, ξ42, ξ40, ξ55] none 4, .call 0 [ξ26, ξ17, ξ18, ξ60, ξ63, ξ58, ξ66] none 4, .call 1 ξ62 none 4] ξ30)
def Fs_mcell10 : List Fun1 := [G_times, G_add]
def F_mcell10 : Fun1 := ofTree Fs_mcell10 tr_mcell10
def G_mcell10 : Fun1 := ⟨fun _ => True, fun ins => fl3 [(mixI (b0 ins 24) (q3 ins 6) (q3 ins 12) (q3 ins 9) (q3 ins 18)).1] ++ (copyV ins 0 24 ++ [.bool (mixI (b0 ins 24) (q3 ins 6) (q3 ins 12) (q3 ins 9) (q3 ins 18)).2])⟩
theorem out_mcell10 : (fun (g : Nat → Int) (s : Bool) => F_mcell10.out (ivs g 0 24 ++ [.bool s])) = fun g s => G_mcell10.out (ivs g 0 24 ++ [.bool s]) := by kernel_rfl
theorem as_mcell10 (ins : List Value) (ht : TypedL (intTs 24 ++ [.bool]) ins) (_ : G_mcell10.pre ins) : F_mcell10.pre ins ∧ F_mcell10.out ins = G_mcell10.out ins := by
  obtain ⟨g, r, rfl, h1, _⟩ := ints_lit 24 0 ht
  obtain ⟨s, r2, rfl, h2⟩ := bool_cons h1
  obtain rfl := ints0 h2
  exact ⟨okT_free (by intro F hF ins; simp only [Fs_mcell10, List.mem_cons, List.not_mem_nil, or_false] at hF; rcases hF with rfl | rfl <;> trivial) _ _ (by kernel_rfl), congrFun (congrFun out_mcell10 g) s⟩
def tr_mcell11 : Tr := (.evs [.call 0 [ξ23, ξ24, ξ25, ξ41, ξ44, ξ45, ξ55] none 4, .call 0 [ξ26, ξ17, ξ18, ξ64, ξ57, ξ48, ξ66] none 4, .call 1 ξ62 none 4] ξ30)
def Fs_mcell11 : List Fun1 := [G_times, G_add]
def F_mcell11 : Fun1 := ofTree Fs_mcell11 tr_mcell11
def G_mcell11 : Fun1 := ⟨fun _ => True, fun ins => fl3 [(mixI (b0 ins 24) (q3 ins 6) (q3 ins 15) (q3 ins 9) (q3 ins 21)).1] ++ (copyV ins 0 24 ++ [.bool (mixI (b0 ins 24) (q3 ins 6) (q3 ins 15) (q3 ins 9) (q3 ins 21)).2])⟩
theorem out_mcell11 : (fun (g : Nat → Int) (s : Bool) => F_mcell11.out (ivs g 0 24 ++ [.bool s])) = fun g s => G_mcell11.out (ivs g 0 24 ++ [.bool s]) := by kernel_rfl
theorem as_mcell11 (ins : List Value) (ht : TypedL (intTs 24 ++ [.bool]) ins) (_ : G_mcell11.pre ins) : F_mcell11.pre ins ∧ F_mcell11.out ins = G_mcell11.out ins := by
  obtain ⟨g, r, rfl, h1, _⟩ := ints_lit 24 0 ht
  obtain ⟨s, r2, rfl, h2⟩ := bool_cons h1
  obtain rfl := ints0 h2
  exact ⟨okT_free (by intro F hF ins; simp only [Fs_mcell11, List.mem_cons, List.not_mem_nil, or_false] at hF; rcases hF with rfl | rfl <;> trivial) _ _ (by kernel_rfl), congrFun (congrFun out_mcell11 g) s⟩
def tr_gotMat : Tr := ξ67
def Fs_gotMat : List Fun1 := []
def F_gotMat : Fun1 := ofTree Fs_gotMat tr_gotMat
def G_gotMat : Fun1 := ⟨fun _ => True, fun ins => gotV (b0 ins 12) ins 0 12 ++ [.bool (!b0 ins 12), .bool (b0 ins 12)]⟩
theorem out_gotMat : (fun (g : Nat → Int) => F_gotMat.out (ivs g 0 12 ++ [.bool true])) = fun g => G_gotMat.out (ivs g 0 12 ++ [.bool true]) := by kernel_rfl
theorem out_gotMat' : (fun (g : Nat → Int) => F_gotMat.out (ivs g 0 12 ++ [.bool false])) = fun g => G_gotMat.out (ivs g 0 12 ++ [.bool false]) := by kernel_rfl
theorem as_gotMat (ins : List Value) (ht : TypedL (intTs 12 ++ [.bool]) ins) (_ : G_gotMat.pre ins) : F_gotMat.pre ins ∧ F_gotMat.out ins = G_gotMat.out ins := by
  obtain ⟨g, r, rfl, h1, _⟩ := ints_lit 12 0 ht
  obtain ⟨b, r2, rfl, h2⟩ := bool_cons h1
  obtain rfl := ints0 h2
  cases b
  · exact ⟨trivial, congrFun out_gotMat' g⟩
  · exact ⟨trivial, congrFun out_gotMat g⟩
def tr_iMatTimes : Tr := (.evs [.call 0 ξ7 none 1, .call 0 ξ38 (some ξ55) 1, .call 1 [(.ite ξ55 ξ74 ξ1), ξ1] none 1] (.evs [.call 2 [ξ20, ξ16, ξ14, ξ15, ξ21, ξ22, ξ23, ξ24, ξ25, ξ26, ξ17, ξ18, ξ27, ξ42, ξ40, ξ41, ξ44, ξ45, ξ60, ξ63, ξ58, ξ64, ξ57, ξ48, ξ70] none 28, .call 3 [ξ92, ξ94, ξ79, ξ91, (.var 34), (.var 35), (.var 36), (.var 37), (.var 38), (.var 39), (.var 40), (.var 41), (.var 42), (.var 43), (.var 44), (.var 45), (.var 46), (.var 47), ξ85, (.var 49), (.var 50), (.var 51), (.var 52), (.var 53), (.var 54)] none 28, .call 4 [(.var 58), (.var 59), (.var 60), (.var 61), (.var 62), (.var 63), (.var 64), (.var 65), (.var 66), (.var 67), (.var 68), (.var 69), (.var 70), (.var 71), (.var 72), (.var 73), (.var 74), (.var 75), (.var 76), (.var 77), (.var 78), (.var 79), (.var 80), (.var 81), (.var 82)] none 28, .call 5 [(.var 86), (.var 87), (.var 88), (.var 89), (.var 90), (.var 91), (.var 92), (.var 93), (.var 94), (.var 95), (.var 96), (.var 97), (.var 98), (.var 99), (.var 100), (.var 101), (.var 102), (.var 103), (.var 104), (.var 105), (.var 106), (.var 107), (.var 108), (.var 109), (.var 110)] none 28, .call 6 [ξ73, ξ66, ξ95, (.var 55), (.var 56), (.var 57), (.var 83), (.var 84), (.var 85), (.var 111), (.var 112), (.var 113), (.var 138)] none 14] (.ret [(.var 139), (.var 140), (.var 141), (.var 142), (.var 143), (.var 144), (.var 145), (.var 146), (.var 147), (.var 148), (.var 149), (.var 150), (.var 151)])))
def Fs_iMatTimes : List Fun1 := [G_iMatValid, G_need, G_mcell00, G_mcell01, G_mcell10, G_mcell11, G_gotMat]
def F_iMatTimes : Fun1 := ofTree Fs_iMatTimes tr_iMatTimes
def G_iMatTimes : Fun1 := ⟨fun _ => True, fun ins => nttW 4 (matQ (fun k => q3 ins (3 * k)) && matQ (fun k => q3 ins (12 + 3 * k))) (mulM (fun k => q3 ins (3 * k)) (fun k => q3 ins (12 + 3 * k)))⟩
theorem out_iMatTimes : (fun (g : Nat → Int) => evalT' Fs_iMatTimes tr_iMatTimes (ivs g 0 24)) = fun g =>
    gotL (mtI (fun k => q3 (ivs g 0 24) (3 * k)) (fun k => q3 (ivs g 0 24) (12 + 3 * k))).2 (mtI (fun k => q3 (ivs g 0 24) (3 * k)) (fun k => q3 (ivs g 0 24) (12 + 3 * k))).1 ++ [.bool (!(mtI (fun k => q3 (ivs g 0 24) (3 * k)) (fun k => q3 (ivs g 0 24) (12 + 3 * k))).2)] := by kernel_rfl
theorem as_iMatTimes (ins : List Value) (ht : TypedL (intTs 24 ++ []) ins) (_ : G_iMatTimes.pre ins) : F_iMatTimes.pre ins ∧ F_iMatTimes.out ins = G_iMatTimes.out ins := by
  obtain ⟨g, r, rfl, h1, _⟩ := ints_lit 24 0 ht
  obtain rfl := ints0 h1
  rw [List.append_nil]
  refine ⟨okT_free (by intro F hF ins; simp only [Fs_iMatTimes, List.mem_cons, List.not_mem_nil, or_false] at hF; rcases hF with rfl | rfl | rfl | rfl | rfl | rfl | rfl <;> trivial) _ _ (by kernel_rfl), (evalT_sel (lens := [1]) (Lens.cons (fun _ => rfl) Lens.nil) _ _ (by kernel_rfl)).trans ((congrFun out_iMatTimes g).trans ?_)⟩
  exact (mtI_eq _ _).trans (nttV_eq _ _ _)
def tr_l5Four : Tr := (.ite (.not ξ27) ξ12 (.ret [ξ20, ξ16, ξ14, ξ15, ξ21, ξ22, ξ23, ξ24, ξ25, ξ26, ξ17, ξ18, ξ5]))
def Fs_l5Four : List Fun1 := []
def F_l5Four : Fun1 := ofTree Fs_l5Four tr_l5Four
def G_l5Four : Fun1 := ⟨fun _ => True, fun ins => gotV (!b0 ins 12) ins 0 12 ++ [.bool (b0 ins 12)]⟩
theorem out_l5Four : (fun (g : Nat → Int) => F_l5Four.out (ivs g 0 12 ++ [.bool true])) = fun g => G_l5Four.out (ivs g 0 12 ++ [.bool true]) := by kernel_rfl
theorem out_l5Four' : (fun (g : Nat → Int) => F_l5Four.out (ivs g 0 12 ++ [.bool false])) = fun g => G_l5Four.out (ivs g 0 12 ++ [.bool false]) := by kernel_rfl
theorem as_l5Four (ins : List Value) (ht : TypedL (intTs 12 ++ [.bool]) ins) (_ : G_l5Four.pre ins) : F_l5Four.pre ins ∧ F_l5Four.out ins = G_l5Four.out ins := by
  obtain ⟨g, r, rfl, h1, _⟩ := ints_lit 12 0 ht
  obtain ⟨b, r2, rfl, h2⟩ := bool_cons h1
  obtain rfl := ints0 h2
  refine ⟨okT_free (fun F hF => by cases hF) _ _ (by kernel_rfl), ?_⟩
  cases b
  · exact congrFun out_l5Four' g
  · exact congrFun out_l5Four g
def tr_sMatTimes : Tr := (.evs [.call 0 ξ7 none 1, .call 0 ξ38 (some (.not (.not ξ55))) 1] (.ite (.ite (.not ξ55) ξ5 (.not ξ74)) ξ12 (.evs [.call 1 [ξ20, ξ16, ξ14, ξ27, ξ42, ξ40, ξ15, ξ21, ξ22, ξ60, ξ63, ξ58] none 4] (.evs [.call 1 [ξ20, ξ16, ξ14, ξ41, ξ44, ξ45, ξ15, ξ21, ξ22, ξ64, ξ57, ξ48] none 4] (.evs [.call 1 [ξ23, ξ24, ξ25, ξ27, ξ42, ξ40, ξ26, ξ17, ξ18, ξ60, ξ63, ξ58] none 4] (.evs [.call 1 [ξ23, ξ24, ξ25, ξ41, ξ44, ξ45, ξ26, ξ17, ξ18, ξ64, ξ57, ξ48] none 4] (.evs [.call 2 [ξ70, ξ73, ξ66, ξ92, ξ94, ξ79, (.var 34), (.var 35), (.var 36), (.var 38), (.var 39), (.var 40), (.ite (.ite (.ite ξ95 ξ91 ξ1) (.var 37) ξ1) (.var 41) ξ1)] none 13] (.ret [(.var 42), (.var 43), (.var 44), (.var 45), (.var 46), (.var 47), ξ85, (.var 49), (.var 50), (.var 51), (.var 52), (.var 53), (.var 54)]))))))))
def Fs_sMatTimes : List Fun1 := [G_sMatValid, G_l3Inner, G_l5Four]
def F_sMatTimes : Fun1 := ofTree Fs_sMatTimes tr_sMatTimes
def G_sMatTimes : Fun1 := ⟨fun _ => True, fun ins => nttW 4 (matQ (fun k => q3 ins (3 * k)) && matQ (fun k => q3 ins (12 + 3 * k))) (mulM (fun k => q3 ins (3 * k)) (fun k => q3 ins (12 + 3 * k)))⟩
theorem out_sMatTimes : (fun (g : Nat → Int) => evalT' Fs_sMatTimes tr_sMatTimes (ivs g 0 24)) = fun g =>
    mtS (fun k => q3 (ivs g 0 24) (3 * k)) (fun k => q3 (ivs g 0 24) (12 + 3 * k)) := by kernel_rfl
theorem as_sMatTimes (ins : List Value) (ht : TypedL (intTs 24 ++ []) ins) (_ : G_sMatTimes.pre ins) : F_sMatTimes.pre ins ∧ F_sMatTimes.out ins = G_sMatTimes.out ins := by
  obtain ⟨g, r, rfl, h1, _⟩ := ints_lit 24 0 ht
  obtain rfl := ints0 h1
  rw [List.append_nil]
  refine ⟨okT_free (by intro F hF ins; simp only [Fs_sMatTimes, List.mem_cons, List.not_mem_nil, or_false] at hF; rcases hF with rfl | rfl | rfl <;> trivial) _ _ (by kernel_rfl), (evalT_sel (lens := [1]) (Lens.cons (fun _ => rfl) Lens.nil) _ _ (by kernel_rfl)).trans ((congrFun out_sMatTimes g).trans ?_)⟩
  exact (mtS_eq _ _).trans (nttV_eq _ _ _)
def tr_l5One : Tr := (.ret [ξ20, ξ16, ξ14, ξ0, ξ0, ξ2, ξ0, ξ0, ξ2, ξ15, ξ21, ξ22])
def Fs_l5One : List Fun1 := []
def F_l5One : Fun1 := ofTree Fs_l5One tr_l5One
def tr_gotFrac : Tr := (.ite ξ15 (.ret [ξ0, ξ0, ξ0, ξ1, ξ15]) (.ret [ξ20, ξ16, ξ14, ξ5, ξ15]))
def Fs_gotFrac : List Fun1 := []
def F_gotFrac : Fun1 := ofTree Fs_gotFrac tr_gotFrac
def G_gotFrac : Fun1 := ⟨fun _ => True, fun ins => gotV (b0 ins 3) ins 0 3 ++ [.bool (!b0 ins 3), .bool (b0 ins 3)]⟩
theorem out_gotFrac : (fun (g : Nat → Int) => F_gotFrac.out (ivs g 0 3 ++ [.bool true])) = fun g => G_gotFrac.out (ivs g 0 3 ++ [.bool true]) := by kernel_rfl
theorem out_gotFrac' : (fun (g : Nat → Int) => F_gotFrac.out (ivs g 0 3 ++ [.bool false])) = fun g => G_gotFrac.out (ivs g 0 3 ++ [.bool false]) := by kernel_rfl
theorem as_gotFrac (ins : List Value) (ht : TypedL (intTs 3 ++ [.bool]) ins) (_ : G_gotFrac.pre ins) : F_gotFrac.pre ins ∧ F_gotFrac.out ins = G_gotFrac.out ins := by
  obtain ⟨g, r, rfl, h1, _⟩ := ints_lit 3 0 ht
  obtain ⟨b, r2, rfl, h2⟩ := bool_cons h1
  obtain rfl := ints0 h2
  cases b
  · exact ⟨trivial, congrFun out_gotFrac' g⟩
  · exact ⟨trivial, congrFun out_gotFrac g⟩
def tr_sFracLess : Tr := (.evs ξ80 (.ret [ξ23, ξ24, ξ25, ξ26]))
def Fs_sFracLess : List Fun1 := [G_l2SumM]
def F_sFracLess : Fun1 := ofTree Fs_sFracLess tr_sFracLess
def G_sFracLess : Fun1 := ⟨fun _ => True, fun ins => fr4 (lessQ (q3 ins 0) (q3 ins 3))⟩
theorem as_sFracLess (ins : List Value) (ht : TypedL [.int .i64, .int .i64, .int .i64, .int .i64, .int .i64, .int .i64] ins) (_ : G_sFracLess.pre ins) : F_sFracLess.pre ins ∧ F_sFracLess.out ins = G_sFracLess.out ins := by
  obtain ⟨a, b, c, x, y, z, rfl, _⟩ := ints6 ht
  exact ⟨⟨⟨trivial, trivial⟩, trivial⟩, rfl⟩
def A_sFracLess : AF := aAny 4
theorem aok_sFracLess {cb : CodeB} : AOK cb G_sFracLess A_sFracLess := aAny_ok (fun _ => trivial) (fun ins => by rfl)
def tr_sFracPower : Tr := (.evs [.call 0 ξ9 none 4] (.ite (.not ξ23) ξ39 (.evs [.call 1 [ξ20, ξ16, ξ14, ξ15, ξ21, ξ22] none 4] (.ret [ξ24, ξ25, ξ26, ξ17]))))
def Fs_sFracPower : List Fun1 := [G_sFracMirror, G_sFracTimes]
def F_sFracPower : Fun1 := ofTree Fs_sFracPower tr_sFracPower
def G_sFracPower : Fun1 := ⟨fun _ => True, fun ins => fr4 (powQ (q3 ins 0))⟩
theorem as_sFracPower (ins : List Value) (ht : TypedL [.int .i64, .int .i64, .int .i64] ins) (_ : G_sFracPower.pre ins) : F_sFracPower.pre ins ∧ F_sFracPower.out ins = G_sFracPower.out ins := by
  obtain ⟨a, b, c, rfl, _⟩ := ints3 ht
  have hp := pair_self (a, b, c)
  unfold pairQ at hp
  simp only [F_sFracPower, G_sFracPower, tr_sFracPower, Fs_sFracPower, G_sFracMirror, G_sFracTimes, q3, fr4, ofTree, okT, okE, evalT, evalE, evsIn, ev, callF, preF, hasF, needs, i0, b0, toI_int, toB_bool, List.getD_cons_zero, List.getD_cons_succ, List.cons_append, List.nil_append, List.replicate, if_true, if_false, Bool.false_eq_true, and_true, true_and, implies_true, forall_const, false_implies, cmpI, Bool.not_true, Bool.not_false, Bool.true_and, Bool.false_and, Bool.and_true, Bool.and_false, reduceIte, List.append_nil, reduceCtorEq]
  rw [← hp]
  cases h : mirQ (a, b, c) with
  | none => simp [times_zq', zq]; simp [show timesQ (a, b, c) (0, 0, 0) = none from times_zq' _]
  | some v => simp
def A_sFracPower : AF := aAny 4
theorem aok_sFracPower {cb : CodeB} : AOK cb G_sFracPower A_sFracPower := aAny_ok (fun _ => trivial) (fun ins => by rfl)
def tr_pick : Tr := (.ite (.ite (.cmp .lss ξ20 ξ2) ξ5 (.cmp .eql (.len ξ16) ξ0)) (.ret [ξ0, ξ16, (.ar .add .i64 ξ14 ξ2)]) (.ite (.cmp .lss ξ28 (.len ξ16)) (.evs [.need [(.inb ξ15 ξ28 1)], .need [(.cmp .neq ξ20 ξ0)]] (.ret [(.ar .rem .i64 (.conv .i64 (.sel ξ15 ξ28 1 0)) ξ20), ξ16, (.ar .add .i64 ξ14 ξ2)])) (.evs [.need ξ56, .need ξ56] (.evs ξ81 (.evs [.need [(.cmp .neq ξ20 ξ0)]] (.ret [(.ar .rem .i64 (.ar .xor .i64 ξ37 (.ar .quo .i64 ξ37 (.int .i64 64))) ξ20), ξ16, (.ar .add .i64 ξ14 ξ2)]))))))
def Fs_pick : List Fun1 := []
def F_pick : Fun1 := ofTree Fs_pick tr_pick
theorem pick_tree {arr : Array Value} {b : Value} {n p L : Int} (hL : lenV b = L) (hs : L = (arr.size : Int)) (hL2 : L ≤ 9223372036854775807) (hn : I64 n) (hp : 0 ≤ p ∧ p ≤ 1000000000) (hb : ∀ i : Nat, 0 ≤ toI (arr.getD i undef) ∧ toI (arr.getD i undef) ≤ 255) :
    okT [] tr_pick [.int .i64 n, b, .int .i64 p, .agg arr] ∧ ∃ x, evalT [] tr_pick [.int .i64 n, b, .int .i64 p, .agg arr] = [.int .i64 x, b, .int .i64 (p + 1)] ∧ 0 ≤ x ∧ x ≤ max 0 (n - 1) := by
  have w1 : IntKind.i64.wrap (p + 1) = p + 1 := wrap_in (by omega)
  have w2 : IntKind.i64.wrap (p + 1 - 1) = p := by rw [show p + 1 - 1 = p by omega]; exact wrap_in (by omega)
  have wb : ∀ i : Nat, IntKind.i64.wrap (toI (arr.getD i undef)) = toI (arr.getD i undef) := fun i => wrap_in (by have := hb i; omega)
  unfold tr_pick
  simp only [okT, evalT, okE, evalE, needs, evsIn, ev, cmpI, arI, toI_int, List.getD_cons_zero, List.getD_cons_succ, w1, w2, hL, toB_bool, Value.cells, Nat.mul_one, Nat.add_zero, wb]
  by_cases c1 : n < 1
  · simp only [c1, decide_true, if_true, toB_bool]
    exact ⟨trivial, 0, rfl, by omega, by omega⟩
  by_cases c2 : L = 0
  · simp only [c1, c2, decide_false, Bool.false_eq_true, if_false, toB_bool, beq_self_eq_true, if_true]
    exact ⟨trivial, 0, rfl, by omega, by omega⟩
  have c3 : (L == 0) = false := by simp [c2]
  simp only [c1, c3, decide_false, Bool.false_eq_true, if_false, toB_bool]
  have n0 : (n != 0) = true := by simp; omega
  by_cases c4 : p < L
  · simp only [c4, decide_true, if_true]
    have h1 := hb p.toNat
    obtain ⟨r1, r2⟩ := tmod_rng (n := n) h1.1 (by omega)
    refine ⟨⟨⟨⟨by rw [Value.bool.injEq, decide_eq_true_eq]; omega, trivial⟩, ⟨by rw [n0], trivial⟩, trivial⟩, trivial⟩, _, rfl, r1, by omega⟩
  · simp only [c4, decide_false, Bool.false_eq_true, if_false]
    have w3 : IntKind.i64.wrap (p * 7) = p * 7 := wrap_in (by omega)
    have w4 : IntKind.i64.wrap (p * 7 + 3) = p * 7 + 3 := wrap_in (by omega)
    obtain ⟨a1, a2⟩ := tmod_rng (x := p) (n := L) (by omega) (by omega)
    obtain ⟨b1, b2⟩ := tmod_rng (x := p * 7 + 3) (n := L) (by omega) (by omega)
    obtain ⟨d1, d2⟩ := tdiv_range (x := p) (n := L) (by omega) (by omega)
    simp only [w3, w4]
    have y1 := hb (p.tmod L).toNat
    have y2 := hb ((p * 7 + 3).tmod L).toNat
    generalize toI (arr.getD (p.tmod L).toNat undef) = u at y1 ⊢
    generalize toI (arr.getD ((p * 7 + 3).tmod L).toNat undef) = v at y2 ⊢
    generalize p.tdiv L = z at d1 d2 ⊢
    rw [wrap_in (z := u * 131) (by omega), wrap_in (z := v * 1117) (by omega), wrap_in (z := p * 29) (by omega), wrap_in (z := z) (by omega), wrap_in (z := z * 53) (by omega),
      wrap_in (z := u * 131 + v * 1117) (by omega), wrap_in (z := u * 131 + v * 1117 + p * 29) (by omega), wrap_in (z := u * 131 + v * 1117 + p * 29 + z * 53) (by omega)]
    have hx : 0 ≤ u * 131 + v * 1117 + p * 29 + z * 53 ∧ u * 131 + v * 1117 + p * 29 + z * 53 ≤ 4611686018427387903 := by omega
    generalize u * 131 + v * 1117 + p * 29 + z * 53 = X at hx ⊢
    obtain ⟨t1, t2⟩ := tdiv_range (x := X) (n := 64) hx.1 (by omega)
    rw [wrap_in (z := X.tdiv 64) (by omega)]
    have hxr := xor_nonneg hx (y := X.tdiv 64) (by omega)
    obtain ⟨r1, r2⟩ := tmod_rng (n := n) hxr.1 (by omega)
    have L0 : (L != 0) = true := by simp [c2]
    refine ⟨⟨⟨⟨by rw [L0], by rw [Value.bool.injEq, decide_eq_true_eq]; omega, by rw [L0], by rw [Value.bool.injEq, decide_eq_true_eq]; omega, by rw [L0], trivial⟩, ⟨by rw [L0], by rw [Value.bool.injEq, decide_eq_true_eq]; omega, by rw [L0], by rw [Value.bool.injEq, decide_eq_true_eq]; omega, by rw [L0], trivial⟩, trivial⟩, ⟨⟨trivial, trivial⟩, trivial⟩, ⟨⟨by rw [n0], trivial⟩, trivial⟩, trivial⟩, _, rfl, r1, by omega⟩
def G_pick (cb : CodeB) : Fun1 := ⟨fun ins => goodSl cb (ins.getD 1 undef) ∧ (∃ n, ins.getD 0 undef = .int .i64 n ∧ I64 n) ∧ ∃ p, ins.getD 2 undef = .int .i64 p ∧ 0 ≤ p ∧ p ≤ 1000000000, fun ins => F_pick.out [ins.getD 0 undef, ins.getD 1 undef, ins.getD 2 undef, rowU cb (ins.getD 1 undef)]⟩
theorem pick_facts {cb : CodeB} (hk : CodeOk cb) {n p : Int} {b : Value} (hb : goodSl cb b) (hn : I64 n) (hp : 0 ≤ p ∧ p ≤ 1000000000) :
    F_pick.pre [.int .i64 n, b, .int .i64 p, rowU cb b] ∧ ∃ x, F_pick.out [.int .i64 n, b, .int .i64 p, rowU cb b] = [.int .i64 x, b, .int .i64 (p + 1)] ∧ 0 ≤ x ∧ x ≤ max 0 (n - 1) := by
  obtain ⟨a, len, cap, arr, hv, hr, hsz, hlen, harr⟩ := goodSl_row hk hb
  rw [hr]
  exact pick_tree (L := len) (by rw [hv]; rfl) (by omega) (by omega) hn hp (row_byte harr)
theorem ghost_pick {cb : CodeB} (hk : CodeOk cb) (n b p : Value) (ht : TypedL [.int .i64, .sl, .int .i64] [n, b, p]) (h : (G_pick cb).pre [n, b, p]) : goodSl cb b ∧ F_pick.pre [n, b, p, rowU cb b] ∧ F_pick.out [n, b, p, rowU cb b] = (G_pick cb).out [n, b, p] := by
  obtain ⟨h1, ⟨n, hn, hn'⟩, p, hp, hp'⟩ := h
  have hn : _ = Value.int .i64 n := hn
  have hp : _ = Value.int .i64 p := hp
  simp only [List.getD_cons_zero, List.getD_cons_succ] at hn hp h1
  subst hn hp
  exact ⟨h1, (pick_facts hk h1 hn' hp').1, rfl⟩
theorem aok_pick {cb : CodeB} (hk : CodeOk cb) : AOK cb (G_pick cb) aPick := by
  intro I O h ins hi
  match I, ins, hi, h with
  | [.itv lo hi', .good, .itv a b], [n, s, p], ⟨⟨n', hn, n1, n2⟩, hs, ⟨p', hp, p1, p2⟩, _⟩, h =>
    simp only [aPick] at h
    split at h
    · rename_i hc
      cases h
      simp only [Bool.and_eq_true, decide_eq_true_eq] at hc
      subst hn hp
      have hn64 : I64 n' := by unfold I64; omega
      have hpp : 0 ≤ p' ∧ p' ≤ 1000000000 := by omega
      obtain ⟨q1, x, q2, q3, q4⟩ := pick_facts hk hs hn64 hpp
      refine ⟨⟨hs, ⟨n', rfl, hn64⟩, p', rfl, hpp⟩, ?_⟩
      have e : (G_pick cb).out [.int .i64 n', s, .int .i64 p'] = [.int .i64 x, s, .int .i64 (p' + 1)] := q2
      rw [e]
      exact ⟨⟨x, rfl, q3, by omega⟩, hs, ⟨p' + 1, rfl, by omega, by omega⟩, trivial⟩
    · cases h
def tr_sMatAdjoint : Tr := (.evs [.call 0 ξ9 none 4] (.evs [.call 0 [ξ23, ξ24, ξ25] none 4] (.evs [.call 0 ξ101 none 4] (.evs [.call 0 [ξ26, ξ17, ξ18] none 4] (.evs [.call 1 [ξ27, ξ42, ξ40, ξ44, ξ45, ξ60, ξ58, ξ64, ξ57, ξ55, ξ74, ξ70, (.ite (.ite (.ite ξ41 ξ63 ξ1) ξ48 ξ1) ξ73 ξ1)] none 13] ξ84)))))
def Fs_sMatAdjoint : List Fun1 := [G_sFracMirror, G_l5Four]
def F_sMatAdjoint : Fun1 := ofTree Fs_sMatAdjoint tr_sMatAdjoint
def rotH (p q : Int) (i : Nat) : Int :=
  if dirOk p q = true then
    (if i = 0 then ((dirC p q).getD zq).1 else if i = 1 then ((dirC p q).getD zq).2.1 else if i = 2 then ((dirC p q).getD zq).2.2
     else if i = 3 then -((dirS p q).getD zq).1 else if i = 4 then 0 else if i = 5 then ((dirS p q).getD zq).2.2
     else if i = 6 then ((dirS p q).getD zq).1 else if i = 7 then ((dirS p q).getD zq).2.1 else if i = 8 then ((dirS p q).getD zq).2.2
     else if i = 9 then ((dirC p q).getD zq).1 else if i = 10 then ((dirC p q).getD zq).2.1 else ((dirC p q).getD zq).2.2)
  else 0
def rotW (p q : Int) : List Value := ivs (rotH p q) 0 12 ++ [.bool (dirOk p q)]
theorem dirS_wrap (p q : Int) : IntKind.i64.wrap (0 - ((dirS p q).getD zq).1) = -((dirS p q).getD zq).1 ∧ IntKind.i64.wrap (0 - ((dirS p q).getD zq).2.1) = 0 := by
  cases h : dirS p q with
  | none => exact ⟨rfl, rfl⟩
  | some v =>
    have hd : dirOk p q = true := by
      unfold dirS at h
      cases hd : dirOk p q with
      | true => rfl
      | false => rw [hd] at h; cases h
    have hl : lowI (2 * p * q) 0 (p * p + q * q) = some v := by
      unfold dirS at h
      rw [if_pos hd] at h
      exact h
    have h0 := low_real hl
    obtain ⟨_, l2, _⟩ := dir_facts hd
    obtain ⟨b1, b2, b3⟩ := valid_bounds (low_valid l2 hl)
    refine ⟨?_, ?_⟩
    · show IntKind.i64.wrap (0 - v.1) = -v.1
      rw [wrap_in (by omega)]; omega
    · show IntKind.i64.wrap (0 - v.2.1) = 0
      rw [h0]; rfl
def adjG (a b c d : Option Q) (i : Nat) : Int :=
  if (a.isSome && b.isSome && c.isSome && d.isSome) = true then
    (if i = 0 then (a.getD zq).1 else if i = 1 then (a.getD zq).2.1 else if i = 2 then (a.getD zq).2.2
     else if i = 3 then (b.getD zq).1 else if i = 4 then (b.getD zq).2.1 else if i = 5 then (b.getD zq).2.2
     else if i = 6 then (c.getD zq).1 else if i = 7 then (c.getD zq).2.1 else if i = 8 then (c.getD zq).2.2
     else if i = 9 then (d.getD zq).1 else if i = 10 then (d.getD zq).2.1 else (d.getD zq).2.2)
  else 0
def adjV (a b c d : Option Q) : List Value := ivs (adjG a b c d) 0 12 ++ [.bool (a.isSome && b.isSome && c.isSome && d.isSome)]
def adjW (ins : List Value) : List Value := adjV (mirQ (q3 ins 0)) (mirQ (q3 ins 6)) (mirQ (q3 ins 3)) (mirQ (q3 ins 9))
def andV (x y : Value) : Value := if toB x = true then y else .bool false
theorem adj_one (a b c d : Option Q) : gotV (((!a.isSome || !b.isSome) || !c.isSome) || !d.isSome) (fr3 a ++ (fr3 b ++ (fr3 c ++ fr3 d))) 0 12 ++ [.bool (!(((!a.isSome || !b.isSome) || !c.isSome) || !d.isSome))] = adjV a b c d := by
  cases a <;> cases b <;> cases c <;> cases d <;> rfl
theorem adj_two (a b c d : Option Q) : gotV (!toB (andV (andV (andV (.bool a.isSome) (.bool b.isSome)) (.bool c.isSome)) (.bool d.isSome))) (fr3 a ++ (fr3 b ++ (fr3 c ++ fr3 d))) 0 12 ++ [.bool (toB (andV (andV (andV (.bool a.isSome) (.bool b.isSome)) (.bool c.isSome)) (.bool d.isSome)))] = adjV a b c d := by
  cases a <;> cases b <;> cases c <;> cases d <;> rfl
def filtI (k : Bool) (a b d : Option Q) : List Value := gotV (((((false || !k) || !a.isSome) || !b.isSome) || !b.isSome) || !d.isSome) (fr3 a ++ (fr3 b ++ (fr3 b ++ fr3 d))) 0 12 ++ [.bool (!(((((false || !k) || !a.isSome) || !b.isSome) || !b.isSome) || !d.isSome))]
def filtS (k : Bool) (a b d : Option Q) : List Value := if toB (.bool (!k)) = true then zeros 12 ++ [.bool false] else gotV (!toB (andV (andV (.bool a.isSome) (.bool b.isSome)) (.bool d.isSome))) (fr3 a ++ (fr3 b ++ (fr3 b ++ fr3 d))) 0 12 ++ [.bool (toB (andV (andV (.bool a.isSome) (.bool b.isSome)) (.bool d.isSome)))]
def filtG (k : Bool) (a b d : Option Q) (i : Nat) : Int :=
  if (k && (a.isSome && (b.isSome && d.isSome))) = true then
    (if i = 0 then (a.getD zq).1 else if i = 1 then (a.getD zq).2.1 else if i = 2 then (a.getD zq).2.2
     else if i = 3 then (b.getD zq).1 else if i = 4 then (b.getD zq).2.1 else if i = 5 then (b.getD zq).2.2
     else if i = 6 then (b.getD zq).1 else if i = 7 then (b.getD zq).2.1 else if i = 8 then (b.getD zq).2.2
     else if i = 9 then (d.getD zq).1 else if i = 10 then (d.getD zq).2.1 else (d.getD zq).2.2)
  else 0
def filtV (k : Bool) (a b d : Option Q) : List Value := ivs (filtG k a b d) 0 12 ++ [.bool (k && (a.isSome && (b.isSome && d.isSome)))]
theorem filt_one (k : Bool) (a b d : Option Q) : filtI k a b d = filtV k a b d := by
  cases k <;> cases a <;> cases b <;> cases d <;> rfl
theorem filt_two (k : Bool) (a b d : Option Q) : filtS k a b d = filtV k a b d := by
  cases k <;> cases a <;> cases b <;> cases d <;> rfl
def filtW (p q : Int) : List Value := filtV (dirOk p q) (timesQ ((dirC p q).getD zq) ((dirC p q).getD zq)) (timesQ ((dirC p q).getD zq) ((dirS p q).getD zq)) (timesQ ((dirS p q).getD zq) ((dirS p q).getD zq))
def turnW (k : Int) : List Value := [if toB (Value.bool (k == 0)) = true then .int .i64 1 else if toB (Value.bool (k == 1)) = true then .int .i64 0 else if toB (Value.bool (k == 2)) = true then .int .i64 (-1) else .int .i64 0,
  if toB (Value.bool (k == 0)) = true then .int .i64 0 else if toB (Value.bool (k == 1)) = true then .int .i64 1 else if toB (Value.bool (k == 2)) = true then .int .i64 0 else .int .i64 (-1),
  if toB (Value.bool (k == 0)) = true then .int .i64 1 else if toB (Value.bool (k == 1)) = true then .int .i64 1 else if toB (Value.bool (k == 2)) = true then .int .i64 1 else .int .i64 1]
def diagW (k : Int) : List Value := [.int .i64 1, .int .i64 0, .int .i64 1, .int .i64 0, .int .i64 0, .int .i64 1, .int .i64 0, .int .i64 0, .int .i64 1] ++ turnW k
def mulW (ins : List Value) : List Value := nttW 4 (matQ (fun k => q3 ins (3 * k)) && matQ (fun k => q3 ins (12 + 3 * k))) (mulM (fun k => q3 ins (3 * k)) (fun k => q3 ins (12 + 3 * k)))
def plA (g : Nat → Int) (k : Int) : List Value := mulW (ivs g 0 12 ++ diagW k)
def plM (g : Nat → Int) (k : Int) : List Value := mulW ((plA g k).take 12 ++ (adjW (ivs g 0 12)).take 12)
def plateV (p q k : Int) : List Value :=
  if (dirOk p q && (inRg k 0 3 && (b0 (plA (rotH p q) k) 12 && b0 (plM (rotH p q) k) 12))) = true then (plM (rotH p q) k).take 12 ++ [.bool true] else zeros 12 ++ [.bool false]
theorem plate_lit (p q k : Int) : ∃ (g : Nat → Int) (b : Bool), plateV p q k = ivs g 0 12 ++ [.bool b] := by
  unfold plateV
  split
  · exact ⟨_, true, rfl⟩
  · exact ⟨fun _ => 0, false, rfl⟩
def G_sMatAdjoint : Fun1 := ⟨fun _ => True, adjW⟩
theorem adj_sI (g : Nat → Int) : F_sMatAdjoint.out (ivs g 0 12) = gotV (!toB (andV (andV (andV (.bool (mirQ (q3 (ivs g 0 12) 0)).isSome) (.bool (mirQ (q3 (ivs g 0 12) 6)).isSome)) (.bool (mirQ (q3 (ivs g 0 12) 3)).isSome)) (.bool (mirQ (q3 (ivs g 0 12) 9)).isSome))) (fr3 (mirQ (q3 (ivs g 0 12) 0)) ++ (fr3 (mirQ (q3 (ivs g 0 12) 6)) ++ (fr3 (mirQ (q3 (ivs g 0 12) 3)) ++ fr3 (mirQ (q3 (ivs g 0 12) 9))))) 0 12 ++ [.bool (toB (andV (andV (andV (.bool (mirQ (q3 (ivs g 0 12) 0)).isSome) (.bool (mirQ (q3 (ivs g 0 12) 6)).isSome)) (.bool (mirQ (q3 (ivs g 0 12) 3)).isSome)) (.bool (mirQ (q3 (ivs g 0 12) 9)).isSome)))] := by
  kernel_rfl
theorem as_sMatAdjoint (ins : List Value) (ht : TypedL (intTs 12 ++ []) ins) (_ : G_sMatAdjoint.pre ins) : F_sMatAdjoint.pre ins ∧ F_sMatAdjoint.out ins = G_sMatAdjoint.out ins := by
  obtain ⟨g, r, rfl, h1, _⟩ := ints_lit 12 0 ht
  obtain rfl := ints0 h1
  rw [List.append_nil]
  exact ⟨okT_free (by intro F hF ins; simp only [Fs_sMatAdjoint, List.mem_cons, List.not_mem_nil, or_false] at hF; rcases hF with rfl | rfl <;> trivial) _ _ (by kernel_rfl), (adj_sI g).trans (adj_two _ _ _ _)⟩
def tr_sMatRotator : Tr := (.evs [.call 0 [ξ20, ξ16] none 7] (.evs [.call 1 [ξ14, ξ15, ξ21, (.ar .sub .i64 ξ0 ξ22), ξ0, ξ24, ξ22, ξ23, ξ24, ξ14, ξ15, ξ21, ξ25] none 13] (.ret [ξ26, ξ17, ξ18, ξ27, ξ42, ξ40, ξ41, ξ44, ξ45, ξ60, ξ63, ξ58, ξ64])))
def Fs_sMatRotator : List Fun1 := [G_l5Direction, G_l5Four]
def F_sMatRotator : Fun1 := ofTree Fs_sMatRotator tr_sMatRotator
def G_sMatRotator : Fun1 := ⟨fun _ => True, fun ins => rotW (i0 ins 0) (i0 ins 1)⟩
theorem as_sMatRotator (ins : List Value) (ht : TypedL [.int .i64, .int .i64] ins) (_ : G_sMatRotator.pre ins) : F_sMatRotator.pre ins ∧ F_sMatRotator.out ins = G_sMatRotator.out ins := by
  obtain ⟨p, q, rfl, wp, wq⟩ := ints2 ht
  obtain ⟨w1, w2⟩ := dirS_wrap p q
  rw [Int.zero_sub] at w1 w2
  simp only [F_sMatRotator, G_sMatRotator, tr_sMatRotator, Fs_sMatRotator, G_l5Direction, G_l5Four, gotV, dirV, fr3, arI, ofTree, okT, okE, evalT, evalE, evsIn, ev, callF, preF, hasF, needs, i0, b0, toI_int, toB_bool, List.getD_cons_zero, List.getD_cons_succ, List.cons_append, List.nil_append, List.replicate, if_true, if_false, Bool.false_eq_true, and_true, true_and, implies_true, forall_const, false_implies, cmpI, Bool.not_true, Bool.not_false, Bool.true_and, Bool.false_and, Bool.and_true, Bool.and_false, reduceIte, List.append_nil, reduceCtorEq]
  cases h : dirOk p q
  · simp [h, rotW, rotH, ivs]
  · simp [h, rotW, rotH, ivs, w1, w2]
def tr_l5PhaseK : Tr := (.evs [.need [(.cmp .leq ξ0 ξ20), (.cmp .lss ξ20 (.int .i64 4))]] (.ret [(.ite (.cmp .eql ξ20 ξ0) ξ2 (.ite (.cmp .eql ξ20 ξ2) ξ0 (.ite (.cmp .eql ξ20 ξ49) (.int .i64 (-1)) ξ0))), (.ite (.cmp .eql ξ20 ξ0) ξ0 (.ite (.cmp .eql ξ20 ξ2) ξ2 (.ite (.cmp .eql ξ20 ξ49) ξ0 (.int .i64 (-1))))), (.ite (.cmp .eql ξ20 ξ0) ξ2 (.ite (.cmp .eql ξ20 ξ2) ξ2 (.ite (.cmp .eql ξ20 ξ49) ξ2 ξ2)))]))
def Fs_l5PhaseK : List Fun1 := []
def F_l5PhaseK : Fun1 := ofTree Fs_l5PhaseK tr_l5PhaseK
def tr_sMatPlate : Tr := (.evs [.call 0 [ξ20, ξ16] none 13] (.evs [.call 1 [ξ14, ξ0, (.int .i64 3)] (some (.not (.not ξ41))) 1] (.ite (.ite (.not ξ41) ξ5 (.not ξ44)) ξ12 (.evs [.call 2 ξ83 none 13] (.evs [.call 3 [ξ0] none 3, .call 3 [ξ14] none 3, .call 4 [ξ92, ξ94, ξ79, ξ91, (.var 34), (.var 35)] none 12, .call 5 [ξ15, ξ21, ξ22, ξ23, ξ24, ξ25, ξ26, ξ17, ξ18, ξ27, ξ42, ξ40, (.var 36), (.var 37), (.var 38), (.var 39), (.var 40), (.var 41), (.var 42), (.var 43), (.var 44), (.var 45), (.var 46), (.var 47)] none 13] (.evs [.call 5 [ξ85, (.var 49), (.var 50), (.var 51), (.var 52), (.var 53), (.var 54), (.var 55), (.var 56), (.var 57), (.var 58), (.var 59), ξ45, ξ60, ξ63, ξ58, ξ64, ξ57, ξ48, ξ55, ξ74, ξ70, ξ73, ξ66] none 13] (.ite (.ite (.not (.var 60)) ξ5 (.not (.var 73))) ξ12 (.ret [(.var 61), (.var 62), (.var 63), (.var 64), (.var 65), (.var 66), (.var 67), (.var 68), (.var 69), (.var 70), (.var 71), (.var 72), ξ5]))))))))
def Fs_sMatPlate : List Fun1 := [G_sMatRotator, G_l6In, G_sMatAdjoint, F_l5PhaseK, F_l5One, G_sMatTimes]
theorem ite_t {P : Program} {specs : List Spec} {c : Ex} {a b : Tr} {env : List Value} {N : List (List Value → Prop)} {K : List Value → Prop} (h : ev env c = .bool true) (ha : sat P specs a env N K) : sat P specs (.ite c a b) env N K :=
  ⟨fun _ => ha, (fun h2 => by rw [h] at h2; cases h2)⟩
theorem ite_f {P : Program} {specs : List Spec} {c : Ex} {a b : Tr} {env : List Value} {N : List (List Value → Prop)} {K : List Value → Prop} (h : ev env c = .bool false) (hb : sat P specs b env N K) : sat P specs (.ite c a b) env N K :=
  ⟨(fun h2 => by rw [h] at h2; cases h2), fun _ => hb⟩
theorem beq_f {k m : UInt8} (h : k ≠ m) : Value.bool ((k.toNat : Int) == (m.toNat : Int)) = .bool false := by
  congr 1
  rw [beq_eq_false_iff_ne]
  intro e
  exact h (UInt8.toNat_inj.1 (by omega))
theorem two_list {ns : List Int} (h : ns.length = 2) : ∃ p q, ns = [p, q] := by
  match ns, h with
  | [p, q], _ => exact ⟨p, q, rfl⟩
theorem three_list {ns : List Int} (h : ns.length = 3) : ∃ p q r, ns = [p, q, r] := by
  match ns, h with
  | [p, q, r], _ => exact ⟨p, q, r, rfl⟩
theorem ok_len2 {k : UInt8} {ns : List Int} (hk : k = 114 ∨ k = 102 ∨ k = 97 ∨ k = 100) (h : ns.length ≠ 2) : okPiece k ns = false := by
  match ns, h with
  | [], _ => rcases hk with rfl | rfl | rfl | rfl <;> rfl
  | [_], _ => rcases hk with rfl | rfl | rfl | rfl <;> rfl
  | [_, _], h => exact absurd rfl h
  | _ :: _ :: _ :: _, _ => rcases hk with rfl | rfl | rfl | rfl <;> rfl
theorem ok_len3 {ns : List Int} (h : ns.length ≠ 3) : okPiece 119 ns = false := by
  match ns, h with
  | [], _ => rfl
  | [_], _ => rfl
  | [_, _], _ => rfl
  | [_, _, _], h => exact absurd rfl h
  | _ :: _ :: _ :: _ :: _, _ => rfl
theorem ok_other {k : UInt8} {ns : List Int} (h1 : k ≠ 114) (h2 : k ≠ 102) (h3 : k ≠ 119) (h4 : k ≠ 97) (h5 : k ≠ 100) : okPiece k ns = false := by
  unfold okPiece
  rw [if_neg (by simp [h1, h2]), if_neg h3, if_neg (by simp [h4, h5])]
theorem k_cases (k : UInt8) : k = 114 ∨ k = 102 ∨ k = 119 ∨ k = 97 ∨ k = 100 ∨ (k ≠ 114 ∧ k ≠ 102 ∧ k ≠ 119 ∧ k ≠ 97 ∧ k ≠ 100) := by
  by_cases h1 : k = 114
  · exact .inl h1
  by_cases h2 : k = 102
  · exact .inr (.inl h2)
  by_cases h3 : k = 119
  · exact .inr (.inr (.inl h3))
  by_cases h4 : k = 97
  · exact .inr (.inr (.inr (.inl h4)))
  by_cases h5 : k = 100
  · exact .inr (.inr (.inr (.inr (.inl h5))))
  exact .inr (.inr (.inr (.inr (.inr ⟨h1, h2, h3, h4, h5⟩))))
theorem phase_pre {k : Int} (h0 : 0 ≤ k) (h1 : k ≤ 3) : F_l5PhaseK.pre [.int .i64 k] := by
  have n1 : Value.bool (decide ((0 : Int) ≤ k)) = .bool true := bt h0
  have n2 : Value.bool (decide (k < (4 : Int))) = .bool true := bt (by omega)
  exact ⟨⟨⟨n1, n2, trivial⟩, trivial⟩, trivial⟩
def SP_sMatPlate : Spec := fun ins K => ∃ p q k, ins = [.int .i64 p, .int .i64 q, .int .i64 k] ∧ K (plateV p q k)
set_option maxHeartbeats 2000000 in
theorem sat_sMatPlate (P : Program) (ins : List Value) (K : List Value → Prop) (_ : TypedL [.int .i64, .int .i64, .int .i64] ins) (h : SP_sMatPlate ins K) : sat P (specsOf Fs_sMatPlate) tr_sMatPlate ins [] K := by
  obtain ⟨p, q, k, rfl, hK⟩ := h
  unfold plateV at hK
  refine evs_step (call_step rfl ⟨trivial, evs_nil ?_⟩)
  show sat P _ _ ([.int .i64 p, .int .i64 q, .int .i64 k] ++ (ivs (rotH p q) 0 12 ++ [.bool (dirOk p q)])) [] K
  generalize rotH p q = g at *
  cases hd : dirOk p q with
  | false =>
    rw [hd] at hK
    exact evs_step (callg_step rfl (fun h => by cases h) (fun _ => evs_nil (ite_t rfl hK)))
  | true =>
    refine evs_step (callg_step rfl (fun _ => ⟨trivial, evs_nil ?_⟩) (fun h => by cases h))
    show sat P _ _ ([.int .i64 p, .int .i64 q, .int .i64 k] ++ (ivs g 0 12 ++ [.bool true]) ++ [.bool (inRg k 0 3)]) [] K
    rw [hd, Bool.true_and] at hK
    cases hk : inRg k 0 3 with
    | false =>
      rw [hk] at hK
      exact ite_t rfl hK
    | true =>
      rw [hk, Bool.true_and] at hK
      have hk2 : 0 ≤ k ∧ k ≤ 3 := by simpa [inRg] using hk
      refine ite_f rfl (evs_step (call_step rfl ⟨trivial, evs_nil ?_⟩))
      refine evs_step (call_step rfl ⟨phase_pre (k := 0) (by omega) (by omega), call_step rfl ⟨phase_pre hk2.1 hk2.2, call_step rfl ⟨trivial, call_step rfl ⟨trivial, evs_nil ?_⟩⟩⟩⟩)
      refine evs_step (call_step rfl ⟨trivial, evs_nil ?_⟩)
      refine ⟨fun h => ?_, fun h => ?_⟩
      · have h' : (if toB (.bool (!(b0 (plA g k) 12))) = true then Value.bool true else .bool (!(b0 (plM g k) 12))) = .bool true := Eq.trans (by kernel_rfl) h
        have hf : (b0 (plA g k) 12 && b0 (plM g k) 12) = false := by
          generalize b0 (plA g k) 12 = x at h'
          generalize b0 (plM g k) 12 = y at h'
          cases x <;> cases y <;> first | rfl | cases h'
        rw [hf] at hK
        exact hK
      · have h' : (if toB (.bool (!(b0 (plA g k) 12))) = true then Value.bool true else .bool (!(b0 (plM g k) 12))) = .bool false := Eq.trans (by kernel_rfl) h
        have hf : (b0 (plA g k) 12 && b0 (plM g k) 12) = true := by
          generalize b0 (plA g k) 12 = x at h'
          generalize b0 (plM g k) 12 = y at h'
          cases x <;> cases y <;> first | rfl | cases h'
        rw [hf] at hK
        have hK : K ((plM g k).take 12 ++ [.bool true]) := hK
        refine Eq.mp (congrArg K ?_) hK
        kernel_rfl
def tr_sMatFilter : Tr := (.evs [.call 0 [ξ20, ξ16] none 7] (.ite (.not ξ25) ξ12 (.evs [.call 1 [ξ14, ξ15, ξ21, ξ14, ξ15, ξ21] none 4] (.evs [.call 1 [ξ14, ξ15, ξ21, ξ22, ξ23, ξ24] none 4] (.evs [.call 1 [ξ22, ξ23, ξ24, ξ22, ξ23, ξ24] none 4] (.evs [.call 2 [ξ26, ξ17, ξ18, ξ42, ξ40, ξ41, ξ42, ξ40, ξ41, ξ45, ξ60, ξ63, (.ite (.ite ξ27 ξ44 ξ1) ξ58 ξ1)] none 13] (.ret [ξ64, ξ57, ξ48, ξ55, ξ74, ξ70, ξ73, ξ66, ξ95, ξ92, ξ94, ξ79, ξ91])))))))
def Fs_sMatFilter : List Fun1 := [G_l5Direction, G_sFracTimes, G_l5Four]
def F_sMatFilter : Fun1 := ofTree Fs_sMatFilter tr_sMatFilter
def G_sMatFilter : Fun1 := ⟨fun _ => True, fun ins => filtW (i0 ins 0) (i0 ins 1)⟩
theorem filt_sI (p q : Int) : F_sMatFilter.out [.int .i64 p, .int .i64 q] = filtS (dirOk p q) (timesQ ((dirC p q).getD zq) ((dirC p q).getD zq)) (timesQ ((dirC p q).getD zq) ((dirS p q).getD zq)) (timesQ ((dirS p q).getD zq) ((dirS p q).getD zq)) := by kernel_rfl
theorem as_sMatFilter (ins : List Value) (ht : TypedL [.int .i64, .int .i64] ins) (_ : G_sMatFilter.pre ins) : F_sMatFilter.pre ins ∧ F_sMatFilter.out ins = G_sMatFilter.out ins := by
  obtain ⟨p, q, rfl, wp, wq⟩ := ints2 ht
  exact ⟨okT_free (by intro F hF ins; simp only [Fs_sMatFilter, List.mem_cons, List.not_mem_nil, or_false] at hF; rcases hF with rfl | rfl | rfl <;> trivial) _ _ (by kernel_rfl), (filt_sI p q).trans (filt_two _ _ _ _)⟩
def tr_l6tDiag : Tr := (.evs ξ81 (.evs ξ81 (.evs ξ81 (.evs ξ81 (.evs ξ81 (.evs ξ81 (.evs ξ81 (.evs ξ81 (.evs ξ81 (.evs ξ81 (.evs ξ81 (.evs ξ81 (.evs ξ81 (.evs ξ81 (.evs ξ81 (.evs ξ81 ξ54))))))))))))))))
def Fs_l6tDiag : List Fun1 := []
def F_l6tDiag : Fun1 := ofTree Fs_l6tDiag tr_l6tDiag
abbrev F_pickC := G_pick
abbrev A_pickC := aPick
theorem aok_pickC {cb : CodeB} (hk : CodeOk cb) : AOK cb (G_pick cb) aPick := aok_pick hk
abbrev F_openC := G_open
def tr_l91Frac : Tr := (.evs [.call 0 [(.int .i64 40), ξ20, ξ16] none 3] (.ite (.cmp .eql ξ14 ξ0) (.ret [ξ49, (.int .i64 4), ξ49, ξ15, ξ21]) (.ite (.cmp .eql ξ14 ξ2) (.ret [ξ2, ξ0, ξ0, ξ15, ξ21]) (.ite (.cmp .eql ξ14 ξ49) (.ret [ξ82, ξ2, (.int .i64 7), ξ15, ξ21]) (.ite (.cmp .eql ξ14 (.int .i64 3)) (.ret [ξ0, ξ0, ξ2, ξ15, ξ21]) (.evs [.call 0 [(.int .i64 13), ξ15, ξ21] none 3, .call 0 [(.int .i64 9), ξ23, ξ24] none 3, .call 0 [ξ49, ξ26, ξ17] none 3, .call 0 [(.int .i64 5), ξ27, ξ42] none 3, .call 1 [(.ar .sub .i64 ξ22 (.int .i64 6)), (.ar .mul .i64 (.ar .sub .i64 ξ25 (.int .i64 4)) ξ18), (.ar .add .i64 ξ2 ξ40)] none 4] (.ret [ξ45, ξ60, ξ63, ξ41, ξ44])))))))
def Fs_l91Frac (cb : CodeB) : List Fun1 := [(F_pickC cb), G_l2Low]
def F_l91Frac (cb : CodeB) : Fun1 := ofTree (Fs_l91Frac cb) tr_l91Frac
def A_l91Frac : AF := absT [A_pickC, A_l2Low] tr_l91Frac
theorem aok_l91Frac {cb : CodeB} (hk : CodeOk cb) : AOK cb (F_l91Frac cb) A_l91Frac := tree_aok (AOKs.cons (aok_pickC hk) (AOKs.cons aok_l2Low AOKs.nil)) tr_l91Frac
def tr_l91Real : Tr := (.evs [.call 1 [ξ20, ξ16] none 5] (.evs [.call 0 [(.int .i64 20), ξ22, ξ23] none 3] (.ite (.cmp .eql ξ24 ξ0) (.ret [ξ14, ξ15, ξ21, ξ25, ξ26]) (.evs [.call 0 [(.int .i64 17), ξ25, ξ26] none 3, .call 0 [(.int .i64 4), ξ18, ξ27] none 3, .call 2 [(.ar .sub .i64 ξ17 (.int .i64 8)), ξ0, (.ar .add .i64 ξ2 ξ42)] none 4] (.ret [ξ44, ξ45, ξ60, ξ40, ξ41])))))
def Fs_l91Real (cb : CodeB) : List Fun1 := [(F_pickC cb), (F_l91Frac cb), G_l2Low]
def F_l91Real (cb : CodeB) : Fun1 := ofTree (Fs_l91Real cb) tr_l91Real
def A_l91Real : AF := absT [A_pickC, A_l91Frac, A_l2Low] tr_l91Real
theorem aok_l91Real {cb : CodeB} (hk : CodeOk cb) : AOK cb (F_l91Real cb) A_l91Real := tree_aok (AOKs.cons (aok_pickC hk) (AOKs.cons (aok_l91Frac hk) (AOKs.cons aok_l2Low AOKs.nil))) tr_l91Real
def tr_l91Jones : Tr := (.evs [.call 1 [ξ20, ξ16] none 5] (.evs [.call 1 [ξ22, ξ23] none 5] (.evs [.call 0 [(.int .i64 10), ξ17, ξ18] none 3] (.ite (.cmp .eql ξ27 ξ0) (.ret [ξ0, ξ0, ξ2, ξ24, ξ25, ξ26, ξ42, ξ40]) (.ite (.cmp .eql ξ27 ξ2) (.ret [ξ14, ξ15, ξ21, ξ0, ξ0, ξ2, ξ42, ξ40]) (.ret [ξ14, ξ15, ξ21, ξ24, ξ25, ξ26, ξ42, ξ40]))))))
def Fs_l91Jones (cb : CodeB) : List Fun1 := [(F_pickC cb), (F_l91Frac cb)]
def F_l91Jones (cb : CodeB) : Fun1 := ofTree (Fs_l91Jones cb) tr_l91Jones
def A_l91Jones : AF := absT [A_pickC, A_l91Frac] tr_l91Jones
theorem aok_l91Jones {cb : CodeB} (hk : CodeOk cb) : AOK cb (F_l91Jones cb) A_l91Jones := tree_aok (AOKs.cons (aok_pickC hk) (AOKs.cons (aok_l91Frac hk) AOKs.nil)) tr_l91Jones
def tr_sStokesAdd : Tr := (.evs [.call 0 ξ7 none 1, .call 0 ξ38 (some (.not (.not ξ55))) 1] (.ite (.ite (.not ξ55) ξ5 (.not ξ74)) ξ12 (.evs [.call 1 [ξ20, ξ16, ξ14, ξ27, ξ42, ξ40] none 4] (.ite (.not ξ95) ξ12 (.evs [.call 1 [ξ15, ξ21, ξ22, ξ41, ξ44, ξ45] none 4] (.ite (.not ξ91) ξ12 (.evs [.call 1 [ξ23, ξ24, ξ25, ξ60, ξ63, ξ58] none 4] (.ite (.not (.var 37)) ξ12 (.evs [.call 1 [ξ26, ξ17, ξ18, ξ64, ξ57, ξ48] none 4] (.ite (.not (.var 41)) ξ12 (.ret [ξ70, ξ73, ξ66, ξ92, ξ94, ξ79, (.var 34), (.var 35), (.var 36), (.var 38), (.var 39), (.var 40), ξ5])))))))))))
def Fs_sStokesAdd : List Fun1 := [G_sStokesValid, G_sFracAdd]
def F_sStokesAdd : Fun1 := ofTree Fs_sStokesAdd tr_sStokesAdd
def A_sStokesAdd : AF := absT [A_sStokesValid, A_sFracAdd] tr_sStokesAdd
theorem aok_sStokesAdd {cb : CodeB} : AOK cb F_sStokesAdd A_sStokesAdd := tree_aok (AOKs.cons aok_sStokesValid (AOKs.cons aok_sFracAdd AOKs.nil)) tr_sStokesAdd
def tr_l4Twice : Tr := (.evs [.call 0 [(.ar .mul .i64 ξ49 ξ20), ξ0, ξ16] none 4] (.ret [ξ14, ξ15, ξ21, ξ22]))
def Fs_l4Twice : List Fun1 := [G_sFracMake]
def F_l4Twice : Fun1 := ofTree Fs_l4Twice tr_l4Twice
def A_l4Twice : AF := absT [A_sFracMake] tr_l4Twice
theorem aok_l4Twice {cb : CodeB} : AOK cb F_l4Twice A_l4Twice := tree_aok (AOKs.cons aok_sFracMake AOKs.nil) tr_l4Twice
def tr_sStokesOf : Tr := (.evs [.call 0 ξ9 none 4] (.evs [.call 0 ξ101 none 4] (.evs [.call 3 ξ101 none 4] (.ite (.ite (.ite (.not ξ26) ξ5 (.not ξ42)) ξ5 (.not ξ45)) ξ12 (.evs [.call 4 [ξ20, ξ16, ξ14, ξ40, ξ41, ξ44] none 4] (.evs [.call 1 [ξ23, ξ24, ξ25, ξ17, ξ18, ξ27] none 4] (.evs [.call 2 [ξ23, ξ24, ξ25, ξ17, ξ18, ξ27] none 4] (.ite (.ite (.ite (.not ξ64) ξ5 (.not ξ74)) ξ5 (.not ξ95)) ξ12 (.evs [.call 5 [ξ60, ξ58] none 4] (.evs [.call 5 [ξ63, ξ58] none 4] (.ite (.ite (.not ξ91) ξ5 (.not (.var 37))) ξ12 (.ret [ξ57, ξ48, ξ55, ξ70, ξ73, ξ66, ξ92, ξ94, ξ79, (.var 34), (.var 35), (.var 36), ξ5]))))))))))))
def Fs_sStokesOf : List Fun1 := [G_sFracPower, G_sFracAdd, G_sFracLess, G_sFracMirror, G_sFracTimes, F_l4Twice]
def F_sStokesOf : Fun1 := ofTree Fs_sStokesOf tr_sStokesOf
def A_sStokesOf : AF := absT [A_sFracPower, A_sFracAdd, A_sFracLess, A_sFracMirror, A_sFracTimes, A_l4Twice] tr_sStokesOf
theorem aok_sStokesOf {cb : CodeB} : AOK cb F_sStokesOf A_sStokesOf := tree_aok (AOKs.cons aok_sFracPower (AOKs.cons aok_sFracAdd (AOKs.cons aok_sFracLess (AOKs.cons aok_sFracMirror (AOKs.cons aok_sFracTimes (AOKs.cons aok_l4Twice AOKs.nil)))))) tr_sStokesOf
def tr_l91Stokes : Tr := (.evs [.call 1 [ξ20, ξ16] none 8, .call 2 [ξ14, ξ15, ξ21, ξ22, ξ23, ξ24] none 13] (.evs [.call 0 [(.int .i64 3), ξ25, ξ26] (some ξ57) 3] (.ite (.ite ξ57 (.cmp .gtr ξ48 ξ0) ξ1) (.evs [.call 1 [(.ite ξ57 ξ55 ξ25), (.ite ξ57 ξ74 ξ26)] none 8, .call 2 [ξ70, ξ73, ξ66, ξ95, ξ92, ξ94] none 13] (.evs [.call 3 [ξ17, ξ18, ξ27, ξ42, ξ40, ξ41, ξ44, ξ45, ξ60, ξ63, ξ58, ξ64, (.var 34), (.var 35), (.var 36), (.var 37), (.var 38), (.var 39), (.var 40), (.var 41), (.var 42), (.var 43), (.var 44), (.var 45)] none 13] (.evs [.call 0 [ξ49, ξ79, ξ91] (some ξ88) 3] (.ite (.ite ξ88 (.cmp .eql (.var 60) ξ0) ξ1) (.ret [(.var 47), ξ85, (.var 49), (.var 50), (.var 51), (.var 52), (.var 53), (.var 54), (.var 55), (.var 56), (.var 57), (.var 58), (.ite ξ88 (.var 61) ξ79), (.ite ξ88 (.var 62) ξ91)]) (.ret [ξ17, ξ18, ξ27, ξ42, ξ40, ξ41, ξ44, ξ45, ξ60, ξ63, ξ58, ξ64, (.ite ξ88 (.var 61) ξ79), (.ite ξ88 (.var 62) ξ91)]))))) (.evs [.call 4 [(.ite ξ57 ξ55 ξ25), (.ite ξ57 ξ74 ξ26)] none 5] (.evs [.call 4 [ξ95, ξ92] none 5] (.evs [.call 4 [(.var 34), (.var 35)] none 5] (.evs [.call 4 [(.var 39), (.var 40)] none 5] (.ret [ξ70, ξ73, ξ66, ξ94, ξ79, ξ91, (.var 36), (.var 37), (.var 38), (.var 41), (.var 42), (.var 43), (.var 44), (.var 45)]))))))))
def Fs_l91Stokes (cb : CodeB) : List Fun1 := [(F_pickC cb), (F_l91Jones cb), F_sStokesOf, F_sStokesAdd, (F_l91Real cb)]
def F_l91Stokes (cb : CodeB) : Fun1 := ofTree (Fs_l91Stokes cb) tr_l91Stokes
def A_l91Stokes : AF := absT [A_pickC, A_l91Jones, A_sStokesOf, A_sStokesAdd, A_l91Real] tr_l91Stokes
theorem aok_l91Stokes {cb : CodeB} (hk : CodeOk cb) : AOK cb (F_l91Stokes cb) A_l91Stokes := tree_aok (AOKs.cons (aok_pickC hk) (AOKs.cons (aok_l91Jones hk) (AOKs.cons aok_sStokesOf (AOKs.cons aok_sStokesAdd (AOKs.cons (aok_l91Real hk) AOKs.nil))))) tr_l91Stokes
def tr_iFracCompare : Tr := (.evs ξ34 (.ite ξ93 (.ret [ξ0, ξ1]) (.ite (.cmp .lss ξ89 ξ0) (.ret [(.int .i64 (-1)), ξ5]) (.ite (.cmp .gtr ξ89 ξ0) (.ret [ξ2, ξ5]) (.ret [ξ0, ξ5])))))
def Fs_iFracCompare : List Fun1 := [G_realOk]
def F_iFracCompare : Fun1 := ofTree Fs_iFracCompare tr_iFracCompare
def G_iFracCompare : Fun1 := ⟨fun _ => True, fun ins => [.int .i64 (cmpF (q3 ins 0) (q3 ins 3)), .bool (realQ (q3 ins 0) && realQ (q3 ins 3))]⟩
theorem cmp_facts {a b c x y z : Int} (h : realQ (a, b, c) = true) (k : realQ (x, y, z) = true) : IntKind.i64.wrap (a * z) = a * z ∧ IntKind.i64.wrap (x * c) = x * c ∧ IntKind.i64.wrap (a * z - x * c) = a * z - x * c ∧ I64 (a * z - x * c) := by
  have h := realQ_valid h
  have k := realQ_valid k
  obtain ⟨e1, e2, e3, e4, e5, e6, e7, e8, e9, l1, l2⟩ := sum_facts h k
  exact ⟨e1, e2, e8, (I64_iff _).1 e8⟩
theorem as_iFracCompare (ins : List Value) (ht : TypedL [.int .i64, .int .i64, .int .i64, .int .i64, .int .i64, .int .i64] ins) (_ : G_iFracCompare.pre ins) : F_iFracCompare.pre ins ∧ F_iFracCompare.out ins = G_iFracCompare.out ins := by
  obtain ⟨a, b, c, x, y, z, rfl, _⟩ := ints6 ht
  simp only [F_iFracCompare, G_iFracCompare, tr_iFracCompare, Fs_iFracCompare, G_realOk, cmpF, crossI, q3, arI, ofTree, okT, okE, evalT, evalE, evsIn, ev, callF, preF, hasF, needs, i0, b0, toI_int, toB_bool, List.getD_cons_zero, List.getD_cons_succ, List.cons_append, List.nil_append, List.replicate, if_true, if_false, Bool.false_eq_true, and_true, true_and, implies_true, forall_const, false_implies, cmpI, Bool.not_true, Bool.not_false, Bool.true_and, Bool.false_and, Bool.and_true, Bool.and_false, reduceIte, List.append_nil, reduceCtorEq]
  cases h : realQ (a, b, c)
  · simp [h]
  · cases k : realQ (x, y, z)
    · simp [h, k]
    · obtain ⟨e1, e2, e3, _⟩ := cmp_facts h k
      simp only [h, k, e1, e2, e3, ofTree, okT, okE, evalT, evalE, evsIn, ev, callF, preF, hasF, needs, i0, b0, toI_int, toB_bool, List.getD_cons_zero, List.getD_cons_succ, List.cons_append, List.nil_append, List.replicate, if_true, if_false, Bool.false_eq_true, and_true, true_and, implies_true, forall_const, false_implies, cmpI, Bool.not_true, Bool.not_false, Bool.true_and, Bool.false_and, Bool.and_true, Bool.and_false, reduceIte, List.append_nil, reduceCtorEq]
      unfold sgnI
      generalize a * z - x * c = m
      by_cases h1 : m < 0
      · simp [h1]
      · by_cases h2 : m > 0
        · simp [h1, h2]
        · simp [h1, h2]
def tr_diagonal : Tr := ξ54
def Fs_diagonal : List Fun1 := []
def F_diagonal : Fun1 := ofTree Fs_diagonal tr_diagonal
def tr_iTableFade : Tr := (.evs ξ78 (.ite (.not ξ15) ξ13 ξ33))
def Fs_iTableFade : List Fun1 := [G_realOk, F_diagonal]
def F_iTableFade : Fun1 := ofTree Fs_iTableFade tr_iTableFade
def dgF (c : Q) (k : Nat) : Q := if k = 0 then oneQ else if k % 5 = 0 then c else nil1
def fdD (c : Q) (k : Nat) : Option Q := some (dgF c k)
def G_iTableFade : Fun1 := ⟨fun _ => True, fun ins => nttW 16 (realQ (q3 ins 0)) (fdD (q3 ins 0))⟩
theorem out_iTableFade : (fun (g : Nat → Int) => F_iTableFade.out (ivs g 0 3)) = fun g => if toB (.bool (!realQ (tri g 0))) = true then zeros 48 ++ [.bool false] else F_diagonal.out (ivs g 0 3) ++ [.bool true] := by kernel_rfl
theorem fade_yes : (fun (g : Nat → Int) => F_diagonal.out (ivs g 0 3) ++ [.bool true]) = fun g => nttW 16 true (fdD (tri g 0)) := by kernel_rfl
theorem fade_no : (fun (g : Nat → Int) => zeros 48 ++ [.bool false]) = fun g => nttW 16 false (fdD (tri g 0)) := by kernel_rfl
theorem as_iTableFade (ins : List Value) (ht : TypedL (intTs 3 ++ []) ins) (_ : G_iTableFade.pre ins) : F_iTableFade.pre ins ∧ F_iTableFade.out ins = G_iTableFade.out ins := by
  obtain ⟨g, r, rfl, h1, _⟩ := ints_lit 3 0 ht
  obtain rfl := ints0 h1
  rw [List.append_nil]
  refine ⟨okT_free (by intro F hF ins; simp only [Fs_iTableFade, List.mem_cons, List.not_mem_nil, or_false] at hF; rcases hF with rfl | rfl; · trivial
                       · exact okT_free (fun F hF => by cases hF) _ _ (by kernel_rfl)) _ _ (by kernel_rfl), (congrFun out_iTableFade g).trans ?_⟩
  show _ = nttW 16 (realQ (tri g 0)) (fdD (tri g 0))
  cases realQ (tri g 0)
  · exact congrFun fade_no g
  · exact congrFun fade_yes g
def tr_sTableFade : Tr := (.evs ξ78 (.ite (.ite (.not ξ15) ξ5 (.cmp .neq ξ16 ξ0)) ξ13 ξ33))
def Fs_sTableFade : List Fun1 := [G_sFracValid, F_l6tDiag]
def F_sTableFade : Fun1 := ofTree Fs_sTableFade tr_sTableFade
def G_sTableFade : Fun1 := ⟨fun _ => True, fun ins => nttW 16 (realQ (q3 ins 0)) (fdD (q3 ins 0))⟩
theorem out_sTableFade : (fun (g : Nat → Int) => F_sTableFade.out (ivs g 0 3)) = fun g => if toB (if toB (.bool (!validQ (tri g 0))) = true then .bool true else .bool (!((tri g 0).2.1 == 0))) = true then zeros 48 ++ [.bool false] else F_l6tDiag.out (ivs g 0 3) ++ [.bool true] := by kernel_rfl
theorem sfade_yes : (fun (g : Nat → Int) => F_l6tDiag.out (ivs g 0 3) ++ [.bool true]) = fun g => nttW 16 true (fdD (tri g 0)) := by kernel_rfl
theorem sfade_no : (fun (g : Nat → Int) => zeros 48 ++ [.bool false]) = fun g => nttW 16 false (fdD (tri g 0)) := by kernel_rfl
theorem as_sTableFade (ins : List Value) (ht : TypedL (intTs 3 ++ []) ins) (_ : G_sTableFade.pre ins) : F_sTableFade.pre ins ∧ F_sTableFade.out ins = G_sTableFade.out ins := by
  obtain ⟨g, r, rfl, h1, _⟩ := ints_lit 3 0 ht
  obtain rfl := ints0 h1
  rw [List.append_nil]
  refine ⟨okT_free (by intro F hF ins; simp only [Fs_sTableFade, List.mem_cons, List.not_mem_nil, or_false] at hF; rcases hF with rfl | rfl; · trivial
                       · exact okT_free (fun F hF => by cases hF) _ _ (by kernel_rfl)) _ _ (by kernel_rfl), (congrFun out_sTableFade g).trans ?_⟩
  show _ = nttW 16 (realQ (tri g 0)) (fdD (tri g 0))
  unfold realQ
  cases validQ (tri g 0)
  · exact congrFun sfade_no g
  · cases (tri g 0).2.1 == 0
    · exact congrFun sfade_no g
    · exact congrFun sfade_yes g
def tr_iStokesSquares : Tr := (.evs [.call 0 ξ7 none 1, .call 1 [ξ27, ξ1] none 1] (.evs [.call 2 [ξ15, ξ21, ξ22, ξ15, ξ21, ξ22, ξ42] none 4] (.evs [.call 2 [ξ23, ξ24, ξ25, ξ23, ξ24, ξ25, ξ45] none 4, .call 3 [ξ40, ξ41, ξ44, ξ60, ξ63, ξ58, ξ64] none 4] (.evs [.call 2 [ξ26, ξ17, ξ18, ξ26, ξ17, ξ18, ξ74] none 4, .call 3 [ξ57, ξ48, ξ55, ξ70, ξ73, ξ66, ξ95] none 4] (.evs [.call 4 [ξ92, ξ94, ξ79, ξ91] none 5] (.ret [(.var 34), (.var 35), (.var 36), (.var 37)]))))))
def Fs_iStokesSquares : List Fun1 := [G_iStokesValid, G_need, G_times, G_add, G_gotFrac]
def F_iStokesSquares : Fun1 := ofTree Fs_iStokesSquares tr_iStokesSquares
def sqI (a : Nat → Q) : Q × Bool :=
  let p := opS timesQ (false || !stQ a) (a 1) (a 1)
  let q := opS timesQ p.2 (a 2) (a 2)
  let r := opS addQ q.2 p.1 q.1
  let u := opS timesQ r.2 (a 3) (a 3)
  opS addQ u.2 r.1 u.1
def gtQ (p : Q × Bool) : Q := (if p.2 then 0 else p.1.1, if p.2 then 0 else p.1.2.1, if p.2 then 0 else p.1.2.2)
def G_iStokesSquares : Fun1 := ⟨fun _ => True, fun ins => [.int .i64 (gtQ (sqI fun k => q3 ins (3 * k))).1, .int .i64 (gtQ (sqI fun k => q3 ins (3 * k))).2.1, .int .i64 (gtQ (sqI fun k => q3 ins (3 * k))).2.2, .bool (!(sqI fun k => q3 ins (3 * k)).2)]⟩
theorem out_iStokesSquares : (fun (g : Nat → Int) => evalT Fs_iStokesSquares tr_iStokesSquares (ivs g 0 12)) = fun g => G_iStokesSquares.out (ivs g 0 12) := by kernel_rfl
theorem as_iStokesSquares (ins : List Value) (ht : TypedL (intTs 12 ++ []) ins) (_ : G_iStokesSquares.pre ins) : F_iStokesSquares.pre ins ∧ F_iStokesSquares.out ins = G_iStokesSquares.out ins := by
  obtain ⟨g, r, rfl, h1, _⟩ := ints_lit 12 0 ht
  obtain rfl := ints0 h1
  rw [List.append_nil]
  exact ⟨okT_free (by intro F hF ins; simp only [Fs_iStokesSquares, List.mem_cons, List.not_mem_nil, or_false] at hF; rcases hF with rfl | rfl | rfl | rfl | rfl <;> trivial) _ _ (by kernel_rfl), congrFun out_iStokesSquares g⟩
def tr_excess : Tr := (.evs [.call 0 ξ7 none 4] (.evs [.call 1 [ξ20, ξ16, ξ14, ξ20, ξ16, ξ14] none 4] (.ite (.ite (.not ξ41) ξ5 (.not ξ63)) (.ret [ξ0, ξ1]) (.evs [.call 2 [ξ44, ξ45, ξ60, ξ27, ξ42, ξ40] none 2] (.ret [ξ58, ξ64])))))
def Fs_excess : List Fun1 := [G_iStokesSquares, G_iFracTimes, G_iFracCompare]
def F_excess : Fun1 := ofTree Fs_excess tr_excess
def exG (a : Nat → Q) : Bool := !(sqI a).2 && (timesQ (a 0) (a 0)).isSome
def exN (a : Nat → Q) : Int := if exG a = true then cmpF ((timesQ (a 0) (a 0)).getD zq) (gtQ (sqI a)) else 0
def exB (a : Nat → Q) : Bool := exG a && (realQ ((timesQ (a 0) (a 0)).getD zq) && realQ (gtQ (sqI a)))
def G_excess : Fun1 := ⟨fun _ => True, fun ins => [.int .i64 (exN fun k => q3 ins (3 * k)), .bool (exB fun k => q3 ins (3 * k))]⟩
theorem out_excess : (fun (g : Nat → Int) => F_excess.out (ivs g 0 12)) = fun g =>
    if toB (if toB (.bool (!(!(sqI fun k => q3 (ivs g 0 12) (3 * k)).2))) = true then .bool true else .bool (!(timesQ (q3 (ivs g 0 12) (3 * 0)) (q3 (ivs g 0 12) (3 * 0))).isSome)) = true then [.int .i64 0, .bool false] else
    [.int .i64 (cmpF ((timesQ (q3 (ivs g 0 12) (3 * 0)) (q3 (ivs g 0 12) (3 * 0))).getD zq) (gtQ (sqI fun k => q3 (ivs g 0 12) (3 * k)))), .bool (realQ ((timesQ (q3 (ivs g 0 12) (3 * 0)) (q3 (ivs g 0 12) (3 * 0))).getD zq) && realQ (gtQ (sqI fun k => q3 (ivs g 0 12) (3 * k))))] := by kernel_rfl
theorem as_excess (ins : List Value) (ht : TypedL (intTs 12 ++ []) ins) (_ : G_excess.pre ins) : F_excess.pre ins ∧ F_excess.out ins = G_excess.out ins := by
  obtain ⟨g, r, rfl, h1, _⟩ := ints_lit 12 0 ht
  obtain rfl := ints0 h1
  rw [List.append_nil]
  refine ⟨okT_free (by intro F hF ins; simp only [Fs_excess, List.mem_cons, List.not_mem_nil, or_false] at hF; rcases hF with rfl | rfl | rfl <;> trivial) _ _ (by kernel_rfl), (congrFun out_excess g).trans ?_⟩
  show _ = [Value.int .i64 (exN fun k => q3 (ivs g 0 12) (3 * k)), .bool (exB fun k => q3 (ivs g 0 12) (3 * k))]
  unfold exN exB exG
  generalize ha : (fun k => q3 (ivs g 0 12) (3 * k)) = a
  have e : q3 (ivs g 0 12) (3 * 0) = a 0 := by rw [← ha]
  rw [e]
  cases (sqI a).2 <;> cases (timesQ (a 0) (a 0)).isSome <;> simp
def tr_iStokesLight : Tr := (.evs [.call 0 ξ7 none 2] (.ret [(.ite (.ite ξ42 (.cmp .geq ξ27 ξ0) ξ1) (.cmp .geq ξ20 ξ0) ξ1)]))
def Fs_iStokesLight : List Fun1 := [G_excess]
def F_iStokesLight : Fun1 := ofTree Fs_iStokesLight tr_iStokesLight
def ltB (a : Nat → Q) : Bool := exB a && (decide (exN a ≥ 0) && decide ((a 0).1 ≥ 0))
def G_iStokesLight : Fun1 := ⟨fun _ => True, fun ins => [.bool (ltB fun k => q3 ins (3 * k))]⟩
theorem out_iStokesLight : (fun (g : Nat → Int) => F_iStokesLight.out (ivs g 0 12)) = fun g =>
    [if toB (if toB (.bool (exB fun k => q3 (ivs g 0 12) (3 * k))) = true then .bool (decide ((exN fun k => q3 (ivs g 0 12) (3 * k)) ≥ 0)) else .bool false) = true then .bool (decide ((q3 (ivs g 0 12) (3 * 0)).1 ≥ 0)) else .bool false] := by kernel_rfl
theorem as_iStokesLight (ins : List Value) (ht : TypedL (intTs 12 ++ []) ins) (_ : G_iStokesLight.pre ins) : F_iStokesLight.pre ins ∧ F_iStokesLight.out ins = G_iStokesLight.out ins := by
  obtain ⟨g, r, rfl, h1, _⟩ := ints_lit 12 0 ht
  obtain rfl := ints0 h1
  rw [List.append_nil]
  refine ⟨okT_free (by intro F hF ins; simp only [Fs_iStokesLight, List.mem_cons, List.not_mem_nil, or_false] at hF; rcases hF with rfl; trivial) _ _ (by kernel_rfl), (congrFun out_iStokesLight g).trans ?_⟩
  show _ = [Value.bool (ltB fun k => q3 (ivs g 0 12) (3 * k))]
  unfold ltB
  cases exB fun k => q3 (ivs g 0 12) (3 * k)
  · simp
  · cases hn : decide ((exN fun k => q3 (ivs g 0 12) (3 * k)) ≥ 0)
    · simp
    · simp
def SP_Split : Spec := SP_split
def SP_plainNumber : Spec := SP_num num
def SP_l6Dec : Spec := SP_itoa
def tr_l7Cut : Tr := (.evs [.app (.val (.agg #[])) 1 (.cells [])] (.lp 0 [ξ0, ξ0, ξ14, (.val (.agg #[]))] [.int .i64, .int .i64, .sl, .rowC [.str]] (.ite (.cmp .leq ξ21 ξ68) (.evs [.need [(.ite (.not (.cmp .eql ξ21 ξ68)) (.cmp .leq ξ0 ξ21) ξ5), (.ite (.not (.cmp .eql ξ21 ξ68)) (.cmp .lss ξ21 ξ68) ξ5)]] (.ite (.ite (.cmp .eql ξ21 ξ68) ξ5 (.cmp .eql (.sidx ξ20 ξ21) ξ16)) (.evs [.need [(.cmp .leq ξ0 ξ22), (.cmp .leq ξ22 ξ21), (.cmp .leq ξ21 ξ68)], .app ξ24 1 (.cells [(.ssub ξ20 ξ22 ξ21)])] (.next 0 [(.ar .add .i64 ξ21 ξ2), (.ar .add .i64 ξ21 ξ2), ξ25, ξ26])) (.next 0 [(.ar .add .i64 ξ21 ξ2), ξ22, ξ23, ξ24]))) (.ret [ξ23, ξ24]))))
def Fs_l7Cut : List Fun1 := []
def SP_l7Cut : Spec := SP_cut
theorem cut_last {c : UInt8} {s : List UInt8} {fr i : Nat} (h : i = s.length) : cutGo c ((s.drop fr).take (i - fr)) (s.drop i) = [(s.drop fr).take (i - fr)] := by
  rw [show s.drop i = [] from List.drop_eq_nil_of_le (by omega)]; rfl
theorem cut_hit {c : UInt8} {s : List UInt8} {fr i : Nat} (h : s[i]? = some c) : cutGo c ((s.drop fr).take (i - fr)) (s.drop i) = (s.drop fr).take (i - fr) :: cutGo c ((s.drop (i + 1)).take (i + 1 - (i + 1))) (s.drop (i + 1)) := by
  obtain ⟨hi, he⟩ := List.getElem?_eq_some_iff.1 h
  rw [List.drop_eq_getElem_cons hi, he, cutGo, if_pos rfl, Nat.sub_self, List.take_zero]
theorem cut_skip {c x : UInt8} {s : List UInt8} {fr i : Nat} (h : s[i]? = some x) (hx : x ≠ c) (hf : fr ≤ i) : cutGo c ((s.drop fr).take (i - fr)) (s.drop i) = cutGo c ((s.drop fr).take (i + 1 - fr)) (s.drop (i + 1)) := by
  obtain ⟨hi, he⟩ := List.getElem?_eq_some_iff.1 h
  rw [List.drop_eq_getElem_cons hi, he, cutGo, if_neg hx]
  congr 1
  rw [show i + 1 - fr = (i - fr) + 1 by omega, List.take_add_one]
  congr 1
  rw [List.getElem?_drop, show fr + (i - fr) = i by omega, h]
  rfl
theorem sat_l7Cut (P : Program) (ins : List Value) (K : List Value → Prop) (ht : TypedL [.str, .int .u8] ins) (h : SP_l7Cut ins K) : sat P (specsOf Fs_l7Cut) tr_l7Cut ins [] K := by
  obtain ⟨s, c, rfl, hs, hK⟩ := h
  refine evs_step (app_empty (by omega) fun a2 cap2 => evs_nil ?_)
  refine ⟨fun vs => ∃ (i fr : Nat) (a : Option Addr) (cap : Nat) (done : List (List UInt8)), vs = [.int .i64 i, .int .i64 fr, .slice a done.length cap, rowS done] ∧ i ≤ s.length + 1 ∧ fr ≤ i ∧
      (i ≤ s.length → cut c s = done ++ cutGo c ((s.drop fr).take (i - fr)) (s.drop i)) ∧ (i = s.length + 1 → cut c s = done) ∧ done.length ≤ i, fun vs => s.length + 1 - (toI (vs.getD 0 undef)).toNat, ?_, ?_⟩
  · exact ⟨0, 0, a2, cap2, [], rfl, by omega, by omega, fun _ => by simp [cut], fun h => by omega, by simp⟩
  · rintro vs hty ⟨i, fr, a, cap, done, rfl, hi, hfr, h1, h2, hd⟩
    have hlen : lenV (bv s) = (s.length : Int) := len_bv s
    refine ⟨fun hc => ?_, fun hc => ?_⟩
    · have hc : Value.bool (decide ((i : Int) ≤ lenV (bv s))) = .bool true := hc
      rw [hlen] at hc
      have hle : i ≤ s.length := by have := bt_of hc; omega
      have hcut := h1 hle
      have hw : IntKind.i64.wrap ((i : Int) + 1) = ((i + 1 : Nat) : Int) := by rw [wrap_in (by omega)]; omega
      refine evs_step (need_step (all_cons (need_if fun _ => ?_) (all_cons (need_if fun hg => ?_) all_nil)) (evs_nil ?_))
      · exact bt (Int.natCast_nonneg i)
      · have hg : (!((i : Int) == lenV (bv s))) = true := hg
        rw [hlen] at hg
        have : ¬ (i : Int) = s.length := by simpa using hg
        show Value.bool (decide ((i : Int) < lenV (bv s))) = _
        rw [hlen]
        exact bt (by omega)
      · have hbr : ∀ b, (if (((i : Int) == lenV (bv s)) : Bool) = true then Value.bool true else Value.bool (byteV (strV (bv s)) i == (c.toNat : Int))) = .bool b →
            (b = true ∧ (i = s.length ∨ s[i]? = some c)) ∨ (b = false ∧ ∃ x, s[i]? = some x ∧ x ≠ c) := by
          intro b hb
          rw [hlen] at hb
          by_cases he : i = s.length
          · rw [if_pos (by simp [he])] at hb
            exact .inl ⟨(Value.bool.inj hb).symm, .inl he⟩
          · rw [if_neg (by simp; omega)] at hb
            have hil : i < s.length := by omega
            rw [byte_bv (List.getElem?_eq_getElem hil)] at hb
            have hb := Value.bool.inj hb
            by_cases hx : s[i] = c
            · refine .inl ⟨by rw [← hb, hx]; simp, .inr (by rw [List.getElem?_eq_getElem hil, hx])⟩
            · refine .inr ⟨?_, s[i], List.getElem?_eq_getElem hil, hx⟩
              rw [← hb, beq_eq_false_iff_ne]
              intro e
              exact hx (UInt8.toNat_inj.1 (by omega))
        refine ⟨fun hx => ?_, fun hx => ?_⟩
        · have hyes : i = s.length ∨ s[i]? = some c := by
            rcases hbr true hx with h | h
            · exact h.2
            · cases h.1
          have hdl : done.length + 1 ≤ 2097154 := by omega
          refine evs_step (need_step (all_cons (bt (Int.natCast_nonneg fr)) (all_cons ?_ (all_cons hc all_nil))) (app_step (xs := done.map bv) (ys := [bv ((s.drop fr).take (i - fr))]) rfl ?_ (by simp; omega) fun a3 len3 cap3 _ hl => evs_nil ?_))
          · show Value.bool (decide ((fr : Int) ≤ (i : Int))) = _
            exact bt (by omega)
          · show [Value.string ((strV (bv s)).extract ((fr : Int)).toNat ((i : Int)).toNat)] = _
            rw [Int.toNat_natCast, Int.toNat_natCast, extract_bv]
          · have hl3 : len3 = (done ++ [(s.drop fr).take (i - fr)]).length := by simp at hl ⊢; omega
            subst hl3
            show (∃ _, _) ∧ _
            rw [show Value.agg (done.map bv ++ [bv ((s.drop fr).take (i - fr))]).toArray = rowS (done ++ [(s.drop fr).take (i - fr)]) from rowS_snoc _ _]
            refine ⟨⟨i + 1, i + 1, a3, cap3, done ++ [(s.drop fr).take (i - fr)], ?_, by omega, by omega, fun hle2 => ?_, fun he => ?_, by simp; omega⟩, ?_⟩
            · show [Value.int .i64 (IntKind.i64.wrap ((i : Int) + 1)), .int .i64 (IntKind.i64.wrap ((i : Int) + 1)), .slice a3 (done ++ [(s.drop fr).take (i - fr)]).length cap3, rowS (done ++ [(s.drop fr).take (i - fr)])] = _
              rw [hw]
            · rw [hcut]
              rcases hyes with h | h
              · omega
              · rw [cut_hit h]; simp
            · rw [hcut, cut_last (by omega)]
            · show s.length + 1 - (IntKind.i64.wrap ((i : Int) + 1)).toNat < s.length + 1 - ((i : Int)).toNat
              rw [hw]; omega
        · obtain ⟨x, hxs, hxc⟩ : ∃ x, s[i]? = some x ∧ x ≠ c := by
            rcases hbr false hx with h | h
            · cases h.1
            · exact h.2
          have hil := (List.getElem?_eq_some_iff.1 hxs).1
          refine ⟨⟨i + 1, fr, a, cap, done, ?_, by omega, by omega, fun hle2 => ?_, fun he => by omega, by omega⟩, ?_⟩
          · show [Value.int .i64 (IntKind.i64.wrap ((i : Int) + 1)), .int .i64 fr, .slice a done.length cap, rowS done] = _
            rw [hw]
          · rw [hcut, cut_skip hxs hxc hfr]
          · show s.length + 1 - (IntKind.i64.wrap ((i : Int) + 1)).toNat < s.length + 1 - ((i : Int)).toNat
            rw [hw]; omega
    · have hc : Value.bool (decide ((i : Int) ≤ lenV (bv s))) = .bool false := hc
      rw [hlen] at hc
      have hn := bf_of hc
      have hcut := h2 (by omega)
      rw [hcut] at hK
      exact hK a _ cap rfl
def tr_l7Number : Tr := (.evs [.call 0 [ξ68, ξ2, (.int .i64 4)] none 1] (.ite (.not ξ16) (.ret [ξ0, ξ1]) (.lp 0 [ξ0, ξ2, ξ0] [.int .i64, .int .i64, .int .i64] (.ite (.cmp .lss ξ14 ξ68) (.evs [.need [(.ite (.cmp .eql ξ14 ξ0) (.cmp .leq ξ0 ξ14) ξ5), (.ite (.cmp .eql ξ14 ξ0) (.cmp .lss ξ14 ξ68) ξ5)]] (.ite (.ite (.cmp .eql ξ14 ξ0) (.cmp .eql (.sidx ξ20 ξ14) (.int .u8 45)) ξ1) (.next 0 [(.ar .add .i64 ξ14 ξ2), (.int .i64 (-1)), ξ21]) (.evs [.need [(.cmp .leq ξ0 ξ14), (.cmp .lss ξ14 ξ68)], .need [(.ite (.cmp .geq (.sidx ξ20 ξ14) (.int .u8 48)) (.cmp .leq ξ0 ξ14) ξ5), (.ite (.cmp .geq (.sidx ξ20 ξ14) (.int .u8 48)) (.cmp .lss ξ14 ξ68) ξ5)]] (.ite (.ite (.cmp .geq (.sidx ξ20 ξ14) (.int .u8 48)) (.cmp .leq (.sidx ξ20 ξ14) (.int .u8 57)) ξ1) (.evs [.need [(.cmp .leq ξ0 ξ14), (.cmp .lss ξ14 ξ68)]] (.next 0 [(.ar .add .i64 ξ14 ξ2), ξ15, (.ar .add .i64 (.ar .mul .i64 (.int .i64 10) ξ21) (.conv .i64 (.ar .sub .u8 (.sidx ξ20 ξ14) (.int .u8 48))))])) (.ret [ξ0, ξ1]))))) (.evs [.call 1 [(.ar .mul .i64 ξ15 ξ21)] none 1] (.ret [(.ar .mul .i64 ξ15 ξ21), (.seq ξ22 ξ20)]))))))
def Ss_l7Number : List Spec := [G_l6In.spec, SP_l6Dec]
def SP_l7Number : Spec := SP_num snum
def nst : List UInt8 → Option (Int × Nat)
  | [] => some (1, 0)
  | x :: r => if x = 45 then (digGo 0 r).map fun n => (-1, n) else (digGo 0 (x :: r)).map fun n => (1, n)
theorem digGo_app (b : List UInt8) : ∀ (a : List UInt8) (acc : Nat), digGo acc (a ++ b) = (digGo acc a).bind fun u => digGo u b
  | [], acc => rfl
  | x :: r, acc => by
    simp only [List.cons_append, digGo]
    split
    · exact digGo_app b r _
    · rfl
theorem nst_step {p : List UInt8} {x : UInt8} {sg : Int} {n : Nat} (h : nst p = some (sg, n)) : nst (p ++ [x]) = if p = [] ∧ x = 45 then some (-1, 0) else if 48 ≤ x.toNat ∧ x.toNat ≤ 57 then some (sg, 10 * n + (x.toNat - 48)) else none := by
  cases p with
  | nil =>
    cases h
    by_cases hx : x = 45
    · simp [nst, hx, digGo]
    · simp only [List.nil_append, nst, hx, and_false, if_false, digGo]
      split <;> simp
  | cons y r =>
    rw [if_neg (by simp)]
    simp only [List.cons_append, nst] at h ⊢
    by_cases hy : y = 45
    · rw [if_pos hy] at h ⊢
      cases hd : digGo 0 r with
      | none => rw [hd] at h; cases h
      | some u =>
        rw [hd] at h
        cases h
        rw [digGo_app, hd]
        simp only [Option.bind_some, digGo]
        split <;> simp
    · rw [if_neg hy] at h ⊢
      cases hd : digGo 0 (y :: r) with
      | none => rw [hd] at h; cases h
      | some u =>
        rw [hd] at h
        cases h
        have e : digGo 0 (y :: (r ++ [x])) = (digGo 0 (y :: r)).bind fun u => digGo u [x] := digGo_app [x] (y :: r) 0
        rw [e, hd]
        simp only [Option.bind_some, digGo]
        split <;> simp
theorem nst_none {p q : List UInt8} (h : nst p = none) : nst (p ++ q) = none := by
  cases p with
  | nil => cases h
  | cons y r =>
    simp only [List.cons_append, nst] at h ⊢
    split at h
    · rename_i hy
      rw [if_pos hy, digGo_app]
      rw [Option.map_eq_none_iff] at h
      rw [h]; rfl
    · rename_i hy
      rw [if_neg hy]
      rw [Option.map_eq_none_iff] at h
      have e : digGo 0 (y :: (r ++ q)) = (digGo 0 (y :: r)).bind fun u => digGo u q := digGo_app q (y :: r) 0
      rw [e, h]; rfl
theorem sraw_nst {l : List UInt8} (h : l ≠ []) : sraw l = (nst l).map fun p => p.1 * (p.2 : Int) := by
  cases l with
  | nil => exact absurd rfl h
  | cons x r =>
    simp only [sraw, nst]
    split
    · cases digGo 0 r <;> simp
    · cases digGo 0 (x :: r) <;> simp
theorem nst_lt {p : List UInt8} {sg : Int} {n : Nat} (h : nst p = some (sg, n)) : (sg = 1 ∨ sg = -1) ∧ n < 10 ^ p.length := by
  cases p with
  | nil => cases h; exact ⟨.inl rfl, by simp⟩
  | cons y r =>
    simp only [nst] at h
    split at h
    · cases hd : digGo 0 r with
      | none => rw [hd] at h; cases h
      | some u =>
        rw [hd] at h
        cases h
        have := digGo_lt hd
        refine ⟨.inr rfl, ?_⟩
        rw [List.length_cons, Nat.pow_succ]
        omega
    · cases hd : digGo 0 (y :: r) with
      | none => rw [hd] at h; cases h
      | some u =>
        rw [hd] at h
        cases h
        have := digGo_lt hd
        exact ⟨.inl rfl, by omega⟩
set_option maxHeartbeats 1000000 in
theorem sat_l7Number (P : Program) (ins : List Value) (K : List Value → Prop) (_ : TypedL [.str] ins) (h : SP_l7Number ins K) : sat P Ss_l7Number tr_l7Number ins [] K := by
  obtain ⟨l, rfl, hl, hK⟩ := h
  have hlen : lenV (bv l) = (l.length : Int) := len_bv l
  refine evs_step (call_step rfl ⟨trivial, evs_nil ?_⟩)
  have hno : snum l = none → ∀ z, I64 z → K [.int .i64 z, .bool false] := by
    intro hn
    rw [hn] at hK
    exact hK
  have hin : i0 [lenV (bv l) |> Value.int .i64, .int .i64 1, .int .i64 4] 0 = (l.length : Int) := by
    show lenV (bv l) = _
    exact hlen
  have hG : G_l6In.out [Value.int .i64 (lenV (bv l)), .int .i64 1, .int .i64 4] = [.bool (inRg (l.length : Int) 1 4)] := by
    show [Value.bool (inRg (lenV (bv l)) 1 4)] = _
    rw [hlen]
  show sat P _ _ ([bv l] ++ G_l6In.out [Value.int .i64 (lenV (bv l)), .int .i64 1, .int .i64 4]) _ K
  rw [hG]
  have i640 : I64 0 := by unfold I64; omega
  refine ⟨fun hc => ?_, fun hc => ?_⟩
  · have hc : Value.bool (!inRg (l.length : Int) 1 4) = .bool true := hc
    have hc := Value.bool.inj hc
    refine hno ?_ 0 i640
    unfold snum
    split
    · rename_i h4
      have : l = [] := by
        cases l with
        | nil => rfl
        | cons x r => simp [inRg] at hc; simp at h4; omega
      rw [this]; rfl
    · rfl
  · have hc : Value.bool (!inRg (l.length : Int) 1 4) = .bool false := hc
    have hc := Value.bool.inj hc
    have h14 : 1 ≤ l.length ∧ l.length ≤ 4 := by simp [inRg] at hc; omega
    have hne : l ≠ [] := by intro e; rw [e] at h14; simp at h14
    refine ⟨fun vs => ∃ (i : Nat) (sg : Int) (n : Nat), vs = [.int .i64 i, .int .i64 sg, .int .i64 n] ∧ i ≤ l.length ∧ nst (l.take i) = some (sg, n), fun vs => l.length - (toI (vs.getD 0 undef)).toNat, ?_, ?_⟩
    · exact ⟨0, 1, 0, rfl, Nat.zero_le _, rfl⟩
    · rintro vs hty ⟨i, sg, n, rfl, hi, hst⟩
      obtain ⟨hsg, hn⟩ := nst_lt hst
      have hn4 : n < 10000 := by
        have h1 : (l.take i).length ≤ 4 := by simp; omega
        have := Nat.pow_le_pow_right (n := 10) (by decide) h1
        omega
      refine ⟨fun hc => ?_, fun hc => ?_⟩
      · have hc : Value.bool (decide ((i : Int) < lenV (bv l))) = .bool true := hc
        have hc2 := hc
        rw [hlen] at hc2
        have hlt : i < l.length := by have := bt_of hc2; omega
        have hx := List.getElem?_eq_getElem hlt
        have hb : byteV (strV (bv l)) (i : Int) = (l[i].toNat : Int) := byte_bv hx
        have hw : IntKind.i64.wrap ((i : Int) + 1) = ((i + 1 : Nat) : Int) := by rw [wrap_in (by omega)]; omega
        have htk : l.take (i + 1) = l.take i ++ [l[i]] := by rw [List.take_add_one, hx]; rfl
        have hstep := nst_step (x := l[i]) hst
        rw [← htk] at hstep
        have hmu : ∀ a b, l.length - (toI ([Value.int .i64 (IntKind.i64.wrap ((i : Int) + 1)), a, b].getD 0 undef)).toNat < l.length - (toI ([Value.int .i64 (i : Int), .int .i64 sg, .int .i64 n].getD 0 undef)).toNat := by
          intro a b
          show l.length - (IntKind.i64.wrap ((i : Int) + 1)).toNat < l.length - ((i : Int)).toNat
          rw [hw, Int.toNat_natCast, Int.toNat_natCast]
          clear hn4 hst hstep
          omega
        have hnil : l.take i = [] ↔ i = 0 := by
          constructor
          · intro e
            exact (List.take_eq_nil_iff.1 e).elim id fun h => absurd h hne
          · rintro rfl; rfl
        have h0i : Value.bool (decide (0 ≤ (i : Int))) = .bool true := bt (Int.natCast_nonneg i)
        have hfail : nst (l.take (i + 1)) = none → snum l = none := by
          intro hnn
          have : nst l = none := by
            rw [← List.take_append_drop (i + 1) l]
            exact nst_none hnn
          unfold snum
          rw [if_pos h14.2, sraw_nst hne, this]
          rfl
        refine evs_step (need_step (all_cons (need_if fun _ => h0i) (all_cons (need_if fun _ => hc) all_nil)) (evs_nil ?_))
        refine ⟨fun hg => ?_, fun hg => ?_⟩
        · have hg : (if ((i : Int) == 0) = true then Value.bool (byteV (strV (bv l)) i == 45) else Value.bool false) = .bool true := hg
          rw [hb] at hg
          have hi0 : i = 0 := by
            by_cases e : i = 0
            · exact e
            · rw [if_neg (by simp; omega)] at hg; cases hg
          rw [if_pos (by simp [hi0])] at hg
          have h45 : l[i] = 45 := by
            have := Value.bool.inj hg
            have : (l[i].toNat : Int) = 45 := by simpa using this
            exact UInt8.toNat_inj.1 (by show l[i].toNat = 45; omega)
          rw [if_pos ⟨hnil.2 hi0, h45⟩] at hstep
          have hn0 : n = 0 := by
            rw [hnil.2 hi0] at hst
            cases hst; rfl
          refine ⟨⟨i + 1, -1, 0, ?_, hlt, hstep⟩, hmu _ _⟩
          show [Value.int .i64 (IntKind.i64.wrap ((i : Int) + 1)), .int .i64 (-1), .int .i64 n] = _
          rw [hw, hn0]
        · have hg : (if ((i : Int) == 0) = true then Value.bool (byteV (strV (bv l)) i == 45) else Value.bool false) = .bool false := hg
          rw [hb] at hg
          have hno45 : ¬ (l.take i = [] ∧ l[i] = 45) := by
            rintro ⟨e1, e2⟩
            rw [if_pos (by simp [hnil.1 e1]), e2] at hg
            cases hg
          rw [if_neg hno45] at hstep
          refine evs_step (need_step (all_cons h0i (all_cons hc all_nil)) (need_step (all_cons (need_if fun _ => h0i) (all_cons (need_if fun _ => hc) all_nil)) (evs_nil ?_)))
          refine ⟨fun hd => ?_, fun hd => ?_⟩
          · have hd : (if decide (byteV (strV (bv l)) i ≥ 48) = true then Value.bool (decide (byteV (strV (bv l)) i ≤ 57)) else Value.bool false) = .bool true := hd
            rw [hb] at hd
            have hdig : 48 ≤ l[i].toNat ∧ l[i].toNat ≤ 57 := by
              by_cases e : (l[i].toNat : Int) ≥ 48
              · rw [if_pos (by simpa using e)] at hd
                have := bt_of hd
                omega
              · rw [if_neg (by simpa using e)] at hd; cases hd
            rw [if_pos hdig] at hstep
            refine evs_step (need_step (all_cons h0i (all_cons hc all_nil)) (evs_nil ⟨⟨i + 1, sg, 10 * n + (l[i].toNat - 48), ?_, hlt, hstep⟩, hmu _ _⟩))
            show [Value.int .i64 (IntKind.i64.wrap ((i : Int) + 1)), .int .i64 sg, .int .i64 (IntKind.i64.wrap (IntKind.i64.wrap (10 * (n : Int)) + IntKind.i64.wrap (IntKind.u8.wrap (byteV (strV (bv l)) i - 48))))] = _
            rw [hw, hb]
            have e1 : IntKind.u8.wrap ((l[i].toNat : Int) - 48) = ((l[i].toNat - 48 : Nat) : Int) := by
              rw [wrap_of_range (k := .u8) (by simp only [IntKind.min, IntKind.bits, IntKind.signed]; simp; omega) (by simp only [IntKind.max, IntKind.bits, IntKind.signed]; simp; omega)]
              omega
            rw [e1, wrap_in (show I64 (((l[i].toNat - 48 : Nat) : Int)) by unfold I64; omega), wrap_in (show I64 (10 * (n : Int)) by unfold I64; omega), wrap_in (by omega)]
            congr 4
          · have hd : (if decide (byteV (strV (bv l)) i ≥ 48) = true then Value.bool (decide (byteV (strV (bv l)) i ≤ 57)) else Value.bool false) = .bool false := hd
            rw [hb] at hd
            have hdig : ¬ (48 ≤ l[i].toNat ∧ l[i].toNat ≤ 57) := by
              intro e
              rw [if_pos (by simp; omega)] at hd
              have := bf_of hd
              omega
            rw [if_neg hdig] at hstep
            exact hno (hfail hstep) 0 i640
      · have hc : Value.bool (decide ((i : Int) < lenV (bv l))) = .bool false := hc
        rw [hlen] at hc
        have hge : i = l.length := by have := bf_of hc; omega
        subst hge
        rw [List.take_length] at hst
        have hsr : sraw l = some (sg * (n : Int)) := by rw [sraw_nst hne, hst]; rfl
        have hb : I64 (sg * (n : Int)) := by
          unfold I64
          rcases hsg with rfl | rfl <;> omega
        have hw : IntKind.i64.wrap (sg * (n : Int)) = sg * (n : Int) := wrap_in hb
        refine evs_step (call_step rfl ⟨IntKind.i64.wrap (sg * (n : Int)), rfl, evs_nil ?_⟩)
        show K [Value.int .i64 (IntKind.i64.wrap (sg * (n : Int))), .bool ((strV (bv (Lib.itoa (IntKind.i64.wrap (sg * (n : Int)))))).toList == (strV (bv l)).toList)]
        rw [hw, seq_bv]
        unfold snum at hK
        rw [if_pos h14.2, hsr] at hK
        dsimp only at hK
        by_cases he : Lib.itoa (sg * (n : Int)) = l
        · rw [if_pos he] at hK
          rw [decide_eq_true he]
          exact hK
        · rw [if_neg he] at hK
          rw [decide_eq_false he]
          exact hK _ hb
def tr_l7One : Tr := (.ite (.cmp .lss ξ68 ξ49) (.ret [(.int .u8 0), (.val (.slice none 0 0)), ξ1, (.val (.agg #[]))]) (.evs [.need [ξ5, (.cmp .lss ξ0 ξ68)], .app (.val (.agg #[])) 1 (.cells [])] (.evs [.need [ξ5, (.cmp .leq ξ2 ξ68), (.cmp .leq ξ68 ξ68)], .call 0 [(.ssub ξ20 ξ2 ξ68), (.int .u8 58)] none 2] (.lp 0 [ξ0, ξ16, (.val (.agg #[]))] [.int .i64, .sl, .row .i64 1] (.ite (.cmp .lss ξ22 (.len ξ15)) (.evs [.need [(.inb ξ21 ξ22 1)], .call 1 [(.sel ξ21 ξ22 1 0)] none 2] (.ite (.not ξ26) (.ret [(.sidx ξ20 ξ0), ξ23, ξ1, ξ24]) (.evs [.app ξ24 1 (.cells [ξ25])] (.next 0 [(.ar .add .i64 ξ22 ξ2), ξ17, ξ18])))) (.ite (.cmp .eql (.sidx ξ20 ξ0) (.int .u8 114)) (.ite (.cmp .eql (.sidx ξ20 ξ0) (.int .u8 114)) ξ51 ξ11) (.ite (.cmp .eql (.sidx ξ20 ξ0) (.int .u8 102)) ξ51 ξ11)))))))
def Ss_l7One : List Spec := [SP_l7Cut, SP_l7Number, G_l5Direction.spec, G_l6In.spec]
def SP_l7One : Spec := SP_one
set_option maxHeartbeats 2000000 in
theorem sat_l7One (P : Program) (ins : List Value) (K : List Value → Prop) (_ : TypedL [.str] ins) (h : SP_l7One ins K) : sat P Ss_l7One tr_l7One ins [] K := by
  obtain ⟨s, rfl, hl, hK⟩ := h
  have hlen : lenV (bv s) = (s.length : Int) := len_bv s
  have hno : pieceW snum s = none → ∀ k x c, K [k, x, .bool false, c] := by
    intro hn
    rw [hn] at hK
    exact hK
  refine ⟨fun hc => ?_, fun hc => ?_⟩
  · have hc : Value.bool (decide (lenV (bv s) < 2)) = .bool true := hc
    rw [hlen] at hc
    have hlt := bt_of hc
    refine hno ?_ _ _ _
    match s, hlt with
    | [], _ => rfl
    | [k], _ => rfl
    | _ :: _ :: _, h => simp at h; omega
  · have hc : Value.bool (decide (lenV (bv s) < 2)) = .bool false := hc
    rw [hlen] at hc
    have hge := bf_of hc
    obtain ⟨k, r, rfl⟩ : ∃ k r, s = k :: r := by
      cases s with
      | nil => simp at hge
      | cons k r => exact ⟨k, r, rfl⟩
    have h0l : Value.bool (decide (0 < lenV (bv (k :: r)))) = .bool true := by
      rw [hlen]
      exact bt (by simp only [List.length_cons]; omega)
    refine evs_step (need_step (all_cons rfl (all_cons h0l all_nil)) (app_empty (by omega) fun a1 cap1 => evs_nil ?_))
    refine evs_step (need_step (all_cons rfl (all_cons ?_ (all_cons ?_ all_nil))) (call_step rfl ?_))
    · show Value.bool (decide (1 ≤ lenV (bv (k :: r)))) = _
      rw [hlen]
      exact bt (by simp only [List.length_cons]; omega)
    · show Value.bool (decide (lenV (bv (k :: r)) ≤ lenV (bv (k :: r)))) = _
      exact bt (Int.le_refl _)
    · refine ⟨r, 58, ?_, by simp at hl; omega, fun a2 len2 cap2 hl2 => evs_nil ?_⟩
      · show [Value.string ((strV (bv (k :: r))).extract 1 (lenV (bv (k :: r))).toNat), u8 58] = _
        rw [extract_bv, hlen]
        simp
      subst hl2
      refine ⟨fun vs => ∃ (i : Nat) (a : Option Addr) (cap : Nat) (ns : List Int), vs = [.int .i64 i, .slice a i cap, rowI ns] ∧ i ≤ (cut 58 r).length ∧ numsW snum ((cut 58 r).take i) = some ns, fun vs => (cut 58 r).length - (toI (vs.getD 0 undef)).toNat, ?_, ?_⟩
      · exact ⟨0, a1, cap1, [], rfl, Nat.zero_le _, rfl⟩
      · rintro vs hty ⟨i, a, cap, ns, rfl, hi, hns⟩
        have hnl : ns.length = i := by
          rw [numsW_length hns]; simp; omega
        have hcc := cut_count 58 r
        refine ⟨fun hc => ?_, fun hc => ?_⟩
        · have hlt : i < (cut 58 r).length := by
            have hc : Value.bool (decide ((i : Int) < ((cut 58 r).length : Int))) = .bool true := hc
            have := bt_of hc; omega
          have hx := List.getElem?_eq_getElem hlt
          have hw : IntKind.i64.wrap ((i : Int) + 1) = ((i + 1 : Nat) : Int) := by rw [wrap_in (by simp at hl; omega)]; omega
          have htk : (cut 58 r).take (i + 1) = (cut 58 r).take i ++ [(cut 58 r)[i]] := by rw [List.take_add_one, hx]; rfl
          have hwl := cut_len 58 r _ (List.getElem_mem hlt)
          have hsn := numsW_snoc (nm := snum) (w := (cut 58 r)[i]) (ws := (cut 58 r).take i)
          rw [hns] at hsn
          refine evs_step (need_step (all_cons (inb_true (c := rowS (cut 58 r)) (i := i) (n := 1) (by simp [rowS_cells]; omega)) all_nil) (call_step rfl ?_))
          refine ⟨(cut 58 r)[i], ?_, by simp at hl; omega, ?_⟩
          · show [(rowS (cut 58 r)).cells.getD (((i : Int)).toNat * 1 + 0) undef] = _
            rw [Int.toNat_natCast, rowS_get hx]
          cases hv : snum (cut 58 r)[i] with
          | none =>
            intro z _
            refine evs_nil (ite_t rfl ?_)
            refine hno ?_ _ _ _
            have : numsW snum (cut 58 r) = none := numsW_none hv (List.getElem_mem hlt)
            simp only [pieceW, this]
          | some n =>
            rw [hv] at hsn
            have hsn : numsW snum ((cut 58 r).take i ++ [(cut 58 r)[i]]) = some (ns ++ [n]) := hsn
            refine evs_nil (ite_f rfl ?_)
            refine evs_step (app_step (xs := intVals ns) (ys := [.int .i64 n]) rfl rfl (by rw [intVals_map]; simp; simp at hl; omega) fun a3 len3 cap3 _ hl3 => evs_nil ?_)
            have hl3 : len3 = i + 1 := by rw [intVals_map] at hl3; simp at hl3; omega
            subst hl3
            refine ⟨⟨i + 1, a3, cap3, ns ++ [n], ?_, hlt, by rw [htk]; exact hsn⟩, ?_⟩
            · rw [← rowI_snoc]
              show [Value.int .i64 (IntKind.i64.wrap ((i : Int) + 1)), .slice a3 (i + 1) cap3, Value.agg (intVals ns ++ [Value.int .i64 n]).toArray] = _
              rw [hw]
            · show (cut 58 r).length - (IntKind.i64.wrap ((i : Int) + 1)).toNat < (cut 58 r).length - ((i : Int)).toNat
              rw [hw, Int.toNat_natCast, Int.toNat_natCast]
              omega
        · have hge : i = (cut 58 r).length := by
            have hc : Value.bool (decide ((i : Int) < ((cut 58 r).length : Int))) = .bool false := hc
            have := bf_of hc; omega
          have hns2 : numsW snum (cut 58 r) = some ns := by
            rw [← hns, hge, List.take_length]
          have hdone : ∀ b, okPiece k ns = b → K [u8 k, .slice a i cap, .bool b, rowI ns] := by
            intro b hb
            simp only [pieceW, hns2, hb] at hK
            cases b with
            | true => exact hK a i cap hnl.symm
            | false => exact hK _ _ _
          clear hK hno hc hty hns hns2 hge hcc hi
          subst hnl
          have hneq : ∀ m : Nat, Value.bool ((ns.length : Int) != (m : Int)) = .bool (decide (ns.length ≠ m)) := by
            intro m
            congr 1
            by_cases e : ns.length = m
            · simp [e]
            · simp [e]; omega
          have heq : ∀ m : Nat, Value.bool ((ns.length : Int) == (m : Int)) = .bool (decide (ns.length = m)) := by
            intro m
            congr 1
            by_cases e : ns.length = m
            · simp [e]
            · simp [e]; omega
          rcases k_cases k with rfl | rfl | rfl | rfl | rfl | ⟨k1, k2, k3, k4, k5⟩
          · refine ite_t rfl (ite_t rfl ?_)
            by_cases h2 : ns.length = 2
            · obtain ⟨p, q, rfl⟩ := two_list h2
              refine ite_f rfl (evs_step (need_step (all_cons rfl (all_cons rfl all_nil)) (need_step (all_cons rfl (all_cons rfl all_nil)) (call_step rfl ⟨trivial, evs_nil ?_⟩))))
              exact hdone (dirOk p q) rfl
            · exact ite_t ((hneq 2).trans (bt h2)) (hdone false (ok_len2 (by simp) h2))
          · refine ite_f rfl (ite_t rfl ?_)
            by_cases h2 : ns.length = 2
            · obtain ⟨p, q, rfl⟩ := two_list h2
              refine ite_f rfl (evs_step (need_step (all_cons rfl (all_cons rfl all_nil)) (need_step (all_cons rfl (all_cons rfl all_nil)) (call_step rfl ⟨trivial, evs_nil ?_⟩))))
              exact hdone (dirOk p q) rfl
            · exact ite_t ((hneq 2).trans (bt h2)) (hdone false (ok_len2 (by simp) h2))
          · refine ite_f rfl (ite_f rfl (ite_t rfl ?_))
            by_cases h3 : ns.length = 3
            · obtain ⟨p, q, t, rfl⟩ := three_list h3
              refine ite_f rfl (evs_step (need_step (all_cons rfl (all_cons rfl all_nil)) (need_step (all_cons rfl (all_cons rfl all_nil)) (call_step rfl ⟨trivial, evs_nil ?_⟩))))
              refine evs_step (need_step (all_cons (need_if fun _ => rfl) all_nil) (need_step (all_cons (need_if fun _ => rfl) all_nil) (callg_step rfl (fun hg => ⟨trivial, evs_nil ?_⟩) (fun hg => evs_nil ?_))))
              · have hg : dirOk p q = true := hg
                have := hdone (dirOk p q && inRg t 0 3) rfl
                rw [hg, Bool.true_and] at this
                show K [_, _, (if toB (Value.bool (dirOk p q)) = true then Value.bool (inRg t 0 3) else Value.bool false), _]
                rw [hg]
                exact this
              · have hg : dirOk p q = false := hg
                have := hdone (dirOk p q && inRg t 0 3) rfl
                rw [hg, Bool.false_and] at this
                show K [_, _, (if toB (Value.bool (dirOk p q)) = true then _ else Value.bool false), _]
                rw [hg]
                exact this
            · exact ite_t ((hneq 3).trans (bt h3)) (hdone false (ok_len3 h3))
          · refine ite_f rfl (ite_f rfl (ite_f rfl (ite_t rfl (ite_t rfl ?_))))
            by_cases h2 : ns.length = 2
            · obtain ⟨n, d, rfl⟩ := two_list h2
              refine evs_step (need_step (all_cons (need_if fun _ => rfl) (all_cons (need_if fun _ => rfl) (all_cons (need_if fun _ => rfl) all_nil))) (need_step (all_cons (need_if fun _ => rfl) all_nil) (callg_step rfl (fun _ => ⟨trivial, ?_⟩) (fun hg => (by cases hg)))))
              refine need_step (all_cons (need_if fun _ => rfl) (all_cons (need_if fun _ => rfl) all_nil)) (callg_step rfl (fun hg => ⟨trivial, evs_nil ?_⟩) (fun hg => evs_nil ?_))
              · have hg : inRg d 1 100 = true := hg
                have := hdone (inRg d 1 100 && inRg n 0 d) rfl
                rw [hg, Bool.true_and] at this
                show K [_, _, (if toB (Value.bool (inRg d 1 100)) = true then Value.bool (inRg n 0 d) else Value.bool false), _]
                rw [hg]
                exact this
              · have hg : inRg d 1 100 = false := hg
                have := hdone (inRg d 1 100 && inRg n 0 d) rfl
                rw [hg, Bool.false_and] at this
                show K [_, _, (if toB (Value.bool (inRg d 1 100)) = true then _ else Value.bool false), _]
                rw [hg]
                exact this
            · have e2 : Value.bool ((ns.length : Int) == 2) = .bool false := (heq 2).trans (congrArg Value.bool (decide_eq_false h2))
              have g0 : ¬ toB (Value.bool ((ns.length : Int) == 2)) = true := by rw [e2]; simp
              refine evs_step (need_step (all_cons (need_if fun h => absurd h g0) (all_cons (need_if fun h => absurd h g0) (all_cons (need_if fun h => absurd h g0) all_nil))) (need_step (all_cons (need_if fun h => absurd h g0) all_nil) (callg_step rfl (fun h => absurd h g0) (fun _ => ?_))))
              have g1 : ∀ v : Value, ¬ toB (if toB (Value.bool ((ns.length : Int) == 2)) = true then v else Value.bool false) = true := by
                intro v
                rw [if_neg g0]
                simp
              refine need_step (all_cons (need_if fun h => absurd h (g1 _)) (all_cons (need_if fun h => absurd h (g1 _)) all_nil)) (callg_step rfl (fun h => absurd h (g1 _)) (fun _ => evs_nil ?_))
              show K [_, _, (if toB (if toB (Value.bool ((ns.length : Int) == 2)) = true then undef else Value.bool false) = true then undef else Value.bool false), _]
              rw [if_neg (g1 _)]
              exact hdone false (ok_len2 (by simp) h2)
          · refine ite_f rfl (ite_f rfl (ite_f rfl (ite_f rfl (ite_t rfl ?_))))
            by_cases h2 : ns.length = 2
            · obtain ⟨n, d, rfl⟩ := two_list h2
              refine evs_step (need_step (all_cons (need_if fun _ => rfl) (all_cons (need_if fun _ => rfl) (all_cons (need_if fun _ => rfl) all_nil))) (need_step (all_cons (need_if fun _ => rfl) all_nil) (callg_step rfl (fun _ => ⟨trivial, ?_⟩) (fun hg => (by cases hg)))))
              refine need_step (all_cons (need_if fun _ => rfl) (all_cons (need_if fun _ => rfl) all_nil)) (callg_step rfl (fun hg => ⟨trivial, evs_nil ?_⟩) (fun hg => evs_nil ?_))
              · have hg : inRg d 1 100 = true := hg
                have := hdone (inRg d 1 100 && inRg n 0 d) rfl
                rw [hg, Bool.true_and] at this
                show K [_, _, (if toB (Value.bool (inRg d 1 100)) = true then Value.bool (inRg n 0 d) else Value.bool false), _]
                rw [hg]
                exact this
              · have hg : inRg d 1 100 = false := hg
                have := hdone (inRg d 1 100 && inRg n 0 d) rfl
                rw [hg, Bool.false_and] at this
                show K [_, _, (if toB (Value.bool (inRg d 1 100)) = true then _ else Value.bool false), _]
                rw [hg]
                exact this
            · have e2 : Value.bool ((ns.length : Int) == 2) = .bool false := (heq 2).trans (congrArg Value.bool (decide_eq_false h2))
              have g0 : ¬ toB (Value.bool ((ns.length : Int) == 2)) = true := by rw [e2]; simp
              refine evs_step (need_step (all_cons (need_if fun h => absurd h g0) (all_cons (need_if fun h => absurd h g0) (all_cons (need_if fun h => absurd h g0) all_nil))) (need_step (all_cons (need_if fun h => absurd h g0) all_nil) (callg_step rfl (fun h => absurd h g0) (fun _ => ?_))))
              have g1 : ∀ v : Value, ¬ toB (if toB (Value.bool ((ns.length : Int) == 2)) = true then v else Value.bool false) = true := by
                intro v
                rw [if_neg g0]
                simp
              refine need_step (all_cons (need_if fun h => absurd h (g1 _)) (all_cons (need_if fun h => absurd h (g1 _)) all_nil)) (callg_step rfl (fun h => absurd h (g1 _)) (fun _ => evs_nil ?_))
              show K [_, _, (if toB (if toB (Value.bool ((ns.length : Int) == 2)) = true then undef else Value.bool false) = true then undef else Value.bool false), _]
              rw [if_neg (g1 _)]
              exact hdone false (ok_len2 (by simp) h2)
          · exact ite_f (beq_f k1) (ite_f (beq_f k2) (ite_f (beq_f k3) (ite_f (beq_f k4) (ite_f (beq_f k5) (hdone false (ok_other k1 k2 k3 k4 k5))))))
def tr_l7Bench : Tr := (.evs [.app (.val (.agg #[])) 2 (.cells [])] (.ite (.seq ξ20 (.val (.string ⟨#[]⟩))) (.ret [ξ16, ξ5, (.val (.agg #[]))]) (.ite (.cmp .gtr ξ68 (.int .i64 300)) (.ret [ξ16, ξ1, (.val (.agg #[]))]) (.evs [.call 0 [ξ20, (.int .u8 32)] none 2] (.lp 0 [ξ0, ξ16, (.val (.agg #[]))] [.int .i64, .sl, .rowC [.int .u8, .fat .i64 1]] (.ite (.cmp .lss ξ22 (.len ξ15)) (.evs [.need [(.inb ξ21 ξ22 1)], .call 1 [(.sel ξ21 ξ22 1 0)] none 4] (.ite (.not ξ17) (.ret [ξ23, ξ1, ξ24]) (.evs [.app ξ24 2 (.cells [ξ25, (.fat ξ26 ξ18)])] (.next 0 [(.ar .add .i64 ξ22 ξ2), ξ27, ξ42])))) (.ret [ξ23, (.cmp .leq (.len ξ23) (.int .i64 12)), ξ24])))))))
def Ss_l7Bench : List Spec := [SP_l7Cut, SP_l7One]
def SP_l7Bench : Spec := SP_sb
set_option maxHeartbeats 1000000 in
theorem sat_l7Bench (P : Program) (ins : List Value) (K : List Value → Prop) (_ : TypedL [.str] ins) (h : SP_l7Bench ins K) : sat P Ss_l7Bench tr_l7Bench ins [] K := by
  obtain ⟨s, rfl, hK⟩ := h
  have hlen : lenV (bv s) = (s.length : Int) := len_bv s
  have hno : benchW s = none → ∀ x c, K [x, .bool false, c] := by
    intro hn
    rw [hn] at hK
    exact hK
  refine evs_step (app_empty (by omega) fun a1 cap1 => evs_nil ?_)
  refine ⟨fun hc => ?_, fun hc => ?_⟩
  · have hc : Value.bool ((strV (bv s)).toList == (strV (bv [])).toList) = .bool true := hc
    rw [seq_bv] at hc
    have hs := bt_of hc
    subst hs
    exact hK a1 0 cap1 [] rfl (fun p hp => by cases hp) rfl
  · have hc : Value.bool ((strV (bv s)).toList == (strV (bv [])).toList) = .bool false := hc
    rw [seq_bv] at hc
    have hs := bf_of hc
    clear hc
    refine ⟨fun hc => ?_, fun hc => ?_⟩
    · have hc : Value.bool (decide (lenV (bv s) > 300)) = .bool true := hc
      rw [hlen] at hc
      have hgt := bt_of hc
      refine hno ?_ _ _
      cases hb : benchW s with
      | none => rfl
      | some ps => have := benchW_length hb; omega
    · have hc : Value.bool (decide (lenV (bv s) > 300)) = .bool false := hc
      rw [hlen] at hc
      have hle := bf_of hc
      refine evs_step (call_step rfl ⟨s, 32, rfl, by omega, fun a2 len2 cap2 hl2 => evs_nil ?_⟩)
      subst hl2
      have hcc := cut_count 32 s
      refine ⟨fun vs => ∃ (i : Nat) (a : Option Addr) (cap : Nat) (l : List PV), vs = [.int .i64 i, .slice a i cap, rowL l] ∧ i ≤ (cut 32 s).length ∧ pcsW ((cut 32 s).take i) = some (l.map Prod.fst) ∧ (∀ p ∈ l, SlOk p), fun vs => (cut 32 s).length - (toI (vs.getD 0 undef)).toNat, ?_, ?_⟩
      · exact ⟨0, a1, cap1, [], rfl, Nat.zero_le _, rfl, fun p hp => by cases hp⟩
      · rintro vs hty ⟨i, a, cap, l, rfl, hi, hps, hok⟩
        have hnl : l.length = i := by
          have := (pcsW_length hps).1
          simp at this; omega
        refine ⟨fun hc => ?_, fun hc => ?_⟩
        · have hlt : i < (cut 32 s).length := by
            have hc : Value.bool (decide ((i : Int) < ((cut 32 s).length : Int))) = .bool true := hc
            have := bt_of hc; omega
          have hx := List.getElem?_eq_getElem hlt
          have hw : IntKind.i64.wrap ((i : Int) + 1) = ((i + 1 : Nat) : Int) := by rw [wrap_in (by omega)]; omega
          have htk : (cut 32 s).take (i + 1) = (cut 32 s).take i ++ [(cut 32 s)[i]] := by rw [List.take_add_one, hx]; rfl
          have hwl := cut_len 32 s _ (List.getElem_mem hlt)
          have hsn := pcsW_snoc (w := (cut 32 s)[i]) (ws := (cut 32 s).take i)
          rw [hps] at hsn
          refine evs_step (need_step (all_cons (inb_true (c := rowS (cut 32 s)) (i := i) (n := 1) (by simp [rowS_cells]; omega)) all_nil) (call_step rfl ?_))
          refine ⟨(cut 32 s)[i], ?_, by omega, ?_⟩
          · show [(rowS (cut 32 s)).cells.getD (((i : Int)).toNat * 1 + 0) undef] = _
            rw [Int.toNat_natCast, rowS_get hx]
          rw [pieceW_same]
          cases hv : pieceW num (cut 32 s)[i] with
          | none =>
            intro k x c
            refine evs_nil (ite_t rfl ?_)
            refine hno ?_ _ _
            have : pcsW (cut 32 s) = none := pcsW_none hv (List.getElem_mem hlt)
            unfold benchW
            rw [if_neg hs, this]
          | some p =>
            obtain ⟨k, ns⟩ := p
            rw [hv] at hsn
            have hsn : pcsW ((cut 32 s).take i ++ [(cut 32 s)[i]]) = some (l.map Prod.fst ++ [⟨k, ns, (cut 32 s)[i]⟩]) := hsn
            intro a3 len3 cap3 hl3
            subst hl3
            refine evs_nil (ite_f rfl ?_)
            refine evs_step (app_step (xs := l.flatMap cL) (ys := cL (⟨k, ns, (cut 32 s)[i]⟩, .slice a3 ns.length cap3)) rfl rfl (by rw [flat_length (n := 2) (fun _ => rfl)]; simp [cL]; omega) fun a4 len4 cap4 _ hl4 => evs_nil ?_)
            have hl4 : len4 = i + 1 := by rw [flat_length (n := 2) (fun _ => rfl)] at hl4; simp [cL] at hl4; omega
            subst hl4
            refine ⟨⟨i + 1, a4, cap4, l ++ [(⟨k, ns, (cut 32 s)[i]⟩, .slice a3 ns.length cap3)], ?_, hlt, by rw [htk, hsn]; simp, fun p hp => ?_⟩, ?_⟩
            · rw [← rowL_snoc]
              show [Value.int .i64 (IntKind.i64.wrap ((i : Int) + 1)), .slice a4 (i + 1) cap4, Value.agg (l.flatMap cL ++ cL (⟨k, ns, (cut 32 s)[i]⟩, .slice a3 ns.length cap3)).toArray] = _
              rw [hw]
            · rcases List.mem_append.1 hp with hp | hp
              · exact hok p hp
              · rw [List.mem_singleton.1 hp]
                exact ⟨a3, cap3, rfl⟩
            · show (cut 32 s).length - (IntKind.i64.wrap ((i : Int) + 1)).toNat < (cut 32 s).length - ((i : Int)).toNat
              rw [hw, Int.toNat_natCast, Int.toNat_natCast]
              omega
        · have hge : i = (cut 32 s).length := by
            have hc : Value.bool (decide ((i : Int) < ((cut 32 s).length : Int))) = .bool false := hc
            have := bf_of hc; omega
          rw [hge, List.take_length] at hps
          show K [.slice a i cap, .bool (decide ((i : Int) ≤ 12)), rowL l]
          unfold benchW at hK
          rw [if_neg hs, hps] at hK
          dsimp only at hK
          rw [List.length_map, hnl] at hK
          by_cases h12 : i ≤ 12
          · rw [if_pos h12] at hK
            rw [decide_eq_true (by omega)]
            exact hK a i cap l rfl hok (by simp [hnl])
          · rw [if_neg h12] at hK
            rw [decide_eq_false (by omega)]
            exact hK _ _
def tr_readPiece : Tr := (.ite (.seq ξ20 (.val (.string ⟨#[]⟩))) (.ret [(.int .u8 0), (.val (.slice none 0 0)), ξ20, ξ1, (.val (.agg #[]))]) (.evs [.need [ξ5, (.cmp .lss ξ0 ξ68)]] (.evs [.need [ξ5, (.cmp .leq ξ2 ξ68), (.cmp .leq ξ68 ξ68)], .call 0 [(.ssub ξ20 ξ2 ξ68), (.val (.string ⟨#[58]⟩))] none 2] (.lp 0 [ξ0, (.val (.slice none 0 0)), (.val (.agg #[]))] [.int .i64, .sl, .row .i64 1] (.ite (.cmp .lss ξ15 (.len ξ16)) (.evs [.need [(.inb ξ14 ξ15 1)]] (.evs [.call 1 [(.sel ξ14 ξ15 1 0)] none 2] (.ite (.not ξ24) (.ret [(.sidx ξ20 ξ0), ξ21, ξ20, ξ1, ξ22]) (.evs [.app ξ22 1 (.cells [ξ23])] (.next 0 [(.ar .add .i64 ξ15 ξ2), ξ25, ξ26]))))) (.ite (.cmp .eql (.sidx ξ20 ξ0) (.int .u8 119)) (.ite (.cmp .neq (.len ξ21) (.int .i64 3)) (.ret [(.sidx ξ20 ξ0), ξ21, ξ20, ξ1, ξ22]) ξ35) (.ite (.cmp .neq (.len ξ21) ξ49) (.ret [(.sidx ξ20 ξ0), ξ21, ξ20, ξ1, ξ22]) ξ35)))))))
def Ss_readPiece : List Spec := [SP_Split, SP_plainNumber, G_direction.spec, G_within.spec]
def SP_readPiece : Spec := SP_rp
set_option maxHeartbeats 2000000 in
theorem sat_readPiece (P : Program) (ins : List Value) (K : List Value → Prop) (_ : TypedL [.str] ins) (h : SP_readPiece ins K) : sat P Ss_readPiece tr_readPiece ins [] K := by
  obtain ⟨s, rfl, hl, hK⟩ := h
  have hlen : lenV (bv s) = (s.length : Int) := len_bv s
  have hno : pieceW num s = none → ∀ k x t c, K [k, x, t, .bool false, c] := by
    intro hn
    rw [hn] at hK
    exact hK
  refine ⟨fun hc => ?_, fun hc => ?_⟩
  · have hc : Value.bool ((strV (bv s)).toList == (strV (bv [])).toList) = .bool true := hc
    rw [seq_bv] at hc
    have hs := bt_of hc
    subst hs
    exact hno rfl _ _ _ _
  · have hc : Value.bool ((strV (bv s)).toList == (strV (bv [])).toList) = .bool false := hc
    rw [seq_bv] at hc
    have hs := bf_of hc
    obtain ⟨k, r, rfl⟩ : ∃ k r, s = k :: r := by
      cases s with
      | nil => exact absurd rfl hs
      | cons k r => exact ⟨k, r, rfl⟩
    have h0l : Value.bool (decide (0 < lenV (bv (k :: r)))) = .bool true := by
      rw [hlen]
      exact bt (by simp only [List.length_cons]; omega)
    refine evs_step (need_step (all_cons rfl (all_cons h0l all_nil)) (evs_nil ?_))
    refine evs_step (need_step (all_cons rfl (all_cons ?_ (all_cons ?_ all_nil))) (call_step rfl ?_))
    · show Value.bool (decide (1 ≤ lenV (bv (k :: r)))) = _
      rw [hlen]
      exact bt (by simp only [List.length_cons]; omega)
    · show Value.bool (decide (lenV (bv (k :: r)) ≤ lenV (bv (k :: r)))) = _
      exact bt (Int.le_refl _)
    · refine ⟨r, 58, ?_, by simp at hl; omega, fun a2 len2 cap2 hl2 => evs_nil ?_⟩
      · show [Value.string ((strV (bv (k :: r))).extract 1 (lenV (bv (k :: r))).toNat), bv [58]] = _
        rw [extract_bv, hlen]
        simp
      subst hl2
      refine ⟨fun vs => ∃ (i : Nat) (a : Option Addr) (cap : Nat) (ns : List Int), vs = [.int .i64 i, .slice a i cap, rowI ns] ∧ i ≤ (cut 58 r).length ∧ numsW num ((cut 58 r).take i) = some ns, fun vs => (cut 58 r).length - (toI (vs.getD 0 undef)).toNat, ?_, ?_⟩
      · exact ⟨0, none, 0, [], rfl, Nat.zero_le _, rfl⟩
      · rintro vs hty ⟨i, a, cap, ns, rfl, hi, hns⟩
        have hnl : ns.length = i := by
          rw [numsW_length hns]; simp; omega
        have hcc := cut_count 58 r
        refine ⟨fun hc => ?_, fun hc => ?_⟩
        · have hlt : i < (cut 58 r).length := by
            have hc : Value.bool (decide ((i : Int) < ((cut 58 r).length : Int))) = .bool true := hc
            have := bt_of hc; omega
          have hx := List.getElem?_eq_getElem hlt
          have hw : IntKind.i64.wrap ((i : Int) + 1) = ((i + 1 : Nat) : Int) := by rw [wrap_in (by simp at hl; omega)]; omega
          have htk : (cut 58 r).take (i + 1) = (cut 58 r).take i ++ [(cut 58 r)[i]] := by rw [List.take_add_one, hx]; rfl
          have hwl := cut_len 58 r _ (List.getElem_mem hlt)
          have hsn := numsW_snoc (nm := num) (w := (cut 58 r)[i]) (ws := (cut 58 r).take i)
          rw [hns] at hsn
          refine evs_step (need_step (all_cons (inb_true (c := rowS (cut 58 r)) (i := i) (n := 1) (by simp [rowS_cells]; omega)) all_nil) (evs_nil ?_))
          refine evs_step (call_step rfl ?_)
          refine ⟨(cut 58 r)[i], ?_, by simp at hl; omega, ?_⟩
          · show [(rowS (cut 58 r)).cells.getD (((i : Int)).toNat * 1 + 0) undef] = _
            rw [Int.toNat_natCast, rowS_get hx]
          cases hv : num (cut 58 r)[i] with
          | none =>
            intro z _
            refine evs_nil (ite_t rfl ?_)
            refine hno ?_ _ _ _ _
            have : numsW num (cut 58 r) = none := numsW_none hv (List.getElem_mem hlt)
            simp only [pieceW, this]
          | some n =>
            rw [hv] at hsn
            have hsn : numsW num ((cut 58 r).take i ++ [(cut 58 r)[i]]) = some (ns ++ [n]) := hsn
            refine evs_nil (ite_f rfl ?_)
            refine evs_step (app_step (xs := intVals ns) (ys := [.int .i64 n]) rfl rfl (by rw [intVals_map]; simp; simp at hl; omega) fun a3 len3 cap3 _ hl3 => evs_nil ?_)
            have hl3 : len3 = i + 1 := by rw [intVals_map] at hl3; simp at hl3; omega
            subst hl3
            refine ⟨⟨i + 1, a3, cap3, ns ++ [n], ?_, hlt, by rw [htk]; exact hsn⟩, ?_⟩
            · rw [← rowI_snoc]
              show [Value.int .i64 (IntKind.i64.wrap ((i : Int) + 1)), .slice a3 (i + 1) cap3, Value.agg (intVals ns ++ [Value.int .i64 n]).toArray] = _
              rw [hw]
            · show (cut 58 r).length - (IntKind.i64.wrap ((i : Int) + 1)).toNat < (cut 58 r).length - ((i : Int)).toNat
              rw [hw, Int.toNat_natCast, Int.toNat_natCast]
              omega
        · have hge : i = (cut 58 r).length := by
            have hc : Value.bool (decide ((i : Int) < ((cut 58 r).length : Int))) = .bool false := hc
            have := bf_of hc; omega
          have hns2 : numsW num (cut 58 r) = some ns := by
            rw [← hns, hge, List.take_length]
          have hdone : ∀ b, okPiece k ns = b → K [u8 k, .slice a i cap, bv (k :: r), .bool b, rowI ns] := by
            intro b hb
            simp only [pieceW, hns2, hb] at hK
            cases b with
            | true => exact hK a i cap hnl.symm
            | false => exact hK _ _ _ _
          clear hK hno hc hty hns hns2 hge hcc hi
          subst hnl
          have hneq : ∀ m : Nat, Value.bool ((ns.length : Int) != (m : Int)) = .bool (decide (ns.length ≠ m)) := by
            intro m
            congr 1
            by_cases e : ns.length = m
            · simp [e]
            · simp [e]; omega
          rcases k_cases k with rfl | rfl | rfl | rfl | rfl | ⟨k1, k2, k3, k4, k5⟩
          · refine ite_f rfl ?_
            by_cases h2 : ns.length = 2
            · obtain ⟨p, q, rfl⟩ := two_list h2
              refine ite_f rfl (evs_step (need_step (all_cons rfl (all_cons rfl all_nil)) (need_step (all_cons rfl (all_cons rfl all_nil)) (call_step rfl ⟨trivial, evs_nil ?_⟩))))
              refine ite_t rfl (ite_t rfl ?_)
              exact hdone (dirOk p q) rfl
            · exact ite_t ((hneq 2).trans (bt h2)) (hdone false (ok_len2 (by simp) h2))
          · refine ite_f rfl ?_
            by_cases h2 : ns.length = 2
            · obtain ⟨p, q, rfl⟩ := two_list h2
              refine ite_f rfl (evs_step (need_step (all_cons rfl (all_cons rfl all_nil)) (need_step (all_cons rfl (all_cons rfl all_nil)) (call_step rfl ⟨trivial, evs_nil ?_⟩))))
              refine ite_f rfl (ite_t rfl ?_)
              exact hdone (dirOk p q) rfl
            · exact ite_t ((hneq 2).trans (bt h2)) (hdone false (ok_len2 (by simp) h2))
          · refine ite_t rfl ?_
            by_cases h3 : ns.length = 3
            · obtain ⟨p, q, t, rfl⟩ := three_list h3
              refine ite_f rfl (evs_step (need_step (all_cons rfl (all_cons rfl all_nil)) (need_step (all_cons rfl (all_cons rfl all_nil)) (call_step rfl ⟨trivial, evs_nil ?_⟩))))
              refine ite_f rfl (ite_f rfl (ite_t rfl ?_))
              refine evs_step (need_step (all_cons (need_if fun _ => rfl) all_nil) (need_step (all_cons (need_if fun _ => rfl) all_nil) (callg_step rfl (fun hg => ⟨trivial, evs_nil ?_⟩) (fun hg => evs_nil ?_))))
              · have hg : dirOk p q = true := hg
                have := hdone (dirOk p q && inRg t 0 3) rfl
                rw [hg, Bool.true_and] at this
                show K [_, _, _, (if toB (Value.bool (dirOk p q)) = true then Value.bool (inRg t 0 3) else Value.bool false), _]
                rw [hg]
                exact this
              · have hg : dirOk p q = false := hg
                have := hdone (dirOk p q && inRg t 0 3) rfl
                rw [hg, Bool.false_and] at this
                show K [_, _, _, (if toB (Value.bool (dirOk p q)) = true then _ else Value.bool false), _]
                rw [hg]
                exact this
            · exact ite_t ((hneq 3).trans (bt h3)) (hdone false (ok_len3 h3))
          · refine ite_f rfl ?_
            by_cases h2 : ns.length = 2
            · obtain ⟨n, d, rfl⟩ := two_list h2
              refine ite_f rfl (evs_step (need_step (all_cons rfl (all_cons rfl all_nil)) (need_step (all_cons rfl (all_cons rfl all_nil)) (call_step rfl ⟨trivial, evs_nil ?_⟩))))
              refine ite_f rfl (ite_f rfl (ite_f rfl (ite_t rfl (ite_t rfl ?_))))
              refine evs_step (need_step (all_cons rfl all_nil) (call_step rfl ⟨trivial, ?_⟩))
              refine need_step (all_cons (need_if fun _ => rfl) (all_cons (need_if fun _ => rfl) all_nil)) (callg_step rfl (fun hg => ⟨trivial, evs_nil ?_⟩) (fun hg => evs_nil ?_))
              · have hg : inRg d 1 100 = true := hg
                have := hdone (inRg d 1 100 && inRg n 0 d) rfl
                rw [hg, Bool.true_and] at this
                show K [_, _, _, (if toB (Value.bool (inRg d 1 100)) = true then Value.bool (inRg n 0 d) else Value.bool false), _]
                rw [hg]
                exact this
              · have hg : inRg d 1 100 = false := hg
                have := hdone (inRg d 1 100 && inRg n 0 d) rfl
                rw [hg, Bool.false_and] at this
                show K [_, _, _, (if toB (Value.bool (inRg d 1 100)) = true then _ else Value.bool false), _]
                rw [hg]
                exact this
            · exact ite_t ((hneq 2).trans (bt h2)) (hdone false (ok_len2 (by simp) h2))
          · refine ite_f rfl ?_
            by_cases h2 : ns.length = 2
            · obtain ⟨n, d, rfl⟩ := two_list h2
              refine ite_f rfl (evs_step (need_step (all_cons rfl (all_cons rfl all_nil)) (need_step (all_cons rfl (all_cons rfl all_nil)) (call_step rfl ⟨trivial, evs_nil ?_⟩))))
              refine ite_f rfl (ite_f rfl (ite_f rfl (ite_f rfl (ite_t rfl ?_))))
              refine evs_step (need_step (all_cons rfl all_nil) (call_step rfl ⟨trivial, ?_⟩))
              refine need_step (all_cons (need_if fun _ => rfl) (all_cons (need_if fun _ => rfl) all_nil)) (callg_step rfl (fun hg => ⟨trivial, evs_nil ?_⟩) (fun hg => evs_nil ?_))
              · have hg : inRg d 1 100 = true := hg
                have := hdone (inRg d 1 100 && inRg n 0 d) rfl
                rw [hg, Bool.true_and] at this
                show K [_, _, _, (if toB (Value.bool (inRg d 1 100)) = true then Value.bool (inRg n 0 d) else Value.bool false), _]
                rw [hg]
                exact this
              · have hg : inRg d 1 100 = false := hg
                have := hdone (inRg d 1 100 && inRg n 0 d) rfl
                rw [hg, Bool.false_and] at this
                show K [_, _, _, (if toB (Value.bool (inRg d 1 100)) = true then _ else Value.bool false), _]
                rw [hg]
                exact this
            · exact ite_t ((hneq 2).trans (bt h2)) (hdone false (ok_len2 (by simp) h2))
          · refine ite_f (beq_f k3) ?_
            by_cases h2 : ns.length = 2
            · obtain ⟨p, q, rfl⟩ := two_list h2
              refine ite_f rfl (evs_step (need_step (all_cons rfl (all_cons rfl all_nil)) (need_step (all_cons rfl (all_cons rfl all_nil)) (call_step rfl ⟨trivial, evs_nil ?_⟩))))
              exact ite_f (beq_f k1) (ite_f (beq_f k2) (ite_f (beq_f k3) (ite_f (beq_f k4) (ite_f (beq_f k5) (hdone false (ok_other k1 k2 k3 k4 k5))))))
            · exact ite_t ((hneq 2).trans (bt h2)) (hdone false (ok_other k1 k2 k3 k4 k5))
def tr_readBench : Tr := (.evs [.app (.val (.agg #[])) 3 (.cells [])] (.ite (.seq ξ20 (.val (.string ⟨#[]⟩))) (.ret [ξ16, ξ5, (.val (.agg #[]))]) (.evs [.call 0 [ξ20, (.val (.string ⟨#[32]⟩))] none 2] (.lp 0 [ξ0, ξ16, (.val (.agg #[]))] [.int .i64, .sl, .rowC [.int .u8, .fat .i64 1, .str]] (.ite (.cmp .lss ξ22 (.len ξ15)) (.evs [.need [(.inb ξ21 ξ22 1)]] (.evs [.call 1 [(.sel ξ21 ξ22 1 0)] none 5] (.ite (.ite (.not ξ18) ξ5 (.cmp .eql (.len ξ23) (.int .i64 12))) (.ret [(.val (.slice none 0 0)), ξ1, (.val (.agg #[]))]) (.evs [.app ξ24 3 (.cells [ξ25, (.fat ξ26 ξ27), ξ17])] (.next 0 [(.ar .add .i64 ξ22 ξ2), ξ42, ξ40]))))) (.ret [ξ23, ξ5, ξ24]))))))
def Ss_readBench : List Spec := [SP_Split, SP_readPiece]
def SP_readBench : Spec := SP_ib
set_option maxHeartbeats 1000000 in
theorem sat_readBench (P : Program) (ins : List Value) (K : List Value → Prop) (_ : TypedL [.str] ins) (h : SP_readBench ins K) : sat P Ss_readBench tr_readBench ins [] K := by
  obtain ⟨s, rfl, hl, hK⟩ := h
  have hno : benchW s = none → K [.slice none 0 0, .bool false, .agg #[]] := by
    intro hn
    rw [hn] at hK
    exact hK
  refine evs_step (app_empty (by omega) fun a1 cap1 => evs_nil ?_)
  refine ⟨fun hc => ?_, fun hc => ?_⟩
  · have hc : Value.bool ((strV (bv s)).toList == (strV (bv [])).toList) = .bool true := hc
    rw [seq_bv] at hc
    have hs := bt_of hc
    subst hs
    exact hK a1 0 cap1 [] rfl (fun p hp => by cases hp) rfl
  · have hc : Value.bool ((strV (bv s)).toList == (strV (bv [])).toList) = .bool false := hc
    rw [seq_bv] at hc
    have hs := bf_of hc
    clear hc
    refine evs_step (call_step rfl ⟨s, 32, rfl, hl, fun a2 len2 cap2 hl2 => evs_nil ?_⟩)
    subst hl2
    have hcc := cut_count 32 s
    refine ⟨fun vs => ∃ (i : Nat) (a : Option Addr) (cap : Nat) (l : List PV), vs = [.int .i64 i, .slice a i cap, rowB l] ∧ i ≤ (cut 32 s).length ∧ i ≤ 12 ∧ pcsW ((cut 32 s).take i) = some (l.map Prod.fst) ∧ (∀ p ∈ l, SlOk p), fun vs => (cut 32 s).length - (toI (vs.getD 0 undef)).toNat, ?_, ?_⟩
    · exact ⟨0, a1, cap1, [], rfl, Nat.zero_le _, Nat.zero_le _, rfl, fun p hp => by cases hp⟩
    · rintro vs hty ⟨i, a, cap, l, rfl, hi, h12, hps, hok⟩
      have hnl : l.length = i := by
        have := (pcsW_length hps).1
        simp at this; omega
      refine ⟨fun hc => ?_, fun hc => ?_⟩
      · have hlt : i < (cut 32 s).length := by
          have hc : Value.bool (decide ((i : Int) < ((cut 32 s).length : Int))) = .bool true := hc
          have := bt_of hc; omega
        have hx := List.getElem?_eq_getElem hlt
        have hw : IntKind.i64.wrap ((i : Int) + 1) = ((i + 1 : Nat) : Int) := by rw [wrap_in (by omega)]; omega
        have htk : (cut 32 s).take (i + 1) = (cut 32 s).take i ++ [(cut 32 s)[i]] := by rw [List.take_add_one, hx]; rfl
        have hwl := cut_len 32 s _ (List.getElem_mem hlt)
        have hsn := pcsW_snoc (w := (cut 32 s)[i]) (ws := (cut 32 s).take i)
        rw [hps] at hsn
        refine evs_step (need_step (all_cons (inb_true (c := rowS (cut 32 s)) (i := i) (n := 1) (by simp [rowS_cells]; omega)) all_nil) (evs_nil ?_))
        refine evs_step (call_step rfl ?_)
        refine ⟨(cut 32 s)[i], ?_, by omega, ?_⟩
        · show [(rowS (cut 32 s)).cells.getD (((i : Int)).toNat * 1 + 0) undef] = _
          rw [Int.toNat_natCast, rowS_get hx]
        cases hv : pieceW num (cut 32 s)[i] with
        | none =>
          intro k x t c
          refine evs_nil (ite_t rfl ?_)
          refine hno ?_
          have : pcsW (cut 32 s) = none := pcsW_none hv (List.getElem_mem hlt)
          unfold benchW
          rw [if_neg hs, this]
        | some p =>
          obtain ⟨k, ns⟩ := p
          rw [hv] at hsn
          have hsn : pcsW ((cut 32 s).take i ++ [(cut 32 s)[i]]) = some (l.map Prod.fst ++ [⟨k, ns, (cut 32 s)[i]⟩]) := hsn
          intro a3 len3 cap3 hl3
          subst hl3
          refine evs_nil ?_
          by_cases hfull : i = 12
          · refine ite_t ?_ (hno ?_)
            · show (if toB (Value.bool (!true)) = true then Value.bool true else Value.bool ((i : Int) == 12)) = _
              rw [hfull]; rfl
            · unfold benchW
              rw [if_neg hs]
              cases hq : pcsW (cut 32 s) with
              | none => rfl
              | some q =>
                have := (pcsW_length hq).1
                dsimp only
                rw [if_neg (by omega)]
          · refine ite_f ?_ ?_
            · show (if toB (Value.bool (!true)) = true then Value.bool true else Value.bool ((i : Int) == 12)) = _
              rw [if_neg (by simp)]
              congr 1
              rw [beq_eq_false_iff_ne]
              omega
            refine evs_step (app_step (xs := l.flatMap cB) (ys := cB (⟨k, ns, (cut 32 s)[i]⟩, .slice a3 ns.length cap3)) rfl rfl (by rw [flat_length (n := 3) (fun _ => rfl)]; simp [cB]; omega) fun a4 len4 cap4 _ hl4 => evs_nil ?_)
            have hl4 : len4 = i + 1 := by rw [flat_length (n := 3) (fun _ => rfl)] at hl4; simp [cB] at hl4; omega
            subst hl4
            refine ⟨⟨i + 1, a4, cap4, l ++ [(⟨k, ns, (cut 32 s)[i]⟩, .slice a3 ns.length cap3)], ?_, hlt, by omega, by rw [htk, hsn]; simp, fun p hp => ?_⟩, ?_⟩
            · rw [← rowB_snoc]
              show [Value.int .i64 (IntKind.i64.wrap ((i : Int) + 1)), .slice a4 (i + 1) cap4, Value.agg (l.flatMap cB ++ cB (⟨k, ns, (cut 32 s)[i]⟩, .slice a3 ns.length cap3)).toArray] = _
              rw [hw]
            · rcases List.mem_append.1 hp with hp | hp
              · exact hok p hp
              · rw [List.mem_singleton.1 hp]
                exact ⟨a3, cap3, rfl⟩
            · show (cut 32 s).length - (IntKind.i64.wrap ((i : Int) + 1)).toNat < (cut 32 s).length - ((i : Int)).toNat
              rw [hw, Int.toNat_natCast, Int.toNat_natCast]
              omega
      · have hge : i = (cut 32 s).length := by
          have hc : Value.bool (decide ((i : Int) < ((cut 32 s).length : Int))) = .bool false := hc
          have := bf_of hc; omega
        rw [hge, List.take_length] at hps
        unfold benchW at hK
        rw [if_neg hs, hps] at hK
        dsimp only at hK
        rw [List.length_map, hnl, if_pos h12] at hK
        exact hK a i cap l rfl hok (by simp [hnl])
def tr_ofG : Tr := (.evs [.call 0 [ξ68, ξ16, ξ14] none 3, .need [(.inb ξ15 ξ21 1)]] (.ret [(.sel ξ15 ξ21 1 0), ξ22, ξ23]))
def Ss_ofG (cb : CodeB) : List Spec := [(F_pickC cb).spec]
theorem pick_use {cb : CodeB} (hk : CodeOk cb) {m : Int} (hm : 1 ≤ m) (hm2 : m ≤ 1000) {b : Value} {z : Int} (hb : goodSl cb b) (h0 : 0 ≤ z) (hz : z ≤ 1000000000) {K : List Value → Prop} (hK : ∀ x, 0 ≤ x → x ≤ m - 1 → K [.int .i64 x, b, .int .i64 (z + 1)]) : (G_pick cb).spec [.int .i64 m, b, .int .i64 z] K := by
  have hn : I64 m := by unfold I64; omega
  obtain ⟨_, x, q2, q3, q4⟩ := pick_facts hk hb hn ⟨h0, hz⟩
  refine ⟨⟨hb, ⟨m, rfl, hn⟩, z, rfl, h0, hz⟩, ?_⟩
  have e : (G_pick cb).out [.int .i64 m, b, .int .i64 z] = [.int .i64 x, b, .int .i64 (z + 1)] := q2
  rw [e]
  exact hK x q3 (by omega)
theorem pk_step {P : Program} {cb : CodeB} (hk : CodeOk cb) {specs : List Spec} {j : Nat} (hs : specs[j]? = some (G_pick cb).spec) {mE bE zE : Ex} {r : List Evn} {env : List Value} {K : List Value → Prop} (m : Int) {b : Value} {z : Int}
    (em : ev env mE = .int .i64 m) (eb : ev env bE = b) (ez : ev env zE = .int .i64 z) (hm : 1 ≤ m ∧ m ≤ 1000) (hb : goodSl cb b) (hz : 0 ≤ z ∧ z ≤ 1000000)
    (h : ∀ x, 0 ≤ x → x ≤ m - 1 → evSat P specs r (env ++ [.int .i64 x, b, .int .i64 (z + 1)]) K) : evSat P specs (.call j [mE, bE, zE] none 3 :: r) env K := by
  refine call_step hs ?_
  show (G_pick cb).spec [ev env mE, ev env bE, ev env zE] _
  rw [em, eb, ez]
  exact pick_use hk hm.1 hm.2 hb hz.1 (by omega) h
def SP_ofG (cb : CodeB) : Spec := ofSpecG cb
theorem sat_ofG (P : Program) (cb : CodeB) (hk : CodeOk cb) (ins : List Value) (K : List Value → Prop) (_ : TypedL [.sl, .sl, .int .i64, .rowC [.str]] ins) (h : SP_ofG cb ins K) : sat P (Ss_ofG cb) tr_ofG ins [] K := by
  obtain ⟨q, b, z, c0, c1, c2, c3, c4, c5, c6, c7, rfl, hb, h0, hz, hc, hK⟩ := h
  refine evs_step ?_
  refine pk_step hk rfl 8 rfl rfl rfl (by omega) hb (by omega) fun x x0 x1 => ?_
  obtain ⟨n, rfl⟩ := Int.eq_ofNat_of_zero_le x0
  have hn : n < 8 := by omega
  refine need_step (all_cons (inb_true (c := .agg #[c0, c1, c2, c3, c4, c5, c6, c7]) (i := n) (n := 1) (by show (n + 1) * 1 ≤ 8; omega)) all_nil) (evs_nil ?_)
  refine hK _ _ _ ?_ hb (by omega) (by omega)
  have e : n = 0 ∨ n = 1 ∨ n = 2 ∨ n = 3 ∨ n = 4 ∨ n = 5 ∨ n = 6 ∨ n = 7 := by omega
  rcases e with rfl | rfl | rfl | rfl | rfl | rfl | rfl | rfl
  · exact hc c0 (by simp)
  · exact hc c1 (by simp)
  · exact hc c2 (by simp)
  · exact hc c3 (by simp)
  · exact hc c4 (by simp)
  · exact hc c5 (by simp)
  · exact hc c6 (by simp)
  · exact hc c7 (by simp)
def SP_ofC (cb : CodeB) : Spec := ofSpec cb
def tr_l92Piece : Tr := (.evs [.call 0 [(.int .i64 5), ξ16, ξ14] none 3, .call 1 [(.ar .sub .i64 ξ15 ξ49)] none 1] (.evs [.call 0 [ξ49, ξ21, ξ22] none 3, .call 1 [(.ar .add .i64 ξ2 ξ24)] none 1] (.evs [.call 0 [(.int .i64 5), ξ25, ξ26] none 3] (.ite (.cmp .eql ξ18 ξ0) (.evs [.need [(.cmp .leq (.len (.val (.string ⟨#[114]⟩))) ξ102)], .need [(.cmp .leq (.len (.scat (.val (.string ⟨#[114]⟩)) ξ23)) (.ar .sub .i64 ξ8 (.len (.val (.string ⟨#[58]⟩)))))], .need [(.cmp .leq (.len (.scat (.scat (.val (.string ⟨#[114]⟩)) ξ23) (.val (.string ⟨#[58]⟩)))) ξ77)]] (.ret [(.scat (.scat (.scat (.val (.string ⟨#[114]⟩)) ξ23) (.val (.string ⟨#[58]⟩))) ξ17), ξ27, ξ42])) (.ite (.cmp .eql ξ18 ξ2) (.ite (.cmp .eql ξ18 ξ2) (.evs [.need [(.cmp .leq (.len (.val (.string ⟨#[119]⟩))) ξ102)], .need [(.cmp .leq (.len (.scat (.val (.string ⟨#[119]⟩)) ξ23)) (.ar .sub .i64 ξ8 (.len (.val (.string ⟨#[58]⟩)))))], .need [(.cmp .leq (.len (.scat (.scat (.val (.string ⟨#[119]⟩)) ξ23) (.val (.string ⟨#[58]⟩)))) ξ77)], .need [(.cmp .leq (.len (.scat (.scat (.scat (.val (.string ⟨#[119]⟩)) ξ23) (.val (.string ⟨#[58]⟩))) ξ17)) (.ar .sub .i64 ξ8 (.len (.val (.string ⟨#[58]⟩)))))], .call 0 [(.int .i64 4), ξ27, ξ42] none 3, .call 1 [ξ40] none 1, .need [(.cmp .leq (.len (.scat (.scat (.scat (.scat (.val (.string ⟨#[119]⟩)) ξ23) (.val (.string ⟨#[58]⟩))) ξ17) (.val (.string ⟨#[58]⟩)))) (.ar .sub .i64 ξ8 (.len ξ45)))]] (.ret [(.scat (.scat (.scat (.scat (.scat (.val (.string ⟨#[119]⟩)) ξ23) (.val (.string ⟨#[58]⟩))) ξ17) (.val (.string ⟨#[58]⟩))) ξ45), ξ41, ξ44])) (.ite (.cmp .eql ξ18 (.int .i64 3)) (.evs [.need [(.cmp .leq (.len (.val (.string ⟨#[102]⟩))) ξ102)], .need [(.cmp .leq (.len (.scat (.val (.string ⟨#[102]⟩)) ξ23)) (.ar .sub .i64 ξ8 (.len (.val (.string ⟨#[58]⟩)))))], .need [(.cmp .leq (.len (.scat (.scat (.val (.string ⟨#[102]⟩)) ξ23) (.val (.string ⟨#[58]⟩)))) ξ77)]] (.ret [(.scat (.scat (.scat (.val (.string ⟨#[102]⟩)) ξ23) (.val (.string ⟨#[58]⟩))) ξ17), ξ27, ξ42])) (.evs [.call 0 [(.int .i64 4), ξ27, ξ42] none 3] (.evs [.call 0 [ξ49, ξ41, ξ44] (some ξ20) 3] (.ite (.ite ξ20 (.cmp .eql ξ45 ξ0) ξ1) (.evs [.call 0 ξ50 none 3, .call 1 [ξ58] none 1, .need [(.cmp .leq (.len (.val (.string ⟨#[100]⟩))) (.ar .sub .i64 ξ8 (.len ξ48)))], .need [(.cmp .leq (.len (.scat (.val (.string ⟨#[100]⟩)) ξ48)) (.ar .sub .i64 ξ8 (.len (.val (.string ⟨#[58]⟩)))))], .call 1 [(.ar .add .i64 ξ2 ξ40)] none 1, .need [(.cmp .leq (.len (.scat (.scat (.val (.string ⟨#[100]⟩)) ξ48) (.val (.string ⟨#[58]⟩)))) (.ar .sub .i64 ξ8 (.len ξ55)))]] (.ret [(.scat (.scat (.scat (.val (.string ⟨#[100]⟩)) ξ48) (.val (.string ⟨#[58]⟩))) ξ55), ξ64, ξ57])) (.evs [.call 0 ξ50 none 3, .call 1 [ξ58] none 1, .need [(.cmp .leq (.len (.val (.string ⟨#[97]⟩))) (.ar .sub .i64 ξ8 (.len ξ48)))], .need [(.cmp .leq (.len (.scat (.val (.string ⟨#[97]⟩)) ξ48)) (.ar .sub .i64 ξ8 (.len (.val (.string ⟨#[58]⟩)))))], .call 1 [(.ar .add .i64 ξ2 ξ40)] none 1, .need [(.cmp .leq (.len (.scat (.scat (.val (.string ⟨#[97]⟩)) ξ48) (.val (.string ⟨#[58]⟩)))) (.ar .sub .i64 ξ8 (.len ξ55)))]] (.ret [(.scat (.scat (.scat (.val (.string ⟨#[97]⟩)) ξ48) (.val (.string ⟨#[58]⟩))) ξ55), ξ64, ξ57]))))))) (.ite (.cmp .eql ξ18 ξ49) (.evs [.need [(.cmp .leq (.len (.val (.string ⟨#[119]⟩))) ξ102)], .need [(.cmp .leq (.len (.scat (.val (.string ⟨#[119]⟩)) ξ23)) (.ar .sub .i64 ξ8 (.len (.val (.string ⟨#[58]⟩)))))], .need [(.cmp .leq (.len (.scat (.scat (.val (.string ⟨#[119]⟩)) ξ23) (.val (.string ⟨#[58]⟩)))) ξ77)], .need [(.cmp .leq (.len (.scat (.scat (.scat (.val (.string ⟨#[119]⟩)) ξ23) (.val (.string ⟨#[58]⟩))) ξ17)) (.ar .sub .i64 ξ8 (.len (.val (.string ⟨#[58]⟩)))))], .call 0 [(.int .i64 4), ξ27, ξ42] none 3, .call 1 [ξ40] none 1, .need [(.cmp .leq (.len (.scat (.scat (.scat (.scat (.val (.string ⟨#[119]⟩)) ξ23) (.val (.string ⟨#[58]⟩))) ξ17) (.val (.string ⟨#[58]⟩)))) (.ar .sub .i64 ξ8 (.len ξ45)))]] (.ret [(.scat (.scat (.scat (.scat (.scat (.val (.string ⟨#[119]⟩)) ξ23) (.val (.string ⟨#[58]⟩))) ξ17) (.val (.string ⟨#[58]⟩))) ξ45), ξ41, ξ44])) (.ite (.cmp .eql ξ18 (.int .i64 3)) (.evs [.need [(.cmp .leq (.len (.val (.string ⟨#[102]⟩))) ξ102)], .need [(.cmp .leq (.len (.scat (.val (.string ⟨#[102]⟩)) ξ23)) (.ar .sub .i64 ξ8 (.len (.val (.string ⟨#[58]⟩)))))], .need [(.cmp .leq (.len (.scat (.scat (.val (.string ⟨#[102]⟩)) ξ23) (.val (.string ⟨#[58]⟩)))) ξ77)]] (.ret [(.scat (.scat (.scat (.val (.string ⟨#[102]⟩)) ξ23) (.val (.string ⟨#[58]⟩))) ξ17), ξ27, ξ42])) (.evs [.call 0 [(.int .i64 4), ξ27, ξ42] none 3] (.evs [.call 0 [ξ49, ξ41, ξ44] (some ξ20) 3] (.ite (.ite ξ20 (.cmp .eql ξ45 ξ0) ξ1) (.evs [.call 0 ξ50 none 3, .call 1 [ξ58] none 1, .need [(.cmp .leq (.len (.val (.string ⟨#[100]⟩))) (.ar .sub .i64 ξ8 (.len ξ48)))], .need [(.cmp .leq (.len (.scat (.val (.string ⟨#[100]⟩)) ξ48)) (.ar .sub .i64 ξ8 (.len (.val (.string ⟨#[58]⟩)))))], .call 1 [(.ar .add .i64 ξ2 ξ40)] none 1, .need [(.cmp .leq (.len (.scat (.scat (.val (.string ⟨#[100]⟩)) ξ48) (.val (.string ⟨#[58]⟩)))) (.ar .sub .i64 ξ8 (.len ξ55)))]] (.ret [(.scat (.scat (.scat (.val (.string ⟨#[100]⟩)) ξ48) (.val (.string ⟨#[58]⟩))) ξ55), ξ64, ξ57])) (.evs [.call 0 ξ50 none 3, .call 1 [ξ58] none 1, .need [(.cmp .leq (.len (.val (.string ⟨#[97]⟩))) (.ar .sub .i64 ξ8 (.len ξ48)))], .need [(.cmp .leq (.len (.scat (.val (.string ⟨#[97]⟩)) ξ48)) (.ar .sub .i64 ξ8 (.len (.val (.string ⟨#[58]⟩)))))], .call 1 [(.ar .add .i64 ξ2 ξ40)] none 1, .need [(.cmp .leq (.len (.scat (.scat (.val (.string ⟨#[97]⟩)) ξ48) (.val (.string ⟨#[58]⟩)))) (.ar .sub .i64 ξ8 (.len ξ55)))]] (.ret [(.scat (.scat (.scat (.val (.string ⟨#[97]⟩)) ξ48) (.val (.string ⟨#[58]⟩))) ξ55), ξ64, ξ57]))))))))))))
def Ss_l92Piece (cb : CodeB) : List Spec := [(F_pickC cb).spec, SP_l6Dec]
def SP_l92Piece (cb : CodeB) : Spec := drawT cb 15 10 200000
end Go.Sx
