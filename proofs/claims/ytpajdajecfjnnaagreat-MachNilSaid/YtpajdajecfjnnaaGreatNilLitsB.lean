/- The functions, second part; printed by a program. Conditions: none. -/
import Derived.Test.YtpajdajecfjnnaaGreatNilLitsA
set_option autoImplicit false
namespace Go.Ago.Nil
open Go Go.Ago

/- (*chiasmus/core.checker).valid -/
def f52 : AFunc := ⟨4, 331, [.tmp 8], true,
  (.seq (.region 1 [] [⟨(some 5), none, .box 0 (.t 1)⟩,
    ⟨(some 6), none, .lbox (.t 2) [325, 318, 314, 304, 298, 286, 281, 277, 269, 262, 258, 250, 243, 239, 231, 224, 219, 215, 207, 198, 184, 178, 166, 160, 156, 145, 138, 135, 129, 116, 106, 104, 102, 92, 88, 82, 77, 72, 66, 62, 57, 48, 44, 39, 34, 30]⟩,
    ⟨(some 8), none, .mv (.c (.bool false))⟩])
  (.seq (.region 0 [] [⟨(some 14), none, .mv (.t 0)⟩,
    ⟨(some 15), none, .nilck (.t 14)⟩,
    ⟨(some 16), none, .fld 2 (.t 15)⟩,
    ⟨(some 17), none, .ld 1 false (.t 16)⟩,
    ⟨(some 18), none, .bin .sub (.t 17) (.c (.int .i64 1))⟩,
    ⟨(some 19), none, .nilck (.t 14)⟩,
    ⟨(some 20), none, .fld 2 (.t 19)⟩,
    ⟨none, none, .st 1 (.t 20) (.t 18)⟩])
  (.seq (.seq (.region 0 [] [⟨(some 21), none, .mv (.t 0)⟩,
    ⟨(some 22), none, .nilck (.t 21)⟩,
    ⟨(some 23), none, .fld 2 (.t 22)⟩,
    ⟨(some 24), none, .ld 1 false (.t 23)⟩,
    ⟨(some 25), none, .bin .lss (.t 24) (.c (.int .i64 0))⟩,
    ⟨(some 26), none, .mv (.t 25)⟩,
    ⟨(some 27), (some (26, false)), .mv (.t 3)⟩,
    ⟨(some 28), (some (26, false)), .bin .gtr (.t 27) (.c (.int .i64 4000))⟩,
    ⟨(some 29), none, .pick (.t 26) (.c (.bool true)) (.t 28)⟩])
  (.cond (.t 29)
    (.seq (.region 0 [] [⟨(some 8), none, .mv (.c (.bool false))⟩])
    .ret)
    .skip))
  (.seq (.seq (.region 0 [] [⟨(some 30), none, .lfld 6 0 (.t 6)⟩,
    ⟨(some 31), none, .lld 6 1 false (.t 30)⟩,
    ⟨(some 32), none, .bin .neq (.t 31) (.c (.int .i64 4))⟩,
    ⟨(some 33), none, .mv (.t 32)⟩,
    ⟨(some 34), (some (33, true)), .lfld 6 0 (.t 6)⟩,
    ⟨(some 35), (some (33, true)), .lld 6 1 false (.t 34)⟩,
    ⟨(some 36), (some (33, true)), .bin .neq (.t 35) (.c (.int .i64 8))⟩,
    ⟨(some 37), none, .pick (.t 33) (.t 36) (.c (.bool false))⟩,
    ⟨(some 38), none, .mv (.t 37)⟩,
    ⟨(some 39), (some (38, true)), .lfld 6 4 (.t 6)⟩,
    ⟨(some 40), (some (38, true)), .lld 6 1 false (.t 39)⟩,
    ⟨(some 41), (some (38, true)), .len .slice (.t 40)⟩,
    ⟨(some 42), (some (38, true)), .bin .neq (.t 41) (.c (.int .i64 0))⟩,
    ⟨(some 43), none, .pick (.t 38) (.t 42) (.c (.bool false))⟩])
  (.cond (.t 43)
    (.seq (.region 0 [] [⟨(some 8), none, .mv (.c (.bool false))⟩])
    .ret)
    .skip))
  (.seq (.drawn 0 [] [⟨0, ⟨(some 44), none, .lfld 6 2 (.t 6)⟩, [], false⟩,
    ⟨1, ⟨(some 45), none, .lld 6 1 false (.t 44)⟩, [], false⟩,
    ⟨2, ⟨(some 46), none, .bin .geq (.t 45) (.c (.int .i64 0))⟩, [], false⟩,
    ⟨3, ⟨(some 47), none, .mv (.t 46)⟩, [], false⟩,
    ⟨4, ⟨(some 48), (some (47, true)), .lfld 6 2 (.t 6)⟩, [], false⟩,
    ⟨5, ⟨(some 49), (some (47, true)), .lld 6 1 false (.t 48)⟩, [], false⟩,
    ⟨6, ⟨(some 50), (some (47, true)), .mv (.t 0)⟩, [], false⟩,
    ⟨7, ⟨(some 51), (some (47, true)), .nilck (.t 50)⟩, [], false⟩,
    ⟨8, ⟨(some 52), (some (47, true)), .fld 0 (.t 51)⟩, [], false⟩,
    ⟨9, ⟨(some 53), (some (47, true)), .ld 1 false (.t 52)⟩, [], false⟩,
    ⟨10, ⟨(some 54), (some (47, true)), .len .slice (.t 53)⟩, [], false⟩,
    ⟨11, ⟨(some 55), (some (47, true)), .bin .leq (.t 49) (.t 54)⟩, [], false⟩,
    ⟨12, ⟨(some 56), none, .pick (.t 47) (.t 55) (.c (.bool false))⟩, [], false⟩,
    ⟨13, ⟨(some 9), none, .mv (.t 56)⟩, [], false⟩])
  (.seq (.seq (.region 0 [] [⟨(some 57), none, .lfld 6 0 (.t 6)⟩,
    ⟨(some 58), none, .lld 6 1 false (.t 57)⟩])
  (.block 0
    (.seq (.seq (.region 0 [] [⟨(some 60), none, .bin .eql (.t 58) (.c (.int .i64 0))⟩,
      ⟨(some 59), none, .mv (.t 60)⟩])
    (.cond (.t 59)
      .skip
      (.region 0 [] [⟨(some 61), none, .bin .eql (.t 58) (.c (.int .i64 5))⟩,
        ⟨(some 59), none, .mv (.t 61)⟩])))
    (.cond (.t 59)
      (.seq (.drawn 0 [] [⟨0, ⟨(some 62), none, .lfld 6 2 (.t 6)⟩, [], false⟩,
        ⟨1, ⟨(some 63), none, .lld 6 1 false (.t 62)⟩, [], false⟩,
        ⟨2, ⟨(some 64), none, .bin .eql (.t 63) (.c (.int .i64 0))⟩, [], false⟩,
        ⟨3, ⟨(some 65), none, .mv (.t 64)⟩, [], false⟩,
        ⟨4, ⟨(some 66), (some (65, true)), .lfld 6 3 (.t 6)⟩, [], false⟩,
        ⟨5, ⟨(some 67), (some (65, true)), .lld 6 1 false (.t 66)⟩, [], false⟩,
        ⟨6, ⟨(some 68), (some (65, true)), .len .slice (.t 67)⟩, [], false⟩,
        ⟨7, ⟨(some 69), (some (65, true)), .bin .eql (.t 68) (.c (.int .i64 0))⟩, [], false⟩,
        ⟨8, ⟨(some 70), none, .pick (.t 65) (.t 69) (.c (.bool false))⟩, [], false⟩,
        ⟨9, ⟨(some 71), none, .mv (.t 70)⟩, [], false⟩,
        ⟨10, ⟨(some 72), (some (71, true)), .lfld 6 1 (.t 6)⟩, [], false⟩,
        ⟨11, ⟨(some 73), (some (71, true)), .lld 6 1 false (.t 72)⟩, [], false⟩,
        ⟨12, ⟨(some 74), (some (71, true)), .call 65 [(.t 73)]⟩, [], false⟩,
        ⟨13, ⟨(some 75), none, .pick (.t 71) (.t 74) (.c (.bool false))⟩, [], false⟩,
        ⟨14, ⟨(some 76), none, .mv (.t 75)⟩, [], false⟩,
        ⟨15, ⟨(some 77), (some (76, true)), .lfld 6 0 (.t 6)⟩, [], false⟩,
        ⟨16, ⟨(some 78), (some (76, true)), .lld 6 1 false (.t 77)⟩, [], false⟩,
        ⟨17, ⟨(some 79), (some (76, true)), .call 51 [(.t 78)]⟩, [], false⟩,
        ⟨18, ⟨(some 80), (some (76, true)), .ixa (some 2) 1 (.t 5) (.t 79)⟩, [], false⟩,
        ⟨19, ⟨(some 81), (some (76, true)), .ld 1 false (.t 80)⟩, [], false⟩,
        ⟨20, ⟨(some 82), (some (76, true)), .lfld 6 1 (.t 6)⟩, [], false⟩,
        ⟨21, ⟨(some 83), (some (76, true)), .lld 6 1 false (.t 82)⟩, [], false⟩,
        ⟨22, ⟨(some 84), (some (76, true)), .lkp (.word .int) (.bool false) false (.t 81) (.t 83)⟩, [], false⟩,
        ⟨23, ⟨(some 85), none, .pick (.t 76) (.t 84) (.c (.bool false))⟩, [], false⟩,
        ⟨24, ⟨(some 8), none, .mv (.t 85)⟩, [], false⟩])
      .ret)
      (.seq (.region 0 [] [⟨(some 87), none, .bin .eql (.t 58) (.c (.int .i64 1))⟩,
        ⟨(some 86), none, .mv (.t 87)⟩])
      (.cond (.t 86)
        (.seq (.region 0 [] [⟨(some 88), none, .lfld 6 2 (.t 6)⟩,
          ⟨(some 89), none, .lld 6 1 false (.t 88)⟩,
          ⟨(some 90), none, .bin .eql (.t 89) (.c (.int .i64 0))⟩,
          ⟨(some 91), none, .mv (.t 90)⟩,
          ⟨(some 92), (some (91, true)), .lfld 6 3 (.t 6)⟩,
          ⟨(some 93), (some (91, true)), .lld 6 1 false (.t 92)⟩,
          ⟨(some 94), (some (91, true)), .len .slice (.t 93)⟩,
          ⟨(some 95), (some (91, true)), .bin .eql (.t 94) (.c (.int .i64 0))⟩,
          ⟨(some 96), none, .pick (.t 91) (.t 95) (.c (.bool false))⟩,
          ⟨(some 8), none, .mv (.t 96)⟩])
        .ret)
        (.seq (.seq (.region 0 [] [⟨(some 98), none, .bin .eql (.t 58) (.c (.int .i64 2))⟩,
          ⟨(some 97), none, .mv (.t 98)⟩])
        (.cond (.t 97)
          .skip
          (.region 0 [] [⟨(some 99), none, .bin .eql (.t 58) (.c (.int .i64 6))⟩,
            ⟨(some 97), none, .mv (.t 99)⟩])))
        (.cond (.t 97)
          (.seq (.region 0 [] [⟨(some 101), none, .mv (.t 0)⟩,
            ⟨(some 102), none, .lfld 6 2 (.t 6)⟩,
            ⟨(some 103), none, .lld 6 1 false (.t 102)⟩,
            ⟨(some 104), none, .lfld 6 1 (.t 6)⟩,
            ⟨(some 105), none, .lld 6 1 false (.t 104)⟩,
            ⟨(some 106), none, .lfld 6 0 (.t 6)⟩,
            ⟨(some 107), none, .lld 6 1 false (.t 106)⟩,
            ⟨(some 108), none, .bin .eql (.t 107) (.c (.int .i64 6))⟩,
            ⟨(some 109), none, .call 67 [(.t 101), (.t 103), (.t 105), (.t 108)]⟩,
            ⟨(some 100), none, .mv (.t 109)⟩,
            ⟨(some 110), none, .ext (.t 100) 0⟩,
            ⟨(some 111), none, .ext (.t 100) 1⟩,
            ⟨(some 10), none, .lalloc [(.str (bs [])), (.slice [] .nil)] [118]⟩,
            ⟨none, none, .lst 10 2 (.t 10) (.t 110)⟩,
            ⟨(some 11), none, .mv (.t 111)⟩])
          (.seq (.region 0 [] [⟨(some 112), none, .mv (.t 11)⟩,
            ⟨(some 113), none, .mv (.t 112)⟩,
            ⟨(some 114), (some (113, true)), .mv (.t 0)⟩,
            ⟨(some 115), (some (113, true)), .ld 2 true (.t 5)⟩,
            ⟨(some 116), (some (113, true)), .lfld 6 3 (.t 6)⟩,
            ⟨(some 117), (some (113, true)), .lld 6 1 false (.t 116)⟩,
            ⟨(some 118), (some (113, true)), .lfld 10 1 (.t 10)⟩,
            ⟨(some 119), (some (113, true)), .lld 10 1 false (.t 118)⟩,
            ⟨(some 120), (some (113, true)), .mv (.t 3)⟩,
            ⟨(some 121), (some (113, true)), .call 68 [(.t 114), (.t 115), (.t 117), (.t 119), (.t 120)]⟩,
            ⟨(some 122), none, .pick (.t 113) (.t 121) (.c (.bool false))⟩,
            ⟨(some 8), none, .mv (.t 122)⟩])
          .ret))
          (.seq (.seq (.region 0 [] [⟨(some 124), none, .bin .eql (.t 58) (.c (.int .i64 3))⟩,
            ⟨(some 123), none, .mv (.t 124)⟩])
          (.cond (.t 123)
            .skip
            (.region 0 [] [⟨(some 125), none, .bin .eql (.t 58) (.c (.int .i64 7))⟩,
              ⟨(some 123), none, .mv (.t 125)⟩])))
          (.cond (.t 123)
            (.seq (.seq (.region 0 [] [⟨(some 126), none, .mv (.t 9)⟩,
              ⟨(some 127), none, .un .not (.t 126)⟩,
              ⟨(some 128), none, .mv (.t 127)⟩,
              ⟨(some 129), (some (128, false)), .lfld 6 1 (.t 6)⟩,
              ⟨(some 130), (some (128, false)), .lld 6 1 false (.t 129)⟩,
              ⟨(some 131), (some (128, false)), .call 65 [(.t 130)]⟩,
              ⟨(some 132), (some (128, false)), .un .not (.t 131)⟩,
              ⟨(some 133), none, .pick (.t 128) (.c (.bool true)) (.t 132)⟩])
            (.cond (.t 133)
              (.seq (.region 0 [] [⟨(some 8), none, .mv (.c (.bool false))⟩])
              .ret)
              .skip))
            (.seq (.region 0 [] [⟨(some 134), none, .ld 2 true (.t 5)⟩,
              ⟨(some 135), none, .lfld 6 1 (.t 6)⟩,
              ⟨(some 136), none, .lld 6 1 false (.t 135)⟩,
              ⟨(some 137), none, .bslice 1 1 (.int .i64 0) [(0, (.t 136))]⟩,
              ⟨(some 138), none, .lfld 6 0 (.t 6)⟩,
              ⟨(some 139), none, .lld 6 1 false (.t 138)⟩,
              ⟨(some 140), none, .bin .eql (.t 139) (.c (.int .i64 3))⟩,
              ⟨(some 141), none, .bslice 1 1 (.bool false) [(0, (.t 140))]⟩,
              ⟨(some 142), none, .call 49 [(.t 134), (.t 137), (.t 141)]⟩,
              ⟨(some 12), none, .mv (.t 142)⟩])
            (.seq (.region 0 [] [⟨(some 143), none, .mv (.t 0)⟩,
              ⟨(some 144), none, .ld 2 true (.t 5)⟩,
              ⟨(some 145), none, .lfld 6 3 (.t 6)⟩,
              ⟨(some 146), none, .lld 6 1 false (.t 145)⟩,
              ⟨(some 147), none, .mv (.t 3)⟩,
              ⟨(some 148), none, .bslice 1 1 (.int .i64 0) [(0, (.c (.int .i64 2)))]⟩,
              ⟨(some 149), none, .call 69 [(.t 143), (.t 144), (.t 146), (.t 147), (.t 148)]⟩,
              ⟨(some 13), none, .mv (.t 149)⟩])
            (.seq (.region 0 [] [⟨(some 150), none, .mv (.t 12)⟩,
              ⟨(some 151), none, .callv (.t 150) []⟩])
            (.seq (.region 0 [] [⟨(some 152), none, .mv (.t 13)⟩,
              ⟨(some 8), none, .mv (.t 152)⟩])
            .ret)))))
            (.seq (.seq (.region 0 [] [⟨(some 154), none, .bin .eql (.t 58) (.c (.int .i64 4))⟩,
              ⟨(some 153), none, .mv (.t 154)⟩])
            (.cond (.t 153)
              .skip
              (.region 0 [] [⟨(some 155), none, .bin .eql (.t 58) (.c (.int .i64 8))⟩,
                ⟨(some 153), none, .mv (.t 155)⟩])))
            (.cond (.t 153)
              (.seq (.drawn 0 [] [⟨0, ⟨(some 156), none, .lfld 6 1 (.t 6)⟩, [], false⟩,
                ⟨1, ⟨(some 157), none, .lld 6 1 false (.t 156)⟩, [], false⟩,
                ⟨2, ⟨(some 158), none, .bin .eql (.t 157) (.c (.int .i64 0))⟩, [], false⟩,
                ⟨3, ⟨(some 159), none, .mv (.t 158)⟩, [], false⟩,
                ⟨4, ⟨(some 160), (some (159, true)), .lfld 6 3 (.t 6)⟩, [], false⟩,
                ⟨5, ⟨(some 161), (some (159, true)), .lld 6 1 false (.t 160)⟩, [], false⟩,
                ⟨6, ⟨(some 162), (some (159, true)), .len .slice (.t 161)⟩, [], false⟩,
                ⟨7, ⟨(some 163), (some (159, true)), .bin .eql (.t 162) (.c (.int .i64 0))⟩, [], false⟩,
                ⟨8, ⟨(some 164), none, .pick (.t 159) (.t 163) (.c (.bool false))⟩, [], false⟩,
                ⟨9, ⟨(some 165), none, .mv (.t 164)⟩, [], false⟩,
                ⟨10, ⟨(some 166), (some (165, true)), .lfld 6 2 (.t 6)⟩, [], false⟩,
                ⟨11, ⟨(some 167), (some (165, true)), .lld 6 1 false (.t 166)⟩, [], false⟩,
                ⟨12, ⟨(some 168), (some (165, true)), .bin .geq (.t 167) (.c (.int .i64 1))⟩, [], false⟩,
                ⟨13, ⟨(some 169), none, .pick (.t 165) (.t 168) (.c (.bool false))⟩, [], false⟩,
                ⟨14, ⟨(some 170), none, .mv (.t 169)⟩, [], false⟩,
                ⟨15, ⟨(some 171), (some (170, true)), .mv (.t 9)⟩, [], false⟩,
                ⟨16, ⟨(some 172), none, .pick (.t 170) (.t 171) (.c (.bool false))⟩, [], false⟩,
                ⟨17, ⟨(some 173), none, .mv (.t 172)⟩, [], false⟩,
                ⟨18, ⟨(some 174), (some (173, true)), .mv (.t 0)⟩, [], false⟩,
                ⟨19, ⟨(some 175), (some (173, true)), .nilck (.t 174)⟩, [], false⟩,
                ⟨20, ⟨(some 176), (some (173, true)), .fld 0 (.t 175)⟩, [], false⟩,
                ⟨21, ⟨(some 177), (some (173, true)), .ld 1 false (.t 176)⟩, [], false⟩,
                ⟨22, ⟨(some 178), (some (173, true)), .lfld 6 2 (.t 6)⟩, [], false⟩,
                ⟨23, ⟨(some 179), (some (173, true)), .lld 6 1 false (.t 178)⟩, [], false⟩,
                ⟨24, ⟨(some 180), (some (173, true)), .bin .sub (.t 179) (.c (.int .i64 1))⟩, [], false⟩,
                ⟨25, ⟨(some 181), (some (173, true)), .ixa none 3 (.t 177) (.t 180)⟩, [], false⟩,
                ⟨26, ⟨(some 182), (some (173, true)), .fld 1 (.t 181)⟩, [], false⟩,
                ⟨27, ⟨(some 183), (some (173, true)), .ld 1 false (.t 182)⟩, [], false⟩,
                ⟨28, ⟨(some 184), (some (173, true)), .lfld 6 0 (.t 6)⟩, [], false⟩,
                ⟨29, ⟨(some 185), (some (173, true)), .lld 6 1 false (.t 184)⟩, [], false⟩,
                ⟨30, ⟨(some 186), (some (173, true)), .bin .eql (.t 185) (.c (.int .i64 4))⟩, [], false⟩,
                ⟨31, ⟨(some 187), (some (173, true)), .eqv false .bool (.t 183) (.t 186)⟩, [], false⟩,
                ⟨32, ⟨(some 188), none, .pick (.t 173) (.t 187) (.c (.bool false))⟩, [], false⟩,
                ⟨33, ⟨(some 189), none, .mv (.t 188)⟩, [], false⟩,
                ⟨34, ⟨(some 190), (some (189, true)), .mv (.t 0)⟩, [], false⟩,
                ⟨35, ⟨(some 191), (some (189, true)), .ld 2 true (.t 5)⟩, [], false⟩,
                ⟨36, ⟨(some 192), (some (189, true)), .lld 6 5 true (.t 6)⟩, [], false⟩,
                ⟨37, ⟨(some 193), (some (189, true)), .mv (.t 3)⟩, [], false⟩,
                ⟨38, ⟨(some 194), (some (189, true)), .call 70 [(.t 190), (.t 191), (.t 192), (.t 193)]⟩, [], false⟩,
                ⟨39, ⟨(some 195), none, .pick (.t 189) (.t 194) (.c (.bool false))⟩, [], false⟩,
                ⟨40, ⟨(some 8), none, .mv (.t 195)⟩, [], false⟩])
              .ret)
              (.seq (.region 0 [] [⟨(some 197), none, .bin .eql (.t 58) (.c (.int .i64 9))⟩,
                ⟨(some 196), none, .mv (.t 197)⟩])
              (.cond (.t 196)
                (.seq (.region 0 [] [⟨(some 198), none, .lfld 6 1 (.t 6)⟩,
                  ⟨(some 199), none, .lld 6 1 false (.t 198)⟩,
                  ⟨(some 200), none, .bin .eql (.t 199) (.c (.int .i64 0))⟩,
                  ⟨(some 201), none, .mv (.t 200)⟩,
                  ⟨(some 202), (some (201, true)), .mv (.t 9)⟩,
                  ⟨(some 203), none, .pick (.t 201) (.t 202) (.c (.bool false))⟩,
                  ⟨(some 204), none, .mv (.t 203)⟩,
                  ⟨(some 205), (some (204, true)), .mv (.t 0)⟩,
                  ⟨(some 206), (some (204, true)), .ld 2 true (.t 5)⟩,
                  ⟨(some 207), (some (204, true)), .lfld 6 3 (.t 6)⟩,
                  ⟨(some 208), (some (204, true)), .lld 6 1 false (.t 207)⟩,
                  ⟨(some 209), (some (204, true)), .mv (.t 3)⟩,
                  ⟨(some 210), (some (204, true)), .bslice 1 2 (.int .i64 0) [(0, (.c (.int .i64 0))), (1, (.c (.int .i64 1)))]⟩,
                  ⟨(some 211), (some (204, true)), .call 69 [(.t 205), (.t 206), (.t 208), (.t 209), (.t 210)]⟩,
                  ⟨(some 212), none, .pick (.t 204) (.t 211) (.c (.bool false))⟩,
                  ⟨(some 8), none, .mv (.t 212)⟩])
                .ret)
                (.seq (.region 0 [] [⟨(some 214), none, .bin .eql (.t 58) (.c (.int .i64 10))⟩,
                  ⟨(some 213), none, .mv (.t 214)⟩])
                (.cond (.t 213)
                  (.seq (.region 0 [] [⟨(some 215), none, .lfld 6 2 (.t 6)⟩,
                    ⟨(some 216), none, .lld 6 1 false (.t 215)⟩,
                    ⟨(some 217), none, .bin .eql (.t 216) (.c (.int .i64 0))⟩,
                    ⟨(some 218), none, .mv (.t 217)⟩,
                    ⟨(some 219), (some (218, true)), .lfld 6 1 (.t 6)⟩,
                    ⟨(some 220), (some (218, true)), .lld 6 1 false (.t 219)⟩,
                    ⟨(some 221), (some (218, true)), .bin .geq (.t 220) (.c (.int .i64 0))⟩,
                    ⟨(some 222), none, .pick (.t 218) (.t 221) (.c (.bool false))⟩,
                    ⟨(some 223), none, .mv (.t 222)⟩,
                    ⟨(some 224), (some (223, true)), .lfld 6 1 (.t 6)⟩,
                    ⟨(some 225), (some (223, true)), .lld 6 1 false (.t 224)⟩,
                    ⟨(some 226), (some (223, true)), .bin .leq (.t 225) (.c (.int .i64 6))⟩,
                    ⟨(some 227), none, .pick (.t 223) (.t 226) (.c (.bool false))⟩,
                    ⟨(some 228), none, .mv (.t 227)⟩,
                    ⟨(some 229), (some (228, true)), .mv (.t 0)⟩,
                    ⟨(some 230), (some (228, true)), .ld 2 true (.t 5)⟩,
                    ⟨(some 231), (some (228, true)), .lfld 6 3 (.t 6)⟩,
                    ⟨(some 232), (some (228, true)), .lld 6 1 false (.t 231)⟩,
                    ⟨(some 233), (some (228, true)), .mv (.t 3)⟩,
                    ⟨(some 234), (some (228, true)), .bslice 1 3 (.int .i64 0) [(0, (.c (.int .i64 0))), (1, (.c (.int .i64 0))), (2, (.c (.int .i64 1)))]⟩,
                    ⟨(some 235), (some (228, true)), .call 69 [(.t 229), (.t 230), (.t 232), (.t 233), (.t 234)]⟩,
                    ⟨(some 236), none, .pick (.t 228) (.t 235) (.c (.bool false))⟩,
                    ⟨(some 8), none, .mv (.t 236)⟩])
                  .ret)
                  (.seq (.region 0 [] [⟨(some 238), none, .bin .eql (.t 58) (.c (.int .i64 11))⟩,
                    ⟨(some 237), none, .mv (.t 238)⟩])
                  (.cond (.t 237)
                    (.seq (.region 0 [] [⟨(some 239), none, .lfld 6 2 (.t 6)⟩,
                      ⟨(some 240), none, .lld 6 1 false (.t 239)⟩,
                      ⟨(some 241), none, .bin .eql (.t 240) (.c (.int .i64 0))⟩,
                      ⟨(some 242), none, .mv (.t 241)⟩,
                      ⟨(some 243), (some (242, true)), .lfld 6 1 (.t 6)⟩,
                      ⟨(some 244), (some (242, true)), .lld 6 1 false (.t 243)⟩,
                      ⟨(some 245), (some (242, true)), .bin .eql (.t 244) (.c (.int .i64 0))⟩,
                      ⟨(some 246), none, .pick (.t 242) (.t 245) (.c (.bool false))⟩,
                      ⟨(some 247), none, .mv (.t 246)⟩,
                      ⟨(some 248), (some (247, true)), .mv (.t 0)⟩,
                      ⟨(some 249), (some (247, true)), .ld 2 true (.t 5)⟩,
                      ⟨(some 250), (some (247, true)), .lfld 6 3 (.t 6)⟩,
                      ⟨(some 251), (some (247, true)), .lld 6 1 false (.t 250)⟩,
                      ⟨(some 252), (some (247, true)), .mv (.t 3)⟩,
                      ⟨(some 253), (some (247, true)), .bslice 1 3 (.int .i64 0) [(0, (.c (.int .i64 0))), (1, (.c (.int .i64 2))), (2, (.c (.int .i64 2)))]⟩,
                      ⟨(some 254), (some (247, true)), .call 69 [(.t 248), (.t 249), (.t 251), (.t 252), (.t 253)]⟩,
                      ⟨(some 255), none, .pick (.t 247) (.t 254) (.c (.bool false))⟩,
                      ⟨(some 8), none, .mv (.t 255)⟩])
                    .ret)
                    (.seq (.region 0 [] [⟨(some 257), none, .bin .eql (.t 58) (.c (.int .i64 12))⟩,
                      ⟨(some 256), none, .mv (.t 257)⟩])
                    (.cond (.t 256)
                      (.seq (.region 0 [] [⟨(some 258), none, .lfld 6 2 (.t 6)⟩,
                        ⟨(some 259), none, .lld 6 1 false (.t 258)⟩,
                        ⟨(some 260), none, .bin .eql (.t 259) (.c (.int .i64 0))⟩,
                        ⟨(some 261), none, .mv (.t 260)⟩,
                        ⟨(some 262), (some (261, true)), .lfld 6 1 (.t 6)⟩,
                        ⟨(some 263), (some (261, true)), .lld 6 1 false (.t 262)⟩,
                        ⟨(some 264), (some (261, true)), .bin .eql (.t 263) (.c (.int .i64 0))⟩,
                        ⟨(some 265), none, .pick (.t 261) (.t 264) (.c (.bool false))⟩,
                        ⟨(some 266), none, .mv (.t 265)⟩,
                        ⟨(some 267), (some (266, true)), .mv (.t 0)⟩,
                        ⟨(some 268), (some (266, true)), .ld 2 true (.t 5)⟩,
                        ⟨(some 269), (some (266, true)), .lfld 6 3 (.t 6)⟩,
                        ⟨(some 270), (some (266, true)), .lld 6 1 false (.t 269)⟩,
                        ⟨(some 271), (some (266, true)), .mv (.t 3)⟩,
                        ⟨(some 272), (some (266, true)), .bslice 1 2 (.int .i64 0) [(0, (.c (.int .i64 0))), (1, (.c (.int .i64 2)))]⟩,
                        ⟨(some 273), (some (266, true)), .call 69 [(.t 267), (.t 268), (.t 270), (.t 271), (.t 272)]⟩,
                        ⟨(some 274), none, .pick (.t 266) (.t 273) (.c (.bool false))⟩,
                        ⟨(some 8), none, .mv (.t 274)⟩])
                      .ret)
                      (.seq (.region 0 [] [⟨(some 276), none, .bin .eql (.t 58) (.c (.int .i64 13))⟩,
                        ⟨(some 275), none, .mv (.t 276)⟩])
                      (.cond (.t 275)
                        (.seq (.drawn 0 [] [⟨0, ⟨(some 277), none, .lfld 6 2 (.t 6)⟩, [], false⟩,
                          ⟨1, ⟨(some 278), none, .lld 6 1 false (.t 277)⟩, [], false⟩,
                          ⟨2, ⟨(some 279), none, .bin .eql (.t 278) (.c (.int .i64 0))⟩, [], false⟩,
                          ⟨3, ⟨(some 280), none, .mv (.t 279)⟩, [], false⟩,
                          ⟨4, ⟨(some 281), (some (280, true)), .lfld 6 1 (.t 6)⟩, [], false⟩,
                          ⟨5, ⟨(some 282), (some (280, true)), .lld 6 1 false (.t 281)⟩, [], false⟩,
                          ⟨6, ⟨(some 283), (some (280, true)), .bin .geq (.t 282) (.c (.int .i64 0))⟩, [], false⟩,
                          ⟨7, ⟨(some 284), none, .pick (.t 280) (.t 283) (.c (.bool false))⟩, [], false⟩,
                          ⟨8, ⟨(some 285), none, .mv (.t 284)⟩, [], false⟩,
                          ⟨9, ⟨(some 286), (some (285, true)), .lfld 6 1 (.t 6)⟩, [], false⟩,
                          ⟨10, ⟨(some 287), (some (285, true)), .lld 6 1 false (.t 286)⟩, [], false⟩,
                          ⟨11, ⟨(some 288), (some (285, true)), .mv (.t 0)⟩, [], false⟩,
                          ⟨12, ⟨(some 289), (some (285, true)), .nilck (.t 288)⟩, [], false⟩,
                          ⟨13, ⟨(some 290), (some (285, true)), .fld 1 (.t 289)⟩, [], false⟩,
                          ⟨14, ⟨(some 291), (some (285, true)), .ld 1 false (.t 290)⟩, [], false⟩,
                          ⟨15, ⟨(some 292), (some (285, true)), .len .slice (.t 291)⟩, [], false⟩,
                          ⟨16, ⟨(some 293), (some (285, true)), .bin .lss (.t 287) (.t 292)⟩, [], false⟩,
                          ⟨17, ⟨(some 294), none, .pick (.t 285) (.t 293) (.c (.bool false))⟩, [], false⟩,
                          ⟨18, ⟨(some 295), none, .mv (.t 294)⟩, [], false⟩,
                          ⟨19, ⟨(some 296), (some (295, true)), .mv (.t 0)⟩, [], false⟩,
                          ⟨20, ⟨(some 297), (some (295, true)), .ld 2 true (.t 5)⟩, [], false⟩,
                          ⟨21, ⟨(some 298), (some (295, true)), .lfld 6 3 (.t 6)⟩, [], false⟩,
                          ⟨22, ⟨(some 299), (some (295, true)), .lld 6 1 false (.t 298)⟩, [], false⟩,
                          ⟨23, ⟨(some 300), (some (295, true)), .mv (.t 0)⟩, [], false⟩,
                          ⟨24, ⟨(some 301), (some (295, true)), .nilck (.t 300)⟩, [], false⟩,
                          ⟨25, ⟨(some 302), (some (295, true)), .fld 1 (.t 301)⟩, [], false⟩,
                          ⟨26, ⟨(some 303), (some (295, true)), .ld 1 false (.t 302)⟩, [], false⟩,
                          ⟨27, ⟨(some 304), (some (295, true)), .lfld 6 1 (.t 6)⟩, [], false⟩,
                          ⟨28, ⟨(some 305), (some (295, true)), .lld 6 1 false (.t 304)⟩, [], false⟩,
                          ⟨29, ⟨(some 306), (some (295, true)), .ixa none 8 (.t 303) (.t 305)⟩, [], false⟩,
                          ⟨30, ⟨(some 307), (some (295, true)), .fld 1 (.t 306)⟩, [], false⟩,
                          ⟨31, ⟨(some 308), (some (295, true)), .ld 1 false (.t 307)⟩, [], false⟩,
                          ⟨32, ⟨(some 309), (some (295, true)), .mv (.t 3)⟩, [], false⟩,
                          ⟨33, ⟨(some 310), (some (295, true)), .call 68 [(.t 296), (.t 297), (.t 299), (.t 308), (.t 309)]⟩, [], false⟩,
                          ⟨34, ⟨(some 311), none, .pick (.t 295) (.t 310) (.c (.bool false))⟩, [], false⟩,
                          ⟨35, ⟨(some 8), none, .mv (.t 311)⟩, [], false⟩])
                        .ret)
                        (.seq (.region 0 [] [⟨(some 313), none, .bin .eql (.t 58) (.c (.int .i64 14))⟩,
                          ⟨(some 312), none, .mv (.t 313)⟩])
                        (.cond (.t 312)
                          (.seq (.region 0 [] [⟨(some 314), none, .lfld 6 2 (.t 6)⟩,
                            ⟨(some 315), none, .lld 6 1 false (.t 314)⟩,
                            ⟨(some 316), none, .bin .eql (.t 315) (.c (.int .i64 0))⟩,
                            ⟨(some 317), none, .mv (.t 316)⟩,
                            ⟨(some 318), (some (317, true)), .lfld 6 1 (.t 6)⟩,
                            ⟨(some 319), (some (317, true)), .lld 6 1 false (.t 318)⟩,
                            ⟨(some 320), (some (317, true)), .bin .eql (.t 319) (.c (.int .i64 0))⟩,
                            ⟨(some 321), none, .pick (.t 317) (.t 320) (.c (.bool false))⟩,
                            ⟨(some 322), none, .mv (.t 321)⟩,
                            ⟨(some 323), (some (322, true)), .mv (.t 0)⟩,
                            ⟨(some 324), (some (322, true)), .ld 2 true (.t 5)⟩,
                            ⟨(some 325), (some (322, true)), .lfld 6 3 (.t 6)⟩,
                            ⟨(some 326), (some (322, true)), .lld 6 1 false (.t 325)⟩,
                            ⟨(some 327), (some (322, true)), .mv (.t 3)⟩,
                            ⟨(some 328), (some (322, true)), .bslice 1 1 (.int .i64 0) [(0, (.c (.int .i64 0)))]⟩,
                            ⟨(some 329), (some (322, true)), .call 69 [(.t 323), (.t 324), (.t 326), (.t 327), (.t 328)]⟩,
                            ⟨(some 330), none, .pick (.t 322) (.t 329) (.c (.bool false))⟩,
                            ⟨(some 8), none, .mv (.t 330)⟩])
                          .ret)
                          .skip))))))))))))))))))))))))
  (.seq (.region 0 [] [⟨(some 8), none, .mv (.c (.bool false))⟩])
  .ret)))))))⟩

/- chiasmus/kind.newChecker -/
def f53 : AFunc := ⟨1, 45, [.tmp 2], true,
  (.seq (.region 0 [] [⟨(some 1), none, .lbox (.t 0) []⟩,
    ⟨(some 2), none, .mv (.c .nilptr)⟩])
  (.seq (.region 3 [(0, (.map [] 0)), (1, (.map [] 0))] [⟨(some 4), none, .lld 1 2 true (.t 1)⟩,
    ⟨(some 5), none, .mkmap 0⟩,
    ⟨(some 6), none, .mkmap 1⟩,
    ⟨(some 7), none, .build [(.map none), (.map none)] [(0, 1, (.t 5)), (1, 1, (.t 6))]⟩,
    ⟨(some 8), none, .build [(.slice [] .nil), (.slice [] .nil), (.map none), (.map none), .nilfunc, .nilfunc, .nilfunc, .nilfunc, .nilfunc, .nilfunc, .nilfunc, .nilfunc, .nilfunc, .nilfunc, .nilfunc, .nilfunc, .nilfunc, .nilfunc, .nilfunc] [(0, 2, (.t 4)), (2, 2, (.t 7))]⟩,
    ⟨(some 9), none, .box 2 (.t 8)⟩,
    ⟨(some 3), none, .mv (.t 9)⟩])
  (.seq (.region 0 [] [⟨(some 10), none, .mv (.t 3)⟩,
    ⟨(some 11), none, .mv (.t 3)⟩,
    ⟨(some 12), none, .mkfn 71 [(.t 11)] []⟩,
    ⟨(some 13), none, .mv (.t 3)⟩,
    ⟨(some 14), none, .mkfn 72 [(.t 13)] []⟩,
    ⟨(some 15), none, .mv (.t 3)⟩,
    ⟨(some 16), none, .mkfn 73 [(.t 15)] []⟩,
    ⟨(some 17), none, .mv (.t 3)⟩,
    ⟨(some 18), none, .mkfn 74 [(.t 17)] []⟩,
    ⟨(some 19), none, .mv (.t 3)⟩,
    ⟨(some 20), none, .mkfn 75 [(.t 19)] []⟩,
    ⟨(some 21), none, .mv (.t 3)⟩,
    ⟨(some 22), none, .mkfn 71 [(.t 21)] []⟩,
    ⟨(some 23), none, .mv (.t 3)⟩,
    ⟨(some 24), none, .mkfn 73 [(.t 23)] []⟩,
    ⟨(some 25), none, .mv (.t 3)⟩,
    ⟨(some 26), none, .mkfn 74 [(.t 25)] []⟩,
    ⟨(some 27), none, .mv (.t 3)⟩,
    ⟨(some 28), none, .mkfn 75 [(.t 27)] []⟩,
    ⟨(some 29), none, .mv (.t 3)⟩,
    ⟨(some 30), none, .mkfn 76 [(.t 29)] []⟩,
    ⟨(some 31), none, .mv (.t 3)⟩,
    ⟨(some 32), none, .mkfn 77 [(.t 31)] []⟩,
    ⟨(some 33), none, .mv (.t 3)⟩,
    ⟨(some 34), none, .mkfn 78 [(.t 33)] []⟩,
    ⟨(some 35), none, .mv (.t 3)⟩,
    ⟨(some 36), none, .mkfn 78 [(.t 35)] []⟩,
    ⟨(some 37), none, .mv (.t 3)⟩,
    ⟨(some 38), none, .mkfn 79 [(.t 37)] []⟩,
    ⟨(some 39), none, .mv (.t 3)⟩,
    ⟨(some 40), none, .mkfn 78 [(.t 39)] []⟩,
    ⟨(some 41), none, .build [.nilfunc, .nilfunc, .nilfunc, .nilfunc, .nilfunc, .nilfunc, .nilfunc, .nilfunc, .nilfunc, .nilfunc, .nilfunc, .nilfunc, .nilfunc, .nilfunc, .nilfunc] [(0, 1, (.t 12)), (1, 1, (.t 14)), (2, 1, (.t 16)), (3, 1, (.t 18)), (4, 1, (.t 20)), (5, 1, (.t 22)), (6, 1, (.t 24)), (7, 1, (.t 26)), (8, 1, (.t 28)), (9, 1, (.t 30)), (10, 1, (.t 32)), (11, 1, (.t 34)), (12, 1, (.t 36)), (13, 1, (.t 38)), (14, 1, (.t 40))]⟩,
    ⟨(some 42), none, .nilck (.t 10)⟩,
    ⟨(some 43), none, .fld 4 (.t 42)⟩,
    ⟨none, none, .st 15 (.t 43) (.t 41)⟩])
  (.seq (.region 0 [] [⟨(some 44), none, .mv (.t 3)⟩,
    ⟨(some 2), none, .mv (.t 44)⟩])
  .ret))))⟩

/- (*chiasmus/kind.checker).bind -/
def f54 : AFunc := ⟨3, 59, [.tmp 6], true,
  (.seq (.region 1 [] [⟨(some 3), none, .box 0 (.t 0)⟩,
    ⟨(some 6), none, .mv (.c .nilfunc)⟩])
  (.seq (.region 1 [(0, (.cells [(.slice [] .nil)]))] [⟨(some 7), none, .alloc 0 [(.slice [] .nil)]⟩])
  (.seq (.seq (.region 0 [] [⟨(some 13), none, .mv (.t 1)⟩,
    ⟨(some 14), none, .len .slice (.t 13)⟩,
    ⟨(some 15), none, .mv (.c (.int .i64 0))⟩])
  (.block 0
    (.loop
      (.seq (.region 0 [] [⟨(some 16), none, .bin .lss (.t 15) (.t 14)⟩])
      (.seq (.cond (.t 16)
        .skip
        (.exit 0))
      (.seq (.block 1
        (.seq (.region 0 [] [⟨(some 17), none, .mv (.t 15)⟩,
          ⟨(some 18), none, .ixa none 1 (.t 13) (.t 15)⟩,
          ⟨(some 19), none, .ld 1 false (.t 18)⟩,
          ⟨(some 8), none, .mv (.t 17)⟩,
          ⟨(some 9), none, .mv (.t 19)⟩])
        (.seq (.region 0 [] [⟨(some 20), none, .mv (.t 2)⟩,
          ⟨(some 21), none, .mv (.t 8)⟩,
          ⟨(some 22), none, .ixa none 2 (.t 20) (.t 21)⟩,
          ⟨(some 23), none, .fld 1 (.t 22)⟩,
          ⟨(some 24), none, .ld 1 false (.t 23)⟩,
          ⟨(some 25), none, .call 80 [(.t 24)]⟩,
          ⟨(some 10), none, .mv (.t 25)⟩])
        (.seq (.region 0 [] [⟨(some 27), none, .ld 1 false (.t 3)⟩,
          ⟨(some 28), none, .mv (.t 10)⟩,
          ⟨(some 29), none, .nilck (.t 27)⟩,
          ⟨(some 30), none, .fld 2 (.t 29)⟩,
          ⟨(some 31), none, .ixa (some 2) 1 (.t 30) (.t 28)⟩,
          ⟨(some 32), none, .ld 1 false (.t 31)⟩,
          ⟨(some 33), none, .mv (.t 9)⟩,
          ⟨(some 34), none, .lkp (.word .int) (.int .i64 0) true (.t 32) (.t 33)⟩,
          ⟨(some 26), none, .mv (.t 34)⟩,
          ⟨(some 35), none, .ext (.t 26) 0⟩,
          ⟨(some 36), none, .ext (.t 26) 1⟩,
          ⟨(some 11), none, .mv (.t 35)⟩,
          ⟨(some 12), none, .mv (.t 36)⟩])
        (.seq (.region 1 [] [⟨(some 37), none, .ld 1 false (.t 7)⟩,
          ⟨(some 38), none, .mv (.t 10)⟩,
          ⟨(some 39), none, .mv (.t 9)⟩,
          ⟨(some 40), none, .mv (.t 11)⟩,
          ⟨(some 41), none, .mv (.t 12)⟩,
          ⟨(some 42), none, .build [(.int .i64 0), (.int .i64 0), (.int .i64 0), (.bool false)] [(0, 1, (.t 38)), (1, 1, (.t 39)), (2, 1, (.t 40)), (3, 1, (.t 41))]⟩,
          ⟨(some 43), none, .bslice 4 1 (.agg [(.int .i64 0), (.int .i64 0), (.int .i64 0), (.bool false)]) [(0, (.t 42))]⟩,
          ⟨(some 44), none, .app 0 4 32 (.t 37) (.t 43)⟩,
          ⟨none, none, .st 1 (.t 7) (.t 44)⟩])
        (.drawn 0 [] [⟨0, ⟨(some 45), none, .ld 1 false (.t 3)⟩, [], false⟩,
          ⟨1, ⟨(some 46), none, .mv (.t 10)⟩, [], false⟩,
          ⟨2, ⟨(some 47), none, .nilck (.t 45)⟩, [], false⟩,
          ⟨3, ⟨(some 48), none, .fld 2 (.t 47)⟩, [], false⟩,
          ⟨4, ⟨(some 49), none, .ixa (some 2) 1 (.t 48) (.t 46)⟩, [], false⟩,
          ⟨5, ⟨(some 50), none, .ld 1 false (.t 49)⟩, [], false⟩,
          ⟨6, ⟨(some 51), none, .mv (.t 9)⟩, [], false⟩,
          ⟨7, ⟨(some 52), none, .mv (.t 2)⟩, [], false⟩,
          ⟨8, ⟨(some 53), none, .mv (.t 8)⟩, [], false⟩,
          ⟨9, ⟨(some 54), none, .ixa none 2 (.t 52) (.t 53)⟩, [], false⟩,
          ⟨10, ⟨(some 55), none, .fld 0 (.t 54)⟩, [], false⟩,
          ⟨11, ⟨(some 56), none, .ld 1 false (.t 55)⟩, [], false⟩,
          ⟨12, ⟨none, none, .mset (.word .int) (.t 50) (.t 51) (.t 56)⟩, [], false⟩]))))))
      (.region 0 [] [⟨(some 57), none, .bin .add (.t 15) (.c (.int .i64 1))⟩,
        ⟨(some 15), none, .mv (.t 57)⟩])))))))
  (.seq (.region 0 [] [⟨(some 58), none, .mkfn 81 [] [(.t 7), (.t 3)]⟩,
    ⟨(some 6), none, .mv (.t 58)⟩])
  .ret))))⟩

/- (*chiasmus/kind.checker).typ -/
def f55 : AFunc := ⟨2, 17, [.tmp 4, .tmp 5], true,
  (.seq (.region 0 [] [⟨(some 3), none, .lbox (.t 1) [7]⟩,
    ⟨(some 4), none, .mv (.c (.int .i64 0))⟩,
    ⟨(some 5), none, .mv (.c (.bool false))⟩])
  (.seq (.drawn 0 [] [⟨0, ⟨(some 6), none, .mv (.t 0)⟩, [], false⟩,
    ⟨1, ⟨(some 7), none, .lfld 3 0 (.t 3)⟩, [], false⟩,
    ⟨2, ⟨(some 8), none, .lld 3 1 false (.t 7)⟩, [], false⟩,
    ⟨3, ⟨(some 9), none, .nilck (.t 6)⟩, [], false⟩,
    ⟨4, ⟨(some 10), none, .fld 4 (.t 9)⟩, [], false⟩,
    ⟨5, ⟨(some 11), none, .ixa (some 15) 1 (.t 10) (.t 8)⟩, [], false⟩,
    ⟨6, ⟨(some 12), none, .ld 1 false (.t 11)⟩, [], false⟩,
    ⟨7, ⟨(some 13), none, .lld 3 5 true (.t 3)⟩, [], false⟩,
    ⟨8, ⟨(some 14), none, .callv (.t 12) [(.t 13)]⟩, [], false⟩,
    ⟨9, ⟨(some 15), none, .ext (.t 14) 0⟩, [], false⟩,
    ⟨10, ⟨(some 16), none, .ext (.t 14) 1⟩, [], false⟩,
    ⟨11, ⟨(some 4), none, .mv (.t 15)⟩, [], false⟩,
    ⟨12, ⟨(some 5), none, .mv (.t 16)⟩, [], false⟩])
  .ret))⟩

/- chiasmus/focus.small -/
def f56 : AFunc := ⟨1, 60, [.lcell 2 2 8 true], true,
  (.seq (.region 0 [] [⟨(some 1), none, .lbox (.t 0) [58, 57, 49, 26, 13]⟩,
    ⟨(some 2), none, .lalloc [(.str (bs [])), (.slice [] .nil), (.slice [] .nil), (.int .i64 0), (.int .i64 0), (.int .i64 0), (.slice [] .nil), (.slice [] .nil)] []⟩])
  (.seq (.region 1 [(0, (.cells [(.map none), (.map none)]))] [⟨(some 12), none, .call 82 []⟩,
    ⟨(some 3), none, .alloc 0 [(.map none), (.map none)]⟩,
    ⟨none, none, .st 2 (.t 3) (.t 12)⟩])
  (.seq (.region 0 [] [⟨(some 4), none, .mv (.c (.slice [] .nil))⟩])
  (.seq (.region 1 [(0, (.cells [(.int .i64 0), (.int .i64 0)]))] [⟨(some 5), none, .alloc 0 [(.int .i64 0), (.int .i64 0)]⟩])
  (.seq (.seq (.region 0 [] [⟨(some 13), none, .lfld 1 1 (.t 1)⟩,
    ⟨(some 14), none, .lld 1 1 false (.t 13)⟩,
    ⟨(some 15), none, .len .slice (.t 14)⟩,
    ⟨(some 16), none, .mv (.c (.int .i64 0))⟩])
  (.block 0
    (.loop
      (.seq (.region 0 [] [⟨(some 17), none, .bin .lss (.t 16) (.t 15)⟩])
      (.seq (.cond (.t 17)
        .skip
        (.exit 0))
      (.seq (.block 1
        (.seq (.region 0 [] [⟨(some 18), none, .mv (.t 16)⟩,
          ⟨(some 19), none, .ixa none 2 (.t 14) (.t 16)⟩,
          ⟨(some 20), none, .ld 2 true (.t 19)⟩,
          ⟨(some 7), none, .lalloc [(.int .i64 0), (.bool false)] [21]⟩,
          ⟨(some 6), none, .mv (.t 18)⟩,
          ⟨none, none, .lst 7 2 (.t 7) (.t 20)⟩])
        (.seq (.region 0 [] [⟨(some 8), none, .mv (.c (.int .i64 0))⟩,
          ⟨(some 9), none, .mv (.c (.int .i64 0))⟩])
        (.seq (.seq (.region 0 [] [⟨(some 21), none, .lfld 7 1 (.t 7)⟩,
          ⟨(some 22), none, .lld 7 1 false (.t 21)⟩])
        (.cond (.t 22)
          (.region 0 [] [⟨(some 8), none, .mv (.c (.int .i64 1))⟩,
            ⟨(some 9), none, .mv (.c (.int .i64 5))⟩])
          .skip))
        (.seq (.drawn 0 [] [⟨0, ⟨(some 23), none, .mv (.t 8)⟩, [], false⟩,
          ⟨1, ⟨(some 24), none, .ixa (some 2) 1 (.t 3) (.t 23)⟩, [], false⟩,
          ⟨2, ⟨(some 25), none, .ld 1 false (.t 24)⟩, [], false⟩,
          ⟨3, ⟨(some 26), none, .lfld 1 2 (.t 1)⟩, [], false⟩,
          ⟨4, ⟨(some 27), none, .lld 1 1 false (.t 26)⟩, [], false⟩,
          ⟨5, ⟨(some 28), none, .mv (.t 6)⟩, [], false⟩,
          ⟨6, ⟨(some 29), none, .ixa none 1 (.t 27) (.t 28)⟩, [], false⟩,
          ⟨7, ⟨(some 30), none, .ld 1 false (.t 29)⟩, [], false⟩,
          ⟨8, ⟨(some 31), none, .mv (.t 9)⟩, [], false⟩,
          ⟨9, ⟨(some 32), none, .mv (.t 8)⟩, [], false⟩,
          ⟨10, ⟨(some 33), none, .ixa (some 2) 1 (.t 5) (.t 32)⟩, [], false⟩,
          ⟨11, ⟨(some 34), none, .ld 1 false (.t 33)⟩, [], false⟩,
          ⟨12, ⟨(some 35), none, .build [(.int .i64 0), (.int .i64 0), (.int .i64 0), (.slice [] .nil), (.slice [] .nil)] [(0, 1, (.t 31)), (1, 1, (.t 34))]⟩, [], false⟩,
          ⟨13, ⟨none, none, .mset (.word .int) (.t 25) (.t 30) (.t 35)⟩, [], false⟩])
        (.seq (.region 1 [] [⟨(some 36), none, .mv (.t 4)⟩,
          ⟨(some 37), none, .mv (.t 8)⟩,
          ⟨(some 38), none, .ixa (some 2) 1 (.t 5) (.t 37)⟩,
          ⟨(some 39), none, .ld 1 false (.t 38)⟩,
          ⟨(some 40), none, .bslice 1 1 (.int .i64 0) [(0, (.t 39))]⟩,
          ⟨(some 41), none, .app 0 1 8 (.t 36) (.t 40)⟩,
          ⟨(some 4), none, .mv (.t 41)⟩])
        (.region 0 [] [⟨(some 42), none, .mv (.t 8)⟩,
          ⟨(some 43), none, .ixa (some 2) 1 (.t 5) (.t 42)⟩,
          ⟨(some 44), none, .ld 1 false (.t 43)⟩,
          ⟨(some 45), none, .bin .add (.t 44) (.c (.int .i64 1))⟩,
          ⟨(some 46), none, .ixa (some 2) 1 (.t 5) (.t 42)⟩,
          ⟨none, none, .st 1 (.t 46) (.t 45)⟩])))))))
      (.region 0 [] [⟨(some 47), none, .bin .add (.t 16) (.c (.int .i64 1))⟩,
        ⟨(some 16), none, .mv (.t 47)⟩])))))))
  (.seq (.region 0 [] [⟨(some 49), none, .lfld 1 3 (.t 1)⟩,
    ⟨(some 50), none, .lld 1 5 true (.t 49)⟩,
    ⟨(some 51), none, .ld 2 true (.t 3)⟩,
    ⟨(some 52), none, .call 83 [(.t 50), (.t 51), (.c (.int .i64 1099511627776))]⟩,
    ⟨(some 48), none, .mv (.t 52)⟩,
    ⟨(some 53), none, .ext (.t 48) 0⟩,
    ⟨(some 54), none, .ext (.t 48) 1⟩,
    ⟨(some 10), none, .lalloc [(.int .i64 0), (.int .i64 0), (.int .i64 0), (.slice [] .nil), (.slice [] .nil)] []⟩,
    ⟨none, none, .lst 10 5 (.t 10) (.t 53)⟩,
    ⟨(some 11), none, .mv (.t 54)⟩])
  (.seq (.drawn 0 [] [⟨0, ⟨(some 55), none, .mv (.t 4)⟩, [], false⟩,
    ⟨1, ⟨(some 56), none, .lld 10 5 true (.t 10)⟩, [], false⟩,
    ⟨2, ⟨(some 57), none, .lfld 1 2 (.t 1)⟩, [], false⟩,
    ⟨3, ⟨none, none, .lst 1 1 (.t 57) (.t 55)⟩, [], false⟩,
    ⟨4, ⟨(some 58), none, .lfld 1 3 (.t 1)⟩, [], false⟩,
    ⟨5, ⟨none, none, .lst 1 5 (.t 58) (.t 56)⟩, [], false⟩])
  (.seq (.region 0 [] [⟨(some 59), none, .lld 1 8 true (.t 1)⟩,
    ⟨none, none, .lst 2 8 (.t 2) (.t 59)⟩])
  .ret))))))))⟩

/- chiasmus/focus.most -/
def f57 : AFunc := ⟨1, 73, [.lcell 2 2 2 true], true,
  (.seq (.region 0 [] [⟨(some 1), none, .lbox (.t 0) [42, 30, 26, 19, 13]⟩,
    ⟨(some 2), none, .lalloc [(.int .i64 0), (.int .i64 0)] []⟩])
  (.seq (.region 1 [(0, (.cells [(.int .i64 0), (.int .i64 0)]))] [⟨(some 3), none, .alloc 0 [(.int .i64 0), (.int .i64 0)]⟩])
  (.seq (.region 0 [] [⟨(some 12), none, .mkfn 84 [] [(.t 3)]⟩,
    ⟨(some 4), none, .mv (.t 12)⟩])
  (.seq (.seq (.region 0 [] [⟨(some 13), none, .lfld 1 0 (.t 1)⟩,
    ⟨(some 14), none, .lld 1 1 false (.t 13)⟩])
  (.block 0
    (.seq (.seq (.region 0 [] [⟨(some 16), none, .bin .eql (.t 14) (.c (.int .i64 0))⟩,
      ⟨(some 15), none, .mv (.t 16)⟩])
    (.cond (.t 15)
      .skip
      (.region 0 [] [⟨(some 17), none, .bin .eql (.t 14) (.c (.int .i64 7))⟩,
        ⟨(some 15), none, .mv (.t 17)⟩])))
    (.cond (.t 15)
      (.region 0 [] [⟨(some 18), none, .mv (.t 4)⟩,
        ⟨(some 19), none, .lfld 1 1 (.t 1)⟩,
        ⟨(some 20), none, .lld 1 1 false (.t 19)⟩,
        ⟨(some 21), none, .callv (.t 18) [(.c (.bool false)), (.t 20)]⟩])
      (.seq (.seq (.region 0 [] [⟨(some 23), none, .bin .eql (.t 14) (.c (.int .i64 5))⟩,
        ⟨(some 22), none, .mv (.t 23)⟩])
      (.cond (.t 22)
        .skip
        (.region 0 [] [⟨(some 24), none, .bin .eql (.t 14) (.c (.int .i64 3))⟩,
          ⟨(some 22), none, .mv (.t 24)⟩])))
      (.cond (.t 22)
        (.region 0 [] [⟨(some 25), none, .mv (.t 4)⟩,
          ⟨(some 26), none, .lfld 1 1 (.t 1)⟩,
          ⟨(some 27), none, .lld 1 1 false (.t 26)⟩,
          ⟨(some 28), none, .callv (.t 25) [(.c (.bool true)), (.t 27)]⟩])
        .skip))))))
  (.seq (.region 0 [] [⟨(some 29), none, .mkfn 85 [] [(.t 3)]⟩,
    ⟨(some 5), none, .mv (.t 29)⟩])
  (.seq (.seq (.region 0 [] [⟨(some 30), none, .lfld 1 3 (.t 1)⟩,
    ⟨(some 31), none, .lld 1 1 false (.t 30)⟩,
    ⟨(some 32), none, .len .slice (.t 31)⟩,
    ⟨(some 33), none, .mv (.c (.int .i64 0))⟩])
  (.block 1
    (.loop
      (.seq (.region 0 [] [⟨(some 34), none, .bin .lss (.t 33) (.t 32)⟩])
      (.seq (.cond (.t 34)
        .skip
        (.exit 1))
      (.seq (.block 2
        (.seq (.region 0 [] [⟨(some 35), none, .ixa none 5 (.t 31) (.t 33)⟩,
          ⟨(some 36), none, .ld 5 true (.t 35)⟩,
          ⟨(some 7), none, .lalloc [(.int .i64 0), (.int .i64 0), (.int .i64 0), (.slice [] .nil), (.slice [] .nil)] []⟩,
          ⟨none, none, .lst 7 5 (.t 7) (.t 36)⟩])
        (.region 0 [] [⟨(some 37), none, .mv (.t 5)⟩,
          ⟨(some 38), none, .lld 7 5 true (.t 7)⟩,
          ⟨(some 39), none, .call 57 [(.t 38)]⟩,
          ⟨(some 40), none, .callv (.t 37) [(.t 39)]⟩])))
      (.region 0 [] [⟨(some 41), none, .bin .add (.t 33) (.c (.int .i64 1))⟩,
        ⟨(some 33), none, .mv (.t 41)⟩])))))))
  (.seq (.seq (.region 0 [] [⟨(some 42), none, .lfld 1 4 (.t 1)⟩,
    ⟨(some 43), none, .lld 1 1 false (.t 42)⟩,
    ⟨(some 44), none, .len .slice (.t 43)⟩,
    ⟨(some 45), none, .mv (.c (.int .i64 0))⟩])
  (.block 3
    (.loop
      (.seq (.region 0 [] [⟨(some 46), none, .bin .lss (.t 45) (.t 44)⟩])
      (.seq (.cond (.t 46)
        .skip
        (.exit 3))
      (.seq (.block 4
        (.seq (.region 0 [] [⟨(some 47), none, .ixa none 7 (.t 43) (.t 45)⟩,
          ⟨(some 48), none, .ld 7 true (.t 47)⟩,
          ⟨(some 9), none, .lalloc [(.slice [] .nil), (.slice [] .nil), (.int .i64 0), (.int .i64 0), (.int .i64 0), (.slice [] .nil), (.slice [] .nil)] [67, 58, 49]⟩,
          ⟨none, none, .lst 9 7 (.t 9) (.t 48)⟩])
        (.seq (.seq (.region 0 [] [⟨(some 49), none, .lfld 9 0 (.t 9)⟩,
          ⟨(some 50), none, .lld 9 1 false (.t 49)⟩,
          ⟨(some 51), none, .len .slice (.t 50)⟩,
          ⟨(some 52), none, .mv (.c (.int .i64 0))⟩])
        (.block 5
          (.loop
            (.seq (.region 0 [] [⟨(some 53), none, .bin .lss (.t 52) (.t 51)⟩])
            (.seq (.cond (.t 53)
              .skip
              (.exit 5))
            (.seq (.block 6
              (.seq (.region 0 [] [⟨(some 54), none, .mv (.t 52)⟩,
                ⟨(some 55), none, .ixa none 1 (.t 50) (.t 52)⟩,
                ⟨(some 56), none, .ld 1 false (.t 55)⟩,
                ⟨(some 10), none, .mv (.t 54)⟩,
                ⟨(some 11), none, .mv (.t 56)⟩])
              (.region 0 [] [⟨(some 57), none, .mv (.t 4)⟩,
                ⟨(some 58), none, .lfld 9 1 (.t 9)⟩,
                ⟨(some 59), none, .lld 9 1 false (.t 58)⟩,
                ⟨(some 60), none, .mv (.t 10)⟩,
                ⟨(some 61), none, .ixa none 1 (.t 59) (.t 60)⟩,
                ⟨(some 62), none, .ld 1 false (.t 61)⟩,
                ⟨(some 63), none, .mv (.t 11)⟩,
                ⟨(some 64), none, .callv (.t 57) [(.t 62), (.t 63)]⟩])))
            (.region 0 [] [⟨(some 65), none, .bin .add (.t 52) (.c (.int .i64 1))⟩,
              ⟨(some 52), none, .mv (.t 65)⟩])))))))
        (.region 0 [] [⟨(some 66), none, .mv (.t 5)⟩,
          ⟨(some 67), none, .lfld 9 2 (.t 9)⟩,
          ⟨(some 68), none, .lld 9 5 true (.t 67)⟩,
          ⟨(some 69), none, .call 57 [(.t 68)]⟩,
          ⟨(some 70), none, .callv (.t 66) [(.t 69)]⟩]))))
      (.region 0 [] [⟨(some 71), none, .bin .add (.t 45) (.c (.int .i64 1))⟩,
        ⟨(some 45), none, .mv (.t 71)⟩])))))))
  (.seq (.region 0 [] [⟨(some 72), none, .ld 2 true (.t 3)⟩,
    ⟨none, none, .lst 2 2 (.t 2) (.t 72)⟩])
  .ret))))))))⟩

/- (*chiasmus/focus.focuser).node -/
def f58 : AFunc := ⟨2, 63, [.lcell 4 4 5 true], true,
  (.seq (.region 0 [] [⟨(some 3), none, .lbox (.t 1) [60, 45, 37, 30, 23, 22, 20, 18, 11]⟩,
    ⟨(some 4), none, .lalloc [(.int .i64 0), (.int .i64 0), (.int .i64 0), (.slice [] .nil), (.slice [] .nil)] []⟩])
  (.seq (.seq (.region 0 [] [⟨(some 11), none, .lfld 3 0 (.t 3)⟩,
    ⟨(some 12), none, .lld 3 1 false (.t 11)⟩,
    ⟨(some 13), none, .call 51 [(.t 12)]⟩,
    ⟨(some 14), none, .bin .eql (.t 13) (.c (.int .i64 2))⟩])
  (.cond (.t 14)
    (.seq (.region 0 [] [⟨(some 15), none, .mv (.t 0)⟩,
      ⟨(some 16), none, .lld 3 5 true (.t 3)⟩,
      ⟨(some 17), none, .call 86 [(.t 15), (.t 16)]⟩,
      ⟨none, none, .lst 4 5 (.t 4) (.t 17)⟩])
    .ret)
    .skip))
  (.seq (.drawn 0 [] [⟨0, ⟨(some 18), none, .lfld 3 3 (.t 3)⟩, [], false⟩,
    ⟨1, ⟨(some 19), none, .lld 3 1 false (.t 18)⟩, [], false⟩,
    ⟨2, ⟨(some 20), none, .lfld 3 4 (.t 3)⟩, [], false⟩,
    ⟨3, ⟨(some 21), none, .lld 3 1 false (.t 20)⟩, [], false⟩,
    ⟨4, ⟨(some 5), none, .mv (.t 19)⟩, [], false⟩,
    ⟨5, ⟨(some 6), none, .mv (.t 21)⟩, [], false⟩])
  (.seq (.region 0 [] [⟨(some 22), none, .lfld 3 3 (.t 3)⟩,
    ⟨none, none, .lst 3 1 (.t 22) (.c (.slice [] .nil))⟩,
    ⟨(some 23), none, .lfld 3 4 (.t 3)⟩,
    ⟨none, none, .lst 3 1 (.t 23) (.c (.slice [] .nil))⟩])
  (.seq (.seq (.region 0 [] [⟨(some 24), none, .mv (.t 5)⟩,
    ⟨(some 25), none, .len .slice (.t 24)⟩,
    ⟨(some 26), none, .mv (.c (.int .i64 0))⟩])
  (.block 0
    (.loop
      (.seq (.region 0 [] [⟨(some 27), none, .bin .lss (.t 26) (.t 25)⟩])
      (.seq (.cond (.t 27)
        .skip
        (.exit 0))
      (.seq (.block 1
        (.seq (.region 0 [] [⟨(some 28), none, .ixa none 5 (.t 24) (.t 26)⟩,
          ⟨(some 29), none, .ld 5 true (.t 28)⟩,
          ⟨(some 8), none, .lalloc [(.int .i64 0), (.int .i64 0), (.int .i64 0), (.slice [] .nil), (.slice [] .nil)] []⟩,
          ⟨none, none, .lst 8 5 (.t 8) (.t 29)⟩])
        (.drawn 1 [] [⟨0, ⟨(some 30), none, .lfld 3 3 (.t 3)⟩, [], false⟩,
          ⟨1, ⟨(some 31), none, .lld 3 1 false (.t 30)⟩, [], false⟩,
          ⟨2, ⟨(some 32), none, .mv (.t 0)⟩, [], false⟩,
          ⟨3, ⟨(some 33), none, .lld 8 5 true (.t 8)⟩, [], false⟩,
          ⟨4, ⟨(some 34), none, .call 58 [(.t 32), (.t 33)]⟩, [], false⟩,
          ⟨5, ⟨(some 35), none, .bslice 5 1 (.agg [(.int .i64 0), (.int .i64 0), (.int .i64 0), (.slice [] .nil), (.slice [] .nil)]) [(0, (.t 34))]⟩, [], false⟩,
          ⟨6, ⟨(some 36), none, .app 0 5 72 (.t 31) (.t 35)⟩, [], false⟩,
          ⟨7, ⟨(some 37), none, .lfld 3 3 (.t 3)⟩, [], false⟩,
          ⟨8, ⟨none, none, .lst 3 1 (.t 37) (.t 36)⟩, [], false⟩])))
      (.region 0 [] [⟨(some 38), none, .bin .add (.t 26) (.c (.int .i64 1))⟩,
        ⟨(some 26), none, .mv (.t 38)⟩])))))))
  (.seq (.seq (.region 0 [] [⟨(some 39), none, .mv (.t 6)⟩,
    ⟨(some 40), none, .len .slice (.t 39)⟩,
    ⟨(some 41), none, .mv (.c (.int .i64 0))⟩])
  (.block 2
    (.loop
      (.seq (.region 0 [] [⟨(some 42), none, .bin .lss (.t 41) (.t 40)⟩])
      (.seq (.cond (.t 42)
        .skip
        (.exit 2))
      (.seq (.block 3
        (.seq (.region 0 [] [⟨(some 43), none, .ixa none 7 (.t 39) (.t 41)⟩,
          ⟨(some 44), none, .ld 7 true (.t 43)⟩,
          ⟨(some 10), none, .lalloc [(.slice [] .nil), (.slice [] .nil), (.int .i64 0), (.int .i64 0), (.int .i64 0), (.slice [] .nil), (.slice [] .nil)] [54, 50, 47]⟩,
          ⟨none, none, .lst 10 7 (.t 10) (.t 44)⟩])
        (.drawn 3 [] [⟨0, ⟨(some 45), none, .lfld 3 4 (.t 3)⟩, [], false⟩,
          ⟨1, ⟨(some 46), none, .lld 3 1 false (.t 45)⟩, [], false⟩,
          ⟨2, ⟨(some 47), none, .lfld 10 0 (.t 10)⟩, [], false⟩,
          ⟨3, ⟨(some 48), none, .lld 10 1 false (.t 47)⟩, [], false⟩,
          ⟨4, ⟨(some 49), none, .app 0 1 8 (.c (.slice [] .nil)) (.t 48)⟩, [], false⟩,
          ⟨5, ⟨(some 50), none, .lfld 10 1 (.t 10)⟩, [], false⟩,
          ⟨6, ⟨(some 51), none, .lld 10 1 false (.t 50)⟩, [], false⟩,
          ⟨7, ⟨(some 52), none, .app 1 1 1 (.c (.slice [] .nil)) (.t 51)⟩, [], false⟩,
          ⟨8, ⟨(some 53), none, .mv (.t 0)⟩, [], false⟩,
          ⟨9, ⟨(some 54), none, .lfld 10 2 (.t 10)⟩, [], false⟩,
          ⟨10, ⟨(some 55), none, .lld 10 5 true (.t 54)⟩, [], false⟩,
          ⟨11, ⟨(some 56), none, .call 58 [(.t 53), (.t 55)]⟩, [], false⟩,
          ⟨12, ⟨(some 57), none, .build [(.slice [] .nil), (.slice [] .nil), (.int .i64 0), (.int .i64 0), (.int .i64 0), (.slice [] .nil), (.slice [] .nil)] [(0, 1, (.t 49)), (1, 1, (.t 52)), (2, 5, (.t 56))]⟩, [], false⟩,
          ⟨13, ⟨(some 58), none, .bslice 7 1 (.agg [(.slice [] .nil), (.slice [] .nil), (.int .i64 0), (.int .i64 0), (.int .i64 0), (.slice [] .nil), (.slice [] .nil)]) [(0, (.t 57))]⟩, [], false⟩,
          ⟨14, ⟨(some 59), none, .app 2 7 120 (.t 46) (.t 58)⟩, [], false⟩,
          ⟨15, ⟨(some 60), none, .lfld 3 4 (.t 3)⟩, [], false⟩,
          ⟨16, ⟨none, none, .lst 3 1 (.t 60) (.t 59)⟩, [], false⟩])))
      (.region 0 [] [⟨(some 61), none, .bin .add (.t 41) (.c (.int .i64 1))⟩,
        ⟨(some 41), none, .mv (.t 61)⟩])))))))
  (.seq (.region 0 [] [⟨(some 62), none, .lld 3 5 true (.t 3)⟩,
    ⟨none, none, .lst 4 5 (.t 4) (.t 62)⟩])
  .ret)))))))⟩

/- chiasmus/decl.Valid$1 -/
def f59 : AFunc := ⟨3, 44, [.tmp 4], true,
  (.seq (.region 0 [] [⟨(some 3), none, .lbox (.t 0) [26, 24, 18, 13, 7]⟩,
    ⟨(some 4), none, .mv (.c (.bool false))⟩])
  (.seq (.seq (.region 0 [] [⟨(some 7), none, .lfld 3 0 (.t 3)⟩,
    ⟨(some 8), none, .lld 3 1 false (.t 7)⟩,
    ⟨(some 9), none, .call 60 [(.t 8)]⟩,
    ⟨(some 10), none, .un .not (.t 9)⟩,
    ⟨(some 11), none, .mv (.t 10)⟩,
    ⟨(some 12), (some (11, false)), .ld 1 false (.t 1)⟩,
    ⟨(some 13), (some (11, false)), .lfld 3 0 (.t 3)⟩,
    ⟨(some 14), (some (11, false)), .lld 3 1 false (.t 13)⟩,
    ⟨(some 15), (some (11, false)), .lkp (.word .str) (.bool false) false (.t 12) (.t 14)⟩,
    ⟨(some 16), none, .pick (.t 11) (.c (.bool true)) (.t 15)⟩,
    ⟨(some 17), none, .mv (.t 16)⟩,
    ⟨(some 18), (some (17, false)), .lfld 3 1 (.t 3)⟩,
    ⟨(some 19), (some (17, false)), .lld 3 1 false (.t 18)⟩,
    ⟨(some 20), (some (17, false)), .len .slice (.t 19)⟩,
    ⟨(some 21), (some (17, false)), .bin .gtr (.t 20) (.c (.int .i64 6))⟩,
    ⟨(some 22), none, .pick (.t 17) (.c (.bool true)) (.t 21)⟩])
  (.cond (.t 22)
    (.seq (.region 0 [] [⟨(some 4), none, .mv (.c (.bool false))⟩])
    .ret)
    .skip))
  (.seq (.region 0 [] [⟨(some 23), none, .ld 1 false (.t 1)⟩,
    ⟨(some 24), none, .lfld 3 0 (.t 3)⟩,
    ⟨(some 25), none, .lld 3 1 false (.t 24)⟩,
    ⟨none, none, .mset (.word .str) (.t 23) (.t 25) (.c (.bool true))⟩])
  (.seq (.seq (.region 0 [] [⟨(some 26), none, .lfld 3 1 (.t 3)⟩,
    ⟨(some 27), none, .lld 3 1 false (.t 26)⟩,
    ⟨(some 28), none, .len .slice (.t 27)⟩,
    ⟨(some 29), none, .mv (.c (.int .i64 0))⟩])
  (.block 0
    (.loop
      (.seq (.region 0 [] [⟨(some 30), none, .bin .lss (.t 29) (.t 28)⟩])
      (.seq (.cond (.t 30)
        .skip
        (.exit 0))
      (.seq (.block 1
        (.seq (.region 0 [] [⟨(some 31), none, .ixa none 2 (.t 27) (.t 29)⟩,
          ⟨(some 32), none, .ld 2 true (.t 31)⟩,
          ⟨(some 6), none, .lalloc [(.int .i64 0), (.bool false)] [37, 33]⟩,
          ⟨none, none, .lst 6 2 (.t 6) (.t 32)⟩])
        (.seq (.region 0 [] [⟨(some 33), none, .lfld 6 0 (.t 6)⟩,
          ⟨(some 34), none, .lld 6 1 false (.t 33)⟩,
          ⟨(some 35), none, .bin .lss (.t 34) (.c (.int .i64 0))⟩,
          ⟨(some 36), none, .mv (.t 35)⟩,
          ⟨(some 37), (some (36, false)), .lfld 6 0 (.t 6)⟩,
          ⟨(some 38), (some (36, false)), .lld 6 1 false (.t 37)⟩,
          ⟨(some 39), (some (36, false)), .ld 1 false (.t 2)⟩,
          ⟨(some 40), (some (36, false)), .len .slice (.t 39)⟩,
          ⟨(some 41), (some (36, false)), .bin .gtr (.t 38) (.t 40)⟩,
          ⟨(some 42), none, .pick (.t 36) (.c (.bool true)) (.t 41)⟩])
        (.cond (.t 42)
          (.seq (.region 0 [] [⟨(some 4), none, .mv (.c (.bool false))⟩])
          .ret)
          .skip))))
      (.region 0 [] [⟨(some 43), none, .bin .add (.t 29) (.c (.int .i64 1))⟩,
        ⟨(some 29), none, .mv (.t 43)⟩])))))))
  (.seq (.region 0 [] [⟨(some 4), none, .mv (.c (.bool true))⟩])
  .ret)))))⟩

/- chiasmus/decl.XtorName -/
def f60 : AFunc := ⟨1, 26, [.tmp 2], true,
  (.seq (.region 0 [] [⟨(some 2), none, .mv (.c (.bool false))⟩])
  (.seq (.region 0 [] [⟨(some 3), none, .mv (.t 0)⟩,
    ⟨(some 4), none, .len .str (.t 3)⟩,
    ⟨(some 5), none, .bin .geq (.t 4) (.c (.int .i64 1))⟩,
    ⟨(some 6), none, .mv (.t 5)⟩,
    ⟨(some 7), (some (6, true)), .mv (.t 0)⟩,
    ⟨(some 8), (some (6, true)), .len .str (.t 7)⟩,
    ⟨(some 9), (some (6, true)), .bin .leq (.t 8) (.c (.int .i64 10))⟩,
    ⟨(some 10), none, .pick (.t 6) (.t 9) (.c (.bool false))⟩,
    ⟨(some 11), none, .mv (.t 10)⟩,
    ⟨(some 12), (some (11, true)), .mv (.t 0)⟩,
    ⟨(some 13), (some (11, true)), .ixs (.t 12) (.c (.int .i64 0))⟩,
    ⟨(some 14), (some (11, true)), .bin .geq (.t 13) (.c (.int .u8 65))⟩,
    ⟨(some 15), none, .pick (.t 11) (.t 14) (.c (.bool false))⟩,
    ⟨(some 16), none, .mv (.t 15)⟩,
    ⟨(some 17), (some (16, true)), .mv (.t 0)⟩,
    ⟨(some 18), (some (16, true)), .ixs (.t 17) (.c (.int .i64 0))⟩,
    ⟨(some 19), (some (16, true)), .bin .leq (.t 18) (.c (.int .u8 90))⟩,
    ⟨(some 20), none, .pick (.t 16) (.t 19) (.c (.bool false))⟩,
    ⟨(some 21), none, .mv (.t 20)⟩,
    ⟨(some 22), (some (21, true)), .mv (.t 0)⟩,
    ⟨(some 23), (some (21, true)), .sub true 0 (.t 22) (some (.c (.int .i64 1))) none none⟩,
    ⟨(some 24), (some (21, true)), .call 62 [(.t 23)]⟩,
    ⟨(some 25), none, .pick (.t 21) (.t 24) (.c (.bool false))⟩,
    ⟨(some 2), none, .mv (.t 25)⟩])
  .ret))⟩

/- chiasmus/decl.lower -/
def f61 : AFunc := ⟨1, 9, [.tmp 2], true,
  (.seq (.region 0 [] [⟨(some 2), none, .mv (.c (.bool false))⟩])
  (.seq (.region 0 [] [⟨(some 3), none, .mv (.t 0)⟩,
    ⟨(some 4), none, .bin .geq (.t 3) (.c (.int .u8 97))⟩,
    ⟨(some 5), none, .mv (.t 4)⟩,
    ⟨(some 6), (some (5, true)), .mv (.t 0)⟩,
    ⟨(some 7), (some (5, true)), .bin .leq (.t 6) (.c (.int .u8 122))⟩,
    ⟨(some 8), none, .pick (.t 5) (.t 7) (.c (.bool false))⟩,
    ⟨(some 2), none, .mv (.t 8)⟩])
  .ret))⟩

/- chiasmus/decl.rest -/
def f62 : AFunc := ⟨1, 27, [.tmp 2], true,
  (.seq (.region 0 [] [⟨(some 2), none, .mv (.c (.bool false))⟩])
  (.seq (.seq (.region 0 [] [⟨(some 3), none, .mv (.c (.int .i64 0))⟩])
  (.block 0
    (.loop
      (.seq (.seq (.region 0 [] [⟨(some 4), none, .mv (.t 3)⟩,
        ⟨(some 5), none, .mv (.t 0)⟩,
        ⟨(some 6), none, .len .str (.t 5)⟩,
        ⟨(some 7), none, .bin .lss (.t 4) (.t 6)⟩])
      (.cond (.t 7)
        .skip
        (.exit 0)))
      (.seq (.block 1
        (.seq (.region 0 [] [⟨(some 10), none, .mv (.t 0)⟩,
          ⟨(some 11), none, .mv (.t 3)⟩,
          ⟨(some 12), none, .ixs (.t 10) (.t 11)⟩,
          ⟨(some 13), none, .call 61 [(.t 12)]⟩,
          ⟨(some 14), none, .un .not (.t 13)⟩,
          ⟨(some 15), none, .mv (.t 14)⟩,
          ⟨(some 16), (some (15, true)), .mv (.t 0)⟩,
          ⟨(some 17), (some (15, true)), .mv (.t 3)⟩,
          ⟨(some 18), (some (15, true)), .ixs (.t 16) (.t 17)⟩,
          ⟨(some 19), (some (15, true)), .bin .lss (.t 18) (.c (.int .u8 48))⟩,
          ⟨(some 20), (some (15, true)), .mv (.t 19)⟩,
          ⟨(some 21), (some (20, false)), .mv (.t 0)⟩,
          ⟨(some 22), (some (20, false)), .mv (.t 3)⟩,
          ⟨(some 23), (some (20, false)), .ixs (.t 21) (.t 22)⟩,
          ⟨(some 24), (some (20, false)), .bin .gtr (.t 23) (.c (.int .u8 57))⟩,
          ⟨(some 25), (some (15, true)), .pick (.t 20) (.c (.bool true)) (.t 24)⟩,
          ⟨(some 26), none, .pick (.t 15) (.t 25) (.c (.bool false))⟩])
        (.cond (.t 26)
          (.seq (.region 0 [] [⟨(some 2), none, .mv (.c (.bool false))⟩])
          .ret)
          .skip)))
      (.region 0 [] [⟨(some 8), none, .mv (.t 3)⟩,
        ⟨(some 9), none, .bin .add (.t 8) (.c (.int .i64 1))⟩,
        ⟨(some 3), none, .mv (.t 9)⟩]))))))
  (.seq (.region 0 [] [⟨(some 2), none, .mv (.c (.bool true))⟩])
  .ret)))⟩

/- chiasmus/core.side -/
def f64 : AFunc := ⟨1, 4, [.tmp 2], true,
  (.seq (.region 0 [] [⟨(some 2), none, .mv (.c (.int .i64 0))⟩])
  (.seq (.seq (.region 0 [] [⟨(some 3), none, .mv (.t 0)⟩])
  (.cond (.t 3)
    (.seq (.region 0 [] [⟨(some 2), none, .mv (.c (.int .i64 1))⟩])
    .ret)
    .skip))
  (.seq (.region 0 [] [⟨(some 2), none, .mv (.c (.int .i64 0))⟩])
  .ret)))⟩

/- chiasmus/core.number -/
def f65 : AFunc := ⟨1, 9, [.tmp 2], true,
  (.seq (.region 0 [] [⟨(some 2), none, .mv (.c (.bool false))⟩])
  (.seq (.region 0 [] [⟨(some 3), none, .mv (.t 0)⟩,
    ⟨(some 4), none, .bin .geq (.t 3) (.c (.int .i64 0))⟩,
    ⟨(some 5), none, .mv (.t 4)⟩,
    ⟨(some 6), (some (5, true)), .mv (.t 0)⟩,
    ⟨(some 7), (some (5, true)), .bin .leq (.t 6) (.c (.int .i64 1048576))⟩,
    ⟨(some 8), none, .pick (.t 5) (.t 7) (.c (.bool false))⟩,
    ⟨(some 2), none, .mv (.t 8)⟩])
  .ret))⟩

/- (chiasmus/core.Scope).enter$1 -/
def f66 : AFunc := ⟨2, 17, [], true,
  (.seq (.region 0 [] [⟨(some 4), none, .ld 1 false (.t 0)⟩,
    ⟨(some 5), none, .len .slice (.t 4)⟩,
    ⟨(some 6), none, .mv (.c (.int .i64 0))⟩])
  (.block 0
    (.loop
      (.seq (.region 0 [] [⟨(some 7), none, .bin .lss (.t 6) (.t 5)⟩])
      (.seq (.cond (.t 7)
        .skip
        (.exit 0))
      (.seq (.block 1
        (.seq (.region 0 [] [⟨(some 8), none, .ixa none 2 (.t 4) (.t 6)⟩,
          ⟨(some 9), none, .ld 2 true (.t 8)⟩,
          ⟨(some 3), none, .lalloc [(.int .i64 0), (.int .i64 0)] [14, 10]⟩,
          ⟨none, none, .lst 3 2 (.t 3) (.t 9)⟩])
        (.drawn 0 [] [⟨0, ⟨(some 10), none, .lfld 3 0 (.t 3)⟩, [], false⟩,
          ⟨1, ⟨(some 11), none, .lld 3 1 false (.t 10)⟩, [], false⟩,
          ⟨2, ⟨(some 12), none, .ixa (some 2) 1 (.t 1) (.t 11)⟩, [], false⟩,
          ⟨3, ⟨(some 13), none, .ld 1 false (.t 12)⟩, [], false⟩,
          ⟨4, ⟨(some 14), none, .lfld 3 1 (.t 3)⟩, [], false⟩,
          ⟨5, ⟨(some 15), none, .lld 3 1 false (.t 14)⟩, [], false⟩,
          ⟨6, ⟨none, none, .del (.word .int) (.t 13) (.t 15)⟩, [], false⟩])))
      (.region 0 [] [⟨(some 16), none, .bin .add (.t 6) (.c (.int .i64 1))⟩,
        ⟨(some 6), none, .mv (.t 16)⟩])))))))⟩

/- (*chiasmus/core.checker).xtor -/
def f67 : AFunc := ⟨4, 65, [.lcell 8 8 2 true, .tmp 9], true,
  (.seq (.region 0 [] [⟨(some 8), none, .lalloc [(.str (bs [])), (.slice [] .nil)] []⟩,
    ⟨(some 9), none, .mv (.c (.bool false))⟩])
  (.seq (.seq (.region 0 [] [⟨(some 10), none, .mv (.t 1)⟩,
    ⟨(some 11), none, .bin .lss (.t 10) (.c (.int .i64 1))⟩,
    ⟨(some 12), none, .mv (.t 11)⟩,
    ⟨(some 13), (some (12, false)), .mv (.t 1)⟩,
    ⟨(some 14), (some (12, false)), .mv (.t 0)⟩,
    ⟨(some 15), (some (12, false)), .nilck (.t 14)⟩,
    ⟨(some 16), (some (12, false)), .fld 0 (.t 15)⟩,
    ⟨(some 17), (some (12, false)), .ld 1 false (.t 16)⟩,
    ⟨(some 18), (some (12, false)), .len .slice (.t 17)⟩,
    ⟨(some 19), (some (12, false)), .bin .gtr (.t 13) (.t 18)⟩,
    ⟨(some 20), none, .pick (.t 12) (.c (.bool true)) (.t 19)⟩,
    ⟨(some 21), none, .mv (.t 20)⟩,
    ⟨(some 22), (some (21, false)), .mv (.t 0)⟩,
    ⟨(some 23), (some (21, false)), .nilck (.t 22)⟩,
    ⟨(some 24), (some (21, false)), .fld 0 (.t 23)⟩,
    ⟨(some 25), (some (21, false)), .ld 1 false (.t 24)⟩,
    ⟨(some 26), (some (21, false)), .mv (.t 1)⟩,
    ⟨(some 27), (some (21, false)), .bin .sub (.t 26) (.c (.int .i64 1))⟩,
    ⟨(some 28), (some (21, false)), .ixa none 3 (.t 25) (.t 27)⟩,
    ⟨(some 29), (some (21, false)), .fld 1 (.t 28)⟩,
    ⟨(some 30), (some (21, false)), .ld 1 false (.t 29)⟩,
    ⟨(some 31), (some (21, false)), .mv (.t 3)⟩,
    ⟨(some 32), (some (21, false)), .eqv true .bool (.t 30) (.t 31)⟩,
    ⟨(some 33), none, .pick (.t 21) (.c (.bool true)) (.t 32)⟩,
    ⟨(some 34), none, .mv (.t 33)⟩,
    ⟨(some 35), (some (34, false)), .mv (.t 2)⟩,
    ⟨(some 36), (some (34, false)), .bin .lss (.t 35) (.c (.int .i64 0))⟩,
    ⟨(some 37), none, .pick (.t 34) (.c (.bool true)) (.t 36)⟩,
    ⟨(some 38), none, .mv (.t 37)⟩,
    ⟨(some 39), (some (38, false)), .mv (.t 2)⟩,
    ⟨(some 40), (some (38, false)), .mv (.t 0)⟩,
    ⟨(some 41), (some (38, false)), .nilck (.t 40)⟩,
    ⟨(some 42), (some (38, false)), .fld 0 (.t 41)⟩,
    ⟨(some 43), (some (38, false)), .ld 1 false (.t 42)⟩,
    ⟨(some 44), (some (38, false)), .mv (.t 1)⟩,
    ⟨(some 45), (some (38, false)), .bin .sub (.t 44) (.c (.int .i64 1))⟩,
    ⟨(some 46), (some (38, false)), .ixa none 3 (.t 43) (.t 45)⟩,
    ⟨(some 47), (some (38, false)), .fld 2 (.t 46)⟩,
    ⟨(some 48), (some (38, false)), .ld 1 false (.t 47)⟩,
    ⟨(some 49), (some (38, false)), .len .slice (.t 48)⟩,
    ⟨(some 50), (some (38, false)), .bin .geq (.t 39) (.t 49)⟩,
    ⟨(some 51), none, .pick (.t 38) (.c (.bool true)) (.t 50)⟩])
  (.cond (.t 51)
    (.seq (.region 0 [] [⟨(some 52), none, .build [(.str (bs [])), (.slice [] .nil)] []⟩,
      ⟨none, none, .lst 8 2 (.t 8) (.t 52)⟩,
      ⟨(some 9), none, .mv (.c (.bool false))⟩])
    .ret)
    .skip))
  (.seq (.region 0 [] [⟨(some 53), none, .mv (.t 0)⟩,
    ⟨(some 54), none, .nilck (.t 53)⟩,
    ⟨(some 55), none, .fld 0 (.t 54)⟩,
    ⟨(some 56), none, .ld 1 false (.t 55)⟩,
    ⟨(some 57), none, .mv (.t 1)⟩,
    ⟨(some 58), none, .bin .sub (.t 57) (.c (.int .i64 1))⟩,
    ⟨(some 59), none, .ixa none 3 (.t 56) (.t 58)⟩,
    ⟨(some 60), none, .fld 2 (.t 59)⟩,
    ⟨(some 61), none, .ld 1 false (.t 60)⟩,
    ⟨(some 62), none, .mv (.t 2)⟩,
    ⟨(some 63), none, .ixa none 2 (.t 61) (.t 62)⟩,
    ⟨(some 64), none, .ld 2 true (.t 63)⟩,
    ⟨none, none, .lst 8 2 (.t 8) (.t 64)⟩,
    ⟨(some 9), none, .mv (.c (.bool true))⟩])
  .ret)))⟩

/- (*chiasmus/core.checker).args -/
def f68 : AFunc := ⟨5, 33, [.tmp 10], true,
  (.seq (.region 0 [] [⟨(some 6), none, .lbox (.t 1) []⟩,
    ⟨(some 10), none, .mv (.c (.bool false))⟩])
  (.seq (.region 0 [] [⟨(some 11), none, .mv (.c (.slice [] .nil))⟩])
  (.seq (.seq (.region 0 [] [⟨(some 14), none, .mv (.t 3)⟩,
    ⟨(some 15), none, .len .slice (.t 14)⟩,
    ⟨(some 16), none, .mv (.c (.int .i64 0))⟩])
  (.block 0
    (.loop
      (.seq (.region 0 [] [⟨(some 17), none, .bin .lss (.t 16) (.t 15)⟩])
      (.seq (.cond (.t 17)
        .skip
        (.exit 0))
      (.seq (.block 1
        (.seq (.region 0 [] [⟨(some 18), none, .ixa none 2 (.t 14) (.t 16)⟩,
          ⟨(some 19), none, .ld 2 true (.t 18)⟩,
          ⟨(some 13), none, .lalloc [(.int .i64 0), (.bool false)] [21]⟩,
          ⟨none, none, .lst 13 2 (.t 13) (.t 19)⟩])
        (.region 1 [] [⟨(some 20), none, .mv (.t 11)⟩,
          ⟨(some 21), none, .lfld 13 1 (.t 13)⟩,
          ⟨(some 22), none, .lld 13 1 false (.t 21)⟩,
          ⟨(some 23), none, .call 64 [(.t 22)]⟩,
          ⟨(some 24), none, .bslice 1 1 (.int .i64 0) [(0, (.t 23))]⟩,
          ⟨(some 25), none, .app 0 1 8 (.t 20) (.t 24)⟩,
          ⟨(some 11), none, .mv (.t 25)⟩])))
      (.region 0 [] [⟨(some 26), none, .bin .add (.t 16) (.c (.int .i64 1))⟩,
        ⟨(some 16), none, .mv (.t 26)⟩])))))))
  (.seq (.region 0 [] [⟨(some 27), none, .mv (.t 0)⟩,
    ⟨(some 28), none, .lld 6 2 true (.t 6)⟩,
    ⟨(some 29), none, .mv (.t 2)⟩,
    ⟨(some 30), none, .mv (.t 4)⟩,
    ⟨(some 31), none, .mv (.t 11)⟩,
    ⟨(some 32), none, .call 69 [(.t 27), (.t 28), (.t 29), (.t 30), (.t 31)]⟩,
    ⟨(some 10), none, .mv (.t 32)⟩])
  .ret))))⟩

/- (*chiasmus/core.checker).sorts -/
def f69 : AFunc := ⟨5, 43, [.tmp 10], true,
  (.seq (.region 0 [] [⟨(some 6), none, .lbox (.t 1) []⟩,
    ⟨(some 10), none, .mv (.c (.bool false))⟩])
  (.seq (.seq (.region 0 [] [⟨(some 13), none, .mv (.t 2)⟩,
    ⟨(some 14), none, .len .slice (.t 13)⟩,
    ⟨(some 15), none, .mv (.t 4)⟩,
    ⟨(some 16), none, .len .slice (.t 15)⟩,
    ⟨(some 17), none, .bin .neq (.t 14) (.t 16)⟩])
  (.cond (.t 17)
    (.seq (.region 0 [] [⟨(some 10), none, .mv (.c (.bool false))⟩])
    .ret)
    .skip))
  (.seq (.seq (.region 0 [] [⟨(some 18), none, .mv (.t 2)⟩,
    ⟨(some 19), none, .len .slice (.t 18)⟩,
    ⟨(some 20), none, .mv (.c (.int .i64 0))⟩])
  (.block 0
    (.loop
      (.seq (.region 0 [] [⟨(some 21), none, .bin .lss (.t 20) (.t 19)⟩])
      (.seq (.cond (.t 21)
        .skip
        (.exit 0))
      (.seq (.block 1
        (.seq (.region 0 [] [⟨(some 22), none, .mv (.t 20)⟩,
          ⟨(some 23), none, .ixa none 5 (.t 18) (.t 20)⟩,
          ⟨(some 24), none, .ld 5 true (.t 23)⟩,
          ⟨(some 12), none, .lalloc [(.int .i64 0), (.int .i64 0), (.int .i64 0), (.slice [] .nil), (.slice [] .nil)] [25]⟩,
          ⟨(some 11), none, .mv (.t 22)⟩,
          ⟨none, none, .lst 12 5 (.t 12) (.t 24)⟩])
        (.seq (.drawn 0 [] [⟨0, ⟨(some 25), none, .lfld 12 0 (.t 12)⟩, [], false⟩,
          ⟨1, ⟨(some 26), none, .lld 12 1 false (.t 25)⟩, [], false⟩,
          ⟨2, ⟨(some 27), none, .call 51 [(.t 26)]⟩, [6], false⟩,
          ⟨3, ⟨(some 28), none, .mv (.t 4)⟩, [], false⟩,
          ⟨4, ⟨(some 29), none, .mv (.t 11)⟩, [], false⟩,
          ⟨5, ⟨(some 30), none, .ixa none 1 (.t 28) (.t 29)⟩, [], false⟩,
          ⟨6, ⟨(some 31), none, .ld 1 false (.t 30)⟩, [2], false⟩,
          ⟨7, ⟨(some 32), none, .bin .neq (.t 27) (.t 31)⟩, [], false⟩,
          ⟨8, ⟨(some 33), none, .mv (.t 32)⟩, [], false⟩,
          ⟨9, ⟨(some 34), (some (33, false)), .mv (.t 0)⟩, [], false⟩,
          ⟨10, ⟨(some 35), (some (33, false)), .lld 6 2 true (.t 6)⟩, [], false⟩,
          ⟨11, ⟨(some 36), (some (33, false)), .lld 12 5 true (.t 12)⟩, [], false⟩,
          ⟨12, ⟨(some 37), (some (33, false)), .mv (.t 3)⟩, [], false⟩,
          ⟨13, ⟨(some 38), (some (33, false)), .bin .add (.t 37) (.c (.int .i64 1))⟩, [], false⟩,
          ⟨14, ⟨(some 39), (some (33, false)), .call 52 [(.t 34), (.t 35), (.t 36), (.t 38)]⟩, [], false⟩,
          ⟨15, ⟨(some 40), (some (33, false)), .un .not (.t 39)⟩, [], false⟩,
          ⟨16, ⟨(some 41), none, .pick (.t 33) (.c (.bool true)) (.t 40)⟩, [], false⟩])
        (.cond (.t 41)
          (.seq (.region 0 [] [⟨(some 10), none, .mv (.c (.bool false))⟩])
          .ret)
          .skip))))
      (.region 0 [] [⟨(some 42), none, .bin .add (.t 20) (.c (.int .i64 1))⟩,
        ⟨(some 20), none, .mv (.t 42)⟩])))))))
  (.seq (.region 0 [] [⟨(some 10), none, .mv (.c (.bool true))⟩])
  .ret))))⟩

/- (*chiasmus/core.checker).branches -/
def f70 : AFunc := ⟨4, 103, [.tmp 8], true,
  (.seq (.region 0 [] [⟨(some 5), none, .lbox (.t 1) []⟩,
    ⟨(some 6), none, .lbox (.t 2) [32, 26, 20]⟩,
    ⟨(some 8), none, .mv (.c (.bool false))⟩])
  (.seq (.drawn 0 [] [⟨0, ⟨(some 16), none, .mv (.t 0)⟩, [], false⟩,
    ⟨1, ⟨(some 17), none, .nilck (.t 16)⟩, [], false⟩,
    ⟨2, ⟨(some 18), none, .fld 0 (.t 17)⟩, [], false⟩,
    ⟨3, ⟨(some 19), none, .ld 1 false (.t 18)⟩, [], false⟩,
    ⟨4, ⟨(some 20), none, .lfld 6 2 (.t 6)⟩, [], false⟩,
    ⟨5, ⟨(some 21), none, .lld 6 1 false (.t 20)⟩, [], false⟩,
    ⟨6, ⟨(some 22), none, .bin .sub (.t 21) (.c (.int .i64 1))⟩, [], false⟩,
    ⟨7, ⟨(some 23), none, .ixa none 3 (.t 19) (.t 22)⟩, [], false⟩,
    ⟨8, ⟨(some 24), none, .fld 2 (.t 23)⟩, [], false⟩,
    ⟨9, ⟨(some 25), none, .ld 1 false (.t 24)⟩, [], false⟩,
    ⟨10, ⟨(some 9), none, .mv (.t 25)⟩, [], false⟩])
  (.seq (.seq (.region 0 [] [⟨(some 26), none, .lfld 6 4 (.t 6)⟩,
    ⟨(some 27), none, .lld 6 1 false (.t 26)⟩,
    ⟨(some 28), none, .len .slice (.t 27)⟩,
    ⟨(some 29), none, .mv (.t 9)⟩,
    ⟨(some 30), none, .len .slice (.t 29)⟩,
    ⟨(some 31), none, .bin .neq (.t 28) (.t 30)⟩])
  (.cond (.t 31)
    (.seq (.region 0 [] [⟨(some 8), none, .mv (.c (.bool false))⟩])
    .ret)
    .skip))
  (.seq (.seq (.region 0 [] [⟨(some 32), none, .lfld 6 4 (.t 6)⟩,
    ⟨(some 33), none, .lld 6 1 false (.t 32)⟩,
    ⟨(some 34), none, .len .slice (.t 33)⟩,
    ⟨(some 35), none, .mv (.c (.int .i64 0))⟩])
  (.block 0
    (.loop
      (.seq (.region 0 [] [⟨(some 36), none, .bin .lss (.t 35) (.t 34)⟩])
      (.seq (.cond (.t 36)
        .skip
        (.exit 0))
      (.seq (.block 1
        (.seq (.region 0 [] [⟨(some 37), none, .mv (.t 35)⟩,
          ⟨(some 38), none, .ixa none 7 (.t 33) (.t 35)⟩,
          ⟨(some 39), none, .ld 7 true (.t 38)⟩,
          ⟨(some 11), none, .lalloc [(.slice [] .nil), (.slice [] .nil), (.int .i64 0), (.int .i64 0), (.int .i64 0), (.slice [] .nil), (.slice [] .nil)] [92, 85, 84, 81, 79, 69, 53, 51, 40]⟩,
          ⟨(some 10), none, .mv (.t 37)⟩,
          ⟨none, none, .lst 11 7 (.t 11) (.t 39)⟩])
        (.seq (.seq (.drawn 0 [] [⟨0, ⟨(some 40), none, .lfld 11 0 (.t 11)⟩, [], false⟩,
          ⟨1, ⟨(some 41), none, .lld 11 1 false (.t 40)⟩, [], false⟩,
          ⟨2, ⟨(some 42), none, .len .slice (.t 41)⟩, [], false⟩,
          ⟨3, ⟨(some 43), none, .mv (.t 9)⟩, [], false⟩,
          ⟨4, ⟨(some 44), none, .mv (.t 10)⟩, [], false⟩,
          ⟨5, ⟨(some 45), none, .ixa none 2 (.t 43) (.t 44)⟩, [], false⟩,
          ⟨6, ⟨(some 46), none, .fld 1 (.t 45)⟩, [], false⟩,
          ⟨7, ⟨(some 47), none, .ld 1 false (.t 46)⟩, [], false⟩,
          ⟨8, ⟨(some 48), none, .len .slice (.t 47)⟩, [], false⟩,
          ⟨9, ⟨(some 49), none, .bin .neq (.t 42) (.t 48)⟩, [], false⟩,
          ⟨10, ⟨(some 50), none, .mv (.t 49)⟩, [], false⟩,
          ⟨11, ⟨(some 51), (some (50, false)), .lfld 11 0 (.t 11)⟩, [], false⟩,
          ⟨12, ⟨(some 52), (some (50, false)), .lld 11 1 false (.t 51)⟩, [], false⟩,
          ⟨13, ⟨(some 53), (some (50, false)), .lfld 11 1 (.t 11)⟩, [], false⟩,
          ⟨14, ⟨(some 54), (some (50, false)), .lld 11 1 false (.t 53)⟩, [], false⟩,
          ⟨15, ⟨(some 55), (some (50, false)), .call 47 [(.t 52), (.t 54)]⟩, [], false⟩,
          ⟨16, ⟨(some 56), (some (50, false)), .un .not (.t 55)⟩, [], false⟩,
          ⟨17, ⟨(some 57), none, .pick (.t 50) (.c (.bool true)) (.t 56)⟩, [], false⟩])
        (.cond (.t 57)
          (.seq (.region 0 [] [⟨(some 8), none, .mv (.c (.bool false))⟩])
          .ret)
          .skip))
        (.seq (.seq (.region 0 [] [⟨(some 58), none, .mv (.t 9)⟩,
          ⟨(some 59), none, .mv (.t 10)⟩,
          ⟨(some 60), none, .ixa none 2 (.t 58) (.t 59)⟩,
          ⟨(some 61), none, .fld 1 (.t 60)⟩,
          ⟨(some 62), none, .ld 1 false (.t 61)⟩,
          ⟨(some 63), none, .len .slice (.t 62)⟩,
          ⟨(some 64), none, .mv (.c (.int .i64 0))⟩])
        (.block 2
          (.loop
            (.seq (.region 0 [] [⟨(some 65), none, .bin .lss (.t 64) (.t 63)⟩])
            (.seq (.cond (.t 65)
              .skip
              (.exit 2))
            (.seq (.block 3
              (.seq (.region 0 [] [⟨(some 66), none, .mv (.t 64)⟩,
                ⟨(some 67), none, .ixa none 2 (.t 62) (.t 64)⟩,
                ⟨(some 68), none, .ld 2 true (.t 67)⟩,
                ⟨(some 13), none, .lalloc [(.int .i64 0), (.bool false)] [74]⟩,
                ⟨(some 12), none, .mv (.t 66)⟩,
                ⟨none, none, .lst 13 2 (.t 13) (.t 68)⟩])
              (.seq (.drawn 0 [] [⟨0, ⟨(some 69), none, .lfld 11 1 (.t 11)⟩, [], false⟩,
                ⟨1, ⟨(some 70), none, .lld 11 1 false (.t 69)⟩, [], false⟩,
                ⟨2, ⟨(some 71), none, .mv (.t 12)⟩, [], false⟩,
                ⟨3, ⟨(some 72), none, .ixa none 1 (.t 70) (.t 71)⟩, [], false⟩,
                ⟨4, ⟨(some 73), none, .ld 1 false (.t 72)⟩, [], false⟩,
                ⟨5, ⟨(some 74), none, .lfld 13 1 (.t 13)⟩, [], false⟩,
                ⟨6, ⟨(some 75), none, .lld 13 1 false (.t 74)⟩, [], false⟩,
                ⟨7, ⟨(some 76), none, .eqv true .bool (.t 73) (.t 75)⟩, [], false⟩])
              (.cond (.t 76)
                (.seq (.region 0 [] [⟨(some 8), none, .mv (.c (.bool false))⟩])
                .ret)
                .skip))))
            (.region 0 [] [⟨(some 77), none, .bin .add (.t 64) (.c (.int .i64 1))⟩,
              ⟨(some 64), none, .mv (.t 77)⟩])))))))
        (.seq (.region 0 [] [⟨(some 78), none, .lld 5 2 true (.t 5)⟩,
          ⟨(some 79), none, .lfld 11 0 (.t 11)⟩,
          ⟨(some 80), none, .lld 11 1 false (.t 79)⟩,
          ⟨(some 81), none, .lfld 11 1 (.t 11)⟩,
          ⟨(some 82), none, .lld 11 1 false (.t 81)⟩,
          ⟨(some 83), none, .call 49 [(.t 78), (.t 80), (.t 82)]⟩,
          ⟨(some 14), none, .mv (.t 83)⟩])
        (.seq (.region 0 [] [⟨(some 84), none, .lfld 11 2 (.t 11)⟩,
          ⟨(some 85), none, .lfld 11 0 (.t 84)⟩,
          ⟨(some 86), none, .lld 11 1 false (.t 85)⟩,
          ⟨(some 87), none, .call 51 [(.t 86)]⟩,
          ⟨(some 88), none, .bin .eql (.t 87) (.c (.int .i64 2))⟩,
          ⟨(some 89), none, .mv (.t 88)⟩,
          ⟨(some 90), (some (89, true)), .mv (.t 0)⟩,
          ⟨(some 91), (some (89, true)), .lld 5 2 true (.t 5)⟩,
          ⟨(some 92), (some (89, true)), .lfld 11 2 (.t 11)⟩,
          ⟨(some 93), (some (89, true)), .lld 11 5 true (.t 92)⟩,
          ⟨(some 94), (some (89, true)), .mv (.t 3)⟩,
          ⟨(some 95), (some (89, true)), .bin .add (.t 94) (.c (.int .i64 1))⟩,
          ⟨(some 96), (some (89, true)), .call 52 [(.t 90), (.t 91), (.t 93), (.t 95)]⟩,
          ⟨(some 97), none, .pick (.t 89) (.t 96) (.c (.bool false))⟩,
          ⟨(some 15), none, .mv (.t 97)⟩])
        (.seq (.region 0 [] [⟨(some 98), none, .mv (.t 14)⟩,
          ⟨(some 99), none, .callv (.t 98) []⟩])
        (.seq (.region 0 [] [⟨(some 100), none, .mv (.t 15)⟩,
          ⟨(some 101), none, .un .not (.t 100)⟩])
        (.cond (.t 101)
          (.seq (.region 0 [] [⟨(some 8), none, .mv (.c (.bool false))⟩])
          .ret)
          .skip)))))))))
      (.region 0 [] [⟨(some 102), none, .bin .add (.t 35) (.c (.int .i64 1))⟩,
        ⟨(some 35), none, .mv (.t 102)⟩])))))))
  (.seq (.region 0 [] [⟨(some 8), none, .mv (.c (.bool true))⟩])
  .ret)))))⟩

/- (*chiasmus/kind.checker).variable -/
def f71 : AFunc := ⟨2, 25, [.tmp 4, .tmp 5], true,
  (.seq (.region 0 [] [⟨(some 3), none, .lbox (.t 1) [18, 10]⟩,
    ⟨(some 4), none, .mv (.c (.int .i64 0))⟩,
    ⟨(some 5), none, .mv (.c (.bool false))⟩])
  (.seq (.drawn 0 [] [⟨0, ⟨(some 9), none, .mv (.t 0)⟩, [], false⟩,
    ⟨1, ⟨(some 10), none, .lfld 3 0 (.t 3)⟩, [], false⟩,
    ⟨2, ⟨(some 11), none, .lld 3 1 false (.t 10)⟩, [], false⟩,
    ⟨3, ⟨(some 12), none, .bin .eql (.t 11) (.c (.int .i64 5))⟩, [], false⟩,
    ⟨4, ⟨(some 13), none, .call 80 [(.t 12)]⟩, [], false⟩,
    ⟨5, ⟨(some 14), none, .nilck (.t 9)⟩, [], false⟩,
    ⟨6, ⟨(some 15), none, .fld 2 (.t 14)⟩, [], false⟩,
    ⟨7, ⟨(some 16), none, .ixa (some 2) 1 (.t 15) (.t 13)⟩, [], false⟩,
    ⟨8, ⟨(some 17), none, .ld 1 false (.t 16)⟩, [], false⟩,
    ⟨9, ⟨(some 18), none, .lfld 3 1 (.t 3)⟩, [], false⟩,
    ⟨10, ⟨(some 19), none, .lld 3 1 false (.t 18)⟩, [], false⟩,
    ⟨11, ⟨(some 20), none, .lkp (.word .int) (.int .i64 0) true (.t 17) (.t 19)⟩, [], false⟩,
    ⟨12, ⟨(some 8), none, .mv (.t 20)⟩, [], false⟩,
    ⟨13, ⟨(some 21), none, .ext (.t 8) 0⟩, [], false⟩,
    ⟨14, ⟨(some 22), none, .ext (.t 8) 1⟩, [], false⟩,
    ⟨15, ⟨(some 6), none, .mv (.t 21)⟩, [], false⟩,
    ⟨16, ⟨(some 7), none, .mv (.t 22)⟩, [], false⟩])
  (.seq (.region 0 [] [⟨(some 23), none, .mv (.t 6)⟩,
    ⟨(some 24), none, .mv (.t 7)⟩,
    ⟨(some 4), none, .mv (.t 23)⟩,
    ⟨(some 5), none, .mv (.t 24)⟩])
  .ret)))⟩

/- (*chiasmus/kind.checker).number -/
def f72 : AFunc := ⟨2, 6, [.tmp 4, .tmp 5], true,
  (.seq (.region 0 [] [⟨(some 3), none, .lbox (.t 1) []⟩,
    ⟨(some 4), none, .mv (.c (.int .i64 0))⟩,
    ⟨(some 5), none, .mv (.c (.bool false))⟩])
  (.seq (.region 0 [] [⟨(some 4), none, .mv (.c (.int .i64 0))⟩,
    ⟨(some 5), none, .mv (.c (.bool true))⟩])
  .ret))⟩

/- (*chiasmus/kind.checker).xtor -/
def f73 : AFunc := ⟨2, 29, [.tmp 4, .tmp 5], true,
  (.seq (.region 0 [] [⟨(some 3), none, .lbox (.t 1) [22, 16, 9, 6]⟩,
    ⟨(some 4), none, .mv (.c (.int .i64 0))⟩,
    ⟨(some 5), none, .mv (.c (.bool false))⟩])
  (.seq (.drawn 0 [] [⟨0, ⟨(some 6), none, .lfld 3 2 (.t 3)⟩, [], false⟩,
    ⟨1, ⟨(some 7), none, .lld 3 1 false (.t 6)⟩, [], false⟩,
    ⟨2, ⟨(some 8), none, .mv (.t 0)⟩, [], false⟩,
    ⟨3, ⟨(some 9), none, .lfld 3 3 (.t 3)⟩, [], false⟩,
    ⟨4, ⟨(some 10), none, .lld 3 1 false (.t 9)⟩, [], false⟩,
    ⟨5, ⟨(some 11), none, .mv (.t 0)⟩, [], false⟩,
    ⟨6, ⟨(some 12), none, .nilck (.t 11)⟩, [], false⟩,
    ⟨7, ⟨(some 13), none, .fld 0 (.t 12)⟩, [], false⟩,
    ⟨8, ⟨(some 14), none, .fld 0 (.t 13)⟩, [], false⟩,
    ⟨9, ⟨(some 15), none, .ld 1 false (.t 14)⟩, [], false⟩,
    ⟨10, ⟨(some 16), none, .lfld 3 2 (.t 3)⟩, [], false⟩,
    ⟨11, ⟨(some 17), none, .lld 3 1 false (.t 16)⟩, [], false⟩,
    ⟨12, ⟨(some 18), none, .bin .sub (.t 17) (.c (.int .i64 1))⟩, [], false⟩,
    ⟨13, ⟨(some 19), none, .ixa none 3 (.t 15) (.t 18)⟩, [], false⟩,
    ⟨14, ⟨(some 20), none, .fld 2 (.t 19)⟩, [], false⟩,
    ⟨15, ⟨(some 21), none, .ld 1 false (.t 20)⟩, [], false⟩,
    ⟨16, ⟨(some 22), none, .lfld 3 1 (.t 3)⟩, [], false⟩,
    ⟨17, ⟨(some 23), none, .lld 3 1 false (.t 22)⟩, [], false⟩,
    ⟨18, ⟨(some 24), none, .ixa none 2 (.t 21) (.t 23)⟩, [], false⟩,
    ⟨19, ⟨(some 25), none, .fld 1 (.t 24)⟩, [], false⟩,
    ⟨20, ⟨(some 26), none, .ld 1 false (.t 25)⟩, [], false⟩,
    ⟨21, ⟨(some 27), none, .call 89 [(.t 26)]⟩, [], false⟩,
    ⟨22, ⟨(some 28), none, .call 88 [(.t 8), (.t 10), (.t 27)]⟩, [], false⟩,
    ⟨23, ⟨(some 4), none, .mv (.t 7)⟩, [], false⟩,
    ⟨24, ⟨(some 5), none, .mv (.t 28)⟩, [], false⟩])
  .ret))⟩

/- (*chiasmus/kind.checker).mu -/
def f74 : AFunc := ⟨2, 25, [.tmp 4, .tmp 5], true,
  (.seq (.region 0 [] [⟨(some 3), none, .lbox (.t 1) [21, 18, 12, 10, 7]⟩,
    ⟨(some 4), none, .mv (.c (.int .i64 0))⟩,
    ⟨(some 5), none, .mv (.c (.bool false))⟩])
  (.seq (.region 0 [] [⟨(some 6), none, .mv (.t 0)⟩,
    ⟨(some 7), none, .lfld 3 1 (.t 3)⟩,
    ⟨(some 8), none, .lld 3 1 false (.t 7)⟩,
    ⟨(some 9), none, .bslice 1 1 (.int .i64 0) [(0, (.t 8))]⟩,
    ⟨(some 10), none, .lfld 3 2 (.t 3)⟩,
    ⟨(some 11), none, .lld 3 1 false (.t 10)⟩,
    ⟨(some 12), none, .lfld 3 0 (.t 3)⟩,
    ⟨(some 13), none, .lld 3 1 false (.t 12)⟩,
    ⟨(some 14), none, .bin .eql (.t 13) (.c (.int .i64 3))⟩,
    ⟨(some 15), none, .build [(.int .i64 0), (.bool false)] [(0, 1, (.t 11)), (1, 1, (.t 14))]⟩,
    ⟨(some 16), none, .bslice 2 1 (.agg [(.int .i64 0), (.bool false)]) [(0, (.t 15))]⟩,
    ⟨(some 17), none, .call 54 [(.t 6), (.t 9), (.t 16)]⟩,
    ⟨none, none, .dfr (.t 17) []⟩])
  (.seq (.drawn 0 [] [⟨0, ⟨(some 18), none, .lfld 3 2 (.t 3)⟩, [], false⟩,
    ⟨1, ⟨(some 19), none, .lld 3 1 false (.t 18)⟩, [], false⟩,
    ⟨2, ⟨(some 20), none, .mv (.t 0)⟩, [], false⟩,
    ⟨3, ⟨(some 21), none, .lfld 3 3 (.t 3)⟩, [], false⟩,
    ⟨4, ⟨(some 22), none, .lld 3 1 false (.t 21)⟩, [], false⟩,
    ⟨5, ⟨(some 23), none, .bslice 1 1 (.int .i64 0) [(0, (.c (.int .i64 0)))]⟩, [], false⟩,
    ⟨6, ⟨(some 24), none, .call 88 [(.t 20), (.t 22), (.t 23)]⟩, [], false⟩,
    ⟨7, ⟨(some 4), none, .mv (.t 19)⟩, [], false⟩,
    ⟨8, ⟨(some 5), none, .mv (.t 24)⟩, [], false⟩])
  .ret)))⟩

/- (*chiasmus/kind.checker).match -/
def f75 : AFunc := ⟨2, 50, [.tmp 4, .tmp 5], true,
  (.seq (.region 0 [] [⟨(some 3), none, .lbox (.t 1) [48, 26, 10]⟩,
    ⟨(some 4), none, .mv (.c (.int .i64 0))⟩,
    ⟨(some 5), none, .mv (.c (.bool false))⟩])
  (.seq (.seq (.region 0 [] [⟨(some 10), none, .lfld 3 4 (.t 3)⟩,
    ⟨(some 11), none, .lld 3 1 false (.t 10)⟩,
    ⟨(some 12), none, .len .slice (.t 11)⟩,
    ⟨(some 13), none, .mv (.c (.int .i64 0))⟩])
  (.block 0
    (.loop
      (.seq (.region 0 [] [⟨(some 14), none, .bin .lss (.t 13) (.t 12)⟩])
      (.seq (.cond (.t 14)
        .skip
        (.exit 0))
      (.seq (.block 1
        (.seq (.region 0 [] [⟨(some 15), none, .mv (.t 13)⟩,
          ⟨(some 16), none, .ixa none 7 (.t 11) (.t 13)⟩,
          ⟨(some 17), none, .ld 7 true (.t 16)⟩,
          ⟨(some 7), none, .lalloc [(.slice [] .nil), (.slice [] .nil), (.int .i64 0), (.int .i64 0), (.int .i64 0), (.slice [] .nil), (.slice [] .nil)] [38, 19]⟩,
          ⟨(some 6), none, .mv (.t 15)⟩,
          ⟨none, none, .lst 7 7 (.t 7) (.t 17)⟩])
        (.seq (.drawn 0 [] [⟨0, ⟨(some 18), none, .mv (.t 0)⟩, [], false⟩,
          ⟨1, ⟨(some 19), none, .lfld 7 0 (.t 7)⟩, [], false⟩,
          ⟨2, ⟨(some 20), none, .lld 7 1 false (.t 19)⟩, [], false⟩,
          ⟨3, ⟨(some 21), none, .mv (.t 0)⟩, [], false⟩,
          ⟨4, ⟨(some 22), none, .nilck (.t 21)⟩, [], false⟩,
          ⟨5, ⟨(some 23), none, .fld 0 (.t 22)⟩, [], false⟩,
          ⟨6, ⟨(some 24), none, .fld 0 (.t 23)⟩, [], false⟩,
          ⟨7, ⟨(some 25), none, .ld 1 false (.t 24)⟩, [], false⟩,
          ⟨8, ⟨(some 26), none, .lfld 3 2 (.t 3)⟩, [], false⟩,
          ⟨9, ⟨(some 27), none, .lld 3 1 false (.t 26)⟩, [], false⟩,
          ⟨10, ⟨(some 28), none, .bin .sub (.t 27) (.c (.int .i64 1))⟩, [], false⟩,
          ⟨11, ⟨(some 29), none, .ixa none 3 (.t 25) (.t 28)⟩, [], false⟩,
          ⟨12, ⟨(some 30), none, .fld 2 (.t 29)⟩, [], false⟩,
          ⟨13, ⟨(some 31), none, .ld 1 false (.t 30)⟩, [], false⟩,
          ⟨14, ⟨(some 32), none, .mv (.t 6)⟩, [], false⟩,
          ⟨15, ⟨(some 33), none, .ixa none 2 (.t 31) (.t 32)⟩, [], false⟩,
          ⟨16, ⟨(some 34), none, .fld 1 (.t 33)⟩, [], false⟩,
          ⟨17, ⟨(some 35), none, .ld 1 false (.t 34)⟩, [], false⟩,
          ⟨18, ⟨(some 36), none, .call 54 [(.t 18), (.t 20), (.t 35)]⟩, [], false⟩,
          ⟨19, ⟨(some 8), none, .mv (.t 36)⟩, [], false⟩])
        (.seq (.region 0 [] [⟨(some 37), none, .mv (.t 0)⟩,
          ⟨(some 38), none, .lfld 7 2 (.t 7)⟩,
          ⟨(some 39), none, .lld 7 5 true (.t 38)⟩,
          ⟨(some 40), none, .bslice 5 1 (.agg [(.int .i64 0), (.int .i64 0), (.int .i64 0), (.slice [] .nil), (.slice [] .nil)]) [(0, (.t 39))]⟩,
          ⟨(some 41), none, .bslice 1 1 (.int .i64 0) [(0, (.c (.int .i64 0)))]⟩,
          ⟨(some 42), none, .call 88 [(.t 37), (.t 40), (.t 41)]⟩,
          ⟨(some 9), none, .mv (.t 42)⟩])
        (.seq (.region 0 [] [⟨(some 43), none, .mv (.t 8)⟩,
          ⟨(some 44), none, .callv (.t 43) []⟩])
        (.seq (.region 0 [] [⟨(some 45), none, .mv (.t 9)⟩,
          ⟨(some 46), none, .un .not (.t 45)⟩])
        (.cond (.t 46)
          (.seq (.region 0 [] [⟨(some 4), none, .mv (.c (.int .i64 0))⟩,
            ⟨(some 5), none, .mv (.c (.bool false))⟩])
          .ret)
          .skip)))))))
      (.region 0 [] [⟨(some 47), none, .bin .add (.t 13) (.c (.int .i64 1))⟩,
        ⟨(some 13), none, .mv (.t 47)⟩])))))))
  (.seq (.region 0 [] [⟨(some 48), none, .lfld 3 2 (.t 3)⟩,
    ⟨(some 49), none, .lld 3 1 false (.t 48)⟩,
    ⟨(some 4), none, .mv (.t 49)⟩,
    ⟨(some 5), none, .mv (.c (.bool true))⟩])
  .ret)))⟩

/- (*chiasmus/kind.checker).cut -/
def f76 : AFunc := ⟨2, 15, [.tmp 4, .tmp 5], true,
  (.seq (.region 0 [] [⟨(some 3), none, .lbox (.t 1) [11, 9, 7]⟩,
    ⟨(some 4), none, .mv (.c (.int .i64 0))⟩,
    ⟨(some 5), none, .mv (.c (.bool false))⟩])
  (.seq (.region 0 [] [⟨(some 6), none, .mv (.t 0)⟩,
    ⟨(some 7), none, .lfld 3 3 (.t 3)⟩,
    ⟨(some 8), none, .lld 3 1 false (.t 7)⟩,
    ⟨(some 9), none, .lfld 3 2 (.t 3)⟩,
    ⟨(some 10), none, .lld 3 1 false (.t 9)⟩,
    ⟨(some 11), none, .lfld 3 2 (.t 3)⟩,
    ⟨(some 12), none, .lld 3 1 false (.t 11)⟩,
    ⟨(some 13), none, .bslice 1 2 (.int .i64 0) [(0, (.t 10)), (1, (.t 12))]⟩,
    ⟨(some 14), none, .call 88 [(.t 6), (.t 8), (.t 13)]⟩,
    ⟨(some 4), none, .mv (.c (.int .i64 0))⟩,
    ⟨(some 5), none, .mv (.t 14)⟩])
  .ret))⟩

/- (*chiasmus/kind.checker).prim -/
def f77 : AFunc := ⟨2, 11, [.tmp 4, .tmp 5], true,
  (.seq (.region 0 [] [⟨(some 3), none, .lbox (.t 1) [7]⟩,
    ⟨(some 4), none, .mv (.c (.int .i64 0))⟩,
    ⟨(some 5), none, .mv (.c (.bool false))⟩])
  (.seq (.region 0 [] [⟨(some 6), none, .mv (.t 0)⟩,
    ⟨(some 7), none, .lfld 3 3 (.t 3)⟩,
    ⟨(some 8), none, .lld 3 1 false (.t 7)⟩,
    ⟨(some 9), none, .bslice 1 3 (.int .i64 0) [(0, (.c (.int .i64 0))), (1, (.c (.int .i64 0))), (2, (.c (.int .i64 0)))]⟩,
    ⟨(some 10), none, .call 88 [(.t 6), (.t 8), (.t 9)]⟩,
    ⟨(some 4), none, .mv (.c (.int .i64 0))⟩,
    ⟨(some 5), none, .mv (.t 10)⟩])
  .ret))⟩

/- (*chiasmus/kind.checker).test -/
def f78 : AFunc := ⟨2, 11, [.tmp 4, .tmp 5], true,
  (.seq (.region 0 [] [⟨(some 3), none, .lbox (.t 1) [7]⟩,
    ⟨(some 4), none, .mv (.c (.int .i64 0))⟩,
    ⟨(some 5), none, .mv (.c (.bool false))⟩])
  (.seq (.region 0 [] [⟨(some 6), none, .mv (.t 0)⟩,
    ⟨(some 7), none, .lfld 3 3 (.t 3)⟩,
    ⟨(some 8), none, .lld 3 1 false (.t 7)⟩,
    ⟨(some 9), none, .bslice 1 3 (.int .i64 0) [(0, (.c (.int .i64 0))), (1, (.c (.int .i64 0))), (2, (.c (.int .i64 0)))]⟩,
    ⟨(some 10), none, .call 88 [(.t 6), (.t 8), (.t 9)]⟩,
    ⟨(some 4), none, .mv (.c (.int .i64 0))⟩,
    ⟨(some 5), none, .mv (.t 10)⟩])
  .ret))⟩

/- (*chiasmus/kind.checker).call -/
def f79 : AFunc := ⟨2, 21, [.tmp 4, .tmp 5], true,
  (.seq (.region 0 [] [⟨(some 3), none, .lbox (.t 1) [14, 7]⟩,
    ⟨(some 4), none, .mv (.c (.int .i64 0))⟩,
    ⟨(some 5), none, .mv (.c (.bool false))⟩])
  (.seq (.drawn 0 [] [⟨0, ⟨(some 6), none, .mv (.t 0)⟩, [], false⟩,
    ⟨1, ⟨(some 7), none, .lfld 3 3 (.t 3)⟩, [], false⟩,
    ⟨2, ⟨(some 8), none, .lld 3 1 false (.t 7)⟩, [], false⟩,
    ⟨3, ⟨(some 9), none, .mv (.t 0)⟩, [], false⟩,
    ⟨4, ⟨(some 10), none, .nilck (.t 9)⟩, [], false⟩,
    ⟨5, ⟨(some 11), none, .fld 0 (.t 10)⟩, [], false⟩,
    ⟨6, ⟨(some 12), none, .fld 1 (.t 11)⟩, [], false⟩,
    ⟨7, ⟨(some 13), none, .ld 1 false (.t 12)⟩, [], false⟩,
    ⟨8, ⟨(some 14), none, .lfld 3 1 (.t 3)⟩, [], false⟩,
    ⟨9, ⟨(some 15), none, .lld 3 1 false (.t 14)⟩, [], false⟩,
    ⟨10, ⟨(some 16), none, .ixa none 8 (.t 13) (.t 15)⟩, [], false⟩,
    ⟨11, ⟨(some 17), none, .fld 1 (.t 16)⟩, [], false⟩,
    ⟨12, ⟨(some 18), none, .ld 1 false (.t 17)⟩, [], false⟩,
    ⟨13, ⟨(some 19), none, .call 89 [(.t 18)]⟩, [], false⟩,
    ⟨14, ⟨(some 20), none, .call 88 [(.t 6), (.t 8), (.t 19)]⟩, [], false⟩,
    ⟨15, ⟨(some 4), none, .mv (.c (.int .i64 0))⟩, [], false⟩,
    ⟨16, ⟨(some 5), none, .mv (.t 20)⟩, [], false⟩])
  .ret))⟩

/- chiasmus/kind.side -/
def f80 : AFunc := ⟨1, 4, [.tmp 2], true,
  (.seq (.region 0 [] [⟨(some 2), none, .mv (.c (.int .i64 0))⟩])
  (.seq (.seq (.region 0 [] [⟨(some 3), none, .mv (.t 0)⟩])
  (.cond (.t 3)
    (.seq (.region 0 [] [⟨(some 2), none, .mv (.c (.int .i64 1))⟩])
    .ret)
    .skip))
  (.seq (.region 0 [] [⟨(some 2), none, .mv (.c (.int .i64 0))⟩])
  .ret)))⟩

/- (*chiasmus/kind.checker).bind$1 -/
def f81 : AFunc := ⟨2, 37, [], true,
  (.seq (.region 0 [] [⟨(some 4), none, .ld 1 false (.t 0)⟩,
    ⟨(some 5), none, .len .slice (.t 4)⟩,
    ⟨(some 6), none, .bin .sub (.t 5) (.c (.int .i64 1))⟩,
    ⟨(some 2), none, .mv (.t 6)⟩])
  (.block 0
    (.loop
      (.seq (.seq (.region 0 [] [⟨(some 7), none, .mv (.t 2)⟩,
        ⟨(some 8), none, .bin .geq (.t 7) (.c (.int .i64 0))⟩])
      (.cond (.t 8)
        .skip
        (.exit 0)))
      (.seq (.block 1
        (.seq (.region 0 [] [⟨(some 11), none, .ld 1 false (.t 0)⟩,
          ⟨(some 12), none, .mv (.t 2)⟩,
          ⟨(some 13), none, .ixa none 4 (.t 11) (.t 12)⟩,
          ⟨(some 14), none, .ld 4 true (.t 13)⟩,
          ⟨(some 3), none, .lalloc [(.int .i64 0), (.int .i64 0), (.int .i64 0), (.bool false)] [35, 33, 27, 24, 22, 16]⟩,
          ⟨none, none, .lst 3 4 (.t 3) (.t 14)⟩])
        (.seq (.drawn 0 [] [⟨0, ⟨(some 15), none, .ld 1 false (.t 1)⟩, [], false⟩,
          ⟨1, ⟨(some 16), none, .lfld 3 0 (.t 3)⟩, [], false⟩,
          ⟨2, ⟨(some 17), none, .lld 3 1 false (.t 16)⟩, [], false⟩,
          ⟨3, ⟨(some 18), none, .nilck (.t 15)⟩, [], false⟩,
          ⟨4, ⟨(some 19), none, .fld 2 (.t 18)⟩, [], false⟩,
          ⟨5, ⟨(some 20), none, .ixa (some 2) 1 (.t 19) (.t 17)⟩, [], false⟩,
          ⟨6, ⟨(some 21), none, .ld 1 false (.t 20)⟩, [], false⟩,
          ⟨7, ⟨(some 22), none, .lfld 3 1 (.t 3)⟩, [], false⟩,
          ⟨8, ⟨(some 23), none, .lld 3 1 false (.t 22)⟩, [], false⟩,
          ⟨9, ⟨none, none, .del (.word .int) (.t 21) (.t 23)⟩, [], false⟩])
        (.seq (.region 0 [] [⟨(some 24), none, .lfld 3 3 (.t 3)⟩,
          ⟨(some 25), none, .lld 3 1 false (.t 24)⟩])
        (.cond (.t 25)
          (.drawn 0 [] [⟨0, ⟨(some 26), none, .ld 1 false (.t 1)⟩, [], false⟩,
            ⟨1, ⟨(some 27), none, .lfld 3 0 (.t 3)⟩, [], false⟩,
            ⟨2, ⟨(some 28), none, .lld 3 1 false (.t 27)⟩, [], false⟩,
            ⟨3, ⟨(some 29), none, .nilck (.t 26)⟩, [], false⟩,
            ⟨4, ⟨(some 30), none, .fld 2 (.t 29)⟩, [], false⟩,
            ⟨5, ⟨(some 31), none, .ixa (some 2) 1 (.t 30) (.t 28)⟩, [], false⟩,
            ⟨6, ⟨(some 32), none, .ld 1 false (.t 31)⟩, [], false⟩,
            ⟨7, ⟨(some 33), none, .lfld 3 1 (.t 3)⟩, [], false⟩,
            ⟨8, ⟨(some 34), none, .lld 3 1 false (.t 33)⟩, [], false⟩,
            ⟨9, ⟨(some 35), none, .lfld 3 2 (.t 3)⟩, [], false⟩,
            ⟨10, ⟨(some 36), none, .lld 3 1 false (.t 35)⟩, [], false⟩,
            ⟨11, ⟨none, none, .mset (.word .int) (.t 32) (.t 34) (.t 36)⟩, [], false⟩])
          .skip)))))
      (.region 0 [] [⟨(some 9), none, .mv (.t 2)⟩,
        ⟨(some 10), none, .bin .sub (.t 9) (.c (.int .i64 1))⟩,
        ⟨(some 2), none, .mv (.t 10)⟩]))))))⟩

/- chiasmus/core.NewMap -/
def f82 : AFunc := ⟨0, 4, [.lcell 0 0 2 true], true,
  (.seq (.region 0 [] [⟨(some 0), none, .lalloc [(.map none), (.map none)] []⟩])
  (.seq (.region 2 [(0, (.map [] 0)), (1, (.map [] 0))] [⟨(some 1), none, .mkmap 0⟩,
    ⟨(some 2), none, .mkmap 1⟩,
    ⟨(some 3), none, .build [(.map none), (.map none)] [(0, 1, (.t 1)), (1, 1, (.t 2))]⟩,
    ⟨none, none, .lst 0 2 (.t 0) (.t 3)⟩])
  .ret))⟩

/- chiasmus/core.Replace -/
def f83 : AFunc := ⟨3, 49, [.lcell 6 6 5 true, .tmp 7], true,
  (.seq (.region 1 [] [⟨(some 3), none, .lbox (.t 0) []⟩,
    ⟨(some 4), none, .box 0 (.t 1)⟩,
    ⟨(some 6), none, .lalloc [(.int .i64 0), (.int .i64 0), (.int .i64 0), (.slice [] .nil), (.slice [] .nil)] []⟩,
    ⟨(some 7), none, .mv (.c (.bool false))⟩])
  (.seq (.region 4 [(0, (.map [] 0)), (1, (.map [] 0)), (3, (.cells [.nilptr]))] [⟨(some 14), none, .mkmap 0⟩,
    ⟨(some 15), none, .mkmap 1⟩,
    ⟨(some 16), none, .build [(.map none), (.map none)] [(0, 1, (.t 14)), (1, 1, (.t 15))]⟩,
    ⟨(some 17), none, .mv (.t 2)⟩,
    ⟨(some 18), none, .ld 2 true (.t 4)⟩,
    ⟨(some 19), none, .build [(.map none), (.map none), (.int .i64 0), (.int .i64 0), (.int .i64 0), (.map none), (.map none)] [(0, 2, (.t 16)), (4, 1, (.t 17)), (5, 2, (.t 18))]⟩,
    ⟨(some 20), none, .box 2 (.t 19)⟩,
    ⟨(some 8), none, .alloc 3 [.nilptr]⟩,
    ⟨none, none, .st 1 (.t 8) (.t 20)⟩])
  (.seq (.region 0 [] [⟨(some 21), none, .mkfn 90 [] [(.t 8)]⟩,
    ⟨(some 9), none, .mv (.t 21)⟩])
  (.seq (.region 0 [] [⟨(some 22), none, .mv (.t 9)⟩,
    ⟨(some 23), none, .lld 3 5 true (.t 3)⟩,
    ⟨(some 24), none, .callv (.t 22) [(.t 23)]⟩])
  (.seq (.seq (.region 0 [] [⟨(some 25), none, .mv (.c (.int .i64 0))⟩])
  (.block 0
    (.loop
      (.seq (.region 0 [] [⟨(some 26), none, .bin .lss (.t 25) (.c (.int .i64 2))⟩])
      (.seq (.cond (.t 26)
        .skip
        (.exit 0))
      (.seq (.block 1
        (.seq (.region 0 [] [⟨(some 27), none, .mv (.t 25)⟩,
          ⟨(some 10), none, .mv (.t 27)⟩])
        (.seq (.region 1 [] [⟨(some 28), none, .mv (.t 10)⟩,
          ⟨(some 29), none, .ixa (some 2) 1 (.t 4) (.t 28)⟩,
          ⟨(some 30), none, .ld 1 false (.t 29)⟩,
          ⟨(some 31), none, .rng 0 (.t 30)⟩])
        (.block 2
          (.loop
            (.seq (.region 0 [] [⟨(some 32), none, .nxt (.t 31)⟩,
              ⟨(some 33), none, .ext (.t 32) 0⟩])
            (.seq (.cond (.t 33)
              .skip
              (.exit 2))
            (.block 3
              (.seq (.region 0 [] [⟨(some 34), none, .ent (.t 31)⟩,
                ⟨(some 35), none, .ext (.t 34) 1⟩,
                ⟨(some 12), none, .lalloc [(.int .i64 0), (.int .i64 0), (.int .i64 0), (.slice [] .nil), (.slice [] .nil)] []⟩,
                ⟨none, none, .lst 12 5 (.t 12) (.t 35)⟩])
              (.region 0 [] [⟨(some 36), none, .mv (.t 9)⟩,
                ⟨(some 37), none, .lld 12 5 true (.t 12)⟩,
                ⟨(some 38), none, .callv (.t 36) [(.t 37)]⟩]))))))))))
      (.region 0 [] [⟨(some 39), none, .bin .add (.t 25) (.c (.int .i64 1))⟩,
        ⟨(some 25), none, .mv (.t 39)⟩])))))))
  (.seq (.region 0 [] [⟨(some 40), none, .ld 1 false (.t 8)⟩,
    ⟨(some 41), none, .lld 3 5 true (.t 3)⟩,
    ⟨(some 42), none, .call 92 [(.t 40), (.t 41)]⟩,
    ⟨(some 13), none, .lalloc [(.int .i64 0), (.int .i64 0), (.int .i64 0), (.slice [] .nil), (.slice [] .nil)] []⟩,
    ⟨none, none, .lst 13 5 (.t 13) (.t 42)⟩])
  (.seq (.drawn 0 [] [⟨0, ⟨(some 43), none, .lld 13 5 true (.t 13)⟩, [], false⟩,
    ⟨1, ⟨(some 44), none, .ld 1 false (.t 8)⟩, [], false⟩,
    ⟨2, ⟨(some 45), none, .nilck (.t 44)⟩, [], false⟩,
    ⟨3, ⟨(some 46), none, .fld 4 (.t 45)⟩, [], false⟩,
    ⟨4, ⟨(some 47), none, .ld 1 false (.t 46)⟩, [], false⟩,
    ⟨5, ⟨(some 48), none, .bin .geq (.t 47) (.c (.int .i64 0))⟩, [], false⟩,
    ⟨6, ⟨none, none, .lst 6 5 (.t 6) (.t 43)⟩, [], false⟩,
    ⟨7, ⟨(some 7), none, .mv (.t 48)⟩, [], false⟩])
  .ret)))))))⟩

/- chiasmus/focus.most$1 -/
def f84 : AFunc := ⟨3, 15, [], true,
  (.seq (.region 0 [] [⟨(some 5), none, .mv (.c (.int .i64 0))⟩])
  (.seq (.seq (.region 0 [] [⟨(some 6), none, .mv (.t 0)⟩])
  (.cond (.t 6)
    (.region 0 [] [⟨(some 5), none, .mv (.c (.int .i64 1))⟩])
    .skip))
  (.region 0 [] [⟨(some 7), none, .mv (.t 5)⟩,
    ⟨(some 8), none, .mv (.t 5)⟩,
    ⟨(some 9), none, .ixa (some 2) 1 (.t 2) (.t 8)⟩,
    ⟨(some 10), none, .ld 1 false (.t 9)⟩,
    ⟨(some 11), none, .mv (.t 1)⟩,
    ⟨(some 12), none, .bin .add (.t 11) (.c (.int .i64 1))⟩,
    ⟨(some 13), none, .maxi [(.t 10), (.t 12)]⟩,
    ⟨(some 14), none, .ixa (some 2) 1 (.t 2) (.t 7)⟩,
    ⟨none, none, .st 1 (.t 14) (.t 13)⟩])))⟩

/- chiasmus/focus.most$2 -/
def f85 : AFunc := ⟨2, 15, [], true,
  (.seq (.region 0 [] [⟨(some 2), none, .lbox (.t 0) [10, 5]⟩])
  (.drawn 0 [] [⟨0, ⟨(some 3), none, .ixa (some 2) 1 (.t 1) (.c (.int .i64 0))⟩, [], false⟩,
    ⟨1, ⟨(some 4), none, .ld 1 false (.t 3)⟩, [], false⟩,
    ⟨2, ⟨(some 5), none, .lfld 2 0 (.t 2)⟩, [], false⟩,
    ⟨3, ⟨(some 6), none, .lld 2 1 false (.t 5)⟩, [], false⟩,
    ⟨4, ⟨(some 7), none, .maxi [(.t 4), (.t 6)]⟩, [], false⟩,
    ⟨5, ⟨(some 8), none, .ixa (some 2) 1 (.t 1) (.c (.int .i64 1))⟩, [], false⟩,
    ⟨6, ⟨(some 9), none, .ld 1 false (.t 8)⟩, [], false⟩,
    ⟨7, ⟨(some 10), none, .lfld 2 1 (.t 2)⟩, [], false⟩,
    ⟨8, ⟨(some 11), none, .lld 2 1 false (.t 10)⟩, [], false⟩,
    ⟨9, ⟨(some 12), none, .maxi [(.t 9), (.t 11)]⟩, [], false⟩,
    ⟨10, ⟨(some 13), none, .ixa (some 2) 1 (.t 1) (.c (.int .i64 0))⟩, [], false⟩,
    ⟨11, ⟨none, none, .st 1 (.t 13) (.t 7)⟩, [], false⟩,
    ⟨12, ⟨(some 14), none, .ixa (some 2) 1 (.t 1) (.c (.int .i64 1))⟩, [], false⟩,
    ⟨13, ⟨none, none, .st 1 (.t 14) (.t 12)⟩, [], false⟩]))⟩

/- (*chiasmus/focus.focuser).command -/
def f86 : AFunc := ⟨2, 55, [.lcell 4 4 5 true], true,
  (.seq (.region 2 [] [⟨(some 2), none, .box 0 (.t 0)⟩,
    ⟨(some 3), none, .box 1 (.t 1)⟩,
    ⟨(some 4), none, .lalloc [(.int .i64 0), (.int .i64 0), (.int .i64 0), (.slice [] .nil), (.slice [] .nil)] []⟩])
  (.seq (.region 0 [] [⟨(some 6), none, .build [(.int .i64 0), (.bool false)] []⟩,
    ⟨(some 7), none, .build [(.int .i64 0), (.bool false)] []⟩,
    ⟨(some 8), none, .bslice 2 2 (.agg [(.int .i64 0), (.bool false)]) [(0, (.t 6)), (1, (.t 7))]⟩,
    ⟨(some 5), none, .mv (.t 8)⟩])
  (.seq (.seq (.region 0 [] [⟨(some 9), none, .fld 0 (.t 3)⟩,
    ⟨(some 10), none, .ld 1 false (.t 9)⟩])
  (.block 0
    (.seq (.region 0 [] [⟨(some 12), none, .bin .eql (.t 10) (.c (.int .i64 9))⟩,
      ⟨(some 11), none, .mv (.t 12)⟩])
    (.cond (.t 11)
      (.seq (.drawn 0 [] [⟨0, ⟨(some 13), none, .ld 1 false (.t 2)⟩, [], false⟩,
        ⟨1, ⟨(some 14), none, .fld 3 (.t 3)⟩, [], false⟩,
        ⟨2, ⟨(some 15), none, .ld 1 false (.t 14)⟩, [], false⟩,
        ⟨3, ⟨(some 16), none, .ixa none 5 (.t 15) (.c (.int .i64 0))⟩, [], false⟩,
        ⟨4, ⟨(some 17), none, .ld 5 true (.t 16)⟩, [], false⟩,
        ⟨5, ⟨(some 18), none, .mkfn 94 [] [(.t 2), (.t 3)]⟩, [], false⟩,
        ⟨6, ⟨(some 19), none, .call 93 [(.t 13), (.t 17), (.t 18)]⟩, [], false⟩,
        ⟨7, ⟨none, none, .lst 4 5 (.t 4) (.t 19)⟩, [], false⟩])
      .ret)
      (.seq (.region 0 [] [⟨(some 21), none, .bin .eql (.t 10) (.c (.int .i64 10))⟩,
        ⟨(some 20), none, .mv (.t 21)⟩])
      (.cond (.t 20)
        (.seq (.drawn 0 [] [⟨0, ⟨(some 22), none, .ld 1 false (.t 2)⟩, [], false⟩,
          ⟨1, ⟨(some 23), none, .mkfn 98 [] [(.t 3), (.t 2)]⟩, [], false⟩,
          ⟨2, ⟨(some 24), none, .mv (.t 5)⟩, [], false⟩,
          ⟨3, ⟨(some 25), none, .fld 3 (.t 3)⟩, [], false⟩,
          ⟨4, ⟨(some 26), none, .ld 1 false (.t 25)⟩, [], false⟩,
          ⟨5, ⟨(some 27), none, .sub false 5 (.t 26) none (some (.c (.int .i64 2))) none⟩, [], false⟩,
          ⟨6, ⟨(some 28), none, .call 97 [(.t 22), (.t 23), (.t 24), (.c (.slice [] .nil)), (.t 27)]⟩, [], false⟩,
          ⟨7, ⟨none, none, .lst 4 5 (.t 4) (.t 28)⟩, [], false⟩])
        .ret)
        (.seq (.region 0 [] [⟨(some 30), none, .bin .eql (.t 10) (.c (.int .i64 13))⟩,
          ⟨(some 29), none, .mv (.t 30)⟩])
        (.cond (.t 29)
          (.seq (.drawn 0 [] [⟨0, ⟨(some 31), none, .ld 1 false (.t 2)⟩, [], false⟩,
            ⟨1, ⟨(some 32), none, .mkfn 99 [] [(.t 3)]⟩, [], false⟩,
            ⟨2, ⟨(some 33), none, .ld 1 false (.t 2)⟩, [], false⟩,
            ⟨3, ⟨(some 34), none, .nilck (.t 33)⟩, [], false⟩,
            ⟨4, ⟨(some 35), none, .fld 0 (.t 34)⟩, [], false⟩,
            ⟨5, ⟨(some 36), none, .fld 1 (.t 35)⟩, [], false⟩,
            ⟨6, ⟨(some 37), none, .ld 1 false (.t 36)⟩, [], false⟩,
            ⟨7, ⟨(some 38), none, .fld 1 (.t 3)⟩, [], false⟩,
            ⟨8, ⟨(some 39), none, .ld 1 false (.t 38)⟩, [], false⟩,
            ⟨9, ⟨(some 40), none, .ixa none 8 (.t 37) (.t 39)⟩, [], false⟩,
            ⟨10, ⟨(some 41), none, .fld 1 (.t 40)⟩, [], false⟩,
            ⟨11, ⟨(some 42), none, .ld 1 false (.t 41)⟩, [], false⟩,
            ⟨12, ⟨(some 43), none, .fld 3 (.t 3)⟩, [], false⟩,
            ⟨13, ⟨(some 44), none, .ld 1 false (.t 43)⟩, [], false⟩,
            ⟨14, ⟨(some 45), none, .call 97 [(.t 31), (.t 32), (.t 42), (.c (.slice [] .nil)), (.t 44)]⟩, [], false⟩,
            ⟨15, ⟨none, none, .lst 4 5 (.t 4) (.t 45)⟩, [], false⟩])
          .ret)
          .skip))))))))
  (.seq (.drawn 0 [] [⟨0, ⟨(some 46), none, .ld 1 false (.t 2)⟩, [], false⟩,
    ⟨1, ⟨(some 47), none, .mkfn 100 [] [(.t 3), (.t 2)]⟩, [], false⟩,
    ⟨2, ⟨(some 48), none, .mv (.t 5)⟩, [], false⟩,
    ⟨3, ⟨(some 49), none, .fld 3 (.t 3)⟩, [], false⟩,
    ⟨4, ⟨(some 50), none, .ld 1 false (.t 49)⟩, [], false⟩,
    ⟨5, ⟨(some 51), none, .ixa none 5 (.t 50) (.c (.int .i64 0))⟩, [], false⟩,
    ⟨6, ⟨(some 52), none, .ld 5 true (.t 51)⟩, [], false⟩,
    ⟨7, ⟨(some 53), none, .bslice 5 1 (.agg [(.int .i64 0), (.int .i64 0), (.int .i64 0), (.slice [] .nil), (.slice [] .nil)]) [(0, (.t 52))]⟩, [], false⟩,
    ⟨8, ⟨(some 54), none, .call 97 [(.t 46), (.t 47), (.t 48), (.c (.slice [] .nil)), (.t 53)]⟩, [], false⟩,
    ⟨9, ⟨none, none, .lst 4 5 (.t 4) (.t 54)⟩, [], false⟩])
  .ret))))⟩

/- (*chiasmus/kind.checker).are -/
def f88 : AFunc := ⟨3, 35, [.tmp 6], true,
  (.seq (.region 0 [] [⟨(some 6), none, .mv (.c (.bool false))⟩])
  (.seq (.seq (.region 0 [] [⟨(some 11), none, .mv (.t 1)⟩,
    ⟨(some 12), none, .len .slice (.t 11)⟩,
    ⟨(some 13), none, .mv (.c (.int .i64 0))⟩])
  (.block 0
    (.loop
      (.seq (.region 0 [] [⟨(some 14), none, .bin .lss (.t 13) (.t 12)⟩])
      (.seq (.cond (.t 14)
        .skip
        (.exit 0))
      (.seq (.block 1
        (.seq (.region 0 [] [⟨(some 15), none, .mv (.t 13)⟩,
          ⟨(some 16), none, .ixa none 5 (.t 11) (.t 13)⟩,
          ⟨(some 17), none, .ld 5 true (.t 16)⟩,
          ⟨(some 8), none, .lalloc [(.int .i64 0), (.int .i64 0), (.int .i64 0), (.slice [] .nil), (.slice [] .nil)] []⟩,
          ⟨(some 7), none, .mv (.t 15)⟩,
          ⟨none, none, .lst 8 5 (.t 8) (.t 17)⟩])
        (.seq (.region 0 [] [⟨(some 19), none, .mv (.t 0)⟩,
          ⟨(some 20), none, .lld 8 5 true (.t 8)⟩,
          ⟨(some 21), none, .call 55 [(.t 19), (.t 20)]⟩,
          ⟨(some 18), none, .mv (.t 21)⟩,
          ⟨(some 22), none, .ext (.t 18) 0⟩,
          ⟨(some 23), none, .ext (.t 18) 1⟩,
          ⟨(some 9), none, .mv (.t 22)⟩,
          ⟨(some 10), none, .mv (.t 23)⟩])
        (.seq (.region 0 [] [⟨(some 24), none, .mv (.t 10)⟩,
          ⟨(some 25), none, .un .not (.t 24)⟩,
          ⟨(some 26), none, .mv (.t 25)⟩,
          ⟨(some 27), (some (26, false)), .mv (.t 9)⟩,
          ⟨(some 28), (some (26, false)), .mv (.t 2)⟩,
          ⟨(some 29), (some (26, false)), .mv (.t 7)⟩,
          ⟨(some 30), (some (26, false)), .ixa none 1 (.t 28) (.t 29)⟩,
          ⟨(some 31), (some (26, false)), .ld 1 false (.t 30)⟩,
          ⟨(some 32), (some (26, false)), .bin .neq (.t 27) (.t 31)⟩,
          ⟨(some 33), none, .pick (.t 26) (.c (.bool true)) (.t 32)⟩])
        (.cond (.t 33)
          (.seq (.region 0 [] [⟨(some 6), none, .mv (.c (.bool false))⟩])
          .ret)
          .skip)))))
      (.region 0 [] [⟨(some 34), none, .bin .add (.t 13) (.c (.int .i64 1))⟩,
        ⟨(some 13), none, .mv (.t 34)⟩])))))))
  (.seq (.region 0 [] [⟨(some 6), none, .mv (.c (.bool true))⟩])
  .ret)))⟩

/- chiasmus/kind.types -/
def f89 : AFunc := ⟨1, 19, [.tmp 2], true,
  (.seq (.region 0 [] [⟨(some 2), none, .mv (.c (.slice [] .nil))⟩])
  (.seq (.region 0 [] [⟨(some 3), none, .mv (.c (.slice [] .nil))⟩])
  (.seq (.seq (.region 0 [] [⟨(some 6), none, .mv (.t 0)⟩,
    ⟨(some 7), none, .len .slice (.t 6)⟩,
    ⟨(some 8), none, .mv (.c (.int .i64 0))⟩])
  (.block 0
    (.loop
      (.seq (.region 0 [] [⟨(some 9), none, .bin .lss (.t 8) (.t 7)⟩])
      (.seq (.cond (.t 9)
        .skip
        (.exit 0))
      (.seq (.block 1
        (.seq (.region 0 [] [⟨(some 10), none, .ixa none 2 (.t 6) (.t 8)⟩,
          ⟨(some 11), none, .ld 2 true (.t 10)⟩,
          ⟨(some 5), none, .lalloc [(.int .i64 0), (.bool false)] [13]⟩,
          ⟨none, none, .lst 5 2 (.t 5) (.t 11)⟩])
        (.region 1 [] [⟨(some 12), none, .mv (.t 3)⟩,
          ⟨(some 13), none, .lfld 5 0 (.t 5)⟩,
          ⟨(some 14), none, .lld 5 1 false (.t 13)⟩,
          ⟨(some 15), none, .bslice 1 1 (.int .i64 0) [(0, (.t 14))]⟩,
          ⟨(some 16), none, .app 0 1 8 (.t 12) (.t 15)⟩,
          ⟨(some 3), none, .mv (.t 16)⟩])))
      (.region 0 [] [⟨(some 17), none, .bin .add (.t 8) (.c (.int .i64 1))⟩,
        ⟨(some 8), none, .mv (.t 17)⟩])))))))
  (.seq (.region 0 [] [⟨(some 18), none, .mv (.t 3)⟩,
    ⟨(some 2), none, .mv (.t 18)⟩])
  .ret))))⟩

/- chiasmus/core.Replace$1 -/
def f90 : AFunc := ⟨2, 27, [], true,
  (.seq (.region 0 [] [⟨(some 2), none, .lbox (.t 0) []⟩])
  (.seq (.region 1 [(0, (.cells [(.map none), (.map none)]))] [⟨(some 6), none, .lld 2 5 true (.t 2)⟩,
    ⟨(some 7), none, .call 91 [(.t 6)]⟩,
    ⟨(some 3), none, .alloc 0 [(.map none), (.map none)]⟩,
    ⟨none, none, .st 2 (.t 3) (.t 7)⟩])
  (.seq (.region 0 [] [⟨(some 8), none, .mv (.c (.int .i64 0))⟩])
  (.block 0
    (.loop
      (.seq (.region 0 [] [⟨(some 9), none, .bin .lss (.t 8) (.c (.int .i64 2))⟩])
      (.seq (.cond (.t 9)
        .skip
        (.exit 0))
      (.seq (.block 1
        (.seq (.region 0 [] [⟨(some 10), none, .mv (.t 8)⟩,
          ⟨(some 4), none, .mv (.t 10)⟩])
        (.seq (.region 1 [] [⟨(some 11), none, .mv (.t 4)⟩,
          ⟨(some 12), none, .ixa (some 2) 1 (.t 3) (.t 11)⟩,
          ⟨(some 13), none, .ld 1 false (.t 12)⟩,
          ⟨(some 14), none, .rng 0 (.t 13)⟩])
        (.block 2
          (.loop
            (.seq (.region 0 [] [⟨(some 15), none, .nxt (.t 14)⟩,
              ⟨(some 16), none, .ext (.t 15) 0⟩])
            (.seq (.cond (.t 16)
              .skip
              (.exit 2))
            (.block 3
              (.seq (.region 0 [] [⟨(some 17), none, .ent (.t 14)⟩,
                ⟨(some 18), none, .ext (.t 17) 0⟩,
                ⟨(some 5), none, .mv (.t 18)⟩])
              (.region 0 [] [⟨(some 19), none, .ld 1 false (.t 1)⟩,
                ⟨(some 20), none, .mv (.t 4)⟩,
                ⟨(some 21), none, .nilck (.t 19)⟩,
                ⟨(some 22), none, .fld 0 (.t 21)⟩,
                ⟨(some 23), none, .ixa (some 2) 1 (.t 22) (.t 20)⟩,
                ⟨(some 24), none, .ld 1 false (.t 23)⟩,
                ⟨(some 25), none, .mv (.t 5)⟩,
                ⟨none, none, .mset (.word .int) (.t 24) (.t 25) (.c (.bool true))⟩]))))))))))
      (.region 0 [] [⟨(some 26), none, .bin .add (.t 8) (.c (.int .i64 1))⟩,
        ⟨(some 8), none, .mv (.t 26)⟩])))))))))⟩

/- chiasmus/core.free -/
def f91 : AFunc := ⟨1, 14, [.lcell 2 2 2 true], true,
  (.seq (.region 0 [] [⟨(some 1), none, .lbox (.t 0) []⟩,
    ⟨(some 2), none, .lalloc [(.map none), (.map none)] []⟩])
  (.seq (.region 2 [(0, (.map [] 0)), (1, (.map [] 0))] [⟨(some 4), none, .mkmap 0⟩,
    ⟨(some 5), none, .mkmap 1⟩,
    ⟨(some 6), none, .build [(.map none), (.map none)] [(0, 1, (.t 4)), (1, 1, (.t 5))]⟩,
    ⟨(some 3), none, .lalloc [(.map none), (.map none)] []⟩,
    ⟨none, none, .lst 3 2 (.t 3) (.t 6)⟩])
  (.seq (.region 2 [(0, (.map [] 0)), (1, (.map [] 0))] [⟨(some 7), none, .lld 1 5 true (.t 1)⟩,
    ⟨(some 8), none, .mkmap 0⟩,
    ⟨(some 9), none, .mkmap 1⟩,
    ⟨(some 10), none, .build [(.map none), (.map none)] [(0, 1, (.t 8)), (1, 1, (.t 9))]⟩,
    ⟨(some 11), none, .lld 3 2 true (.t 3)⟩,
    ⟨(some 12), none, .call 102 [(.t 7), (.t 10), (.t 11)]⟩])
  (.seq (.region 0 [] [⟨(some 13), none, .lld 3 2 true (.t 3)⟩,
    ⟨none, none, .lst 2 2 (.t 2) (.t 13)⟩])
  .ret))))⟩

/- (*chiasmus/core.renamer).subst -/
def f92 : AFunc := ⟨2, 139, [.lcell 4 4 5 true], true,
  (.seq (.region 1 [] [⟨(some 3), none, .box 0 (.t 1)⟩,
    ⟨(some 4), none, .lalloc [(.int .i64 0), (.int .i64 0), (.int .i64 0), (.slice [] .nil), (.slice [] .nil)] []⟩])
  (.seq (.seq (.region 0 [] [⟨(some 17), none, .fld 0 (.t 3)⟩,
    ⟨(some 18), none, .ld 1 false (.t 17)⟩,
    ⟨(some 19), none, .bin .eql (.t 18) (.c (.int .i64 0))⟩,
    ⟨(some 20), none, .mv (.t 19)⟩,
    ⟨(some 21), (some (20, false)), .fld 0 (.t 3)⟩,
    ⟨(some 22), (some (20, false)), .ld 1 false (.t 21)⟩,
    ⟨(some 23), (some (20, false)), .bin .eql (.t 22) (.c (.int .i64 5))⟩,
    ⟨(some 24), none, .pick (.t 20) (.c (.bool true)) (.t 23)⟩])
  (.cond (.t 24)
    (.seq (.drawn 0 [] [⟨0, ⟨(some 26), none, .mv (.t 0)⟩, [], false⟩,
      ⟨1, ⟨(some 27), none, .fld 0 (.t 3)⟩, [], false⟩,
      ⟨2, ⟨(some 28), none, .ld 1 false (.t 27)⟩, [], false⟩,
      ⟨3, ⟨(some 29), none, .call 51 [(.t 28)]⟩, [9], false⟩,
      ⟨4, ⟨(some 30), none, .nilck (.t 26)⟩, [], false⟩,
      ⟨5, ⟨(some 31), none, .fld 5 (.t 30)⟩, [], false⟩,
      ⟨6, ⟨(some 32), none, .ixa (some 2) 1 (.t 31) (.t 29)⟩, [], false⟩,
      ⟨7, ⟨(some 33), none, .ld 1 false (.t 32)⟩, [], false⟩,
      ⟨8, ⟨(some 34), none, .fld 1 (.t 3)⟩, [], false⟩,
      ⟨9, ⟨(some 35), none, .ld 1 false (.t 34)⟩, [3], false⟩,
      ⟨10, ⟨(some 36), none, .lkp (.word .int) (.agg [(.int .i64 0), (.int .i64 0), (.int .i64 0), (.slice [] .nil), (.slice [] .nil)]) true (.t 33) (.t 35)⟩, [], false⟩,
      ⟨11, ⟨(some 25), none, .mv (.t 36)⟩, [], false⟩,
      ⟨12, ⟨(some 37), none, .ext (.t 25) 0⟩, [], false⟩,
      ⟨13, ⟨(some 38), none, .ext (.t 25) 1⟩, [], false⟩,
      ⟨14, ⟨(some 5), none, .lalloc [(.int .i64 0), (.int .i64 0), (.int .i64 0), (.slice [] .nil), (.slice [] .nil)] []⟩, [], false⟩,
      ⟨15, ⟨none, none, .lst 5 5 (.t 5) (.t 37)⟩, [], false⟩,
      ⟨16, ⟨(some 6), none, .mv (.t 38)⟩, [], false⟩])
    (.seq (.region 0 [] [⟨(some 39), none, .mv (.t 6)⟩])
    (.cond (.t 39)
      (.seq (.region 0 [] [⟨(some 41), none, .lld 5 5 true (.t 5)⟩,
        ⟨(some 42), none, .call 103 [(.t 41)]⟩,
        ⟨(some 40), none, .mv (.t 42)⟩,
        ⟨(some 43), none, .ext (.t 40) 0⟩,
        ⟨(some 44), none, .ext (.t 40) 1⟩,
        ⟨(some 7), none, .mv (.t 43)⟩,
        ⟨(some 8), none, .mv (.t 44)⟩])
      (.seq (.seq (.region 0 [] [⟨(some 45), none, .mv (.t 0)⟩,
        ⟨(some 46), none, .nilck (.t 45)⟩,
        ⟨(some 47), none, .fld 4 (.t 46)⟩,
        ⟨(some 48), none, .ld 1 false (.t 47)⟩,
        ⟨(some 49), none, .mv (.t 7)⟩,
        ⟨(some 50), none, .bin .sub (.t 48) (.t 49)⟩,
        ⟨(some 51), none, .nilck (.t 45)⟩,
        ⟨(some 52), none, .fld 4 (.t 51)⟩,
        ⟨none, none, .st 1 (.t 52) (.t 50)⟩])
      (.seq (.region 0 [] [⟨(some 53), none, .mv (.t 0)⟩,
        ⟨(some 54), none, .nilck (.t 53)⟩,
        ⟨(some 55), none, .fld 4 (.t 54)⟩,
        ⟨(some 56), none, .ld 1 false (.t 55)⟩,
        ⟨(some 57), none, .bin .lss (.t 56) (.c (.int .i64 0))⟩])
      (.cond (.t 57)
        (.seq (.region 0 [] [⟨(some 58), none, .build [(.int .i64 0), (.int .i64 0), (.int .i64 0), (.slice [] .nil), (.slice [] .nil)] []⟩,
          ⟨none, none, .lst 4 5 (.t 4) (.t 58)⟩])
        .ret)
        .skip)))
      (.seq (.region 0 [] [⟨(some 59), none, .lld 5 5 true (.t 5)⟩,
        ⟨(some 60), none, .call 104 [(.t 59)]⟩,
        ⟨none, none, .lst 4 5 (.t 4) (.t 60)⟩])
      .ret)))
      .skip)))
    .skip))
  (.seq (.seq (.region 0 [] [⟨(some 61), none, .mv (.t 0)⟩,
    ⟨(some 62), none, .nilck (.t 61)⟩,
    ⟨(some 63), none, .fld 4 (.t 62)⟩,
    ⟨(some 64), none, .ld 1 false (.t 63)⟩,
    ⟨(some 65), none, .bin .sub (.t 64) (.c (.int .i64 1))⟩,
    ⟨(some 66), none, .nilck (.t 61)⟩,
    ⟨(some 67), none, .fld 4 (.t 66)⟩,
    ⟨none, none, .st 1 (.t 67) (.t 65)⟩])
  (.seq (.region 0 [] [⟨(some 68), none, .mv (.t 0)⟩,
    ⟨(some 69), none, .nilck (.t 68)⟩,
    ⟨(some 70), none, .fld 4 (.t 69)⟩,
    ⟨(some 71), none, .ld 1 false (.t 70)⟩,
    ⟨(some 72), none, .bin .lss (.t 71) (.c (.int .i64 0))⟩])
  (.cond (.t 72)
    (.seq (.region 0 [] [⟨(some 73), none, .build [(.int .i64 0), (.int .i64 0), (.int .i64 0), (.slice [] .nil), (.slice [] .nil)] []⟩,
      ⟨none, none, .lst 4 5 (.t 4) (.t 73)⟩])
    .ret)
    .skip)))
  (.seq (.region 0 [] [⟨(some 75), none, .ld 5 true (.t 3)⟩,
    ⟨(some 76), none, .call 105 [(.t 75)]⟩,
    ⟨(some 74), none, .mv (.t 76)⟩,
    ⟨(some 77), none, .ext (.t 74) 0⟩,
    ⟨(some 78), none, .ext (.t 74) 1⟩,
    ⟨(some 9), none, .mv (.t 77)⟩,
    ⟨(some 10), none, .mv (.t 78)⟩])
  (.seq (.region 0 [] [⟨(some 79), none, .fld 3 (.t 3)⟩,
    ⟨none, none, .st 1 (.t 79) (.c (.slice [] .nil))⟩,
    ⟨(some 80), none, .fld 4 (.t 3)⟩,
    ⟨none, none, .st 1 (.t 80) (.c (.slice [] .nil))⟩])
  (.seq (.region 0 [] [⟨(some 11), none, .mv (.f 106)⟩])
  (.seq (.seq (.region 0 [] [⟨(some 81), none, .fld 0 (.t 3)⟩,
    ⟨(some 82), none, .ld 1 false (.t 81)⟩,
    ⟨(some 83), none, .bin .eql (.t 82) (.c (.int .i64 3))⟩,
    ⟨(some 84), none, .mv (.t 83)⟩,
    ⟨(some 85), (some (84, false)), .fld 0 (.t 3)⟩,
    ⟨(some 86), (some (84, false)), .ld 1 false (.t 85)⟩,
    ⟨(some 87), (some (84, false)), .bin .eql (.t 86) (.c (.int .i64 7))⟩,
    ⟨(some 88), none, .pick (.t 84) (.c (.bool true)) (.t 87)⟩])
  (.cond (.t 88)
    (.seq (.region 0 [] [⟨(some 12), none, .mv (.c (.slice [] .nil))⟩])
    (.seq (.region 0 [] [⟨(some 90), none, .mv (.t 0)⟩,
      ⟨(some 91), none, .fld 1 (.t 3)⟩,
      ⟨(some 92), none, .ld 1 false (.t 91)⟩,
      ⟨(some 93), none, .bslice 1 1 (.int .i64 0) [(0, (.t 92))]⟩,
      ⟨(some 94), none, .mkfn 108 [] [(.t 3)]⟩,
      ⟨(some 95), none, .call 107 [(.t 90), (.t 93), (.t 94)]⟩,
      ⟨(some 89), none, .mv (.t 95)⟩,
      ⟨(some 96), none, .ext (.t 89) 0⟩,
      ⟨(some 97), none, .ext (.t 89) 1⟩,
      ⟨(some 12), none, .mv (.t 96)⟩,
      ⟨(some 11), none, .mv (.t 97)⟩])
    (.region 0 [] [⟨(some 98), none, .mv (.t 12)⟩,
      ⟨(some 99), none, .ixa none 1 (.t 98) (.c (.int .i64 0))⟩,
      ⟨(some 100), none, .ld 1 false (.t 99)⟩,
      ⟨(some 101), none, .fld 1 (.t 3)⟩,
      ⟨none, none, .st 1 (.t 101) (.t 100)⟩])))
    .skip))
  (.seq (.seq (.region 0 [] [⟨(some 102), none, .mv (.t 9)⟩,
    ⟨(some 103), none, .len .slice (.t 102)⟩,
    ⟨(some 104), none, .mv (.c (.int .i64 0))⟩])
  (.block 0
    (.loop
      (.seq (.region 0 [] [⟨(some 105), none, .bin .lss (.t 104) (.t 103)⟩])
      (.seq (.cond (.t 105)
        .skip
        (.exit 0))
      (.seq (.block 1
        (.seq (.region 0 [] [⟨(some 106), none, .ixa none 5 (.t 102) (.t 104)⟩,
          ⟨(some 107), none, .ld 5 true (.t 106)⟩,
          ⟨(some 14), none, .lalloc [(.int .i64 0), (.int .i64 0), (.int .i64 0), (.slice [] .nil), (.slice [] .nil)] []⟩,
          ⟨none, none, .lst 14 5 (.t 14) (.t 107)⟩])
        (.drawn 1 [] [⟨0, ⟨(some 108), none, .fld 3 (.t 3)⟩, [], false⟩,
          ⟨1, ⟨(some 109), none, .ld 1 false (.t 108)⟩, [4], false⟩,
          ⟨2, ⟨(some 110), none, .mv (.t 0)⟩, [], false⟩,
          ⟨3, ⟨(some 111), none, .lld 14 5 true (.t 14)⟩, [], false⟩,
          ⟨4, ⟨(some 112), none, .call 92 [(.t 110), (.t 111)]⟩, [1, 5], false⟩,
          ⟨5, ⟨(some 113), none, .len .slice (.t 109)⟩, [4], false⟩,
          ⟨6, ⟨(some 114), none, .bslice 5 1 (.agg [(.int .i64 0), (.int .i64 0), (.int .i64 0), (.slice [] .nil), (.slice [] .nil)]) [(0, (.c (.agg [(.int .i64 0), (.int .i64 0), (.int .i64 0), (.slice [] .nil), (.slice [] .nil)])))]⟩, [], false⟩,
          ⟨7, ⟨(some 115), none, .app 0 5 72 (.t 109) (.t 114)⟩, [], false⟩,
          ⟨8, ⟨(some 116), none, .ixa none 5 (.t 115) (.t 113)⟩, [], false⟩,
          ⟨9, ⟨none, none, .st 5 (.t 116) (.t 112)⟩, [11], true⟩,
          ⟨10, ⟨(some 117), none, .fld 3 (.t 3)⟩, [], false⟩,
          ⟨11, ⟨none, none, .st 1 (.t 117) (.t 115)⟩, [9], true⟩])))
      (.region 0 [] [⟨(some 118), none, .bin .add (.t 104) (.c (.int .i64 1))⟩,
        ⟨(some 104), none, .mv (.t 118)⟩])))))))
  (.seq (.region 0 [] [⟨(some 119), none, .mv (.t 11)⟩,
    ⟨(some 120), none, .callv (.t 119) []⟩])
  (.seq (.seq (.region 0 [] [⟨(some 121), none, .mv (.t 10)⟩,
    ⟨(some 122), none, .len .slice (.t 121)⟩,
    ⟨(some 123), none, .mv (.c (.int .i64 0))⟩])
  (.block 2
    (.loop
      (.seq (.region 0 [] [⟨(some 124), none, .bin .lss (.t 123) (.t 122)⟩])
      (.seq (.cond (.t 124)
        .skip
        (.exit 2))
      (.seq (.block 3
        (.seq (.region 0 [] [⟨(some 125), none, .ixa none 7 (.t 121) (.t 123)⟩,
          ⟨(some 126), none, .ld 7 true (.t 125)⟩,
          ⟨(some 16), none, .lalloc [(.slice [] .nil), (.slice [] .nil), (.int .i64 0), (.int .i64 0), (.int .i64 0), (.slice [] .nil), (.slice [] .nil)] []⟩,
          ⟨none, none, .lst 16 7 (.t 16) (.t 126)⟩])
        (.drawn 1 [] [⟨0, ⟨(some 127), none, .fld 4 (.t 3)⟩, [], false⟩,
          ⟨1, ⟨(some 128), none, .ld 1 false (.t 127)⟩, [4], false⟩,
          ⟨2, ⟨(some 129), none, .mv (.t 0)⟩, [], false⟩,
          ⟨3, ⟨(some 130), none, .lld 16 7 true (.t 16)⟩, [], false⟩,
          ⟨4, ⟨(some 131), none, .call 109 [(.t 129), (.t 130)]⟩, [1, 5], false⟩,
          ⟨5, ⟨(some 132), none, .len .slice (.t 128)⟩, [4], false⟩,
          ⟨6, ⟨(some 133), none, .bslice 7 1 (.agg [(.slice [] .nil), (.slice [] .nil), (.int .i64 0), (.int .i64 0), (.int .i64 0), (.slice [] .nil), (.slice [] .nil)]) [(0, (.c (.agg [(.slice [] .nil), (.slice [] .nil), (.int .i64 0), (.int .i64 0), (.int .i64 0), (.slice [] .nil), (.slice [] .nil)])))]⟩, [], false⟩,
          ⟨7, ⟨(some 134), none, .app 0 7 120 (.t 128) (.t 133)⟩, [], false⟩,
          ⟨8, ⟨(some 135), none, .ixa none 7 (.t 134) (.t 132)⟩, [], false⟩,
          ⟨9, ⟨none, none, .st 7 (.t 135) (.t 131)⟩, [11], true⟩,
          ⟨10, ⟨(some 136), none, .fld 4 (.t 3)⟩, [], false⟩,
          ⟨11, ⟨none, none, .st 1 (.t 136) (.t 134)⟩, [9], true⟩])))
      (.region 0 [] [⟨(some 137), none, .bin .add (.t 123) (.c (.int .i64 1))⟩,
        ⟨(some 123), none, .mv (.t 137)⟩])))))))
  (.seq (.region 0 [] [⟨(some 138), none, .ld 5 true (.t 3)⟩,
    ⟨none, none, .lst 4 5 (.t 4) (.t 138)⟩])
  .ret)))))))))))⟩

/- (*chiasmus/focus.focuser).head -/
def f93 : AFunc := ⟨3, 24, [.lcell 6 6 5 true], true,
  (.seq (.region 0 [] [⟨(some 4), none, .lbox (.t 1) [11, 7]⟩,
    ⟨(some 6), none, .lalloc [(.int .i64 0), (.int .i64 0), (.int .i64 0), (.slice [] .nil), (.slice [] .nil)] []⟩])
  (.seq (.seq (.region 0 [] [⟨(some 7), none, .lfld 4 0 (.t 4)⟩,
    ⟨(some 8), none, .lld 4 1 false (.t 7)⟩,
    ⟨(some 9), none, .bin .eql (.t 8) (.c (.int .i64 2))⟩,
    ⟨(some 10), none, .mv (.t 9)⟩,
    ⟨(some 11), (some (10, false)), .lfld 4 0 (.t 4)⟩,
    ⟨(some 12), (some (10, false)), .lld 4 1 false (.t 11)⟩,
    ⟨(some 13), (some (10, false)), .bin .eql (.t 12) (.c (.int .i64 6))⟩,
    ⟨(some 14), none, .pick (.t 10) (.c (.bool true)) (.t 13)⟩])
  (.cond (.t 14)
    (.seq (.region 0 [] [⟨(some 15), none, .mv (.t 0)⟩,
      ⟨(some 16), none, .lld 4 5 true (.t 4)⟩,
      ⟨(some 17), none, .mv (.t 2)⟩,
      ⟨(some 18), none, .call 110 [(.t 15), (.t 16), (.t 17)]⟩,
      ⟨none, none, .lst 6 5 (.t 6) (.t 18)⟩])
    .ret)
    .skip))
  (.seq (.region 0 [] [⟨(some 19), none, .mv (.t 2)⟩,
    ⟨(some 20), none, .mv (.t 0)⟩,
    ⟨(some 21), none, .lld 4 5 true (.t 4)⟩,
    ⟨(some 22), none, .call 58 [(.t 20), (.t 21)]⟩,
    ⟨(some 23), none, .callv (.t 19) [(.t 22)]⟩,
    ⟨none, none, .lst 6 5 (.t 6) (.t 23)⟩])
  .ret)))⟩

/- (*chiasmus/focus.focuser).command$1 -/
def f94 : AFunc := ⟨3, 12, [.lcell 4 4 5 true], true,
  (.seq (.region 1 [] [⟨(some 3), none, .box 0 (.t 0)⟩,
    ⟨(some 4), none, .lalloc [(.int .i64 0), (.int .i64 0), (.int .i64 0), (.slice [] .nil), (.slice [] .nil)] []⟩])
  (.seq (.drawn 0 [] [⟨0, ⟨(some 5), none, .ld 1 false (.t 1)⟩, [], false⟩,
    ⟨1, ⟨(some 6), none, .fld 3 (.t 2)⟩, [], false⟩,
    ⟨2, ⟨(some 7), none, .ld 1 false (.t 6)⟩, [], false⟩,
    ⟨3, ⟨(some 8), none, .ixa none 5 (.t 7) (.c (.int .i64 1))⟩, [], false⟩,
    ⟨4, ⟨(some 9), none, .ld 5 true (.t 8)⟩, [], false⟩,
    ⟨5, ⟨(some 10), none, .mkfn 95 [] [(.t 2), (.t 3)]⟩, [], false⟩,
    ⟨6, ⟨(some 11), none, .call 93 [(.t 5), (.t 9), (.t 10)]⟩, [], false⟩,
    ⟨7, ⟨none, none, .lst 4 5 (.t 4) (.t 11)⟩, [], false⟩])
  .ret))⟩

/- (*chiasmus/focus.focuser).command$1$1 -/
def f95 : AFunc := ⟨3, 10, [.lcell 4 4 5 true], true,
  (.seq (.region 0 [] [⟨(some 3), none, .lbox (.t 0) []⟩,
    ⟨(some 4), none, .lalloc [(.int .i64 0), (.int .i64 0), (.int .i64 0), (.slice [] .nil), (.slice [] .nil)] []⟩])
  (.seq (.region 0 [] [⟨(some 5), none, .fld 2 (.t 1)⟩,
    ⟨(some 6), none, .ld 1 false (.t 5)⟩,
    ⟨(some 7), none, .ld 5 true (.t 2)⟩,
    ⟨(some 8), none, .lld 3 5 true (.t 3)⟩,
    ⟨(some 9), none, .call 96 [(.t 6), (.t 7), (.t 8)]⟩,
    ⟨none, none, .lst 4 5 (.t 4) (.t 9)⟩])
  .ret))⟩

/- chiasmus/focus.cut -/
def f96 : AFunc := ⟨3, 12, [.lcell 6 6 5 true], true,
  (.seq (.region 0 [] [⟨(some 4), none, .lbox (.t 1) []⟩,
    ⟨(some 5), none, .lbox (.t 2) []⟩,
    ⟨(some 6), none, .lalloc [(.int .i64 0), (.int .i64 0), (.int .i64 0), (.slice [] .nil), (.slice [] .nil)] []⟩])
  (.seq (.region 0 [] [⟨(some 7), none, .mv (.t 0)⟩,
    ⟨(some 8), none, .lld 4 5 true (.t 4)⟩,
    ⟨(some 9), none, .lld 5 5 true (.t 5)⟩,
    ⟨(some 10), none, .bslice 5 2 (.agg [(.int .i64 0), (.int .i64 0), (.int .i64 0), (.slice [] .nil), (.slice [] .nil)]) [(0, (.t 8)), (1, (.t 9))]⟩,
    ⟨(some 11), none, .build [(.int .i64 0), (.int .i64 0), (.int .i64 0), (.slice [] .nil), (.slice [] .nil)] [(0, 1, (.c (.int .i64 9))), (2, 1, (.t 7)), (3, 1, (.t 10))]⟩,
    ⟨none, none, .lst 6 5 (.t 6) (.t 11)⟩])
  .ret))⟩

/- (*chiasmus/focus.focuser).name -/
def f97 : AFunc := ⟨5, 85, [.lcell 10 10 5 true], true,
  (.seq (.region 5 [] [⟨(some 5), none, .box 0 (.t 0)⟩,
    ⟨(some 6), none, .box 1 (.t 1)⟩,
    ⟨(some 7), none, .box 2 (.t 2)⟩,
    ⟨(some 8), none, .box 3 (.t 3)⟩,
    ⟨(some 9), none, .box 4 (.t 4)⟩,
    ⟨(some 10), none, .lalloc [(.int .i64 0), (.int .i64 0), (.int .i64 0), (.slice [] .nil), (.slice [] .nil)] []⟩])
  (.seq (.seq (.region 0 [] [⟨(some 16), none, .ld 1 false (.t 9)⟩,
    ⟨(some 17), none, .len .slice (.t 16)⟩,
    ⟨(some 18), none, .bin .eql (.t 17) (.c (.int .i64 0))⟩])
  (.cond (.t 18)
    (.seq (.region 0 [] [⟨(some 19), none, .ld 1 false (.t 6)⟩,
      ⟨(some 20), none, .ld 1 false (.t 8)⟩,
      ⟨(some 21), none, .callv (.t 19) [(.t 20)]⟩,
      ⟨none, none, .lst 10 5 (.t 10) (.t 21)⟩])
    .ret)
    .skip))
  (.seq (.drawn 0 [] [⟨0, ⟨(some 22), none, .ld 1 false (.t 9)⟩, [], false⟩,
    ⟨1, ⟨(some 23), none, .ixa none 5 (.t 22) (.c (.int .i64 0))⟩, [], false⟩,
    ⟨2, ⟨(some 24), none, .ld 5 true (.t 23)⟩, [], false⟩,
    ⟨3, ⟨(some 25), none, .ld 1 false (.t 7)⟩, [], false⟩,
    ⟨4, ⟨(some 26), none, .ld 1 false (.t 8)⟩, [], false⟩,
    ⟨5, ⟨(some 27), none, .len .slice (.t 26)⟩, [], false⟩,
    ⟨6, ⟨(some 28), none, .ixa none 2 (.t 25) (.t 27)⟩, [], false⟩,
    ⟨7, ⟨(some 29), none, .ld 2 true (.t 28)⟩, [], false⟩,
    ⟨8, ⟨(some 11), none, .lalloc [(.int .i64 0), (.int .i64 0), (.int .i64 0), (.slice [] .nil), (.slice [] .nil)] [41]⟩, [], false⟩,
    ⟨9, ⟨(some 12), none, .lalloc [(.int .i64 0), (.bool false)] [68, 66, 52, 47]⟩, [], false⟩,
    ⟨10, ⟨none, none, .lst 11 5 (.t 11) (.t 24)⟩, [], false⟩,
    ⟨11, ⟨none, none, .lst 12 2 (.t 12) (.t 29)⟩, [], false⟩])
  (.seq (.region 0 [] [⟨(some 30), none, .mkfn 111 [] [(.t 5), (.t 6), (.t 7), (.t 8), (.t 9)]⟩,
    ⟨(some 13), none, .mv (.t 30)⟩])
  (.seq (.seq (.region 0 [] [⟨(some 31), none, .ld 1 false (.t 5)⟩,
    ⟨(some 32), none, .lld 11 5 true (.t 11)⟩,
    ⟨(some 33), none, .lld 12 2 true (.t 12)⟩,
    ⟨(some 34), none, .call 112 [(.t 31), (.t 32), (.t 33)]⟩,
    ⟨(some 35), none, .un .not (.t 34)⟩])
  (.cond (.t 35)
    (.seq (.region 0 [] [⟨(some 36), none, .mv (.t 13)⟩,
      ⟨(some 37), none, .ld 1 false (.t 5)⟩,
      ⟨(some 38), none, .lld 11 5 true (.t 11)⟩,
      ⟨(some 39), none, .call 58 [(.t 37), (.t 38)]⟩,
      ⟨(some 40), none, .callv (.t 36) [(.t 39)]⟩,
      ⟨none, none, .lst 10 5 (.t 10) (.t 40)⟩])
    .ret)
    .skip))
  (.seq (.seq (.region 0 [] [⟨(some 41), none, .lfld 11 0 (.t 11)⟩,
    ⟨(some 42), none, .lld 11 1 false (.t 41)⟩])
  (.block 0
    (.seq (.region 0 [] [⟨(some 44), none, .bin .eql (.t 42) (.c (.int .i64 3))⟩,
      ⟨(some 43), none, .mv (.t 44)⟩])
    (.cond (.t 43)
      (.seq (.region 0 [] [⟨(some 45), none, .ld 1 false (.t 5)⟩,
        ⟨(some 46), none, .call 113 [(.t 45), (.c (.bool false))]⟩,
        ⟨(some 14), none, .mv (.t 46)⟩])
      (.seq (.drawn 0 [] [⟨0, ⟨(some 47), none, .lfld 12 0 (.t 12)⟩, [], false⟩,
        ⟨1, ⟨(some 48), none, .lld 12 1 false (.t 47)⟩, [], false⟩,
        ⟨2, ⟨(some 49), none, .ld 1 false (.t 5)⟩, [], false⟩,
        ⟨3, ⟨(some 50), none, .lld 11 5 true (.t 11)⟩, [], false⟩,
        ⟨4, ⟨(some 51), none, .call 58 [(.t 49), (.t 50)]⟩, [], false⟩,
        ⟨5, ⟨(some 52), none, .lfld 12 0 (.t 12)⟩, [], false⟩,
        ⟨6, ⟨(some 53), none, .lld 12 1 false (.t 52)⟩, [], false⟩,
        ⟨7, ⟨(some 54), none, .mv (.t 14)⟩, [], false⟩,
        ⟨8, ⟨(some 55), none, .mv (.t 13)⟩, [], false⟩,
        ⟨9, ⟨(some 56), none, .mv (.t 14)⟩, [], false⟩,
        ⟨10, ⟨(some 57), none, .build [(.int .i64 0), (.int .i64 0), (.int .i64 0), (.slice [] .nil), (.slice [] .nil)] [(0, 1, (.c (.int .i64 0))), (1, 1, (.t 56))]⟩, [], false⟩,
        ⟨11, ⟨(some 58), none, .callv (.t 55) [(.t 57)]⟩, [], false⟩,
        ⟨12, ⟨(some 59), none, .bslice 5 1 (.agg [(.int .i64 0), (.int .i64 0), (.int .i64 0), (.slice [] .nil), (.slice [] .nil)]) [(0, (.t 58))]⟩, [], false⟩,
        ⟨13, ⟨(some 60), none, .build [(.int .i64 0), (.int .i64 0), (.int .i64 0), (.slice [] .nil), (.slice [] .nil)] [(0, 1, (.c (.int .i64 7))), (2, 1, (.t 53)), (1, 1, (.t 54)), (3, 1, (.t 59))]⟩, [], false⟩,
        ⟨14, ⟨(some 61), none, .call 96 [(.t 48), (.t 51), (.t 60)]⟩, [], false⟩,
        ⟨15, ⟨none, none, .lst 10 5 (.t 10) (.t 61)⟩, [], false⟩])
      .ret))
      (.seq (.region 0 [] [⟨(some 63), none, .bin .eql (.t 42) (.c (.int .i64 7))⟩,
        ⟨(some 62), none, .mv (.t 63)⟩])
      (.cond (.t 62)
        (.seq (.region 0 [] [⟨(some 64), none, .ld 1 false (.t 5)⟩,
          ⟨(some 65), none, .call 113 [(.t 64), (.c (.bool true))]⟩,
          ⟨(some 15), none, .mv (.t 65)⟩])
        (.seq (.drawn 0 [] [⟨0, ⟨(some 66), none, .lfld 12 0 (.t 12)⟩, [], false⟩,
          ⟨1, ⟨(some 67), none, .lld 12 1 false (.t 66)⟩, [], false⟩,
          ⟨2, ⟨(some 68), none, .lfld 12 0 (.t 12)⟩, [], false⟩,
          ⟨3, ⟨(some 69), none, .lld 12 1 false (.t 68)⟩, [], false⟩,
          ⟨4, ⟨(some 70), none, .mv (.t 15)⟩, [], false⟩,
          ⟨5, ⟨(some 71), none, .mv (.t 13)⟩, [], false⟩,
          ⟨6, ⟨(some 72), none, .mv (.t 15)⟩, [], false⟩,
          ⟨7, ⟨(some 73), none, .build [(.int .i64 0), (.int .i64 0), (.int .i64 0), (.slice [] .nil), (.slice [] .nil)] [(0, 1, (.c (.int .i64 5))), (1, 1, (.t 72))]⟩, [], false⟩,
          ⟨8, ⟨(some 74), none, .callv (.t 71) [(.t 73)]⟩, [11], false⟩,
          ⟨9, ⟨(some 75), none, .bslice 5 1 (.agg [(.int .i64 0), (.int .i64 0), (.int .i64 0), (.slice [] .nil), (.slice [] .nil)]) [(0, (.t 74))]⟩, [], false⟩,
          ⟨10, ⟨(some 76), none, .build [(.int .i64 0), (.int .i64 0), (.int .i64 0), (.slice [] .nil), (.slice [] .nil)] [(0, 1, (.c (.int .i64 3))), (2, 1, (.t 69)), (1, 1, (.t 70)), (3, 1, (.t 75))]⟩, [], false⟩,
          ⟨11, ⟨(some 77), none, .ld 1 false (.t 5)⟩, [8], false⟩,
          ⟨12, ⟨(some 78), none, .lld 11 5 true (.t 11)⟩, [], false⟩,
          ⟨13, ⟨(some 79), none, .call 58 [(.t 77), (.t 78)]⟩, [], false⟩,
          ⟨14, ⟨(some 80), none, .call 96 [(.t 67), (.t 76), (.t 79)]⟩, [], false⟩,
          ⟨15, ⟨none, none, .lst 10 5 (.t 10) (.t 80)⟩, [], false⟩])
        .ret))
        .skip))))))
  (.seq (.region 0 [] [⟨(some 81), none, .ld 1 false (.t 5)⟩,
    ⟨(some 82), none, .lld 11 5 true (.t 11)⟩,
    ⟨(some 83), none, .mv (.t 13)⟩,
    ⟨(some 84), none, .call 110 [(.t 81), (.t 82), (.t 83)]⟩,
    ⟨none, none, .lst 10 5 (.t 10) (.t 84)⟩])
  .ret)))))))⟩

/- (*chiasmus/focus.focuser).command$2 -/
def f98 : AFunc := ⟨3, 21, [.lcell 4 4 5 true], true,
  (.seq (.region 0 [] [⟨(some 4), none, .lalloc [(.int .i64 0), (.int .i64 0), (.int .i64 0), (.slice [] .nil), (.slice [] .nil)] []⟩])
  (.seq (.drawn 0 [] [⟨0, ⟨(some 5), none, .fld 1 (.t 1)⟩, [], false⟩,
    ⟨1, ⟨(some 6), none, .ld 1 false (.t 5)⟩, [13], false⟩,
    ⟨2, ⟨(some 7), none, .mv (.t 0)⟩, [], false⟩,
    ⟨3, ⟨(some 8), none, .ixa none 5 (.t 7) (.c (.int .i64 0))⟩, [], false⟩,
    ⟨4, ⟨(some 9), none, .ld 5 true (.t 8)⟩, [13], false⟩,
    ⟨5, ⟨(some 10), none, .mv (.t 0)⟩, [], false⟩,
    ⟨6, ⟨(some 11), none, .ixa none 5 (.t 10) (.c (.int .i64 1))⟩, [], false⟩,
    ⟨7, ⟨(some 12), none, .ld 5 true (.t 11)⟩, [13], false⟩,
    ⟨8, ⟨(some 13), none, .ld 1 false (.t 2)⟩, [], false⟩,
    ⟨9, ⟨(some 14), none, .fld 3 (.t 1)⟩, [], false⟩,
    ⟨10, ⟨(some 15), none, .ld 1 false (.t 14)⟩, [], false⟩,
    ⟨11, ⟨(some 16), none, .ixa none 5 (.t 15) (.c (.int .i64 2))⟩, [], false⟩,
    ⟨12, ⟨(some 17), none, .ld 5 true (.t 16)⟩, [], false⟩,
    ⟨13, ⟨(some 18), none, .call 58 [(.t 13), (.t 17)]⟩, [1, 4, 7], false⟩,
    ⟨14, ⟨(some 19), none, .bslice 5 3 (.agg [(.int .i64 0), (.int .i64 0), (.int .i64 0), (.slice [] .nil), (.slice [] .nil)]) [(0, (.t 9)), (1, (.t 12)), (2, (.t 18))]⟩, [], false⟩,
    ⟨15, ⟨(some 20), none, .build [(.int .i64 0), (.int .i64 0), (.int .i64 0), (.slice [] .nil), (.slice [] .nil)] [(0, 1, (.c (.int .i64 10))), (1, 1, (.t 6)), (3, 1, (.t 19))]⟩, [], false⟩,
    ⟨16, ⟨none, none, .lst 4 5 (.t 4) (.t 20)⟩, [], false⟩])
  .ret))⟩

/- (*chiasmus/focus.focuser).command$3 -/
def f99 : AFunc := ⟨2, 9, [.lcell 3 3 5 true], true,
  (.seq (.region 0 [] [⟨(some 3), none, .lalloc [(.int .i64 0), (.int .i64 0), (.int .i64 0), (.slice [] .nil), (.slice [] .nil)] []⟩])
  (.seq (.drawn 1 [] [⟨0, ⟨(some 4), none, .fld 1 (.t 1)⟩, [], false⟩,
    ⟨1, ⟨(some 5), none, .ld 1 false (.t 4)⟩, [3], false⟩,
    ⟨2, ⟨(some 6), none, .mv (.t 0)⟩, [], false⟩,
    ⟨3, ⟨(some 7), none, .app 0 5 72 (.c (.slice [] .nil)) (.t 6)⟩, [1], false⟩,
    ⟨4, ⟨(some 8), none, .build [(.int .i64 0), (.int .i64 0), (.int .i64 0), (.slice [] .nil), (.slice [] .nil)] [(0, 1, (.c (.int .i64 13))), (1, 1, (.t 5)), (3, 1, (.t 7))]⟩, [], false⟩,
    ⟨5, ⟨none, none, .lst 3 5 (.t 3) (.t 8)⟩, [], false⟩])
  .ret))⟩

/- (*chiasmus/focus.focuser).command$4 -/
def f100 : AFunc := ⟨3, 33, [.lcell 4 4 5 true], true,
  (.seq (.region 0 [] [⟨(some 4), none, .lalloc [(.int .i64 0), (.int .i64 0), (.int .i64 0), (.slice [] .nil), (.slice [] .nil)] []⟩])
  (.seq (.drawn 0 [] [⟨0, ⟨(some 8), none, .fld 0 (.t 1)⟩, [], false⟩,
    ⟨1, ⟨(some 9), none, .ld 1 false (.t 8)⟩, [], false⟩,
    ⟨2, ⟨(some 10), none, .mv (.t 0)⟩, [], false⟩,
    ⟨3, ⟨(some 11), none, .ixa none 5 (.t 10) (.c (.int .i64 0))⟩, [], false⟩,
    ⟨4, ⟨(some 12), none, .ld 5 true (.t 11)⟩, [], false⟩,
    ⟨5, ⟨(some 13), none, .bslice 5 1 (.agg [(.int .i64 0), (.int .i64 0), (.int .i64 0), (.slice [] .nil), (.slice [] .nil)]) [(0, (.t 12))]⟩, [], false⟩,
    ⟨6, ⟨(some 14), none, .build [(.int .i64 0), (.int .i64 0), (.int .i64 0), (.slice [] .nil), (.slice [] .nil)] [(0, 1, (.t 9)), (3, 1, (.t 13))]⟩, [], false⟩,
    ⟨7, ⟨(some 5), none, .lalloc [(.int .i64 0), (.int .i64 0), (.int .i64 0), (.slice [] .nil), (.slice [] .nil)] [30, 23]⟩, [], false⟩,
    ⟨8, ⟨none, none, .lst 5 5 (.t 5) (.t 14)⟩, [], false⟩])
  (.seq (.seq (.region 0 [] [⟨(some 15), none, .fld 3 (.t 1)⟩,
    ⟨(some 16), none, .ld 1 false (.t 15)⟩,
    ⟨(some 17), none, .sub false 5 (.t 16) (some (.c (.int .i64 1))) none none⟩,
    ⟨(some 18), none, .len .slice (.t 17)⟩,
    ⟨(some 19), none, .mv (.c (.int .i64 0))⟩])
  (.block 0
    (.loop
      (.seq (.region 0 [] [⟨(some 20), none, .bin .lss (.t 19) (.t 18)⟩])
      (.seq (.cond (.t 20)
        .skip
        (.exit 0))
      (.seq (.block 1
        (.seq (.region 0 [] [⟨(some 21), none, .ixa none 5 (.t 17) (.t 19)⟩,
          ⟨(some 22), none, .ld 5 true (.t 21)⟩,
          ⟨(some 7), none, .lalloc [(.int .i64 0), (.int .i64 0), (.int .i64 0), (.slice [] .nil), (.slice [] .nil)] []⟩,
          ⟨none, none, .lst 7 5 (.t 7) (.t 22)⟩])
        (.drawn 1 [] [⟨0, ⟨(some 23), none, .lfld 5 3 (.t 5)⟩, [], false⟩,
          ⟨1, ⟨(some 24), none, .lld 5 1 false (.t 23)⟩, [], false⟩,
          ⟨2, ⟨(some 25), none, .ld 1 false (.t 2)⟩, [], false⟩,
          ⟨3, ⟨(some 26), none, .lld 7 5 true (.t 7)⟩, [], false⟩,
          ⟨4, ⟨(some 27), none, .call 58 [(.t 25), (.t 26)]⟩, [], false⟩,
          ⟨5, ⟨(some 28), none, .bslice 5 1 (.agg [(.int .i64 0), (.int .i64 0), (.int .i64 0), (.slice [] .nil), (.slice [] .nil)]) [(0, (.t 27))]⟩, [], false⟩,
          ⟨6, ⟨(some 29), none, .app 0 5 72 (.t 24) (.t 28)⟩, [], false⟩,
          ⟨7, ⟨(some 30), none, .lfld 5 3 (.t 5)⟩, [], false⟩,
          ⟨8, ⟨none, none, .lst 5 1 (.t 30) (.t 29)⟩, [], false⟩])))
      (.region 0 [] [⟨(some 31), none, .bin .add (.t 19) (.c (.int .i64 1))⟩,
        ⟨(some 19), none, .mv (.t 31)⟩])))))))
  (.seq (.region 0 [] [⟨(some 32), none, .lld 5 5 true (.t 5)⟩,
    ⟨none, none, .lst 4 5 (.t 4) (.t 32)⟩])
  .ret))))⟩

/- chiasmus/core.gather -/
def f102 : AFunc := ⟨3, 131, [], true,
  (.seq (.region 2 [] [⟨(some 3), none, .lbox (.t 0) [79, 60, 52, 48, 44, 42, 35, 29, 24]⟩,
    ⟨(some 4), none, .box 0 (.t 1)⟩,
    ⟨(some 5), none, .box 1 (.t 2)⟩])
  (.seq (.region 0 [] [⟨(some 20), none, .lld 3 5 true (.t 3)⟩,
    ⟨(some 21), none, .call 105 [(.t 20)]⟩,
    ⟨(some 19), none, .mv (.t 21)⟩,
    ⟨(some 22), none, .ext (.t 19) 0⟩,
    ⟨(some 23), none, .ext (.t 19) 1⟩,
    ⟨(some 6), none, .mv (.t 22)⟩,
    ⟨(some 7), none, .mv (.t 23)⟩])
  (.seq (.seq (.region 0 [] [⟨(some 24), none, .lfld 3 0 (.t 3)⟩,
    ⟨(some 25), none, .lld 3 1 false (.t 24)⟩])
  (.block 0
    (.seq (.seq (.region 0 [] [⟨(some 27), none, .bin .eql (.t 25) (.c (.int .i64 0))⟩,
      ⟨(some 26), none, .mv (.t 27)⟩])
    (.cond (.t 26)
      .skip
      (.region 0 [] [⟨(some 28), none, .bin .eql (.t 25) (.c (.int .i64 5))⟩,
        ⟨(some 26), none, .mv (.t 28)⟩])))
    (.cond (.t 26)
      (.seq (.region 0 [] [⟨(some 29), none, .lfld 3 0 (.t 3)⟩,
        ⟨(some 30), none, .lld 3 1 false (.t 29)⟩,
        ⟨(some 31), none, .call 51 [(.t 30)]⟩,
        ⟨(some 8), none, .mv (.t 31)⟩])
      (.seq (.drawn 0 [] [⟨0, ⟨(some 32), none, .mv (.t 8)⟩, [], false⟩,
        ⟨1, ⟨(some 33), none, .ixa (some 2) 1 (.t 4) (.t 32)⟩, [], false⟩,
        ⟨2, ⟨(some 34), none, .ld 1 false (.t 33)⟩, [], false⟩,
        ⟨3, ⟨(some 35), none, .lfld 3 1 (.t 3)⟩, [], false⟩,
        ⟨4, ⟨(some 36), none, .lld 3 1 false (.t 35)⟩, [], false⟩,
        ⟨5, ⟨(some 37), none, .lkp (.word .int) (.int .i64 0) false (.t 34) (.t 36)⟩, [], false⟩,
        ⟨6, ⟨(some 38), none, .bin .eql (.t 37) (.c (.int .i64 0))⟩, [], false⟩])
      (.cond (.t 38)
        (.drawn 0 [] [⟨0, ⟨(some 39), none, .mv (.t 8)⟩, [], false⟩,
          ⟨1, ⟨(some 40), none, .ixa (some 2) 1 (.t 5) (.t 39)⟩, [], false⟩,
          ⟨2, ⟨(some 41), none, .ld 1 false (.t 40)⟩, [], false⟩,
          ⟨3, ⟨(some 42), none, .lfld 3 1 (.t 3)⟩, [], false⟩,
          ⟨4, ⟨(some 43), none, .lld 3 1 false (.t 42)⟩, [], false⟩,
          ⟨5, ⟨none, none, .mset (.word .int) (.t 41) (.t 43) (.c (.bool true))⟩, [], false⟩])
        .skip)))
      .skip))))
  (.seq (.region 0 [] [⟨(some 44), none, .lfld 3 0 (.t 3)⟩,
    ⟨(some 45), none, .lld 3 1 false (.t 44)⟩,
    ⟨(some 46), none, .bin .eql (.t 45) (.c (.int .i64 3))⟩,
    ⟨(some 47), none, .mv (.t 46)⟩,
    ⟨(some 48), (some (47, false)), .lfld 3 0 (.t 3)⟩,
    ⟨(some 49), (some (47, false)), .lld 3 1 false (.t 48)⟩,
    ⟨(some 50), (some (47, false)), .bin .eql (.t 49) (.c (.int .i64 7))⟩,
    ⟨(some 51), none, .pick (.t 47) (.c (.bool true)) (.t 50)⟩,
    ⟨(some 9), none, .mv (.t 51)⟩])
  (.seq (.region 0 [] [⟨(some 52), none, .lfld 3 0 (.t 3)⟩,
    ⟨(some 53), none, .lld 3 1 false (.t 52)⟩,
    ⟨(some 54), none, .bin .eql (.t 53) (.c (.int .i64 3))⟩,
    ⟨(some 55), none, .call 64 [(.t 54)]⟩,
    ⟨(some 10), none, .mv (.t 55)⟩])
  (.seq (.seq (.region 0 [] [⟨(some 56), none, .mv (.t 9)⟩])
  (.cond (.t 56)
    (.drawn 0 [] [⟨0, ⟨(some 57), none, .mv (.t 10)⟩, [], false⟩,
      ⟨1, ⟨(some 58), none, .ixa (some 2) 1 (.t 4) (.t 57)⟩, [], false⟩,
      ⟨2, ⟨(some 59), none, .ld 1 false (.t 58)⟩, [], false⟩,
      ⟨3, ⟨(some 60), none, .lfld 3 1 (.t 3)⟩, [], false⟩,
      ⟨4, ⟨(some 61), none, .lld 3 1 false (.t 60)⟩, [], false⟩,
      ⟨5, ⟨(some 62), none, .lkp (.word .int) (.int .i64 0) false (.t 59) (.t 61)⟩, [], false⟩,
      ⟨6, ⟨(some 63), none, .bin .add (.t 62) (.c (.int .i64 1))⟩, [], false⟩,
      ⟨7, ⟨none, none, .mset (.word .int) (.t 59) (.t 61) (.t 63)⟩, [], false⟩])
    .skip))
  (.seq (.seq (.region 0 [] [⟨(some 64), none, .mv (.t 6)⟩,
    ⟨(some 65), none, .len .slice (.t 64)⟩,
    ⟨(some 66), none, .mv (.c (.int .i64 0))⟩])
  (.block 1
    (.loop
      (.seq (.region 0 [] [⟨(some 67), none, .bin .lss (.t 66) (.t 65)⟩])
      (.seq (.cond (.t 67)
        .skip
        (.exit 1))
      (.seq (.block 2
        (.seq (.region 0 [] [⟨(some 68), none, .ixa none 5 (.t 64) (.t 66)⟩,
          ⟨(some 69), none, .ld 5 true (.t 68)⟩,
          ⟨(some 12), none, .lalloc [(.int .i64 0), (.int .i64 0), (.int .i64 0), (.slice [] .nil), (.slice [] .nil)] []⟩,
          ⟨none, none, .lst 12 5 (.t 12) (.t 69)⟩])
        (.region 0 [] [⟨(some 70), none, .lld 12 5 true (.t 12)⟩,
          ⟨(some 71), none, .ld 2 true (.t 4)⟩,
          ⟨(some 72), none, .ld 2 true (.t 5)⟩,
          ⟨(some 73), none, .call 102 [(.t 70), (.t 71), (.t 72)]⟩])))
      (.region 0 [] [⟨(some 74), none, .bin .add (.t 66) (.c (.int .i64 1))⟩,
        ⟨(some 66), none, .mv (.t 74)⟩])))))))
  (.seq (.seq (.region 0 [] [⟨(some 75), none, .mv (.t 9)⟩])
  (.cond (.t 75)
    (.drawn 0 [] [⟨0, ⟨(some 76), none, .mv (.t 10)⟩, [], false⟩,
      ⟨1, ⟨(some 77), none, .ixa (some 2) 1 (.t 4) (.t 76)⟩, [], false⟩,
      ⟨2, ⟨(some 78), none, .ld 1 false (.t 77)⟩, [], false⟩,
      ⟨3, ⟨(some 79), none, .lfld 3 1 (.t 3)⟩, [], false⟩,
      ⟨4, ⟨(some 80), none, .lld 3 1 false (.t 79)⟩, [], false⟩,
      ⟨5, ⟨(some 81), none, .lkp (.word .int) (.int .i64 0) false (.t 78) (.t 80)⟩, [], false⟩,
      ⟨6, ⟨(some 82), none, .bin .sub (.t 81) (.c (.int .i64 1))⟩, [], false⟩,
      ⟨7, ⟨none, none, .mset (.word .int) (.t 78) (.t 80) (.t 82)⟩, [], false⟩])
    .skip))
  (.seq (.region 0 [] [⟨(some 83), none, .mv (.t 7)⟩,
    ⟨(some 84), none, .len .slice (.t 83)⟩,
    ⟨(some 85), none, .mv (.c (.int .i64 0))⟩])
  (.block 3
    (.loop
      (.seq (.region 0 [] [⟨(some 86), none, .bin .lss (.t 85) (.t 84)⟩])
      (.seq (.cond (.t 86)
        .skip
        (.exit 3))
      (.seq (.block 4
        (.seq (.region 0 [] [⟨(some 87), none, .ixa none 7 (.t 83) (.t 85)⟩,
          ⟨(some 88), none, .ld 7 true (.t 87)⟩,
          ⟨(some 14), none, .lalloc [(.slice [] .nil), (.slice [] .nil), (.int .i64 0), (.int .i64 0), (.int .i64 0), (.slice [] .nil), (.slice [] .nil)] [112, 107, 89]⟩,
          ⟨none, none, .lst 14 7 (.t 14) (.t 88)⟩])
        (.seq (.seq (.region 0 [] [⟨(some 89), none, .lfld 14 0 (.t 14)⟩,
          ⟨(some 90), none, .lld 14 1 false (.t 89)⟩,
          ⟨(some 91), none, .len .slice (.t 90)⟩,
          ⟨(some 92), none, .mv (.c (.int .i64 0))⟩])
        (.block 5
          (.loop
            (.seq (.region 0 [] [⟨(some 93), none, .bin .lss (.t 92) (.t 91)⟩])
            (.seq (.cond (.t 93)
              .skip
              (.exit 5))
            (.seq (.block 6
              (.seq (.region 0 [] [⟨(some 94), none, .mv (.t 92)⟩,
                ⟨(some 95), none, .ixa none 1 (.t 90) (.t 92)⟩,
                ⟨(some 96), none, .ld 1 false (.t 95)⟩,
                ⟨(some 15), none, .mv (.t 94)⟩,
                ⟨(some 16), none, .mv (.t 96)⟩])
              (.region 0 [] [⟨(some 97), none, .lld 14 7 true (.t 14)⟩,
                ⟨(some 98), none, .mv (.t 15)⟩,
                ⟨(some 99), none, .call 118 [(.t 97), (.t 98)]⟩,
                ⟨(some 100), none, .call 64 [(.t 99)]⟩,
                ⟨(some 101), none, .ixa (some 2) 1 (.t 4) (.t 100)⟩,
                ⟨(some 102), none, .ld 1 false (.t 101)⟩,
                ⟨(some 103), none, .mv (.t 16)⟩,
                ⟨(some 104), none, .lkp (.word .int) (.int .i64 0) false (.t 102) (.t 103)⟩,
                ⟨(some 105), none, .bin .add (.t 104) (.c (.int .i64 1))⟩,
                ⟨none, none, .mset (.word .int) (.t 102) (.t 103) (.t 105)⟩])))
            (.region 0 [] [⟨(some 106), none, .bin .add (.t 92) (.c (.int .i64 1))⟩,
              ⟨(some 92), none, .mv (.t 106)⟩])))))))
        (.seq (.region 0 [] [⟨(some 107), none, .lfld 14 2 (.t 14)⟩,
          ⟨(some 108), none, .lld 14 5 true (.t 107)⟩,
          ⟨(some 109), none, .ld 2 true (.t 4)⟩,
          ⟨(some 110), none, .ld 2 true (.t 5)⟩,
          ⟨(some 111), none, .call 102 [(.t 108), (.t 109), (.t 110)]⟩])
        (.seq (.region 0 [] [⟨(some 112), none, .lfld 14 0 (.t 14)⟩,
          ⟨(some 113), none, .lld 14 1 false (.t 112)⟩,
          ⟨(some 114), none, .len .slice (.t 113)⟩,
          ⟨(some 115), none, .mv (.c (.int .i64 0))⟩])
        (.block 7
          (.loop
            (.seq (.region 0 [] [⟨(some 116), none, .bin .lss (.t 115) (.t 114)⟩])
            (.seq (.cond (.t 116)
              .skip
              (.exit 7))
            (.seq (.block 8
              (.seq (.region 0 [] [⟨(some 117), none, .mv (.t 115)⟩,
                ⟨(some 118), none, .ixa none 1 (.t 113) (.t 115)⟩,
                ⟨(some 119), none, .ld 1 false (.t 118)⟩,
                ⟨(some 17), none, .mv (.t 117)⟩,
                ⟨(some 18), none, .mv (.t 119)⟩])
              (.region 0 [] [⟨(some 120), none, .lld 14 7 true (.t 14)⟩,
                ⟨(some 121), none, .mv (.t 17)⟩,
                ⟨(some 122), none, .call 118 [(.t 120), (.t 121)]⟩,
                ⟨(some 123), none, .call 64 [(.t 122)]⟩,
                ⟨(some 124), none, .ixa (some 2) 1 (.t 4) (.t 123)⟩,
                ⟨(some 125), none, .ld 1 false (.t 124)⟩,
                ⟨(some 126), none, .mv (.t 18)⟩,
                ⟨(some 127), none, .lkp (.word .int) (.int .i64 0) false (.t 125) (.t 126)⟩,
                ⟨(some 128), none, .bin .sub (.t 127) (.c (.int .i64 1))⟩,
                ⟨none, none, .mset (.word .int) (.t 125) (.t 126) (.t 128)⟩])))
            (.region 0 [] [⟨(some 129), none, .bin .add (.t 115) (.c (.int .i64 1))⟩,
              ⟨(some 115), none, .mv (.t 129)⟩])))))))))))
      (.region 0 [] [⟨(some 130), none, .bin .add (.t 85) (.c (.int .i64 1))⟩,
        ⟨(some 85), none, .mv (.t 130)⟩])))))))))))))))⟩

/- chiasmus/core.Size -/
def f103 : AFunc := ⟨1, 11, [.tmp 2, .tmp 3], true,
  (.seq (.region 0 [] [⟨(some 1), none, .lbox (.t 0) []⟩,
    ⟨(some 2), none, .mv (.c (.int .i64 0))⟩,
    ⟨(some 3), none, .mv (.c (.int .i64 0))⟩])
  (.seq (.region 0 [] [⟨(some 5), none, .lld 1 5 true (.t 1)⟩,
    ⟨(some 6), none, .call 119 [(.t 5), (.f 120)]⟩,
    ⟨(some 4), none, .lalloc [(.int .i64 0), (.int .i64 0)] [9, 7]⟩,
    ⟨none, none, .lst 4 2 (.t 4) (.t 6)⟩])
  (.seq (.drawn 0 [] [⟨0, ⟨(some 7), none, .lfld 4 0 (.t 4)⟩, [], false⟩,
    ⟨1, ⟨(some 8), none, .lld 4 1 false (.t 7)⟩, [], false⟩,
    ⟨2, ⟨(some 9), none, .lfld 4 1 (.t 4)⟩, [], false⟩,
    ⟨3, ⟨(some 10), none, .lld 4 1 false (.t 9)⟩, [], false⟩,
    ⟨4, ⟨(some 2), none, .mv (.t 8)⟩, [], false⟩,
    ⟨5, ⟨(some 3), none, .mv (.t 10)⟩, [], false⟩])
  .ret)))⟩

/- chiasmus/core.Copied -/
def f104 : AFunc := ⟨1, 53, [.lcell 2 2 5 true], true,
  (.seq (.region 0 [] [⟨(some 1), none, .lbox (.t 0) [50, 36, 28, 22, 15, 14]⟩,
    ⟨(some 2), none, .lalloc [(.int .i64 0), (.int .i64 0), (.int .i64 0), (.slice [] .nil), (.slice [] .nil)] []⟩])
  (.seq (.region 0 [] [⟨(some 10), none, .lld 1 5 true (.t 1)⟩,
    ⟨(some 11), none, .call 105 [(.t 10)]⟩,
    ⟨(some 9), none, .mv (.t 11)⟩,
    ⟨(some 12), none, .ext (.t 9) 0⟩,
    ⟨(some 13), none, .ext (.t 9) 1⟩,
    ⟨(some 3), none, .mv (.t 12)⟩,
    ⟨(some 4), none, .mv (.t 13)⟩])
  (.seq (.region 0 [] [⟨(some 14), none, .lfld 1 3 (.t 1)⟩,
    ⟨none, none, .lst 1 1 (.t 14) (.c (.slice [] .nil))⟩,
    ⟨(some 15), none, .lfld 1 4 (.t 1)⟩,
    ⟨none, none, .lst 1 1 (.t 15) (.c (.slice [] .nil))⟩])
  (.seq (.seq (.region 0 [] [⟨(some 16), none, .mv (.t 3)⟩,
    ⟨(some 17), none, .len .slice (.t 16)⟩,
    ⟨(some 18), none, .mv (.c (.int .i64 0))⟩])
  (.block 0
    (.loop
      (.seq (.region 0 [] [⟨(some 19), none, .bin .lss (.t 18) (.t 17)⟩])
      (.seq (.cond (.t 19)
        .skip
        (.exit 0))
      (.seq (.block 1
        (.seq (.region 0 [] [⟨(some 20), none, .ixa none 5 (.t 16) (.t 18)⟩,
          ⟨(some 21), none, .ld 5 true (.t 20)⟩,
          ⟨(some 6), none, .lalloc [(.int .i64 0), (.int .i64 0), (.int .i64 0), (.slice [] .nil), (.slice [] .nil)] []⟩,
          ⟨none, none, .lst 6 5 (.t 6) (.t 21)⟩])
        (.drawn 1 [] [⟨0, ⟨(some 22), none, .lfld 1 3 (.t 1)⟩, [], false⟩,
          ⟨1, ⟨(some 23), none, .lld 1 1 false (.t 22)⟩, [], false⟩,
          ⟨2, ⟨(some 24), none, .lld 6 5 true (.t 6)⟩, [], false⟩,
          ⟨3, ⟨(some 25), none, .call 104 [(.t 24)]⟩, [], false⟩,
          ⟨4, ⟨(some 26), none, .bslice 5 1 (.agg [(.int .i64 0), (.int .i64 0), (.int .i64 0), (.slice [] .nil), (.slice [] .nil)]) [(0, (.t 25))]⟩, [], false⟩,
          ⟨5, ⟨(some 27), none, .app 0 5 72 (.t 23) (.t 26)⟩, [], false⟩,
          ⟨6, ⟨(some 28), none, .lfld 1 3 (.t 1)⟩, [], false⟩,
          ⟨7, ⟨none, none, .lst 1 1 (.t 28) (.t 27)⟩, [], false⟩])))
      (.region 0 [] [⟨(some 29), none, .bin .add (.t 18) (.c (.int .i64 1))⟩,
        ⟨(some 18), none, .mv (.t 29)⟩])))))))
  (.seq (.seq (.region 0 [] [⟨(some 30), none, .mv (.t 4)⟩,
    ⟨(some 31), none, .len .slice (.t 30)⟩,
    ⟨(some 32), none, .mv (.c (.int .i64 0))⟩])
  (.block 2
    (.loop
      (.seq (.region 0 [] [⟨(some 33), none, .bin .lss (.t 32) (.t 31)⟩])
      (.seq (.cond (.t 33)
        .skip
        (.exit 2))
      (.seq (.block 3
        (.seq (.region 0 [] [⟨(some 34), none, .ixa none 7 (.t 30) (.t 32)⟩,
          ⟨(some 35), none, .ld 7 true (.t 34)⟩,
          ⟨(some 8), none, .lalloc [(.slice [] .nil), (.slice [] .nil), (.int .i64 0), (.int .i64 0), (.int .i64 0), (.slice [] .nil), (.slice [] .nil)] [44, 41, 38]⟩,
          ⟨none, none, .lst 8 7 (.t 8) (.t 35)⟩])
        (.drawn 1 [] [⟨0, ⟨(some 36), none, .lfld 1 4 (.t 1)⟩, [], false⟩,
          ⟨1, ⟨(some 37), none, .lld 1 1 false (.t 36)⟩, [], false⟩,
          ⟨2, ⟨(some 38), none, .lfld 8 0 (.t 8)⟩, [], false⟩,
          ⟨3, ⟨(some 39), none, .lld 8 1 false (.t 38)⟩, [], false⟩,
          ⟨4, ⟨(some 40), none, .call 11 [(.t 39)]⟩, [], false⟩,
          ⟨5, ⟨(some 41), none, .lfld 8 1 (.t 8)⟩, [], false⟩,
          ⟨6, ⟨(some 42), none, .lld 8 1 false (.t 41)⟩, [], false⟩,
          ⟨7, ⟨(some 43), none, .call 121 [(.t 42)]⟩, [], false⟩,
          ⟨8, ⟨(some 44), none, .lfld 8 2 (.t 8)⟩, [], false⟩,
          ⟨9, ⟨(some 45), none, .lld 8 5 true (.t 44)⟩, [], false⟩,
          ⟨10, ⟨(some 46), none, .call 104 [(.t 45)]⟩, [], false⟩,
          ⟨11, ⟨(some 47), none, .build [(.slice [] .nil), (.slice [] .nil), (.int .i64 0), (.int .i64 0), (.int .i64 0), (.slice [] .nil), (.slice [] .nil)] [(0, 1, (.t 40)), (1, 1, (.t 43)), (2, 5, (.t 46))]⟩, [], false⟩,
          ⟨12, ⟨(some 48), none, .bslice 7 1 (.agg [(.slice [] .nil), (.slice [] .nil), (.int .i64 0), (.int .i64 0), (.int .i64 0), (.slice [] .nil), (.slice [] .nil)]) [(0, (.t 47))]⟩, [], false⟩,
          ⟨13, ⟨(some 49), none, .app 0 7 120 (.t 37) (.t 48)⟩, [], false⟩,
          ⟨14, ⟨(some 50), none, .lfld 1 4 (.t 1)⟩, [], false⟩,
          ⟨15, ⟨none, none, .lst 1 1 (.t 50) (.t 49)⟩, [], false⟩])))
      (.region 0 [] [⟨(some 51), none, .bin .add (.t 32) (.c (.int .i64 1))⟩,
        ⟨(some 32), none, .mv (.t 51)⟩])))))))
  (.seq (.region 0 [] [⟨(some 52), none, .lld 1 5 true (.t 1)⟩,
    ⟨none, none, .lst 2 5 (.t 2) (.t 52)⟩])
  .ret))))))⟩

/- chiasmus/core.children -/
def f105 : AFunc := ⟨1, 21, [.tmp 2, .tmp 3], true,
  (.seq (.region 0 [] [⟨(some 1), none, .lbox (.t 0) [19, 17, 13, 8, 4]⟩,
    ⟨(some 2), none, .mv (.c (.slice [] .nil))⟩,
    ⟨(some 3), none, .mv (.c (.slice [] .nil))⟩])
  (.seq (.seq (.region 0 [] [⟨(some 4), none, .lfld 1 0 (.t 1)⟩,
    ⟨(some 5), none, .lld 1 1 false (.t 4)⟩,
    ⟨(some 6), none, .bin .eql (.t 5) (.c (.int .i64 0))⟩,
    ⟨(some 7), none, .mv (.t 6)⟩,
    ⟨(some 8), (some (7, false)), .lfld 1 0 (.t 1)⟩,
    ⟨(some 9), (some (7, false)), .lld 1 1 false (.t 8)⟩,
    ⟨(some 10), (some (7, false)), .bin .eql (.t 9) (.c (.int .i64 5))⟩,
    ⟨(some 11), none, .pick (.t 7) (.c (.bool true)) (.t 10)⟩,
    ⟨(some 12), none, .mv (.t 11)⟩,
    ⟨(some 13), (some (12, false)), .lfld 1 0 (.t 1)⟩,
    ⟨(some 14), (some (12, false)), .lld 1 1 false (.t 13)⟩,
    ⟨(some 15), (some (12, false)), .bin .eql (.t 14) (.c (.int .i64 1))⟩,
    ⟨(some 16), none, .pick (.t 12) (.c (.bool true)) (.t 15)⟩])
  (.cond (.t 16)
    (.seq (.region 0 [] [⟨(some 2), none, .mv (.c (.slice [] .nil))⟩,
      ⟨(some 3), none, .mv (.c (.slice [] .nil))⟩])
    .ret)
    .skip))
  (.seq (.drawn 0 [] [⟨0, ⟨(some 17), none, .lfld 1 3 (.t 1)⟩, [], false⟩,
    ⟨1, ⟨(some 18), none, .lld 1 1 false (.t 17)⟩, [], false⟩,
    ⟨2, ⟨(some 19), none, .lfld 1 4 (.t 1)⟩, [], false⟩,
    ⟨3, ⟨(some 20), none, .lld 1 1 false (.t 19)⟩, [], false⟩,
    ⟨4, ⟨(some 2), none, .mv (.t 18)⟩, [], false⟩,
    ⟨5, ⟨(some 3), none, .mv (.t 20)⟩, [], false⟩])
  .ret)))⟩

/- (*chiasmus/core.renamer).subst$1 -/
def f106 : AFunc := ⟨0, 0, [], true,
  .skip⟩

/- (*chiasmus/core.renamer).under -/
def f107 : AFunc := ⟨3, 69, [.tmp 6, .tmp 7], true,
  (.seq (.region 1 [] [⟨(some 3), none, .box 0 (.t 0)⟩,
    ⟨(some 6), none, .mv (.c (.slice [] .nil))⟩,
    ⟨(some 7), none, .mv (.c .nilfunc)⟩])
  (.seq (.region 1 [(0, (.cells [(.slice [] .nil)]))] [⟨(some 8), none, .alloc 0 [(.slice [] .nil)]⟩])
  (.seq (.region 0 [] [⟨(some 9), none, .mv (.c (.slice [] .nil))⟩])
  (.seq (.seq (.region 0 [] [⟨(some 17), none, .mv (.t 1)⟩,
    ⟨(some 18), none, .len .slice (.t 17)⟩,
    ⟨(some 19), none, .mv (.c (.int .i64 0))⟩])
  (.block 0
    (.loop
      (.seq (.region 0 [] [⟨(some 20), none, .bin .lss (.t 19) (.t 18)⟩])
      (.seq (.cond (.t 20)
        .skip
        (.exit 0))
      (.seq (.block 1
        (.seq (.region 0 [] [⟨(some 21), none, .mv (.t 19)⟩,
          ⟨(some 22), none, .ixa none 1 (.t 17) (.t 19)⟩,
          ⟨(some 23), none, .ld 1 false (.t 22)⟩,
          ⟨(some 10), none, .mv (.t 21)⟩,
          ⟨(some 11), none, .mv (.t 23)⟩])
        (.seq (.region 0 [] [⟨(some 24), none, .mv (.t 2)⟩,
          ⟨(some 25), none, .mv (.t 10)⟩,
          ⟨(some 26), none, .callv (.t 24) [(.t 25)]⟩,
          ⟨(some 27), none, .call 64 [(.t 26)]⟩,
          ⟨(some 12), none, .mv (.t 27)⟩])
        (.seq (.region 0 [] [⟨(some 28), none, .ld 1 false (.t 3)⟩,
          ⟨(some 29), none, .mv (.t 12)⟩,
          ⟨(some 30), none, .call 122 [(.t 28), (.t 29)]⟩,
          ⟨(some 13), none, .mv (.t 30)⟩])
        (.seq (.region 0 [] [⟨(some 32), none, .ld 1 false (.t 3)⟩,
          ⟨(some 33), none, .mv (.t 12)⟩,
          ⟨(some 34), none, .nilck (.t 32)⟩,
          ⟨(some 35), none, .fld 5 (.t 34)⟩,
          ⟨(some 36), none, .ixa (some 2) 1 (.t 35) (.t 33)⟩,
          ⟨(some 37), none, .ld 1 false (.t 36)⟩,
          ⟨(some 38), none, .mv (.t 11)⟩,
          ⟨(some 39), none, .lkp (.word .int) (.agg [(.int .i64 0), (.int .i64 0), (.int .i64 0), (.slice [] .nil), (.slice [] .nil)]) true (.t 37) (.t 38)⟩,
          ⟨(some 31), none, .mv (.t 39)⟩,
          ⟨(some 40), none, .ext (.t 31) 0⟩,
          ⟨(some 41), none, .ext (.t 31) 1⟩,
          ⟨(some 14), none, .lalloc [(.int .i64 0), (.int .i64 0), (.int .i64 0), (.slice [] .nil), (.slice [] .nil)] []⟩,
          ⟨none, none, .lst 14 5 (.t 14) (.t 40)⟩,
          ⟨(some 15), none, .mv (.t 41)⟩])
        (.seq (.region 1 [] [⟨(some 42), none, .ld 1 false (.t 8)⟩,
          ⟨(some 43), none, .mv (.t 12)⟩,
          ⟨(some 44), none, .mv (.t 11)⟩,
          ⟨(some 45), none, .lld 14 5 true (.t 14)⟩,
          ⟨(some 46), none, .mv (.t 15)⟩,
          ⟨(some 47), none, .build [(.int .i64 0), (.int .i64 0), (.int .i64 0), (.int .i64 0), (.int .i64 0), (.slice [] .nil), (.slice [] .nil), (.bool false)] [(0, 1, (.t 43)), (1, 1, (.t 44)), (2, 5, (.t 45)), (7, 1, (.t 46))]⟩,
          ⟨(some 48), none, .bslice 8 1 (.agg [(.int .i64 0), (.int .i64 0), (.int .i64 0), (.int .i64 0), (.int .i64 0), (.slice [] .nil), (.slice [] .nil), (.bool false)]) [(0, (.t 47))]⟩,
          ⟨(some 49), none, .app 0 8 96 (.t 42) (.t 48)⟩,
          ⟨none, none, .st 1 (.t 8) (.t 49)⟩])
        (.seq (.region 0 [] [⟨(some 16), none, .mv (.c (.int .i64 0))⟩])
        (.seq (.seq (.region 0 [] [⟨(some 50), none, .mv (.t 12)⟩,
          ⟨(some 51), none, .bin .eql (.t 50) (.c (.int .i64 1))⟩])
        (.cond (.t 51)
          (.region 0 [] [⟨(some 16), none, .mv (.c (.int .i64 5))⟩])
          .skip))
        (.seq (.region 0 [] [⟨(some 52), none, .ld 1 false (.t 3)⟩,
          ⟨(some 53), none, .mv (.t 12)⟩,
          ⟨(some 54), none, .nilck (.t 52)⟩,
          ⟨(some 55), none, .fld 5 (.t 54)⟩,
          ⟨(some 56), none, .ixa (some 2) 1 (.t 55) (.t 53)⟩,
          ⟨(some 57), none, .ld 1 false (.t 56)⟩,
          ⟨(some 58), none, .mv (.t 11)⟩,
          ⟨(some 59), none, .mv (.t 16)⟩,
          ⟨(some 60), none, .mv (.t 13)⟩,
          ⟨(some 61), none, .build [(.int .i64 0), (.int .i64 0), (.int .i64 0), (.slice [] .nil), (.slice [] .nil)] [(0, 1, (.t 59)), (1, 1, (.t 60))]⟩,
          ⟨none, none, .mset (.word .int) (.t 57) (.t 58) (.t 61)⟩])
        (.region 1 [] [⟨(some 62), none, .mv (.t 9)⟩,
          ⟨(some 63), none, .mv (.t 13)⟩,
          ⟨(some 64), none, .bslice 1 1 (.int .i64 0) [(0, (.t 63))]⟩,
          ⟨(some 65), none, .app 0 1 8 (.t 62) (.t 64)⟩,
          ⟨(some 9), none, .mv (.t 65)⟩]))))))))))
      (.region 0 [] [⟨(some 66), none, .bin .add (.t 19) (.c (.int .i64 1))⟩,
        ⟨(some 19), none, .mv (.t 66)⟩])))))))
  (.seq (.region 0 [] [⟨(some 67), none, .mv (.t 9)⟩,
    ⟨(some 68), none, .mkfn 123 [] [(.t 8), (.t 3)]⟩,
    ⟨(some 6), none, .mv (.t 67)⟩,
    ⟨(some 7), none, .mv (.t 68)⟩])
  .ret)))))⟩

/- (*chiasmus/core.renamer).subst$2 -/
def f108 : AFunc := ⟨2, 7, [.tmp 3], true,
  (.seq (.region 0 [] [⟨(some 3), none, .mv (.c (.bool false))⟩])
  (.seq (.region 0 [] [⟨(some 4), none, .fld 0 (.t 1)⟩,
    ⟨(some 5), none, .ld 1 false (.t 4)⟩,
    ⟨(some 6), none, .bin .eql (.t 5) (.c (.int .i64 3))⟩,
    ⟨(some 3), none, .mv (.t 6)⟩])
  .ret))⟩

/- (*chiasmus/core.renamer).branch -/
def f109 : AFunc := ⟨2, 40, [.lcell 4 4 7 true], true,
  (.seq (.region 1 [] [⟨(some 3), none, .box 0 (.t 1)⟩,
    ⟨(some 4), none, .lalloc [(.slice [] .nil), (.slice [] .nil), (.int .i64 0), (.int .i64 0), (.int .i64 0), (.slice [] .nil), (.slice [] .nil)] []⟩])
  (.seq (.region 0 [] [⟨(some 10), none, .mv (.t 0)⟩,
    ⟨(some 11), none, .fld 0 (.t 3)⟩,
    ⟨(some 12), none, .ld 1 false (.t 11)⟩,
    ⟨(some 13), none, .mkfn 124 [] [(.t 3)]⟩,
    ⟨(some 14), none, .call 107 [(.t 10), (.t 12), (.t 13)]⟩,
    ⟨(some 9), none, .mv (.t 14)⟩,
    ⟨(some 15), none, .ext (.t 9) 0⟩,
    ⟨(some 16), none, .ext (.t 9) 1⟩,
    ⟨(some 5), none, .mv (.t 15)⟩,
    ⟨(some 6), none, .mv (.t 16)⟩])
  (.seq (.region 0 [] [⟨(some 17), none, .mv (.t 6)⟩,
    ⟨none, none, .dfr (.t 17) []⟩])
  (.seq (.region 0 [] [⟨(some 18), none, .mv (.t 5)⟩,
    ⟨(some 19), none, .mv (.t 0)⟩,
    ⟨(some 20), none, .fld 2 (.t 3)⟩,
    ⟨(some 21), none, .ld 5 true (.t 20)⟩,
    ⟨(some 22), none, .call 92 [(.t 19), (.t 21)]⟩,
    ⟨(some 23), none, .build [(.slice [] .nil), (.slice [] .nil), (.int .i64 0), (.int .i64 0), (.int .i64 0), (.slice [] .nil), (.slice [] .nil)] [(0, 1, (.t 18)), (2, 5, (.t 22))]⟩,
    ⟨(some 7), none, .lalloc [(.slice [] .nil), (.slice [] .nil), (.int .i64 0), (.int .i64 0), (.int .i64 0), (.slice [] .nil), (.slice [] .nil)] [37, 30]⟩,
    ⟨none, none, .lst 7 7 (.t 7) (.t 23)⟩])
  (.seq (.seq (.region 0 [] [⟨(some 24), none, .fld 0 (.t 3)⟩,
    ⟨(some 25), none, .ld 1 false (.t 24)⟩,
    ⟨(some 26), none, .len .slice (.t 25)⟩,
    ⟨(some 27), none, .mv (.c (.int .i64 0))⟩])
  (.block 0
    (.loop
      (.seq (.region 0 [] [⟨(some 28), none, .bin .lss (.t 27) (.t 26)⟩])
      (.seq (.cond (.t 28)
        .skip
        (.exit 0))
      (.seq (.block 1
        (.seq (.region 0 [] [⟨(some 29), none, .mv (.t 27)⟩,
          ⟨(some 8), none, .mv (.t 29)⟩])
        (.drawn 1 [] [⟨0, ⟨(some 30), none, .lfld 7 1 (.t 7)⟩, [], false⟩,
          ⟨1, ⟨(some 31), none, .lld 7 1 false (.t 30)⟩, [], false⟩,
          ⟨2, ⟨(some 32), none, .ld 7 true (.t 3)⟩, [], false⟩,
          ⟨3, ⟨(some 33), none, .mv (.t 8)⟩, [], false⟩,
          ⟨4, ⟨(some 34), none, .call 118 [(.t 32), (.t 33)]⟩, [], false⟩,
          ⟨5, ⟨(some 35), none, .bslice 1 1 (.bool false) [(0, (.t 34))]⟩, [], false⟩,
          ⟨6, ⟨(some 36), none, .app 0 1 1 (.t 31) (.t 35)⟩, [], false⟩,
          ⟨7, ⟨(some 37), none, .lfld 7 1 (.t 7)⟩, [], false⟩,
          ⟨8, ⟨none, none, .lst 7 1 (.t 37) (.t 36)⟩, [], false⟩])))
      (.region 0 [] [⟨(some 38), none, .bin .add (.t 27) (.c (.int .i64 1))⟩,
        ⟨(some 27), none, .mv (.t 38)⟩])))))))
  (.seq (.region 0 [] [⟨(some 39), none, .lld 7 7 true (.t 7)⟩,
    ⟨none, none, .lst 4 7 (.t 4) (.t 39)⟩])
  .ret))))))⟩

/- (*chiasmus/focus.focuser).xtor -/
def f110 : AFunc := ⟨3, 28, [.lcell 6 6 5 true], true,
  (.seq (.region 2 [] [⟨(some 4), none, .box 0 (.t 1)⟩,
    ⟨(some 5), none, .box 1 (.t 2)⟩,
    ⟨(some 6), none, .lalloc [(.int .i64 0), (.int .i64 0), (.int .i64 0), (.slice [] .nil), (.slice [] .nil)] []⟩])
  (.seq (.drawn 0 [] [⟨0, ⟨(some 7), none, .mv (.t 0)⟩, [], false⟩,
    ⟨1, ⟨(some 8), none, .mkfn 125 [] [(.t 4), (.t 5)]⟩, [], false⟩,
    ⟨2, ⟨(some 9), none, .mv (.t 0)⟩, [], false⟩,
    ⟨3, ⟨(some 10), none, .nilck (.t 9)⟩, [], false⟩,
    ⟨4, ⟨(some 11), none, .fld 0 (.t 10)⟩, [], false⟩,
    ⟨5, ⟨(some 12), none, .fld 0 (.t 11)⟩, [], false⟩,
    ⟨6, ⟨(some 13), none, .ld 1 false (.t 12)⟩, [], false⟩,
    ⟨7, ⟨(some 14), none, .fld 2 (.t 4)⟩, [], false⟩,
    ⟨8, ⟨(some 15), none, .ld 1 false (.t 14)⟩, [], false⟩,
    ⟨9, ⟨(some 16), none, .bin .sub (.t 15) (.c (.int .i64 1))⟩, [], false⟩,
    ⟨10, ⟨(some 17), none, .ixa none 3 (.t 13) (.t 16)⟩, [], false⟩,
    ⟨11, ⟨(some 18), none, .fld 2 (.t 17)⟩, [], false⟩,
    ⟨12, ⟨(some 19), none, .ld 1 false (.t 18)⟩, [], false⟩,
    ⟨13, ⟨(some 20), none, .fld 1 (.t 4)⟩, [], false⟩,
    ⟨14, ⟨(some 21), none, .ld 1 false (.t 20)⟩, [], false⟩,
    ⟨15, ⟨(some 22), none, .ixa none 2 (.t 19) (.t 21)⟩, [], false⟩,
    ⟨16, ⟨(some 23), none, .fld 1 (.t 22)⟩, [], false⟩,
    ⟨17, ⟨(some 24), none, .ld 1 false (.t 23)⟩, [], false⟩,
    ⟨18, ⟨(some 25), none, .fld 3 (.t 4)⟩, [], false⟩,
    ⟨19, ⟨(some 26), none, .ld 1 false (.t 25)⟩, [], false⟩,
    ⟨20, ⟨(some 27), none, .call 97 [(.t 7), (.t 8), (.t 24), (.c (.slice [] .nil)), (.t 26)]⟩, [], false⟩,
    ⟨21, ⟨none, none, .lst 6 5 (.t 6) (.t 27)⟩, [], false⟩])
  .ret))⟩

/- (*chiasmus/focus.focuser).name$1 -/
def f111 : AFunc := ⟨6, 23, [.lcell 7 7 5 true], true,
  (.seq (.region 0 [] [⟨(some 6), none, .lbox (.t 0) []⟩,
    ⟨(some 7), none, .lalloc [(.int .i64 0), (.int .i64 0), (.int .i64 0), (.slice [] .nil), (.slice [] .nil)] []⟩])
  (.seq (.drawn 1 [] [⟨0, ⟨(some 8), none, .ld 1 false (.t 1)⟩, [11], false⟩,
    ⟨1, ⟨(some 9), none, .ld 1 false (.t 2)⟩, [11], false⟩,
    ⟨2, ⟨(some 10), none, .ld 1 false (.t 3)⟩, [11], false⟩,
    ⟨3, ⟨(some 11), none, .ld 1 false (.t 4)⟩, [], false⟩,
    ⟨4, ⟨(some 12), none, .ld 1 false (.t 4)⟩, [], false⟩,
    ⟨5, ⟨(some 13), none, .len .slice (.t 12)⟩, [], false⟩,
    ⟨6, ⟨(some 14), none, .ld 1 false (.t 4)⟩, [], false⟩,
    ⟨7, ⟨(some 15), none, .len .slice (.t 14)⟩, [], false⟩,
    ⟨8, ⟨(some 16), none, .sub false 5 (.t 11) none (some (.t 13)) (some (.t 15))⟩, [], false⟩,
    ⟨9, ⟨(some 17), none, .lld 6 5 true (.t 6)⟩, [], false⟩,
    ⟨10, ⟨(some 18), none, .bslice 5 1 (.agg [(.int .i64 0), (.int .i64 0), (.int .i64 0), (.slice [] .nil), (.slice [] .nil)]) [(0, (.t 17))]⟩, [], false⟩,
    ⟨11, ⟨(some 19), none, .app 0 5 72 (.t 16) (.t 18)⟩, [0, 1, 2, 12], false⟩,
    ⟨12, ⟨(some 20), none, .ld 1 false (.t 5)⟩, [11], false⟩,
    ⟨13, ⟨(some 21), none, .sub false 5 (.t 20) (some (.c (.int .i64 1))) none none⟩, [], false⟩,
    ⟨14, ⟨(some 22), none, .call 97 [(.t 8), (.t 9), (.t 10), (.t 19), (.t 21)]⟩, [], false⟩,
    ⟨15, ⟨none, none, .lst 7 5 (.t 7) (.t 22)⟩, [], false⟩])
  .ret))⟩

/- (*chiasmus/focus.focuser).serious -/
def f112 : AFunc := ⟨3, 59, [.tmp 6], true,
  (.seq (.region 0 [] [⟨(some 4), none, .lbox (.t 1) [51, 39, 33, 20]⟩,
    ⟨(some 5), none, .lbox (.t 2) [17, 14]⟩,
    ⟨(some 6), none, .mv (.c (.bool false))⟩])
  (.seq (.seq (.drawn 0 [] [⟨0, ⟨(some 9), none, .mv (.t 0)⟩, [], false⟩,
    ⟨1, ⟨(some 10), none, .nilck (.t 9)⟩, [], false⟩,
    ⟨2, ⟨(some 11), none, .fld 0 (.t 10)⟩, [], false⟩,
    ⟨3, ⟨(some 12), none, .fld 0 (.t 11)⟩, [], false⟩,
    ⟨4, ⟨(some 13), none, .ld 1 false (.t 12)⟩, [], false⟩,
    ⟨5, ⟨(some 14), none, .lfld 5 0 (.t 5)⟩, [], false⟩,
    ⟨6, ⟨(some 15), none, .lld 5 1 false (.t 14)⟩, [], false⟩,
    ⟨7, ⟨(some 16), none, .call 38 [(.t 13), (.t 15)]⟩, [], false⟩,
    ⟨8, ⟨(some 17), none, .lfld 5 1 (.t 5)⟩, [], false⟩,
    ⟨9, ⟨(some 18), none, .lld 5 1 false (.t 17)⟩, [], false⟩,
    ⟨10, ⟨(some 19), none, .eqv false .bool (.t 16) (.t 18)⟩, [], false⟩])
  (.cond (.t 19)
    (.seq (.region 0 [] [⟨(some 6), none, .mv (.c (.bool false))⟩])
    .ret)
    .skip))
  (.seq (.seq (.region 0 [] [⟨(some 20), none, .lfld 4 0 (.t 4)⟩,
    ⟨(some 21), none, .lld 4 1 false (.t 20)⟩])
  (.block 0
    (.seq (.seq (.region 0 [] [⟨(some 23), none, .bin .eql (.t 21) (.c (.int .i64 3))⟩,
      ⟨(some 22), none, .mv (.t 23)⟩])
    (.cond (.t 22)
      .skip
      (.region 0 [] [⟨(some 24), none, .bin .eql (.t 21) (.c (.int .i64 7))⟩,
        ⟨(some 22), none, .mv (.t 24)⟩])))
    (.cond (.t 22)
      (.seq (.region 0 [] [⟨(some 6), none, .mv (.c (.bool true))⟩])
      .ret)
      (.seq (.seq (.region 0 [] [⟨(some 26), none, .bin .eql (.t 21) (.c (.int .i64 2))⟩,
        ⟨(some 25), none, .mv (.t 26)⟩])
      (.cond (.t 25)
        .skip
        (.region 0 [] [⟨(some 27), none, .bin .eql (.t 21) (.c (.int .i64 6))⟩,
          ⟨(some 25), none, .mv (.t 27)⟩])))
      (.cond (.t 25)
        (.seq (.drawn 0 [] [⟨0, ⟨(some 28), none, .mv (.t 0)⟩, [], false⟩,
          ⟨1, ⟨(some 29), none, .nilck (.t 28)⟩, [], false⟩,
          ⟨2, ⟨(some 30), none, .fld 0 (.t 29)⟩, [], false⟩,
          ⟨3, ⟨(some 31), none, .fld 0 (.t 30)⟩, [], false⟩,
          ⟨4, ⟨(some 32), none, .ld 1 false (.t 31)⟩, [], false⟩,
          ⟨5, ⟨(some 33), none, .lfld 4 2 (.t 4)⟩, [], false⟩,
          ⟨6, ⟨(some 34), none, .lld 4 1 false (.t 33)⟩, [], false⟩,
          ⟨7, ⟨(some 35), none, .bin .sub (.t 34) (.c (.int .i64 1))⟩, [], false⟩,
          ⟨8, ⟨(some 36), none, .ixa none 3 (.t 32) (.t 35)⟩, [], false⟩,
          ⟨9, ⟨(some 37), none, .fld 2 (.t 36)⟩, [], false⟩,
          ⟨10, ⟨(some 38), none, .ld 1 false (.t 37)⟩, [], false⟩,
          ⟨11, ⟨(some 39), none, .lfld 4 1 (.t 4)⟩, [], false⟩,
          ⟨12, ⟨(some 40), none, .lld 4 1 false (.t 39)⟩, [], false⟩,
          ⟨13, ⟨(some 41), none, .ixa none 2 (.t 38) (.t 40)⟩, [], false⟩,
          ⟨14, ⟨(some 42), none, .fld 1 (.t 41)⟩, [], false⟩,
          ⟨15, ⟨(some 43), none, .ld 1 false (.t 42)⟩, [], false⟩,
          ⟨16, ⟨(some 44), none, .len .slice (.t 43)⟩, [], false⟩,
          ⟨17, ⟨(some 45), none, .mv (.c (.int .i64 0))⟩, [], false⟩])
        (.block 1
          (.loop
            (.seq (.region 0 [] [⟨(some 46), none, .bin .lss (.t 45) (.t 44)⟩])
            (.seq (.cond (.t 46)
              .skip
              (.exit 1))
            (.seq (.block 2
              (.seq (.region 0 [] [⟨(some 47), none, .mv (.t 45)⟩,
                ⟨(some 48), none, .ixa none 2 (.t 43) (.t 45)⟩,
                ⟨(some 49), none, .ld 2 true (.t 48)⟩,
                ⟨(some 8), none, .lalloc [(.int .i64 0), (.bool false)] []⟩,
                ⟨(some 7), none, .mv (.t 47)⟩,
                ⟨none, none, .lst 8 2 (.t 8) (.t 49)⟩])
              (.seq (.drawn 0 [] [⟨0, ⟨(some 50), none, .mv (.t 0)⟩, [], false⟩,
                ⟨1, ⟨(some 51), none, .lfld 4 3 (.t 4)⟩, [], false⟩,
                ⟨2, ⟨(some 52), none, .lld 4 1 false (.t 51)⟩, [], false⟩,
                ⟨3, ⟨(some 53), none, .mv (.t 7)⟩, [], false⟩,
                ⟨4, ⟨(some 54), none, .ixa none 5 (.t 52) (.t 53)⟩, [], false⟩,
                ⟨5, ⟨(some 55), none, .ld 5 true (.t 54)⟩, [], false⟩,
                ⟨6, ⟨(some 56), none, .lld 8 2 true (.t 8)⟩, [], false⟩,
                ⟨7, ⟨(some 57), none, .call 112 [(.t 50), (.t 55), (.t 56)]⟩, [], false⟩])
              (.cond (.t 57)
                (.seq (.region 0 [] [⟨(some 6), none, .mv (.c (.bool true))⟩])
                .ret)
                .skip))))
            (.region 0 [] [⟨(some 58), none, .bin .add (.t 45) (.c (.int .i64 1))⟩,
              ⟨(some 45), none, .mv (.t 58)⟩])))))))
        .skip))))))
  (.seq (.region 0 [] [⟨(some 6), none, .mv (.c (.bool false))⟩])
  .ret))))⟩

/- (*chiasmus/focus.focuser).variable -/
def f113 : AFunc := ⟨2, 24, [.tmp 4], true,
  (.seq (.region 0 [] [⟨(some 4), none, .mv (.c (.int .i64 0))⟩])
  (.seq (.region 0 [] [⟨(some 5), none, .mv (.c (.int .i64 0))⟩])
  (.seq (.seq (.region 0 [] [⟨(some 6), none, .mv (.t 1)⟩])
  (.cond (.t 6)
    (.region 0 [] [⟨(some 5), none, .mv (.c (.int .i64 1))⟩])
    .skip))
  (.seq (.drawn 0 [] [⟨0, ⟨(some 7), none, .mv (.t 0)⟩, [], false⟩,
    ⟨1, ⟨(some 8), none, .mv (.t 5)⟩, [], false⟩,
    ⟨2, ⟨(some 9), none, .nilck (.t 7)⟩, [], false⟩,
    ⟨3, ⟨(some 10), none, .fld 2 (.t 9)⟩, [], false⟩,
    ⟨4, ⟨(some 11), none, .ixa (some 2) 1 (.t 10) (.t 8)⟩, [], false⟩,
    ⟨5, ⟨(some 12), none, .ld 1 false (.t 11)⟩, [], false⟩,
    ⟨6, ⟨(some 13), none, .bin .add (.t 12) (.c (.int .i64 1))⟩, [], false⟩,
    ⟨7, ⟨(some 14), none, .nilck (.t 7)⟩, [], false⟩,
    ⟨8, ⟨(some 15), none, .fld 2 (.t 14)⟩, [], false⟩,
    ⟨9, ⟨(some 16), none, .ixa (some 2) 1 (.t 15) (.t 8)⟩, [], false⟩,
    ⟨10, ⟨none, none, .st 1 (.t 16) (.t 13)⟩, [], false⟩])
  (.seq (.region 0 [] [⟨(some 17), none, .mv (.t 0)⟩,
    ⟨(some 18), none, .mv (.t 5)⟩,
    ⟨(some 19), none, .nilck (.t 17)⟩,
    ⟨(some 20), none, .fld 2 (.t 19)⟩,
    ⟨(some 21), none, .ixa (some 2) 1 (.t 20) (.t 18)⟩,
    ⟨(some 22), none, .ld 1 false (.t 21)⟩,
    ⟨(some 23), none, .bin .sub (.t 22) (.c (.int .i64 1))⟩,
    ⟨(some 4), none, .mv (.t 23)⟩])
  .ret)))))⟩

/- chiasmus/core.co -/
def f118 : AFunc := ⟨2, 17, [.tmp 4], true,
  (.seq (.region 0 [] [⟨(some 2), none, .lbox (.t 0) [11, 6]⟩,
    ⟨(some 4), none, .mv (.c (.bool false))⟩])
  (.seq (.region 0 [] [⟨(some 5), none, .mv (.t 1)⟩,
    ⟨(some 6), none, .lfld 2 1 (.t 2)⟩,
    ⟨(some 7), none, .lld 2 1 false (.t 6)⟩,
    ⟨(some 8), none, .len .slice (.t 7)⟩,
    ⟨(some 9), none, .bin .lss (.t 5) (.t 8)⟩,
    ⟨(some 10), none, .mv (.t 9)⟩,
    ⟨(some 11), (some (10, true)), .lfld 2 1 (.t 2)⟩,
    ⟨(some 12), (some (10, true)), .lld 2 1 false (.t 11)⟩,
    ⟨(some 13), (some (10, true)), .mv (.t 1)⟩,
    ⟨(some 14), (some (10, true)), .ixa none 1 (.t 12) (.t 13)⟩,
    ⟨(some 15), (some (10, true)), .ld 1 false (.t 14)⟩,
    ⟨(some 16), none, .pick (.t 10) (.t 15) (.c (.bool false))⟩,
    ⟨(some 4), none, .mv (.t 16)⟩])
  .ret))⟩

/- chiasmus/core.fold[[2]int] -/
def f119 : AFunc := ⟨2, 50, [.lcell 4 4 2 true], true,
  (.seq (.region 0 [] [⟨(some 2), none, .lbox (.t 0) []⟩,
    ⟨(some 4), none, .lalloc [(.int .i64 0), (.int .i64 0)] []⟩])
  (.seq (.region 0 [] [⟨(some 5), none, .mv (.c (.slice [] .nil))⟩,
    ⟨(some 6), none, .mv (.c (.slice [] .nil))⟩])
  (.seq (.region 0 [] [⟨(some 14), none, .lld 2 5 true (.t 2)⟩,
    ⟨(some 15), none, .call 105 [(.t 14)]⟩,
    ⟨(some 13), none, .mv (.t 15)⟩,
    ⟨(some 16), none, .ext (.t 13) 0⟩,
    ⟨(some 17), none, .ext (.t 13) 1⟩,
    ⟨(some 7), none, .mv (.t 16)⟩,
    ⟨(some 8), none, .mv (.t 17)⟩])
  (.seq (.seq (.region 0 [] [⟨(some 18), none, .mv (.t 7)⟩,
    ⟨(some 19), none, .len .slice (.t 18)⟩,
    ⟨(some 20), none, .mv (.c (.int .i64 0))⟩])
  (.block 0
    (.loop
      (.seq (.region 0 [] [⟨(some 21), none, .bin .lss (.t 20) (.t 19)⟩])
      (.seq (.cond (.t 21)
        .skip
        (.exit 0))
      (.seq (.block 1
        (.seq (.region 0 [] [⟨(some 22), none, .ixa none 5 (.t 18) (.t 20)⟩,
          ⟨(some 23), none, .ld 5 true (.t 22)⟩,
          ⟨(some 10), none, .lalloc [(.int .i64 0), (.int .i64 0), (.int .i64 0), (.slice [] .nil), (.slice [] .nil)] []⟩,
          ⟨none, none, .lst 10 5 (.t 10) (.t 23)⟩])
        (.region 1 [] [⟨(some 24), none, .mv (.t 5)⟩,
          ⟨(some 25), none, .lld 10 5 true (.t 10)⟩,
          ⟨(some 26), none, .mv (.t 1)⟩,
          ⟨(some 27), none, .call 119 [(.t 25), (.t 26)]⟩,
          ⟨(some 28), none, .bslice 2 1 (.agg [(.int .i64 0), (.int .i64 0)]) [(0, (.t 27))]⟩,
          ⟨(some 29), none, .app 0 2 16 (.t 24) (.t 28)⟩,
          ⟨(some 5), none, .mv (.t 29)⟩])))
      (.region 0 [] [⟨(some 30), none, .bin .add (.t 20) (.c (.int .i64 1))⟩,
        ⟨(some 20), none, .mv (.t 30)⟩])))))))
  (.seq (.seq (.region 0 [] [⟨(some 31), none, .mv (.t 8)⟩,
    ⟨(some 32), none, .len .slice (.t 31)⟩,
    ⟨(some 33), none, .mv (.c (.int .i64 0))⟩])
  (.block 2
    (.loop
      (.seq (.region 0 [] [⟨(some 34), none, .bin .lss (.t 33) (.t 32)⟩])
      (.seq (.cond (.t 34)
        .skip
        (.exit 2))
      (.seq (.block 3
        (.seq (.region 0 [] [⟨(some 35), none, .ixa none 7 (.t 31) (.t 33)⟩,
          ⟨(some 36), none, .ld 7 true (.t 35)⟩,
          ⟨(some 12), none, .lalloc [(.slice [] .nil), (.slice [] .nil), (.int .i64 0), (.int .i64 0), (.int .i64 0), (.slice [] .nil), (.slice [] .nil)] [38]⟩,
          ⟨none, none, .lst 12 7 (.t 12) (.t 36)⟩])
        (.region 1 [] [⟨(some 37), none, .mv (.t 6)⟩,
          ⟨(some 38), none, .lfld 12 2 (.t 12)⟩,
          ⟨(some 39), none, .lld 12 5 true (.t 38)⟩,
          ⟨(some 40), none, .mv (.t 1)⟩,
          ⟨(some 41), none, .call 119 [(.t 39), (.t 40)]⟩,
          ⟨(some 42), none, .bslice 2 1 (.agg [(.int .i64 0), (.int .i64 0)]) [(0, (.t 41))]⟩,
          ⟨(some 43), none, .app 0 2 16 (.t 37) (.t 42)⟩,
          ⟨(some 6), none, .mv (.t 43)⟩])))
      (.region 0 [] [⟨(some 44), none, .bin .add (.t 33) (.c (.int .i64 1))⟩,
        ⟨(some 33), none, .mv (.t 44)⟩])))))))
  (.seq (.region 0 [] [⟨(some 45), none, .mv (.t 1)⟩,
    ⟨(some 46), none, .lld 2 5 true (.t 2)⟩,
    ⟨(some 47), none, .mv (.t 5)⟩,
    ⟨(some 48), none, .mv (.t 6)⟩,
    ⟨(some 49), none, .callv (.t 45) [(.t 46), (.t 47), (.t 48)]⟩,
    ⟨none, none, .lst 4 2 (.t 4) (.t 49)⟩])
  .ret))))))⟩

/- chiasmus/core.Size$1 -/
def f120 : AFunc := ⟨3, 34, [.lcell 6 6 2 true], true,
  (.seq (.region 0 [] [⟨(some 3), none, .lbox (.t 0) []⟩,
    ⟨(some 6), none, .lalloc [(.int .i64 0), (.int .i64 0)] []⟩])
  (.seq (.region 0 [] [⟨(some 10), none, .build [(.int .i64 0), (.int .i64 0)] [(0, 1, (.c (.int .i64 1))), (1, 1, (.c (.int .i64 1)))]⟩,
    ⟨(some 7), none, .lalloc [(.int .i64 0), (.int .i64 0)] [31, 25, 24, 19]⟩,
    ⟨none, none, .lst 7 2 (.t 7) (.t 10)⟩])
  (.seq (.seq (.region 1 [] [⟨(some 11), none, .mv (.t 1)⟩,
    ⟨(some 12), none, .mv (.t 2)⟩,
    ⟨(some 13), none, .app 0 2 16 (.t 11) (.t 12)⟩,
    ⟨(some 14), none, .len .slice (.t 13)⟩,
    ⟨(some 15), none, .mv (.c (.int .i64 0))⟩])
  (.block 0
    (.loop
      (.seq (.region 0 [] [⟨(some 16), none, .bin .lss (.t 15) (.t 14)⟩])
      (.seq (.cond (.t 16)
        .skip
        (.exit 0))
      (.seq (.block 1
        (.seq (.region 0 [] [⟨(some 17), none, .ixa none 2 (.t 13) (.t 15)⟩,
          ⟨(some 18), none, .ld 2 true (.t 17)⟩,
          ⟨(some 9), none, .lalloc [(.int .i64 0), (.int .i64 0)] [27, 21]⟩,
          ⟨none, none, .lst 9 2 (.t 9) (.t 18)⟩])
        (.seq (.region 0 [] [⟨(some 19), none, .lfld 7 0 (.t 7)⟩,
          ⟨(some 20), none, .lld 7 1 false (.t 19)⟩,
          ⟨(some 21), none, .lfld 9 0 (.t 9)⟩,
          ⟨(some 22), none, .lld 9 1 false (.t 21)⟩,
          ⟨(some 23), none, .bin .add (.t 20) (.t 22)⟩,
          ⟨(some 24), none, .lfld 7 0 (.t 7)⟩,
          ⟨none, none, .lst 7 1 (.t 24) (.t 23)⟩])
        (.region 0 [] [⟨(some 25), none, .lfld 7 1 (.t 7)⟩,
          ⟨(some 26), none, .lld 7 1 false (.t 25)⟩,
          ⟨(some 27), none, .lfld 9 1 (.t 9)⟩,
          ⟨(some 28), none, .lld 9 1 false (.t 27)⟩,
          ⟨(some 29), none, .bin .add (.t 28) (.c (.int .i64 1))⟩,
          ⟨(some 30), none, .maxi [(.t 26), (.t 29)]⟩,
          ⟨(some 31), none, .lfld 7 1 (.t 7)⟩,
          ⟨none, none, .lst 7 1 (.t 31) (.t 30)⟩]))))
      (.region 0 [] [⟨(some 32), none, .bin .add (.t 15) (.c (.int .i64 1))⟩,
        ⟨(some 15), none, .mv (.t 32)⟩])))))))
  (.seq (.region 0 [] [⟨(some 33), none, .lld 7 2 true (.t 7)⟩,
    ⟨none, none, .lst 6 2 (.t 6) (.t 33)⟩])
  .ret))))⟩

/- slices.Clone[[]bool,bool] -/
def f121 : AFunc := ⟨1, 8, [.tmp 2], true,
  (.seq (.region 0 [] [⟨(some 2), none, .mv (.c (.slice [] .nil))⟩])
  (.seq (.seq (.region 0 [] [⟨(some 3), none, .mv (.t 0)⟩,
    ⟨(some 4), none, .eqv false .slice (.t 3) (.c (.slice [] .nil))⟩])
  (.cond (.t 4)
    (.seq (.region 0 [] [⟨(some 2), none, .mv (.c (.slice [] .nil))⟩])
    .ret)
    .skip))
  (.seq (.region 1 [] [⟨(some 5), none, .bslice 1 0 (.bool false) []⟩,
    ⟨(some 6), none, .mv (.t 0)⟩,
    ⟨(some 7), none, .app 0 1 1 (.t 5) (.t 6)⟩,
    ⟨(some 2), none, .mv (.t 7)⟩])
  .ret)))⟩

/- (*chiasmus/core.renamer).fresh -/
def f122 : AFunc := ⟨2, 45, [.tmp 4], true,
  (.seq (.region 0 [] [⟨(some 4), none, .mv (.c (.int .i64 0))⟩])
  (.seq (.block 0
    (.loop
      (.seq (.seq (.drawn 0 [] [⟨0, ⟨(some 5), none, .mv (.t 0)⟩, [], false⟩,
        ⟨1, ⟨(some 6), none, .mv (.t 1)⟩, [], false⟩,
        ⟨2, ⟨(some 7), none, .nilck (.t 5)⟩, [], false⟩,
        ⟨3, ⟨(some 8), none, .fld 0 (.t 7)⟩, [], false⟩,
        ⟨4, ⟨(some 9), none, .ixa (some 2) 1 (.t 8) (.t 6)⟩, [], false⟩,
        ⟨5, ⟨(some 10), none, .ld 1 false (.t 9)⟩, [], false⟩,
        ⟨6, ⟨(some 11), none, .mv (.t 0)⟩, [], false⟩,
        ⟨7, ⟨(some 12), none, .mv (.t 1)⟩, [], false⟩,
        ⟨8, ⟨(some 13), none, .nilck (.t 11)⟩, [], false⟩,
        ⟨9, ⟨(some 14), none, .fld 2 (.t 13)⟩, [], false⟩,
        ⟨10, ⟨(some 15), none, .ixa (some 2) 1 (.t 14) (.t 12)⟩, [], false⟩,
        ⟨11, ⟨(some 16), none, .ld 1 false (.t 15)⟩, [], false⟩,
        ⟨12, ⟨(some 17), none, .lkp (.word .int) (.bool false) false (.t 10) (.t 16)⟩, [], false⟩])
      (.cond (.t 17)
        .skip
        (.exit 0)))
      (.block 1
        (.drawn 0 [] [⟨0, ⟨(some 18), none, .mv (.t 0)⟩, [], false⟩,
          ⟨1, ⟨(some 19), none, .mv (.t 1)⟩, [], false⟩,
          ⟨2, ⟨(some 20), none, .nilck (.t 18)⟩, [], false⟩,
          ⟨3, ⟨(some 21), none, .fld 2 (.t 20)⟩, [], false⟩,
          ⟨4, ⟨(some 22), none, .ixa (some 2) 1 (.t 21) (.t 19)⟩, [], false⟩,
          ⟨5, ⟨(some 23), none, .ld 1 false (.t 22)⟩, [], false⟩,
          ⟨6, ⟨(some 24), none, .bin .add (.t 23) (.c (.int .i64 1))⟩, [], false⟩,
          ⟨7, ⟨(some 25), none, .nilck (.t 18)⟩, [], false⟩,
          ⟨8, ⟨(some 26), none, .fld 2 (.t 25)⟩, [], false⟩,
          ⟨9, ⟨(some 27), none, .ixa (some 2) 1 (.t 26) (.t 19)⟩, [], false⟩,
          ⟨10, ⟨none, none, .st 1 (.t 27) (.t 24)⟩, [], false⟩])))))
  (.seq (.drawn 0 [] [⟨0, ⟨(some 28), none, .mv (.t 0)⟩, [], false⟩,
    ⟨1, ⟨(some 29), none, .mv (.t 1)⟩, [], false⟩,
    ⟨2, ⟨(some 30), none, .nilck (.t 28)⟩, [], false⟩,
    ⟨3, ⟨(some 31), none, .fld 2 (.t 30)⟩, [], false⟩,
    ⟨4, ⟨(some 32), none, .ixa (some 2) 1 (.t 31) (.t 29)⟩, [], false⟩,
    ⟨5, ⟨(some 33), none, .ld 1 false (.t 32)⟩, [], false⟩,
    ⟨6, ⟨(some 34), none, .bin .add (.t 33) (.c (.int .i64 1))⟩, [], false⟩,
    ⟨7, ⟨(some 35), none, .nilck (.t 28)⟩, [], false⟩,
    ⟨8, ⟨(some 36), none, .fld 2 (.t 35)⟩, [], false⟩,
    ⟨9, ⟨(some 37), none, .ixa (some 2) 1 (.t 36) (.t 29)⟩, [], false⟩,
    ⟨10, ⟨none, none, .st 1 (.t 37) (.t 34)⟩, [], false⟩])
  (.seq (.region 0 [] [⟨(some 38), none, .mv (.t 0)⟩,
    ⟨(some 39), none, .mv (.t 1)⟩,
    ⟨(some 40), none, .nilck (.t 38)⟩,
    ⟨(some 41), none, .fld 2 (.t 40)⟩,
    ⟨(some 42), none, .ixa (some 2) 1 (.t 41) (.t 39)⟩,
    ⟨(some 43), none, .ld 1 false (.t 42)⟩,
    ⟨(some 44), none, .bin .sub (.t 43) (.c (.int .i64 1))⟩,
    ⟨(some 4), none, .mv (.t 44)⟩])
  .ret))))⟩

/- (*chiasmus/core.renamer).under$1 -/
def f123 : AFunc := ⟨2, 37, [], true,
  (.seq (.region 0 [] [⟨(some 4), none, .ld 1 false (.t 0)⟩,
    ⟨(some 5), none, .len .slice (.t 4)⟩,
    ⟨(some 6), none, .bin .sub (.t 5) (.c (.int .i64 1))⟩,
    ⟨(some 2), none, .mv (.t 6)⟩])
  (.block 0
    (.loop
      (.seq (.seq (.region 0 [] [⟨(some 7), none, .mv (.t 2)⟩,
        ⟨(some 8), none, .bin .geq (.t 7) (.c (.int .i64 0))⟩])
      (.cond (.t 8)
        .skip
        (.exit 0)))
      (.seq (.block 1
        (.seq (.region 0 [] [⟨(some 11), none, .ld 1 false (.t 0)⟩,
          ⟨(some 12), none, .mv (.t 2)⟩,
          ⟨(some 13), none, .ixa none 8 (.t 11) (.t 12)⟩,
          ⟨(some 14), none, .ld 8 true (.t 13)⟩,
          ⟨(some 3), none, .lalloc [(.int .i64 0), (.int .i64 0), (.int .i64 0), (.int .i64 0), (.int .i64 0), (.slice [] .nil), (.slice [] .nil), (.bool false)] [35, 33, 27, 24, 22, 16]⟩,
          ⟨none, none, .lst 3 8 (.t 3) (.t 14)⟩])
        (.seq (.drawn 0 [] [⟨0, ⟨(some 15), none, .ld 1 false (.t 1)⟩, [], false⟩,
          ⟨1, ⟨(some 16), none, .lfld 3 0 (.t 3)⟩, [], false⟩,
          ⟨2, ⟨(some 17), none, .lld 3 1 false (.t 16)⟩, [], false⟩,
          ⟨3, ⟨(some 18), none, .nilck (.t 15)⟩, [], false⟩,
          ⟨4, ⟨(some 19), none, .fld 5 (.t 18)⟩, [], false⟩,
          ⟨5, ⟨(some 20), none, .ixa (some 2) 1 (.t 19) (.t 17)⟩, [], false⟩,
          ⟨6, ⟨(some 21), none, .ld 1 false (.t 20)⟩, [], false⟩,
          ⟨7, ⟨(some 22), none, .lfld 3 1 (.t 3)⟩, [], false⟩,
          ⟨8, ⟨(some 23), none, .lld 3 1 false (.t 22)⟩, [], false⟩,
          ⟨9, ⟨none, none, .del (.word .int) (.t 21) (.t 23)⟩, [], false⟩])
        (.seq (.region 0 [] [⟨(some 24), none, .lfld 3 7 (.t 3)⟩,
          ⟨(some 25), none, .lld 3 1 false (.t 24)⟩])
        (.cond (.t 25)
          (.drawn 0 [] [⟨0, ⟨(some 26), none, .ld 1 false (.t 1)⟩, [], false⟩,
            ⟨1, ⟨(some 27), none, .lfld 3 0 (.t 3)⟩, [], false⟩,
            ⟨2, ⟨(some 28), none, .lld 3 1 false (.t 27)⟩, [], false⟩,
            ⟨3, ⟨(some 29), none, .nilck (.t 26)⟩, [], false⟩,
            ⟨4, ⟨(some 30), none, .fld 5 (.t 29)⟩, [], false⟩,
            ⟨5, ⟨(some 31), none, .ixa (some 2) 1 (.t 30) (.t 28)⟩, [], false⟩,
            ⟨6, ⟨(some 32), none, .ld 1 false (.t 31)⟩, [], false⟩,
            ⟨7, ⟨(some 33), none, .lfld 3 1 (.t 3)⟩, [], false⟩,
            ⟨8, ⟨(some 34), none, .lld 3 1 false (.t 33)⟩, [], false⟩,
            ⟨9, ⟨(some 35), none, .lfld 3 2 (.t 3)⟩, [], false⟩,
            ⟨10, ⟨(some 36), none, .lld 3 5 true (.t 35)⟩, [], false⟩,
            ⟨11, ⟨none, none, .mset (.word .int) (.t 32) (.t 34) (.t 36)⟩, [], false⟩])
          .skip)))))
      (.region 0 [] [⟨(some 9), none, .mv (.t 2)⟩,
        ⟨(some 10), none, .bin .sub (.t 9) (.c (.int .i64 1))⟩,
        ⟨(some 2), none, .mv (.t 10)⟩]))))))⟩

/- (*chiasmus/core.renamer).branch$1 -/
def f124 : AFunc := ⟨2, 7, [.tmp 3], true,
  (.seq (.region 0 [] [⟨(some 3), none, .mv (.c (.bool false))⟩])
  (.seq (.region 0 [] [⟨(some 4), none, .ld 7 true (.t 1)⟩,
    ⟨(some 5), none, .mv (.t 0)⟩,
    ⟨(some 6), none, .call 118 [(.t 4), (.t 5)]⟩,
    ⟨(some 3), none, .mv (.t 6)⟩])
  .ret))⟩

/- (*chiasmus/focus.focuser).xtor$1 -/
def f125 : AFunc := ⟨3, 11, [.lcell 4 4 5 true], true,
  (.seq (.region 0 [] [⟨(some 4), none, .lalloc [(.int .i64 0), (.int .i64 0), (.int .i64 0), (.slice [] .nil), (.slice [] .nil)] []⟩])
  (.seq (.region 1 [] [⟨(some 5), none, .mv (.t 0)⟩,
    ⟨(some 6), none, .app 0 5 72 (.c (.slice [] .nil)) (.t 5)⟩,
    ⟨(some 7), none, .fld 3 (.t 1)⟩,
    ⟨none, none, .st 1 (.t 7) (.t 6)⟩])
  (.seq (.region 0 [] [⟨(some 8), none, .ld 1 false (.t 2)⟩,
    ⟨(some 9), none, .ld 5 true (.t 1)⟩,
    ⟨(some 10), none, .callv (.t 8) [(.t 9)]⟩,
    ⟨none, none, .lst 4 5 (.t 4) (.t 10)⟩])
  .ret)))⟩

/- (chiasmus/mach.integer).node -/
def f143 : AFunc := ⟨1, 5, [.lcell 2 2 5 true], true,
  (.seq (.region 0 [] [⟨(some 2), none, .lalloc [(.int .i64 0), (.int .i64 0), (.int .i64 0), (.slice [] .nil), (.slice [] .nil)] []⟩])
  (.seq (.region 0 [] [⟨(some 3), none, .mv (.t 0)⟩,
    ⟨(some 4), none, .build [(.int .i64 0), (.int .i64 0), (.int .i64 0), (.slice [] .nil), (.slice [] .nil)] [(0, 1, (.c (.int .i64 1))), (1, 1, (.t 3))]⟩,
    ⟨none, none, .lst 2 5 (.t 2) (.t 4)⟩])
  .ret))⟩

/- (chiasmus/mach.closure).node -/
def f144 : AFunc := ⟨1, 5, [.lcell 2 2 5 true], true,
  (.seq (.region 0 [] [⟨(some 1), none, .lbox (.t 0) [3]⟩,
    ⟨(some 2), none, .lalloc [(.int .i64 0), (.int .i64 0), (.int .i64 0), (.slice [] .nil), (.slice [] .nil)] []⟩])
  (.seq (.region 0 [] [⟨(some 3), none, .lfld 1 0 (.t 1)⟩,
    ⟨(some 4), none, .lld 1 5 true (.t 3)⟩,
    ⟨none, none, .lst 2 5 (.t 2) (.t 4)⟩])
  .ret))⟩

/- (chiasmus/mach.built).node -/
def f145 : AFunc := ⟨1, 5, [.lcell 2 2 5 true], true,
  (.seq (.region 0 [] [⟨(some 1), none, .lbox (.t 0) [3]⟩,
    ⟨(some 2), none, .lalloc [(.int .i64 0), (.int .i64 0), (.int .i64 0), (.slice [] .nil), (.slice [] .nil)] []⟩])
  (.seq (.region 0 [] [⟨(some 3), none, .lfld 1 0 (.t 1)⟩,
    ⟨(some 4), none, .lld 1 5 true (.t 3)⟩,
    ⟨none, none, .lst 2 5 (.t 2) (.t 4)⟩])
  .ret))⟩

/- (chiasmus/mach.consumer).is -/
def f146 : AFunc := ⟨3, 19, [.tmp 6, .tmp 7], true,
  (.seq (.region 0 [] [⟨(some 3), none, .lbox (.t 0) [14, 13, 9, 8]⟩,
    ⟨(some 6), none, .mv (.c .niliface)⟩,
    ⟨(some 7), none, .mv (.c (.bool false))⟩])
  (.seq (.drawn 0 [] [⟨0, ⟨(some 8), none, .lfld 3 0 (.t 3)⟩, [], false⟩,
    ⟨1, ⟨(some 9), none, .lfld 3 1 (.t 8)⟩, [], false⟩,
    ⟨2, ⟨(some 10), none, .lld 3 1 false (.t 9)⟩, [], false⟩,
    ⟨3, ⟨(some 11), none, .mv (.t 2)⟩, [], false⟩,
    ⟨4, ⟨(some 12), none, .mv (.t 11)⟩, [], false⟩,
    ⟨5, ⟨(some 13), (some (12, true)), .lfld 3 0 (.t 3)⟩, [], false⟩,
    ⟨6, ⟨(some 14), (some (12, true)), .lfld 3 0 (.t 13)⟩, [], false⟩,
    ⟨7, ⟨(some 15), (some (12, true)), .lld 3 1 false (.t 14)⟩, [], false⟩,
    ⟨8, ⟨(some 16), (some (12, true)), .mv (.t 1)⟩, [], false⟩,
    ⟨9, ⟨(some 17), (some (12, true)), .bin .eql (.t 15) (.t 16)⟩, [], false⟩,
    ⟨10, ⟨(some 18), none, .pick (.t 12) (.t 17) (.c (.bool false))⟩, [], false⟩,
    ⟨11, ⟨(some 6), none, .mv (.t 10)⟩, [], false⟩,
    ⟨12, ⟨(some 7), none, .mv (.t 18)⟩, [], false⟩])
  .ret))⟩

/- (chiasmus/mach.producer).is -/
def f147 : AFunc := ⟨3, 20, [.tmp 6, .tmp 7], true,
  (.seq (.region 0 [] [⟨(some 3), none, .lbox (.t 0) [15, 14, 9, 8]⟩,
    ⟨(some 6), none, .mv (.c .niliface)⟩,
    ⟨(some 7), none, .mv (.c (.bool false))⟩])
  (.seq (.drawn 0 [] [⟨0, ⟨(some 8), none, .lfld 3 0 (.t 3)⟩, [], false⟩,
    ⟨1, ⟨(some 9), none, .lfld 3 1 (.t 8)⟩, [], false⟩,
    ⟨2, ⟨(some 10), none, .lld 3 1 false (.t 9)⟩, [], false⟩,
    ⟨3, ⟨(some 11), none, .mv (.t 2)⟩, [], false⟩,
    ⟨4, ⟨(some 12), none, .un .not (.t 11)⟩, [], false⟩,
    ⟨5, ⟨(some 13), none, .mv (.t 12)⟩, [], false⟩,
    ⟨6, ⟨(some 14), (some (13, true)), .lfld 3 0 (.t 3)⟩, [], false⟩,
    ⟨7, ⟨(some 15), (some (13, true)), .lfld 3 0 (.t 14)⟩, [], false⟩,
    ⟨8, ⟨(some 16), (some (13, true)), .lld 3 1 false (.t 15)⟩, [], false⟩,
    ⟨9, ⟨(some 17), (some (13, true)), .mv (.t 1)⟩, [], false⟩,
    ⟨10, ⟨(some 18), (some (13, true)), .bin .eql (.t 16) (.t 17)⟩, [], false⟩,
    ⟨11, ⟨(some 19), none, .pick (.t 13) (.t 18) (.c (.bool false))⟩, [], false⟩,
    ⟨12, ⟨(some 6), none, .mv (.t 10)⟩, [], false⟩,
    ⟨13, ⟨(some 7), none, .mv (.t 19)⟩, [], false⟩])
  .ret))⟩

def fList : List (Nat × AFunc) := [(3, f3), (4, f4), (5, f5), (6, f6), (7, f7), (8, f8), (9, f9), (10, f10), (11, f11), (13, f13), (14, f14), (15, f15), (16, f16), (17, f17), (18, f18), (19, f19), (20, f20), (21, f21), (22, f22), (23, f23), (24, f24), (25, f25), (26, f26), (27, f27), (28, f28), (29, f29), (30, f30), (31, f31), (32, f32), (33, f33), (34, f34), (35, f35), (36, f36), (37, f37), (38, f38), (39, f39), (40, f40), (41, f41), (42, f42), (43, f43), (44, f44), (45, f45), (46, f46), (47, f47), (48, f48), (49, f49), (50, f50), (51, f51), (52, f52), (53, f53), (54, f54), (55, f55), (56, f56), (57, f57), (58, f58), (59, f59), (60, f60), (61, f61), (62, f62), (64, f64), (65, f65), (66, f66), (67, f67), (68, f68), (69, f69), (70, f70), (71, f71), (72, f72), (73, f73), (74, f74), (75, f75), (76, f76), (77, f77), (78, f78), (79, f79), (80, f80), (81, f81), (82, f82), (83, f83), (84, f84), (85, f85), (86, f86), (88, f88), (89, f89), (90, f90), (91, f91), (92, f92), (93, f93), (94, f94), (95, f95), (96, f96), (97, f97), (98, f98), (99, f99), (100, f100), (102, f102), (103, f103), (104, f104), (105, f105), (106, f106), (107, f107), (108, f108), (109, f109), (110, f110), (111, f111), (112, f112), (113, f113), (118, f118), (119, f119), (120, f120), (121, f121), (122, f122), (123, f123), (124, f124), (125, f125), (143, f143), (144, f144), (145, f145), (146, f146), (147, f147)]

end Go.Ago.Nil
