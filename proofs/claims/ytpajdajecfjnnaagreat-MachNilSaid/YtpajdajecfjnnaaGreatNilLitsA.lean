/- The functions that chiasmus/chiasmuslaw13.MachNil reaches, as the evaluator's code; printed by a program. Conditions: none. -/
import Derived.Test.YtpajdajecfjnnaaGreatAgoD
set_option autoImplicit false
namespace Go.Ago.Nil
open Go Go.Ago

/- chiasmus/chiasmuslaw13.MachNil -/
def f3 : AFunc := ⟨0, 44, [.tmp 0], true,
  (.seq (.region 0 [] [⟨(some 0), none, .mv (.c (.bool false))⟩])
  (.seq (.region 0 [] [⟨(some 1), none, .mv (.c .nilptr)⟩])
  (.seq (.region 0 [] [⟨(some 7), none, .mv (.t 1)⟩,
    ⟨(some 8), none, .call 4 [(.t 7)]⟩,
    ⟨(some 6), none, .mv (.t 8)⟩,
    ⟨(some 9), none, .ext (.t 6) 0⟩,
    ⟨(some 10), none, .ext (.t 6) 1⟩,
    ⟨(some 2), none, .lalloc [(.int .i64 0), (.int .i64 0), (.slice [] .nil), (.int .i64 0)] []⟩,
    ⟨none, none, .lst 2 4 (.t 2) (.t 9)⟩,
    ⟨(some 3), none, .mv (.t 10)⟩])
  (.seq (.region 0 [] [⟨(some 12), none, .mv (.t 1)⟩,
    ⟨(some 13), none, .call 5 [(.t 12)]⟩,
    ⟨(some 11), none, .mv (.t 13)⟩,
    ⟨(some 14), none, .ext (.t 11) 0⟩,
    ⟨(some 15), none, .ext (.t 11) 1⟩,
    ⟨(some 4), none, .lalloc [(.int .i64 0), (.int .i64 0), (.int .i64 0), (.slice [] .nil), (.slice [] .nil)] []⟩,
    ⟨none, none, .lst 4 5 (.t 4) (.t 14)⟩,
    ⟨(some 5), none, .mv (.t 15)⟩])
  (.seq (.region 0 [] [⟨(some 16), none, .mv (.t 1)⟩,
    ⟨(some 17), none, .call 6 [(.t 16)]⟩,
    ⟨(some 18), none, .un .not (.t 17)⟩,
    ⟨(some 19), none, .mv (.t 18)⟩,
    ⟨(some 20), (some (19, true)), .lld 2 4 true (.t 2)⟩,
    ⟨(some 21), (some (19, true)), .build [(.int .i64 0), (.int .i64 0), (.slice [] .nil), (.int .i64 0)] []⟩,
    ⟨(some 22), (some (19, true)), .call 7 [(.t 20), (.t 21)]⟩,
    ⟨(some 23), none, .pick (.t 19) (.t 22) (.c (.bool false))⟩,
    ⟨(some 24), none, .mv (.t 23)⟩,
    ⟨(some 25), (some (24, true)), .mv (.t 3)⟩,
    ⟨(some 26), (some (24, true)), .un .not (.t 25)⟩,
    ⟨(some 27), none, .pick (.t 24) (.t 26) (.c (.bool false))⟩,
    ⟨(some 28), none, .mv (.t 27)⟩,
    ⟨(some 29), (some (28, true)), .mv (.t 5)⟩,
    ⟨(some 30), (some (28, true)), .bin .eql (.t 29) (.c (.int .i64 3))⟩,
    ⟨(some 31), none, .pick (.t 28) (.t 30) (.c (.bool false))⟩,
    ⟨(some 32), none, .mv (.t 31)⟩,
    ⟨(some 33), (some (32, true)), .lld 4 5 true (.t 4)⟩,
    ⟨(some 34), (some (32, true)), .call 8 [(.t 33), (.c (.int .i64 1))]⟩,
    ⟨(some 35), none, .pick (.t 32) (.t 34) (.c (.bool false))⟩,
    ⟨(some 36), none, .mv (.t 35)⟩,
    ⟨(some 37), (some (36, true)), .mv (.t 1)⟩,
    ⟨(some 38), (some (36, true)), .call 9 [(.t 37)]⟩,
    ⟨(some 39), (some (36, true)), .eqv false .ptr (.t 38) (.c .nilptr)⟩,
    ⟨(some 40), none, .pick (.t 36) (.t 39) (.c (.bool false))⟩,
    ⟨(some 41), none, .mv (.t 40)⟩,
    ⟨(some 42), (some (41, true)), .call 10 []⟩,
    ⟨(some 43), none, .pick (.t 41) (.t 42) (.c (.bool false))⟩,
    ⟨(some 0), none, .mv (.t 43)⟩])
  .ret)))))⟩

/- (*chiasmus/mach.Machine).Run -/
def f4 : AFunc := ⟨1, 27, [.lcell 2 2 4 true, .tmp 3], true,
  (.seq (.region 0 [] [⟨(some 2), none, .lalloc [(.int .i64 0), (.int .i64 0), (.slice [] .nil), (.int .i64 0)] []⟩,
    ⟨(some 3), none, .mv (.c (.bool false))⟩])
  (.seq (.seq (.region 0 [] [⟨(some 5), none, .mv (.t 0)⟩,
    ⟨(some 6), none, .eqv false .ptr (.t 5) (.c .nilptr)⟩])
  (.cond (.t 6)
    (.seq (.region 0 [] [⟨(some 7), none, .build [(.int .i64 0), (.int .i64 0), (.slice [] .nil), (.int .i64 0)] []⟩,
      ⟨none, none, .lst 2 4 (.t 2) (.t 7)⟩,
      ⟨(some 3), none, .mv (.c (.bool false))⟩])
    .ret)
    .skip))
  (.seq (.region 0 [] [⟨(some 8), none, .mv (.t 0)⟩,
    ⟨(some 9), none, .nilck (.t 8)⟩,
    ⟨(some 10), none, .fld 9 (.t 9)⟩,
    ⟨(some 11), none, .ld 4 true (.t 10)⟩,
    ⟨(some 4), none, .lalloc [(.int .i64 0), (.int .i64 0), (.slice [] .nil), (.int .i64 0)] [21, 15, 12]⟩,
    ⟨none, none, .lst 4 4 (.t 4) (.t 11)⟩])
  (.seq (.region 0 [] [⟨(some 12), none, .lfld 4 2 (.t 4)⟩,
    ⟨(some 13), none, .lld 4 1 false (.t 12)⟩,
    ⟨(some 14), none, .call 11 [(.t 13)]⟩,
    ⟨(some 15), none, .lfld 4 2 (.t 4)⟩,
    ⟨none, none, .lst 4 1 (.t 15) (.t 14)⟩])
  (.seq (.seq (.region 0 [] [⟨(some 16), none, .mv (.t 0)⟩,
    ⟨(some 17), none, .nilck (.t 16)⟩,
    ⟨(some 18), none, .fld 13 (.t 17)⟩,
    ⟨(some 19), none, .ld 1 false (.t 18)⟩,
    ⟨(some 20), none, .un .not (.t 19)⟩])
  (.cond (.t 20)
    (.region 0 [] [⟨(some 21), none, .lfld 4 0 (.t 4)⟩,
      ⟨none, none, .lst 4 1 (.t 21) (.c (.int .i64 1))⟩])
    .skip))
  (.seq (.drawn 0 [] [⟨0, ⟨(some 22), none, .lld 4 4 true (.t 4)⟩, [], false⟩,
    ⟨1, ⟨(some 23), none, .mv (.t 0)⟩, [], false⟩,
    ⟨2, ⟨(some 24), none, .nilck (.t 23)⟩, [], false⟩,
    ⟨3, ⟨(some 25), none, .fld 13 (.t 24)⟩, [], false⟩,
    ⟨4, ⟨(some 26), none, .ld 1 false (.t 25)⟩, [], false⟩,
    ⟨5, ⟨none, none, .lst 2 4 (.t 2) (.t 22)⟩, [], false⟩,
    ⟨6, ⟨(some 3), none, .mv (.t 26)⟩, [], false⟩])
  .ret))))))⟩

/- (*chiasmus/mach.Machine).Read -/
def f5 : AFunc := ⟨1, 19, [.cell 2 5 true, .cell 3 1 false], true,
  (.seq (.region 2 [(0, (.cells [(.int .i64 0), (.int .i64 0), (.int .i64 0), (.slice [] .nil), (.slice [] .nil)])), (1, (.cells [(.int .i64 0)]))] [⟨(some 2), none, .alloc 0 [(.int .i64 0), (.int .i64 0), (.int .i64 0), (.slice [] .nil), (.slice [] .nil)]⟩,
    ⟨(some 3), none, .alloc 1 [(.int .i64 0)]⟩])
  (.seq (.seq (.region 0 [] [⟨(some 5), none, .mv (.t 0)⟩,
    ⟨(some 6), none, .eqv false .ptr (.t 5) (.c .nilptr)⟩])
  (.cond (.t 6)
    (.seq (.region 0 [] [⟨(some 7), none, .build [(.int .i64 0), (.int .i64 0), (.int .i64 0), (.slice [] .nil), (.slice [] .nil)] []⟩,
      ⟨none, none, .st 5 (.t 2) (.t 7)⟩,
      ⟨none, none, .st 1 (.t 3) (.c (.int .i64 3))⟩])
    .ret)
    .skip))
  (.seq (.region 0 [] [⟨(some 8), none, .mkfn 12 [] [(.t 2), (.t 3)]⟩,
    ⟨none, none, .dfr (.t 8) []⟩])
  (.seq (.region 1 [(0, (.cells [(.int .i64 0), (.int .i64 0)]))] [⟨(some 9), none, .build [(.int .i64 0), (.int .i64 0)] []⟩,
    ⟨(some 4), none, .alloc 0 [(.int .i64 0), (.int .i64 0)]⟩,
    ⟨none, none, .st 2 (.t 4) (.t 9)⟩])
  (.seq (.drawn 0 [] [⟨0, ⟨(some 10), none, .mv (.t 0)⟩, [], false⟩,
    ⟨1, ⟨(some 11), none, .nilck (.t 10)⟩, [], false⟩,
    ⟨2, ⟨(some 12), none, .fld 3 (.t 11)⟩, [], false⟩,
    ⟨3, ⟨(some 13), none, .ld 5 true (.t 12)⟩, [], false⟩,
    ⟨4, ⟨(some 14), none, .mv (.t 0)⟩, [], false⟩,
    ⟨5, ⟨(some 15), none, .nilck (.t 14)⟩, [], false⟩,
    ⟨6, ⟨(some 16), none, .fld 8 (.t 15)⟩, [], false⟩,
    ⟨7, ⟨(some 17), none, .ld 1 false (.t 16)⟩, [], false⟩,
    ⟨8, ⟨(some 18), none, .call 13 [(.t 4), (.t 13), (.t 17), (.c .nilptr)]⟩, [], false⟩,
    ⟨9, ⟨none, none, .st 5 (.t 2) (.t 18)⟩, [], false⟩,
    ⟨10, ⟨none, none, .st 1 (.t 3) (.c (.int .i64 0))⟩, [], false⟩])
  .ret)))))⟩

/- (*chiasmus/mach.Machine).Step -/
def f6 : AFunc := ⟨1, 47, [.tmp 2], true,
  (.seq (.region 0 [] [⟨(some 2), none, .mv (.c (.bool false))⟩])
  (.seq (.seq (.region 0 [] [⟨(some 3), none, .mv (.t 0)⟩,
    ⟨(some 4), none, .eqv false .ptr (.t 3) (.c .nilptr)⟩,
    ⟨(some 5), none, .mv (.t 4)⟩,
    ⟨(some 6), (some (5, false)), .mv (.t 0)⟩,
    ⟨(some 7), (some (5, false)), .nilck (.t 6)⟩,
    ⟨(some 8), (some (5, false)), .fld 13 (.t 7)⟩,
    ⟨(some 9), (some (5, false)), .ld 1 false (.t 8)⟩,
    ⟨(some 10), none, .pick (.t 5) (.c (.bool true)) (.t 9)⟩])
  (.cond (.t 10)
    (.seq (.region 0 [] [⟨(some 2), none, .mv (.c (.bool false))⟩])
    .ret)
    .skip))
  (.seq (.seq (.drawn 0 [] [⟨0, ⟨(some 11), none, .mv (.t 0)⟩, [], false⟩,
    ⟨1, ⟨(some 12), none, .nilck (.t 11)⟩, [], false⟩,
    ⟨2, ⟨(some 13), none, .fld 9 (.t 12)⟩, [], false⟩,
    ⟨3, ⟨(some 14), none, .fld 3 (.t 13)⟩, [], false⟩,
    ⟨4, ⟨(some 15), none, .ld 1 false (.t 14)⟩, [], false⟩,
    ⟨5, ⟨(some 16), none, .mv (.t 0)⟩, [], false⟩,
    ⟨6, ⟨(some 17), none, .nilck (.t 16)⟩, [], false⟩,
    ⟨7, ⟨(some 18), none, .fld 2 (.t 17)⟩, [], false⟩,
    ⟨8, ⟨(some 19), none, .ld 1 false (.t 18)⟩, [], false⟩,
    ⟨9, ⟨(some 20), none, .bin .eql (.t 15) (.t 19)⟩, [], false⟩])
  (.cond (.t 20)
    (.seq (.region 0 [] [⟨(some 21), none, .mv (.t 0)⟩,
      ⟨(some 22), none, .mv (.t 0)⟩,
      ⟨(some 23), none, .nilck (.t 21)⟩,
      ⟨(some 24), none, .fld 9 (.t 23)⟩,
      ⟨(some 25), none, .fld 0 (.t 24)⟩,
      ⟨none, none, .st 1 (.t 25) (.c (.int .i64 1))⟩,
      ⟨(some 26), none, .nilck (.t 22)⟩,
      ⟨(some 27), none, .fld 13 (.t 26)⟩,
      ⟨none, none, .st 1 (.t 27) (.c (.bool true))⟩])
    (.seq (.region 0 [] [⟨(some 2), none, .mv (.c (.bool false))⟩])
    .ret))
    .skip))
  (.seq (.seq (.region 0 [] [⟨(some 28), none, .mv (.t 0)⟩,
    ⟨(some 29), none, .call 14 [(.t 28)]⟩,
    ⟨(some 30), none, .un .not (.t 29)⟩])
  (.cond (.t 30)
    (.seq (.region 0 [] [⟨(some 31), none, .mv (.t 0)⟩,
      ⟨(some 32), none, .mv (.t 0)⟩,
      ⟨(some 33), none, .nilck (.t 31)⟩,
      ⟨(some 34), none, .fld 9 (.t 33)⟩,
      ⟨(some 35), none, .fld 0 (.t 34)⟩,
      ⟨none, none, .st 1 (.t 35) (.c (.int .i64 2))⟩,
      ⟨(some 36), none, .nilck (.t 32)⟩,
      ⟨(some 37), none, .fld 13 (.t 36)⟩,
      ⟨none, none, .st 1 (.t 37) (.c (.bool true))⟩])
    (.seq (.region 0 [] [⟨(some 2), none, .mv (.c (.bool false))⟩])
    .ret))
    .skip))
  (.seq (.region 0 [] [⟨(some 38), none, .mv (.t 0)⟩,
    ⟨(some 39), none, .nilck (.t 38)⟩,
    ⟨(some 40), none, .fld 9 (.t 39)⟩,
    ⟨(some 41), none, .fld 3 (.t 40)⟩,
    ⟨(some 42), none, .ld 1 false (.t 41)⟩,
    ⟨(some 43), none, .bin .add (.t 42) (.c (.int .i64 1))⟩,
    ⟨(some 44), none, .nilck (.t 38)⟩,
    ⟨(some 45), none, .fld 9 (.t 44)⟩,
    ⟨(some 46), none, .fld 3 (.t 45)⟩,
    ⟨none, none, .st 1 (.t 46) (.t 43)⟩])
  (.seq (.region 0 [] [⟨(some 2), none, .mv (.c (.bool true))⟩])
  .ret))))))⟩

/- chiasmus/chiasmusref05.Same -/
def f7 : AFunc := ⟨2, 31, [.tmp 4], true,
  (.seq (.region 0 [] [⟨(some 2), none, .lbox (.t 0) [25, 18, 11, 5]⟩,
    ⟨(some 3), none, .lbox (.t 1) [27, 20, 13, 7]⟩,
    ⟨(some 4), none, .mv (.c (.bool false))⟩])
  (.seq (.region 0 [] [⟨(some 5), none, .lfld 2 0 (.t 2)⟩,
    ⟨(some 6), none, .lld 2 1 false (.t 5)⟩,
    ⟨(some 7), none, .lfld 3 0 (.t 3)⟩,
    ⟨(some 8), none, .lld 3 1 false (.t 7)⟩,
    ⟨(some 9), none, .bin .eql (.t 6) (.t 8)⟩,
    ⟨(some 10), none, .mv (.t 9)⟩,
    ⟨(some 11), (some (10, true)), .lfld 2 1 (.t 2)⟩,
    ⟨(some 12), (some (10, true)), .lld 2 1 false (.t 11)⟩,
    ⟨(some 13), (some (10, true)), .lfld 3 1 (.t 3)⟩,
    ⟨(some 14), (some (10, true)), .lld 3 1 false (.t 13)⟩,
    ⟨(some 15), (some (10, true)), .bin .eql (.t 12) (.t 14)⟩,
    ⟨(some 16), none, .pick (.t 10) (.t 15) (.c (.bool false))⟩,
    ⟨(some 17), none, .mv (.t 16)⟩,
    ⟨(some 18), (some (17, true)), .lfld 2 3 (.t 2)⟩,
    ⟨(some 19), (some (17, true)), .lld 2 1 false (.t 18)⟩,
    ⟨(some 20), (some (17, true)), .lfld 3 3 (.t 3)⟩,
    ⟨(some 21), (some (17, true)), .lld 3 1 false (.t 20)⟩,
    ⟨(some 22), (some (17, true)), .bin .eql (.t 19) (.t 21)⟩,
    ⟨(some 23), none, .pick (.t 17) (.t 22) (.c (.bool false))⟩,
    ⟨(some 24), none, .mv (.t 23)⟩,
    ⟨(some 25), (some (24, true)), .lfld 2 2 (.t 2)⟩,
    ⟨(some 26), (some (24, true)), .lld 2 1 false (.t 25)⟩,
    ⟨(some 27), (some (24, true)), .lfld 3 2 (.t 3)⟩,
    ⟨(some 28), (some (24, true)), .lld 3 1 false (.t 27)⟩,
    ⟨(some 29), (some (24, true)), .call 15 [(.t 26), (.t 28)]⟩,
    ⟨(some 30), none, .pick (.t 24) (.t 29) (.c (.bool false))⟩,
    ⟨(some 4), none, .mv (.t 30)⟩])
  .ret))⟩

/- chiasmus/chiasmusref06.Fits -/
def f8 : AFunc := ⟨2, 10, [.tmp 4], true,
  (.seq (.region 0 [] [⟨(some 2), none, .lbox (.t 0) []⟩,
    ⟨(some 4), none, .mv (.c (.bool false))⟩])
  (.seq (.region 0 [] [⟨(some 5), none, .lld 2 5 true (.t 2)⟩,
    ⟨(some 6), none, .mv (.t 1)⟩,
    ⟨(some 7), none, .bin .add (.t 6) (.c (.int .i64 1))⟩,
    ⟨(some 8), none, .call 16 [(.t 5), (.t 7)]⟩,
    ⟨(some 9), none, .bin .gtr (.t 8) (.c (.int .i64 0))⟩,
    ⟨(some 4), none, .mv (.t 9)⟩])
  .ret))⟩

/- (*chiasmus/mach.Machine).Fork -/
def f9 : AFunc := ⟨1, 17, [.tmp 2], true,
  (.seq (.region 0 [] [⟨(some 2), none, .mv (.c .nilptr)⟩])
  (.seq (.seq (.region 0 [] [⟨(some 4), none, .mv (.t 0)⟩,
    ⟨(some 5), none, .eqv false .ptr (.t 4) (.c .nilptr)⟩])
  (.cond (.t 5)
    (.seq (.region 0 [] [⟨(some 2), none, .mv (.c .nilptr)⟩])
    .ret)
    .skip))
  (.seq (.region 1 [(0, (.cells [(.slice [] .nil), (.slice [] .nil), (.int .i64 0), (.int .i64 0), (.int .i64 0), (.int .i64 0), (.slice [] .nil), (.slice [] .nil), .nilptr, (.int .i64 0), (.int .i64 0), (.slice [] .nil), (.int .i64 0), (.bool false)]))] [⟨(some 6), none, .mv (.t 0)⟩,
    ⟨(some 7), none, .nilck (.t 6)⟩,
    ⟨(some 8), none, .ld 14 true (.t 7)⟩,
    ⟨(some 3), none, .alloc 0 [(.slice [] .nil), (.slice [] .nil), (.int .i64 0), (.int .i64 0), (.int .i64 0), (.int .i64 0), (.slice [] .nil), (.slice [] .nil), .nilptr, (.int .i64 0), (.int .i64 0), (.slice [] .nil), (.int .i64 0), (.bool false)]⟩,
    ⟨none, none, .st 14 (.t 3) (.t 8)⟩])
  (.seq (.region 0 [] [⟨(some 9), none, .mv (.t 0)⟩,
    ⟨(some 10), none, .nilck (.t 9)⟩,
    ⟨(some 11), none, .fld 9 (.t 10)⟩,
    ⟨(some 12), none, .fld 2 (.t 11)⟩,
    ⟨(some 13), none, .ld 1 false (.t 12)⟩,
    ⟨(some 14), none, .call 11 [(.t 13)]⟩,
    ⟨(some 15), none, .fld 9 (.t 3)⟩,
    ⟨(some 16), none, .fld 2 (.t 15)⟩,
    ⟨none, none, .st 1 (.t 16) (.t 14)⟩])
  (.seq (.region 0 [] [⟨(some 2), none, .mv (.t 3)⟩])
  .ret)))))⟩

/- chiasmus/chiasmuslaw13.awake -/
def f10 : AFunc := ⟨0, 77, [.tmp 0], true,
  (.seq (.region 0 [] [⟨(some 0), none, .mv (.c (.bool false))⟩])
  (.seq (.region 0 [] [⟨(some 13), none, .call 18 []⟩,
    ⟨(some 14), none, .bslice 1 1 (.int .i64 0) [(0, (.c (.int .i64 4)))]⟩,
    ⟨(some 15), none, .call 17 [(.t 13), (.c (.int .i64 100)), (.t 14)]⟩,
    ⟨(some 12), none, .mv (.t 15)⟩,
    ⟨(some 16), none, .ext (.t 12) 0⟩,
    ⟨(some 17), none, .ext (.t 12) 1⟩,
    ⟨(some 1), none, .lalloc [(.int .i64 0), (.int .i64 0), (.slice [] .nil), (.int .i64 0)] []⟩,
    ⟨none, none, .lst 1 4 (.t 1) (.t 16)⟩,
    ⟨(some 2), none, .mv (.t 17)⟩])
  (.seq (.region 0 [] [⟨(some 19), none, .call 18 []⟩,
    ⟨(some 20), none, .bslice 1 1 (.int .i64 0) [(0, (.c (.int .i64 4)))]⟩,
    ⟨(some 21), none, .call 19 [(.t 19), (.c (.int .i64 100)), (.t 20)]⟩,
    ⟨(some 18), none, .mv (.t 21)⟩,
    ⟨(some 22), none, .ext (.t 18) 0⟩,
    ⟨(some 23), none, .ext (.t 18) 1⟩,
    ⟨(some 3), none, .mv (.t 22)⟩,
    ⟨(some 4), none, .mv (.t 23)⟩])
  (.seq (.region 0 [] [⟨(some 24), none, .mv (.t 3)⟩,
    ⟨(some 25), none, .call 6 [(.t 24)]⟩,
    ⟨(some 5), none, .mv (.t 25)⟩])
  (.seq (.region 0 [] [⟨(some 27), none, .mv (.t 3)⟩,
    ⟨(some 28), none, .call 5 [(.t 27)]⟩,
    ⟨(some 26), none, .mv (.t 28)⟩,
    ⟨(some 29), none, .ext (.t 26) 0⟩,
    ⟨(some 30), none, .ext (.t 26) 1⟩,
    ⟨(some 6), none, .lalloc [(.int .i64 0), (.int .i64 0), (.int .i64 0), (.slice [] .nil), (.slice [] .nil)] [60]⟩,
    ⟨none, none, .lst 6 5 (.t 6) (.t 29)⟩,
    ⟨(some 7), none, .mv (.t 30)⟩])
  (.seq (.region 0 [] [⟨(some 32), none, .mv (.t 3)⟩,
    ⟨(some 33), none, .call 4 [(.t 32)]⟩,
    ⟨(some 31), none, .mv (.t 33)⟩,
    ⟨(some 34), none, .ext (.t 31) 0⟩,
    ⟨(some 35), none, .ext (.t 31) 1⟩,
    ⟨(some 8), none, .lalloc [(.int .i64 0), (.int .i64 0), (.slice [] .nil), (.int .i64 0)] [69]⟩,
    ⟨none, none, .lst 8 4 (.t 8) (.t 34)⟩,
    ⟨(some 9), none, .mv (.t 35)⟩])
  (.seq (.region 0 [] [⟨(some 37), none, .build [(.slice [] .nil), (.slice [] .nil)] []⟩,
    ⟨(some 38), none, .call 17 [(.t 37), (.c (.int .i64 0)), (.c (.slice [] .nil))]⟩,
    ⟨(some 36), none, .mv (.t 38)⟩,
    ⟨(some 39), none, .ext (.t 36) 0⟩,
    ⟨(some 40), none, .ext (.t 36) 1⟩,
    ⟨(some 10), none, .lalloc [(.int .i64 0), (.int .i64 0), (.slice [] .nil), (.int .i64 0)] []⟩,
    ⟨none, none, .lst 10 4 (.t 10) (.t 39)⟩,
    ⟨(some 11), none, .mv (.t 40)⟩])
  (.seq (.region 0 [] [⟨(some 41), none, .mv (.t 2)⟩,
    ⟨(some 42), none, .bin .eql (.t 41) (.c (.int .i64 0))⟩,
    ⟨(some 43), none, .mv (.t 42)⟩,
    ⟨(some 44), (some (43, true)), .lld 1 4 true (.t 1)⟩,
    ⟨(some 45), (some (43, true)), .build [(.int .i64 0), (.int .i64 0), (.slice [] .nil), (.int .i64 0)] [(0, 1, (.c (.int .i64 0))), (1, 1, (.c (.int .i64 5))), (3, 1, (.c (.int .i64 4)))]⟩,
    ⟨(some 46), (some (43, true)), .call 7 [(.t 44), (.t 45)]⟩,
    ⟨(some 47), none, .pick (.t 43) (.t 46) (.c (.bool false))⟩,
    ⟨(some 48), none, .mv (.t 47)⟩,
    ⟨(some 49), (some (48, true)), .mv (.t 4)⟩,
    ⟨(some 50), (some (48, true)), .bin .eql (.t 49) (.c (.int .i64 0))⟩,
    ⟨(some 51), none, .pick (.t 48) (.t 50) (.c (.bool false))⟩,
    ⟨(some 52), none, .mv (.t 51)⟩,
    ⟨(some 53), (some (52, true)), .mv (.t 5)⟩,
    ⟨(some 54), none, .pick (.t 52) (.t 53) (.c (.bool false))⟩,
    ⟨(some 55), none, .mv (.t 54)⟩,
    ⟨(some 56), (some (55, true)), .mv (.t 7)⟩,
    ⟨(some 57), (some (55, true)), .bin .eql (.t 56) (.c (.int .i64 0))⟩,
    ⟨(some 58), none, .pick (.t 55) (.t 57) (.c (.bool false))⟩,
    ⟨(some 59), none, .mv (.t 58)⟩,
    ⟨(some 60), (some (59, true)), .lfld 6 0 (.t 6)⟩,
    ⟨(some 61), (some (59, true)), .lld 6 1 false (.t 60)⟩,
    ⟨(some 62), (some (59, true)), .bin .eql (.t 61) (.c (.int .i64 10))⟩,
    ⟨(some 63), none, .pick (.t 59) (.t 62) (.c (.bool false))⟩,
    ⟨(some 64), none, .mv (.t 63)⟩,
    ⟨(some 65), (some (64, true)), .mv (.t 9)⟩,
    ⟨(some 66), (some (64, true)), .un .not (.t 65)⟩,
    ⟨(some 67), none, .pick (.t 64) (.t 66) (.c (.bool false))⟩,
    ⟨(some 68), none, .mv (.t 67)⟩,
    ⟨(some 69), (some (68, true)), .lfld 8 3 (.t 8)⟩,
    ⟨(some 70), (some (68, true)), .lld 8 1 false (.t 69)⟩,
    ⟨(some 71), (some (68, true)), .bin .eql (.t 70) (.c (.int .i64 1))⟩,
    ⟨(some 72), none, .pick (.t 68) (.t 71) (.c (.bool false))⟩,
    ⟨(some 73), none, .mv (.t 72)⟩,
    ⟨(some 74), (some (73, true)), .mv (.t 11)⟩,
    ⟨(some 75), (some (73, true)), .bin .eql (.t 74) (.c (.int .i64 60))⟩,
    ⟨(some 76), none, .pick (.t 73) (.t 75) (.c (.bool false))⟩,
    ⟨(some 0), none, .mv (.t 76)⟩])
  .ret))))))))⟩

/- slices.Clone[[]int,int] -/
def f11 : AFunc := ⟨1, 8, [.tmp 2], true,
  (.seq (.region 0 [] [⟨(some 2), none, .mv (.c (.slice [] .nil))⟩])
  (.seq (.seq (.region 0 [] [⟨(some 3), none, .mv (.t 0)⟩,
    ⟨(some 4), none, .eqv false .slice (.t 3) (.c (.slice [] .nil))⟩])
  (.cond (.t 4)
    (.seq (.region 0 [] [⟨(some 2), none, .mv (.c (.slice [] .nil))⟩])
    .ret)
    .skip))
  (.seq (.region 1 [] [⟨(some 5), none, .bslice 1 0 (.int .i64 0) []⟩,
    ⟨(some 6), none, .mv (.t 0)⟩,
    ⟨(some 7), none, .app 0 1 8 (.t 5) (.t 6)⟩,
    ⟨(some 2), none, .mv (.t 7)⟩])
  .ret)))⟩

/- (*chiasmus/mach.reader).node -/
def f13 : AFunc := ⟨4, 157, [.lcell 8 8 5 true], true,
  (.seq (.region 0 [] [⟨(some 5), none, .lbox (.t 1) [104, 86, 77, 75, 70, 66, 52, 46, 37, 32, 28, 24]⟩,
    ⟨(some 8), none, .lalloc [(.int .i64 0), (.int .i64 0), (.int .i64 0), (.slice [] .nil), (.slice [] .nil)] []⟩])
  (.seq (.seq (.region 0 [] [⟨(some 24), none, .lfld 5 0 (.t 5)⟩,
    ⟨(some 25), none, .lld 5 1 false (.t 24)⟩,
    ⟨(some 26), none, .bin .eql (.t 25) (.c (.int .i64 0))⟩,
    ⟨(some 27), none, .mv (.t 26)⟩,
    ⟨(some 28), (some (27, false)), .lfld 5 0 (.t 5)⟩,
    ⟨(some 29), (some (27, false)), .lld 5 1 false (.t 28)⟩,
    ⟨(some 30), (some (27, false)), .bin .eql (.t 29) (.c (.int .i64 5))⟩,
    ⟨(some 31), none, .pick (.t 27) (.c (.bool true)) (.t 30)⟩])
  (.cond (.t 31)
    (.seq (.region 0 [] [⟨(some 32), none, .lfld 5 0 (.t 5)⟩,
      ⟨(some 33), none, .lld 5 1 false (.t 32)⟩,
      ⟨(some 34), none, .bin .eql (.t 33) (.c (.int .i64 5))⟩,
      ⟨(some 9), none, .mv (.t 34)⟩])
    (.seq (.seq (.region 0 [] [⟨(some 36), none, .mv (.t 3)⟩,
      ⟨(some 37), none, .lfld 5 1 (.t 5)⟩,
      ⟨(some 38), none, .lld 5 1 false (.t 37)⟩,
      ⟨(some 39), none, .mv (.t 9)⟩,
      ⟨(some 40), none, .call 20 [(.t 36), (.t 38), (.t 39)]⟩,
      ⟨(some 35), none, .mv (.t 40)⟩,
      ⟨(some 41), none, .ext (.t 35) 0⟩,
      ⟨(some 42), none, .ext (.t 35) 1⟩,
      ⟨(some 10), none, .mv (.t 41)⟩,
      ⟨(some 11), none, .mv (.t 42)⟩])
    (.seq (.region 0 [] [⟨(some 43), none, .mv (.t 11)⟩])
    (.cond (.t 43)
      (.seq (.region 0 [] [⟨(some 44), none, .mv (.t 0)⟩,
        ⟨(some 45), none, .call 21 [(.t 44)]⟩,
        ⟨none, none, .dfr (.t 45) []⟩])
      (.seq (.region 0 [] [⟨(some 46), none, .lfld 5 0 (.t 5)⟩,
        ⟨(some 47), none, .lld 5 1 false (.t 46)⟩,
        ⟨(some 48), none, .mv (.t 10)⟩,
        ⟨(some 49), none, .build [(.int .i64 0), (.int .i64 0), (.int .i64 0), (.slice [] .nil), (.slice [] .nil)] [(0, 1, (.t 47)), (1, 1, (.t 48))]⟩,
        ⟨none, none, .lst 8 5 (.t 8) (.t 49)⟩])
      .ret))
      .skip)))
    (.seq (.region 0 [] [⟨(some 51), none, .mv (.t 2)⟩,
      ⟨(some 52), none, .lfld 5 1 (.t 5)⟩,
      ⟨(some 53), none, .lld 5 1 false (.t 52)⟩,
      ⟨(some 54), none, .mv (.t 9)⟩,
      ⟨(some 55), none, .call 22 [(.t 51), (.t 53), (.t 54)]⟩,
      ⟨(some 50), none, .mv (.t 55)⟩,
      ⟨(some 56), none, .ext (.t 50) 0⟩,
      ⟨(some 57), none, .ext (.t 50) 1⟩,
      ⟨(some 12), none, .mv (.t 56)⟩,
      ⟨(some 13), none, .mv (.t 57)⟩])
    (.seq (.region 0 [] [⟨(some 58), none, .mv (.t 0)⟩,
      ⟨(some 59), none, .mv (.t 12)⟩,
      ⟨(some 60), none, .call 23 [(.t 58), (.t 59)]⟩,
      ⟨none, none, .lst 8 5 (.t 8) (.t 60)⟩])
    .ret))))
    .skip))
  (.seq (.region 0 [] [⟨(some 61), none, .mv (.t 0)⟩,
    ⟨(some 62), none, .call 21 [(.t 61)]⟩,
    ⟨none, none, .dfr (.t 62) []⟩])
  (.seq (.region 0 [] [⟨(some 63), none, .lld 5 5 true (.t 5)⟩,
    ⟨(some 64), none, .call 24 [(.t 63)]⟩,
    ⟨(some 14), none, .lalloc [(.int .i64 0), (.int .i64 0), (.int .i64 0), (.slice [] .nil), (.slice [] .nil)] [154, 149, 102, 93, 85]⟩,
    ⟨none, none, .lst 14 5 (.t 14) (.t 64)⟩])
  (.seq (.region 0 [] [⟨(some 65), none, .mv (.t 3)⟩,
    ⟨(some 15), none, .mv (.t 65)⟩])
  (.seq (.seq (.region 0 [] [⟨(some 66), none, .lfld 5 0 (.t 5)⟩,
    ⟨(some 67), none, .lld 5 1 false (.t 66)⟩,
    ⟨(some 68), none, .bin .eql (.t 67) (.c (.int .i64 3))⟩,
    ⟨(some 69), none, .mv (.t 68)⟩,
    ⟨(some 70), (some (69, false)), .lfld 5 0 (.t 5)⟩,
    ⟨(some 71), (some (69, false)), .lld 5 1 false (.t 70)⟩,
    ⟨(some 72), (some (69, false)), .bin .eql (.t 71) (.c (.int .i64 7))⟩,
    ⟨(some 73), none, .pick (.t 69) (.c (.bool true)) (.t 72)⟩])
  (.cond (.t 73)
    (.seq (.region 0 [] [⟨(some 74), none, .mv (.t 3)⟩,
      ⟨(some 75), none, .lfld 5 1 (.t 5)⟩,
      ⟨(some 76), none, .lld 5 1 false (.t 75)⟩,
      ⟨(some 77), none, .lfld 5 0 (.t 5)⟩,
      ⟨(some 78), none, .lld 5 1 false (.t 77)⟩,
      ⟨(some 79), none, .bin .eql (.t 78) (.c (.int .i64 3))⟩,
      ⟨(some 80), none, .call 25 [(.t 74), (.t 76), (.t 79)]⟩,
      ⟨(some 15), none, .mv (.t 80)⟩])
    (.region 0 [] [⟨(some 81), none, .mv (.t 15)⟩,
      ⟨(some 82), none, .nilck (.t 81)⟩,
      ⟨(some 83), none, .fld 1 (.t 82)⟩,
      ⟨(some 84), none, .ld 1 false (.t 83)⟩,
      ⟨(some 85), none, .lfld 14 1 (.t 14)⟩,
      ⟨none, none, .lst 14 1 (.t 85) (.t 84)⟩]))
    .skip))
  (.seq (.seq (.region 0 [] [⟨(some 86), none, .lfld 5 3 (.t 5)⟩,
    ⟨(some 87), none, .lld 5 1 false (.t 86)⟩,
    ⟨(some 88), none, .len .slice (.t 87)⟩,
    ⟨(some 89), none, .mv (.c (.int .i64 0))⟩])
  (.block 0
    (.loop
      (.seq (.region 0 [] [⟨(some 90), none, .bin .lss (.t 89) (.t 88)⟩])
      (.seq (.cond (.t 90)
        .skip
        (.exit 0))
      (.seq (.block 1
        (.seq (.region 0 [] [⟨(some 91), none, .ixa none 5 (.t 87) (.t 89)⟩,
          ⟨(some 92), none, .ld 5 true (.t 91)⟩,
          ⟨(some 17), none, .lalloc [(.int .i64 0), (.int .i64 0), (.int .i64 0), (.slice [] .nil), (.slice [] .nil)] []⟩,
          ⟨none, none, .lst 17 5 (.t 17) (.t 92)⟩])
        (.drawn 1 [] [⟨0, ⟨(some 93), none, .lfld 14 3 (.t 14)⟩, [], false⟩,
          ⟨1, ⟨(some 94), none, .lld 14 1 false (.t 93)⟩, [], false⟩,
          ⟨2, ⟨(some 95), none, .mv (.t 0)⟩, [], false⟩,
          ⟨3, ⟨(some 96), none, .lld 17 5 true (.t 17)⟩, [], false⟩,
          ⟨4, ⟨(some 97), none, .mv (.t 2)⟩, [], false⟩,
          ⟨5, ⟨(some 98), none, .mv (.t 15)⟩, [], false⟩,
          ⟨6, ⟨(some 99), none, .call 13 [(.t 95), (.t 96), (.t 97), (.t 98)]⟩, [], false⟩,
          ⟨7, ⟨(some 100), none, .bslice 5 1 (.agg [(.int .i64 0), (.int .i64 0), (.int .i64 0), (.slice [] .nil), (.slice [] .nil)]) [(0, (.t 99))]⟩, [], false⟩,
          ⟨8, ⟨(some 101), none, .app 0 5 72 (.t 94) (.t 100)⟩, [], false⟩,
          ⟨9, ⟨(some 102), none, .lfld 14 3 (.t 14)⟩, [], false⟩,
          ⟨10, ⟨none, none, .lst 14 1 (.t 102) (.t 101)⟩, [], false⟩])))
      (.region 0 [] [⟨(some 103), none, .bin .add (.t 89) (.c (.int .i64 1))⟩,
        ⟨(some 89), none, .mv (.t 103)⟩])))))))
  (.seq (.seq (.region 0 [] [⟨(some 104), none, .lfld 5 4 (.t 5)⟩,
    ⟨(some 105), none, .lld 5 1 false (.t 104)⟩,
    ⟨(some 106), none, .len .slice (.t 105)⟩,
    ⟨(some 107), none, .mv (.c (.int .i64 0))⟩])
  (.block 2
    (.loop
      (.seq (.region 0 [] [⟨(some 108), none, .bin .lss (.t 107) (.t 106)⟩])
      (.seq (.cond (.t 108)
        .skip
        (.exit 2))
      (.seq (.block 3
        (.seq (.region 0 [] [⟨(some 109), none, .ixa none 7 (.t 105) (.t 107)⟩,
          ⟨(some 110), none, .ld 7 true (.t 109)⟩,
          ⟨(some 19), none, .lalloc [(.slice [] .nil), (.slice [] .nil), (.int .i64 0), (.int .i64 0), (.int .i64 0), (.slice [] .nil), (.slice [] .nil)] [143, 126, 116, 111]⟩,
          ⟨none, none, .lst 19 7 (.t 19) (.t 110)⟩])
        (.seq (.region 1 [] [⟨(some 111), none, .lfld 19 1 (.t 19)⟩,
          ⟨(some 112), none, .lld 19 1 false (.t 111)⟩,
          ⟨(some 113), none, .app 0 1 1 (.c (.slice [] .nil)) (.t 112)⟩,
          ⟨(some 114), none, .build [(.slice [] .nil), (.slice [] .nil), (.int .i64 0), (.int .i64 0), (.int .i64 0), (.slice [] .nil), (.slice [] .nil)] [(1, 1, (.t 113))]⟩,
          ⟨(some 20), none, .lalloc [(.slice [] .nil), (.slice [] .nil), (.int .i64 0), (.int .i64 0), (.int .i64 0), (.slice [] .nil), (.slice [] .nil)] [148, 140, 132]⟩,
          ⟨none, none, .lst 20 7 (.t 20) (.t 114)⟩])
        (.seq (.region 0 [] [⟨(some 115), none, .mv (.t 3)⟩,
          ⟨(some 21), none, .mv (.t 115)⟩])
        (.seq (.seq (.region 0 [] [⟨(some 116), none, .lfld 19 0 (.t 19)⟩,
          ⟨(some 117), none, .lld 19 1 false (.t 116)⟩,
          ⟨(some 118), none, .len .slice (.t 117)⟩,
          ⟨(some 119), none, .mv (.c (.int .i64 0))⟩])
        (.block 4
          (.loop
            (.seq (.region 0 [] [⟨(some 120), none, .bin .lss (.t 119) (.t 118)⟩])
            (.seq (.cond (.t 120)
              .skip
              (.exit 4))
            (.seq (.block 5
              (.seq (.region 0 [] [⟨(some 121), none, .mv (.t 119)⟩,
                ⟨(some 122), none, .ixa none 1 (.t 117) (.t 119)⟩,
                ⟨(some 123), none, .ld 1 false (.t 122)⟩,
                ⟨(some 22), none, .mv (.t 121)⟩,
                ⟨(some 23), none, .mv (.t 123)⟩])
              (.seq (.region 0 [] [⟨(some 124), none, .mv (.t 21)⟩,
                ⟨(some 125), none, .mv (.t 23)⟩,
                ⟨(some 126), none, .lfld 19 1 (.t 19)⟩,
                ⟨(some 127), none, .lld 19 1 false (.t 126)⟩,
                ⟨(some 128), none, .mv (.t 22)⟩,
                ⟨(some 129), none, .ixa none 1 (.t 127) (.t 128)⟩,
                ⟨(some 130), none, .ld 1 false (.t 129)⟩,
                ⟨(some 131), none, .call 25 [(.t 124), (.t 125), (.t 130)]⟩,
                ⟨(some 21), none, .mv (.t 131)⟩])
              (.drawn 1 [] [⟨0, ⟨(some 132), none, .lfld 20 0 (.t 20)⟩, [], false⟩,
                ⟨1, ⟨(some 133), none, .lld 20 1 false (.t 132)⟩, [], false⟩,
                ⟨2, ⟨(some 134), none, .mv (.t 21)⟩, [], false⟩,
                ⟨3, ⟨(some 135), none, .nilck (.t 134)⟩, [], false⟩,
                ⟨4, ⟨(some 136), none, .fld 1 (.t 135)⟩, [], false⟩,
                ⟨5, ⟨(some 137), none, .ld 1 false (.t 136)⟩, [], false⟩,
                ⟨6, ⟨(some 138), none, .bslice 1 1 (.int .i64 0) [(0, (.t 137))]⟩, [], false⟩,
                ⟨7, ⟨(some 139), none, .app 0 1 8 (.t 133) (.t 138)⟩, [], false⟩,
                ⟨8, ⟨(some 140), none, .lfld 20 0 (.t 20)⟩, [], false⟩,
                ⟨9, ⟨none, none, .lst 20 1 (.t 140) (.t 139)⟩, [], false⟩]))))
            (.region 0 [] [⟨(some 141), none, .bin .add (.t 119) (.c (.int .i64 1))⟩,
              ⟨(some 119), none, .mv (.t 141)⟩])))))))
        (.seq (.region 0 [] [⟨(some 142), none, .mv (.t 0)⟩,
          ⟨(some 143), none, .lfld 19 2 (.t 19)⟩,
          ⟨(some 144), none, .lld 19 5 true (.t 143)⟩,
          ⟨(some 145), none, .mv (.t 2)⟩,
          ⟨(some 146), none, .mv (.t 21)⟩,
          ⟨(some 147), none, .call 13 [(.t 142), (.t 144), (.t 145), (.t 146)]⟩,
          ⟨(some 148), none, .lfld 20 2 (.t 20)⟩,
          ⟨none, none, .lst 20 5 (.t 148) (.t 147)⟩])
        (.region 1 [] [⟨(some 149), none, .lfld 14 4 (.t 14)⟩,
          ⟨(some 150), none, .lld 14 1 false (.t 149)⟩,
          ⟨(some 151), none, .lld 20 7 true (.t 20)⟩,
          ⟨(some 152), none, .bslice 7 1 (.agg [(.slice [] .nil), (.slice [] .nil), (.int .i64 0), (.int .i64 0), (.int .i64 0), (.slice [] .nil), (.slice [] .nil)]) [(0, (.t 151))]⟩,
          ⟨(some 153), none, .app 0 7 120 (.t 150) (.t 152)⟩,
          ⟨(some 154), none, .lfld 14 4 (.t 14)⟩,
          ⟨none, none, .lst 14 1 (.t 154) (.t 153)⟩])))))))
      (.region 0 [] [⟨(some 155), none, .bin .add (.t 107) (.c (.int .i64 1))⟩,
        ⟨(some 107), none, .mv (.t 155)⟩])))))))
  (.seq (.region 0 [] [⟨(some 156), none, .lld 14 5 true (.t 14)⟩,
    ⟨none, none, .lst 8 5 (.t 8) (.t 156)⟩])
  .ret)))))))))⟩

/- (*chiasmus/mach.Machine).next -/
def f14 : AFunc := ⟨1, 177, [.tmp 2], true,
  (.seq (.region 0 [] [⟨(some 2), none, .mv (.c (.bool false))⟩])
  (.seq (.region 0 [] [⟨(some 10), none, .mv (.t 0)⟩,
    ⟨(some 11), none, .nilck (.t 10)⟩,
    ⟨(some 12), none, .fld 3 (.t 11)⟩,
    ⟨(some 13), none, .ld 5 true (.t 12)⟩,
    ⟨(some 3), none, .lalloc [(.int .i64 0), (.int .i64 0), (.int .i64 0), (.slice [] .nil), (.slice [] .nil)] [89, 73, 48, 21, 16, 14]⟩,
    ⟨none, none, .lst 3 5 (.t 3) (.t 13)⟩])
  (.seq (.region 0 [] [⟨(some 14), none, .lfld 3 3 (.t 3)⟩,
    ⟨(some 15), none, .lld 3 1 false (.t 14)⟩,
    ⟨(some 4), none, .mv (.t 15)⟩])
  (.seq (.seq (.region 0 [] [⟨(some 16), none, .lfld 3 0 (.t 3)⟩,
    ⟨(some 17), none, .lld 3 1 false (.t 16)⟩])
  (.block 0
    (.seq (.region 0 [] [⟨(some 19), none, .bin .eql (.t 17) (.c (.int .i64 9))⟩,
      ⟨(some 18), none, .mv (.t 19)⟩])
    (.cond (.t 18)
      (.seq (.drawn 0 [] [⟨0, ⟨(some 20), none, .mv (.t 0)⟩, [], false⟩,
        ⟨1, ⟨(some 21), none, .lfld 3 2 (.t 3)⟩, [], false⟩,
        ⟨2, ⟨(some 22), none, .lld 3 1 false (.t 21)⟩, [], false⟩,
        ⟨3, ⟨(some 23), none, .mv (.t 0)⟩, [], false⟩,
        ⟨4, ⟨(some 24), none, .nilck (.t 23)⟩, [], false⟩,
        ⟨5, ⟨(some 25), none, .fld 8 (.t 24)⟩, [], false⟩,
        ⟨6, ⟨(some 26), none, .ld 1 false (.t 25)⟩, [], false⟩,
        ⟨7, ⟨(some 27), none, .mv (.t 4)⟩, [], false⟩,
        ⟨8, ⟨(some 28), none, .ixa none 5 (.t 27) (.c (.int .i64 0))⟩, [], false⟩,
        ⟨9, ⟨(some 29), none, .ld 5 true (.t 28)⟩, [], false⟩,
        ⟨10, ⟨(some 30), none, .call 27 [(.t 26), (.t 29)]⟩, [14, 17], false⟩,
        ⟨11, ⟨(some 31), none, .mv (.t 0)⟩, [], false⟩,
        ⟨12, ⟨(some 32), none, .nilck (.t 31)⟩, [], false⟩,
        ⟨13, ⟨(some 33), none, .fld 8 (.t 32)⟩, [], false⟩,
        ⟨14, ⟨(some 34), none, .ld 1 false (.t 33)⟩, [10], false⟩,
        ⟨15, ⟨(some 35), none, .mv (.t 4)⟩, [], false⟩,
        ⟨16, ⟨(some 36), none, .ixa none 5 (.t 35) (.c (.int .i64 1))⟩, [], false⟩,
        ⟨17, ⟨(some 37), none, .ld 5 true (.t 36)⟩, [10], false⟩,
        ⟨18, ⟨(some 38), none, .call 27 [(.t 34), (.t 37)]⟩, [], false⟩,
        ⟨19, ⟨(some 39), none, .call 26 [(.t 20), (.t 22), (.t 30), (.t 38)]⟩, [], false⟩,
        ⟨20, ⟨(some 2), none, .mv (.t 39)⟩, [], false⟩])
      .ret)
      (.seq (.region 0 [] [⟨(some 41), none, .bin .eql (.t 17) (.c (.int .i64 13))⟩,
        ⟨(some 40), none, .mv (.t 41)⟩])
      (.cond (.t 40)
        (.seq (.drawn 0 [] [⟨0, ⟨(some 42), none, .mv (.t 0)⟩, [], false⟩,
          ⟨1, ⟨(some 43), none, .mv (.t 0)⟩, [], false⟩,
          ⟨2, ⟨(some 44), none, .nilck (.t 43)⟩, [], false⟩,
          ⟨3, ⟨(some 45), none, .fld 0 (.t 44)⟩, [], false⟩,
          ⟨4, ⟨(some 46), none, .fld 1 (.t 45)⟩, [], false⟩,
          ⟨5, ⟨(some 47), none, .ld 1 false (.t 46)⟩, [15], false⟩,
          ⟨6, ⟨(some 48), none, .lfld 3 1 (.t 3)⟩, [], false⟩,
          ⟨7, ⟨(some 49), none, .lld 3 1 false (.t 48)⟩, [], false⟩,
          ⟨8, ⟨(some 50), none, .ixa none 8 (.t 47) (.t 49)⟩, [], false⟩,
          ⟨9, ⟨(some 51), none, .ld 8 true (.t 50)⟩, [15], false⟩,
          ⟨10, ⟨(some 52), none, .mv (.t 0)⟩, [], false⟩,
          ⟨11, ⟨(some 53), none, .nilck (.t 52)⟩, [], false⟩,
          ⟨12, ⟨(some 54), none, .fld 8 (.t 53)⟩, [], false⟩,
          ⟨13, ⟨(some 55), none, .ld 1 false (.t 54)⟩, [], false⟩,
          ⟨14, ⟨(some 56), none, .mv (.t 4)⟩, [], false⟩,
          ⟨15, ⟨(some 57), none, .call 29 [(.t 55), (.t 56)]⟩, [5, 9], false⟩,
          ⟨16, ⟨(some 58), none, .call 28 [(.t 42), (.t 51), (.t 57)]⟩, [], false⟩,
          ⟨17, ⟨(some 2), none, .mv (.t 58)⟩, [], false⟩])
        .ret)
        .skip))))))
  (.seq (.drawn 0 [] [⟨0, ⟨(some 60), none, .mv (.t 0)⟩, [], false⟩,
    ⟨1, ⟨(some 61), none, .nilck (.t 60)⟩, [], false⟩,
    ⟨2, ⟨(some 62), none, .fld 8 (.t 61)⟩, [], false⟩,
    ⟨3, ⟨(some 63), none, .ld 1 false (.t 62)⟩, [], false⟩,
    ⟨4, ⟨(some 64), none, .mv (.t 4)⟩, [], false⟩,
    ⟨5, ⟨(some 65), none, .ixa none 5 (.t 64) (.c (.int .i64 0))⟩, [], false⟩,
    ⟨6, ⟨(some 66), none, .ld 5 true (.t 65)⟩, [], false⟩,
    ⟨7, ⟨(some 67), none, .call 27 [(.t 63), (.t 66)]⟩, [], false⟩,
    ⟨8, ⟨(some 68), none, .tas 85 (.int .i64 0) true (.t 67)⟩, [], false⟩,
    ⟨9, ⟨(some 59), none, .mv (.t 68)⟩, [], false⟩,
    ⟨10, ⟨(some 69), none, .ext (.t 59) 0⟩, [], false⟩,
    ⟨11, ⟨(some 70), none, .ext (.t 59) 1⟩, [], false⟩,
    ⟨12, ⟨(some 5), none, .mv (.t 69)⟩, [], false⟩,
    ⟨13, ⟨(some 6), none, .mv (.t 70)⟩, [], false⟩])
  (.seq (.seq (.region 0 [] [⟨(some 71), none, .mv (.t 6)⟩,
    ⟨(some 72), none, .un .not (.t 71)⟩])
  (.cond (.t 72)
    (.seq (.region 0 [] [⟨(some 2), none, .mv (.c (.bool false))⟩])
    .ret)
    .skip))
  (.seq (.seq (.region 0 [] [⟨(some 73), none, .lfld 3 0 (.t 3)⟩,
    ⟨(some 74), none, .lld 3 1 false (.t 73)⟩])
  (.block 1
    (.seq (.region 0 [] [⟨(some 76), none, .bin .eql (.t 74) (.c (.int .i64 10))⟩,
      ⟨(some 75), none, .mv (.t 76)⟩])
    (.cond (.t 75)
      (.seq (.drawn 0 [] [⟨0, ⟨(some 78), none, .mv (.t 0)⟩, [], false⟩,
        ⟨1, ⟨(some 79), none, .nilck (.t 78)⟩, [], false⟩,
        ⟨2, ⟨(some 80), none, .fld 8 (.t 79)⟩, [], false⟩,
        ⟨3, ⟨(some 81), none, .ld 1 false (.t 80)⟩, [], false⟩,
        ⟨4, ⟨(some 82), none, .mv (.t 4)⟩, [], false⟩,
        ⟨5, ⟨(some 83), none, .ixa none 5 (.t 82) (.c (.int .i64 1))⟩, [], false⟩,
        ⟨6, ⟨(some 84), none, .ld 5 true (.t 83)⟩, [], false⟩,
        ⟨7, ⟨(some 85), none, .call 27 [(.t 81), (.t 84)]⟩, [], false⟩,
        ⟨8, ⟨(some 86), none, .tas 85 (.int .i64 0) true (.t 85)⟩, [], false⟩,
        ⟨9, ⟨(some 77), none, .mv (.t 86)⟩, [], false⟩,
        ⟨10, ⟨(some 87), none, .ext (.t 77) 0⟩, [], false⟩,
        ⟨11, ⟨(some 88), none, .ext (.t 77) 1⟩, [], false⟩,
        ⟨12, ⟨(some 7), none, .mv (.t 87)⟩, [], false⟩,
        ⟨13, ⟨(some 8), none, .mv (.t 88)⟩, [], false⟩])
      (.seq (.region 0 [] [⟨(some 89), none, .lfld 3 1 (.t 3)⟩,
        ⟨(some 90), none, .lld 3 1 false (.t 89)⟩,
        ⟨(some 91), none, .mv (.t 5)⟩,
        ⟨(some 92), none, .mv (.t 7)⟩,
        ⟨(some 93), none, .call 30 [(.t 90), (.t 91), (.t 92)]⟩,
        ⟨(some 94), none, .build [(.int .i64 0), (.int .i64 0), (.int .i64 0), (.slice [] .nil), (.slice [] .nil)] [(0, 1, (.c (.int .i64 1))), (1, 1, (.t 93))]⟩,
        ⟨(some 9), none, .lalloc [(.int .i64 0), (.int .i64 0), (.int .i64 0), (.slice [] .nil), (.slice [] .nil)] []⟩,
        ⟨none, none, .lst 9 5 (.t 9) (.t 94)⟩])
      (.seq (.drawn 0 [] [⟨0, ⟨(some 95), none, .mv (.t 8)⟩, [], false⟩,
        ⟨1, ⟨(some 96), none, .mv (.t 95)⟩, [], false⟩,
        ⟨2, ⟨(some 97), (some (96, true)), .mv (.t 0)⟩, [], false⟩,
        ⟨3, ⟨(some 98), (some (96, true)), .lld 9 5 true (.t 9)⟩, [], false⟩,
        ⟨4, ⟨(some 99), (some (96, true)), .mv (.t 4)⟩, [], false⟩,
        ⟨5, ⟨(some 100), (some (96, true)), .ixa none 5 (.t 99) (.c (.int .i64 2))⟩, [], false⟩,
        ⟨6, ⟨(some 101), (some (96, true)), .ld 5 true (.t 100)⟩, [], false⟩,
        ⟨7, ⟨(some 102), (some (96, true)), .bslice 5 2 (.agg [(.int .i64 0), (.int .i64 0), (.int .i64 0), (.slice [] .nil), (.slice [] .nil)]) [(0, (.t 98)), (1, (.t 101))]⟩, [], false⟩,
        ⟨8, ⟨(some 103), (some (96, true)), .build [(.int .i64 0), (.int .i64 0), (.int .i64 0), (.slice [] .nil), (.slice [] .nil)] [(0, 1, (.c (.int .i64 9))), (3, 1, (.t 102))]⟩, [], false⟩,
        ⟨9, ⟨(some 104), (some (96, true)), .mv (.t 0)⟩, [], false⟩,
        ⟨10, ⟨(some 105), (some (96, true)), .nilck (.t 104)⟩, [], false⟩,
        ⟨11, ⟨(some 106), (some (96, true)), .fld 8 (.t 105)⟩, [], false⟩,
        ⟨12, ⟨(some 107), (some (96, true)), .ld 1 false (.t 106)⟩, [], false⟩,
        ⟨13, ⟨(some 108), (some (96, true)), .call 31 [(.t 97), (.t 103), (.t 107)]⟩, [], false⟩,
        ⟨14, ⟨(some 109), none, .pick (.t 96) (.t 108) (.c (.bool false))⟩, [], false⟩,
        ⟨15, ⟨(some 2), none, .mv (.t 109)⟩, [], false⟩])
      .ret)))
      (.seq (.region 0 [] [⟨(some 111), none, .bin .eql (.t 74) (.c (.int .i64 11))⟩,
        ⟨(some 110), none, .mv (.t 111)⟩])
      (.cond (.t 110)
        (.seq (.seq (.region 0 [] [⟨(some 112), none, .mv (.t 5)⟩,
          ⟨(some 113), none, .bin .eql (.t 112) (.c (.int .i64 0))⟩])
        (.cond (.t 113)
          (.seq (.drawn 0 [] [⟨0, ⟨(some 114), none, .mv (.t 0)⟩, [], false⟩,
            ⟨1, ⟨(some 115), none, .mv (.t 4)⟩, [], false⟩,
            ⟨2, ⟨(some 116), none, .ixa none 5 (.t 115) (.c (.int .i64 1))⟩, [], false⟩,
            ⟨3, ⟨(some 117), none, .ld 5 true (.t 116)⟩, [], false⟩,
            ⟨4, ⟨(some 118), none, .mv (.t 0)⟩, [], false⟩,
            ⟨5, ⟨(some 119), none, .nilck (.t 118)⟩, [], false⟩,
            ⟨6, ⟨(some 120), none, .fld 8 (.t 119)⟩, [], false⟩,
            ⟨7, ⟨(some 121), none, .ld 1 false (.t 120)⟩, [], false⟩,
            ⟨8, ⟨(some 122), none, .call 31 [(.t 114), (.t 117), (.t 121)]⟩, [], false⟩,
            ⟨9, ⟨(some 2), none, .mv (.t 122)⟩, [], false⟩])
          .ret)
          .skip))
        (.seq (.drawn 0 [] [⟨0, ⟨(some 123), none, .mv (.t 0)⟩, [], false⟩,
          ⟨1, ⟨(some 124), none, .mv (.t 4)⟩, [], false⟩,
          ⟨2, ⟨(some 125), none, .ixa none 5 (.t 124) (.c (.int .i64 2))⟩, [], false⟩,
          ⟨3, ⟨(some 126), none, .ld 5 true (.t 125)⟩, [], false⟩,
          ⟨4, ⟨(some 127), none, .mv (.t 0)⟩, [], false⟩,
          ⟨5, ⟨(some 128), none, .nilck (.t 127)⟩, [], false⟩,
          ⟨6, ⟨(some 129), none, .fld 8 (.t 128)⟩, [], false⟩,
          ⟨7, ⟨(some 130), none, .ld 1 false (.t 129)⟩, [], false⟩,
          ⟨8, ⟨(some 131), none, .call 31 [(.t 123), (.t 126), (.t 130)]⟩, [], false⟩,
          ⟨9, ⟨(some 2), none, .mv (.t 131)⟩, [], false⟩])
        .ret))
        (.seq (.region 0 [] [⟨(some 133), none, .bin .eql (.t 74) (.c (.int .i64 12))⟩,
          ⟨(some 132), none, .mv (.t 133)⟩])
        (.cond (.t 132)
          (.seq (.region 1 [] [⟨(some 134), none, .mv (.t 0)⟩,
            ⟨(some 135), none, .mv (.t 0)⟩,
            ⟨(some 136), none, .nilck (.t 135)⟩,
            ⟨(some 137), none, .fld 9 (.t 136)⟩,
            ⟨(some 138), none, .fld 2 (.t 137)⟩,
            ⟨(some 139), none, .ld 1 false (.t 138)⟩,
            ⟨(some 140), none, .mv (.t 5)⟩,
            ⟨(some 141), none, .bslice 1 1 (.int .i64 0) [(0, (.t 140))]⟩,
            ⟨(some 142), none, .app 0 1 8 (.t 139) (.t 141)⟩,
            ⟨(some 143), none, .nilck (.t 134)⟩,
            ⟨(some 144), none, .fld 9 (.t 143)⟩,
            ⟨(some 145), none, .fld 2 (.t 144)⟩,
            ⟨none, none, .st 1 (.t 145) (.t 142)⟩])
          (.seq (.drawn 0 [] [⟨0, ⟨(some 146), none, .mv (.t 0)⟩, [], false⟩,
            ⟨1, ⟨(some 147), none, .mv (.t 4)⟩, [], false⟩,
            ⟨2, ⟨(some 148), none, .ixa none 5 (.t 147) (.c (.int .i64 1))⟩, [], false⟩,
            ⟨3, ⟨(some 149), none, .ld 5 true (.t 148)⟩, [], false⟩,
            ⟨4, ⟨(some 150), none, .mv (.t 0)⟩, [], false⟩,
            ⟨5, ⟨(some 151), none, .nilck (.t 150)⟩, [], false⟩,
            ⟨6, ⟨(some 152), none, .fld 8 (.t 151)⟩, [], false⟩,
            ⟨7, ⟨(some 153), none, .ld 1 false (.t 152)⟩, [], false⟩,
            ⟨8, ⟨(some 154), none, .call 31 [(.t 146), (.t 149), (.t 153)]⟩, [], false⟩,
            ⟨9, ⟨(some 2), none, .mv (.t 154)⟩, [], false⟩])
          .ret))
          .skip))))))))
  (.seq (.region 0 [] [⟨(some 155), none, .mv (.t 0)⟩,
    ⟨(some 156), none, .mv (.t 0)⟩,
    ⟨(some 157), none, .mv (.t 0)⟩,
    ⟨(some 158), none, .mv (.t 5)⟩,
    ⟨(some 159), none, .nilck (.t 155)⟩,
    ⟨(some 160), none, .fld 9 (.t 159)⟩,
    ⟨(some 161), none, .fld 0 (.t 160)⟩,
    ⟨none, none, .st 1 (.t 161) (.c (.int .i64 0))⟩,
    ⟨(some 162), none, .nilck (.t 156)⟩,
    ⟨(some 163), none, .fld 9 (.t 162)⟩,
    ⟨(some 164), none, .fld 1 (.t 163)⟩,
    ⟨none, none, .st 1 (.t 164) (.t 158)⟩,
    ⟨(some 165), none, .nilck (.t 157)⟩,
    ⟨(some 166), none, .fld 13 (.t 165)⟩,
    ⟨none, none, .st 1 (.t 166) (.c (.bool true))⟩])
  (.seq (.region 0 [] [⟨(some 167), none, .mv (.t 0)⟩,
    ⟨(some 168), none, .mv (.t 0)⟩,
    ⟨(some 169), none, .mv (.t 5)⟩,
    ⟨(some 170), none, .build [(.int .i64 0), (.int .i64 0), (.int .i64 0), (.slice [] .nil), (.slice [] .nil)] [(0, 1, (.c (.int .i64 1))), (1, 1, (.t 169))]⟩,
    ⟨(some 171), none, .bslice 5 1 (.agg [(.int .i64 0), (.int .i64 0), (.int .i64 0), (.slice [] .nil), (.slice [] .nil)]) [(0, (.t 170))]⟩,
    ⟨(some 172), none, .build [(.int .i64 0), (.int .i64 0), (.int .i64 0), (.slice [] .nil), (.slice [] .nil)] [(0, 1, (.c (.int .i64 14))), (3, 1, (.t 171))]⟩,
    ⟨(some 173), none, .nilck (.t 167)⟩,
    ⟨(some 174), none, .fld 3 (.t 173)⟩,
    ⟨none, none, .st 5 (.t 174) (.t 172)⟩,
    ⟨(some 175), none, .nilck (.t 168)⟩,
    ⟨(some 176), none, .fld 8 (.t 175)⟩,
    ⟨none, none, .st 1 (.t 176) (.c .nilptr)⟩])
  (.seq (.region 0 [] [⟨(some 2), none, .mv (.c (.bool true))⟩])
  .ret))))))))))⟩

/- chiasmus/chiasmusref01.SameInts -/
def f15 : AFunc := ⟨2, 26, [.tmp 4], true,
  (.seq (.region 0 [] [⟨(some 4), none, .mv (.c (.bool false))⟩])
  (.seq (.seq (.region 0 [] [⟨(some 6), none, .mv (.t 0)⟩,
    ⟨(some 7), none, .len .slice (.t 6)⟩,
    ⟨(some 8), none, .mv (.t 1)⟩,
    ⟨(some 9), none, .len .slice (.t 8)⟩,
    ⟨(some 10), none, .bin .neq (.t 7) (.t 9)⟩])
  (.cond (.t 10)
    (.seq (.region 0 [] [⟨(some 4), none, .mv (.c (.bool false))⟩])
    .ret)
    .skip))
  (.seq (.seq (.region 0 [] [⟨(some 11), none, .mv (.t 0)⟩,
    ⟨(some 12), none, .len .slice (.t 11)⟩,
    ⟨(some 13), none, .mv (.c (.int .i64 0))⟩])
  (.block 0
    (.loop
      (.seq (.region 0 [] [⟨(some 14), none, .bin .lss (.t 13) (.t 12)⟩])
      (.seq (.cond (.t 14)
        .skip
        (.exit 0))
      (.seq (.block 1
        (.seq (.region 0 [] [⟨(some 15), none, .mv (.t 13)⟩,
          ⟨(some 5), none, .mv (.t 15)⟩])
        (.seq (.drawn 0 [] [⟨0, ⟨(some 16), none, .mv (.t 0)⟩, [], false⟩,
          ⟨1, ⟨(some 17), none, .mv (.t 5)⟩, [], false⟩,
          ⟨2, ⟨(some 18), none, .ixa none 1 (.t 16) (.t 17)⟩, [], false⟩,
          ⟨3, ⟨(some 19), none, .ld 1 false (.t 18)⟩, [], false⟩,
          ⟨4, ⟨(some 20), none, .mv (.t 1)⟩, [], false⟩,
          ⟨5, ⟨(some 21), none, .mv (.t 5)⟩, [], false⟩,
          ⟨6, ⟨(some 22), none, .ixa none 1 (.t 20) (.t 21)⟩, [], false⟩,
          ⟨7, ⟨(some 23), none, .ld 1 false (.t 22)⟩, [], false⟩,
          ⟨8, ⟨(some 24), none, .bin .neq (.t 19) (.t 23)⟩, [], false⟩])
        (.cond (.t 24)
          (.seq (.region 0 [] [⟨(some 4), none, .mv (.c (.bool false))⟩])
          .ret)
          .skip))))
      (.region 0 [] [⟨(some 25), none, .bin .add (.t 13) (.c (.int .i64 1))⟩,
        ⟨(some 13), none, .mv (.t 25)⟩])))))))
  (.seq (.region 0 [] [⟨(some 4), none, .mv (.c (.bool true))⟩])
  .ret))))⟩

/- chiasmus/chiasmusref06.left -/
def f16 : AFunc := ⟨2, 48, [.tmp 4], true,
  (.seq (.region 0 [] [⟨(some 2), none, .lbox (.t 0) [38, 28, 20, 10]⟩,
    ⟨(some 4), none, .mv (.c (.int .i64 0))⟩])
  (.seq (.region 0 [] [⟨(some 7), none, .mv (.t 1)⟩,
    ⟨(some 8), none, .bin .sub (.t 7) (.c (.int .i64 1))⟩,
    ⟨(some 1), none, .mv (.t 8)⟩])
  (.seq (.seq (.region 0 [] [⟨(some 5), none, .mv (.c (.int .i64 0))⟩])
  (.block 0
    (.loop
      (.seq (.seq (.region 0 [] [⟨(some 9), none, .mv (.t 5)⟩,
        ⟨(some 10), none, .lfld 2 3 (.t 2)⟩,
        ⟨(some 11), none, .lld 2 1 false (.t 10)⟩,
        ⟨(some 12), none, .len .slice (.t 11)⟩,
        ⟨(some 13), none, .bin .lss (.t 9) (.t 12)⟩,
        ⟨(some 14), none, .mv (.t 13)⟩,
        ⟨(some 15), (some (14, true)), .mv (.t 1)⟩,
        ⟨(some 16), (some (14, true)), .bin .gtr (.t 15) (.c (.int .i64 0))⟩,
        ⟨(some 17), none, .pick (.t 14) (.t 16) (.c (.bool false))⟩])
      (.cond (.t 17)
        .skip
        (.exit 0)))
      (.seq (.block 1
        (.region 0 [] [⟨(some 20), none, .lfld 2 3 (.t 2)⟩,
          ⟨(some 21), none, .lld 2 1 false (.t 20)⟩,
          ⟨(some 22), none, .mv (.t 5)⟩,
          ⟨(some 23), none, .ixa none 5 (.t 21) (.t 22)⟩,
          ⟨(some 24), none, .ld 5 true (.t 23)⟩,
          ⟨(some 25), none, .mv (.t 1)⟩,
          ⟨(some 26), none, .call 16 [(.t 24), (.t 25)]⟩,
          ⟨(some 1), none, .mv (.t 26)⟩]))
      (.region 0 [] [⟨(some 18), none, .mv (.t 5)⟩,
        ⟨(some 19), none, .bin .add (.t 18) (.c (.int .i64 1))⟩,
        ⟨(some 5), none, .mv (.t 19)⟩]))))))
  (.seq (.seq (.region 0 [] [⟨(some 6), none, .mv (.c (.int .i64 0))⟩])
  (.block 2
    (.loop
      (.seq (.seq (.region 0 [] [⟨(some 27), none, .mv (.t 6)⟩,
        ⟨(some 28), none, .lfld 2 4 (.t 2)⟩,
        ⟨(some 29), none, .lld 2 1 false (.t 28)⟩,
        ⟨(some 30), none, .len .slice (.t 29)⟩,
        ⟨(some 31), none, .bin .lss (.t 27) (.t 30)⟩,
        ⟨(some 32), none, .mv (.t 31)⟩,
        ⟨(some 33), (some (32, true)), .mv (.t 1)⟩,
        ⟨(some 34), (some (32, true)), .bin .gtr (.t 33) (.c (.int .i64 0))⟩,
        ⟨(some 35), none, .pick (.t 32) (.t 34) (.c (.bool false))⟩])
      (.cond (.t 35)
        .skip
        (.exit 2)))
      (.seq (.block 3
        (.region 0 [] [⟨(some 38), none, .lfld 2 4 (.t 2)⟩,
          ⟨(some 39), none, .lld 2 1 false (.t 38)⟩,
          ⟨(some 40), none, .mv (.t 6)⟩,
          ⟨(some 41), none, .ixa none 7 (.t 39) (.t 40)⟩,
          ⟨(some 42), none, .fld 2 (.t 41)⟩,
          ⟨(some 43), none, .ld 5 true (.t 42)⟩,
          ⟨(some 44), none, .mv (.t 1)⟩,
          ⟨(some 45), none, .call 16 [(.t 43), (.t 44)]⟩,
          ⟨(some 1), none, .mv (.t 45)⟩]))
      (.region 0 [] [⟨(some 36), none, .mv (.t 6)⟩,
        ⟨(some 37), none, .bin .add (.t 36) (.c (.int .i64 1))⟩,
        ⟨(some 6), none, .mv (.t 37)⟩]))))))
  (.seq (.region 0 [] [⟨(some 46), none, .mv (.t 1)⟩,
    ⟨(some 47), none, .maxi [(.t 46), (.c (.int .i64 0))]⟩,
    ⟨(some 4), none, .mv (.t 47)⟩])
  .ret)))))⟩

/- chiasmus/mach.Run -/
def f17 : AFunc := ⟨3, 27, [.lcell 6 6 4 true, .tmp 7], true,
  (.seq (.region 0 [] [⟨(some 3), none, .lbox (.t 0) []⟩,
    ⟨(some 6), none, .lalloc [(.int .i64 0), (.int .i64 0), (.slice [] .nil), (.int .i64 0)] []⟩,
    ⟨(some 7), none, .mv (.c (.int .i64 0))⟩])
  (.seq (.region 0 [] [⟨(some 11), none, .lld 3 2 true (.t 3)⟩,
    ⟨(some 12), none, .mv (.t 1)⟩,
    ⟨(some 13), none, .mv (.t 2)⟩,
    ⟨(some 14), none, .call 19 [(.t 11), (.t 12), (.t 13)]⟩,
    ⟨(some 10), none, .mv (.t 14)⟩,
    ⟨(some 15), none, .ext (.t 10) 0⟩,
    ⟨(some 16), none, .ext (.t 10) 1⟩,
    ⟨(some 8), none, .mv (.t 15)⟩,
    ⟨(some 9), none, .mv (.t 16)⟩])
  (.seq (.seq (.region 0 [] [⟨(some 17), none, .mv (.t 9)⟩,
    ⟨(some 18), none, .bin .neq (.t 17) (.c (.int .i64 0))⟩])
  (.cond (.t 18)
    (.seq (.region 0 [] [⟨(some 19), none, .build [(.int .i64 0), (.int .i64 0), (.slice [] .nil), (.int .i64 0)] []⟩,
      ⟨(some 20), none, .mv (.t 9)⟩,
      ⟨none, none, .lst 6 4 (.t 6) (.t 19)⟩,
      ⟨(some 7), none, .mv (.t 20)⟩])
    .ret)
    .skip))
  (.seq (.block 0
    (.loop
      (.seq (.seq (.region 0 [] [⟨(some 21), none, .mv (.t 8)⟩,
        ⟨(some 22), none, .call 6 [(.t 21)]⟩])
      (.cond (.t 22)
        .skip
        (.exit 0)))
      (.block 1
        .skip))))
  (.seq (.region 0 [] [⟨(some 23), none, .mv (.t 8)⟩,
    ⟨(some 24), none, .nilck (.t 23)⟩,
    ⟨(some 25), none, .fld 9 (.t 24)⟩,
    ⟨(some 26), none, .ld 4 true (.t 25)⟩,
    ⟨none, none, .lst 6 4 (.t 6) (.t 26)⟩,
    ⟨(some 7), none, .mv (.c (.int .i64 0))⟩])
  .ret)))))⟩

/- chiasmus/chiasmuslaw13.one -/
def f18 : AFunc := ⟨0, 27, [.lcell 0 0 2 true], true,
  (.seq (.region 0 [] [⟨(some 0), none, .lalloc [(.slice [] .nil), (.slice [] .nil)] []⟩])
  (.seq (.region 0 [] [⟨(some 4), none, .build [(.int .i64 0), (.int .i64 0), (.int .i64 0), (.slice [] .nil), (.slice [] .nil)] [(0, 1, (.c (.int .i64 0)))]⟩,
    ⟨(some 5), none, .build [(.int .i64 0), (.int .i64 0), (.int .i64 0), (.slice [] .nil), (.slice [] .nil)] [(0, 1, (.c (.int .i64 1))), (1, 1, (.c (.int .i64 1)))]⟩,
    ⟨(some 6), none, .build [(.int .i64 0), (.int .i64 0), (.int .i64 0), (.slice [] .nil), (.slice [] .nil)] [(0, 1, (.c (.int .i64 5)))]⟩,
    ⟨(some 7), none, .bslice 5 3 (.agg [(.int .i64 0), (.int .i64 0), (.int .i64 0), (.slice [] .nil), (.slice [] .nil)]) [(0, (.t 4)), (1, (.t 5)), (2, (.t 6))]⟩,
    ⟨(some 8), none, .build [(.int .i64 0), (.int .i64 0), (.int .i64 0), (.slice [] .nil), (.slice [] .nil)] [(0, 1, (.c (.int .i64 10))), (3, 1, (.t 7))]⟩,
    ⟨(some 1), none, .lalloc [(.int .i64 0), (.int .i64 0), (.int .i64 0), (.slice [] .nil), (.slice [] .nil)] []⟩,
    ⟨none, none, .lst 1 5 (.t 1) (.t 8)⟩])
  (.seq (.region 0 [] [⟨(some 9), none, .build [(.int .i64 0), (.int .i64 0), (.int .i64 0), (.slice [] .nil), (.slice [] .nil)] [(0, 1, (.c (.int .i64 0))), (1, 1, (.c (.int .i64 1)))]⟩,
    ⟨(some 10), none, .bslice 5 1 (.agg [(.int .i64 0), (.int .i64 0), (.int .i64 0), (.slice [] .nil), (.slice [] .nil)]) [(0, (.t 9))]⟩,
    ⟨(some 11), none, .build [(.int .i64 0), (.int .i64 0), (.int .i64 0), (.slice [] .nil), (.slice [] .nil)] [(0, 1, (.c (.int .i64 14))), (3, 1, (.t 10))]⟩,
    ⟨(some 2), none, .lalloc [(.int .i64 0), (.int .i64 0), (.int .i64 0), (.slice [] .nil), (.slice [] .nil)] []⟩,
    ⟨none, none, .lst 2 5 (.t 2) (.t 11)⟩])
  (.seq (.region 0 [] [⟨(some 12), none, .lld 1 5 true (.t 1)⟩,
    ⟨(some 13), none, .bslice 5 1 (.agg [(.int .i64 0), (.int .i64 0), (.int .i64 0), (.slice [] .nil), (.slice [] .nil)]) [(0, (.t 12))]⟩,
    ⟨(some 14), none, .build [(.int .i64 0), (.int .i64 0), (.int .i64 0), (.slice [] .nil), (.slice [] .nil)] [(0, 1, (.c (.int .i64 3))), (3, 1, (.t 13))]⟩,
    ⟨(some 15), none, .lld 2 5 true (.t 2)⟩,
    ⟨(some 16), none, .bslice 5 1 (.agg [(.int .i64 0), (.int .i64 0), (.int .i64 0), (.slice [] .nil), (.slice [] .nil)]) [(0, (.t 15))]⟩,
    ⟨(some 17), none, .build [(.int .i64 0), (.int .i64 0), (.int .i64 0), (.slice [] .nil), (.slice [] .nil)] [(0, 1, (.c (.int .i64 7))), (1, 1, (.c (.int .i64 1))), (3, 1, (.t 16))]⟩,
    ⟨(some 18), none, .bslice 5 2 (.agg [(.int .i64 0), (.int .i64 0), (.int .i64 0), (.slice [] .nil), (.slice [] .nil)]) [(0, (.t 14)), (1, (.t 17))]⟩,
    ⟨(some 19), none, .build [(.int .i64 0), (.int .i64 0), (.int .i64 0), (.slice [] .nil), (.slice [] .nil)] [(0, 1, (.c (.int .i64 9))), (3, 1, (.t 18))]⟩,
    ⟨(some 3), none, .lalloc [(.int .i64 0), (.int .i64 0), (.int .i64 0), (.slice [] .nil), (.slice [] .nil)] []⟩,
    ⟨none, none, .lst 3 5 (.t 3) (.t 19)⟩])
  (.seq (.region 0 [] [⟨(some 20), none, .build [(.int .i64 0), (.bool false)] []⟩,
    ⟨(some 21), none, .bslice 2 1 (.agg [(.int .i64 0), (.bool false)]) [(0, (.t 20))]⟩,
    ⟨(some 22), none, .bslice 1 1 (.int .i64 0) [(0, (.c (.int .i64 0)))]⟩,
    ⟨(some 23), none, .lld 3 5 true (.t 3)⟩,
    ⟨(some 24), none, .build [(.str (bs [])), (.slice [] .nil), (.slice [] .nil), (.int .i64 0), (.int .i64 0), (.int .i64 0), (.slice [] .nil), (.slice [] .nil)] [(0, 1, (.c (.str (bs [109, 97, 105, 110])))), (1, 1, (.t 21)), (2, 1, (.t 22)), (3, 5, (.t 23))]⟩,
    ⟨(some 25), none, .bslice 8 1 (.agg [(.str (bs [])), (.slice [] .nil), (.slice [] .nil), (.int .i64 0), (.int .i64 0), (.int .i64 0), (.slice [] .nil), (.slice [] .nil)]) [(0, (.t 24))]⟩,
    ⟨(some 26), none, .build [(.slice [] .nil), (.slice [] .nil)] [(1, 1, (.t 25))]⟩,
    ⟨none, none, .lst 0 2 (.t 0) (.t 26)⟩])
  .ret)))))⟩

/- chiasmus/mach.New -/
def f19 : AFunc := ⟨3, 80, [.tmp 6, .tmp 7], true,
  (.seq (.region 0 [] [⟨(some 3), none, .lbox (.t 0) [28]⟩,
    ⟨(some 6), none, .mv (.c .nilptr)⟩,
    ⟨(some 7), none, .mv (.c (.int .i64 0))⟩])
  (.seq (.seq (.region 0 [] [⟨(some 13), none, .lld 3 2 true (.t 3)⟩,
    ⟨(some 14), none, .call 32 [(.t 13)]⟩,
    ⟨(some 15), none, .bin .neq (.t 14) (.c (.int .i64 0))⟩])
  (.cond (.t 15)
    (.seq (.region 0 [] [⟨(some 6), none, .mv (.c .nilptr)⟩,
      ⟨(some 7), none, .mv (.c (.int .i64 60))⟩])
    .ret)
    .skip))
  (.seq (.seq (.region 0 [] [⟨(some 16), none, .lld 3 2 true (.t 3)⟩,
    ⟨(some 17), none, .call 33 [(.t 16)]⟩,
    ⟨(some 18), none, .bin .neq (.t 17) (.c (.int .i64 0))⟩])
  (.cond (.t 18)
    (.seq (.region 0 [] [⟨(some 6), none, .mv (.c .nilptr)⟩,
      ⟨(some 7), none, .mv (.c (.int .i64 70))⟩])
    .ret)
    .skip))
  (.seq (.seq (.region 0 [] [⟨(some 19), none, .mv (.t 1)⟩,
    ⟨(some 20), none, .bin .lss (.t 19) (.c (.int .i64 0))⟩,
    ⟨(some 21), none, .mv (.t 20)⟩,
    ⟨(some 22), (some (21, false)), .mv (.t 1)⟩,
    ⟨(some 23), (some (21, false)), .bin .gtr (.t 22) (.c (.int .i64 20000))⟩,
    ⟨(some 24), none, .pick (.t 21) (.c (.bool true)) (.t 23)⟩,
    ⟨(some 25), none, .mv (.t 24)⟩,
    ⟨(some 26), (some (25, false)), .mv (.t 2)⟩,
    ⟨(some 27), (some (25, false)), .len .slice (.t 26)⟩,
    ⟨(some 28), (some (25, false)), .lfld 3 1 (.t 3)⟩,
    ⟨(some 29), (some (25, false)), .lld 3 1 false (.t 28)⟩,
    ⟨(some 30), (some (25, false)), .ixa none 8 (.t 29) (.c (.int .i64 0))⟩,
    ⟨(some 31), (some (25, false)), .fld 1 (.t 30)⟩,
    ⟨(some 32), (some (25, false)), .ld 1 false (.t 31)⟩,
    ⟨(some 33), (some (25, false)), .len .slice (.t 32)⟩,
    ⟨(some 34), (some (25, false)), .bin .neq (.t 27) (.t 33)⟩,
    ⟨(some 35), none, .pick (.t 25) (.c (.bool true)) (.t 34)⟩])
  (.cond (.t 35)
    (.seq (.region 0 [] [⟨(some 6), none, .mv (.c .nilptr)⟩,
      ⟨(some 7), none, .mv (.c (.int .i64 1))⟩])
    .ret)
    .skip))
  (.seq (.region 0 [] [⟨(some 37), none, .lld 3 2 true (.t 3)⟩,
    ⟨(some 38), none, .call 34 [(.t 37)]⟩,
    ⟨(some 36), none, .mv (.t 38)⟩,
    ⟨(some 39), none, .ext (.t 36) 0⟩,
    ⟨(some 40), none, .ext (.t 36) 1⟩,
    ⟨(some 8), none, .lalloc [(.slice [] .nil), (.slice [] .nil)] [65, 46]⟩,
    ⟨none, none, .lst 8 2 (.t 8) (.t 39)⟩,
    ⟨(some 9), none, .mv (.t 40)⟩])
  (.seq (.seq (.region 0 [] [⟨(some 41), none, .mv (.t 9)⟩,
    ⟨(some 42), none, .bin .neq (.t 41) (.c (.int .i64 0))⟩])
  (.cond (.t 42)
    (.seq (.region 0 [] [⟨(some 43), none, .mv (.t 9)⟩,
      ⟨(some 6), none, .mv (.c .nilptr)⟩,
      ⟨(some 7), none, .mv (.t 43)⟩])
    .ret)
    .skip))
  (.seq (.drawn 1 [] [⟨0, ⟨(some 44), none, .lld 8 2 true (.t 8)⟩, [], false⟩,
    ⟨1, ⟨(some 45), none, .mv (.t 1)⟩, [], false⟩,
    ⟨2, ⟨(some 46), none, .lfld 8 1 (.t 8)⟩, [], false⟩,
    ⟨3, ⟨(some 47), none, .lld 8 1 false (.t 46)⟩, [], false⟩,
    ⟨4, ⟨(some 48), none, .ixa none 8 (.t 47) (.c (.int .i64 0))⟩, [], false⟩,
    ⟨5, ⟨(some 49), none, .fld 3 (.t 48)⟩, [], false⟩,
    ⟨6, ⟨(some 50), none, .ld 5 true (.t 49)⟩, [], false⟩,
    ⟨7, ⟨(some 51), none, .build [(.slice [] .nil), (.slice [] .nil), (.int .i64 0), (.int .i64 0), (.int .i64 0), (.int .i64 0), (.slice [] .nil), (.slice [] .nil), .nilptr, (.int .i64 0), (.int .i64 0), (.slice [] .nil), (.int .i64 0), (.bool false)] [(0, 2, (.t 44)), (2, 1, (.t 45)), (3, 5, (.t 50))]⟩, [], false⟩,
    ⟨8, ⟨(some 52), none, .box 0 (.t 51)⟩, [], false⟩,
    ⟨9, ⟨(some 10), none, .mv (.t 52)⟩, [], false⟩])
  (.seq (.seq (.region 0 [] [⟨(some 53), none, .mv (.t 2)⟩,
    ⟨(some 54), none, .len .slice (.t 53)⟩,
    ⟨(some 55), none, .mv (.c (.int .i64 0))⟩])
  (.block 0
    (.loop
      (.seq (.region 0 [] [⟨(some 56), none, .bin .lss (.t 55) (.t 54)⟩])
      (.seq (.cond (.t 56)
        .skip
        (.exit 0))
      (.seq (.block 1
        (.seq (.region 0 [] [⟨(some 57), none, .mv (.t 55)⟩,
          ⟨(some 58), none, .ixa none 1 (.t 53) (.t 55)⟩,
          ⟨(some 59), none, .ld 1 false (.t 58)⟩,
          ⟨(some 11), none, .mv (.t 57)⟩,
          ⟨(some 12), none, .mv (.t 59)⟩])
        (.drawn 0 [] [⟨0, ⟨(some 60), none, .mv (.t 10)⟩, [], false⟩,
          ⟨1, ⟨(some 61), none, .mv (.t 10)⟩, [], false⟩,
          ⟨2, ⟨(some 62), none, .nilck (.t 61)⟩, [], false⟩,
          ⟨3, ⟨(some 63), none, .fld 8 (.t 62)⟩, [], false⟩,
          ⟨4, ⟨(some 64), none, .ld 1 false (.t 63)⟩, [], false⟩,
          ⟨5, ⟨(some 65), none, .lfld 8 1 (.t 8)⟩, [], false⟩,
          ⟨6, ⟨(some 66), none, .lld 8 1 false (.t 65)⟩, [], false⟩,
          ⟨7, ⟨(some 67), none, .ixa none 8 (.t 66) (.c (.int .i64 0))⟩, [], false⟩,
          ⟨8, ⟨(some 68), none, .fld 2 (.t 67)⟩, [], false⟩,
          ⟨9, ⟨(some 69), none, .ld 1 false (.t 68)⟩, [], false⟩,
          ⟨10, ⟨(some 70), none, .mv (.t 11)⟩, [], false⟩,
          ⟨11, ⟨(some 71), none, .ixa none 1 (.t 69) (.t 70)⟩, [], false⟩,
          ⟨12, ⟨(some 72), none, .ld 1 false (.t 71)⟩, [], false⟩,
          ⟨13, ⟨(some 73), none, .mv (.t 12)⟩, [], false⟩,
          ⟨14, ⟨(some 74), none, .mkif 85 (.t 73)⟩, [], false⟩,
          ⟨15, ⟨(some 75), none, .call 35 [(.t 64), (.t 72), (.c (.bool false)), (.t 74)]⟩, [], false⟩,
          ⟨16, ⟨(some 76), none, .nilck (.t 60)⟩, [], false⟩,
          ⟨17, ⟨(some 77), none, .fld 8 (.t 76)⟩, [], false⟩,
          ⟨18, ⟨none, none, .st 1 (.t 77) (.t 75)⟩, [], false⟩])))
      (.region 0 [] [⟨(some 78), none, .bin .add (.t 55) (.c (.int .i64 1))⟩,
        ⟨(some 55), none, .mv (.t 78)⟩])))))))
  (.seq (.region 0 [] [⟨(some 79), none, .mv (.t 10)⟩,
    ⟨(some 6), none, .mv (.t 79)⟩,
    ⟨(some 7), none, .mv (.c (.int .i64 0))⟩])
  .ret)))))))))⟩

/- (*chiasmus/mach.names).find -/
def f20 : AFunc := ⟨3, 32, [.tmp 6, .tmp 7], true,
  (.seq (.region 0 [] [⟨(some 6), none, .mv (.c (.int .i64 0))⟩,
    ⟨(some 7), none, .mv (.c (.bool false))⟩])
  (.seq (.block 0
    (.loop
      (.seq (.seq (.region 0 [] [⟨(some 8), none, .mv (.t 0)⟩,
        ⟨(some 9), none, .eqv true .ptr (.t 8) (.c .nilptr)⟩])
      (.cond (.t 9)
        .skip
        (.exit 0)))
      (.seq (.block 1
        (.seq (.region 0 [] [⟨(some 14), none, .mv (.t 0)⟩,
          ⟨(some 15), none, .nilck (.t 14)⟩,
          ⟨(some 16), none, .fld 0 (.t 15)⟩,
          ⟨(some 17), none, .ld 1 false (.t 16)⟩,
          ⟨(some 18), none, .mv (.t 1)⟩,
          ⟨(some 19), none, .bin .eql (.t 17) (.t 18)⟩,
          ⟨(some 20), none, .mv (.t 19)⟩,
          ⟨(some 21), (some (20, true)), .mv (.t 0)⟩,
          ⟨(some 22), (some (20, true)), .nilck (.t 21)⟩,
          ⟨(some 23), (some (20, true)), .fld 2 (.t 22)⟩,
          ⟨(some 24), (some (20, true)), .ld 1 false (.t 23)⟩,
          ⟨(some 25), (some (20, true)), .mv (.t 2)⟩,
          ⟨(some 26), (some (20, true)), .eqv false .bool (.t 24) (.t 25)⟩,
          ⟨(some 27), none, .pick (.t 20) (.t 26) (.c (.bool false))⟩])
        (.cond (.t 27)
          (.seq (.region 0 [] [⟨(some 28), none, .mv (.t 0)⟩,
            ⟨(some 29), none, .nilck (.t 28)⟩,
            ⟨(some 30), none, .fld 1 (.t 29)⟩,
            ⟨(some 31), none, .ld 1 false (.t 30)⟩,
            ⟨(some 6), none, .mv (.t 31)⟩,
            ⟨(some 7), none, .mv (.c (.bool true))⟩])
          .ret)
          .skip)))
      (.region 0 [] [⟨(some 10), none, .mv (.t 0)⟩,
        ⟨(some 11), none, .nilck (.t 10)⟩,
        ⟨(some 12), none, .fld 3 (.t 11)⟩,
        ⟨(some 13), none, .ld 1 false (.t 12)⟩,
        ⟨(some 0), none, .mv (.t 13)⟩])))))
  (.seq (.region 0 [] [⟨(some 6), none, .mv (.c (.int .i64 0))⟩,
    ⟨(some 7), none, .mv (.c (.bool false))⟩])
  .ret)))⟩

/- (*chiasmus/mach.reader).enter -/
def f21 : AFunc := ⟨1, 32, [.tmp 2], true,
  (.seq (.region 1 [] [⟨(some 1), none, .box 0 (.t 0)⟩,
    ⟨(some 2), none, .mv (.c .nilfunc)⟩])
  (.seq (.region 0 [] [⟨(some 3), none, .ld 1 false (.t 1)⟩,
    ⟨(some 4), none, .nilck (.t 3)⟩,
    ⟨(some 5), none, .fld 0 (.t 4)⟩,
    ⟨(some 6), none, .ld 1 false (.t 5)⟩,
    ⟨(some 7), none, .bin .add (.t 6) (.c (.int .i64 1))⟩,
    ⟨(some 8), none, .nilck (.t 3)⟩,
    ⟨(some 9), none, .fld 0 (.t 8)⟩,
    ⟨none, none, .st 1 (.t 9) (.t 7)⟩])
  (.seq (.region 0 [] [⟨(some 10), none, .ld 1 false (.t 1)⟩,
    ⟨(some 11), none, .nilck (.t 10)⟩,
    ⟨(some 12), none, .fld 1 (.t 11)⟩,
    ⟨(some 13), none, .ld 1 false (.t 12)⟩,
    ⟨(some 14), none, .bin .add (.t 13) (.c (.int .i64 1))⟩,
    ⟨(some 15), none, .nilck (.t 10)⟩,
    ⟨(some 16), none, .fld 1 (.t 15)⟩,
    ⟨none, none, .st 1 (.t 16) (.t 14)⟩])
  (.seq (.seq (.region 0 [] [⟨(some 17), none, .ld 1 false (.t 1)⟩,
    ⟨(some 18), none, .nilck (.t 17)⟩,
    ⟨(some 19), none, .fld 0 (.t 18)⟩,
    ⟨(some 20), none, .ld 1 false (.t 19)⟩,
    ⟨(some 21), none, .bin .gtr (.t 20) (.c (.int .i64 30000))⟩,
    ⟨(some 22), none, .mv (.t 21)⟩,
    ⟨(some 23), (some (22, false)), .ld 1 false (.t 1)⟩,
    ⟨(some 24), (some (22, false)), .nilck (.t 23)⟩,
    ⟨(some 25), (some (22, false)), .fld 1 (.t 24)⟩,
    ⟨(some 26), (some (22, false)), .ld 1 false (.t 25)⟩,
    ⟨(some 27), (some (22, false)), .bin .gtr (.t 26) (.c (.int .i64 4000))⟩,
    ⟨(some 28), none, .pick (.t 22) (.c (.bool true)) (.t 27)⟩])
  (.cond (.t 28)
    (.region 0 [] [⟨(some 29), none, .build [] []⟩,
      ⟨(some 30), none, .mkif 48 (.t 29)⟩,
      ⟨none, none, .pnc (.t 30)⟩])
    .skip))
  (.seq (.region 0 [] [⟨(some 31), none, .mkfn 36 [] [(.t 1)]⟩,
    ⟨(some 2), none, .mv (.t 31)⟩])
  .ret)))))⟩

/- (*chiasmus/mach.scope).find -/
def f22 : AFunc := ⟨3, 28, [.tmp 6, .tmp 7], true,
  (.seq (.region 0 [] [⟨(some 6), none, .mv (.c .niliface)⟩,
    ⟨(some 7), none, .mv (.c (.bool false))⟩])
  (.seq (.block 0
    (.loop
      (.seq (.seq (.region 0 [] [⟨(some 10), none, .mv (.t 0)⟩,
        ⟨(some 11), none, .eqv true .ptr (.t 10) (.c .nilptr)⟩])
      (.cond (.t 11)
        .skip
        (.exit 0)))
      (.seq (.block 1
        (.seq (.region 0 [] [⟨(some 17), none, .mv (.t 0)⟩,
          ⟨(some 18), none, .nilck (.t 17)⟩,
          ⟨(some 19), none, .fld 0 (.t 18)⟩,
          ⟨(some 20), none, .ld 1 false (.t 19)⟩,
          ⟨(some 21), none, .mv (.t 1)⟩,
          ⟨(some 22), none, .mv (.t 2)⟩,
          ⟨(some 23), none, .calli [(115, 146), (116, 147)] (.t 20) [(.t 21), (.t 22)]⟩,
          ⟨(some 16), none, .mv (.t 23)⟩,
          ⟨(some 24), none, .ext (.t 16) 0⟩,
          ⟨(some 25), none, .ext (.t 16) 1⟩,
          ⟨(some 8), none, .mv (.t 24)⟩,
          ⟨(some 9), none, .mv (.t 25)⟩])
        (.seq (.region 0 [] [⟨(some 26), none, .mv (.t 9)⟩])
        (.cond (.t 26)
          (.seq (.region 0 [] [⟨(some 27), none, .mv (.t 8)⟩,
            ⟨(some 6), none, .mv (.t 27)⟩,
            ⟨(some 7), none, .mv (.c (.bool true))⟩])
          .ret)
          .skip))))
      (.region 0 [] [⟨(some 12), none, .mv (.t 0)⟩,
        ⟨(some 13), none, .nilck (.t 12)⟩,
        ⟨(some 14), none, .fld 1 (.t 13)⟩,
        ⟨(some 15), none, .ld 1 false (.t 14)⟩,
        ⟨(some 0), none, .mv (.t 15)⟩])))))
  (.seq (.region 0 [] [⟨(some 6), none, .mv (.c .niliface)⟩,
    ⟨(some 7), none, .mv (.c (.bool false))⟩])
  .ret)))⟩

/- (*chiasmus/mach.reader).value -/
def f23 : AFunc := ⟨2, 48, [.lcell 4 4 5 true], true,
  (.seq (.region 0 [] [⟨(some 4), none, .lalloc [(.int .i64 0), (.int .i64 0), (.int .i64 0), (.slice [] .nil), (.slice [] .nil)] []⟩])
  (.seq (.seq (.region 0 [] [⟨(some 10), none, .mv (.t 1)⟩])
  (.block 0
    (.seq (.region 0 [] [⟨(some 11), none, .tas 100 (.agg [(.int .i64 0), (.int .i64 0), (.int .i64 0), (.slice [] .nil), (.slice [] .nil), .nilptr]) true (.t 10)⟩,
      ⟨(some 12), none, .ext (.t 11) 1⟩,
      ⟨(some 13), none, .ext (.t 11) 0⟩])
    (.cond (.t 12)
      (.seq (.region 0 [] [⟨(some 5), none, .lalloc [(.int .i64 0), (.int .i64 0), (.int .i64 0), (.slice [] .nil), (.slice [] .nil), .nilptr] [17, 15]⟩,
        ⟨none, none, .lst 5 6 (.t 5) (.t 13)⟩])
      (.seq (.region 0 [] [⟨(some 14), none, .mv (.t 0)⟩,
        ⟨(some 15), none, .lfld 5 0 (.t 5)⟩,
        ⟨(some 16), none, .lld 5 5 true (.t 15)⟩,
        ⟨(some 17), none, .lfld 5 5 (.t 5)⟩,
        ⟨(some 18), none, .lld 5 1 false (.t 17)⟩,
        ⟨(some 19), none, .call 13 [(.t 14), (.t 16), (.t 18), (.c .nilptr)]⟩,
        ⟨none, none, .lst 4 5 (.t 4) (.t 19)⟩])
      .ret))
      (.seq (.region 0 [] [⟨(some 20), none, .tas 102 (.agg [(.int .i64 0), (.int .i64 0), (.int .i64 0), (.slice [] .nil), (.slice [] .nil), (.slice [] .nil)]) true (.t 10)⟩,
        ⟨(some 21), none, .ext (.t 20) 1⟩,
        ⟨(some 22), none, .ext (.t 20) 0⟩])
      (.cond (.t 21)
        (.seq (.region 0 [] [⟨(some 6), none, .lalloc [(.int .i64 0), (.int .i64 0), (.int .i64 0), (.slice [] .nil), (.slice [] .nil), (.slice [] .nil)] [27, 25]⟩,
          ⟨none, none, .lst 6 6 (.t 6) (.t 22)⟩])
        (.seq (.region 0 [] [⟨(some 23), none, .mv (.t 0)⟩,
          ⟨(some 24), none, .call 21 [(.t 23)]⟩,
          ⟨none, none, .dfr (.t 24) []⟩])
        (.seq (.region 0 [] [⟨(some 25), none, .lfld 6 0 (.t 6)⟩,
          ⟨(some 26), none, .lld 6 5 true (.t 25)⟩,
          ⟨(some 7), none, .lalloc [(.int .i64 0), (.int .i64 0), (.int .i64 0), (.slice [] .nil), (.slice [] .nil)] [41, 34]⟩,
          ⟨none, none, .lst 7 5 (.t 7) (.t 26)⟩])
        (.seq (.seq (.region 0 [] [⟨(some 27), none, .lfld 6 5 (.t 6)⟩,
          ⟨(some 28), none, .lld 6 1 false (.t 27)⟩,
          ⟨(some 29), none, .len .slice (.t 28)⟩,
          ⟨(some 30), none, .mv (.c (.int .i64 0))⟩])
        (.block 1
          (.loop
            (.seq (.region 0 [] [⟨(some 31), none, .bin .lss (.t 30) (.t 29)⟩])
            (.seq (.cond (.t 31)
              .skip
              (.exit 1))
            (.seq (.block 2
              (.seq (.region 0 [] [⟨(some 32), none, .ixa none 1 (.t 28) (.t 30)⟩,
                ⟨(some 33), none, .ld 1 false (.t 32)⟩,
                ⟨(some 9), none, .mv (.t 33)⟩])
              (.drawn 1 [] [⟨0, ⟨(some 34), none, .lfld 7 3 (.t 7)⟩, [], false⟩,
                ⟨1, ⟨(some 35), none, .lld 7 1 false (.t 34)⟩, [], false⟩,
                ⟨2, ⟨(some 36), none, .mv (.t 0)⟩, [], false⟩,
                ⟨3, ⟨(some 37), none, .mv (.t 9)⟩, [], false⟩,
                ⟨4, ⟨(some 38), none, .call 23 [(.t 36), (.t 37)]⟩, [], false⟩,
                ⟨5, ⟨(some 39), none, .bslice 5 1 (.agg [(.int .i64 0), (.int .i64 0), (.int .i64 0), (.slice [] .nil), (.slice [] .nil)]) [(0, (.t 38))]⟩, [], false⟩,
                ⟨6, ⟨(some 40), none, .app 0 5 72 (.t 35) (.t 39)⟩, [], false⟩,
                ⟨7, ⟨(some 41), none, .lfld 7 3 (.t 7)⟩, [], false⟩,
                ⟨8, ⟨none, none, .lst 7 1 (.t 41) (.t 40)⟩, [], false⟩])))
            (.region 0 [] [⟨(some 42), none, .bin .add (.t 30) (.c (.int .i64 1))⟩,
              ⟨(some 30), none, .mv (.t 42)⟩])))))))
        (.seq (.region 0 [] [⟨(some 43), none, .lld 7 5 true (.t 7)⟩,
          ⟨none, none, .lst 4 5 (.t 4) (.t 43)⟩])
        .ret)))))
        .skip))))))
  (.seq (.region 0 [] [⟨(some 44), none, .mv (.t 0)⟩,
    ⟨(some 45), none, .call 21 [(.t 44)]⟩,
    ⟨none, none, .dfr (.t 45) []⟩])
  (.seq (.region 0 [] [⟨(some 46), none, .mv (.t 1)⟩,
    ⟨(some 47), none, .calli [(60, 13), (85, 143), (100, 144), (102, 145)] (.t 46) []⟩,
    ⟨none, none, .lst 4 5 (.t 4) (.t 47)⟩])
  .ret))))⟩

/- chiasmus/mach.head -/
def f24 : AFunc := ⟨1, 10, [.lcell 2 2 5 true], true,
  (.seq (.region 0 [] [⟨(some 1), none, .lbox (.t 0) [7, 5, 3]⟩,
    ⟨(some 2), none, .lalloc [(.int .i64 0), (.int .i64 0), (.int .i64 0), (.slice [] .nil), (.slice [] .nil)] []⟩])
  (.seq (.region 0 [] [⟨(some 3), none, .lfld 1 0 (.t 1)⟩,
    ⟨(some 4), none, .lld 1 1 false (.t 3)⟩,
    ⟨(some 5), none, .lfld 1 1 (.t 1)⟩,
    ⟨(some 6), none, .lld 1 1 false (.t 5)⟩,
    ⟨(some 7), none, .lfld 1 2 (.t 1)⟩,
    ⟨(some 8), none, .lld 1 1 false (.t 7)⟩,
    ⟨(some 9), none, .build [(.int .i64 0), (.int .i64 0), (.int .i64 0), (.slice [] .nil), (.slice [] .nil)] [(0, 1, (.t 4)), (1, 1, (.t 6)), (2, 1, (.t 8))]⟩,
    ⟨none, none, .lst 2 5 (.t 2) (.t 9)⟩])
  .ret))⟩

/- (*chiasmus/mach.names).bind -/
def f25 : AFunc := ⟨3, 14, [.tmp 6], true,
  (.seq (.region 0 [] [⟨(some 6), none, .mv (.c .nilptr)⟩])
  (.seq (.region 1 [] [⟨(some 7), none, .mv (.t 1)⟩,
    ⟨(some 8), none, .mv (.t 0)⟩,
    ⟨(some 9), none, .call 37 [(.t 8)]⟩,
    ⟨(some 10), none, .mv (.t 2)⟩,
    ⟨(some 11), none, .mv (.t 0)⟩,
    ⟨(some 12), none, .build [(.int .i64 0), (.int .i64 0), (.bool false), .nilptr] [(0, 1, (.t 7)), (1, 1, (.t 9)), (2, 1, (.t 10)), (3, 1, (.t 11))]⟩,
    ⟨(some 13), none, .box 0 (.t 12)⟩,
    ⟨(some 6), none, .mv (.t 13)⟩])
  .ret))⟩

/- (*chiasmus/mach.Machine).cut -/
def f26 : AFunc := ⟨4, 94, [.tmp 8], true,
  (.seq (.region 0 [] [⟨(some 8), none, .mv (.c (.bool false))⟩])
  (.seq (.region 0 [] [⟨(some 18), none, .mv (.t 0)⟩,
    ⟨(some 19), none, .nilck (.t 18)⟩,
    ⟨(some 20), none, .fld 0 (.t 19)⟩,
    ⟨(some 21), none, .fld 0 (.t 20)⟩,
    ⟨(some 22), none, .ld 1 false (.t 21)⟩,
    ⟨(some 23), none, .mv (.t 1)⟩,
    ⟨(some 24), none, .call 38 [(.t 22), (.t 23)]⟩,
    ⟨(some 9), none, .mv (.t 24)⟩])
  (.seq (.region 0 [] [⟨(some 26), none, .mv (.t 2)⟩,
    ⟨(some 27), none, .call 39 [(.t 26), (.c (.int .i64 3))]⟩,
    ⟨(some 25), none, .mv (.t 27)⟩,
    ⟨(some 28), none, .ext (.t 25) 0⟩,
    ⟨(some 29), none, .ext (.t 25) 1⟩,
    ⟨(some 10), none, .lalloc [(.int .i64 0), (.int .i64 0), (.int .i64 0), (.slice [] .nil), (.slice [] .nil), .nilptr] [53, 52, 50, 46, 45]⟩,
    ⟨none, none, .lst 10 6 (.t 10) (.t 28)⟩,
    ⟨(some 11), none, .mv (.t 29)⟩])
  (.seq (.region 0 [] [⟨(some 31), none, .mv (.t 3)⟩,
    ⟨(some 32), none, .call 39 [(.t 31), (.c (.int .i64 7))]⟩,
    ⟨(some 30), none, .mv (.t 32)⟩,
    ⟨(some 33), none, .ext (.t 30) 0⟩,
    ⟨(some 34), none, .ext (.t 30) 1⟩,
    ⟨(some 12), none, .lalloc [(.int .i64 0), (.int .i64 0), (.int .i64 0), (.slice [] .nil), (.slice [] .nil), .nilptr] [69, 68, 66, 62, 61]⟩,
    ⟨none, none, .lst 12 6 (.t 12) (.t 33)⟩,
    ⟨(some 13), none, .mv (.t 34)⟩])
  (.seq (.block 0
    (.seq (.region 0 [] [⟨(some 36), none, .mv (.t 11)⟩,
      ⟨(some 37), none, .mv (.t 36)⟩,
      ⟨(some 38), (some (37, true)), .mv (.t 9)⟩,
      ⟨(some 39), (some (37, true)), .mv (.t 38)⟩,
      ⟨(some 40), (some (39, false)), .mv (.t 13)⟩,
      ⟨(some 41), (some (39, false)), .un .not (.t 40)⟩,
      ⟨(some 42), (some (37, true)), .pick (.t 39) (.c (.bool true)) (.t 41)⟩,
      ⟨(some 43), none, .pick (.t 37) (.t 42) (.c (.bool false))⟩,
      ⟨(some 35), none, .mv (.t 43)⟩])
    (.cond (.t 35)
      (.seq (.drawn 0 [] [⟨0, ⟨(some 44), none, .mv (.t 0)⟩, [], false⟩,
        ⟨1, ⟨(some 45), none, .lfld 10 0 (.t 10)⟩, [], false⟩,
        ⟨2, ⟨(some 46), none, .lfld 10 3 (.t 45)⟩, [], false⟩,
        ⟨3, ⟨(some 47), none, .lld 10 1 false (.t 46)⟩, [], false⟩,
        ⟨4, ⟨(some 48), none, .ixa none 5 (.t 47) (.c (.int .i64 0))⟩, [], false⟩,
        ⟨5, ⟨(some 49), none, .ld 5 true (.t 48)⟩, [12], false⟩,
        ⟨6, ⟨(some 50), none, .lfld 10 5 (.t 10)⟩, [], false⟩,
        ⟨7, ⟨(some 51), none, .lld 10 1 false (.t 50)⟩, [], false⟩,
        ⟨8, ⟨(some 52), none, .lfld 10 0 (.t 10)⟩, [], false⟩,
        ⟨9, ⟨(some 53), none, .lfld 10 1 (.t 52)⟩, [], false⟩,
        ⟨10, ⟨(some 54), none, .lld 10 1 false (.t 53)⟩, [], false⟩,
        ⟨11, ⟨(some 55), none, .mv (.t 3)⟩, [], false⟩,
        ⟨12, ⟨(some 56), none, .call 35 [(.t 51), (.t 54), (.c (.bool true)), (.t 55)]⟩, [5], false⟩,
        ⟨13, ⟨(some 57), none, .call 31 [(.t 44), (.t 49), (.t 56)]⟩, [], false⟩,
        ⟨14, ⟨(some 8), none, .mv (.t 57)⟩, [], false⟩])
      .ret)
      (.seq (.region 0 [] [⟨(some 59), none, .mv (.t 13)⟩,
        ⟨(some 58), none, .mv (.t 59)⟩])
      (.cond (.t 58)
        (.seq (.drawn 0 [] [⟨0, ⟨(some 60), none, .mv (.t 0)⟩, [], false⟩,
          ⟨1, ⟨(some 61), none, .lfld 12 0 (.t 12)⟩, [], false⟩,
          ⟨2, ⟨(some 62), none, .lfld 12 3 (.t 61)⟩, [], false⟩,
          ⟨3, ⟨(some 63), none, .lld 12 1 false (.t 62)⟩, [], false⟩,
          ⟨4, ⟨(some 64), none, .ixa none 5 (.t 63) (.c (.int .i64 0))⟩, [], false⟩,
          ⟨5, ⟨(some 65), none, .ld 5 true (.t 64)⟩, [12], false⟩,
          ⟨6, ⟨(some 66), none, .lfld 12 5 (.t 12)⟩, [], false⟩,
          ⟨7, ⟨(some 67), none, .lld 12 1 false (.t 66)⟩, [], false⟩,
          ⟨8, ⟨(some 68), none, .lfld 12 0 (.t 12)⟩, [], false⟩,
          ⟨9, ⟨(some 69), none, .lfld 12 1 (.t 68)⟩, [], false⟩,
          ⟨10, ⟨(some 70), none, .lld 12 1 false (.t 69)⟩, [], false⟩,
          ⟨11, ⟨(some 71), none, .mv (.t 2)⟩, [], false⟩,
          ⟨12, ⟨(some 72), none, .call 35 [(.t 67), (.t 70), (.c (.bool false)), (.t 71)]⟩, [5], false⟩,
          ⟨13, ⟨(some 73), none, .call 31 [(.t 60), (.t 65), (.t 72)]⟩, [], false⟩,
          ⟨14, ⟨(some 8), none, .mv (.t 73)⟩, [], false⟩])
        .ret)
        .skip)))))
  (.seq (.seq (.region 0 [] [⟨(some 75), none, .mv (.t 3)⟩,
    ⟨(some 76), none, .call 39 [(.t 75), (.c (.int .i64 8))]⟩,
    ⟨(some 74), none, .mv (.t 76)⟩,
    ⟨(some 77), none, .ext (.t 74) 0⟩,
    ⟨(some 78), none, .ext (.t 74) 1⟩,
    ⟨(some 14), none, .lalloc [(.int .i64 0), (.int .i64 0), (.int .i64 0), (.slice [] .nil), (.slice [] .nil), .nilptr] []⟩,
    ⟨none, none, .lst 14 6 (.t 14) (.t 77)⟩,
    ⟨(some 15), none, .mv (.t 78)⟩])
  (.seq (.region 0 [] [⟨(some 79), none, .mv (.t 15)⟩])
  (.cond (.t 79)
    (.seq (.region 0 [] [⟨(some 80), none, .mv (.t 0)⟩,
      ⟨(some 81), none, .lld 14 6 true (.t 14)⟩,
      ⟨(some 82), none, .mv (.t 2)⟩,
      ⟨(some 83), none, .call 40 [(.t 80), (.t 81), (.t 82)]⟩,
      ⟨(some 8), none, .mv (.t 83)⟩])
    .ret)
    .skip)))
  (.seq (.seq (.region 0 [] [⟨(some 85), none, .mv (.t 2)⟩,
    ⟨(some 86), none, .call 39 [(.t 85), (.c (.int .i64 4))]⟩,
    ⟨(some 84), none, .mv (.t 86)⟩,
    ⟨(some 87), none, .ext (.t 84) 0⟩,
    ⟨(some 88), none, .ext (.t 84) 1⟩,
    ⟨(some 16), none, .lalloc [(.int .i64 0), (.int .i64 0), (.int .i64 0), (.slice [] .nil), (.slice [] .nil), .nilptr] []⟩,
    ⟨none, none, .lst 16 6 (.t 16) (.t 87)⟩,
    ⟨(some 17), none, .mv (.t 88)⟩])
  (.seq (.region 0 [] [⟨(some 89), none, .mv (.t 17)⟩])
  (.cond (.t 89)
    (.seq (.region 0 [] [⟨(some 90), none, .mv (.t 0)⟩,
      ⟨(some 91), none, .lld 16 6 true (.t 16)⟩,
      ⟨(some 92), none, .mv (.t 3)⟩,
      ⟨(some 93), none, .call 40 [(.t 90), (.t 91), (.t 92)]⟩,
      ⟨(some 8), none, .mv (.t 93)⟩])
    .ret)
    .skip)))
  (.seq (.region 0 [] [⟨(some 8), none, .mv (.c (.bool false))⟩])
  .ret))))))))⟩

/- (*chiasmus/mach.scope).of -/
def f27 : AFunc := ⟨2, 43, [.tmp 4], true,
  (.seq (.region 0 [] [⟨(some 3), none, .lbox (.t 1) [34, 25, 16, 14, 7]⟩,
    ⟨(some 4), none, .mv (.c .niliface)⟩])
  (.seq (.seq (.region 0 [] [⟨(some 7), none, .lfld 3 0 (.t 3)⟩,
    ⟨(some 8), none, .lld 3 1 false (.t 7)⟩])
  (.block 0
    (.seq (.seq (.region 0 [] [⟨(some 10), none, .bin .eql (.t 8) (.c (.int .i64 0))⟩,
      ⟨(some 9), none, .mv (.t 10)⟩])
    (.cond (.t 9)
      .skip
      (.region 0 [] [⟨(some 11), none, .bin .eql (.t 8) (.c (.int .i64 5))⟩,
        ⟨(some 9), none, .mv (.t 11)⟩])))
    (.cond (.t 9)
      (.seq (.region 0 [] [⟨(some 13), none, .mv (.t 0)⟩,
        ⟨(some 14), none, .lfld 3 1 (.t 3)⟩,
        ⟨(some 15), none, .lld 3 1 false (.t 14)⟩,
        ⟨(some 16), none, .lfld 3 0 (.t 3)⟩,
        ⟨(some 17), none, .lld 3 1 false (.t 16)⟩,
        ⟨(some 18), none, .bin .eql (.t 17) (.c (.int .i64 5))⟩,
        ⟨(some 19), none, .call 22 [(.t 13), (.t 15), (.t 18)]⟩,
        ⟨(some 12), none, .mv (.t 19)⟩,
        ⟨(some 20), none, .ext (.t 12) 0⟩,
        ⟨(some 21), none, .ext (.t 12) 1⟩,
        ⟨(some 5), none, .mv (.t 20)⟩,
        ⟨(some 6), none, .mv (.t 21)⟩])
      (.seq (.region 0 [] [⟨(some 22), none, .mv (.t 5)⟩,
        ⟨(some 4), none, .mv (.t 22)⟩])
      .ret))
      (.seq (.region 0 [] [⟨(some 24), none, .bin .eql (.t 8) (.c (.int .i64 1))⟩,
        ⟨(some 23), none, .mv (.t 24)⟩])
      (.cond (.t 23)
        (.seq (.region 0 [] [⟨(some 25), none, .lfld 3 1 (.t 3)⟩,
          ⟨(some 26), none, .lld 3 1 false (.t 25)⟩,
          ⟨(some 27), none, .mkif 85 (.t 26)⟩,
          ⟨(some 4), none, .mv (.t 27)⟩])
        .ret)
        (.seq (.seq (.region 0 [] [⟨(some 29), none, .bin .eql (.t 8) (.c (.int .i64 2))⟩,
          ⟨(some 28), none, .mv (.t 29)⟩])
        (.cond (.t 28)
          .skip
          (.region 0 [] [⟨(some 30), none, .bin .eql (.t 8) (.c (.int .i64 6))⟩,
            ⟨(some 28), none, .mv (.t 30)⟩])))
        (.cond (.t 28)
          (.seq (.drawn 0 [] [⟨0, ⟨(some 31), none, .lld 3 5 true (.t 3)⟩, [], false⟩,
            ⟨1, ⟨(some 32), none, .call 24 [(.t 31)]⟩, [], false⟩,
            ⟨2, ⟨(some 33), none, .mv (.t 0)⟩, [], false⟩,
            ⟨3, ⟨(some 34), none, .lfld 3 3 (.t 3)⟩, [], false⟩,
            ⟨4, ⟨(some 35), none, .lld 3 1 false (.t 34)⟩, [], false⟩,
            ⟨5, ⟨(some 36), none, .call 29 [(.t 33), (.t 35)]⟩, [], false⟩,
            ⟨6, ⟨(some 37), none, .build [(.int .i64 0), (.int .i64 0), (.int .i64 0), (.slice [] .nil), (.slice [] .nil), (.slice [] .nil)] [(0, 5, (.t 32)), (5, 1, (.t 36))]⟩, [], false⟩,
            ⟨7, ⟨(some 38), none, .mkif 102 (.t 37)⟩, [], false⟩,
            ⟨8, ⟨(some 4), none, .mv (.t 38)⟩, [], false⟩])
          .ret)
          .skip))))))))
  (.seq (.region 0 [] [⟨(some 39), none, .lld 3 5 true (.t 3)⟩,
    ⟨(some 40), none, .mv (.t 0)⟩,
    ⟨(some 41), none, .build [(.int .i64 0), (.int .i64 0), (.int .i64 0), (.slice [] .nil), (.slice [] .nil), .nilptr] [(0, 5, (.t 39)), (5, 1, (.t 40))]⟩,
    ⟨(some 42), none, .mkif 100 (.t 41)⟩,
    ⟨(some 4), none, .mv (.t 42)⟩])
  .ret)))⟩

/- (*chiasmus/mach.Machine).call -/
def f28 : AFunc := ⟨3, 37, [.tmp 6], true,
  (.seq (.region 0 [] [⟨(some 4), none, .lbox (.t 1) [33, 23, 18]⟩,
    ⟨(some 6), none, .mv (.c (.bool false))⟩])
  (.seq (.region 0 [] [⟨(some 7), none, .mv (.c .nilptr)⟩])
  (.seq (.seq (.region 0 [] [⟨(some 10), none, .mv (.t 2)⟩,
    ⟨(some 11), none, .len .slice (.t 10)⟩,
    ⟨(some 12), none, .mv (.c (.int .i64 0))⟩])
  (.block 0
    (.loop
      (.seq (.region 0 [] [⟨(some 13), none, .bin .lss (.t 12) (.t 11)⟩])
      (.seq (.cond (.t 13)
        .skip
        (.exit 0))
      (.seq (.block 1
        (.seq (.region 0 [] [⟨(some 14), none, .mv (.t 12)⟩,
          ⟨(some 15), none, .ixa none 1 (.t 10) (.t 12)⟩,
          ⟨(some 16), none, .ld 1 false (.t 15)⟩,
          ⟨(some 8), none, .mv (.t 14)⟩,
          ⟨(some 9), none, .mv (.t 16)⟩])
        (.drawn 0 [] [⟨0, ⟨(some 17), none, .mv (.t 7)⟩, [], false⟩,
          ⟨1, ⟨(some 18), none, .lfld 4 2 (.t 4)⟩, [], false⟩,
          ⟨2, ⟨(some 19), none, .lld 4 1 false (.t 18)⟩, [], false⟩,
          ⟨3, ⟨(some 20), none, .mv (.t 8)⟩, [], false⟩,
          ⟨4, ⟨(some 21), none, .ixa none 1 (.t 19) (.t 20)⟩, [], false⟩,
          ⟨5, ⟨(some 22), none, .ld 1 false (.t 21)⟩, [], false⟩,
          ⟨6, ⟨(some 23), none, .lfld 4 1 (.t 4)⟩, [], false⟩,
          ⟨7, ⟨(some 24), none, .lld 4 1 false (.t 23)⟩, [], false⟩,
          ⟨8, ⟨(some 25), none, .mv (.t 8)⟩, [], false⟩,
          ⟨9, ⟨(some 26), none, .ixa none 2 (.t 24) (.t 25)⟩, [], false⟩,
          ⟨10, ⟨(some 27), none, .fld 1 (.t 26)⟩, [], false⟩,
          ⟨11, ⟨(some 28), none, .ld 1 false (.t 27)⟩, [], false⟩,
          ⟨12, ⟨(some 29), none, .mv (.t 9)⟩, [], false⟩,
          ⟨13, ⟨(some 30), none, .call 35 [(.t 17), (.t 22), (.t 28), (.t 29)]⟩, [], false⟩,
          ⟨14, ⟨(some 7), none, .mv (.t 30)⟩, [], false⟩])))
      (.region 0 [] [⟨(some 31), none, .bin .add (.t 12) (.c (.int .i64 1))⟩,
        ⟨(some 12), none, .mv (.t 31)⟩])))))))
  (.seq (.region 0 [] [⟨(some 32), none, .mv (.t 0)⟩,
    ⟨(some 33), none, .lfld 4 3 (.t 4)⟩,
    ⟨(some 34), none, .lld 4 5 true (.t 33)⟩,
    ⟨(some 35), none, .mv (.t 7)⟩,
    ⟨(some 36), none, .call 31 [(.t 32), (.t 34), (.t 35)]⟩,
    ⟨(some 6), none, .mv (.t 36)⟩])
  .ret))))⟩

/- (*chiasmus/mach.scope).all -/
def f29 : AFunc := ⟨2, 22, [.tmp 4], true,
  (.seq (.region 0 [] [⟨(some 4), none, .mv (.c (.slice [] .nil))⟩])
  (.seq (.region 0 [] [⟨(some 5), none, .mv (.c (.slice [] .nil))⟩])
  (.seq (.seq (.region 0 [] [⟨(some 8), none, .mv (.t 1)⟩,
    ⟨(some 9), none, .len .slice (.t 8)⟩,
    ⟨(some 10), none, .mv (.c (.int .i64 0))⟩])
  (.block 0
    (.loop
      (.seq (.region 0 [] [⟨(some 11), none, .bin .lss (.t 10) (.t 9)⟩])
      (.seq (.cond (.t 11)
        .skip
        (.exit 0))
      (.seq (.block 1
        (.seq (.region 0 [] [⟨(some 12), none, .ixa none 5 (.t 8) (.t 10)⟩,
          ⟨(some 13), none, .ld 5 true (.t 12)⟩,
          ⟨(some 7), none, .lalloc [(.int .i64 0), (.int .i64 0), (.int .i64 0), (.slice [] .nil), (.slice [] .nil)] []⟩,
          ⟨none, none, .lst 7 5 (.t 7) (.t 13)⟩])
        (.region 1 [] [⟨(some 14), none, .mv (.t 5)⟩,
          ⟨(some 15), none, .mv (.t 0)⟩,
          ⟨(some 16), none, .lld 7 5 true (.t 7)⟩,
          ⟨(some 17), none, .call 27 [(.t 15), (.t 16)]⟩,
          ⟨(some 18), none, .bslice 1 1 .niliface [(0, (.t 17))]⟩,
          ⟨(some 19), none, .app 0 1 16 (.t 14) (.t 18)⟩,
          ⟨(some 5), none, .mv (.t 19)⟩])))
      (.region 0 [] [⟨(some 20), none, .bin .add (.t 10) (.c (.int .i64 1))⟩,
        ⟨(some 10), none, .mv (.t 20)⟩])))))))
  (.seq (.region 0 [] [⟨(some 21), none, .mv (.t 5)⟩,
    ⟨(some 4), none, .mv (.t 21)⟩])
  .ret))))⟩

/- chiasmus/mach.prim -/
def f30 : AFunc := ⟨3, 49, [.tmp 6], true,
  (.seq (.region 0 [] [⟨(some 6), none, .mv (.c (.int .i64 0))⟩])
  (.seq (.region 0 [] [⟨(some 7), none, .mv (.c (.int .i64 0))⟩])
  (.seq (.seq (.region 0 [] [⟨(some 9), none, .mv (.t 2)⟩,
    ⟨(some 10), none, .bin .neq (.t 9) (.c (.int .i64 0))⟩])
  (.cond (.t 10)
    (.region 0 [] [⟨(some 11), none, .mv (.t 1)⟩,
      ⟨(some 12), none, .mv (.t 2)⟩,
      ⟨(some 13), none, .bin .quo (.t 11) (.t 12)⟩,
      ⟨(some 7), none, .mv (.t 13)⟩])
    .skip))
  (.seq (.region 0 [] [⟨(some 8), none, .mv (.c (.bool false))⟩])
  (.seq (.seq (.region 0 [] [⟨(some 14), none, .mv (.t 0)⟩])
  (.block 0
    (.seq (.region 0 [] [⟨(some 19), none, .bin .eql (.t 14) (.c (.int .i64 0))⟩,
      ⟨(some 18), none, .mv (.t 19)⟩])
    (.cond (.t 18)
      (.seq (.region 0 [] [⟨(some 20), none, .mv (.t 1)⟩,
        ⟨(some 21), none, .mv (.t 2)⟩,
        ⟨(some 22), none, .bin .add (.t 20) (.t 21)⟩,
        ⟨(some 6), none, .mv (.t 22)⟩])
      .ret)
      (.seq (.region 0 [] [⟨(some 24), none, .bin .eql (.t 14) (.c (.int .i64 1))⟩,
        ⟨(some 23), none, .mv (.t 24)⟩])
      (.cond (.t 23)
        (.seq (.region 0 [] [⟨(some 25), none, .mv (.t 1)⟩,
          ⟨(some 26), none, .mv (.t 2)⟩,
          ⟨(some 27), none, .bin .sub (.t 25) (.t 26)⟩,
          ⟨(some 6), none, .mv (.t 27)⟩])
        .ret)
        (.seq (.region 0 [] [⟨(some 29), none, .bin .eql (.t 14) (.c (.int .i64 2))⟩,
          ⟨(some 28), none, .mv (.t 29)⟩])
        (.cond (.t 28)
          (.seq (.region 0 [] [⟨(some 30), none, .mv (.t 1)⟩,
            ⟨(some 31), none, .mv (.t 2)⟩,
            ⟨(some 32), none, .bin .mul (.t 30) (.t 31)⟩,
            ⟨(some 6), none, .mv (.t 32)⟩])
          .ret)
          (.seq (.region 0 [] [⟨(some 34), none, .bin .eql (.t 14) (.c (.int .i64 3))⟩,
            ⟨(some 33), none, .mv (.t 34)⟩])
          (.cond (.t 33)
            (.seq (.region 0 [] [⟨(some 35), none, .mv (.t 7)⟩,
              ⟨(some 6), none, .mv (.t 35)⟩])
            .ret)
            (.seq (.region 0 [] [⟨(some 37), none, .bin .eql (.t 14) (.c (.int .i64 4))⟩,
              ⟨(some 36), none, .mv (.t 37)⟩])
            (.cond (.t 36)
              (.seq (.region 0 [] [⟨(some 38), none, .mv (.t 1)⟩,
                ⟨(some 39), none, .mv (.t 2)⟩,
                ⟨(some 40), none, .mv (.t 7)⟩,
                ⟨(some 41), none, .bin .mul (.t 39) (.t 40)⟩,
                ⟨(some 42), none, .bin .sub (.t 38) (.t 41)⟩,
                ⟨(some 6), none, .mv (.t 42)⟩])
              .ret)
              (.seq (.region 0 [] [⟨(some 44), none, .bin .eql (.t 14) (.c (.int .i64 5))⟩,
                ⟨(some 43), none, .mv (.t 44)⟩])
              (.cond (.t 43)
                (.region 0 [] [⟨(some 45), none, .mv (.t 1)⟩,
                  ⟨(some 46), none, .mv (.t 2)⟩,
                  ⟨(some 47), none, .bin .eql (.t 45) (.t 46)⟩,
                  ⟨(some 8), none, .mv (.t 47)⟩])
                (.region 0 [] [⟨(some 15), none, .mv (.t 1)⟩,
                  ⟨(some 16), none, .mv (.t 2)⟩,
                  ⟨(some 17), none, .bin .lss (.t 15) (.t 16)⟩,
                  ⟨(some 8), none, .mv (.t 17)⟩])))))))))))))))
  (.seq (.seq (.region 0 [] [⟨(some 48), none, .mv (.t 8)⟩])
  (.cond (.t 48)
    (.seq (.region 0 [] [⟨(some 6), none, .mv (.c (.int .i64 1))⟩])
    .ret)
    .skip))
  (.seq (.region 0 [] [⟨(some 6), none, .mv (.c (.int .i64 0))⟩])
  .ret)))))))⟩

/- (*chiasmus/mach.Machine).to -/
def f31 : AFunc := ⟨3, 15, [.tmp 6], true,
  (.seq (.region 0 [] [⟨(some 4), none, .lbox (.t 1) []⟩,
    ⟨(some 6), none, .mv (.c (.bool false))⟩])
  (.seq (.region 0 [] [⟨(some 7), none, .mv (.t 0)⟩,
    ⟨(some 8), none, .mv (.t 0)⟩,
    ⟨(some 9), none, .lld 4 5 true (.t 4)⟩,
    ⟨(some 10), none, .mv (.t 2)⟩,
    ⟨(some 11), none, .nilck (.t 7)⟩,
    ⟨(some 12), none, .fld 3 (.t 11)⟩,
    ⟨none, none, .st 5 (.t 12) (.t 9)⟩,
    ⟨(some 13), none, .nilck (.t 8)⟩,
    ⟨(some 14), none, .fld 8 (.t 13)⟩,
    ⟨none, none, .st 1 (.t 14) (.t 10)⟩])
  (.seq (.region 0 [] [⟨(some 6), none, .mv (.c (.bool true))⟩])
  .ret)))⟩

/- chiasmus/core.Check -/
def f32 : AFunc := ⟨1, 6, [.tmp 2], true,
  (.seq (.region 0 [] [⟨(some 1), none, .lbox (.t 0) []⟩,
    ⟨(some 2), none, .mv (.c (.int .i64 0))⟩])
  (.seq (.seq (.region 0 [] [⟨(some 3), none, .lld 1 2 true (.t 1)⟩,
    ⟨(some 4), none, .call 41 [(.t 3)]⟩,
    ⟨(some 5), none, .un .not (.t 4)⟩])
  (.cond (.t 5)
    (.seq (.region 0 [] [⟨(some 2), none, .mv (.c (.int .i64 60))⟩])
    .ret)
    .skip))
  (.seq (.region 0 [] [⟨(some 2), none, .mv (.c (.int .i64 0))⟩])
  .ret)))⟩

/- chiasmus/kind.Check -/
def f33 : AFunc := ⟨1, 9, [.tmp 2], true,
  (.seq (.region 0 [] [⟨(some 1), none, .lbox (.t 0) []⟩,
    ⟨(some 2), none, .mv (.c (.int .i64 0))⟩])
  (.seq (.seq (.region 0 [] [⟨(some 3), none, .lld 1 2 true (.t 1)⟩,
    ⟨(some 4), none, .call 41 [(.t 3)]⟩,
    ⟨(some 5), none, .un .not (.t 4)⟩])
  (.cond (.t 5)
    (.seq (.region 0 [] [⟨(some 2), none, .mv (.c (.int .i64 60))⟩])
    .ret)
    .skip))
  (.seq (.seq (.region 0 [] [⟨(some 6), none, .lld 1 2 true (.t 1)⟩,
    ⟨(some 7), none, .call 42 [(.t 6)]⟩,
    ⟨(some 8), none, .un .not (.t 7)⟩])
  (.cond (.t 8)
    (.seq (.region 0 [] [⟨(some 2), none, .mv (.c (.int .i64 70))⟩])
    .ret)
    .skip))
  (.seq (.region 0 [] [⟨(some 2), none, .mv (.c (.int .i64 0))⟩])
  .ret))))⟩

/- chiasmus/focus.Focus -/
def f34 : AFunc := ⟨1, 22, [.lcell 2 2 2 true, .tmp 3], true,
  (.seq (.region 0 [] [⟨(some 1), none, .lbox (.t 0) []⟩,
    ⟨(some 2), none, .lalloc [(.slice [] .nil), (.slice [] .nil)] []⟩,
    ⟨(some 3), none, .mv (.c (.int .i64 0))⟩])
  (.seq (.seq (.region 0 [] [⟨(some 7), none, .lld 1 2 true (.t 1)⟩,
    ⟨(some 8), none, .call 43 [(.t 7)]⟩,
    ⟨(some 4), none, .mv (.t 8)⟩])
  (.seq (.region 0 [] [⟨(some 9), none, .mv (.t 4)⟩,
    ⟨(some 10), none, .bin .neq (.t 9) (.c (.int .i64 0))⟩])
  (.cond (.t 10)
    (.seq (.region 0 [] [⟨(some 11), none, .build [(.slice [] .nil), (.slice [] .nil)] []⟩,
      ⟨(some 12), none, .mv (.t 4)⟩,
      ⟨none, none, .lst 2 2 (.t 2) (.t 11)⟩,
      ⟨(some 3), none, .mv (.t 12)⟩])
    .ret)
    .skip)))
  (.seq (.region 0 [] [⟨(some 14), none, .lld 1 2 true (.t 1)⟩,
    ⟨(some 15), none, .call 44 [(.t 14)]⟩,
    ⟨(some 13), none, .mv (.t 15)⟩,
    ⟨(some 16), none, .ext (.t 13) 0⟩,
    ⟨(some 17), none, .ext (.t 13) 1⟩,
    ⟨(some 5), none, .lalloc [(.slice [] .nil), (.slice [] .nil)] []⟩,
    ⟨none, none, .lst 5 2 (.t 5) (.t 16)⟩,
    ⟨(some 6), none, .mv (.t 17)⟩])
  (.seq (.seq (.region 0 [] [⟨(some 18), none, .mv (.t 6)⟩,
    ⟨(some 19), none, .un .not (.t 18)⟩])
  (.cond (.t 19)
    (.seq (.region 0 [] [⟨(some 20), none, .build [(.slice [] .nil), (.slice [] .nil)] []⟩,
      ⟨none, none, .lst 2 2 (.t 2) (.t 20)⟩,
      ⟨(some 3), none, .mv (.c (.int .i64 2))⟩])
    .ret)
    .skip))
  (.seq (.region 0 [] [⟨(some 21), none, .lld 5 2 true (.t 5)⟩,
    ⟨none, none, .lst 2 2 (.t 2) (.t 21)⟩,
    ⟨(some 3), none, .mv (.c (.int .i64 0))⟩])
  .ret)))))⟩

/- (*chiasmus/mach.scope).bind -/
def f35 : AFunc := ⟨4, 26, [.tmp 8], true,
  (.seq (.region 0 [] [⟨(some 8), none, .mv (.c .nilptr)⟩])
  (.seq (.seq (.region 0 [] [⟨(some 9), none, .mv (.t 2)⟩])
  (.cond (.t 9)
    (.seq (.region 1 [] [⟨(some 10), none, .mv (.t 1)⟩,
      ⟨(some 11), none, .mv (.t 3)⟩,
      ⟨(some 12), none, .build [(.int .i64 0), .niliface] [(0, 1, (.t 10)), (1, 1, (.t 11))]⟩,
      ⟨(some 13), none, .build [(.int .i64 0), .niliface] [(0, 2, (.t 12))]⟩,
      ⟨(some 14), none, .mkif 115 (.t 13)⟩,
      ⟨(some 15), none, .mv (.t 0)⟩,
      ⟨(some 16), none, .build [.niliface, .nilptr] [(0, 1, (.t 14)), (1, 1, (.t 15))]⟩,
      ⟨(some 17), none, .box 0 (.t 16)⟩,
      ⟨(some 8), none, .mv (.t 17)⟩])
    .ret)
    .skip))
  (.seq (.region 1 [] [⟨(some 18), none, .mv (.t 1)⟩,
    ⟨(some 19), none, .mv (.t 3)⟩,
    ⟨(some 20), none, .build [(.int .i64 0), .niliface] [(0, 1, (.t 18)), (1, 1, (.t 19))]⟩,
    ⟨(some 21), none, .build [(.int .i64 0), .niliface] [(0, 2, (.t 20))]⟩,
    ⟨(some 22), none, .mkif 116 (.t 21)⟩,
    ⟨(some 23), none, .mv (.t 0)⟩,
    ⟨(some 24), none, .build [.niliface, .nilptr] [(0, 1, (.t 22)), (1, 1, (.t 23))]⟩,
    ⟨(some 25), none, .box 0 (.t 24)⟩,
    ⟨(some 8), none, .mv (.t 25)⟩])
  .ret)))⟩

/- (*chiasmus/mach.reader).enter$1 -/
def f36 : AFunc := ⟨1, 8, [], true,
  (.region 0 [] [⟨(some 1), none, .ld 1 false (.t 0)⟩,
    ⟨(some 2), none, .nilck (.t 1)⟩,
    ⟨(some 3), none, .fld 1 (.t 2)⟩,
    ⟨(some 4), none, .ld 1 false (.t 3)⟩,
    ⟨(some 5), none, .bin .sub (.t 4) (.c (.int .i64 1))⟩,
    ⟨(some 6), none, .nilck (.t 1)⟩,
    ⟨(some 7), none, .fld 1 (.t 6)⟩,
    ⟨none, none, .st 1 (.t 7) (.t 5)⟩])⟩

/- (*chiasmus/mach.names).level -/
def f37 : AFunc := ⟨1, 10, [.tmp 2], true,
  (.seq (.region 0 [] [⟨(some 2), none, .mv (.c (.int .i64 0))⟩])
  (.seq (.seq (.region 0 [] [⟨(some 3), none, .mv (.t 0)⟩,
    ⟨(some 4), none, .eqv false .ptr (.t 3) (.c .nilptr)⟩])
  (.cond (.t 4)
    (.seq (.region 0 [] [⟨(some 2), none, .mv (.c (.int .i64 0))⟩])
    .ret)
    .skip))
  (.seq (.region 0 [] [⟨(some 5), none, .mv (.t 0)⟩,
    ⟨(some 6), none, .nilck (.t 5)⟩,
    ⟨(some 7), none, .fld 1 (.t 6)⟩,
    ⟨(some 8), none, .ld 1 false (.t 7)⟩,
    ⟨(some 9), none, .bin .add (.t 8) (.c (.int .i64 1))⟩,
    ⟨(some 2), none, .mv (.t 9)⟩])
  .ret)))⟩

/- chiasmus/decl.Plus -/
def f38 : AFunc := ⟨2, 16, [.tmp 4], true,
  (.seq (.region 0 [] [⟨(some 4), none, .mv (.c (.bool false))⟩])
  (.seq (.region 0 [] [⟨(some 5), none, .mv (.t 1)⟩,
    ⟨(some 6), none, .bin .eql (.t 5) (.c (.int .i64 0))⟩,
    ⟨(some 7), none, .mv (.t 6)⟩,
    ⟨(some 8), (some (7, false)), .mv (.t 0)⟩,
    ⟨(some 9), (some (7, false)), .mv (.t 1)⟩,
    ⟨(some 10), (some (7, false)), .bin .sub (.t 9) (.c (.int .i64 1))⟩,
    ⟨(some 11), (some (7, false)), .ixa none 3 (.t 8) (.t 10)⟩,
    ⟨(some 12), (some (7, false)), .fld 1 (.t 11)⟩,
    ⟨(some 13), (some (7, false)), .ld 1 false (.t 12)⟩,
    ⟨(some 14), (some (7, false)), .un .not (.t 13)⟩,
    ⟨(some 15), none, .pick (.t 7) (.c (.bool true)) (.t 14)⟩,
    ⟨(some 4), none, .mv (.t 15)⟩])
  .ret))⟩

/- chiasmus/mach.isMu -/
def f39 : AFunc := ⟨2, 22, [.lcell 4 4 6 true, .tmp 5], true,
  (.seq (.region 0 [] [⟨(some 4), none, .lalloc [(.int .i64 0), (.int .i64 0), (.int .i64 0), (.slice [] .nil), (.slice [] .nil), .nilptr] []⟩,
    ⟨(some 5), none, .mv (.c (.bool false))⟩])
  (.seq (.region 0 [] [⟨(some 9), none, .mv (.t 0)⟩,
    ⟨(some 10), none, .tas 100 (.agg [(.int .i64 0), (.int .i64 0), (.int .i64 0), (.slice [] .nil), (.slice [] .nil), .nilptr]) true (.t 9)⟩,
    ⟨(some 8), none, .mv (.t 10)⟩,
    ⟨(some 11), none, .ext (.t 8) 0⟩,
    ⟨(some 12), none, .ext (.t 8) 1⟩,
    ⟨(some 6), none, .lalloc [(.int .i64 0), (.int .i64 0), (.int .i64 0), (.slice [] .nil), (.slice [] .nil), .nilptr] [17, 16]⟩,
    ⟨none, none, .lst 6 6 (.t 6) (.t 11)⟩,
    ⟨(some 7), none, .mv (.t 12)⟩])
  (.seq (.drawn 0 [] [⟨0, ⟨(some 13), none, .lld 6 6 true (.t 6)⟩, [], false⟩,
    ⟨1, ⟨(some 14), none, .mv (.t 7)⟩, [], false⟩,
    ⟨2, ⟨(some 15), none, .mv (.t 14)⟩, [], false⟩,
    ⟨3, ⟨(some 16), (some (15, true)), .lfld 6 0 (.t 6)⟩, [], false⟩,
    ⟨4, ⟨(some 17), (some (15, true)), .lfld 6 0 (.t 16)⟩, [], false⟩,
    ⟨5, ⟨(some 18), (some (15, true)), .lld 6 1 false (.t 17)⟩, [], false⟩,
    ⟨6, ⟨(some 19), (some (15, true)), .mv (.t 1)⟩, [], false⟩,
    ⟨7, ⟨(some 20), (some (15, true)), .bin .eql (.t 18) (.t 19)⟩, [], false⟩,
    ⟨8, ⟨(some 21), none, .pick (.t 15) (.t 20) (.c (.bool false))⟩, [], false⟩,
    ⟨9, ⟨none, none, .lst 4 6 (.t 4) (.t 13)⟩, [], false⟩,
    ⟨10, ⟨(some 5), none, .mv (.t 21)⟩, [], false⟩])
  .ret)))⟩

/- (*chiasmus/mach.Machine).match -/
def f40 : AFunc := ⟨3, 67, [.tmp 6], true,
  (.seq (.region 0 [] [⟨(some 4), none, .lbox (.t 1) [38, 31, 30, 25, 24]⟩,
    ⟨(some 6), none, .mv (.c (.bool false))⟩])
  (.seq (.region 0 [] [⟨(some 14), none, .mv (.t 2)⟩,
    ⟨(some 15), none, .tas 102 (.agg [(.int .i64 0), (.int .i64 0), (.int .i64 0), (.slice [] .nil), (.slice [] .nil), (.slice [] .nil)]) true (.t 14)⟩,
    ⟨(some 13), none, .mv (.t 15)⟩,
    ⟨(some 16), none, .ext (.t 13) 0⟩,
    ⟨(some 17), none, .ext (.t 13) 1⟩,
    ⟨(some 7), none, .lalloc [(.int .i64 0), (.int .i64 0), (.int .i64 0), (.slice [] .nil), (.slice [] .nil), (.slice [] .nil)] [40, 34, 33, 22, 21]⟩,
    ⟨none, none, .lst 7 6 (.t 7) (.t 16)⟩,
    ⟨(some 8), none, .mv (.t 17)⟩])
  (.seq (.seq (.region 0 [] [⟨(some 18), none, .mv (.t 8)⟩,
    ⟨(some 19), none, .un .not (.t 18)⟩,
    ⟨(some 20), none, .mv (.t 19)⟩,
    ⟨(some 21), (some (20, false)), .lfld 7 0 (.t 7)⟩,
    ⟨(some 22), (some (20, false)), .lfld 7 1 (.t 21)⟩,
    ⟨(some 23), (some (20, false)), .lld 7 1 false (.t 22)⟩,
    ⟨(some 24), (some (20, false)), .lfld 4 0 (.t 4)⟩,
    ⟨(some 25), (some (20, false)), .lfld 4 4 (.t 24)⟩,
    ⟨(some 26), (some (20, false)), .lld 4 1 false (.t 25)⟩,
    ⟨(some 27), (some (20, false)), .len .slice (.t 26)⟩,
    ⟨(some 28), (some (20, false)), .bin .geq (.t 23) (.t 27)⟩,
    ⟨(some 29), none, .pick (.t 20) (.c (.bool true)) (.t 28)⟩])
  (.cond (.t 29)
    (.seq (.region 0 [] [⟨(some 6), none, .mv (.c (.bool false))⟩])
    .ret)
    .skip))
  (.seq (.region 0 [] [⟨(some 30), none, .lfld 4 0 (.t 4)⟩,
    ⟨(some 31), none, .lfld 4 4 (.t 30)⟩,
    ⟨(some 32), none, .lld 4 1 false (.t 31)⟩,
    ⟨(some 33), none, .lfld 7 0 (.t 7)⟩,
    ⟨(some 34), none, .lfld 7 1 (.t 33)⟩,
    ⟨(some 35), none, .lld 7 1 false (.t 34)⟩,
    ⟨(some 36), none, .ixa none 7 (.t 32) (.t 35)⟩,
    ⟨(some 37), none, .ld 7 true (.t 36)⟩,
    ⟨(some 9), none, .lalloc [(.slice [] .nil), (.slice [] .nil), (.int .i64 0), (.int .i64 0), (.int .i64 0), (.slice [] .nil), (.slice [] .nil)] [63, 54, 49]⟩,
    ⟨none, none, .lst 9 7 (.t 9) (.t 37)⟩])
  (.seq (.region 0 [] [⟨(some 38), none, .lfld 4 5 (.t 4)⟩,
    ⟨(some 39), none, .lld 4 1 false (.t 38)⟩,
    ⟨(some 10), none, .mv (.t 39)⟩])
  (.seq (.seq (.region 0 [] [⟨(some 40), none, .lfld 7 5 (.t 7)⟩,
    ⟨(some 41), none, .lld 7 1 false (.t 40)⟩,
    ⟨(some 42), none, .len .slice (.t 41)⟩,
    ⟨(some 43), none, .mv (.c (.int .i64 0))⟩])
  (.block 0
    (.loop
      (.seq (.region 0 [] [⟨(some 44), none, .bin .lss (.t 43) (.t 42)⟩])
      (.seq (.cond (.t 44)
        .skip
        (.exit 0))
      (.seq (.block 1
        (.seq (.region 0 [] [⟨(some 45), none, .mv (.t 43)⟩,
          ⟨(some 46), none, .ixa none 1 (.t 41) (.t 43)⟩,
          ⟨(some 47), none, .ld 1 false (.t 46)⟩,
          ⟨(some 11), none, .mv (.t 45)⟩,
          ⟨(some 12), none, .mv (.t 47)⟩])
        (.drawn 0 [] [⟨0, ⟨(some 48), none, .mv (.t 10)⟩, [], false⟩,
          ⟨1, ⟨(some 49), none, .lfld 9 0 (.t 9)⟩, [], false⟩,
          ⟨2, ⟨(some 50), none, .lld 9 1 false (.t 49)⟩, [], false⟩,
          ⟨3, ⟨(some 51), none, .mv (.t 11)⟩, [], false⟩,
          ⟨4, ⟨(some 52), none, .ixa none 1 (.t 50) (.t 51)⟩, [], false⟩,
          ⟨5, ⟨(some 53), none, .ld 1 false (.t 52)⟩, [], false⟩,
          ⟨6, ⟨(some 54), none, .lfld 9 1 (.t 9)⟩, [], false⟩,
          ⟨7, ⟨(some 55), none, .lld 9 1 false (.t 54)⟩, [], false⟩,
          ⟨8, ⟨(some 56), none, .mv (.t 11)⟩, [], false⟩,
          ⟨9, ⟨(some 57), none, .ixa none 1 (.t 55) (.t 56)⟩, [], false⟩,
          ⟨10, ⟨(some 58), none, .ld 1 false (.t 57)⟩, [], false⟩,
          ⟨11, ⟨(some 59), none, .mv (.t 12)⟩, [], false⟩,
          ⟨12, ⟨(some 60), none, .call 35 [(.t 48), (.t 53), (.t 58), (.t 59)]⟩, [], false⟩,
          ⟨13, ⟨(some 10), none, .mv (.t 60)⟩, [], false⟩])))
      (.region 0 [] [⟨(some 61), none, .bin .add (.t 43) (.c (.int .i64 1))⟩,
        ⟨(some 43), none, .mv (.t 61)⟩])))))))
  (.seq (.region 0 [] [⟨(some 62), none, .mv (.t 0)⟩,
    ⟨(some 63), none, .lfld 9 2 (.t 9)⟩,
    ⟨(some 64), none, .lld 9 5 true (.t 63)⟩,
    ⟨(some 65), none, .mv (.t 10)⟩,
    ⟨(some 66), none, .call 31 [(.t 62), (.t 64), (.t 65)]⟩,
    ⟨(some 6), none, .mv (.t 66)⟩])
  .ret)))))))⟩

/- chiasmus/core.Valid -/
def f41 : AFunc := ⟨1, 144, [.tmp 2], true,
  (.seq (.region 0 [] [⟨(some 1), none, .lbox (.t 0) [115, 85, 36, 32, 30, 24, 18, 13]⟩,
    ⟨(some 2), none, .mv (.c (.bool false))⟩])
  (.seq (.seq (.region 0 [] [⟨(some 13), none, .lfld 1 0 (.t 1)⟩,
    ⟨(some 14), none, .lld 1 1 false (.t 13)⟩,
    ⟨(some 15), none, .call 45 [(.t 14)]⟩,
    ⟨(some 16), none, .un .not (.t 15)⟩,
    ⟨(some 17), none, .mv (.t 16)⟩,
    ⟨(some 18), (some (17, false)), .lfld 1 1 (.t 1)⟩,
    ⟨(some 19), (some (17, false)), .lld 1 1 false (.t 18)⟩,
    ⟨(some 20), (some (17, false)), .len .slice (.t 19)⟩,
    ⟨(some 21), (some (17, false)), .bin .lss (.t 20) (.c (.int .i64 1))⟩,
    ⟨(some 22), none, .pick (.t 17) (.c (.bool true)) (.t 21)⟩,
    ⟨(some 23), none, .mv (.t 22)⟩,
    ⟨(some 24), (some (23, false)), .lfld 1 1 (.t 1)⟩,
    ⟨(some 25), (some (23, false)), .lld 1 1 false (.t 24)⟩,
    ⟨(some 26), (some (23, false)), .len .slice (.t 25)⟩,
    ⟨(some 27), (some (23, false)), .bin .gtr (.t 26) (.c (.int .i64 12))⟩,
    ⟨(some 28), none, .pick (.t 23) (.c (.bool true)) (.t 27)⟩])
  (.cond (.t 28)
    (.seq (.region 0 [] [⟨(some 2), none, .mv (.c (.bool false))⟩])
    .ret)
    .skip))
  (.seq (.region 1 [(0, (.map [] 0))] [⟨(some 29), none, .mkmap 0⟩,
    ⟨(some 3), none, .mv (.t 29)⟩])
  (.seq (.region 1 [] [⟨(some 30), none, .lfld 1 0 (.t 1)⟩,
    ⟨(some 31), none, .lld 1 1 false (.t 30)⟩,
    ⟨(some 32), none, .lfld 1 1 (.t 1)⟩,
    ⟨(some 33), none, .lld 1 1 false (.t 32)⟩,
    ⟨(some 34), none, .build [(.slice [] .nil), (.slice [] .nil), (.int .i64 0)] [(0, 1, (.t 31)), (1, 1, (.t 33)), (2, 1, (.c (.int .i64 30000)))]⟩,
    ⟨(some 35), none, .box 0 (.t 34)⟩,
    ⟨(some 4), none, .mv (.t 35)⟩])
  (.seq (.seq (.region 0 [] [⟨(some 36), none, .lfld 1 1 (.t 1)⟩,
    ⟨(some 37), none, .lld 1 1 false (.t 36)⟩,
    ⟨(some 38), none, .len .slice (.t 37)⟩,
    ⟨(some 39), none, .mv (.c (.int .i64 0))⟩])
  (.block 0
    (.loop
      (.seq (.region 0 [] [⟨(some 40), none, .bin .lss (.t 39) (.t 38)⟩])
      (.seq (.cond (.t 40)
        .skip
        (.exit 0))
      (.seq (.block 1
        (.seq (.region 0 [] [⟨(some 41), none, .mv (.t 39)⟩,
          ⟨(some 42), none, .ixa none 8 (.t 37) (.t 39)⟩,
          ⟨(some 43), none, .ld 8 true (.t 42)⟩,
          ⟨(some 6), none, .lalloc [(.str (bs [])), (.slice [] .nil), (.slice [] .nil), (.int .i64 0), (.int .i64 0), (.int .i64 0), (.slice [] .nil), (.slice [] .nil)] [109, 72, 70, 64, 61, 55, 50, 44]⟩,
          ⟨(some 5), none, .mv (.t 41)⟩,
          ⟨none, none, .lst 6 8 (.t 6) (.t 43)⟩])
        (.seq (.seq (.region 0 [] [⟨(some 44), none, .lfld 6 0 (.t 6)⟩,
          ⟨(some 45), none, .lld 6 1 false (.t 44)⟩,
          ⟨(some 46), none, .call 46 [(.t 45)]⟩,
          ⟨(some 47), none, .un .not (.t 46)⟩,
          ⟨(some 48), none, .mv (.t 47)⟩,
          ⟨(some 49), (some (48, false)), .mv (.t 3)⟩,
          ⟨(some 50), (some (48, false)), .lfld 6 0 (.t 6)⟩,
          ⟨(some 51), (some (48, false)), .lld 6 1 false (.t 50)⟩,
          ⟨(some 52), (some (48, false)), .lkp (.word .str) (.bool false) false (.t 49) (.t 51)⟩,
          ⟨(some 53), none, .pick (.t 48) (.c (.bool true)) (.t 52)⟩,
          ⟨(some 54), none, .mv (.t 53)⟩,
          ⟨(some 55), (some (54, false)), .lfld 6 1 (.t 6)⟩,
          ⟨(some 56), (some (54, false)), .lld 6 1 false (.t 55)⟩,
          ⟨(some 57), (some (54, false)), .len .slice (.t 56)⟩,
          ⟨(some 58), (some (54, false)), .bin .gtr (.t 57) (.c (.int .i64 6))⟩,
          ⟨(some 59), none, .pick (.t 54) (.c (.bool true)) (.t 58)⟩,
          ⟨(some 60), none, .mv (.t 59)⟩,
          ⟨(some 61), (some (60, false)), .lfld 6 2 (.t 6)⟩,
          ⟨(some 62), (some (60, false)), .lld 6 1 false (.t 61)⟩,
          ⟨(some 63), (some (60, false)), .len .slice (.t 62)⟩,
          ⟨(some 64), (some (60, false)), .lfld 6 1 (.t 6)⟩,
          ⟨(some 65), (some (60, false)), .lld 6 1 false (.t 64)⟩,
          ⟨(some 66), (some (60, false)), .len .slice (.t 65)⟩,
          ⟨(some 67), (some (60, false)), .bin .neq (.t 63) (.t 66)⟩,
          ⟨(some 68), none, .pick (.t 60) (.c (.bool true)) (.t 67)⟩])
        (.cond (.t 68)
          (.seq (.region 0 [] [⟨(some 2), none, .mv (.c (.bool false))⟩])
          .ret)
          .skip))
        (.seq (.region 0 [] [⟨(some 69), none, .mv (.t 3)⟩,
          ⟨(some 70), none, .lfld 6 0 (.t 6)⟩,
          ⟨(some 71), none, .lld 6 1 false (.t 70)⟩,
          ⟨none, none, .mset (.word .str) (.t 69) (.t 71) (.c (.bool true))⟩])
        (.seq (.region 0 [] [⟨(some 7), none, .mv (.c (.slice [] .nil))⟩])
        (.seq (.seq (.region 0 [] [⟨(some 72), none, .lfld 6 1 (.t 6)⟩,
          ⟨(some 73), none, .lld 6 1 false (.t 72)⟩,
          ⟨(some 74), none, .len .slice (.t 73)⟩,
          ⟨(some 75), none, .mv (.c (.int .i64 0))⟩])
        (.block 2
          (.loop
            (.seq (.region 0 [] [⟨(some 76), none, .bin .lss (.t 75) (.t 74)⟩])
            (.seq (.cond (.t 76)
              .skip
              (.exit 2))
            (.seq (.block 3
              (.seq (.region 0 [] [⟨(some 77), none, .ixa none 2 (.t 73) (.t 75)⟩,
                ⟨(some 78), none, .ld 2 true (.t 77)⟩,
                ⟨(some 9), none, .lalloc [(.int .i64 0), (.bool false)] [104, 97, 94, 83, 79]⟩,
                ⟨none, none, .lst 9 2 (.t 9) (.t 78)⟩])
              (.seq (.seq (.region 0 [] [⟨(some 79), none, .lfld 9 0 (.t 9)⟩,
                ⟨(some 80), none, .lld 9 1 false (.t 79)⟩,
                ⟨(some 81), none, .bin .lss (.t 80) (.c (.int .i64 0))⟩,
                ⟨(some 82), none, .mv (.t 81)⟩,
                ⟨(some 83), (some (82, false)), .lfld 9 0 (.t 9)⟩,
                ⟨(some 84), (some (82, false)), .lld 9 1 false (.t 83)⟩,
                ⟨(some 85), (some (82, false)), .lfld 1 0 (.t 1)⟩,
                ⟨(some 86), (some (82, false)), .lld 1 1 false (.t 85)⟩,
                ⟨(some 87), (some (82, false)), .len .slice (.t 86)⟩,
                ⟨(some 88), (some (82, false)), .bin .gtr (.t 84) (.t 87)⟩,
                ⟨(some 89), none, .pick (.t 82) (.c (.bool true)) (.t 88)⟩,
                ⟨(some 90), none, .mv (.t 89)⟩,
                ⟨(some 91), (some (90, false)), .mv (.t 5)⟩,
                ⟨(some 92), (some (90, false)), .bin .eql (.t 91) (.c (.int .i64 0))⟩,
                ⟨(some 93), (some (90, false)), .mv (.t 92)⟩,
                ⟨(some 94), (some (93, true)), .lfld 9 1 (.t 9)⟩,
                ⟨(some 95), (some (93, true)), .lld 9 1 false (.t 94)⟩,
                ⟨(some 96), (some (93, true)), .mv (.t 95)⟩,
                ⟨(some 97), (some (96, false)), .lfld 9 0 (.t 9)⟩,
                ⟨(some 98), (some (96, false)), .lld 9 1 false (.t 97)⟩,
                ⟨(some 99), (some (96, false)), .bin .neq (.t 98) (.c (.int .i64 0))⟩,
                ⟨(some 100), (some (93, true)), .pick (.t 96) (.c (.bool true)) (.t 99)⟩,
                ⟨(some 101), (some (90, false)), .pick (.t 93) (.t 100) (.c (.bool false))⟩,
                ⟨(some 102), none, .pick (.t 90) (.c (.bool true)) (.t 101)⟩])
              (.cond (.t 102)
                (.seq (.region 0 [] [⟨(some 2), none, .mv (.c (.bool false))⟩])
                .ret)
                .skip))
              (.region 1 [] [⟨(some 103), none, .mv (.t 7)⟩,
                ⟨(some 104), none, .lfld 9 1 (.t 9)⟩,
                ⟨(some 105), none, .lld 9 1 false (.t 104)⟩,
                ⟨(some 106), none, .bslice 1 1 (.bool false) [(0, (.t 105))]⟩,
                ⟨(some 107), none, .app 0 1 1 (.t 103) (.t 106)⟩,
                ⟨(some 7), none, .mv (.t 107)⟩]))))
            (.region 0 [] [⟨(some 108), none, .bin .add (.t 75) (.c (.int .i64 1))⟩,
              ⟨(some 75), none, .mv (.t 108)⟩])))))))
        (.seq (.region 0 [] [⟨(some 109), none, .lfld 6 2 (.t 6)⟩,
          ⟨(some 110), none, .lld 6 1 false (.t 109)⟩,
          ⟨(some 111), none, .mv (.t 7)⟩,
          ⟨(some 112), none, .call 47 [(.t 110), (.t 111)]⟩,
          ⟨(some 113), none, .un .not (.t 112)⟩])
        (.cond (.t 113)
          (.seq (.region 0 [] [⟨(some 2), none, .mv (.c (.bool false))⟩])
          .ret)
          .skip))))))))
      (.region 0 [] [⟨(some 114), none, .bin .add (.t 39) (.c (.int .i64 1))⟩,
        ⟨(some 39), none, .mv (.t 114)⟩])))))))
  (.seq (.seq (.region 0 [] [⟨(some 115), none, .lfld 1 1 (.t 1)⟩,
    ⟨(some 116), none, .lld 1 1 false (.t 115)⟩,
    ⟨(some 117), none, .len .slice (.t 116)⟩,
    ⟨(some 118), none, .mv (.c (.int .i64 0))⟩])
  (.block 4
    (.loop
      (.seq (.region 0 [] [⟨(some 119), none, .bin .lss (.t 118) (.t 117)⟩])
      (.seq (.cond (.t 119)
        .skip
        (.exit 4))
      (.seq (.block 5
        (.seq (.region 0 [] [⟨(some 120), none, .ixa none 8 (.t 116) (.t 118)⟩,
          ⟨(some 121), none, .ld 8 true (.t 120)⟩,
          ⟨(some 11), none, .lalloc [(.str (bs [])), (.slice [] .nil), (.slice [] .nil), (.int .i64 0), (.int .i64 0), (.int .i64 0), (.slice [] .nil), (.slice [] .nil)] [138, 131, 130, 126, 124]⟩,
          ⟨none, none, .lst 11 8 (.t 11) (.t 121)⟩])
        (.seq (.region 0 [] [⟨(some 122), none, .call 48 [(.c (.slice [] .nil)), (.c (.slice [] .nil))]⟩,
          ⟨(some 12), none, .lalloc [(.map none), (.map none)] []⟩,
          ⟨none, none, .lst 12 2 (.t 12) (.t 122)⟩])
        (.seq (.drawn 0 [] [⟨0, ⟨(some 123), none, .lld 12 2 true (.t 12)⟩, [], false⟩,
          ⟨1, ⟨(some 124), none, .lfld 11 2 (.t 11)⟩, [], false⟩,
          ⟨2, ⟨(some 125), none, .lld 11 1 false (.t 124)⟩, [], false⟩,
          ⟨3, ⟨(some 126), none, .lfld 11 1 (.t 11)⟩, [], false⟩,
          ⟨4, ⟨(some 127), none, .lld 11 1 false (.t 126)⟩, [], false⟩,
          ⟨5, ⟨(some 128), none, .call 50 [(.t 127)]⟩, [], false⟩,
          ⟨6, ⟨(some 129), none, .call 49 [(.t 123), (.t 125), (.t 128)]⟩, [], false⟩])
        (.seq (.region 0 [] [⟨(some 130), none, .lfld 11 3 (.t 11)⟩,
          ⟨(some 131), none, .lfld 11 0 (.t 130)⟩,
          ⟨(some 132), none, .lld 11 1 false (.t 131)⟩,
          ⟨(some 133), none, .call 51 [(.t 132)]⟩,
          ⟨(some 134), none, .bin .neq (.t 133) (.c (.int .i64 2))⟩,
          ⟨(some 135), none, .mv (.t 134)⟩,
          ⟨(some 136), (some (135, false)), .mv (.t 4)⟩,
          ⟨(some 137), (some (135, false)), .lld 12 2 true (.t 12)⟩,
          ⟨(some 138), (some (135, false)), .lfld 11 3 (.t 11)⟩,
          ⟨(some 139), (some (135, false)), .lld 11 5 true (.t 138)⟩,
          ⟨(some 140), (some (135, false)), .call 52 [(.t 136), (.t 137), (.t 139), (.c (.int .i64 1))]⟩,
          ⟨(some 141), (some (135, false)), .un .not (.t 140)⟩,
          ⟨(some 142), none, .pick (.t 135) (.c (.bool true)) (.t 141)⟩])
        (.cond (.t 142)
          (.seq (.region 0 [] [⟨(some 2), none, .mv (.c (.bool false))⟩])
          .ret)
          .skip))))))
      (.region 0 [] [⟨(some 143), none, .bin .add (.t 118) (.c (.int .i64 1))⟩,
        ⟨(some 118), none, .mv (.t 143)⟩])))))))
  (.seq (.region 0 [] [⟨(some 2), none, .mv (.c (.bool true))⟩])
  .ret)))))))⟩

/- chiasmus/kind.Typed -/
def f42 : AFunc := ⟨1, 33, [.tmp 2], true,
  (.seq (.region 0 [] [⟨(some 1), none, .lbox (.t 0) [8]⟩,
    ⟨(some 2), none, .mv (.c (.bool false))⟩])
  (.seq (.seq (.region 0 [] [⟨(some 8), none, .lfld 1 1 (.t 1)⟩,
    ⟨(some 9), none, .lld 1 1 false (.t 8)⟩,
    ⟨(some 10), none, .len .slice (.t 9)⟩,
    ⟨(some 11), none, .mv (.c (.int .i64 0))⟩])
  (.block 0
    (.loop
      (.seq (.region 0 [] [⟨(some 12), none, .bin .lss (.t 11) (.t 10)⟩])
      (.seq (.cond (.t 12)
        .skip
        (.exit 0))
      (.seq (.block 1
        (.seq (.region 0 [] [⟨(some 13), none, .ixa none 8 (.t 9) (.t 11)⟩,
          ⟨(some 14), none, .ld 8 true (.t 13)⟩,
          ⟨(some 4), none, .lalloc [(.str (bs [])), (.slice [] .nil), (.slice [] .nil), (.int .i64 0), (.int .i64 0), (.int .i64 0), (.slice [] .nil), (.slice [] .nil)] [25, 20, 18]⟩,
          ⟨none, none, .lst 4 8 (.t 4) (.t 14)⟩])
        (.seq (.region 0 [] [⟨(some 15), none, .lld 1 2 true (.t 1)⟩,
          ⟨(some 16), none, .call 53 [(.t 15)]⟩,
          ⟨(some 5), none, .mv (.t 16)⟩])
        (.seq (.region 0 [] [⟨(some 17), none, .mv (.t 5)⟩,
          ⟨(some 18), none, .lfld 4 2 (.t 4)⟩,
          ⟨(some 19), none, .lld 4 1 false (.t 18)⟩,
          ⟨(some 20), none, .lfld 4 1 (.t 4)⟩,
          ⟨(some 21), none, .lld 4 1 false (.t 20)⟩,
          ⟨(some 22), none, .call 54 [(.t 17), (.t 19), (.t 21)]⟩])
        (.seq (.region 0 [] [⟨(some 24), none, .mv (.t 5)⟩,
          ⟨(some 25), none, .lfld 4 3 (.t 4)⟩,
          ⟨(some 26), none, .lld 4 5 true (.t 25)⟩,
          ⟨(some 27), none, .call 55 [(.t 24), (.t 26)]⟩,
          ⟨(some 23), none, .mv (.t 27)⟩,
          ⟨(some 28), none, .ext (.t 23) 0⟩,
          ⟨(some 29), none, .ext (.t 23) 1⟩,
          ⟨(some 6), none, .mv (.t 28)⟩,
          ⟨(some 7), none, .mv (.t 29)⟩])
        (.seq (.region 0 [] [⟨(some 30), none, .mv (.t 7)⟩,
          ⟨(some 31), none, .un .not (.t 30)⟩])
        (.cond (.t 31)
          (.seq (.region 0 [] [⟨(some 2), none, .mv (.c (.bool false))⟩])
          .ret)
          .skip)))))))
      (.region 0 [] [⟨(some 32), none, .bin .add (.t 11) (.c (.int .i64 1))⟩,
        ⟨(some 11), none, .mv (.t 32)⟩])))))))
  (.seq (.region 0 [] [⟨(some 2), none, .mv (.c (.bool true))⟩])
  .ret)))⟩

/- chiasmus/focus.fine -/
def f43 : AFunc := ⟨1, 5, [.tmp 2], true,
  (.seq (.region 0 [] [⟨(some 1), none, .lbox (.t 0) []⟩,
    ⟨(some 2), none, .mv (.c (.int .i64 0))⟩])
  (.seq (.region 0 [] [⟨(some 3), none, .lld 1 2 true (.t 1)⟩,
    ⟨(some 4), none, .call 33 [(.t 3)]⟩,
    ⟨(some 2), none, .mv (.t 4)⟩])
  .ret))⟩

/- chiasmus/focus.Make -/
def f44 : AFunc := ⟨1, 118, [.lcell 2 2 2 true, .tmp 3], true,
  (.seq (.region 0 [] [⟨(some 1), none, .lbox (.t 0) [55, 17]⟩,
    ⟨(some 2), none, .lalloc [(.slice [] .nil), (.slice [] .nil)] []⟩,
    ⟨(some 3), none, .mv (.c (.bool false))⟩])
  (.seq (.region 0 [] [⟨(some 16), none, .build [(.slice [] .nil), (.slice [] .nil)] []⟩,
    ⟨(some 4), none, .lalloc [(.slice [] .nil), (.slice [] .nil)] [113, 108, 53, 48]⟩,
    ⟨none, none, .lst 4 2 (.t 4) (.t 16)⟩])
  (.seq (.seq (.region 0 [] [⟨(some 17), none, .lfld 1 0 (.t 1)⟩,
    ⟨(some 18), none, .lld 1 1 false (.t 17)⟩,
    ⟨(some 19), none, .len .slice (.t 18)⟩,
    ⟨(some 20), none, .mv (.c (.int .i64 0))⟩])
  (.block 0
    (.loop
      (.seq (.region 0 [] [⟨(some 21), none, .bin .lss (.t 20) (.t 19)⟩])
      (.seq (.cond (.t 21)
        .skip
        (.exit 0))
      (.seq (.block 1
        (.seq (.region 0 [] [⟨(some 22), none, .ixa none 3 (.t 18) (.t 20)⟩,
          ⟨(some 23), none, .ld 3 true (.t 22)⟩,
          ⟨(some 6), none, .lalloc [(.str (bs [])), (.bool false), (.slice [] .nil)] [29, 26, 24]⟩,
          ⟨none, none, .lst 6 3 (.t 6) (.t 23)⟩])
        (.seq (.region 0 [] [⟨(some 24), none, .lfld 6 0 (.t 6)⟩,
          ⟨(some 25), none, .lld 6 1 false (.t 24)⟩,
          ⟨(some 26), none, .lfld 6 1 (.t 6)⟩,
          ⟨(some 27), none, .lld 6 1 false (.t 26)⟩,
          ⟨(some 28), none, .build [(.str (bs [])), (.bool false), (.slice [] .nil)] [(0, 1, (.t 25)), (1, 1, (.t 27))]⟩,
          ⟨(some 7), none, .lalloc [(.str (bs [])), (.bool false), (.slice [] .nil)] [46, 36]⟩,
          ⟨none, none, .lst 7 3 (.t 7) (.t 28)⟩])
        (.seq (.seq (.region 0 [] [⟨(some 29), none, .lfld 6 2 (.t 6)⟩,
          ⟨(some 30), none, .lld 6 1 false (.t 29)⟩,
          ⟨(some 31), none, .len .slice (.t 30)⟩,
          ⟨(some 32), none, .mv (.c (.int .i64 0))⟩])
        (.block 2
          (.loop
            (.seq (.region 0 [] [⟨(some 33), none, .bin .lss (.t 32) (.t 31)⟩])
            (.seq (.cond (.t 33)
              .skip
              (.exit 2))
            (.seq (.block 3
              (.seq (.region 0 [] [⟨(some 34), none, .ixa none 2 (.t 30) (.t 32)⟩,
                ⟨(some 35), none, .ld 2 true (.t 34)⟩,
                ⟨(some 9), none, .lalloc [(.str (bs [])), (.slice [] .nil)] [40, 38]⟩,
                ⟨none, none, .lst 9 2 (.t 9) (.t 35)⟩])
              (.drawn 2 [] [⟨0, ⟨(some 36), none, .lfld 7 2 (.t 7)⟩, [], false⟩,
                ⟨1, ⟨(some 37), none, .lld 7 1 false (.t 36)⟩, [], false⟩,
                ⟨2, ⟨(some 38), none, .lfld 9 0 (.t 9)⟩, [], false⟩,
                ⟨3, ⟨(some 39), none, .lld 9 1 false (.t 38)⟩, [], false⟩,
                ⟨4, ⟨(some 40), none, .lfld 9 1 (.t 9)⟩, [], false⟩,
                ⟨5, ⟨(some 41), none, .lld 9 1 false (.t 40)⟩, [], false⟩,
                ⟨6, ⟨(some 42), none, .app 0 2 16 (.c (.slice [] .nil)) (.t 41)⟩, [], false⟩,
                ⟨7, ⟨(some 43), none, .build [(.str (bs [])), (.slice [] .nil)] [(0, 1, (.t 39)), (1, 1, (.t 42))]⟩, [], false⟩,
                ⟨8, ⟨(some 44), none, .bslice 2 1 (.agg [(.str (bs [])), (.slice [] .nil)]) [(0, (.t 43))]⟩, [], false⟩,
                ⟨9, ⟨(some 45), none, .app 1 2 40 (.t 37) (.t 44)⟩, [], false⟩,
                ⟨10, ⟨(some 46), none, .lfld 7 2 (.t 7)⟩, [], false⟩,
                ⟨11, ⟨none, none, .lst 7 1 (.t 46) (.t 45)⟩, [], false⟩])))
            (.region 0 [] [⟨(some 47), none, .bin .add (.t 32) (.c (.int .i64 1))⟩,
              ⟨(some 32), none, .mv (.t 47)⟩])))))))
        (.region 1 [] [⟨(some 48), none, .lfld 4 0 (.t 4)⟩,
          ⟨(some 49), none, .lld 4 1 false (.t 48)⟩,
          ⟨(some 50), none, .lld 7 3 true (.t 7)⟩,
          ⟨(some 51), none, .bslice 3 1 (.agg [(.str (bs [])), (.bool false), (.slice [] .nil)]) [(0, (.t 50))]⟩,
          ⟨(some 52), none, .app 0 3 48 (.t 49) (.t 51)⟩,
          ⟨(some 53), none, .lfld 4 0 (.t 4)⟩,
          ⟨none, none, .lst 4 1 (.t 53) (.t 52)⟩])))))
      (.region 0 [] [⟨(some 54), none, .bin .add (.t 20) (.c (.int .i64 1))⟩,
        ⟨(some 20), none, .mv (.t 54)⟩])))))))
  (.seq (.seq (.region 0 [] [⟨(some 55), none, .lfld 1 1 (.t 1)⟩,
    ⟨(some 56), none, .lld 1 1 false (.t 55)⟩,
    ⟨(some 57), none, .len .slice (.t 56)⟩,
    ⟨(some 58), none, .mv (.c (.int .i64 0))⟩])
  (.block 4
    (.loop
      (.seq (.region 0 [] [⟨(some 59), none, .bin .lss (.t 58) (.t 57)⟩])
      (.seq (.cond (.t 59)
        .skip
        (.exit 4))
      (.seq (.block 5
        (.seq (.region 0 [] [⟨(some 60), none, .ixa none 8 (.t 56) (.t 58)⟩,
          ⟨(some 61), none, .ld 8 true (.t 60)⟩,
          ⟨(some 11), none, .lalloc [(.str (bs [])), (.slice [] .nil), (.slice [] .nil), (.int .i64 0), (.int .i64 0), (.int .i64 0), (.slice [] .nil), (.slice [] .nil)] [107, 104, 102, 99, 78, 70, 65]⟩,
          ⟨none, none, .lst 11 8 (.t 11) (.t 61)⟩])
        (.seq (.region 0 [] [⟨(some 62), none, .lld 11 8 true (.t 11)⟩,
          ⟨(some 63), none, .call 56 [(.t 62)]⟩,
          ⟨none, none, .lst 11 8 (.t 11) (.t 63)⟩])
        (.seq (.drawn 1 [] [⟨0, ⟨(some 64), none, .lld 1 2 true (.t 1)⟩, [], false⟩,
          ⟨1, ⟨(some 65), none, .lfld 11 3 (.t 11)⟩, [], false⟩,
          ⟨2, ⟨(some 66), none, .lld 11 5 true (.t 65)⟩, [], false⟩,
          ⟨3, ⟨(some 67), none, .call 57 [(.t 66)]⟩, [], false⟩,
          ⟨4, ⟨(some 68), none, .build [(.slice [] .nil), (.slice [] .nil), (.int .i64 0), (.int .i64 0)] [(0, 2, (.t 64)), (2, 2, (.t 67))]⟩, [], false⟩,
          ⟨5, ⟨(some 69), none, .box 0 (.t 68)⟩, [], false⟩,
          ⟨6, ⟨(some 12), none, .mv (.t 69)⟩, [], false⟩])
        (.seq (.seq (.region 0 [] [⟨(some 70), none, .lfld 11 2 (.t 11)⟩,
          ⟨(some 71), none, .lld 11 1 false (.t 70)⟩,
          ⟨(some 72), none, .len .slice (.t 71)⟩,
          ⟨(some 73), none, .mv (.c (.int .i64 0))⟩])
        (.block 6
          (.loop
            (.seq (.region 0 [] [⟨(some 74), none, .bin .lss (.t 73) (.t 72)⟩])
            (.seq (.cond (.t 74)
              .skip
              (.exit 6))
            (.seq (.block 7
              (.seq (.region 0 [] [⟨(some 75), none, .mv (.t 73)⟩,
                ⟨(some 76), none, .ixa none 1 (.t 71) (.t 73)⟩,
                ⟨(some 77), none, .ld 1 false (.t 76)⟩,
                ⟨(some 13), none, .mv (.t 75)⟩,
                ⟨(some 14), none, .mv (.t 77)⟩])
              (.seq (.region 0 [] [⟨(some 15), none, .mv (.c (.int .i64 0))⟩])
              (.seq (.seq (.region 0 [] [⟨(some 78), none, .lfld 11 1 (.t 11)⟩,
                ⟨(some 79), none, .lld 11 1 false (.t 78)⟩,
                ⟨(some 80), none, .mv (.t 13)⟩,
                ⟨(some 81), none, .ixa none 2 (.t 79) (.t 80)⟩,
                ⟨(some 82), none, .fld 1 (.t 81)⟩,
                ⟨(some 83), none, .ld 1 false (.t 82)⟩])
              (.cond (.t 83)
                (.region 0 [] [⟨(some 15), none, .mv (.c (.int .i64 1))⟩])
                .skip))
              (.drawn 0 [] [⟨0, ⟨(some 84), none, .mv (.t 12)⟩, [], false⟩,
                ⟨1, ⟨(some 85), none, .mv (.t 15)⟩, [], false⟩,
                ⟨2, ⟨(some 86), none, .mv (.t 12)⟩, [], false⟩,
                ⟨3, ⟨(some 87), none, .mv (.t 15)⟩, [], false⟩,
                ⟨4, ⟨(some 88), none, .nilck (.t 86)⟩, [], false⟩,
                ⟨5, ⟨(some 89), none, .fld 2 (.t 88)⟩, [], false⟩,
                ⟨6, ⟨(some 90), none, .ixa (some 2) 1 (.t 89) (.t 87)⟩, [], false⟩,
                ⟨7, ⟨(some 91), none, .ld 1 false (.t 90)⟩, [], false⟩,
                ⟨8, ⟨(some 92), none, .mv (.t 14)⟩, [], false⟩,
                ⟨9, ⟨(some 93), none, .bin .add (.t 92) (.c (.int .i64 1))⟩, [], false⟩,
                ⟨10, ⟨(some 94), none, .maxi [(.t 91), (.t 93)]⟩, [], false⟩,
                ⟨11, ⟨(some 95), none, .nilck (.t 84)⟩, [], false⟩,
                ⟨12, ⟨(some 96), none, .fld 2 (.t 95)⟩, [], false⟩,
                ⟨13, ⟨(some 97), none, .ixa (some 2) 1 (.t 96) (.t 85)⟩, [], false⟩,
                ⟨14, ⟨none, none, .st 1 (.t 97) (.t 94)⟩, [], false⟩])))))
            (.region 0 [] [⟨(some 98), none, .bin .add (.t 73) (.c (.int .i64 1))⟩,
              ⟨(some 73), none, .mv (.t 98)⟩])))))))
        (.seq (.region 1 [] [⟨(some 99), none, .lfld 11 1 (.t 11)⟩,
          ⟨(some 100), none, .lld 11 1 false (.t 99)⟩,
          ⟨(some 101), none, .app 0 2 16 (.c (.slice [] .nil)) (.t 100)⟩,
          ⟨(some 102), none, .lfld 11 1 (.t 11)⟩,
          ⟨none, none, .lst 11 1 (.t 102) (.t 101)⟩])
        (.seq (.region 0 [] [⟨(some 103), none, .mv (.t 12)⟩,
          ⟨(some 104), none, .lfld 11 3 (.t 11)⟩,
          ⟨(some 105), none, .lld 11 5 true (.t 104)⟩,
          ⟨(some 106), none, .call 58 [(.t 103), (.t 105)]⟩,
          ⟨(some 107), none, .lfld 11 3 (.t 11)⟩,
          ⟨none, none, .lst 11 5 (.t 107) (.t 106)⟩])
        (.region 1 [] [⟨(some 108), none, .lfld 4 1 (.t 4)⟩,
          ⟨(some 109), none, .lld 4 1 false (.t 108)⟩,
          ⟨(some 110), none, .lld 11 8 true (.t 11)⟩,
          ⟨(some 111), none, .bslice 8 1 (.agg [(.str (bs [])), (.slice [] .nil), (.slice [] .nil), (.int .i64 0), (.int .i64 0), (.int .i64 0), (.slice [] .nil), (.slice [] .nil)]) [(0, (.t 110))]⟩,
          ⟨(some 112), none, .app 0 8 136 (.t 109) (.t 111)⟩,
          ⟨(some 113), none, .lfld 4 1 (.t 4)⟩,
          ⟨none, none, .lst 4 1 (.t 113) (.t 112)⟩]))))))))
      (.region 0 [] [⟨(some 114), none, .bin .add (.t 58) (.c (.int .i64 1))⟩,
        ⟨(some 58), none, .mv (.t 114)⟩])))))))
  (.seq (.drawn 0 [] [⟨0, ⟨(some 115), none, .lld 4 2 true (.t 4)⟩, [], false⟩,
    ⟨1, ⟨(some 116), none, .lld 4 2 true (.t 4)⟩, [], false⟩,
    ⟨2, ⟨(some 117), none, .call 41 [(.t 116)]⟩, [], false⟩,
    ⟨3, ⟨none, none, .lst 2 2 (.t 2) (.t 115)⟩, [], false⟩,
    ⟨4, ⟨(some 3), none, .mv (.t 117)⟩, [], false⟩])
  .ret)))))⟩

/- chiasmus/decl.Valid -/
def f45 : AFunc := ⟨1, 60, [.tmp 2], true,
  (.seq (.region 1 [] [⟨(some 1), none, .box 0 (.t 0)⟩,
    ⟨(some 2), none, .mv (.c (.bool false))⟩])
  (.seq (.seq (.region 0 [] [⟨(some 10), none, .ld 1 false (.t 1)⟩,
    ⟨(some 11), none, .len .slice (.t 10)⟩,
    ⟨(some 12), none, .bin .gtr (.t 11) (.c (.int .i64 8))⟩])
  (.cond (.t 12)
    (.seq (.region 0 [] [⟨(some 2), none, .mv (.c (.bool false))⟩])
    .ret)
    .skip))
  (.seq (.region 3 [(0, (.map [] 0)), (1, (.map [] 0)), (2, (.cells [(.map none)]))] [⟨(some 13), none, .mkmap 0⟩,
    ⟨(some 14), none, .mkmap 1⟩,
    ⟨(some 4), none, .alloc 2 [(.map none)]⟩,
    ⟨(some 3), none, .mv (.t 13)⟩,
    ⟨none, none, .st 1 (.t 4) (.t 14)⟩])
  (.seq (.region 0 [] [⟨(some 15), none, .mkfn 59 [] [(.t 4), (.t 1)]⟩,
    ⟨(some 5), none, .mv (.t 15)⟩])
  (.seq (.seq (.region 0 [] [⟨(some 16), none, .ld 1 false (.t 1)⟩,
    ⟨(some 17), none, .len .slice (.t 16)⟩,
    ⟨(some 18), none, .mv (.c (.int .i64 0))⟩])
  (.block 0
    (.loop
      (.seq (.region 0 [] [⟨(some 19), none, .bin .lss (.t 18) (.t 17)⟩])
      (.seq (.cond (.t 19)
        .skip
        (.exit 0))
      (.seq (.block 1
        (.seq (.region 0 [] [⟨(some 20), none, .ixa none 3 (.t 16) (.t 18)⟩,
          ⟨(some 21), none, .ld 3 true (.t 20)⟩,
          ⟨(some 7), none, .lalloc [(.str (bs [])), (.bool false), (.slice [] .nil)] [47, 45, 39, 33, 28, 22]⟩,
          ⟨none, none, .lst 7 3 (.t 7) (.t 21)⟩])
        (.seq (.seq (.region 0 [] [⟨(some 22), none, .lfld 7 0 (.t 7)⟩,
          ⟨(some 23), none, .lld 7 1 false (.t 22)⟩,
          ⟨(some 24), none, .call 46 [(.t 23)]⟩,
          ⟨(some 25), none, .un .not (.t 24)⟩,
          ⟨(some 26), none, .mv (.t 25)⟩,
          ⟨(some 27), (some (26, false)), .mv (.t 3)⟩,
          ⟨(some 28), (some (26, false)), .lfld 7 0 (.t 7)⟩,
          ⟨(some 29), (some (26, false)), .lld 7 1 false (.t 28)⟩,
          ⟨(some 30), (some (26, false)), .lkp (.word .str) (.bool false) false (.t 27) (.t 29)⟩,
          ⟨(some 31), none, .pick (.t 26) (.c (.bool true)) (.t 30)⟩,
          ⟨(some 32), none, .mv (.t 31)⟩,
          ⟨(some 33), (some (32, false)), .lfld 7 2 (.t 7)⟩,
          ⟨(some 34), (some (32, false)), .lld 7 1 false (.t 33)⟩,
          ⟨(some 35), (some (32, false)), .len .slice (.t 34)⟩,
          ⟨(some 36), (some (32, false)), .bin .lss (.t 35) (.c (.int .i64 1))⟩,
          ⟨(some 37), none, .pick (.t 32) (.c (.bool true)) (.t 36)⟩,
          ⟨(some 38), none, .mv (.t 37)⟩,
          ⟨(some 39), (some (38, false)), .lfld 7 2 (.t 7)⟩,
          ⟨(some 40), (some (38, false)), .lld 7 1 false (.t 39)⟩,
          ⟨(some 41), (some (38, false)), .len .slice (.t 40)⟩,
          ⟨(some 42), (some (38, false)), .bin .gtr (.t 41) (.c (.int .i64 6))⟩,
          ⟨(some 43), none, .pick (.t 38) (.c (.bool true)) (.t 42)⟩])
        (.cond (.t 43)
          (.seq (.region 0 [] [⟨(some 2), none, .mv (.c (.bool false))⟩])
          .ret)
          .skip))
        (.seq (.region 0 [] [⟨(some 44), none, .mv (.t 3)⟩,
          ⟨(some 45), none, .lfld 7 0 (.t 7)⟩,
          ⟨(some 46), none, .lld 7 1 false (.t 45)⟩,
          ⟨none, none, .mset (.word .str) (.t 44) (.t 46) (.c (.bool true))⟩])
        (.seq (.region 0 [] [⟨(some 47), none, .lfld 7 2 (.t 7)⟩,
          ⟨(some 48), none, .lld 7 1 false (.t 47)⟩,
          ⟨(some 49), none, .len .slice (.t 48)⟩,
          ⟨(some 50), none, .mv (.c (.int .i64 0))⟩])
        (.block 2
          (.loop
            (.seq (.region 0 [] [⟨(some 51), none, .bin .lss (.t 50) (.t 49)⟩])
            (.seq (.cond (.t 51)
              .skip
              (.exit 2))
            (.seq (.block 3
              (.seq (.region 0 [] [⟨(some 52), none, .ixa none 2 (.t 48) (.t 50)⟩,
                ⟨(some 53), none, .ld 2 true (.t 52)⟩,
                ⟨(some 9), none, .lalloc [(.str (bs [])), (.slice [] .nil)] []⟩,
                ⟨none, none, .lst 9 2 (.t 9) (.t 53)⟩])
              (.seq (.region 0 [] [⟨(some 54), none, .mv (.t 5)⟩,
                ⟨(some 55), none, .lld 9 2 true (.t 9)⟩,
                ⟨(some 56), none, .callv (.t 54) [(.t 55)]⟩,
                ⟨(some 57), none, .un .not (.t 56)⟩])
              (.cond (.t 57)
                (.seq (.region 0 [] [⟨(some 2), none, .mv (.c (.bool false))⟩])
                .ret)
                .skip))))
            (.region 0 [] [⟨(some 58), none, .bin .add (.t 50) (.c (.int .i64 1))⟩,
              ⟨(some 50), none, .mv (.t 58)⟩])))))))))))
      (.region 0 [] [⟨(some 59), none, .bin .add (.t 18) (.c (.int .i64 1))⟩,
        ⟨(some 18), none, .mv (.t 59)⟩])))))))
  (.seq (.region 0 [] [⟨(some 2), none, .mv (.c (.bool true))⟩])
  .ret))))))⟩

/- chiasmus/decl.Name -/
def f46 : AFunc := ⟨1, 27, [.tmp 2], true,
  (.seq (.region 0 [] [⟨(some 2), none, .mv (.c (.bool false))⟩])
  (.seq (.region 0 [] [⟨(some 3), none, .mv (.t 0)⟩,
    ⟨(some 4), none, .len .str (.t 3)⟩,
    ⟨(some 5), none, .bin .geq (.t 4) (.c (.int .i64 1))⟩,
    ⟨(some 6), none, .mv (.t 5)⟩,
    ⟨(some 7), (some (6, true)), .mv (.t 0)⟩,
    ⟨(some 8), (some (6, true)), .len .str (.t 7)⟩,
    ⟨(some 9), (some (6, true)), .bin .leq (.t 8) (.c (.int .i64 10))⟩,
    ⟨(some 10), none, .pick (.t 6) (.t 9) (.c (.bool false))⟩,
    ⟨(some 11), none, .mv (.t 10)⟩,
    ⟨(some 12), (some (11, true)), .mv (.t 0)⟩,
    ⟨(some 13), (some (11, true)), .ixs (.t 12) (.c (.int .i64 0))⟩,
    ⟨(some 14), (some (11, true)), .call 61 [(.t 13)]⟩,
    ⟨(some 15), none, .pick (.t 11) (.t 14) (.c (.bool false))⟩,
    ⟨(some 16), none, .mv (.t 15)⟩,
    ⟨(some 17), (some (16, true)), .mv (.t 0)⟩,
    ⟨(some 18), (some (16, true)), .call 62 [(.t 17)]⟩,
    ⟨(some 19), none, .pick (.t 16) (.t 18) (.c (.bool false))⟩,
    ⟨(some 20), none, .mv (.t 19)⟩,
    ⟨(some 21), (some (20, true)), .mv (.t 0)⟩,
    ⟨(some 22), (some (20, true)), .bin .add (.c (.str (bs [32]))) (.t 21)⟩,
    ⟨(some 23), (some (20, true)), .bin .add (.t 22) (.c (.str (bs [32])))⟩,
    ⟨(some 24), (some (20, true)), .call 63 [(.c (.str (bs [32, 100, 97, 116, 97, 32, 99, 111, 100, 97, 116, 97, 32, 102, 117, 110, 32, 105, 110, 116, 32, 105, 102, 122, 32, 99, 97, 115, 101, 32, 99, 111, 99, 97, 115, 101, 32, 108, 101, 116, 32, 101, 109, 105, 116, 32, 108, 97, 98, 101, 108, 32, 103, 111, 116, 111, 32]))), (.t 23)]⟩,
    ⟨(some 25), (some (20, true)), .un .not (.t 24)⟩,
    ⟨(some 26), none, .pick (.t 20) (.t 25) (.c (.bool false))⟩,
    ⟨(some 2), none, .mv (.t 26)⟩])
  .ret))⟩

/- chiasmus/core.binds -/
def f47 : AFunc := ⟨2, 40, [.tmp 4], true,
  (.seq (.region 0 [] [⟨(some 4), none, .mv (.c (.bool false))⟩])
  (.seq (.seq (.region 0 [] [⟨(some 9), none, .mv (.t 0)⟩,
    ⟨(some 10), none, .len .slice (.t 9)⟩,
    ⟨(some 11), none, .mv (.t 1)⟩,
    ⟨(some 12), none, .len .slice (.t 11)⟩,
    ⟨(some 13), none, .bin .neq (.t 10) (.t 12)⟩])
  (.cond (.t 13)
    (.seq (.region 0 [] [⟨(some 4), none, .mv (.c (.bool false))⟩])
    .ret)
    .skip))
  (.seq (.region 1 [(0, (.map [] 0))] [⟨(some 14), none, .mkmap 0⟩,
    ⟨(some 5), none, .mv (.t 14)⟩])
  (.seq (.seq (.region 0 [] [⟨(some 15), none, .mv (.t 0)⟩,
    ⟨(some 16), none, .len .slice (.t 15)⟩,
    ⟨(some 17), none, .mv (.c (.int .i64 0))⟩])
  (.block 0
    (.loop
      (.seq (.region 0 [] [⟨(some 18), none, .bin .lss (.t 17) (.t 16)⟩])
      (.seq (.cond (.t 18)
        .skip
        (.exit 0))
      (.seq (.block 1
        (.seq (.region 0 [] [⟨(some 19), none, .mv (.t 17)⟩,
          ⟨(some 20), none, .ixa none 1 (.t 15) (.t 17)⟩,
          ⟨(some 21), none, .ld 1 false (.t 20)⟩,
          ⟨(some 6), none, .mv (.t 19)⟩,
          ⟨(some 7), none, .mv (.t 21)⟩])
        (.seq (.region 0 [] [⟨(some 22), none, .mv (.t 1)⟩,
          ⟨(some 23), none, .mv (.t 6)⟩,
          ⟨(some 24), none, .ixa none 1 (.t 22) (.t 23)⟩,
          ⟨(some 25), none, .ld 1 false (.t 24)⟩,
          ⟨(some 26), none, .call 64 [(.t 25)]⟩,
          ⟨(some 27), none, .mv (.t 7)⟩,
          ⟨(some 28), none, .build [(.int .i64 0), (.int .i64 0)] [(0, 1, (.t 26)), (1, 1, (.t 27))]⟩,
          ⟨(some 8), none, .lalloc [(.int .i64 0), (.int .i64 0)] []⟩,
          ⟨none, none, .lst 8 2 (.t 8) (.t 28)⟩])
        (.seq (.seq (.region 0 [] [⟨(some 29), none, .mv (.t 7)⟩,
          ⟨(some 30), none, .call 65 [(.t 29)]⟩,
          ⟨(some 31), none, .un .not (.t 30)⟩,
          ⟨(some 32), none, .mv (.t 31)⟩,
          ⟨(some 33), (some (32, false)), .mv (.t 5)⟩,
          ⟨(some 34), (some (32, false)), .lld 8 2 true (.t 8)⟩,
          ⟨(some 35), (some (32, false)), .lkp (.agg [.int, .int]) (.bool false) false (.t 33) (.t 34)⟩,
          ⟨(some 36), none, .pick (.t 32) (.c (.bool true)) (.t 35)⟩])
        (.cond (.t 36)
          (.seq (.region 0 [] [⟨(some 4), none, .mv (.c (.bool false))⟩])
          .ret)
          .skip))
        (.region 0 [] [⟨(some 37), none, .mv (.t 5)⟩,
          ⟨(some 38), none, .lld 8 2 true (.t 8)⟩,
          ⟨none, none, .mset (.agg [.int, .int]) (.t 37) (.t 38) (.c (.bool true))⟩])))))
      (.region 0 [] [⟨(some 39), none, .bin .add (.t 17) (.c (.int .i64 1))⟩,
        ⟨(some 17), none, .mv (.t 39)⟩])))))))
  (.seq (.region 0 [] [⟨(some 4), none, .mv (.c (.bool true))⟩])
  .ret)))))⟩

/- chiasmus/core.NewScope -/
def f48 : AFunc := ⟨2, 34, [.lcell 4 4 2 true], true,
  (.seq (.region 0 [] [⟨(some 4), none, .lalloc [(.map none), (.map none)] []⟩])
  (.seq (.region 2 [(0, (.map [] 0)), (1, (.map [] 0))] [⟨(some 10), none, .mkmap 0⟩,
    ⟨(some 11), none, .mkmap 1⟩,
    ⟨(some 12), none, .build [(.map none), (.map none)] [(0, 1, (.t 10)), (1, 1, (.t 11))]⟩,
    ⟨(some 5), none, .lalloc [(.map none), (.map none)] [29, 19]⟩,
    ⟨none, none, .lst 5 2 (.t 5) (.t 12)⟩])
  (.seq (.seq (.region 0 [] [⟨(some 13), none, .mv (.t 0)⟩,
    ⟨(some 14), none, .len .slice (.t 13)⟩,
    ⟨(some 15), none, .mv (.c (.int .i64 0))⟩])
  (.block 0
    (.loop
      (.seq (.region 0 [] [⟨(some 16), none, .bin .lss (.t 15) (.t 14)⟩])
      (.seq (.cond (.t 16)
        .skip
        (.exit 0))
      (.seq (.block 1
        (.seq (.region 0 [] [⟨(some 17), none, .ixa none 1 (.t 13) (.t 15)⟩,
          ⟨(some 18), none, .ld 1 false (.t 17)⟩,
          ⟨(some 7), none, .mv (.t 18)⟩])
        (.region 0 [] [⟨(some 19), none, .lfld 5 0 (.t 5)⟩,
          ⟨(some 20), none, .lld 5 1 false (.t 19)⟩,
          ⟨(some 21), none, .mv (.t 7)⟩,
          ⟨none, none, .mset (.word .int) (.t 20) (.t 21) (.c (.bool true))⟩])))
      (.region 0 [] [⟨(some 22), none, .bin .add (.t 15) (.c (.int .i64 1))⟩,
        ⟨(some 15), none, .mv (.t 22)⟩])))))))
  (.seq (.seq (.region 0 [] [⟨(some 23), none, .mv (.t 1)⟩,
    ⟨(some 24), none, .len .slice (.t 23)⟩,
    ⟨(some 25), none, .mv (.c (.int .i64 0))⟩])
  (.block 2
    (.loop
      (.seq (.region 0 [] [⟨(some 26), none, .bin .lss (.t 25) (.t 24)⟩])
      (.seq (.cond (.t 26)
        .skip
        (.exit 2))
      (.seq (.block 3
        (.seq (.region 0 [] [⟨(some 27), none, .ixa none 1 (.t 23) (.t 25)⟩,
          ⟨(some 28), none, .ld 1 false (.t 27)⟩,
          ⟨(some 9), none, .mv (.t 28)⟩])
        (.region 0 [] [⟨(some 29), none, .lfld 5 1 (.t 5)⟩,
          ⟨(some 30), none, .lld 5 1 false (.t 29)⟩,
          ⟨(some 31), none, .mv (.t 9)⟩,
          ⟨none, none, .mset (.word .int) (.t 30) (.t 31) (.c (.bool true))⟩])))
      (.region 0 [] [⟨(some 32), none, .bin .add (.t 25) (.c (.int .i64 1))⟩,
        ⟨(some 25), none, .mv (.t 32)⟩])))))))
  (.seq (.region 0 [] [⟨(some 33), none, .lld 5 2 true (.t 5)⟩,
    ⟨none, none, .lst 4 2 (.t 4) (.t 33)⟩])
  .ret)))))⟩

/- (chiasmus/core.Scope).enter -/
def f49 : AFunc := ⟨3, 41, [.tmp 6], true,
  (.seq (.region 1 [] [⟨(some 3), none, .box 0 (.t 0)⟩,
    ⟨(some 6), none, .mv (.c .nilfunc)⟩])
  (.seq (.region 1 [(0, (.cells [(.slice [] .nil)]))] [⟨(some 7), none, .alloc 0 [(.slice [] .nil)]⟩])
  (.seq (.seq (.region 0 [] [⟨(some 11), none, .mv (.t 1)⟩,
    ⟨(some 12), none, .len .slice (.t 11)⟩,
    ⟨(some 13), none, .mv (.c (.int .i64 0))⟩])
  (.block 0
    (.loop
      (.seq (.region 0 [] [⟨(some 14), none, .bin .lss (.t 13) (.t 12)⟩])
      (.seq (.cond (.t 14)
        .skip
        (.exit 0))
      (.seq (.block 1
        (.seq (.region 0 [] [⟨(some 15), none, .mv (.t 13)⟩,
          ⟨(some 16), none, .ixa none 1 (.t 11) (.t 13)⟩,
          ⟨(some 17), none, .ld 1 false (.t 16)⟩,
          ⟨(some 8), none, .mv (.t 15)⟩,
          ⟨(some 9), none, .mv (.t 17)⟩])
        (.seq (.region 0 [] [⟨(some 18), none, .mv (.t 2)⟩,
          ⟨(some 19), none, .mv (.t 8)⟩,
          ⟨(some 20), none, .ixa none 1 (.t 18) (.t 19)⟩,
          ⟨(some 21), none, .ld 1 false (.t 20)⟩,
          ⟨(some 22), none, .call 64 [(.t 21)]⟩,
          ⟨(some 10), none, .mv (.t 22)⟩])
        (.seq (.region 0 [] [⟨(some 23), none, .mv (.t 10)⟩,
          ⟨(some 24), none, .ixa (some 2) 1 (.t 3) (.t 23)⟩,
          ⟨(some 25), none, .ld 1 false (.t 24)⟩,
          ⟨(some 26), none, .mv (.t 9)⟩,
          ⟨(some 27), none, .lkp (.word .int) (.bool false) false (.t 25) (.t 26)⟩,
          ⟨(some 28), none, .un .not (.t 27)⟩])
        (.cond (.t 28)
          (.seq (.region 0 [] [⟨(some 29), none, .mv (.t 10)⟩,
            ⟨(some 30), none, .ixa (some 2) 1 (.t 3) (.t 29)⟩,
            ⟨(some 31), none, .ld 1 false (.t 30)⟩,
            ⟨(some 32), none, .mv (.t 9)⟩,
            ⟨none, none, .mset (.word .int) (.t 31) (.t 32) (.c (.bool true))⟩])
          (.region 1 [] [⟨(some 33), none, .ld 1 false (.t 7)⟩,
            ⟨(some 34), none, .mv (.t 10)⟩,
            ⟨(some 35), none, .mv (.t 9)⟩,
            ⟨(some 36), none, .build [(.int .i64 0), (.int .i64 0)] [(0, 1, (.t 34)), (1, 1, (.t 35))]⟩,
            ⟨(some 37), none, .bslice 2 1 (.agg [(.int .i64 0), (.int .i64 0)]) [(0, (.t 36))]⟩,
            ⟨(some 38), none, .app 0 2 16 (.t 33) (.t 37)⟩,
            ⟨none, none, .st 1 (.t 7) (.t 38)⟩]))
          .skip)))))
      (.region 0 [] [⟨(some 39), none, .bin .add (.t 13) (.c (.int .i64 1))⟩,
        ⟨(some 13), none, .mv (.t 39)⟩])))))))
  (.seq (.region 0 [] [⟨(some 40), none, .mkfn 66 [] [(.t 7), (.t 3)]⟩,
    ⟨(some 6), none, .mv (.t 40)⟩])
  .ret))))⟩

/- chiasmus/core.sides -/
def f50 : AFunc := ⟨1, 19, [.tmp 2], true,
  (.seq (.region 0 [] [⟨(some 2), none, .mv (.c (.slice [] .nil))⟩])
  (.seq (.region 0 [] [⟨(some 3), none, .mv (.c (.slice [] .nil))⟩])
  (.seq (.seq (.region 0 [] [⟨(some 6), none, .mv (.t 0)⟩,
    ⟨(some 7), none, .len .slice (.t 6)⟩,
    ⟨(some 8), none, .mv (.c (.int .i64 0))⟩])
  (.block 0
    (.loop
      (.seq (.region 0 [] [⟨(some 9), none, .bin .lss (.t 8) (.t 7)⟩])
      (.seq (.cond (.t 9)
        .skip
        (.exit 0))
      (.seq (.block 1
        (.seq (.region 0 [] [⟨(some 10), none, .ixa none 2 (.t 6) (.t 8)⟩,
          ⟨(some 11), none, .ld 2 true (.t 10)⟩,
          ⟨(some 5), none, .lalloc [(.int .i64 0), (.bool false)] [13]⟩,
          ⟨none, none, .lst 5 2 (.t 5) (.t 11)⟩])
        (.region 1 [] [⟨(some 12), none, .mv (.t 3)⟩,
          ⟨(some 13), none, .lfld 5 1 (.t 5)⟩,
          ⟨(some 14), none, .lld 5 1 false (.t 13)⟩,
          ⟨(some 15), none, .bslice 1 1 (.bool false) [(0, (.t 14))]⟩,
          ⟨(some 16), none, .app 0 1 1 (.t 12) (.t 15)⟩,
          ⟨(some 3), none, .mv (.t 16)⟩])))
      (.region 0 [] [⟨(some 17), none, .bin .add (.t 8) (.c (.int .i64 1))⟩,
        ⟨(some 8), none, .mv (.t 17)⟩])))))))
  (.seq (.region 0 [] [⟨(some 18), none, .mv (.t 3)⟩,
    ⟨(some 2), none, .mv (.t 18)⟩])
  .ret))))⟩

/- chiasmus/core.Sort -/
def f51 : AFunc := ⟨1, 16, [.tmp 2], true,
  (.seq (.region 0 [] [⟨(some 2), none, .mv (.c (.int .i64 0))⟩])
  (.seq (.block 0
    (.seq (.region 0 [] [⟨(some 4), none, .mv (.t 0)⟩,
      ⟨(some 5), none, .bin .lss (.t 4) (.c (.int .i64 0))⟩,
      ⟨(some 6), none, .mv (.t 5)⟩,
      ⟨(some 7), (some (6, false)), .mv (.t 0)⟩,
      ⟨(some 8), (some (6, false)), .bin .gtr (.t 7) (.c (.int .i64 14))⟩,
      ⟨(some 9), none, .pick (.t 6) (.c (.bool true)) (.t 8)⟩,
      ⟨(some 3), none, .mv (.t 9)⟩])
    (.cond (.t 3)
      (.seq (.region 0 [] [⟨(some 2), none, .mv (.c (.int .i64 (-1)))⟩])
      .ret)
      (.seq (.region 0 [] [⟨(some 11), none, .mv (.t 0)⟩,
        ⟨(some 12), none, .bin .leq (.t 11) (.c (.int .i64 4))⟩,
        ⟨(some 10), none, .mv (.t 12)⟩])
      (.cond (.t 10)
        (.seq (.region 0 [] [⟨(some 2), none, .mv (.c (.int .i64 0))⟩])
        .ret)
        (.seq (.region 0 [] [⟨(some 14), none, .mv (.t 0)⟩,
          ⟨(some 15), none, .bin .leq (.t 14) (.c (.int .i64 8))⟩,
          ⟨(some 13), none, .mv (.t 15)⟩])
        (.cond (.t 13)
          (.seq (.region 0 [] [⟨(some 2), none, .mv (.c (.int .i64 1))⟩])
          .ret)
          .skip)))))))
  (.seq (.region 0 [] [⟨(some 2), none, .mv (.c (.int .i64 2))⟩])
  .ret)))⟩

end Go.Ago.Nil
