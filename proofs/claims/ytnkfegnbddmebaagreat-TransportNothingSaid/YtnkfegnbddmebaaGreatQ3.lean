/-
  Tables of the evaluator: functions of the program, as it reckons them (part 3). Conditions: none.
-/
import Derived.Test.YtnkfegnbddmebaaGreatEvA
set_option maxRecDepth 1000000
namespace Go.Ev.Q
open Go Go.Ev
noncomputable def f231 : AFn := { np := 1, nt := 21, res := [.t 2], body :=
 (.seq (.reg [⟨(some 2),(.mv (.c (.i .i64 0))),none,[]⟩])
 (.seq (.seq (.reg [⟨(some 5),(.mv (.t 0)),none,[]⟩,⟨(some 6),(.call 201 [(.t 5)]),none,[]⟩,⟨(some 7),(.lns false (.t 6)),none,[]⟩,⟨(some 8),(.mv (.c (.i .i64 0))),none,[]⟩])
 (.blk 0 (.loop (.seq (.reg [⟨(some 9),(.bi .lss (.t 8) (.t 7)),none,[]⟩])
 (.seq (.cond (.t 9) .skip (.exit 0))
 (.seq (.blk 1 (.seq (.reg [⟨(some 10),(.ias 2 (.t 6) (.t 8)),none,[]⟩,⟨(some 11),(.ldn (.t 10) 2),none,[]⟩,⟨(some 4),(.al [(.i .i64 0),(.i .i64 0)]),none,[]⟩,⟨none,(.st (.t 4) (.t 11) 2),none,[]⟩])
 (.reg [⟨(some 12),(.mv (.t 2)),none,[]⟩,⟨(some 13),(.fa (.t 4) 1),none,[]⟩,⟨(some 14),(.ld (.t 13)),none,[]⟩,⟨(some 15),(.fa (.t 4) 0),none,[]⟩,⟨(some 16),(.ld (.t 15)),none,[]⟩,⟨(some 17),(.bi .sub (.t 14) (.t 16)),none,[]⟩,⟨(some 18),(.bi .add (.t 12) (.t 17)),none,[]⟩,⟨(some 2),(.mv (.t 18)),none,[]⟩])))
 (.reg [⟨(some 19),(.bi .add (.t 8) (.c (.i .i64 1))),none,[]⟩,⟨(some 8),(.mv (.t 19)),none,[]⟩])))))))
 (.seq (.reg [⟨(some 20),(.mv (.t 2)),none,[]⟩,⟨(some 2),(.mv (.t 20)),none,[]⟩])
 .ret))) }
noncomputable def f240 : AFn := { np := 2, nt := 24, res := [.t 4], body :=
 (.seq (.reg [⟨(some 3),(.bx (.t 1)),none,[]⟩,⟨(some 4),(.mv (.c (.i .i64 0))),none,[]⟩])
 (.seq (.reg [⟨(some 6),(.fa (.t 3) 1),none,[]⟩,⟨(some 7),(.ld (.t 6)),none,[]⟩,⟨(some 8),(.bi .mul (.t 7) (.c (.i .u64 11400714819323198485))),none,[]⟩,⟨(some 9),(.fa (.t 3) 0),none,[]⟩,⟨(some 10),(.ld (.t 9)),none,[]⟩,⟨(some 11),(.cvi .u64 (.t 10)),none,[]⟩,⟨(some 12),(.bi .mul (.t 11) (.c (.i .u64 13787848793156543929))),none,[]⟩,⟨(some 13),(.bi .add (.t 8) (.t 12)),none,[]⟩,⟨(some 14),(.bi .shr (.t 13) (.c (.i .u64 20))),none,[]⟩,⟨(some 5),(.mv (.t 14)),none,[]⟩])
 (.seq (.reg [⟨(some 15),(.mv (.t 5)),none,[]⟩,⟨(some 16),(.mv (.t 0)),none,[]⟩,⟨(some 17),(.nc (.t 16)),none,[]⟩,⟨(some 18),(.fa (.t 17) 2),none,[]⟩,⟨(some 19),(.ld (.t 18)),none,[]⟩,⟨(some 20),(.lns false (.t 19)),none,[]⟩,⟨(some 21),(.cvi .u64 (.t 20)),none,[]⟩,⟨(some 22),(.bi .rem (.t 15) (.t 21)),none,[]⟩,⟨(some 23),(.cvi .i64 (.t 22)),none,[]⟩,⟨(some 4),(.mv (.t 23)),none,[]⟩])
 .ret))) }
noncomputable def f247 : AFn := { np := 3, nt := 95, res := [.t 6], body :=
 (.seq (.reg [⟨(some 6),(.mv (.c .nsl)),none,[]⟩])
 (.seq (.reg [⟨(some 10),(.mv (.t 0)),none,[]⟩,⟨(some 11),(.mv (.t 1)),none,[]⟩,⟨(some 12),(.sll 2 (.t 10) (some (.t 11)) none none),none,[]⟩])
 (.seq (.reg [⟨(some 13),(.mv (.t 2)),none,[]⟩,⟨(some 14),(.lns false (.t 13)),none,[]⟩,⟨(some 7),(.mv (.t 14)),none,[]⟩])
 (.seq (.seq (.reg [⟨(some 15),(.mv (.t 7)),none,[]⟩,⟨(some 16),(.bi .eql (.t 15) (.c (.i .i64 0))),none,[]⟩])
 (.cond (.t 16) (.seq (.reg [⟨(some 17),(.mv (.t 0)),none,[]⟩,⟨(some 6),(.mv (.t 17)),none,[]⟩])
 .ret) .skip))
 (.seq (.reg [⟨(some 18),(.mv (.t 0)),none,[]⟩,⟨(some 19),(.lns false (.t 18)),none,[]⟩,⟨(some 8),(.mv (.t 19)),none,[]⟩])
 (.seq (.seq (.reg [⟨(some 20),(.mv (.t 1)),none,[]⟩,⟨(some 21),(.mv (.t 8)),none,[]⟩,⟨(some 22),(.bi .eql (.t 20) (.t 21)),none,[]⟩])
 (.cond (.t 22) (.seq (.reg [⟨(some 23),(.mv (.t 0)),none,[]⟩,⟨(some 24),(.mv (.t 2)),none,[]⟩,⟨(some 25),(.ap 2 (.t 23) (.t 24)),none,[]⟩,⟨(some 6),(.mv (.t 25)),none,[]⟩])
 .ret) .skip))
 (.seq (.seq (.reg [⟨(some 26),(.mv (.t 8)),none,[]⟩,⟨(some 27),(.mv (.t 7)),none,[]⟩,⟨(some 28),(.bi .add (.t 26) (.t 27)),none,[]⟩,⟨(some 29),(.mv (.t 0)),none,[]⟩,⟨(some 30),(.cp (.t 29)),none,[]⟩,⟨(some 31),(.bi .gtr (.t 28) (.t 30)),none,[]⟩])
 (.cond (.t 31) (.seq (.reg [⟨(some 32),(.mv (.t 0)),none,[]⟩,⟨(some 33),(.mv (.t 1)),none,[]⟩,⟨(some 34),(.sll 2 (.t 32) none (some (.t 33)) none),none,[]⟩,⟨(some 35),(.mv (.t 8)),none,[]⟩,⟨(some 36),(.mv (.t 7)),none,[]⟩,⟨(some 37),(.bi .add (.t 35) (.t 36)),none,[]⟩,⟨(some 38),(.mv (.t 1)),none,[]⟩,⟨(some 39),(.bi .sub (.t 37) (.t 38)),none,[]⟩,⟨(some 40),(.apz 2 16 [(.i .i64 0),(.i .i64 0)] (.t 34) (.t 39)),none,[]⟩,⟨(some 9),(.mv (.t 40)),none,[]⟩])
 (.seq (.reg [⟨(some 41),(.mv (.t 9)),none,[]⟩,⟨(some 42),(.mv (.t 1)),none,[]⟩,⟨(some 43),(.sll 2 (.t 41) (some (.t 42)) none none),none,[]⟩,⟨(some 44),(.mv (.t 2)),none,[]⟩,⟨(some 45),(.cpy 2 (.t 43) (.t 44)),none,[]⟩])
 (.seq (.drw [⟨(some 46),(.mv (.t 9)),none,[]⟩,⟨(some 47),(.mv (.t 1)),none,[]⟩,⟨(some 48),(.mv (.t 7)),none,[]⟩,⟨(some 49),(.bi .add (.t 47) (.t 48)),none,[]⟩,⟨(some 50),(.sll 2 (.t 46) (some (.t 49)) none none),none,[]⟩,⟨(some 51),(.mv (.t 0)),none,[]⟩,⟨(some 52),(.mv (.t 1)),none,[]⟩,⟨(some 53),(.sll 2 (.t 51) (some (.t 52)) none none),none,[]⟩,⟨(some 54),(.cpy 2 (.t 50) (.t 53)),none,[]⟩])
 (.seq (.reg [⟨(some 55),(.mv (.t 9)),none,[]⟩,⟨(some 6),(.mv (.t 55)),none,[]⟩])
 .ret)))) .skip))
 (.seq (.reg [⟨(some 56),(.mv (.t 0)),none,[]⟩,⟨(some 57),(.mv (.t 8)),none,[]⟩,⟨(some 58),(.mv (.t 7)),none,[]⟩,⟨(some 59),(.bi .add (.t 57) (.t 58)),none,[]⟩,⟨(some 60),(.sll 2 (.t 56) none (some (.t 59)) none),none,[]⟩,⟨(some 0),(.mv (.t 60)),none,[]⟩])
 (.seq (.seq (.reg [⟨(some 61),(.mv (.t 2)),none,[]⟩,⟨(some 62),(.mv (.t 0)),none,[]⟩,⟨(some 63),(.mv (.t 1)),none,[]⟩,⟨(some 64),(.mv (.t 7)),none,[]⟩,⟨(some 65),(.bi .add (.t 63) (.t 64)),none,[]⟩,⟨(some 66),(.sll 2 (.t 62) (some (.t 65)) none none),none,[]⟩,⟨(some 67),(.call 248 [(.t 61),(.t 66)]),none,[]⟩,⟨(some 68),(.un .not (.t 67)),none,[]⟩])
 (.cond (.t 68) (.seq (.drw [⟨(some 69),(.mv (.t 0)),none,[]⟩,⟨(some 70),(.mv (.t 1)),none,[]⟩,⟨(some 71),(.mv (.t 7)),none,[]⟩,⟨(some 72),(.bi .add (.t 70) (.t 71)),none,[]⟩,⟨(some 73),(.sll 2 (.t 69) (some (.t 72)) none none),none,[]⟩,⟨(some 74),(.mv (.t 0)),none,[]⟩,⟨(some 75),(.mv (.t 1)),none,[]⟩,⟨(some 76),(.sll 2 (.t 74) (some (.t 75)) none none),none,[]⟩,⟨(some 77),(.cpy 2 (.t 73) (.t 76)),none,[]⟩])
 (.seq (.reg [⟨(some 78),(.mv (.t 0)),none,[]⟩,⟨(some 79),(.mv (.t 1)),none,[]⟩,⟨(some 80),(.sll 2 (.t 78) (some (.t 79)) none none),none,[]⟩,⟨(some 81),(.mv (.t 2)),none,[]⟩,⟨(some 82),(.cpy 2 (.t 80) (.t 81)),none,[]⟩])
 (.seq (.reg [⟨(some 83),(.mv (.t 0)),none,[]⟩,⟨(some 6),(.mv (.t 83)),none,[]⟩])
 .ret))) .skip))
 (.seq (.reg [⟨(some 84),(.mv (.t 0)),none,[]⟩,⟨(some 85),(.mv (.t 8)),none,[]⟩,⟨(some 86),(.sll 2 (.t 84) (some (.t 85)) none none),none,[]⟩,⟨(some 87),(.mv (.t 2)),none,[]⟩,⟨(some 88),(.cpy 2 (.t 86) (.t 87)),none,[]⟩])
 (.seq (.reg [⟨(some 89),(.mv (.t 0)),none,[]⟩,⟨(some 90),(.mv (.t 1)),none,[]⟩,⟨(some 91),(.sll 2 (.t 89) (some (.t 90)) none none),none,[]⟩,⟨(some 92),(.mv (.t 7)),none,[]⟩,⟨(some 93),(.call 249 [(.t 91),(.t 92)]),none,[]⟩])
 (.seq (.reg [⟨(some 94),(.mv (.t 0)),none,[]⟩,⟨(some 6),(.mv (.t 94)),none,[]⟩])
 .ret)))))))))))) }
noncomputable def f327 : AFn := { np := 2, nt := 44, res := [], body :=
 (.seq (.seq (.reg [⟨(some 4),(.mv (.t 0)),none,[]⟩,⟨(some 5),(.eq false .ptr (.t 4) (.c .np)),none,[]⟩,⟨(some 6),(.mv (.t 5)),none,[]⟩,⟨(some 7),(.mv (.t 0)),(some (6,false)),[]⟩,⟨(some 8),(.nc (.t 7)),(some (6,false)),[]⟩,⟨(some 9),(.fa (.t 8) 1),(some (6,false)),[]⟩,⟨(some 10),(.ld (.t 9)),(some (6,false)),[]⟩,⟨(some 11),(.bi .eql (.t 10) (.c (.i .i64 0))),(some (6,false)),[]⟩,⟨(some 12),(.pk (.t 6) (.c (.b true)) (.t 11)),none,[]⟩])
 (.cond (.t 12) .ret .skip))
 (.seq (.drw [⟨(some 13),(.mv (.t 0)),none,[]⟩,⟨(some 14),(.mv (.t 0)),none,[]⟩,⟨(some 15),(.nc (.t 14)),none,[]⟩,⟨(some 16),(.fa (.t 15) 2),none,[]⟩,⟨(some 17),(.ld (.t 16)),none,[]⟩,⟨(some 18),(.mv (.t 1)),none,[]⟩,⟨(some 19),(.call 169 [(.t 18),(.c (.i .i64 0)),(.c (.i .i64 1073741824))]),none,[(17,(.ld (.t 16)),none)]⟩,⟨(some 20),(.bs 1 [(.i .i64 0)] [(0,1,(.t 19))]),none,[]⟩,⟨(some 21),(.ap 1 (.t 17) (.t 20)),none,[]⟩,⟨(some 22),(.nc (.t 13)),none,[]⟩,⟨(some 23),(.fa (.t 22) 2),none,[]⟩,⟨none,(.st (.t 23) (.t 21) 1),none,[]⟩])
 (.drw [⟨(some 24),(.mv (.t 0)),none,[]⟩,⟨(some 25),(.mv (.t 0)),none,[]⟩,⟨(some 26),(.nc (.t 25)),none,[]⟩,⟨(some 27),(.fa (.t 26) 2),none,[]⟩,⟨(some 28),(.ld (.t 27)),none,[]⟩,⟨(some 29),(.mv (.t 0)),none,[]⟩,⟨(some 30),(.nc (.t 29)),none,[]⟩,⟨(some 31),(.fa (.t 30) 2),none,[]⟩,⟨(some 32),(.ld (.t 31)),none,[]⟩,⟨(some 33),(.lns false (.t 32)),none,[]⟩,⟨(some 34),(.mv (.t 0)),none,[]⟩,⟨(some 35),(.nc (.t 34)),none,[]⟩,⟨(some 36),(.fa (.t 35) 1),none,[]⟩,⟨(some 37),(.ld (.t 36)),none,[]⟩,⟨(some 38),(.bi .sub (.t 33) (.t 37)),none,[]⟩,⟨(some 39),(.mx [(.t 38),(.c (.i .i64 0))]),none,[]⟩,⟨(some 40),(.sll 1 (.t 28) (some (.t 39)) none none),none,[]⟩,⟨(some 41),(.call 344 [(.t 40)]),none,[]⟩,⟨(some 42),(.nc (.t 24)),none,[]⟩,⟨(some 43),(.fa (.t 42) 2),none,[]⟩,⟨none,(.st (.t 43) (.t 41) 1),none,[]⟩]))) }
noncomputable def f329 : AFn := { np := 2, nt := 61, res := [], body :=
 (.seq (.reg [⟨(some 5),(.mv (.t 1)),none,[]⟩,⟨(some 6),(.nc (.t 5)),none,[]⟩,⟨(some 7),(.fa (.t 6) 2),none,[]⟩,⟨(some 8),(.ld (.t 7)),none,[]⟩,⟨(some 9),(.lns false (.t 8)),none,[]⟩,⟨(some 4),(.mv (.t 9)),none,[]⟩])
 (.seq (.reg [⟨(some 10),(.mv (.t 1)),none,[]⟩,⟨(some 11),(.mv (.t 0)),none,[]⟩,⟨(some 12),(.mv (.t 4)),none,[]⟩,⟨(some 13),(.call 341 [(.t 11),(.t 12)]),none,[]⟩,⟨(some 14),(.nc (.t 10)),none,[]⟩,⟨(some 15),(.fa (.t 14) 3),none,[]⟩,⟨none,(.st (.t 15) (.t 13) 1),none,[]⟩])
 (.seq (.reg [⟨(some 16),(.mv (.t 1)),none,[]⟩,⟨(some 17),(.mv (.t 1)),none,[]⟩,⟨(some 18),(.nc (.t 17)),none,[]⟩,⟨(some 19),(.fa (.t 18) 3),none,[]⟩,⟨(some 20),(.ld (.t 19)),none,[]⟩,⟨(some 21),(.nc (.t 16)),none,[]⟩,⟨(some 22),(.fa (.t 21) 6),none,[]⟩,⟨none,(.st (.t 22) (.t 20) 1),none,[]⟩])
 (.seq (.reg [⟨(some 23),(.mv (.t 0)),none,[]⟩,⟨(some 24),(.nc (.t 23)),none,[]⟩,⟨(some 25),(.fa (.t 24) 1),none,[]⟩,⟨(some 26),(.ld (.t 25)),none,[]⟩,⟨(some 27),(.mv (.t 4)),none,[]⟩,⟨(some 28),(.call 327 [(.t 26),(.t 27)]),none,[]⟩])
 (.seq (.drw [⟨(some 29),(.mv (.t 1)),none,[]⟩,⟨(some 30),(.mv (.t 0)),none,[]⟩,⟨(some 31),(.nc (.t 30)),none,[]⟩,⟨(some 32),(.fa (.t 31) 1),none,[]⟩,⟨(some 33),(.ld (.t 32)),none,[]⟩,⟨(some 34),(.mv (.t 4)),none,[]⟩,⟨(some 35),(.mv (.t 0)),none,[]⟩,⟨(some 36),(.nc (.t 35)),none,[]⟩,⟨(some 37),(.fa (.t 36) 0),none,[]⟩,⟨(some 38),(.ld (.t 37)),none,[]⟩,⟨(some 39),(.nc (.t 38)),none,[]⟩,⟨(some 40),(.fa (.t 39) 0),none,[]⟩,⟨(some 41),(.fa (.t 40) 4),none,[]⟩,⟨(some 42),(.ld (.t 41)),none,[]⟩,⟨(some 43),(.call 343 [(.t 33),(.t 34),(.t 42)]),none,[]⟩,⟨(some 44),(.nc (.t 29)),none,[]⟩,⟨(some 45),(.fa (.t 44) 9),none,[]⟩,⟨none,(.st (.t 45) (.t 43) 1),none,[]⟩])
 (.seq (.reg [⟨(some 46),(.mv (.t 1)),none,[]⟩,⟨(some 47),(.nc (.t 46)),none,[]⟩,⟨(some 48),(.fa (.t 47) 3),none,[]⟩,⟨(some 49),(.ld (.t 48)),none,[]⟩,⟨(some 50),(.bi .eql (.t 49) (.c (.i .i64 0))),none,[]⟩,⟨(some 51),(.mv (.t 50)),none,[]⟩,⟨(some 52),(.mv (.t 4)),(some (51,true)),[]⟩,⟨(some 53),(.bi .gtr (.t 52) (.c (.i .i64 0))),(some (51,true)),[]⟩,⟨(some 54),(.pk (.t 51) (.t 53) (.c (.b false))),none,[]⟩])
 (.cond (.t 54) (.reg [⟨(some 55),(.mv (.t 0)),none,[]⟩,⟨(some 56),(.nc (.t 55)),none,[]⟩,⟨(some 57),(.fa (.t 56) 0),none,[]⟩,⟨(some 58),(.ld (.t 57)),none,[]⟩,⟨(some 59),(.mv (.t 1)),none,[]⟩,⟨(some 60),(.call 301 [(.t 58),(.t 59)]),none,[]⟩]) .skip))))))) }
noncomputable def f330 : AFn := { np := 3, nt := 34, res := [], body :=
 (.seq (.reg [⟨(some 5),(.bx (.t 2)),none,[]⟩])
 (.seq (.drw [⟨(some 6),(.mv (.t 1)),none,[]⟩,⟨(some 7),(.mv (.t 1)),none,[]⟩,⟨(some 8),(.nc (.t 7)),none,[]⟩,⟨(some 9),(.fa (.t 8) 6),none,[]⟩,⟨(some 10),(.ld (.t 9)),none,[]⟩,⟨(some 11),(.fa (.t 5) 5),none,[]⟩,⟨(some 12),(.ld (.t 11)),none,[]⟩,⟨(some 13),(.fa (.t 5) 6),none,[]⟩,⟨(some 14),(.ld (.t 13)),none,[]⟩,⟨(some 15),(.bi .add (.t 12) (.t 14)),none,[]⟩,⟨(some 16),(.mx [(.t 10),(.t 15)]),none,[]⟩,⟨(some 17),(.nc (.t 6)),none,[]⟩,⟨(some 18),(.fa (.t 17) 6),none,[]⟩,⟨none,(.st (.t 18) (.t 16) 1),none,[]⟩])
 (.seq (.drw [⟨(some 19),(.mv (.t 1)),none,[]⟩,⟨(some 20),(.mv (.t 1)),none,[]⟩,⟨(some 21),(.nc (.t 20)),none,[]⟩,⟨(some 22),(.fa (.t 21) 7),none,[]⟩,⟨(some 23),(.ld (.t 22)),none,[]⟩,⟨(some 24),(.fa (.t 5) 5),none,[]⟩,⟨(some 25),(.ld (.t 24)),none,[]⟩,⟨(some 26),(.fa (.t 5) 6),none,[]⟩,⟨(some 27),(.ld (.t 26)),none,[]⟩,⟨(some 28),(.bi .add (.t 25) (.t 27)),none,[]⟩,⟨(some 29),(.mx [(.t 23),(.t 28)]),none,[]⟩,⟨(some 30),(.nc (.t 19)),none,[]⟩,⟨(some 31),(.fa (.t 30) 7),none,[]⟩,⟨none,(.st (.t 31) (.t 29) 1),none,[]⟩])
 (.reg [⟨(some 32),(.mv (.t 0)),none,[]⟩,⟨(some 33),(.call 345 [(.t 32)]),none,[]⟩])))) }
noncomputable def f331 : AFn := { np := 2, nt := 6, res := [], body :=
 (.reg [⟨(some 4),(.mv (.t 0)),none,[]⟩,⟨(some 5),(.call 345 [(.t 4)]),none,[]⟩]) }
noncomputable def f333 : AFn := { np := 2, nt := 22, res := [], body :=
 (.seq (.reg [⟨(some 4),(.mv (.t 1)),none,[]⟩,⟨(some 5),(.mv (.t 0)),none,[]⟩,⟨(some 6),(.mv (.t 1)),none,[]⟩,⟨(some 7),(.nc (.t 6)),none,[]⟩,⟨(some 8),(.fa (.t 7) 2),none,[]⟩,⟨(some 9),(.ld (.t 8)),none,[]⟩,⟨(some 10),(.call 341 [(.t 5),(.t 9)]),none,[]⟩,⟨(some 11),(.nc (.t 4)),none,[]⟩,⟨(some 12),(.fa (.t 11) 6),none,[]⟩,⟨none,(.st (.t 12) (.t 10) 1),none,[]⟩])
 (.seq (.reg [⟨(some 13),(.mv (.t 1)),none,[]⟩,⟨(some 14),(.mv (.t 1)),none,[]⟩,⟨(some 15),(.nc (.t 14)),none,[]⟩,⟨(some 16),(.fa (.t 15) 6),none,[]⟩,⟨(some 17),(.ld (.t 16)),none,[]⟩,⟨(some 18),(.nc (.t 13)),none,[]⟩,⟨(some 19),(.fa (.t 18) 7),none,[]⟩,⟨none,(.st (.t 19) (.t 17) 1),none,[]⟩])
 (.reg [⟨(some 20),(.mv (.t 0)),none,[]⟩,⟨(some 21),(.call 345 [(.t 20)]),none,[]⟩]))) }
noncomputable def f334 : AFn := { np := 1, nt := 43, res := [.c 2 10 true,.t 3], body :=
 (.seq (.reg [⟨(some 2),(.al [(.i .i64 0),(.i .i64 0),(.i .i64 0),(.i .i64 0),(.i .u64 0),(.i .i64 0),(.i .i64 0),(.i .i64 0),(.i .i64 0),.nsl]),none,[]⟩,⟨(some 3),(.mv (.c (.b false))),none,[]⟩])
 (.seq (.seq (.reg [⟨(some 6),(.mv (.t 0)),none,[]⟩,⟨(some 7),(.nc (.t 6)),none,[]⟩,⟨(some 8),(.fa (.t 7) 0),none,[]⟩,⟨(some 9),(.ld (.t 8)),none,[]⟩,⟨(some 10),(.call 108 [(.t 9)]),none,[]⟩,⟨(some 11),(.lns false (.t 10)),none,[]⟩,⟨(some 12),(.mv (.c (.i .i64 0))),none,[]⟩])
 (.blk 0 (.loop (.seq (.reg [⟨(some 13),(.bi .lss (.t 12) (.t 11)),none,[]⟩])
 (.seq (.cond (.t 13) .skip (.exit 0))
 (.seq (.blk 1 (.seq (.reg [⟨(some 14),(.ias 1 (.t 10) (.t 12)),none,[]⟩,⟨(some 15),(.ld (.t 14)),none,[]⟩,⟨(some 5),(.mv (.t 15)),none,[]⟩])
 (.seq (.drw [⟨(some 16),(.mv (.t 5)),none,[]⟩,⟨(some 17),(.nc (.t 16)),none,[]⟩,⟨(some 18),(.fa (.t 17) 6),none,[]⟩,⟨(some 19),(.ld (.t 18)),none,[]⟩,⟨(some 20),(.mv (.t 5)),none,[]⟩,⟨(some 21),(.nc (.t 20)),none,[]⟩,⟨(some 22),(.fa (.t 21) 7),none,[]⟩,⟨(some 23),(.ld (.t 22)),none,[]⟩,⟨(some 24),(.bi .gtr (.t 19) (.t 23)),none,[]⟩])
 (.cond (.t 24) (.seq (.reg [⟨(some 25),(.mv (.t 5)),none,[]⟩,⟨(some 26),(.mv (.t 5)),none,[]⟩,⟨(some 27),(.nc (.t 26)),none,[]⟩,⟨(some 28),(.fa (.t 27) 6),none,[]⟩,⟨(some 29),(.ld (.t 28)),none,[]⟩,⟨(some 30),(.nc (.t 25)),none,[]⟩,⟨(some 31),(.fa (.t 30) 7),none,[]⟩,⟨none,(.st (.t 31) (.t 29) 1),none,[]⟩])
 (.seq (.reg [⟨(some 32),(.mv (.t 0)),none,[]⟩,⟨(some 33),(.nc (.t 32)),none,[]⟩,⟨(some 34),(.fa (.t 33) 0),none,[]⟩,⟨(some 35),(.ld (.t 34)),none,[]⟩,⟨(some 36),(.mv (.t 5)),none,[]⟩,⟨(some 37),(.call 310 [(.t 35),(.t 36)]),none,[]⟩])
 (.seq (.reg [⟨(some 38),(.mv (.t 0)),none,[]⟩,⟨(some 39),(.mv (.t 5)),none,[]⟩,⟨(some 40),(.call 342 [(.t 38),(.t 39)]),none,[]⟩,⟨none,(.st (.t 2) (.t 40) 10),none,[]⟩,⟨(some 3),(.mv (.c (.b true))),none,[]⟩])
 .ret))) .skip))))
 (.reg [⟨(some 41),(.bi .add (.t 12) (.c (.i .i64 1))),none,[]⟩,⟨(some 12),(.mv (.t 41)),none,[]⟩])))))))
 (.seq (.reg [⟨(some 42),(.bl [(.i .i64 0),(.i .i64 0),(.i .i64 0),(.i .i64 0),(.i .u64 0),(.i .i64 0),(.i .i64 0),(.i .i64 0),(.i .i64 0),.nsl] []),none,[]⟩,⟨none,(.st (.t 2) (.t 42) 10),none,[]⟩,⟨(some 3),(.mv (.c (.b false))),none,[]⟩])
 .ret))) }
noncomputable def f336 : AFn := { np := 2, nt := 98, res := [.c 4 2 true,.t 5], body :=
 (.seq (.reg [⟨(some 4),(.al [(.i .i64 0),(.i .i64 0)]),none,[]⟩,⟨(some 5),(.mv (.c (.i .i64 0))),none,[]⟩])
 (.seq (.reg [⟨(some 7),(.mv (.t 1)),none,[]⟩,⟨(some 8),(.nc (.t 7)),none,[]⟩,⟨(some 9),(.fa (.t 8) 2),none,[]⟩,⟨(some 10),(.ld (.t 9)),none,[]⟩,⟨(some 11),(.lns false (.t 10)),none,[]⟩,⟨(some 6),(.mv (.t 11)),none,[]⟩])
 (.seq (.blk 0 (.seq (.drw [⟨(some 13),(.mv (.t 1)),none,[]⟩,⟨(some 14),(.nc (.t 13)),none,[]⟩,⟨(some 15),(.fa (.t 14) 4),none,[]⟩,⟨(some 16),(.ld (.t 15)),none,[]⟩,⟨(some 17),(.mv (.t 1)),none,[]⟩,⟨(some 18),(.nc (.t 17)),none,[]⟩,⟨(some 19),(.fa (.t 18) 3),none,[]⟩,⟨(some 20),(.ld (.t 19)),none,[]⟩,⟨(some 21),(.bi .lss (.t 16) (.t 20)),none,[]⟩,⟨(some 22),(.mv (.t 21)),none,[]⟩,⟨(some 23),(.mv (.t 6)),(some (22,false)),[]⟩,⟨(some 24),(.bi .eql (.t 23) (.c (.i .i64 0))),(some (22,false)),[]⟩,⟨(some 25),(.mv (.t 24)),(some (22,false)),[]⟩,⟨(some 26),(.mv (.t 1)),(some (25,true)),[]⟩,⟨(some 27),(.nc (.t 26)),(some (25,true)),[]⟩,⟨(some 28),(.fa (.t 27) 5),(some (25,true)),[]⟩,⟨(some 29),(.ld (.t 28)),(some (25,true)),[]⟩,⟨(some 30),(.un .not (.t 29)),(some (25,true)),[]⟩,⟨(some 31),(.pk (.t 25) (.t 30) (.c (.b false))),(some (22,false)),[]⟩,⟨(some 32),(.pk (.t 22) (.c (.b true)) (.t 31)),none,[]⟩,⟨(some 12),(.mv (.t 32)),none,[]⟩])
 (.cond (.t 12) (.seq (.drw [⟨(some 33),(.mv (.t 1)),none,[]⟩,⟨(some 34),(.nc (.t 33)),none,[]⟩,⟨(some 35),(.fa (.t 34) 4),none,[]⟩,⟨(some 36),(.ld (.t 35)),none,[]⟩,⟨(some 37),(.mv (.t 1)),none,[]⟩,⟨(some 38),(.nc (.t 37)),none,[]⟩,⟨(some 39),(.fa (.t 38) 4),none,[]⟩,⟨(some 40),(.ld (.t 39)),none,[]⟩,⟨(some 41),(.mv (.t 0)),none,[]⟩,⟨(some 42),(.nc (.t 41)),none,[]⟩,⟨(some 43),(.fa (.t 42) 0),none,[]⟩,⟨(some 44),(.ld (.t 43)),none,[]⟩,⟨(some 45),(.nc (.t 44)),none,[]⟩,⟨(some 46),(.fa (.t 45) 0),none,[]⟩,⟨(some 47),(.fa (.t 46) 3),none,[]⟩,⟨(some 48),(.ld (.t 47)),none,[]⟩,⟨(some 49),(.bi .add (.t 40) (.t 48)),none,[]⟩,⟨(some 50),(.mv (.t 1)),none,[]⟩,⟨(some 51),(.nc (.t 50)),none,[]⟩,⟨(some 52),(.fa (.t 51) 3),none,[]⟩,⟨(some 53),(.ld (.t 52)),none,[]⟩,⟨(some 54),(.mn [(.t 49),(.t 53)]),none,[]⟩,⟨(some 55),(.bl [(.i .i64 0),(.i .i64 0)] [(0,1,(.t 36)),(1,1,(.t 54))]),none,[]⟩,⟨none,(.st (.t 4) (.t 55) 2),none,[]⟩,⟨(some 5),(.mv (.c (.i .i64 1))),none,[]⟩])
 .ret) (.seq (.reg [⟨(some 57),(.mv (.t 1)),none,[]⟩,⟨(some 58),(.nc (.t 57)),none,[]⟩,⟨(some 59),(.fa (.t 58) 11),none,[]⟩,⟨(some 60),(.ld (.t 59)),none,[]⟩,⟨(some 61),(.lns false (.t 60)),none,[]⟩,⟨(some 62),(.bi .gtr (.t 61) (.c (.i .i64 0))),none,[]⟩,⟨(some 56),(.mv (.t 62)),none,[]⟩])
 (.cond (.t 56) (.seq (.reg [⟨(some 63),(.ldn (.t 4) 2),none,[]⟩,⟨none,(.st (.t 4) (.t 63) 2),none,[]⟩,⟨(some 5),(.mv (.c (.i .i64 3))),none,[]⟩])
 .ret) (.seq (.drw [⟨(some 65),(.mv (.t 1)),none,[]⟩,⟨(some 66),(.nc (.t 65)),none,[]⟩,⟨(some 67),(.fa (.t 66) 4),none,[]⟩,⟨(some 68),(.ld (.t 67)),none,[]⟩,⟨(some 69),(.mv (.t 1)),none,[]⟩,⟨(some 70),(.nc (.t 69)),none,[]⟩,⟨(some 71),(.fa (.t 70) 6),none,[]⟩,⟨(some 72),(.ld (.t 71)),none,[]⟩,⟨(some 73),(.bi .lss (.t 68) (.t 72)),none,[]⟩,⟨(some 64),(.mv (.t 73)),none,[]⟩])
 (.cond (.t 64) (.seq (.drw [⟨(some 74),(.mv (.t 1)),none,[]⟩,⟨(some 75),(.nc (.t 74)),none,[]⟩,⟨(some 76),(.fa (.t 75) 4),none,[]⟩,⟨(some 77),(.ld (.t 76)),none,[]⟩,⟨(some 78),(.mv (.t 1)),none,[]⟩,⟨(some 79),(.nc (.t 78)),none,[]⟩,⟨(some 80),(.fa (.t 79) 4),none,[]⟩,⟨(some 81),(.ld (.t 80)),none,[]⟩,⟨(some 82),(.mv (.t 0)),none,[]⟩,⟨(some 83),(.nc (.t 82)),none,[]⟩,⟨(some 84),(.fa (.t 83) 0),none,[]⟩,⟨(some 85),(.ld (.t 84)),none,[]⟩,⟨(some 86),(.nc (.t 85)),none,[]⟩,⟨(some 87),(.fa (.t 86) 0),none,[]⟩,⟨(some 88),(.fa (.t 87) 3),none,[]⟩,⟨(some 89),(.ld (.t 88)),none,[]⟩,⟨(some 90),(.bi .add (.t 81) (.t 89)),none,[]⟩,⟨(some 91),(.mv (.t 1)),none,[]⟩,⟨(some 92),(.nc (.t 91)),none,[]⟩,⟨(some 93),(.fa (.t 92) 6),none,[]⟩,⟨(some 94),(.ld (.t 93)),none,[]⟩,⟨(some 95),(.mn [(.t 90),(.t 94)]),none,[]⟩,⟨(some 96),(.bl [(.i .i64 0),(.i .i64 0)] [(0,1,(.t 77)),(1,1,(.t 95))]),none,[]⟩,⟨none,(.st (.t 4) (.t 96) 2),none,[]⟩,⟨(some 5),(.mv (.c (.i .i64 2))),none,[]⟩])
 .ret) .skip)))))))
 (.seq (.reg [⟨(some 97),(.ldn (.t 4) 2),none,[]⟩,⟨none,(.st (.t 4) (.t 97) 2),none,[]⟩,⟨(some 5),(.mv (.c (.i .i64 0))),none,[]⟩])
 .ret)))) }
noncomputable def f337 : AFn := { np := 1, nt := 2, res := [], body :=
 .skip }
noncomputable def f340 : AFn := { np := 3, nt := 6, res := [], body :=
 .skip }
noncomputable def f341 : AFn := { np := 2, nt := 15, res := [.t 4], body :=
 (.seq (.reg [⟨(some 4),(.mv (.c (.i .i64 0))),none,[]⟩])
 (.seq (.reg [⟨(some 5),(.mv (.t 1)),none,[]⟩,⟨(some 6),(.mv (.t 0)),none,[]⟩,⟨(some 7),(.nc (.t 6)),none,[]⟩,⟨(some 8),(.fa (.t 7) 0),none,[]⟩,⟨(some 9),(.ld (.t 8)),none,[]⟩,⟨(some 10),(.nc (.t 9)),none,[]⟩,⟨(some 11),(.fa (.t 10) 0),none,[]⟩,⟨(some 12),(.fa (.t 11) 4),none,[]⟩,⟨(some 13),(.ld (.t 12)),none,[]⟩,⟨(some 14),(.mn [(.t 5),(.t 13)]),none,[]⟩,⟨(some 4),(.mv (.t 14)),none,[]⟩])
 .ret)) }
noncomputable def f343 : AFn := { np := 3, nt := 27, res := [.t 6], body :=
 (.seq (.reg [⟨(some 6),(.mv (.c (.i .i64 0))),none,[]⟩])
 (.seq (.seq (.reg [⟨(some 10),(.mv (.t 0)),none,[]⟩,⟨(some 11),(.eq false .ptr (.t 10) (.c .np)),none,[]⟩])
 (.cond (.t 11) (.seq (.reg [⟨(some 6),(.mv (.c (.i .i64 0))),none,[]⟩])
 .ret) .skip))
 (.seq (.reg [⟨(some 7),(.mv (.c (.i .i64 7))),none,[]⟩])
 (.seq (.seq (.reg [⟨(some 12),(.mv (.t 0)),none,[]⟩,⟨(some 13),(.mv (.t 2)),none,[]⟩,⟨(some 14),(.call 346 [(.t 12),(.t 13)]),none,[]⟩,⟨(some 15),(.lns false (.t 14)),none,[]⟩,⟨(some 16),(.mv (.c (.i .i64 0))),none,[]⟩])
 (.blk 0 (.loop (.seq (.reg [⟨(some 17),(.bi .lss (.t 16) (.t 15)),none,[]⟩])
 (.seq (.cond (.t 17) .skip (.exit 0))
 (.seq (.blk 1 (.seq (.reg [⟨(some 18),(.ias 1 (.t 14) (.t 16)),none,[]⟩,⟨(some 19),(.ld (.t 18)),none,[]⟩,⟨(some 9),(.mv (.t 19)),none,[]⟩])
 (.seq (.reg [⟨(some 20),(.mv (.t 1)),none,[]⟩,⟨(some 21),(.mv (.t 9)),none,[]⟩,⟨(some 22),(.bi .gtr (.t 20) (.t 21)),none,[]⟩])
 (.cond (.t 22) (.reg [⟨(some 23),(.mv (.t 7)),none,[]⟩,⟨(some 24),(.bi .sub (.t 23) (.c (.i .i64 1))),none,[]⟩,⟨(some 7),(.mv (.t 24)),none,[]⟩]) .skip))))
 (.reg [⟨(some 25),(.bi .add (.t 16) (.c (.i .i64 1))),none,[]⟩,⟨(some 16),(.mv (.t 25)),none,[]⟩])))))))
 (.seq (.reg [⟨(some 26),(.mv (.t 7)),none,[]⟩,⟨(some 6),(.mv (.t 26)),none,[]⟩])
 .ret))))) }
noncomputable def f344 : AFn := { np := 1, nt := 8, res := [.t 2], body :=
 (.seq (.reg [⟨(some 2),(.mv (.c .nsl)),none,[]⟩])
 (.seq (.seq (.reg [⟨(some 3),(.mv (.t 0)),none,[]⟩,⟨(some 4),(.eq false .slc (.t 3) (.c .nsl)),none,[]⟩])
 (.cond (.t 4) (.seq (.reg [⟨(some 2),(.mv (.c .nsl)),none,[]⟩])
 .ret) .skip))
 (.seq (.reg [⟨(some 5),(.bs 0 [] []),none,[]⟩,⟨(some 6),(.mv (.t 0)),none,[]⟩,⟨(some 7),(.ap 1 (.t 5) (.t 6)),none,[]⟩,⟨(some 2),(.mv (.t 7)),none,[]⟩])
 .ret))) }
noncomputable def f345 : AFn := { np := 1, nt := 128, res := [], body :=
 (.seq (.reg [⟨(some 12),(.mv (.t 0)),none,[]⟩,⟨(some 13),(.nc (.t 12)),none,[]⟩,⟨(some 14),(.fa (.t 13) 0),none,[]⟩,⟨(some 15),(.ld (.t 14)),none,[]⟩,⟨(some 16),(.call 108 [(.t 15)]),none,[]⟩,⟨(some 2),(.mv (.t 16)),none,[]⟩])
 (.seq (.reg [⟨(some 3),(.mv (.c .nsl)),none,[]⟩])
 (.seq (.seq (.reg [⟨(some 17),(.mv (.t 2)),none,[]⟩,⟨(some 18),(.lns false (.t 17)),none,[]⟩,⟨(some 19),(.mv (.c (.i .i64 0))),none,[]⟩])
 (.blk 0 (.loop (.seq (.reg [⟨(some 20),(.bi .lss (.t 19) (.t 18)),none,[]⟩])
 (.seq (.cond (.t 20) .skip (.exit 0))
 (.seq (.blk 1 (.seq (.reg [⟨(some 21),(.ias 1 (.t 17) (.t 19)),none,[]⟩,⟨(some 22),(.ld (.t 21)),none,[]⟩,⟨(some 5),(.mv (.t 22)),none,[]⟩])
 (.drw [⟨(some 23),(.mv (.t 3)),none,[]⟩,⟨(some 24),(.mv (.t 5)),none,[]⟩,⟨(some 25),(.nc (.t 24)),none,[]⟩,⟨(some 26),(.fa (.t 25) 0),none,[]⟩,⟨(some 27),(.fa (.t 26) 0),none,[]⟩,⟨(some 28),(.ld (.t 27)),none,[]⟩,⟨(some 29),(.mv (.t 5)),none,[]⟩,⟨(some 30),(.nc (.t 29)),none,[]⟩,⟨(some 31),(.fa (.t 30) 0),none,[]⟩,⟨(some 32),(.fa (.t 31) 1),none,[]⟩,⟨(some 33),(.ld (.t 32)),none,[]⟩,⟨(some 34),(.mv (.t 5)),none,[]⟩,⟨(some 35),(.nc (.t 34)),none,[]⟩,⟨(some 36),(.fa (.t 35) 2),none,[]⟩,⟨(some 37),(.ld (.t 36)),none,[]⟩,⟨(some 38),(.mv (.t 0)),none,[]⟩,⟨(some 39),(.nc (.t 38)),none,[]⟩,⟨(some 40),(.fa (.t 39) 0),none,[]⟩,⟨(some 41),(.ld (.t 40)),none,[]⟩,⟨(some 42),(.mv (.t 5)),none,[]⟩,⟨(some 44),(.mv (.t 5)),none,[]⟩,⟨(some 45),(.nc (.t 44)),none,[]⟩,⟨(some 46),(.fa (.t 45) 6),none,[]⟩,⟨(some 47),(.ld (.t 46)),none,[]⟩,⟨(some 48),(.mv (.t 5)),none,[]⟩,⟨(some 49),(.nc (.t 48)),none,[]⟩,⟨(some 50),(.fa (.t 49) 3),none,[]⟩,⟨(some 51),(.ld (.t 50)),none,[]⟩,⟨(some 43),(.call 347 [(.t 41),(.t 42)]),none,[(28,(.ld (.t 27)),none),(33,(.ld (.t 32)),none),(37,(.ld (.t 36)),none),(47,(.ld (.t 46)),none),(51,(.ld (.t 50)),none)]⟩,⟨(some 52),(.bl [(.i .i64 0),(.i .u64 0),(.i .i64 0),(.i .i64 0),(.i .i64 0),(.i .i64 0)] [(0,1,(.t 28)),(1,1,(.t 33)),(2,1,(.t 37)),(3,1,(.t 43)),(4,1,(.t 47)),(5,1,(.t 51))]),none,[]⟩,⟨(some 53),(.bs 1 [(.i .i64 0),(.i .u64 0),(.i .i64 0),(.i .i64 0),(.i .i64 0),(.i .i64 0)] [(0,6,(.t 52))]),none,[]⟩,⟨(some 54),(.ap 6 (.t 23) (.t 53)),none,[]⟩,⟨(some 3),(.mv (.t 54)),none,[]⟩])))
 (.reg [⟨(some 55),(.bi .add (.t 19) (.c (.i .i64 1))),none,[]⟩,⟨(some 19),(.mv (.t 55)),none,[]⟩])))))))
 (.seq (.drw [⟨(some 57),(.mv (.t 3)),none,[]⟩,⟨(some 58),(.mv (.t 0)),none,[]⟩,⟨(some 59),(.nc (.t 58)),none,[]⟩,⟨(some 60),(.fa (.t 59) 0),none,[]⟩,⟨(some 61),(.ld (.t 60)),none,[]⟩,⟨(some 62),(.nc (.t 61)),none,[]⟩,⟨(some 63),(.fa (.t 62) 0),none,[]⟩,⟨(some 64),(.fa (.t 63) 5),none,[]⟩,⟨(some 65),(.ld (.t 64)),none,[]⟩,⟨(some 66),(.mv (.t 0)),none,[]⟩,⟨(some 67),(.nc (.t 66)),none,[]⟩,⟨(some 68),(.fa (.t 67) 0),none,[]⟩,⟨(some 69),(.ld (.t 68)),none,[]⟩,⟨(some 70),(.nc (.t 69)),none,[]⟩,⟨(some 71),(.fa (.t 70) 0),none,[]⟩,⟨(some 72),(.fa (.t 71) 6),none,[]⟩,⟨(some 73),(.ld (.t 72)),none,[]⟩,⟨(some 74),(.mv (.t 0)),none,[]⟩,⟨(some 75),(.nc (.t 74)),none,[]⟩,⟨(some 76),(.fa (.t 75) 0),none,[]⟩,⟨(some 77),(.ld (.t 76)),none,[]⟩,⟨(some 78),(.nc (.t 77)),none,[]⟩,⟨(some 79),(.fa (.t 78) 0),none,[]⟩,⟨(some 80),(.fa (.t 79) 6),none,[]⟩,⟨(some 81),(.ld (.t 80)),none,[]⟩,⟨(some 82),(.bi .quo (.t 81) (.c (.i .i64 8))),none,[]⟩,⟨(some 83),(.call 348 [(.t 57),(.t 65),(.t 73),(.t 82)]),none,[]⟩,⟨(some 56),(.mv (.t 83)),none,[]⟩,⟨(some 84),(.ex (.t 56) 0),none,[]⟩,⟨(some 85),(.ex (.t 56) 1),none,[]⟩,⟨(some 6),(.mv (.t 84)),none,[]⟩,⟨(some 7),(.mv (.t 85)),none,[]⟩])
 (.seq (.reg [⟨(some 86),(.mv (.t 6)),none,[]⟩,⟨(some 87),(.lns false (.t 86)),none,[]⟩,⟨(some 88),(.mv (.c (.i .i64 0))),none,[]⟩])
 (.blk 2 (.loop (.seq (.reg [⟨(some 89),(.bi .lss (.t 88) (.t 87)),none,[]⟩])
 (.seq (.cond (.t 89) .skip (.exit 2))
 (.seq (.blk 3 (.seq (.reg [⟨(some 90),(.ias 4 (.t 86) (.t 88)),none,[]⟩,⟨(some 91),(.ldn (.t 90) 4),none,[]⟩,⟨(some 9),(.al [(.i .i64 0),(.i .u64 0),(.i .i64 0),(.i .i64 0)]),none,[]⟩,⟨none,(.st (.t 9) (.t 91) 4),none,[]⟩])
 (.seq (.reg [⟨(some 92),(.mv (.t 2)),none,[]⟩,⟨(some 93),(.lns false (.t 92)),none,[]⟩,⟨(some 94),(.mv (.c (.i .i64 0))),none,[]⟩])
 (.blk 4 (.loop (.seq (.reg [⟨(some 95),(.bi .lss (.t 94) (.t 93)),none,[]⟩])
 (.seq (.cond (.t 95) .skip (.exit 4))
 (.seq (.blk 5 (.seq (.reg [⟨(some 96),(.ias 1 (.t 92) (.t 94)),none,[]⟩,⟨(some 97),(.ld (.t 96)),none,[]⟩,⟨(some 11),(.mv (.t 97)),none,[]⟩])
 (.seq (.drw [⟨(some 98),(.mv (.t 11)),none,[]⟩,⟨(some 99),(.nc (.t 98)),none,[]⟩,⟨(some 100),(.fa (.t 99) 0),none,[]⟩,⟨(some 101),(.fa (.t 100) 0),none,[]⟩,⟨(some 102),(.ld (.t 101)),none,[]⟩,⟨(some 103),(.fa (.t 9) 0),none,[]⟩,⟨(some 104),(.ld (.t 103)),none,[]⟩,⟨(some 105),(.bi .eql (.t 102) (.t 104)),none,[]⟩,⟨(some 106),(.mv (.t 105)),none,[]⟩,⟨(some 107),(.mv (.t 11)),(some (106,true)),[]⟩,⟨(some 108),(.nc (.t 107)),(some (106,true)),[]⟩,⟨(some 109),(.fa (.t 108) 0),(some (106,true)),[]⟩,⟨(some 110),(.fa (.t 109) 1),(some (106,true)),[]⟩,⟨(some 111),(.ld (.t 110)),(some (106,true)),[]⟩,⟨(some 112),(.fa (.t 9) 1),(some (106,true)),[]⟩,⟨(some 113),(.ld (.t 112)),(some (106,true)),[]⟩,⟨(some 114),(.bi .eql (.t 111) (.t 113)),(some (106,true)),[]⟩,⟨(some 115),(.pk (.t 106) (.t 114) (.c (.b false))),none,[]⟩])
 (.cond (.t 115) (.drw [⟨(some 116),(.mv (.t 11)),none,[]⟩,⟨(some 117),(.mv (.t 11)),none,[]⟩,⟨(some 118),(.fa (.t 9) 2),none,[]⟩,⟨(some 119),(.ld (.t 118)),none,[]⟩,⟨(some 120),(.fa (.t 9) 3),none,[]⟩,⟨(some 121),(.ld (.t 120)),none,[]⟩,⟨(some 122),(.nc (.t 116)),none,[]⟩,⟨(some 123),(.fa (.t 122) 6),none,[]⟩,⟨none,(.st (.t 123) (.t 119) 1),none,[(121,(.ld (.t 120)),none)]⟩,⟨(some 124),(.nc (.t 117)),none,[]⟩,⟨(some 125),(.fa (.t 124) 8),none,[]⟩,⟨none,(.st (.t 125) (.t 121) 1),none,[]⟩]) .skip))))
 (.reg [⟨(some 126),(.bi .add (.t 94) (.c (.i .i64 1))),none,[]⟩,⟨(some 94),(.mv (.t 126)),none,[]⟩])))))))))
 (.reg [⟨(some 127),(.bi .add (.t 88) (.c (.i .i64 1))),none,[]⟩,⟨(some 88),(.mv (.t 127)),none,[]⟩]))))))))))) }
noncomputable def f346 : AFn := { np := 2, nt := 72, res := [.t 4], body :=
 (.seq (.reg [⟨(some 4),(.mv (.c .nsl)),none,[]⟩])
 (.seq (.seq (.reg [⟨(some 14),(.mv (.t 0)),none,[]⟩,⟨(some 15),(.eq false .ptr (.t 14) (.c .np)),none,[]⟩])
 (.cond (.t 15) (.seq (.reg [⟨(some 4),(.mv (.c .nsl)),none,[]⟩])
 .ret) .skip))
 (.seq (.reg [⟨(some 16),(.mv (.t 1)),none,[]⟩,⟨(some 17),(.call 169 [(.t 16),(.c (.i .i64 0)),(.c (.i .i64 1073741824))]),none,[]⟩,⟨(some 1),(.mv (.t 17)),none,[]⟩])
 (.seq (.reg [⟨(some 18),(.mv (.t 0)),none,[]⟩,⟨(some 19),(.nc (.t 18)),none,[]⟩,⟨(some 20),(.fa (.t 19) 2),none,[]⟩,⟨(some 21),(.ld (.t 20)),none,[]⟩,⟨(some 22),(.call 350 [(.t 21)]),none,[]⟩,⟨(some 23),(.call 349 [(.t 22)]),none,[]⟩,⟨(some 5),(.mv (.t 23)),none,[]⟩])
 (.seq (.reg [⟨(some 6),(.mv (.c (.i .i64 0))),none,[]⟩])
 (.seq (.seq (.reg [⟨(some 24),(.mv (.t 5)),none,[]⟩,⟨(some 25),(.lns false (.t 24)),none,[]⟩,⟨(some 26),(.mv (.c (.i .i64 0))),none,[]⟩])
 (.blk 0 (.loop (.seq (.reg [⟨(some 27),(.bi .lss (.t 26) (.t 25)),none,[]⟩])
 (.seq (.cond (.t 27) .skip (.exit 0))
 (.seq (.blk 1 (.seq (.reg [⟨(some 28),(.ias 1 (.t 24) (.t 26)),none,[]⟩,⟨(some 29),(.ld (.t 28)),none,[]⟩,⟨(some 8),(.mv (.t 29)),none,[]⟩])
 (.reg [⟨(some 30),(.mv (.t 6)),none,[]⟩,⟨(some 31),(.mv (.t 8)),none,[]⟩,⟨(some 32),(.mv (.t 1)),none,[]⟩,⟨(some 33),(.mn [(.t 31),(.t 32)]),none,[]⟩,⟨(some 34),(.bi .add (.t 30) (.t 33)),none,[]⟩,⟨(some 6),(.mv (.t 34)),none,[]⟩])))
 (.reg [⟨(some 35),(.bi .add (.t 26) (.c (.i .i64 1))),none,[]⟩,⟨(some 26),(.mv (.t 35)),none,[]⟩])))))))
 (.seq (.seq (.reg [⟨(some 9),(.mv (.c (.i .i64 1))),none,[]⟩])
 (.blk 2 (.loop (.seq (.seq (.reg [⟨(some 36),(.mv (.t 9)),none,[]⟩,⟨(some 37),(.mv (.t 0)),none,[]⟩,⟨(some 38),(.nc (.t 37)),none,[]⟩,⟨(some 39),(.fa (.t 38) 0),none,[]⟩,⟨(some 40),(.ld (.t 39)),none,[]⟩,⟨(some 41),(.bi .lss (.t 36) (.t 40)),none,[]⟩])
 (.cond (.t 41) .skip (.exit 2)))
 (.seq (.blk 3 (.seq (.reg [⟨(some 10),(.mv (.c (.i .i64 0))),none,[]⟩,⟨(some 11),(.mv (.c (.i .i64 0))),none,[]⟩])
 (.seq (.seq (.reg [⟨(some 44),(.mv (.t 5)),none,[]⟩,⟨(some 45),(.lns false (.t 44)),none,[]⟩,⟨(some 46),(.mv (.c (.i .i64 0))),none,[]⟩])
 (.blk 4 (.loop (.seq (.reg [⟨(some 47),(.bi .lss (.t 46) (.t 45)),none,[]⟩])
 (.seq (.cond (.t 47) .skip (.exit 4))
 (.seq (.blk 5 (.seq (.reg [⟨(some 48),(.ias 1 (.t 44) (.t 46)),none,[]⟩,⟨(some 49),(.ld (.t 48)),none,[]⟩,⟨(some 13),(.mv (.t 49)),none,[]⟩])
 (.seq (.reg [⟨(some 50),(.mv (.t 13)),none,[]⟩,⟨(some 11),(.mv (.t 50)),none,[]⟩])
 (.seq (.reg [⟨(some 51),(.mv (.t 10)),none,[]⟩,⟨(some 52),(.mv (.t 13)),none,[]⟩,⟨(some 53),(.mv (.t 1)),none,[]⟩,⟨(some 54),(.mn [(.t 52),(.t 53)]),none,[]⟩,⟨(some 55),(.bi .add (.t 51) (.t 54)),none,[]⟩,⟨(some 10),(.mv (.t 55)),none,[]⟩])
 (.seq (.reg [⟨(some 56),(.mv (.t 10)),none,[]⟩,⟨(some 57),(.mv (.t 9)),none,[]⟩,⟨(some 58),(.mv (.t 6)),none,[]⟩,⟨(some 59),(.bi .mul (.t 57) (.t 58)),none,[]⟩,⟨(some 60),(.mv (.t 0)),none,[]⟩,⟨(some 61),(.nc (.t 60)),none,[]⟩,⟨(some 62),(.fa (.t 61) 0),none,[]⟩,⟨(some 63),(.ld (.t 62)),none,[]⟩,⟨(some 64),(.bi .quo (.t 59) (.t 63)),none,[]⟩,⟨(some 65),(.bi .geq (.t 56) (.t 64)),none,[]⟩])
 (.cond (.t 65) (.exit 4) .skip))))))
 (.reg [⟨(some 66),(.bi .add (.t 46) (.c (.i .i64 1))),none,[]⟩,⟨(some 46),(.mv (.t 66)),none,[]⟩])))))))
 (.reg [⟨(some 67),(.mv (.t 4)),none,[]⟩,⟨(some 68),(.mv (.t 11)),none,[]⟩,⟨(some 69),(.bs 1 [(.i .i64 0)] [(0,1,(.t 68))]),none,[]⟩,⟨(some 70),(.ap 1 (.t 67) (.t 69)),none,[]⟩,⟨(some 4),(.mv (.t 70)),none,[]⟩]))))
 (.reg [⟨(some 42),(.mv (.t 9)),none,[]⟩,⟨(some 43),(.bi .add (.t 42) (.c (.i .i64 1))),none,[]⟩,⟨(some 9),(.mv (.t 43)),none,[]⟩]))))))
 (.seq (.reg [⟨(some 71),(.mv (.t 4)),none,[]⟩,⟨(some 4),(.mv (.t 71)),none,[]⟩])
 .ret)))))))) }
noncomputable def f347 : AFn := { np := 2, nt := 28, res := [.t 4], body :=
 (.seq (.reg [⟨(some 4),(.mv (.c (.i .i64 0))),none,[]⟩])
 (.seq (.drw [⟨(some 9),(.mv (.t 0)),none,[]⟩,⟨(some 10),(.nc (.t 9)),none,[]⟩,⟨(some 11),(.fa (.t 10) 18),none,[]⟩,⟨(some 12),(.ld (.t 11)),none,[]⟩,⟨(some 13),(.mv (.t 1)),none,[]⟩,⟨(some 14),(.nc (.t 13)),none,[]⟩,⟨(some 15),(.fa (.t 14) 0),none,[]⟩,⟨(some 16),(.fa (.t 15) 0),none,[]⟩,⟨(some 17),(.ld (.t 16)),none,[]⟩,⟨(some 18),(.mv (.t 1)),none,[]⟩,⟨(some 19),(.nc (.t 18)),none,[]⟩,⟨(some 20),(.fa (.t 19) 0),none,[]⟩,⟨(some 21),(.fa (.t 20) 1),none,[]⟩,⟨(some 22),(.ld (.t 21)),none,[]⟩,⟨(some 23),(.call 351 [(.t 12),(.t 17),(.t 22)]),none,[]⟩,⟨(some 8),(.mv (.t 23)),none,[]⟩,⟨(some 24),(.ex (.t 8) 0),none,[]⟩,⟨(some 25),(.ex (.t 8) 1),none,[]⟩,⟨(some 26),(.ex (.t 8) 2),none,[]⟩,⟨(some 5),(.mv (.t 24)),none,[]⟩,⟨(some 6),(.mv (.t 25)),none,[]⟩,⟨(some 7),(.mv (.t 26)),none,[]⟩])
 (.seq (.reg [⟨(some 27),(.mv (.t 5)),none,[]⟩,⟨(some 4),(.mv (.t 27)),none,[]⟩])
 .ret))) }
noncomputable def f348 : AFn := { np := 4, nt := 156, res := [.t 8,.t 9], body :=
 (.seq (.reg [⟨(some 8),(.mv (.c .nsl)),none,[]⟩,⟨(some 9),(.mv (.c (.i .i64 0))),none,[]⟩])
 (.seq (.seq (.reg [⟨(some 21),(.mv (.t 1)),none,[]⟩,⟨(some 22),(.bi .lss (.t 21) (.c (.i .i64 1))),none,[]⟩,⟨(some 23),(.mv (.t 22)),none,[]⟩,⟨(some 24),(.mv (.t 1)),(some (23,false)),[]⟩,⟨(some 25),(.bi .gtr (.t 24) (.c (.i .i64 8))),(some (23,false)),[]⟩,⟨(some 26),(.pk (.t 23) (.c (.b true)) (.t 25)),none,[]⟩,⟨(some 27),(.mv (.t 26)),none,[]⟩,⟨(some 28),(.mv (.t 2)),(some (27,false)),[]⟩,⟨(some 29),(.bi .lss (.t 28) (.c (.i .i64 0))),(some (27,false)),[]⟩,⟨(some 30),(.pk (.t 27) (.c (.b true)) (.t 29)),none,[]⟩,⟨(some 31),(.mv (.t 30)),none,[]⟩,⟨(some 32),(.mv (.t 2)),(some (31,false)),[]⟩,⟨(some 33),(.bi .gtr (.t 32) (.c (.i .i64 1099511627776))),(some (31,false)),[]⟩,⟨(some 34),(.pk (.t 31) (.c (.b true)) (.t 33)),none,[]⟩,⟨(some 35),(.mv (.t 34)),none,[]⟩,⟨(some 36),(.mv (.t 3)),(some (35,false)),[]⟩,⟨(some 37),(.bi .lss (.t 36) (.c (.i .i64 0))),(some (35,false)),[]⟩,⟨(some 38),(.pk (.t 35) (.c (.b true)) (.t 37)),none,[]⟩,⟨(some 39),(.mv (.t 38)),none,[]⟩,⟨(some 40),(.mv (.t 3)),(some (39,false)),[]⟩,⟨(some 41),(.mv (.t 2)),(some (39,false)),[]⟩,⟨(some 42),(.bi .gtr (.t 40) (.t 41)),(some (39,false)),[]⟩,⟨(some 43),(.pk (.t 39) (.c (.b true)) (.t 42)),none,[]⟩])
 (.cond (.t 43) (.seq (.reg [⟨(some 8),(.mv (.c .nsl)),none,[]⟩,⟨(some 9),(.mv (.c (.i .i64 1))),none,[]⟩])
 .ret) .skip))
 (.seq (.reg [⟨(some 44),(.mv (.t 0)),none,[]⟩,⟨(some 45),(.mv (.t 2)),none,[]⟩,⟨(some 46),(.mv (.t 0)),none,[]⟩,⟨(some 47),(.call 352 [(.t 46)]),none,[]⟩,⟨(some 48),(.call 104 [(.t 45),(.t 47)]),none,[]⟩,⟨(some 49),(.bl [.nsl,(.i .i64 0),.nsl,.nsl] [(0,1,(.t 44)),(1,1,(.t 48))]),none,[]⟩,⟨(some 50),(.bx (.t 49)),none,[]⟩,⟨(some 10),(.mv (.t 50)),none,[]⟩])
 (.seq (.seq (.reg [⟨(some 51),(.mv (.t 0)),none,[]⟩,⟨(some 52),(.lns false (.t 51)),none,[]⟩,⟨(some 53),(.mv (.c (.i .i64 0))),none,[]⟩])
 (.blk 0 (.loop (.seq (.reg [⟨(some 54),(.bi .lss (.t 53) (.t 52)),none,[]⟩])
 (.seq (.cond (.t 54) .skip (.exit 0))
 (.seq (.blk 1 (.seq (.reg [⟨(some 55),(.ias 6 (.t 51) (.t 53)),none,[]⟩,⟨(some 56),(.ldn (.t 55) 6),none,[]⟩,⟨(some 12),(.al [(.i .i64 0),(.i .u64 0),(.i .i64 0),(.i .i64 0),(.i .i64 0),(.i .i64 0)]),none,[]⟩,⟨none,(.st (.t 12) (.t 56) 6),none,[]⟩])
 (.drw [⟨(some 57),(.mv (.t 10)),none,[]⟩,⟨(some 58),(.mv (.t 10)),none,[]⟩,⟨(some 59),(.nc (.t 58)),none,[]⟩,⟨(some 60),(.fa (.t 59) 2),none,[]⟩,⟨(some 61),(.ld (.t 60)),none,[]⟩,⟨(some 62),(.fa (.t 12) 4),none,[]⟩,⟨(some 63),(.ld (.t 62)),none,[]⟩,⟨(some 64),(.bs 1 [(.i .i64 0)] [(0,1,(.t 63))]),none,[]⟩,⟨(some 65),(.ap 1 (.t 61) (.t 64)),none,[]⟩,⟨(some 66),(.nc (.t 57)),none,[]⟩,⟨(some 67),(.fa (.t 66) 2),none,[]⟩,⟨none,(.st (.t 67) (.t 65) 1),none,[]⟩])))
 (.reg [⟨(some 68),(.bi .add (.t 53) (.c (.i .i64 1))),none,[]⟩,⟨(some 53),(.mv (.t 68)),none,[]⟩])))))))
 (.seq (.seq (.reg [⟨(some 69),(.mv (.t 0)),none,[]⟩,⟨(some 70),(.call 353 [(.t 69)]),none,[]⟩,⟨(some 13),(.mv (.t 70)),none,[]⟩])
 (.seq (.reg [⟨(some 71),(.mv (.t 3)),none,[]⟩,⟨(some 72),(.bi .gtr (.t 71) (.c (.i .i64 0))),none,[]⟩,⟨(some 73),(.mv (.t 72)),none,[]⟩,⟨(some 74),(.mv (.t 13)),(some (73,true)),[]⟩,⟨(some 75),(.bi .geq (.t 74) (.c (.i .i64 0))),(some (73,true)),[]⟩,⟨(some 76),(.pk (.t 73) (.t 75) (.c (.b false))),none,[]⟩])
 (.cond (.t 76) (.reg [⟨(some 77),(.mv (.t 10)),none,[]⟩,⟨(some 78),(.mv (.t 13)),none,[]⟩,⟨(some 79),(.mv (.t 3)),none,[]⟩,⟨(some 80),(.call 354 [(.t 77),(.t 78),(.t 79)]),none,[]⟩]) .skip)))
 (.seq (.reg [⟨(some 81),(.mv (.t 0)),none,[]⟩,⟨(some 82),(.call 355 [(.t 81)]),none,[]⟩,⟨(some 14),(.mv (.t 82)),none,[]⟩])
 (.seq (.reg [⟨(some 83),(.mv (.t 14)),none,[]⟩,⟨(some 84),(.mv (.t 14)),none,[]⟩,⟨(some 85),(.lns false (.t 84)),none,[]⟩,⟨(some 86),(.mv (.t 1)),none,[]⟩,⟨(some 87),(.mn [(.t 85),(.t 86)]),none,[]⟩,⟨(some 88),(.sll 1 (.t 83) none (some (.t 87)) none),none,[]⟩,⟨(some 14),(.mv (.t 88)),none,[]⟩])
 (.seq (.seq (.reg [⟨(some 89),(.mv (.t 14)),none,[]⟩,⟨(some 90),(.lns false (.t 89)),none,[]⟩,⟨(some 91),(.mv (.c (.i .i64 0))),none,[]⟩])
 (.blk 2 (.loop (.seq (.reg [⟨(some 92),(.bi .lss (.t 91) (.t 90)),none,[]⟩])
 (.seq (.cond (.t 92) .skip (.exit 2))
 (.seq (.blk 3 (.seq (.reg [⟨(some 93),(.ias 1 (.t 89) (.t 91)),none,[]⟩,⟨(some 94),(.ld (.t 93)),none,[]⟩,⟨(some 16),(.mv (.t 94)),none,[]⟩])
 (.reg [⟨(some 95),(.mv (.t 10)),none,[]⟩,⟨(some 96),(.mv (.t 16)),none,[]⟩,⟨(some 97),(.mv (.t 2)),none,[]⟩,⟨(some 98),(.mv (.t 1)),none,[]⟩,⟨(some 99),(.bi .quo (.t 97) (.t 98)),none,[]⟩,⟨(some 100),(.call 354 [(.t 95),(.t 96),(.t 99)]),none,[]⟩])))
 (.reg [⟨(some 101),(.bi .add (.t 91) (.c (.i .i64 1))),none,[]⟩,⟨(some 91),(.mv (.t 101)),none,[]⟩])))))))
 (.seq (.seq (.reg [⟨(some 102),(.mv (.t 10)),none,[]⟩,⟨(some 103),(.nc (.t 102)),none,[]⟩,⟨(some 104),(.fa (.t 103) 3),none,[]⟩,⟨(some 105),(.ld (.t 104)),none,[]⟩,⟨(some 106),(.lns false (.t 105)),none,[]⟩,⟨(some 107),(.mv (.c (.i .i64 0))),none,[]⟩])
 (.blk 4 (.loop (.seq (.reg [⟨(some 108),(.bi .lss (.t 107) (.t 106)),none,[]⟩])
 (.seq (.cond (.t 108) .skip (.exit 4))
 (.seq (.blk 5 (.seq (.reg [⟨(some 109),(.ias 1 (.t 105) (.t 107)),none,[]⟩,⟨(some 110),(.ld (.t 109)),none,[]⟩,⟨(some 18),(.mv (.t 110)),none,[]⟩])
 (.seq (.seq (.drw [⟨(some 111),(.mv (.t 10)),none,[]⟩,⟨(some 112),(.nc (.t 111)),none,[]⟩,⟨(some 113),(.fa (.t 112) 2),none,[]⟩,⟨(some 114),(.ld (.t 113)),none,[]⟩,⟨(some 115),(.mv (.t 18)),none,[]⟩,⟨(some 116),(.ias 1 (.t 114) (.t 115)),none,[]⟩,⟨(some 117),(.ld (.t 116)),none,[]⟩,⟨(some 118),(.mv (.t 0)),none,[]⟩,⟨(some 119),(.mv (.t 18)),none,[]⟩,⟨(some 120),(.ias 6 (.t 118) (.t 119)),none,[]⟩,⟨(some 121),(.fa (.t 120) 4),none,[]⟩,⟨(some 122),(.ld (.t 121)),none,[]⟩,⟨(some 123),(.bi .leq (.t 117) (.t 122)),none,[]⟩])
 (.cond (.t 123) (.exit 5) .skip))
 (.seq (.reg [⟨(some 19),(.mv (.c (.i .i64 0))),none,[]⟩])
 (.seq (.seq (.reg [⟨(some 124),(.mv (.t 14)),none,[]⟩,⟨(some 125),(.mv (.t 18)),none,[]⟩,⟨(some 126),(.call 356 [(.t 124),(.t 125)]),none,[]⟩,⟨(some 20),(.mv (.t 126)),none,[]⟩])
 (.seq (.reg [⟨(some 127),(.mv (.t 20)),none,[]⟩,⟨(some 128),(.bi .geq (.t 127) (.c (.i .i64 0))),none,[]⟩])
 (.cond (.t 128) (.reg [⟨(some 129),(.mv (.t 20)),none,[]⟩,⟨(some 130),(.bi .sub (.c (.i .i64 6)) (.t 129)),none,[]⟩,⟨(some 131),(.mx [(.t 130),(.c (.i .i64 0))]),none,[]⟩,⟨(some 19),(.mv (.t 131)),none,[]⟩]) .skip)))
 (.drw [⟨(some 132),(.mv (.t 8)),none,[]⟩,⟨(some 133),(.mv (.t 0)),none,[]⟩,⟨(some 134),(.mv (.t 18)),none,[]⟩,⟨(some 135),(.ias 6 (.t 133) (.t 134)),none,[]⟩,⟨(some 136),(.fa (.t 135) 0),none,[]⟩,⟨(some 137),(.ld (.t 136)),none,[]⟩,⟨(some 138),(.mv (.t 0)),none,[]⟩,⟨(some 139),(.mv (.t 18)),none,[]⟩,⟨(some 140),(.ias 6 (.t 138) (.t 139)),none,[]⟩,⟨(some 141),(.fa (.t 140) 1),none,[]⟩,⟨(some 142),(.ld (.t 141)),none,[]⟩,⟨(some 143),(.mv (.t 10)),none,[]⟩,⟨(some 144),(.nc (.t 143)),none,[]⟩,⟨(some 145),(.fa (.t 144) 2),none,[]⟩,⟨(some 146),(.ld (.t 145)),none,[]⟩,⟨(some 147),(.mv (.t 18)),none,[]⟩,⟨(some 148),(.ias 1 (.t 146) (.t 147)),none,[]⟩,⟨(some 149),(.ld (.t 148)),none,[]⟩,⟨(some 150),(.mv (.t 19)),none,[]⟩,⟨(some 151),(.bl [(.i .i64 0),(.i .u64 0),(.i .i64 0),(.i .i64 0)] [(0,1,(.t 137)),(1,1,(.t 142)),(2,1,(.t 149)),(3,1,(.t 150))]),none,[]⟩,⟨(some 152),(.bs 1 [(.i .i64 0),(.i .u64 0),(.i .i64 0),(.i .i64 0)] [(0,4,(.t 151))]),none,[]⟩,⟨(some 153),(.ap 4 (.t 132) (.t 152)),none,[]⟩,⟨(some 8),(.mv (.t 153)),none,[]⟩]))))))
 (.reg [⟨(some 154),(.bi .add (.t 107) (.c (.i .i64 1))),none,[]⟩,⟨(some 107),(.mv (.t 154)),none,[]⟩])))))))
 (.seq (.reg [⟨(some 155),(.mv (.t 8)),none,[]⟩,⟨(some 8),(.mv (.t 155)),none,[]⟩,⟨(some 9),(.mv (.c (.i .i64 0))),none,[]⟩])
 .ret)))))))))) }
noncomputable def f349 : AFn := { np := 1, nt := 9, res := [.t 2], body :=
 (.seq (.reg [⟨(some 2),(.mv (.c .nsl)),none,[]⟩])
 (.seq (.reg [⟨(some 4),(.mv (.t 0)),none,[]⟩,⟨(some 5),(.call 357 [(.t 4)]),none,[]⟩,⟨(some 3),(.mv (.t 5)),none,[]⟩])
 (.seq (.reg [⟨(some 6),(.mv (.t 3)),none,[]⟩,⟨(some 7),(.call 358 [(.t 6)]),none,[]⟩])
 (.seq (.reg [⟨(some 8),(.mv (.t 3)),none,[]⟩,⟨(some 2),(.mv (.t 8)),none,[]⟩])
 .ret)))) }
noncomputable def f350 : AFn := { np := 1, nt := 4, res := [.t 2], body :=
 (.seq (.reg [⟨(some 1),(.bx (.t 0)),none,[]⟩,⟨(some 2),(.mv (.c .nf)),none,[]⟩])
 (.seq (.reg [⟨(some 3),(.mkf 359 [] [(.t 1)]),none,[]⟩,⟨(some 2),(.mv (.t 3)),none,[]⟩])
 .ret)) }
noncomputable def f351 : AFn := { np := 3, nt := 25, res := [.t 6,.t 7,.t 8], body :=
 (.seq (.reg [⟨(some 6),(.mv (.c (.i .i64 0))),none,[]⟩,⟨(some 7),(.mv (.c (.i .i64 0))),none,[]⟩,⟨(some 8),(.mv (.c (.b false))),none,[]⟩])
 (.seq (.reg [⟨(some 11),(.mv (.t 0)),none,[]⟩,⟨(some 12),(.mv (.t 1)),none,[]⟩,⟨(some 13),(.mv (.t 2)),none,[]⟩,⟨(some 14),(.call 192 [(.t 11),(.t 12),(.t 13)]),none,[]⟩,⟨(some 10),(.mv (.t 14)),none,[]⟩,⟨(some 15),(.ex (.t 10) 0),none,[]⟩,⟨(some 16),(.ex (.t 10) 1),none,[]⟩,⟨(some 9),(.mv (.t 15)),none,[]⟩,⟨(some 8),(.mv (.t 16)),none,[]⟩])
 (.seq (.reg [⟨(some 17),(.mv (.t 9)),none,[]⟩,⟨(some 18),(.call 198 [(.t 17)]),none,[]⟩,⟨(some 19),(.mv (.t 9)),none,[]⟩,⟨(some 20),(.call 360 [(.t 19)]),none,[]⟩,⟨(some 21),(.bi .sub (.t 18) (.t 20)),none,[]⟩,⟨(some 22),(.mv (.t 9)),none,[]⟩,⟨(some 23),(.call 198 [(.t 22)]),none,[]⟩,⟨(some 24),(.mv (.t 8)),none,[]⟩,⟨(some 6),(.mv (.t 21)),none,[]⟩,⟨(some 7),(.mv (.t 23)),none,[]⟩,⟨(some 8),(.mv (.t 24)),none,[]⟩])
 .ret))) }
noncomputable def f352 : AFn := { np := 1, nt := 27, res := [.t 2], body :=
 (.seq (.reg [⟨(some 2),(.mv (.c (.i .i64 0))),none,[]⟩])
 (.seq (.seq (.reg [⟨(some 5),(.mv (.t 0)),none,[]⟩,⟨(some 6),(.call 361 [(.t 5)]),none,[]⟩,⟨(some 7),(.lns false (.t 6)),none,[]⟩,⟨(some 8),(.mv (.c (.i .i64 0))),none,[]⟩])
 (.blk 0 (.loop (.seq (.reg [⟨(some 9),(.bi .lss (.t 8) (.t 7)),none,[]⟩])
 (.seq (.cond (.t 9) .skip (.exit 0))
 (.seq (.blk 1 (.seq (.reg [⟨(some 10),(.ias 1 (.t 6) (.t 8)),none,[]⟩,⟨(some 11),(.ld (.t 10)),none,[]⟩,⟨(some 4),(.mv (.t 11)),none,[]⟩])
 (.drw [⟨(some 12),(.mv (.t 2)),none,[]⟩,⟨(some 13),(.mv (.t 0)),none,[]⟩,⟨(some 14),(.mv (.t 4)),none,[]⟩,⟨(some 15),(.ias 6 (.t 13) (.t 14)),none,[]⟩,⟨(some 16),(.fa (.t 15) 4),none,[]⟩,⟨(some 17),(.ld (.t 16)),none,[]⟩,⟨(some 18),(.mv (.t 0)),none,[]⟩,⟨(some 19),(.mv (.t 4)),none,[]⟩,⟨(some 20),(.ias 6 (.t 18) (.t 19)),none,[]⟩,⟨(some 21),(.fa (.t 20) 3),none,[]⟩,⟨(some 22),(.ld (.t 21)),none,[]⟩,⟨(some 23),(.bi .sub (.t 17) (.t 22)),none,[]⟩,⟨(some 24),(.call 96 [(.t 12),(.t 23)]),none,[]⟩,⟨(some 2),(.mv (.t 24)),none,[]⟩])))
 (.reg [⟨(some 25),(.bi .add (.t 8) (.c (.i .i64 1))),none,[]⟩,⟨(some 8),(.mv (.t 25)),none,[]⟩])))))))
 (.seq (.reg [⟨(some 26),(.mv (.t 2)),none,[]⟩,⟨(some 2),(.mv (.t 26)),none,[]⟩])
 .ret))) }
noncomputable def f353 : AFn := { np := 1, nt := 12, res := [.t 2], body :=
 (.seq (.reg [⟨(some 1),(.bx (.t 0)),none,[]⟩,⟨(some 2),(.mv (.c (.i .i64 0))),none,[]⟩])
 (.seq (.reg [⟨(some 4),(.ld (.t 1)),none,[]⟩,⟨(some 5),(.call 361 [(.t 4)]),none,[]⟩,⟨(some 3),(.mv (.t 5)),none,[]⟩])
 (.seq (.seq (.reg [⟨(some 6),(.mv (.t 3)),none,[]⟩,⟨(some 7),(.lns false (.t 6)),none,[]⟩,⟨(some 8),(.bi .eql (.t 7) (.c (.i .i64 0))),none,[]⟩])
 (.cond (.t 8) (.seq (.reg [⟨(some 2),(.mv (.c (.i .i64 (-1)))),none,[]⟩])
 .ret) .skip))
 (.seq (.reg [⟨(some 9),(.mv (.t 3)),none,[]⟩,⟨(some 10),(.mkf 363 [] [(.t 1)]),none,[]⟩,⟨(some 11),(.call 362 [(.t 9),(.t 10)]),none,[]⟩,⟨(some 2),(.mv (.t 11)),none,[]⟩])
 .ret)))) }
noncomputable def f354 : AFn := { np := 3, nt := 75, res := [], body :=
 (.seq (.reg [⟨(some 8),(.mv (.t 0)),none,[]⟩,⟨(some 9),(.nc (.t 8)),none,[]⟩,⟨(some 10),(.fa (.t 9) 0),none,[]⟩,⟨(some 11),(.ld (.t 10)),none,[]⟩,⟨(some 12),(.mv (.t 1)),none,[]⟩,⟨(some 13),(.ias 6 (.t 11) (.t 12)),none,[]⟩,⟨(some 14),(.ldn (.t 13) 6),none,[]⟩,⟨(some 6),(.al [(.i .i64 0),(.i .u64 0),(.i .i64 0),(.i .i64 0),(.i .i64 0),(.i .i64 0)]),none,[]⟩,⟨none,(.st (.t 6) (.t 14) 6),none,[]⟩])
 (.seq (.drw [⟨(some 15),(.fa (.t 6) 2),none,[]⟩,⟨(some 16),(.ld (.t 15)),none,[]⟩,⟨(some 17),(.fa (.t 6) 3),none,[]⟩,⟨(some 18),(.ld (.t 17)),none,[]⟩,⟨(some 19),(.mv (.t 2)),none,[]⟩,⟨(some 23),(.mv (.t 0)),none,[]⟩,⟨(some 24),(.nc (.t 23)),none,[]⟩,⟨(some 25),(.fa (.t 24) 2),none,[]⟩,⟨(some 26),(.ld (.t 25)),none,[]⟩,⟨(some 27),(.mv (.t 1)),none,[]⟩,⟨(some 28),(.ias 1 (.t 26) (.t 27)),none,[]⟩,⟨(some 29),(.ld (.t 28)),none,[]⟩,⟨(some 31),(.mv (.t 0)),none,[]⟩,⟨(some 32),(.nc (.t 31)),none,[]⟩,⟨(some 33),(.fa (.t 32) 1),none,[]⟩,⟨(some 34),(.ld (.t 33)),none,[]⟩,⟨(some 20),(.call 96 [(.t 18),(.t 19)]),none,[(16,(.ld (.t 15)),none),(26,(.ld (.t 25)),none),(29,(.ld (.t 28)),none),(34,(.ld (.t 33)),none)]⟩,⟨(some 21),(.bs 1 [(.i .i64 0)] [(0,1,(.t 20))]),none,[]⟩,⟨(some 22),(.call 364 [(.t 16),(.t 21)]),none,[(26,(.ld (.t 25)),none),(29,(.ld (.t 28)),none),(34,(.ld (.t 33)),none)]⟩,⟨(some 30),(.bi .sub (.t 22) (.t 29)),none,[]⟩,⟨(some 35),(.call 169 [(.t 30),(.c (.i .i64 0)),(.t 34)]),none,[]⟩,⟨(some 7),(.mv (.t 35)),none,[]⟩])
 (.seq (.seq (.reg [⟨(some 36),(.mv (.t 7)),none,[]⟩,⟨(some 37),(.bi .gtr (.t 36) (.c (.i .i64 0))),none,[]⟩,⟨(some 38),(.mv (.t 37)),none,[]⟩,⟨(some 39),(.mv (.t 0)),(some (38,true)),[]⟩,⟨(some 40),(.nc (.t 39)),(some (38,true)),[]⟩,⟨(some 41),(.fa (.t 40) 3),(some (38,true)),[]⟩,⟨(some 42),(.ld (.t 41)),(some (38,true)),[]⟩,⟨(some 43),(.mv (.t 1)),(some (38,true)),[]⟩,⟨(some 44),(.call 365 [(.t 42),(.t 43)]),(some (38,true)),[]⟩,⟨(some 45),(.un .not (.t 44)),(some (38,true)),[]⟩,⟨(some 46),(.pk (.t 38) (.t 45) (.c (.b false))),none,[]⟩])
 (.cond (.t 46) (.reg [⟨(some 47),(.mv (.t 0)),none,[]⟩,⟨(some 48),(.mv (.t 0)),none,[]⟩,⟨(some 49),(.nc (.t 48)),none,[]⟩,⟨(some 50),(.fa (.t 49) 3),none,[]⟩,⟨(some 51),(.ld (.t 50)),none,[]⟩,⟨(some 52),(.mv (.t 1)),none,[]⟩,⟨(some 53),(.bs 1 [(.i .i64 0)] [(0,1,(.t 52))]),none,[]⟩,⟨(some 54),(.ap 1 (.t 51) (.t 53)),none,[]⟩,⟨(some 55),(.nc (.t 47)),none,[]⟩,⟨(some 56),(.fa (.t 55) 3),none,[]⟩,⟨none,(.st (.t 56) (.t 54) 1),none,[]⟩]) .skip))
 (.seq (.reg [⟨(some 57),(.mv (.t 0)),none,[]⟩,⟨(some 58),(.nc (.t 57)),none,[]⟩,⟨(some 59),(.fa (.t 58) 2),none,[]⟩,⟨(some 60),(.ld (.t 59)),none,[]⟩,⟨(some 61),(.mv (.t 1)),none,[]⟩,⟨(some 62),(.ias 1 (.t 60) (.t 61)),none,[]⟩,⟨(some 63),(.ld (.t 62)),none,[]⟩,⟨(some 64),(.mv (.t 7)),none,[]⟩,⟨(some 65),(.bi .add (.t 63) (.t 64)),none,[]⟩,⟨(some 66),(.ias 1 (.t 60) (.t 61)),none,[]⟩,⟨none,(.st (.t 66) (.t 65) 1),none,[]⟩])
 (.reg [⟨(some 67),(.mv (.t 0)),none,[]⟩,⟨(some 68),(.nc (.t 67)),none,[]⟩,⟨(some 69),(.fa (.t 68) 1),none,[]⟩,⟨(some 70),(.ld (.t 69)),none,[]⟩,⟨(some 71),(.mv (.t 7)),none,[]⟩,⟨(some 72),(.bi .sub (.t 70) (.t 71)),none,[]⟩,⟨(some 73),(.nc (.t 67)),none,[]⟩,⟨(some 74),(.fa (.t 73) 1),none,[]⟩,⟨none,(.st (.t 74) (.t 72) 1),none,[]⟩]))))) }
noncomputable def f355 : AFn := { np := 1, nt := 10, res := [.t 2], body :=
 (.seq (.reg [⟨(some 1),(.bx (.t 0)),none,[]⟩,⟨(some 2),(.mv (.c .nsl)),none,[]⟩])
 (.seq (.reg [⟨(some 4),(.ld (.t 1)),none,[]⟩,⟨(some 5),(.call 361 [(.t 4)]),none,[]⟩,⟨(some 3),(.mv (.t 5)),none,[]⟩])
 (.seq (.reg [⟨(some 6),(.mv (.t 3)),none,[]⟩,⟨(some 7),(.mkf 367 [] [(.t 1)]),none,[]⟩,⟨(some 8),(.call 366 [(.t 6),(.t 7)]),none,[]⟩])
 (.seq (.reg [⟨(some 9),(.mv (.t 3)),none,[]⟩,⟨(some 2),(.mv (.t 9)),none,[]⟩])
 .ret)))) }
noncomputable def f357 : AFn := { np := 1, nt := 5, res := [.t 2], body :=
 (.seq (.reg [⟨(some 2),(.mv (.c .nsl)),none,[]⟩])
 (.seq (.reg [⟨(some 3),(.mv (.t 0)),none,[]⟩,⟨(some 4),(.call 368 [(.c .nsl),(.t 3)]),none,[]⟩,⟨(some 2),(.mv (.t 4)),none,[]⟩])
 .ret)) }
noncomputable def f358 : AFn := { np := 1, nt := 11, res := [], body :=
 (.seq (.reg [⟨(some 3),(.mv (.t 0)),none,[]⟩,⟨(some 4),(.lns false (.t 3)),none,[]⟩,⟨(some 2),(.mv (.t 4)),none,[]⟩])
 (.reg [⟨(some 5),(.mv (.t 0)),none,[]⟩,⟨(some 6),(.mv (.t 2)),none,[]⟩,⟨(some 7),(.mv (.t 2)),none,[]⟩,⟨(some 8),(.cvi .u64 (.t 7)),none,[]⟩,⟨(some 9),(.call 186 [(.t 8)]),none,[]⟩,⟨(some 10),(.call 369 [(.t 5),(.c (.i .i64 0)),(.t 6),(.t 9)]),none,[]⟩])) }
noncomputable def f359 : AFn := { np := 1, nt := 16, res := [], body :=
 (.seq (.reg [⟨(some 5),(.ld (.t 1)),none,[]⟩,⟨(some 6),(.lns false (.t 5)),none,[]⟩,⟨(some 7),(.mv (.c (.i .i64 0))),none,[]⟩])
 (.blk 0 (.loop (.seq (.reg [⟨(some 8),(.bi .lss (.t 7) (.t 6)),none,[]⟩])
 (.seq (.cond (.t 8) .skip (.exit 0))
 (.seq (.blk 1 (.seq (.reg [⟨(some 9),(.ias 1 (.t 5) (.t 7)),none,[]⟩,⟨(some 10),(.ld (.t 9)),none,[]⟩,⟨(some 4),(.mv (.t 10)),none,[]⟩])
 (.seq (.reg [⟨(some 11),(.mv (.t 0)),none,[]⟩,⟨(some 12),(.mv (.t 4)),none,[]⟩,⟨(some 13),(.cv (.t 11) [(.t 12)]),none,[]⟩,⟨(some 14),(.un .not (.t 13)),none,[]⟩])
 (.cond (.t 14) .ret .skip))))
 (.reg [⟨(some 15),(.bi .add (.t 7) (.c (.i .i64 1))),none,[]⟩,⟨(some 7),(.mv (.t 15)),none,[]⟩]))))))) }
noncomputable def f360 : AFn := { np := 1, nt := 16, res := [.t 2], body :=
 (.seq (.reg [⟨(some 2),(.mv (.c (.i .i64 0))),none,[]⟩])
 (.seq (.seq (.reg [⟨(some 3),(.mv (.t 0)),none,[]⟩,⟨(some 4),(.eq false .ptr (.t 3) (.c .np)),none,[]⟩])
 (.cond (.t 4) (.seq (.reg [⟨(some 2),(.mv (.c (.i .i64 0))),none,[]⟩])
 .ret) .skip))
 (.seq (.drw [⟨(some 5),(.mv (.t 0)),none,[]⟩,⟨(some 6),(.nc (.t 5)),none,[]⟩,⟨(some 7),(.fa (.t 6) 0),none,[]⟩,⟨(some 8),(.ld (.t 7)),none,[]⟩,⟨(some 9),(.lns false (.t 8)),none,[]⟩,⟨(some 10),(.mv (.t 0)),none,[]⟩,⟨(some 11),(.nc (.t 10)),none,[]⟩,⟨(some 12),(.fa (.t 11) 1),none,[]⟩,⟨(some 13),(.ld (.t 12)),none,[]⟩,⟨(some 14),(.call 231 [(.t 13)]),none,[(8,(.ld (.t 7)),none)]⟩,⟨(some 15),(.bi .sub (.t 9) (.t 14)),none,[]⟩,⟨(some 2),(.mv (.t 15)),none,[]⟩])
 .ret))) }
noncomputable def f361 : AFn := { np := 1, nt := 27, res := [.t 2], body :=
 (.seq (.reg [⟨(some 2),(.mv (.c .nsl)),none,[]⟩])
 (.seq (.seq (.reg [⟨(some 5),(.mv (.t 0)),none,[]⟩,⟨(some 6),(.lns false (.t 5)),none,[]⟩,⟨(some 7),(.mv (.c (.i .i64 0))),none,[]⟩])
 (.blk 0 (.loop (.seq (.reg [⟨(some 8),(.bi .lss (.t 7) (.t 6)),none,[]⟩])
 (.seq (.cond (.t 8) .skip (.exit 0))
 (.seq (.blk 1 (.seq (.reg [⟨(some 9),(.mv (.t 7)),none,[]⟩,⟨(some 10),(.ias 6 (.t 5) (.t 7)),none,[]⟩,⟨(some 11),(.ldn (.t 10) 6),none,[]⟩,⟨(some 4),(.al [(.i .i64 0),(.i .u64 0),(.i .i64 0),(.i .i64 0),(.i .i64 0),(.i .i64 0)]),none,[]⟩,⟨(some 3),(.mv (.t 9)),none,[]⟩,⟨none,(.st (.t 4) (.t 11) 6),none,[]⟩])
 (.seq (.reg [⟨(some 12),(.ldn (.t 4) 6),none,[]⟩,⟨(some 13),(.call 370 [(.t 12)]),none,[]⟩,⟨(some 14),(.mv (.t 13)),none,[]⟩,⟨(some 15),(.fa (.t 4) 3),(some (14,true)),[]⟩,⟨(some 16),(.ld (.t 15)),(some (14,true)),[]⟩,⟨(some 17),(.fa (.t 4) 2),(some (14,true)),[]⟩,⟨(some 18),(.ld (.t 17)),(some (14,true)),[]⟩,⟨(some 19),(.bi .lss (.t 16) (.t 18)),(some (14,true)),[]⟩,⟨(some 20),(.pk (.t 14) (.t 19) (.c (.b false))),none,[]⟩])
 (.cond (.t 20) (.reg [⟨(some 21),(.mv (.t 2)),none,[]⟩,⟨(some 22),(.mv (.t 3)),none,[]⟩,⟨(some 23),(.bs 1 [(.i .i64 0)] [(0,1,(.t 22))]),none,[]⟩,⟨(some 24),(.ap 1 (.t 21) (.t 23)),none,[]⟩,⟨(some 2),(.mv (.t 24)),none,[]⟩]) .skip))))
 (.reg [⟨(some 25),(.bi .add (.t 7) (.c (.i .i64 1))),none,[]⟩,⟨(some 7),(.mv (.t 25)),none,[]⟩])))))))
 (.seq (.reg [⟨(some 26),(.mv (.t 2)),none,[]⟩,⟨(some 2),(.mv (.t 26)),none,[]⟩])
 .ret))) }
noncomputable def f362 : AFn := { np := 2, nt := 33, res := [.t 4], body :=
 (.seq (.reg [⟨(some 4),(.mv (.c (.i .i64 0))),none,[]⟩])
 (.seq (.seq (.reg [⟨(some 7),(.mv (.t 0)),none,[]⟩,⟨(some 8),(.lns false (.t 7)),none,[]⟩,⟨(some 9),(.bi .lss (.t 8) (.c (.i .i64 1))),none,[]⟩])
 (.cond (.t 9) (.reg [⟨(some 10),(.mki 9 (.c (.s [115,108,105,99,101,115,46,77,105,110,70,117,110,99,58,32,101,109,112,116,121,32,108,105,115,116]))),none,[]⟩,⟨none,.bad,none,[]⟩]) .skip))
 (.seq (.reg [⟨(some 11),(.mv (.t 0)),none,[]⟩,⟨(some 12),(.ias 1 (.t 11) (.c (.i .i64 0))),none,[]⟩,⟨(some 13),(.ld (.t 12)),none,[]⟩,⟨(some 5),(.mv (.t 13)),none,[]⟩])
 (.seq (.seq (.reg [⟨(some 6),(.mv (.c (.i .i64 1))),none,[]⟩])
 (.blk 0 (.loop (.seq (.seq (.reg [⟨(some 14),(.mv (.t 6)),none,[]⟩,⟨(some 15),(.mv (.t 0)),none,[]⟩,⟨(some 16),(.lns false (.t 15)),none,[]⟩,⟨(some 17),(.bi .lss (.t 14) (.t 16)),none,[]⟩])
 (.cond (.t 17) .skip (.exit 0)))
 (.seq (.blk 1 (.seq (.reg [⟨(some 20),(.mv (.t 1)),none,[]⟩,⟨(some 21),(.mv (.t 0)),none,[]⟩,⟨(some 22),(.mv (.t 6)),none,[]⟩,⟨(some 23),(.ias 1 (.t 21) (.t 22)),none,[]⟩,⟨(some 24),(.ld (.t 23)),none,[]⟩,⟨(some 25),(.mv (.t 5)),none,[]⟩,⟨(some 26),(.cv (.t 20) [(.t 24),(.t 25)]),none,[]⟩,⟨(some 27),(.bi .lss (.t 26) (.c (.i .i64 0))),none,[]⟩])
 (.cond (.t 27) (.reg [⟨(some 28),(.mv (.t 0)),none,[]⟩,⟨(some 29),(.mv (.t 6)),none,[]⟩,⟨(some 30),(.ias 1 (.t 28) (.t 29)),none,[]⟩,⟨(some 31),(.ld (.t 30)),none,[]⟩,⟨(some 5),(.mv (.t 31)),none,[]⟩]) .skip)))
 (.reg [⟨(some 18),(.mv (.t 6)),none,[]⟩,⟨(some 19),(.bi .add (.t 18) (.c (.i .i64 1))),none,[]⟩,⟨(some 6),(.mv (.t 19)),none,[]⟩]))))))
 (.seq (.reg [⟨(some 32),(.mv (.t 5)),none,[]⟩,⟨(some 4),(.mv (.t 32)),none,[]⟩])
 .ret))))) }
noncomputable def f364 : AFn := { np := 2, nt := 18, res := [.t 4], body :=
 (.seq (.reg [⟨(some 4),(.mv (.c (.i .i64 0))),none,[]⟩])
 (.seq (.seq (.reg [⟨(some 7),(.mv (.t 1)),none,[]⟩,⟨(some 8),(.lns false (.t 7)),none,[]⟩,⟨(some 9),(.mv (.c (.i .i64 0))),none,[]⟩])
 (.blk 0 (.loop (.seq (.reg [⟨(some 10),(.bi .lss (.t 9) (.t 8)),none,[]⟩])
 (.seq (.cond (.t 10) .skip (.exit 0))
 (.seq (.blk 1 (.seq (.reg [⟨(some 11),(.ias 1 (.t 7) (.t 9)),none,[]⟩,⟨(some 12),(.ld (.t 11)),none,[]⟩,⟨(some 6),(.mv (.t 12)),none,[]⟩])
 (.reg [⟨(some 13),(.mv (.t 0)),none,[]⟩,⟨(some 14),(.mv (.t 6)),none,[]⟩,⟨(some 15),(.mn [(.t 13),(.t 14)]),none,[]⟩,⟨(some 0),(.mv (.t 15)),none,[]⟩])))
 (.reg [⟨(some 16),(.bi .add (.t 9) (.c (.i .i64 1))),none,[]⟩,⟨(some 9),(.mv (.t 16)),none,[]⟩])))))))
 (.seq (.reg [⟨(some 17),(.mv (.t 0)),none,[]⟩,⟨(some 4),(.mv (.t 17)),none,[]⟩])
 .ret))) }
noncomputable def f366 : AFn := { np := 2, nt := 14, res := [], body :=
 (.seq (.reg [⟨(some 5),(.mv (.t 0)),none,[]⟩,⟨(some 6),(.lns false (.t 5)),none,[]⟩,⟨(some 4),(.mv (.t 6)),none,[]⟩])
 (.reg [⟨(some 7),(.mv (.t 0)),none,[]⟩,⟨(some 8),(.mv (.t 4)),none,[]⟩,⟨(some 9),(.mv (.t 4)),none,[]⟩,⟨(some 10),(.cvi .u64 (.t 9)),none,[]⟩,⟨(some 11),(.call 186 [(.t 10)]),none,[]⟩,⟨(some 12),(.mv (.t 1)),none,[]⟩,⟨(some 13),(.call 371 [(.t 7),(.c (.i .i64 0)),(.t 8),(.t 11),(.t 12)]),none,[]⟩])) }
noncomputable def f368 : AFn := { np := 2, nt := 13, res := [.t 4], body :=
 (.seq (.reg [⟨(some 2),(.bx (.t 0)),none,[]⟩,⟨(some 4),(.mv (.c .nsl)),none,[]⟩])
 (.seq (.seq (.reg [⟨(some 6),(.mv (.t 1)),none,[]⟩])
 (.blk 0 (.rf (.t 6) [7] (.reg [⟨(some 5),(.mv (.t 7)),none,[]⟩]) (.blk 1 (.reg [⟨(some 8),(.ld (.t 2)),none,[]⟩,⟨(some 9),(.mv (.t 5)),none,[]⟩,⟨(some 10),(.bs 1 [(.i .i64 0)] [(0,1,(.t 9))]),none,[]⟩,⟨(some 11),(.ap 1 (.t 8) (.t 10)),none,[]⟩,⟨none,(.st (.t 2) (.t 11) 1),none,[]⟩])))))
 (.seq (.reg [⟨(some 12),(.ld (.t 2)),none,[]⟩,⟨(some 4),(.mv (.t 12)),none,[]⟩])
 .ret))) }
noncomputable def f369 : AFn := { np := 4, nt := 134, res := [], body :=
 (.seq (.reg [⟨(some 8),(.mv (.c (.b true))),none,[]⟩])
 (.seq (.reg [⟨(some 9),(.mv (.c (.b true))),none,[]⟩])
 (.blk 0 (.loop (.blk 1 (.seq (.reg [⟨(some 19),(.mv (.t 2)),none,[]⟩,⟨(some 20),(.mv (.t 1)),none,[]⟩,⟨(some 21),(.bi .sub (.t 19) (.t 20)),none,[]⟩,⟨(some 10),(.mv (.t 21)),none,[]⟩])
 (.seq (.seq (.reg [⟨(some 22),(.mv (.t 10)),none,[]⟩,⟨(some 23),(.bi .leq (.t 22) (.c (.i .i64 12))),none,[]⟩])
 (.cond (.t 23) (.seq (.reg [⟨(some 24),(.mv (.t 0)),none,[]⟩,⟨(some 25),(.mv (.t 1)),none,[]⟩,⟨(some 26),(.mv (.t 2)),none,[]⟩,⟨(some 27),(.call 372 [(.t 24),(.t 25),(.t 26)]),none,[]⟩])
 .ret) .skip))
 (.seq (.seq (.reg [⟨(some 28),(.mv (.t 3)),none,[]⟩,⟨(some 29),(.bi .eql (.t 28) (.c (.i .i64 0))),none,[]⟩])
 (.cond (.t 29) (.seq (.reg [⟨(some 30),(.mv (.t 0)),none,[]⟩,⟨(some 31),(.mv (.t 1)),none,[]⟩,⟨(some 32),(.mv (.t 2)),none,[]⟩,⟨(some 33),(.call 373 [(.t 30),(.t 31),(.t 32)]),none,[]⟩])
 .ret) .skip))
 (.seq (.seq (.reg [⟨(some 34),(.mv (.t 8)),none,[]⟩,⟨(some 35),(.un .not (.t 34)),none,[]⟩])
 (.cond (.t 35) (.seq (.reg [⟨(some 36),(.mv (.t 0)),none,[]⟩,⟨(some 37),(.mv (.t 1)),none,[]⟩,⟨(some 38),(.mv (.t 2)),none,[]⟩,⟨(some 39),(.call 374 [(.t 36),(.t 37),(.t 38)]),none,[]⟩])
 (.reg [⟨(some 40),(.mv (.t 3)),none,[]⟩,⟨(some 41),(.bi .sub (.t 40) (.c (.i .i64 1))),none,[]⟩,⟨(some 3),(.mv (.t 41)),none,[]⟩])) .skip))
 (.seq (.reg [⟨(some 43),(.mv (.t 0)),none,[]⟩,⟨(some 44),(.mv (.t 1)),none,[]⟩,⟨(some 45),(.mv (.t 2)),none,[]⟩,⟨(some 46),(.call 375 [(.t 43),(.t 44),(.t 45)]),none,[]⟩,⟨(some 42),(.mv (.t 46)),none,[]⟩,⟨(some 47),(.ex (.t 42) 0),none,[]⟩,⟨(some 48),(.ex (.t 42) 1),none,[]⟩,⟨(some 11),(.mv (.t 47)),none,[]⟩,⟨(some 12),(.mv (.t 48)),none,[]⟩])
 (.seq (.seq (.reg [⟨(some 49),(.mv (.t 12)),none,[]⟩,⟨(some 50),(.bi .eql (.t 49) (.c (.i .i64 2))),none,[]⟩])
 (.cond (.t 50) (.seq (.reg [⟨(some 51),(.mv (.t 0)),none,[]⟩,⟨(some 52),(.mv (.t 1)),none,[]⟩,⟨(some 53),(.mv (.t 2)),none,[]⟩,⟨(some 54),(.call 376 [(.t 51),(.t 52),(.t 53)]),none,[]⟩])
 (.seq (.reg [⟨(some 55),(.mv (.t 2)),none,[]⟩,⟨(some 56),(.bi .sub (.t 55) (.c (.i .i64 1))),none,[]⟩,⟨(some 57),(.mv (.t 11)),none,[]⟩,⟨(some 58),(.mv (.t 1)),none,[]⟩,⟨(some 59),(.bi .sub (.t 57) (.t 58)),none,[]⟩,⟨(some 60),(.bi .sub (.t 56) (.t 59)),none,[]⟩,⟨(some 11),(.mv (.t 60)),none,[]⟩])
 (.reg [⟨(some 12),(.mv (.c (.i .i64 1))),none,[]⟩]))) .skip))
 (.seq (.seq (.reg [⟨(some 61),(.mv (.t 8)),none,[]⟩,⟨(some 62),(.mv (.t 61)),none,[]⟩,⟨(some 63),(.mv (.t 9)),(some (62,true)),[]⟩,⟨(some 64),(.pk (.t 62) (.t 63) (.c (.b false))),none,[]⟩,⟨(some 65),(.mv (.t 64)),none,[]⟩,⟨(some 66),(.mv (.t 12)),(some (65,true)),[]⟩,⟨(some 67),(.bi .eql (.t 66) (.c (.i .i64 1))),(some (65,true)),[]⟩,⟨(some 68),(.pk (.t 65) (.t 67) (.c (.b false))),none,[]⟩])
 (.cond (.t 68) (.seq (.reg [⟨(some 69),(.mv (.t 0)),none,[]⟩,⟨(some 70),(.mv (.t 1)),none,[]⟩,⟨(some 71),(.mv (.t 2)),none,[]⟩,⟨(some 72),(.call 377 [(.t 69),(.t 70),(.t 71)]),none,[]⟩])
 (.cond (.t 72) .ret .skip)) .skip))
 (.seq (.seq (.drw [⟨(some 73),(.mv (.t 1)),none,[]⟩,⟨(some 74),(.bi .gtr (.t 73) (.c (.i .i64 0))),none,[]⟩,⟨(some 75),(.mv (.t 74)),none,[]⟩,⟨(some 76),(.mv (.t 0)),(some (75,true)),[]⟩,⟨(some 77),(.mv (.t 1)),(some (75,true)),[]⟩,⟨(some 78),(.bi .sub (.t 77) (.c (.i .i64 1))),(some (75,true)),[]⟩,⟨(some 79),(.ias 1 (.t 76) (.t 78)),(some (75,true)),[]⟩,⟨(some 80),(.ld (.t 79)),(some (75,true)),[]⟩,⟨(some 81),(.mv (.t 0)),(some (75,true)),[]⟩,⟨(some 82),(.mv (.t 11)),(some (75,true)),[]⟩,⟨(some 83),(.ias 1 (.t 81) (.t 82)),(some (75,true)),[]⟩,⟨(some 84),(.ld (.t 83)),(some (75,true)),[]⟩,⟨(some 85),(.call 378 [(.t 80),(.t 84)]),(some (75,true)),[]⟩,⟨(some 86),(.un .not (.t 85)),(some (75,true)),[]⟩,⟨(some 87),(.pk (.t 75) (.t 86) (.c (.b false))),none,[]⟩])
 (.cond (.t 87) (.seq (.reg [⟨(some 88),(.mv (.t 0)),none,[]⟩,⟨(some 89),(.mv (.t 1)),none,[]⟩,⟨(some 90),(.mv (.t 2)),none,[]⟩,⟨(some 91),(.mv (.t 11)),none,[]⟩,⟨(some 92),(.call 379 [(.t 88),(.t 89),(.t 90),(.t 91)]),none,[]⟩,⟨(some 13),(.mv (.t 92)),none,[]⟩])
 (.seq (.reg [⟨(some 93),(.mv (.t 13)),none,[]⟩,⟨(some 1),(.mv (.t 93)),none,[]⟩])
 (.exit 1))) .skip))
 (.seq (.reg [⟨(some 95),(.mv (.t 0)),none,[]⟩,⟨(some 96),(.mv (.t 1)),none,[]⟩,⟨(some 97),(.mv (.t 2)),none,[]⟩,⟨(some 98),(.mv (.t 11)),none,[]⟩,⟨(some 99),(.call 380 [(.t 95),(.t 96),(.t 97),(.t 98)]),none,[]⟩,⟨(some 94),(.mv (.t 99)),none,[]⟩,⟨(some 100),(.ex (.t 94) 0),none,[]⟩,⟨(some 101),(.ex (.t 94) 1),none,[]⟩,⟨(some 14),(.mv (.t 100)),none,[]⟩,⟨(some 15),(.mv (.t 101)),none,[]⟩])
 (.seq (.reg [⟨(some 102),(.mv (.t 15)),none,[]⟩,⟨(some 9),(.mv (.t 102)),none,[]⟩])
 (.seq (.reg [⟨(some 103),(.mv (.t 14)),none,[]⟩,⟨(some 104),(.mv (.t 1)),none,[]⟩,⟨(some 105),(.bi .sub (.t 103) (.t 104)),none,[]⟩,⟨(some 106),(.mv (.t 2)),none,[]⟩,⟨(some 107),(.mv (.t 14)),none,[]⟩,⟨(some 108),(.bi .sub (.t 106) (.t 107)),none,[]⟩,⟨(some 16),(.mv (.t 105)),none,[]⟩,⟨(some 17),(.mv (.t 108)),none,[]⟩])
 (.seq (.reg [⟨(some 109),(.mv (.t 10)),none,[]⟩,⟨(some 110),(.bi .quo (.t 109) (.c (.i .i64 8))),none,[]⟩,⟨(some 18),(.mv (.t 110)),none,[]⟩])
 (.seq (.reg [⟨(some 111),(.mv (.t 16)),none,[]⟩,⟨(some 112),(.mv (.t 17)),none,[]⟩,⟨(some 113),(.bi .lss (.t 111) (.t 112)),none,[]⟩])
 (.cond (.t 113) (.seq (.reg [⟨(some 114),(.mv (.t 16)),none,[]⟩,⟨(some 115),(.mv (.t 18)),none,[]⟩,⟨(some 116),(.bi .geq (.t 114) (.t 115)),none,[]⟩,⟨(some 8),(.mv (.t 116)),none,[]⟩])
 (.seq (.reg [⟨(some 117),(.mv (.t 0)),none,[]⟩,⟨(some 118),(.mv (.t 1)),none,[]⟩,⟨(some 119),(.mv (.t 14)),none,[]⟩,⟨(some 120),(.mv (.t 3)),none,[]⟩,⟨(some 121),(.call 369 [(.t 117),(.t 118),(.t 119),(.t 120)]),none,[]⟩])
 (.reg [⟨(some 122),(.mv (.t 14)),none,[]⟩,⟨(some 123),(.bi .add (.t 122) (.c (.i .i64 1))),none,[]⟩,⟨(some 1),(.mv (.t 123)),none,[]⟩]))) (.seq (.reg [⟨(some 124),(.mv (.t 17)),none,[]⟩,⟨(some 125),(.mv (.t 18)),none,[]⟩,⟨(some 126),(.bi .geq (.t 124) (.t 125)),none,[]⟩,⟨(some 8),(.mv (.t 126)),none,[]⟩])
 (.seq (.reg [⟨(some 127),(.mv (.t 0)),none,[]⟩,⟨(some 128),(.mv (.t 14)),none,[]⟩,⟨(some 129),(.bi .add (.t 128) (.c (.i .i64 1))),none,[]⟩,⟨(some 130),(.mv (.t 2)),none,[]⟩,⟨(some 131),(.mv (.t 3)),none,[]⟩,⟨(some 132),(.call 369 [(.t 127),(.t 129),(.t 130),(.t 131)]),none,[]⟩])
 (.reg [⟨(some 133),(.mv (.t 14)),none,[]⟩,⟨(some 2),(.mv (.t 133)),none,[]⟩])))))))))))))))))))))) }
noncomputable def f370 : AFn := { np := 1, nt := 57, res := [.t 2], body :=
 (.seq (.reg [⟨(some 1),(.bx (.t 0)),none,[]⟩,⟨(some 2),(.mv (.c (.b false))),none,[]⟩])
 (.seq (.reg [⟨(some 4),(.fa (.t 1) 3),none,[]⟩,⟨(some 5),(.ld (.t 4)),none,[]⟩,⟨(some 6),(.bi .leq (.c (.i .i64 0)) (.t 5)),none,[]⟩,⟨(some 7),(.mv (.t 6)),none,[]⟩,⟨(some 8),(.fa (.t 1) 3),(some (7,true)),[]⟩,⟨(some 9),(.ld (.t 8)),(some (7,true)),[]⟩,⟨(some 10),(.fa (.t 1) 4),(some (7,true)),[]⟩,⟨(some 11),(.ld (.t 10)),(some (7,true)),[]⟩,⟨(some 12),(.bi .leq (.t 9) (.t 11)),(some (7,true)),[]⟩,⟨(some 13),(.pk (.t 7) (.t 12) (.c (.b false))),none,[]⟩,⟨(some 14),(.mv (.t 13)),none,[]⟩,⟨(some 15),(.fa (.t 1) 4),(some (14,true)),[]⟩,⟨(some 16),(.ld (.t 15)),(some (14,true)),[]⟩,⟨(some 17),(.fa (.t 1) 2),(some (14,true)),[]⟩,⟨(some 18),(.ld (.t 17)),(some (14,true)),[]⟩,⟨(some 19),(.bi .leq (.t 16) (.t 18)),(some (14,true)),[]⟩,⟨(some 20),(.pk (.t 14) (.t 19) (.c (.b false))),none,[]⟩,⟨(some 21),(.mv (.t 20)),none,[]⟩,⟨(some 22),(.fa (.t 1) 2),(some (21,true)),[]⟩,⟨(some 23),(.ld (.t 22)),(some (21,true)),[]⟩,⟨(some 24),(.bi .leq (.t 23) (.c (.i .i64 1073741824))),(some (21,true)),[]⟩,⟨(some 25),(.pk (.t 21) (.t 24) (.c (.b false))),none,[]⟩,⟨(some 3),(.mv (.t 25)),none,[]⟩])
 (.seq (.reg [⟨(some 26),(.mv (.t 3)),none,[]⟩,⟨(some 27),(.mv (.t 26)),none,[]⟩,⟨(some 28),(.fa (.t 1) 0),(some (27,true)),[]⟩,⟨(some 29),(.ld (.t 28)),(some (27,true)),[]⟩,⟨(some 30),(.bi .geq (.t 29) (.c (.i .i64 0))),(some (27,true)),[]⟩,⟨(some 31),(.pk (.t 27) (.t 30) (.c (.b false))),none,[]⟩,⟨(some 32),(.mv (.t 31)),none,[]⟩,⟨(some 33),(.fa (.t 1) 0),(some (32,true)),[]⟩,⟨(some 34),(.ld (.t 33)),(some (32,true)),[]⟩,⟨(some 35),(.bi .leq (.t 34) (.c (.i .i64 7))),(some (32,true)),[]⟩,⟨(some 36),(.pk (.t 32) (.t 35) (.c (.b false))),none,[]⟩,⟨(some 37),(.mv (.t 36)),none,[]⟩,⟨(some 38),(.fa (.t 1) 1),(some (37,true)),[]⟩,⟨(some 39),(.ld (.t 38)),(some (37,true)),[]⟩,⟨(some 40),(.bi .geq (.t 39) (.c (.i .u64 1))),(some (37,true)),[]⟩,⟨(some 41),(.pk (.t 37) (.t 40) (.c (.b false))),none,[]⟩,⟨(some 42),(.mv (.t 41)),none,[]⟩,⟨(some 43),(.fa (.t 1) 1),(some (42,true)),[]⟩,⟨(some 44),(.ld (.t 43)),(some (42,true)),[]⟩,⟨(some 45),(.bi .leq (.t 44) (.c (.i .u64 1152921504606846976))),(some (42,true)),[]⟩,⟨(some 46),(.pk (.t 42) (.t 45) (.c (.b false))),none,[]⟩,⟨(some 47),(.mv (.t 46)),none,[]⟩,⟨(some 48),(.fa (.t 1) 5),(some (47,true)),[]⟩,⟨(some 49),(.ld (.t 48)),(some (47,true)),[]⟩,⟨(some 50),(.bi .geq (.t 49) (.c (.i .i64 0))),(some (47,true)),[]⟩,⟨(some 51),(.pk (.t 47) (.t 50) (.c (.b false))),none,[]⟩,⟨(some 52),(.mv (.t 51)),none,[]⟩,⟨(some 53),(.fa (.t 1) 5),(some (52,true)),[]⟩,⟨(some 54),(.ld (.t 53)),(some (52,true)),[]⟩,⟨(some 55),(.bi .leq (.t 54) (.c (.i .i64 1125899906842624))),(some (52,true)),[]⟩,⟨(some 56),(.pk (.t 52) (.t 55) (.c (.b false))),none,[]⟩,⟨(some 2),(.mv (.t 56)),none,[]⟩])
 .ret))) }
noncomputable def f371 : AFn := { np := 5, nt := 148, res := [], body :=
 (.seq (.reg [⟨(some 10),(.mv (.c (.b true))),none,[]⟩])
 (.seq (.reg [⟨(some 11),(.mv (.c (.b true))),none,[]⟩])
 (.blk 0 (.loop (.blk 1 (.seq (.reg [⟨(some 21),(.mv (.t 2)),none,[]⟩,⟨(some 22),(.mv (.t 1)),none,[]⟩,⟨(some 23),(.bi .sub (.t 21) (.t 22)),none,[]⟩,⟨(some 12),(.mv (.t 23)),none,[]⟩])
 (.seq (.seq (.reg [⟨(some 24),(.mv (.t 12)),none,[]⟩,⟨(some 25),(.bi .leq (.t 24) (.c (.i .i64 12))),none,[]⟩])
 (.cond (.t 25) (.seq (.reg [⟨(some 26),(.mv (.t 0)),none,[]⟩,⟨(some 27),(.mv (.t 1)),none,[]⟩,⟨(some 28),(.mv (.t 2)),none,[]⟩,⟨(some 29),(.mv (.t 4)),none,[]⟩,⟨(some 30),(.call 381 [(.t 26),(.t 27),(.t 28),(.t 29)]),none,[]⟩])
 .ret) .skip))
 (.seq (.seq (.reg [⟨(some 31),(.mv (.t 3)),none,[]⟩,⟨(some 32),(.bi .eql (.t 31) (.c (.i .i64 0))),none,[]⟩])
 (.cond (.t 32) (.seq (.reg [⟨(some 33),(.mv (.t 0)),none,[]⟩,⟨(some 34),(.mv (.t 1)),none,[]⟩,⟨(some 35),(.mv (.t 2)),none,[]⟩,⟨(some 36),(.mv (.t 4)),none,[]⟩,⟨(some 37),(.call 382 [(.t 33),(.t 34),(.t 35),(.t 36)]),none,[]⟩])
 .ret) .skip))
 (.seq (.seq (.reg [⟨(some 38),(.mv (.t 10)),none,[]⟩,⟨(some 39),(.un .not (.t 38)),none,[]⟩])
 (.cond (.t 39) (.seq (.reg [⟨(some 40),(.mv (.t 0)),none,[]⟩,⟨(some 41),(.mv (.t 1)),none,[]⟩,⟨(some 42),(.mv (.t 2)),none,[]⟩,⟨(some 43),(.mv (.t 4)),none,[]⟩,⟨(some 44),(.call 383 [(.t 40),(.t 41),(.t 42),(.t 43)]),none,[]⟩])
 (.reg [⟨(some 45),(.mv (.t 3)),none,[]⟩,⟨(some 46),(.bi .sub (.t 45) (.c (.i .i64 1))),none,[]⟩,⟨(some 3),(.mv (.t 46)),none,[]⟩])) .skip))
 (.seq (.reg [⟨(some 48),(.mv (.t 0)),none,[]⟩,⟨(some 49),(.mv (.t 1)),none,[]⟩,⟨(some 50),(.mv (.t 2)),none,[]⟩,⟨(some 51),(.mv (.t 4)),none,[]⟩,⟨(some 52),(.call 384 [(.t 48),(.t 49),(.t 50),(.t 51)]),none,[]⟩,⟨(some 47),(.mv (.t 52)),none,[]⟩,⟨(some 53),(.ex (.t 47) 0),none,[]⟩,⟨(some 54),(.ex (.t 47) 1),none,[]⟩,⟨(some 13),(.mv (.t 53)),none,[]⟩,⟨(some 14),(.mv (.t 54)),none,[]⟩])
 (.seq (.seq (.reg [⟨(some 55),(.mv (.t 14)),none,[]⟩,⟨(some 56),(.bi .eql (.t 55) (.c (.i .i64 2))),none,[]⟩])
 (.cond (.t 56) (.seq (.reg [⟨(some 57),(.mv (.t 0)),none,[]⟩,⟨(some 58),(.mv (.t 1)),none,[]⟩,⟨(some 59),(.mv (.t 2)),none,[]⟩,⟨(some 60),(.mv (.t 4)),none,[]⟩,⟨(some 61),(.call 385 [(.t 57),(.t 58),(.t 59),(.t 60)]),none,[]⟩])
 (.seq (.reg [⟨(some 62),(.mv (.t 2)),none,[]⟩,⟨(some 63),(.bi .sub (.t 62) (.c (.i .i64 1))),none,[]⟩,⟨(some 64),(.mv (.t 13)),none,[]⟩,⟨(some 65),(.mv (.t 1)),none,[]⟩,⟨(some 66),(.bi .sub (.t 64) (.t 65)),none,[]⟩,⟨(some 67),(.bi .sub (.t 63) (.t 66)),none,[]⟩,⟨(some 13),(.mv (.t 67)),none,[]⟩])
 (.reg [⟨(some 14),(.mv (.c (.i .i64 1))),none,[]⟩]))) .skip))
 (.seq (.seq (.reg [⟨(some 68),(.mv (.t 10)),none,[]⟩,⟨(some 69),(.mv (.t 68)),none,[]⟩,⟨(some 70),(.mv (.t 11)),(some (69,true)),[]⟩,⟨(some 71),(.pk (.t 69) (.t 70) (.c (.b false))),none,[]⟩,⟨(some 72),(.mv (.t 71)),none,[]⟩,⟨(some 73),(.mv (.t 14)),(some (72,true)),[]⟩,⟨(some 74),(.bi .eql (.t 73) (.c (.i .i64 1))),(some (72,true)),[]⟩,⟨(some 75),(.pk (.t 72) (.t 74) (.c (.b false))),none,[]⟩])
 (.cond (.t 75) (.seq (.reg [⟨(some 76),(.mv (.t 0)),none,[]⟩,⟨(some 77),(.mv (.t 1)),none,[]⟩,⟨(some 78),(.mv (.t 2)),none,[]⟩,⟨(some 79),(.mv (.t 4)),none,[]⟩,⟨(some 80),(.call 386 [(.t 76),(.t 77),(.t 78),(.t 79)]),none,[]⟩])
 (.cond (.t 80) .ret .skip)) .skip))
 (.seq (.seq (.drw [⟨(some 81),(.mv (.t 1)),none,[]⟩,⟨(some 82),(.bi .gtr (.t 81) (.c (.i .i64 0))),none,[]⟩,⟨(some 83),(.mv (.t 82)),none,[]⟩,⟨(some 84),(.mv (.t 4)),(some (83,true)),[]⟩,⟨(some 85),(.mv (.t 0)),(some (83,true)),[]⟩,⟨(some 86),(.mv (.t 1)),(some (83,true)),[]⟩,⟨(some 87),(.bi .sub (.t 86) (.c (.i .i64 1))),(some (83,true)),[]⟩,⟨(some 88),(.ias 1 (.t 85) (.t 87)),(some (83,true)),[]⟩,⟨(some 89),(.ld (.t 88)),(some (83,true)),[]⟩,⟨(some 90),(.mv (.t 0)),(some (83,true)),[]⟩,⟨(some 91),(.mv (.t 13)),(some (83,true)),[]⟩,⟨(some 92),(.ias 1 (.t 90) (.t 91)),(some (83,true)),[]⟩,⟨(some 93),(.ld (.t 92)),(some (83,true)),[]⟩,⟨(some 94),(.cv (.t 84) [(.t 89),(.t 93)]),(some (83,true)),[]⟩,⟨(some 95),(.bi .lss (.t 94) (.c (.i .i64 0))),(some (83,true)),[]⟩,⟨(some 96),(.un .not (.t 95)),(some (83,true)),[]⟩,⟨(some 97),(.pk (.t 83) (.t 96) (.c (.b false))),none,[]⟩])
 (.cond (.t 97) (.seq (.reg [⟨(some 98),(.mv (.t 0)),none,[]⟩,⟨(some 99),(.mv (.t 1)),none,[]⟩,⟨(some 100),(.mv (.t 2)),none,[]⟩,⟨(some 101),(.mv (.t 13)),none,[]⟩,⟨(some 102),(.mv (.t 4)),none,[]⟩,⟨(some 103),(.call 387 [(.t 98),(.t 99),(.t 100),(.t 101),(.t 102)]),none,[]⟩,⟨(some 15),(.mv (.t 103)),none,[]⟩])
 (.seq (.reg [⟨(some 104),(.mv (.t 15)),none,[]⟩,⟨(some 1),(.mv (.t 104)),none,[]⟩])
 (.exit 1))) .skip))
 (.seq (.reg [⟨(some 106),(.mv (.t 0)),none,[]⟩,⟨(some 107),(.mv (.t 1)),none,[]⟩,⟨(some 108),(.mv (.t 2)),none,[]⟩,⟨(some 109),(.mv (.t 13)),none,[]⟩,⟨(some 110),(.mv (.t 4)),none,[]⟩,⟨(some 111),(.call 388 [(.t 106),(.t 107),(.t 108),(.t 109),(.t 110)]),none,[]⟩,⟨(some 105),(.mv (.t 111)),none,[]⟩,⟨(some 112),(.ex (.t 105) 0),none,[]⟩,⟨(some 113),(.ex (.t 105) 1),none,[]⟩,⟨(some 16),(.mv (.t 112)),none,[]⟩,⟨(some 17),(.mv (.t 113)),none,[]⟩])
 (.seq (.reg [⟨(some 114),(.mv (.t 17)),none,[]⟩,⟨(some 11),(.mv (.t 114)),none,[]⟩])
 (.seq (.reg [⟨(some 115),(.mv (.t 16)),none,[]⟩,⟨(some 116),(.mv (.t 1)),none,[]⟩,⟨(some 117),(.bi .sub (.t 115) (.t 116)),none,[]⟩,⟨(some 118),(.mv (.t 2)),none,[]⟩,⟨(some 119),(.mv (.t 16)),none,[]⟩,⟨(some 120),(.bi .sub (.t 118) (.t 119)),none,[]⟩,⟨(some 18),(.mv (.t 117)),none,[]⟩,⟨(some 19),(.mv (.t 120)),none,[]⟩])
 (.seq (.reg [⟨(some 121),(.mv (.t 12)),none,[]⟩,⟨(some 122),(.bi .quo (.t 121) (.c (.i .i64 8))),none,[]⟩,⟨(some 20),(.mv (.t 122)),none,[]⟩])
 (.seq (.reg [⟨(some 123),(.mv (.t 18)),none,[]⟩,⟨(some 124),(.mv (.t 19)),none,[]⟩,⟨(some 125),(.bi .lss (.t 123) (.t 124)),none,[]⟩])
 (.cond (.t 125) (.seq (.reg [⟨(some 126),(.mv (.t 18)),none,[]⟩,⟨(some 127),(.mv (.t 20)),none,[]⟩,⟨(some 128),(.bi .geq (.t 126) (.t 127)),none,[]⟩,⟨(some 10),(.mv (.t 128)),none,[]⟩])
 (.seq (.reg [⟨(some 129),(.mv (.t 0)),none,[]⟩,⟨(some 130),(.mv (.t 1)),none,[]⟩,⟨(some 131),(.mv (.t 16)),none,[]⟩,⟨(some 132),(.mv (.t 3)),none,[]⟩,⟨(some 133),(.mv (.t 4)),none,[]⟩,⟨(some 134),(.call 371 [(.t 129),(.t 130),(.t 131),(.t 132),(.t 133)]),none,[]⟩])
 (.reg [⟨(some 135),(.mv (.t 16)),none,[]⟩,⟨(some 136),(.bi .add (.t 135) (.c (.i .i64 1))),none,[]⟩,⟨(some 1),(.mv (.t 136)),none,[]⟩]))) (.seq (.reg [⟨(some 137),(.mv (.t 19)),none,[]⟩,⟨(some 138),(.mv (.t 20)),none,[]⟩,⟨(some 139),(.bi .geq (.t 137) (.t 138)),none,[]⟩,⟨(some 10),(.mv (.t 139)),none,[]⟩])
 (.seq (.reg [⟨(some 140),(.mv (.t 0)),none,[]⟩,⟨(some 141),(.mv (.t 16)),none,[]⟩,⟨(some 142),(.bi .add (.t 141) (.c (.i .i64 1))),none,[]⟩,⟨(some 143),(.mv (.t 2)),none,[]⟩,⟨(some 144),(.mv (.t 3)),none,[]⟩,⟨(some 145),(.mv (.t 4)),none,[]⟩,⟨(some 146),(.call 371 [(.t 140),(.t 142),(.t 143),(.t 144),(.t 145)]),none,[]⟩])
 (.reg [⟨(some 147),(.mv (.t 16)),none,[]⟩,⟨(some 2),(.mv (.t 147)),none,[]⟩])))))))))))))))))))))) }
noncomputable def f372 : AFn := { np := 3, nt := 49, res := [], body :=
 (.seq (.reg [⟨(some 8),(.mv (.t 1)),none,[]⟩,⟨(some 9),(.bi .add (.t 8) (.c (.i .i64 1))),none,[]⟩,⟨(some 6),(.mv (.t 9)),none,[]⟩])
 (.blk 0 (.loop (.seq (.seq (.reg [⟨(some 10),(.mv (.t 6)),none,[]⟩,⟨(some 11),(.mv (.t 2)),none,[]⟩,⟨(some 12),(.bi .lss (.t 10) (.t 11)),none,[]⟩])
 (.cond (.t 12) .skip (.exit 0)))
 (.seq (.blk 1 (.seq (.reg [⟨(some 15),(.mv (.t 6)),none,[]⟩,⟨(some 7),(.mv (.t 15)),none,[]⟩])
 (.blk 2 (.loop (.seq (.seq (.drw [⟨(some 16),(.mv (.t 7)),none,[]⟩,⟨(some 17),(.mv (.t 1)),none,[]⟩,⟨(some 18),(.bi .gtr (.t 16) (.t 17)),none,[]⟩,⟨(some 19),(.mv (.t 18)),none,[]⟩,⟨(some 20),(.mv (.t 0)),(some (19,true)),[]⟩,⟨(some 21),(.mv (.t 7)),(some (19,true)),[]⟩,⟨(some 22),(.ias 1 (.t 20) (.t 21)),(some (19,true)),[]⟩,⟨(some 23),(.ld (.t 22)),(some (19,true)),[]⟩,⟨(some 24),(.mv (.t 0)),(some (19,true)),[]⟩,⟨(some 25),(.mv (.t 7)),(some (19,true)),[]⟩,⟨(some 26),(.bi .sub (.t 25) (.c (.i .i64 1))),(some (19,true)),[]⟩,⟨(some 27),(.ias 1 (.t 24) (.t 26)),(some (19,true)),[]⟩,⟨(some 28),(.ld (.t 27)),(some (19,true)),[]⟩,⟨(some 29),(.call 378 [(.t 23),(.t 28)]),(some (19,true)),[]⟩,⟨(some 30),(.pk (.t 19) (.t 29) (.c (.b false))),none,[]⟩])
 (.cond (.t 30) .skip (.exit 2)))
 (.seq (.blk 3 (.drw [⟨(some 33),(.mv (.t 0)),none,[]⟩,⟨(some 34),(.mv (.t 7)),none,[]⟩,⟨(some 35),(.mv (.t 0)),none,[]⟩,⟨(some 36),(.mv (.t 7)),none,[]⟩,⟨(some 37),(.bi .sub (.t 36) (.c (.i .i64 1))),none,[]⟩,⟨(some 38),(.mv (.t 0)),none,[]⟩,⟨(some 39),(.mv (.t 7)),none,[]⟩,⟨(some 40),(.bi .sub (.t 39) (.c (.i .i64 1))),none,[]⟩,⟨(some 41),(.ias 1 (.t 38) (.t 40)),none,[]⟩,⟨(some 42),(.ld (.t 41)),none,[]⟩,⟨(some 43),(.mv (.t 0)),none,[]⟩,⟨(some 44),(.mv (.t 7)),none,[]⟩,⟨(some 45),(.ias 1 (.t 43) (.t 44)),none,[]⟩,⟨(some 46),(.ld (.t 45)),none,[]⟩,⟨(some 47),(.ias 1 (.t 33) (.t 34)),none,[]⟩,⟨none,(.st (.t 47) (.t 42) 1),none,[]⟩,⟨(some 48),(.ias 1 (.t 35) (.t 37)),none,[]⟩,⟨none,(.st (.t 48) (.t 46) 1),none,[]⟩]))
 (.reg [⟨(some 31),(.mv (.t 7)),none,[]⟩,⟨(some 32),(.bi .sub (.t 31) (.c (.i .i64 1))),none,[]⟩,⟨(some 7),(.mv (.t 32)),none,[]⟩])))))))
 (.reg [⟨(some 13),(.mv (.t 6)),none,[]⟩,⟨(some 14),(.bi .add (.t 13) (.c (.i .i64 1))),none,[]⟩,⟨(some 6),(.mv (.t 14)),none,[]⟩])))))) }
noncomputable def f381 : AFn := { np := 4, nt := 53, res := [], body :=
 (.seq (.reg [⟨(some 10),(.mv (.t 1)),none,[]⟩,⟨(some 11),(.bi .add (.t 10) (.c (.i .i64 1))),none,[]⟩,⟨(some 8),(.mv (.t 11)),none,[]⟩])
 (.blk 0 (.loop (.seq (.seq (.reg [⟨(some 12),(.mv (.t 8)),none,[]⟩,⟨(some 13),(.mv (.t 2)),none,[]⟩,⟨(some 14),(.bi .lss (.t 12) (.t 13)),none,[]⟩])
 (.cond (.t 14) .skip (.exit 0)))
 (.seq (.blk 1 (.seq (.reg [⟨(some 17),(.mv (.t 8)),none,[]⟩,⟨(some 9),(.mv (.t 17)),none,[]⟩])
 (.blk 2 (.loop (.seq (.seq (.drw [⟨(some 18),(.mv (.t 9)),none,[]⟩,⟨(some 19),(.mv (.t 1)),none,[]⟩,⟨(some 20),(.bi .gtr (.t 18) (.t 19)),none,[]⟩,⟨(some 21),(.mv (.t 20)),none,[]⟩,⟨(some 22),(.mv (.t 3)),(some (21,true)),[]⟩,⟨(some 23),(.mv (.t 0)),(some (21,true)),[]⟩,⟨(some 24),(.mv (.t 9)),(some (21,true)),[]⟩,⟨(some 25),(.ias 1 (.t 23) (.t 24)),(some (21,true)),[]⟩,⟨(some 26),(.ld (.t 25)),(some (21,true)),[]⟩,⟨(some 27),(.mv (.t 0)),(some (21,true)),[]⟩,⟨(some 28),(.mv (.t 9)),(some (21,true)),[]⟩,⟨(some 29),(.bi .sub (.t 28) (.c (.i .i64 1))),(some (21,true)),[]⟩,⟨(some 30),(.ias 1 (.t 27) (.t 29)),(some (21,true)),[]⟩,⟨(some 31),(.ld (.t 30)),(some (21,true)),[]⟩,⟨(some 32),(.cv (.t 22) [(.t 26),(.t 31)]),(some (21,true)),[]⟩,⟨(some 33),(.bi .lss (.t 32) (.c (.i .i64 0))),(some (21,true)),[]⟩,⟨(some 34),(.pk (.t 21) (.t 33) (.c (.b false))),none,[]⟩])
 (.cond (.t 34) .skip (.exit 2)))
 (.seq (.blk 3 (.drw [⟨(some 37),(.mv (.t 0)),none,[]⟩,⟨(some 38),(.mv (.t 9)),none,[]⟩,⟨(some 39),(.mv (.t 0)),none,[]⟩,⟨(some 40),(.mv (.t 9)),none,[]⟩,⟨(some 41),(.bi .sub (.t 40) (.c (.i .i64 1))),none,[]⟩,⟨(some 42),(.mv (.t 0)),none,[]⟩,⟨(some 43),(.mv (.t 9)),none,[]⟩,⟨(some 44),(.bi .sub (.t 43) (.c (.i .i64 1))),none,[]⟩,⟨(some 45),(.ias 1 (.t 42) (.t 44)),none,[]⟩,⟨(some 46),(.ld (.t 45)),none,[]⟩,⟨(some 47),(.mv (.t 0)),none,[]⟩,⟨(some 48),(.mv (.t 9)),none,[]⟩,⟨(some 49),(.ias 1 (.t 47) (.t 48)),none,[]⟩,⟨(some 50),(.ld (.t 49)),none,[]⟩,⟨(some 51),(.ias 1 (.t 37) (.t 38)),none,[]⟩,⟨none,(.st (.t 51) (.t 46) 1),none,[]⟩,⟨(some 52),(.ias 1 (.t 39) (.t 41)),none,[]⟩,⟨none,(.st (.t 52) (.t 50) 1),none,[]⟩]))
 (.reg [⟨(some 35),(.mv (.t 9)),none,[]⟩,⟨(some 36),(.bi .sub (.t 35) (.c (.i .i64 1))),none,[]⟩,⟨(some 9),(.mv (.t 36)),none,[]⟩])))))))
 (.reg [⟨(some 15),(.mv (.t 8)),none,[]⟩,⟨(some 16),(.bi .add (.t 15) (.c (.i .i64 1))),none,[]⟩,⟨(some 8),(.mv (.t 16)),none,[]⟩])))))) }
end Go.Ev.Q
