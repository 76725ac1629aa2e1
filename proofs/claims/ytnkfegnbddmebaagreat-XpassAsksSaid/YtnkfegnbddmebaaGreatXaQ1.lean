/-
  Tables of the evaluator: functions of the program, as it reckons them (part 1). Conditions: none.
-/
import Derived.Test.YtnkfegnbddmebaaGreatXaEvA
set_option maxRecDepth 1000000
namespace Go.Ev.Q
open Go Go.Ev
noncomputable def f50 : AFn := { np := 1, nt := 10, res := [.t 2], body :=
 (.seq (.reg [⟨(some 2),(.mv (.c (.i .i64 0))),none,[]⟩])
 (.seq (.seq (.reg [⟨(some 3),(.mv (.t 0)),none,[]⟩,⟨(some 4),(.eq false .ptr (.t 3) (.c .np)),none,[]⟩])
 (.cond (.t 4) (.seq (.reg [⟨(some 2),(.mv (.c (.i .i64 0))),none,[]⟩])
 .ret) .skip))
 (.seq (.reg [⟨(some 5),(.mv (.t 0)),none,[]⟩,⟨(some 6),(.nc (.t 5)),none,[]⟩,⟨(some 7),(.fa (.t 6) 1),none,[]⟩,⟨(some 8),(.ld (.t 7)),none,[]⟩,⟨(some 9),(.call 95 [(.t 8)]),none,[]⟩,⟨(some 2),(.mv (.t 9)),none,[]⟩])
 .ret))) }
noncomputable def f51 : AFn := { np := 2, nt := 24, res := [.t 4], body :=
 (.seq (.reg [⟨(some 4),(.mv (.c .nsl)),none,[]⟩])
 (.seq (.reg [⟨(some 7),(.mv (.t 0)),none,[]⟩,⟨(some 8),(.mks 1 1 [(.i .u8 0)] (.t 7) (.t 7)),none,[]⟩,⟨(some 5),(.mv (.t 8)),none,[]⟩])
 (.seq (.seq (.reg [⟨(some 6),(.mv (.c (.i .i64 0))),none,[]⟩])
 (.blk 0 (.loop (.seq (.seq (.reg [⟨(some 9),(.mv (.t 6)),none,[]⟩,⟨(some 10),(.mv (.t 0)),none,[]⟩,⟨(some 11),(.bi .lss (.t 9) (.t 10)),none,[]⟩])
 (.cond (.t 11) .skip (.exit 0)))
 (.seq (.blk 1 (.reg [⟨(some 14),(.mv (.t 5)),none,[]⟩,⟨(some 15),(.mv (.t 6)),none,[]⟩,⟨(some 16),(.mv (.t 1)),none,[]⟩,⟨(some 17),(.cvi .u8 (.t 16)),none,[]⟩,⟨(some 18),(.mv (.t 6)),none,[]⟩,⟨(some 19),(.cvi .u8 (.t 18)),none,[]⟩,⟨(some 20),(.bi .mul (.t 19) (.c (.i .u8 7))),none,[]⟩,⟨(some 21),(.bi .add (.t 17) (.t 20)),none,[]⟩,⟨(some 22),(.ias 1 (.t 14) (.t 15)),none,[]⟩,⟨none,(.st (.t 22) (.t 21) 1),none,[]⟩]))
 (.reg [⟨(some 12),(.mv (.t 6)),none,[]⟩,⟨(some 13),(.bi .add (.t 12) (.c (.i .i64 1))),none,[]⟩,⟨(some 6),(.mv (.t 13)),none,[]⟩]))))))
 (.seq (.reg [⟨(some 23),(.mv (.t 5)),none,[]⟩,⟨(some 4),(.mv (.t 23)),none,[]⟩])
 .ret)))) }
noncomputable def f52 : AFn := { np := 2, nt := 42, res := [.t 4], body :=
 (.seq (.reg [⟨(some 4),(.mv (.c (.i .i64 0))),none,[]⟩])
 (.seq (.reg [⟨(some 5),(.mv (.c (.i .i64 0))),none,[]⟩])
 (.seq (.seq (.reg [⟨(some 6),(.mv (.c (.i .i64 0))),none,[]⟩])
 (.blk 0 (.loop (.seq (.seq (.reg [⟨(some 7),(.mv (.t 6)),none,[]⟩,⟨(some 8),(.mv (.t 0)),none,[]⟩,⟨(some 9),(.mv (.t 1)),none,[]⟩,⟨(some 10),(.nc (.t 8)),none,[]⟩,⟨(some 11),(.fa (.t 10) 3),none,[]⟩,⟨(some 12),(.iaa 2 1 (.t 11) (.t 9)),none,[]⟩,⟨(some 13),(.ld (.t 12)),none,[]⟩,⟨(some 14),(.lns false (.t 13)),none,[]⟩,⟨(some 15),(.bi .lss (.t 7) (.t 14)),none,[]⟩])
 (.cond (.t 15) .skip (.exit 0)))
 (.seq (.blk 1 (.seq (.drw [⟨(some 18),(.mv (.t 0)),none,[]⟩,⟨(some 19),(.mv (.t 1)),none,[]⟩,⟨(some 20),(.nc (.t 18)),none,[]⟩,⟨(some 21),(.fa (.t 20) 0),none,[]⟩,⟨(some 22),(.iaa 2 1 (.t 21) (.t 19)),none,[]⟩,⟨(some 23),(.ld (.t 22)),none,[]⟩,⟨(some 24),(.nc (.t 23)),none,[]⟩,⟨(some 25),(.fa (.t 24) 0),none,[]⟩,⟨(some 26),(.ld (.t 25)),none,[]⟩,⟨(some 27),(.mv (.t 0)),none,[]⟩,⟨(some 28),(.mv (.t 1)),none,[]⟩,⟨(some 29),(.nc (.t 27)),none,[]⟩,⟨(some 30),(.fa (.t 29) 3),none,[]⟩,⟨(some 31),(.iaa 2 1 (.t 30) (.t 28)),none,[]⟩,⟨(some 32),(.ld (.t 31)),none,[]⟩,⟨(some 33),(.mv (.t 6)),none,[]⟩,⟨(some 34),(.ias 3 (.t 32) (.t 33)),none,[]⟩,⟨(some 35),(.fa (.t 34) 0),none,[]⟩,⟨(some 36),(.ld (.t 35)),none,[]⟩,⟨(some 37),(.call 10 [(.t 26),(.t 36)]),none,[]⟩,⟨(some 38),(.bi .eql (.t 37) (.c (.i .i64 1))),none,[]⟩])
 (.cond (.t 38) (.reg [⟨(some 39),(.mv (.t 5)),none,[]⟩,⟨(some 40),(.bi .add (.t 39) (.c (.i .i64 1))),none,[]⟩,⟨(some 5),(.mv (.t 40)),none,[]⟩]) .skip)))
 (.reg [⟨(some 16),(.mv (.t 6)),none,[]⟩,⟨(some 17),(.bi .add (.t 16) (.c (.i .i64 1))),none,[]⟩,⟨(some 6),(.mv (.t 17)),none,[]⟩]))))))
 (.seq (.reg [⟨(some 41),(.mv (.t 5)),none,[]⟩,⟨(some 4),(.mv (.t 41)),none,[]⟩])
 .ret)))) }
noncomputable def f53 : AFn := { np := 4, nt := 69, res := [.t 8], body :=
 (.seq (.reg [⟨(some 8),(.mv (.c (.b false))),none,[]⟩])
 (.seq (.seq (.reg [⟨(some 9),(.mv (.c (.i .i64 0))),none,[]⟩])
 (.blk 0 (.loop (.seq (.seq (.reg [⟨(some 12),(.mv (.t 9)),none,[]⟩,⟨(some 13),(.mv (.t 2)),none,[]⟩,⟨(some 14),(.bi .lss (.t 12) (.t 13)),none,[]⟩])
 (.cond (.t 14) .skip (.exit 0)))
 (.seq (.blk 1 (.seq (.reg [⟨(some 18),(.mv (.t 0)),none,[]⟩,⟨(some 19),(.mv (.t 1)),none,[]⟩,⟨(some 20),(.nc (.t 18)),none,[]⟩,⟨(some 21),(.fa (.t 20) 0),none,[]⟩,⟨(some 22),(.iaa 2 1 (.t 21) (.t 19)),none,[]⟩,⟨(some 23),(.ld (.t 22)),none,[]⟩,⟨(some 24),(.nc (.t 23)),none,[]⟩,⟨(some 25),(.fa (.t 24) 0),none,[]⟩,⟨(some 26),(.ld (.t 25)),none,[]⟩,⟨(some 27),(.call 19 [(.t 26)]),none,[]⟩,⟨(some 17),(.mv (.t 27)),none,[]⟩,⟨(some 28),(.ex (.t 17) 0),none,[]⟩,⟨(some 29),(.ex (.t 17) 1),none,[]⟩,⟨(some 10),(.al [(.i .i64 0),(.i .i64 0),(.i .i64 0),(.i .i64 0),(.i .u64 0),(.i .i64 0),(.i .i64 0),(.i .i64 0),(.i .i64 0),.nsl]),none,[]⟩,⟨none,(.st (.t 10) (.t 28) 10),none,[]⟩,⟨(some 11),(.mv (.t 29)),none,[]⟩])
 (.seq (.seq (.reg [⟨(some 30),(.mv (.t 11)),none,[]⟩,⟨(some 31),(.un .not (.t 30)),none,[]⟩])
 (.cond (.t 31) (.seq (.reg [⟨(some 8),(.mv (.c (.b true))),none,[]⟩])
 .ret) .skip))
 (.seq (.seq (.reg [⟨(some 32),(.ldn (.t 10) 10),none,[]⟩,⟨(some 33),(.call 17 [(.t 32)]),none,[]⟩,⟨(some 34),(.bi .neq (.t 33) (.c (.i .i64 0))),none,[]⟩,⟨(some 35),(.mv (.t 34)),none,[]⟩,⟨(some 36),(.fa (.t 10) 1),(some (35,false)),[]⟩,⟨(some 37),(.ld (.t 36)),(some (35,false)),[]⟩,⟨(some 38),(.mv (.t 1)),(some (35,false)),[]⟩,⟨(some 39),(.bi .neq (.t 37) (.t 38)),(some (35,false)),[]⟩,⟨(some 40),(.pk (.t 35) (.c (.b true)) (.t 39)),none,[]⟩,⟨(some 41),(.mv (.t 40)),none,[]⟩,⟨(some 42),(.fa (.t 10) 2),(some (41,false)),[]⟩,⟨(some 43),(.ld (.t 42)),(some (41,false)),[]⟩,⟨(some 44),(.mv (.t 1)),(some (41,false)),[]⟩,⟨(some 45),(.bi .sub (.c (.i .i64 1)) (.t 44)),(some (41,false)),[]⟩,⟨(some 46),(.bi .neq (.t 43) (.t 45)),(some (41,false)),[]⟩,⟨(some 47),(.pk (.t 41) (.c (.b true)) (.t 46)),none,[]⟩,⟨(some 48),(.mv (.t 47)),none,[]⟩,⟨(some 49),(.fa (.t 10) 0),(some (48,false)),[]⟩,⟨(some 50),(.ld (.t 49)),(some (48,false)),[]⟩,⟨(some 51),(.bi .eql (.t 50) (.c (.i .i64 1))),(some (48,false)),[]⟩,⟨(some 52),(.mv (.t 51)),(some (48,false)),[]⟩,⟨(some 53),(.fa (.t 10) 6),(some (52,true)),[]⟩,⟨(some 54),(.ld (.t 53)),(some (52,true)),[]⟩,⟨(some 55),(.mv (.t 3)),(some (52,true)),[]⟩,⟨(some 56),(.bi .gtr (.t 54) (.t 55)),(some (52,true)),[]⟩,⟨(some 57),(.pk (.t 52) (.t 56) (.c (.b false))),(some (48,false)),[]⟩,⟨(some 58),(.pk (.t 48) (.c (.b true)) (.t 57)),none,[]⟩])
 (.cond (.t 58) (.seq (.reg [⟨(some 8),(.mv (.c (.b false))),none,[]⟩])
 .ret) .skip))
 (.drw [⟨(some 59),(.mv (.t 0)),none,[]⟩,⟨(some 60),(.mv (.t 0)),none,[]⟩,⟨(some 61),(.nc (.t 60)),none,[]⟩,⟨(some 62),(.fa (.t 61) 2),none,[]⟩,⟨(some 63),(.ld (.t 62)),none,[]⟩,⟨(some 64),(.ldn (.t 10) 10),none,[]⟩,⟨(some 65),(.bs 1 [(.i .i64 0),(.i .i64 0),(.i .i64 0),(.i .i64 0),(.i .u64 0),(.i .i64 0),(.i .i64 0),(.i .i64 0),(.i .i64 0),.nsl] [(0,10,(.t 64))]),none,[]⟩,⟨(some 66),(.ap 10 (.t 63) (.t 65)),none,[]⟩,⟨(some 67),(.nc (.t 59)),none,[]⟩,⟨(some 68),(.fa (.t 67) 2),none,[]⟩,⟨none,(.st (.t 68) (.t 66) 1),none,[]⟩])))))
 (.reg [⟨(some 15),(.mv (.t 9)),none,[]⟩,⟨(some 16),(.bi .add (.t 15) (.c (.i .i64 1))),none,[]⟩,⟨(some 9),(.mv (.t 16)),none,[]⟩]))))))
 (.seq (.reg [⟨(some 8),(.mv (.c (.b true))),none,[]⟩])
 .ret))) }
noncomputable def f54 : AFn := { np := 1, nt := 22, res := [], body :=
 (.seq (.reg [⟨(some 2),(.mv (.t 0)),none,[]⟩,⟨(some 3),(.mv (.t 0)),none,[]⟩,⟨(some 4),(.nc (.t 3)),none,[]⟩,⟨(some 5),(.fa (.t 4) 16),none,[]⟩,⟨(some 6),(.ld (.t 5)),none,[]⟩,⟨(some 7),(.call 96 [(.t 6),(.c (.i .i64 1))]),none,[]⟩,⟨(some 8),(.nc (.t 2)),none,[]⟩,⟨(some 9),(.fa (.t 8) 16),none,[]⟩,⟨none,(.st (.t 9) (.t 7) 1),none,[]⟩])
 (.seq (.reg [⟨(some 10),(.mv (.t 0)),none,[]⟩,⟨(some 11),(.nc (.t 10)),none,[]⟩,⟨(some 12),(.fa (.t 11) 45),none,[]⟩,⟨none,(.st (.t 12) (.c (.i .i64 0)) 1),none,[]⟩])
 (.seq (.reg [⟨(some 13),(.mv (.t 0)),none,[]⟩,⟨(some 14),(.call 97 [(.t 13)]),none,[]⟩])
 (.seq (.reg [⟨(some 15),(.mv (.t 0)),none,[]⟩,⟨(some 16),(.call 98 [(.t 15)]),none,[]⟩])
 (.reg [⟨(some 17),(.mv (.t 0)),none,[]⟩,⟨(some 18),(.nc (.t 17)),none,[]⟩,⟨(some 19),(.fa (.t 18) 15),none,[]⟩,⟨(some 20),(.ld (.t 19)),none,[]⟩,⟨(some 21),(.inv (.t 20) [(27,54,[0]),(91,296,[]),(266,54,[0]),(270,54,[0]),(307,337,[]),(313,407,[])] []),none,[]⟩]))))) }
noncomputable def f55 : AFn := { np := 2, nt := 82, res := [.t 4], body :=
 (.seq (.reg [⟨(some 4),(.mv (.c (.b false))),none,[]⟩])
 (.seq (.seq (.reg [⟨(some 5),(.mv (.c (.i .i64 0))),none,[]⟩])
 (.blk 0 (.loop (.seq (.seq (.reg [⟨(some 9),(.mv (.t 5)),none,[]⟩,⟨(some 10),(.bi .lss (.t 9) (.c (.i .i64 1000))),none,[]⟩])
 (.cond (.t 10) .skip (.exit 0)))
 (.seq (.blk 1 (.seq (.reg [⟨(some 14),(.mv (.t 0)),none,[]⟩,⟨(some 15),(.mv (.t 1)),none,[]⟩,⟨(some 16),(.nc (.t 14)),none,[]⟩,⟨(some 17),(.fa (.t 16) 0),none,[]⟩,⟨(some 18),(.iaa 2 1 (.t 17) (.t 15)),none,[]⟩,⟨(some 19),(.ld (.t 18)),none,[]⟩,⟨(some 20),(.nc (.t 19)),none,[]⟩,⟨(some 21),(.fa (.t 20) 0),none,[]⟩,⟨(some 22),(.ld (.t 21)),none,[]⟩,⟨(some 23),(.call 99 [(.t 22)]),none,[]⟩,⟨(some 13),(.mv (.t 23)),none,[]⟩,⟨(some 24),(.ex (.t 13) 0),none,[]⟩,⟨(some 25),(.ex (.t 13) 1),none,[]⟩,⟨(some 6),(.al [(.i .i64 0),(.i .u64 0),.nsl]),none,[]⟩,⟨none,(.st (.t 6) (.t 24) 3),none,[]⟩,⟨(some 7),(.mv (.t 25)),none,[]⟩])
 (.seq (.seq (.reg [⟨(some 26),(.mv (.t 7)),none,[]⟩,⟨(some 27),(.un .not (.t 26)),none,[]⟩])
 (.cond (.t 27) (.seq (.reg [⟨(some 4),(.mv (.c (.b true))),none,[]⟩])
 .ret) .skip))
 (.seq (.reg [⟨(some 28),(.mv (.t 0)),none,[]⟩,⟨(some 29),(.mv (.t 1)),none,[]⟩,⟨(some 30),(.bi .sub (.c (.i .i64 1)) (.t 29)),none,[]⟩,⟨(some 31),(.nc (.t 28)),none,[]⟩,⟨(some 32),(.fa (.t 31) 3),none,[]⟩,⟨(some 33),(.iaa 2 1 (.t 32) (.t 30)),none,[]⟩,⟨(some 34),(.ld (.t 33)),none,[]⟩,⟨(some 8),(.mv (.t 34)),none,[]⟩])
 (.seq (.seq (.drw [⟨(some 35),(.fa (.t 6) 0),none,[]⟩,⟨(some 36),(.ld (.t 35)),none,[]⟩,⟨(some 37),(.mv (.t 1)),none,[]⟩,⟨(some 38),(.bi .sub (.c (.i .i64 1)) (.t 37)),none,[]⟩,⟨(some 39),(.bi .neq (.t 36) (.t 38)),none,[]⟩,⟨(some 40),(.mv (.t 39)),none,[]⟩,⟨(some 41),(.fa (.t 6) 1),(some (40,false)),[]⟩,⟨(some 42),(.ld (.t 41)),(some (40,false)),[]⟩,⟨(some 43),(.bi .lss (.t 42) (.c (.i .u64 1))),(some (40,false)),[]⟩,⟨(some 44),(.pk (.t 40) (.c (.b true)) (.t 43)),none,[]⟩,⟨(some 45),(.mv (.t 44)),none,[]⟩,⟨(some 46),(.fa (.t 6) 1),(some (45,false)),[]⟩,⟨(some 47),(.ld (.t 46)),(some (45,false)),[]⟩,⟨(some 48),(.mv (.t 8)),(some (45,false)),[]⟩,⟨(some 49),(.lns false (.t 48)),(some (45,false)),[]⟩,⟨(some 50),(.cvi .u64 (.t 49)),(some (45,false)),[]⟩,⟨(some 51),(.bi .gtr (.t 47) (.t 50)),(some (45,false)),[]⟩,⟨(some 52),(.pk (.t 45) (.c (.b true)) (.t 51)),none,[]⟩,⟨(some 53),(.mv (.t 52)),none,[]⟩,⟨(some 54),(.mv (.t 8)),(some (53,false)),[]⟩,⟨(some 55),(.fa (.t 6) 1),(some (53,false)),[]⟩,⟨(some 56),(.ld (.t 55)),(some (53,false)),[]⟩,⟨(some 57),(.bi .sub (.t 56) (.c (.i .u64 1))),(some (53,false)),[]⟩,⟨(some 58),(.ias 3 (.t 54) (.t 57)),(some (53,false)),[]⟩,⟨(some 59),(.fa (.t 58) 2),(some (53,false)),[]⟩,⟨(some 60),(.ld (.t 59)),(some (53,false)),[]⟩,⟨(some 61),(.pk (.t 53) (.c (.b true)) (.t 60)),none,[]⟩,⟨(some 62),(.mv (.t 61)),none,[]⟩,⟨(some 63),(.fa (.t 6) 2),(some (62,false)),[]⟩,⟨(some 64),(.ld (.t 63)),(some (62,false)),[]⟩,⟨(some 65),(.cbs (.t 64)),(some (62,false)),[]⟩,⟨(some 66),(.mv (.t 8)),(some (62,false)),[]⟩,⟨(some 67),(.fa (.t 6) 1),(some (62,false)),[]⟩,⟨(some 68),(.ld (.t 67)),(some (62,false)),[]⟩,⟨(some 69),(.bi .sub (.t 68) (.c (.i .u64 1))),(some (62,false)),[]⟩,⟨(some 70),(.ias 3 (.t 66) (.t 69)),(some (62,false)),[]⟩,⟨(some 71),(.fa (.t 70) 1),(some (62,false)),[]⟩,⟨(some 72),(.ld (.t 71)),(some (62,false)),[]⟩,⟨(some 73),(.cbs (.t 72)),(some (62,false)),[]⟩,⟨(some 74),(.sb .neq (.t 65) (.t 73)),(some (62,false)),[]⟩,⟨(some 75),(.pk (.t 62) (.c (.b true)) (.t 74)),none,[]⟩])
 (.cond (.t 75) (.seq (.reg [⟨(some 4),(.mv (.c (.b false))),none,[]⟩])
 .ret) .skip))
 (.reg [⟨(some 76),(.mv (.t 8)),none,[]⟩,⟨(some 77),(.fa (.t 6) 1),none,[]⟩,⟨(some 78),(.ld (.t 77)),none,[]⟩,⟨(some 79),(.bi .sub (.t 78) (.c (.i .u64 1))),none,[]⟩,⟨(some 80),(.ias 3 (.t 76) (.t 79)),none,[]⟩,⟨(some 81),(.fa (.t 80) 2),none,[]⟩,⟨none,(.st (.t 81) (.c (.b true)) 1),none,[]⟩]))))))
 (.reg [⟨(some 11),(.mv (.t 5)),none,[]⟩,⟨(some 12),(.bi .add (.t 11) (.c (.i .i64 1))),none,[]⟩,⟨(some 5),(.mv (.t 12)),none,[]⟩]))))))
 (.seq (.reg [⟨(some 4),(.mv (.c (.b false))),none,[]⟩])
 .ret))) }
noncomputable def f57 : AFn := { np := 1, nt := 89, res := [.t 2], body :=
 (.seq (.reg [⟨(some 1),(.bx (.t 0)),none,[]⟩,⟨(some 2),(.mv (.c (.i .i64 0))),none,[]⟩])
 (.seq (.reg [⟨(some 3),(.mv (.c (.i .i64 0))),none,[]⟩])
 (.seq (.seq (.reg [⟨(some 5),(.fa (.t 1) 0),none,[]⟩,⟨(some 6),(.ld (.t 5)),none,[]⟩,⟨(some 7),(.bi .eql (.t 6) (.c (.i .i64 1))),none,[]⟩])
 (.cond (.t 7) (.reg [⟨(some 8),(.fa (.t 1) 6),none,[]⟩,⟨(some 9),(.ld (.t 8)),none,[]⟩,⟨(some 3),(.mv (.t 9)),none,[]⟩]) .skip))
 (.seq (.reg [⟨(some 10),(.fa (.t 1) 0),none,[]⟩,⟨(some 11),(.ld (.t 10)),none,[]⟩,⟨(some 12),(.bi .geq (.t 11) (.c (.i .i64 1))),none,[]⟩,⟨(some 13),(.mv (.t 12)),none,[]⟩,⟨(some 14),(.fa (.t 1) 0),(some (13,true)),[]⟩,⟨(some 15),(.ld (.t 14)),(some (13,true)),[]⟩,⟨(some 16),(.bi .leq (.t 15) (.c (.i .i64 12))),(some (13,true)),[]⟩,⟨(some 17),(.pk (.t 13) (.t 16) (.c (.b false))),none,[]⟩,⟨(some 18),(.mv (.t 17)),none,[]⟩,⟨(some 19),(.fa (.t 1) 1),(some (18,true)),[]⟩,⟨(some 20),(.ld (.t 19)),(some (18,true)),[]⟩,⟨(some 21),(.call 100 [(.t 20),(.c (.i .i64 7))]),(some (18,true)),[]⟩,⟨(some 22),(.pk (.t 18) (.t 21) (.c (.b false))),none,[]⟩,⟨(some 23),(.mv (.t 22)),none,[]⟩,⟨(some 24),(.fa (.t 1) 2),(some (23,true)),[]⟩,⟨(some 25),(.ld (.t 24)),(some (23,true)),[]⟩,⟨(some 26),(.call 100 [(.t 25),(.c (.i .i64 7))]),(some (23,true)),[]⟩,⟨(some 27),(.pk (.t 23) (.t 26) (.c (.b false))),none,[]⟩,⟨(some 28),(.mv (.t 27)),none,[]⟩,⟨(some 29),(.fa (.t 1) 3),(some (28,true)),[]⟩,⟨(some 30),(.ld (.t 29)),(some (28,true)),[]⟩,⟨(some 31),(.call 100 [(.t 30),(.c (.i .i64 7))]),(some (28,true)),[]⟩,⟨(some 32),(.pk (.t 28) (.t 31) (.c (.b false))),none,[]⟩,⟨(some 33),(.mv (.t 32)),none,[]⟩,⟨(some 34),(.fa (.t 1) 4),(some (33,true)),[]⟩,⟨(some 35),(.ld (.t 34)),(some (33,true)),[]⟩,⟨(some 36),(.bi .leq (.t 35) (.c (.i .u64 1152921504606846976))),(some (33,true)),[]⟩,⟨(some 37),(.pk (.t 33) (.t 36) (.c (.b false))),none,[]⟩,⟨(some 4),(.mv (.t 37)),none,[]⟩])
 (.seq (.reg [⟨(some 38),(.mv (.t 4)),none,[]⟩,⟨(some 39),(.mv (.t 38)),none,[]⟩,⟨(some 40),(.fa (.t 1) 5),(some (39,true)),[]⟩,⟨(some 41),(.ld (.t 40)),(some (39,true)),[]⟩,⟨(some 42),(.call 100 [(.t 41),(.c (.i .i64 1073741824))]),(some (39,true)),[]⟩,⟨(some 43),(.pk (.t 39) (.t 42) (.c (.b false))),none,[]⟩,⟨(some 44),(.mv (.t 43)),none,[]⟩,⟨(some 45),(.fa (.t 1) 7),(some (44,true)),[]⟩,⟨(some 46),(.ld (.t 45)),(some (44,true)),[]⟩,⟨(some 47),(.call 100 [(.t 46),(.c (.i .i64 1073741824))]),(some (44,true)),[]⟩,⟨(some 48),(.pk (.t 44) (.t 47) (.c (.b false))),none,[]⟩,⟨(some 49),(.mv (.t 48)),none,[]⟩,⟨(some 50),(.fa (.t 1) 6),(some (49,true)),[]⟩,⟨(some 51),(.ld (.t 50)),(some (49,true)),[]⟩,⟨(some 52),(.call 100 [(.t 51),(.c (.i .i64 1500))]),(some (49,true)),[]⟩,⟨(some 53),(.pk (.t 49) (.t 52) (.c (.b false))),none,[]⟩,⟨(some 54),(.mv (.t 53)),none,[]⟩,⟨(some 55),(.fa (.t 1) 8),(some (54,true)),[]⟩,⟨(some 56),(.ld (.t 55)),(some (54,true)),[]⟩,⟨(some 57),(.call 100 [(.t 56),(.c (.i .i64 1073741824))]),(some (54,true)),[]⟩,⟨(some 58),(.pk (.t 54) (.t 57) (.c (.b false))),none,[]⟩,⟨(some 4),(.mv (.t 58)),none,[]⟩])
 (.seq (.reg [⟨(some 59),(.mv (.t 4)),none,[]⟩,⟨(some 60),(.mv (.t 59)),none,[]⟩,⟨(some 61),(.fa (.t 1) 0),(some (60,true)),[]⟩,⟨(some 62),(.ld (.t 61)),(some (60,true)),[]⟩,⟨(some 63),(.bi .neq (.t 62) (.c (.i .i64 1))),(some (60,true)),[]⟩,⟨(some 64),(.mv (.t 63)),(some (60,true)),[]⟩,⟨(some 65),(.fa (.t 1) 0),(some (64,true)),[]⟩,⟨(some 66),(.ld (.t 65)),(some (64,true)),[]⟩,⟨(some 67),(.bi .neq (.t 66) (.c (.i .i64 7))),(some (64,true)),[]⟩,⟨(some 68),(.pk (.t 64) (.t 67) (.c (.b false))),(some (60,true)),[]⟩,⟨(some 69),(.mv (.t 68)),(some (60,true)),[]⟩,⟨(some 70),(.fa (.t 1) 5),(some (69,false)),[]⟩,⟨(some 71),(.ld (.t 70)),(some (69,false)),[]⟩,⟨(some 72),(.fa (.t 1) 6),(some (69,false)),[]⟩,⟨(some 73),(.ld (.t 72)),(some (69,false)),[]⟩,⟨(some 74),(.bi .add (.t 71) (.t 73)),(some (69,false)),[]⟩,⟨(some 75),(.fa (.t 1) 7),(some (69,false)),[]⟩,⟨(some 76),(.ld (.t 75)),(some (69,false)),[]⟩,⟨(some 77),(.bi .leq (.t 74) (.t 76)),(some (69,false)),[]⟩,⟨(some 78),(.pk (.t 69) (.c (.b true)) (.t 77)),(some (60,true)),[]⟩,⟨(some 79),(.pk (.t 60) (.t 78) (.c (.b false))),none,[]⟩,⟨(some 4),(.mv (.t 79)),none,[]⟩])
 (.seq (.seq (.reg [⟨(some 80),(.mv (.t 4)),none,[]⟩,⟨(some 81),(.un .not (.t 80)),none,[]⟩,⟨(some 82),(.mv (.t 81)),none,[]⟩,⟨(some 83),(.fa (.t 1) 9),(some (82,false)),[]⟩,⟨(some 84),(.ld (.t 83)),(some (82,false)),[]⟩,⟨(some 85),(.lns false (.t 84)),(some (82,false)),[]⟩,⟨(some 86),(.mv (.t 3)),(some (82,false)),[]⟩,⟨(some 87),(.bi .neq (.t 85) (.t 86)),(some (82,false)),[]⟩,⟨(some 88),(.pk (.t 82) (.c (.b true)) (.t 87)),none,[]⟩])
 (.cond (.t 88) (.seq (.reg [⟨(some 2),(.mv (.c (.i .i64 1))),none,[]⟩])
 .ret) .skip))
 (.seq (.reg [⟨(some 2),(.mv (.c (.i .i64 0))),none,[]⟩])
 .ret)))))))) }
noncomputable def f58 : AFn := { np := 2, nt := 21, res := [], body :=
 (.seq (.reg [⟨(some 3),(.bx (.t 1)),none,[]⟩])
 (.seq (.reg [⟨(some 7),(.mv (.t 0)),none,[]⟩,⟨(some 8),(.ldn (.t 3) 10),none,[]⟩,⟨(some 9),(.call 101 [(.t 7),(.t 8)]),none,[]⟩,⟨(some 6),(.mv (.t 9)),none,[]⟩,⟨(some 10),(.ex (.t 6) 0),none,[]⟩,⟨(some 11),(.ex (.t 6) 1),none,[]⟩,⟨(some 4),(.mv (.t 10)),none,[]⟩,⟨(some 5),(.mv (.t 11)),none,[]⟩])
 (.seq (.reg [⟨(some 12),(.mv (.t 4)),none,[]⟩,⟨(some 13),(.eq true .ptr (.t 12) (.c .np)),none,[]⟩])
 (.cond (.t 13) (.drw [⟨(some 14),(.mv (.t 0)),none,[]⟩,⟨(some 15),(.nc (.t 14)),none,[]⟩,⟨(some 16),(.fa (.t 15) 15),none,[]⟩,⟨(some 17),(.ld (.t 16)),none,[]⟩,⟨(some 18),(.mv (.t 4)),none,[]⟩,⟨(some 19),(.ldn (.t 3) 10),none,[]⟩,⟨(some 20),(.inv (.t 17) [(91,289,[]),(307,330,[]),(313,400,[])] [(.t 18),(.t 19)]),none,[]⟩]) .skip)))) }
noncomputable def f59 : AFn := { np := 2, nt := 104, res := [], body :=
 (.seq (.reg [⟨(some 3),(.bx (.t 1)),none,[]⟩])
 (.seq (.seq (.reg [⟨(some 9),(.fa (.t 3) 0),none,[]⟩,⟨(some 10),(.ld (.t 9)),none,[]⟩,⟨(some 11),(.bi .eql (.t 10) (.c (.i .i64 4))),none,[]⟩,⟨(some 12),(.mv (.t 11)),none,[]⟩,⟨(some 13),(.fa (.t 3) 8),(some (12,true)),[]⟩,⟨(some 14),(.ld (.t 13)),(some (12,true)),[]⟩,⟨(some 15),(.bi .eql (.t 14) (.c (.i .i64 0))),(some (12,true)),[]⟩,⟨(some 16),(.pk (.t 12) (.t 15) (.c (.b false))),none,[]⟩])
 (.cond (.t 16) (.seq (.seq (.reg [⟨(some 17),(.mv (.t 0)),none,[]⟩,⟨(some 18),(.fa (.t 3) 4),none,[]⟩,⟨(some 19),(.ld (.t 18)),none,[]⟩,⟨(some 20),(.call 47 [(.t 17),(.t 19)]),none,[]⟩,⟨(some 4),(.mv (.t 20)),none,[]⟩])
 (.seq (.drw [⟨(some 21),(.mv (.t 4)),none,[]⟩,⟨(some 22),(.eq true .ptr (.t 21) (.c .np)),none,[]⟩,⟨(some 23),(.mv (.t 22)),none,[]⟩,⟨(some 24),(.mv (.t 4)),(some (23,true)),[]⟩,⟨(some 25),(.nc (.t 24)),(some (23,true)),[]⟩,⟨(some 26),(.fa (.t 25) 1),(some (23,true)),[]⟩,⟨(some 27),(.ld (.t 26)),(some (23,true)),[]⟩,⟨(some 28),(.fa (.t 3) 1),(some (23,true)),[]⟩,⟨(some 29),(.ld (.t 28)),(some (23,true)),[]⟩,⟨(some 30),(.bi .eql (.t 27) (.t 29)),(some (23,true)),[]⟩,⟨(some 31),(.pk (.t 23) (.t 30) (.c (.b false))),none,[]⟩])
 (.cond (.t 31) (.drw [⟨(some 32),(.mv (.t 4)),none,[]⟩,⟨(some 33),(.nc (.t 32)),none,[]⟩,⟨(some 34),(.fa (.t 33) 13),none,[]⟩,⟨(some 35),(.ld (.t 34)),none,[]⟩,⟨(some 36),(.mv (.t 0)),none,[]⟩,⟨(some 37),(.nc (.t 36)),none,[]⟩,⟨(some 38),(.fa (.t 37) 16),none,[]⟩,⟨(some 39),(.ld (.t 38)),none,[]⟩,⟨(some 40),(.call 102 [(.t 35),(.t 39)]),none,[]⟩]) .skip)))
 .ret) .skip))
 (.seq (.drw [⟨(some 41),(.mv (.t 0)),none,[]⟩,⟨(some 42),(.nc (.t 41)),none,[]⟩,⟨(some 43),(.fa (.t 42) 21),none,[]⟩,⟨(some 44),(.ld (.t 43)),none,[]⟩,⟨(some 45),(.ldn (.t 3) 10),none,[]⟩,⟨(some 46),(.call 103 [(.t 45)]),none,[(44,(.ld (.t 43)),none)]⟩,⟨(some 47),(.lk (.st [(0,1,false,.int),(1,1,false,.int)]) .np (.t 44) (.t 46) false),none,[]⟩,⟨(some 48),(.eq true .ptr (.t 47) (.c .np)),none,[]⟩,⟨(some 5),(.mv (.t 48)),none,[]⟩])
 (.seq (.reg [⟨(some 49),(.fa (.t 3) 8),none,[]⟩,⟨(some 50),(.ld (.t 49)),none,[]⟩,⟨(some 51),(.bi .geq (.t 50) (.c (.i .i64 2))),none,[]⟩,⟨(some 6),(.mv (.t 51)),none,[]⟩])
 (.seq (.reg [⟨(some 53),(.mv (.t 0)),none,[]⟩,⟨(some 54),(.ldn (.t 3) 10),none,[]⟩,⟨(some 55),(.call 101 [(.t 53),(.t 54)]),none,[]⟩,⟨(some 52),(.mv (.t 55)),none,[]⟩,⟨(some 56),(.ex (.t 52) 0),none,[]⟩,⟨(some 57),(.ex (.t 52) 1),none,[]⟩,⟨(some 7),(.mv (.t 56)),none,[]⟩,⟨(some 8),(.mv (.t 57)),none,[]⟩])
 (.seq (.seq (.reg [⟨(some 58),(.mv (.t 6)),none,[]⟩,⟨(some 59),(.mv (.t 58)),none,[]⟩,⟨(some 60),(.mv (.t 7)),(some (59,true)),[]⟩,⟨(some 61),(.eq true .ptr (.t 60) (.c .np)),(some (59,true)),[]⟩,⟨(some 62),(.mv (.t 61)),(some (59,true)),[]⟩,⟨(some 63),(.mv (.t 8)),(some (62,false)),[]⟩,⟨(some 64),(.bi .eql (.t 63) (.c (.i .i64 4))),(some (62,false)),[]⟩,⟨(some 65),(.pk (.t 62) (.c (.b true)) (.t 64)),(some (59,true)),[]⟩,⟨(some 66),(.pk (.t 59) (.t 65) (.c (.b false))),none,[]⟩])
 (.cond (.t 66) (.reg [⟨(some 67),(.mv (.t 0)),none,[]⟩,⟨(some 68),(.mv (.t 0)),none,[]⟩,⟨(some 69),(.fa (.t 3) 1),none,[]⟩,⟨(some 70),(.ld (.t 69)),none,[]⟩,⟨(some 71),(.fa (.t 3) 4),none,[]⟩,⟨(some 72),(.ld (.t 71)),none,[]⟩,⟨(some 73),(.call 84 [(.t 68),(.c (.i .i64 4)),(.t 70),(.t 72)]),none,[]⟩,⟨(some 74),(.call 83 [(.t 67),(.t 73)]),none,[]⟩]) .skip))
 (.seq (.reg [⟨(some 75),(.mv (.t 6)),none,[]⟩,⟨(some 76),(.mv (.t 75)),none,[]⟩,⟨(some 77),(.mv (.t 7)),(some (76,true)),[]⟩,⟨(some 78),(.eq true .ptr (.t 77) (.c .np)),(some (76,true)),[]⟩,⟨(some 79),(.pk (.t 76) (.t 78) (.c (.b false))),none,[]⟩,⟨(some 80),(.mv (.t 79)),none,[]⟩,⟨(some 81),(.mv (.t 5)),(some (80,true)),[]⟩,⟨(some 82),(.un .not (.t 81)),(some (80,true)),[]⟩,⟨(some 83),(.pk (.t 80) (.t 82) (.c (.b false))),none,[]⟩])
 (.cond (.t 83) (.seq (.drw [⟨(some 84),(.mv (.t 7)),none,[]⟩,⟨(some 85),(.mv (.t 0)),none,[]⟩,⟨(some 86),(.nc (.t 85)),none,[]⟩,⟨(some 87),(.fa (.t 86) 16),none,[]⟩,⟨(some 88),(.ld (.t 87)),none,[]⟩,⟨(some 89),(.mv (.t 0)),none,[]⟩,⟨(some 90),(.nc (.t 89)),none,[]⟩,⟨(some 91),(.fa (.t 90) 0),none,[]⟩,⟨(some 92),(.fa (.t 91) 10),none,[]⟩,⟨(some 93),(.ld (.t 92)),none,[]⟩,⟨(some 94),(.call 104 [(.t 88),(.t 93)]),none,[]⟩,⟨(some 95),(.nc (.t 84)),none,[]⟩,⟨(some 96),(.fa (.t 95) 4),none,[]⟩,⟨none,(.st (.t 96) (.t 94) 1),none,[]⟩])
 (.reg [⟨(some 97),(.mv (.t 7)),none,[]⟩,⟨(some 98),(.mv (.t 7)),none,[]⟩,⟨(some 99),(.nc (.t 98)),none,[]⟩,⟨(some 100),(.fa (.t 99) 4),none,[]⟩,⟨(some 101),(.ld (.t 100)),none,[]⟩,⟨(some 102),(.nc (.t 97)),none,[]⟩,⟨(some 103),(.fa (.t 102) 5),none,[]⟩,⟨none,(.st (.t 103) (.t 101) 1),none,[]⟩])) .skip)))))))) }
noncomputable def f62 : AFn := { np := 2, nt := 75, res := [], body :=
 (.seq (.reg [⟨(some 3),(.bx (.t 1)),none,[]⟩])
 (.seq (.reg [⟨(some 5),(.mv (.t 0)),none,[]⟩,⟨(some 6),(.fa (.t 3) 4),none,[]⟩,⟨(some 7),(.ld (.t 6)),none,[]⟩,⟨(some 8),(.call 47 [(.t 5),(.t 7)]),none,[]⟩,⟨(some 4),(.mv (.t 8)),none,[]⟩])
 (.blk 0 (.seq (.reg [⟨(some 26),(.mv (.t 4)),none,[]⟩,⟨(some 27),(.eq false .ptr (.t 26) (.c .np)),none,[]⟩,⟨(some 28),(.mv (.t 27)),none,[]⟩,⟨(some 29),(.fa (.t 3) 0),(some (28,true)),[]⟩,⟨(some 30),(.ld (.t 29)),(some (28,true)),[]⟩,⟨(some 31),(.bi .neq (.t 30) (.c (.i .i64 5))),(some (28,true)),[]⟩,⟨(some 32),(.pk (.t 28) (.t 31) (.c (.b false))),none,[]⟩,⟨(some 25),(.mv (.t 32)),none,[]⟩])
 (.cond (.t 25) (.reg [⟨(some 33),(.mv (.t 0)),none,[]⟩,⟨(some 34),(.fa (.t 3) 1),none,[]⟩,⟨(some 35),(.ld (.t 34)),none,[]⟩,⟨(some 36),(.fa (.t 3) 4),none,[]⟩,⟨(some 37),(.ld (.t 36)),none,[]⟩,⟨(some 38),(.call 94 [(.t 33),(.t 35),(.t 37)]),none,[]⟩]) (.seq (.drw [⟨(some 40),(.mv (.t 4)),none,[]⟩,⟨(some 41),(.eq false .ptr (.t 40) (.c .np)),none,[]⟩,⟨(some 42),(.mv (.t 41)),none,[]⟩,⟨(some 43),(.mv (.t 4)),(some (42,false)),[]⟩,⟨(some 44),(.nc (.t 43)),(some (42,false)),[]⟩,⟨(some 45),(.fa (.t 44) 1),(some (42,false)),[]⟩,⟨(some 46),(.ld (.t 45)),(some (42,false)),[]⟩,⟨(some 47),(.fa (.t 3) 1),(some (42,false)),[]⟩,⟨(some 48),(.ld (.t 47)),(some (42,false)),[]⟩,⟨(some 49),(.bi .neq (.t 46) (.t 48)),(some (42,false)),[]⟩,⟨(some 50),(.pk (.t 42) (.c (.b true)) (.t 49)),none,[]⟩,⟨(some 39),(.mv (.t 50)),none,[]⟩])
 (.cond (.t 39) .skip (.seq (.reg [⟨(some 52),(.fa (.t 3) 0),none,[]⟩,⟨(some 53),(.ld (.t 52)),none,[]⟩,⟨(some 54),(.bi .eql (.t 53) (.c (.i .i64 5))),none,[]⟩,⟨(some 51),(.mv (.t 54)),none,[]⟩])
 (.cond (.t 51) (.reg [⟨(some 55),(.mv (.t 0)),none,[]⟩,⟨(some 56),(.mv (.t 4)),none,[]⟩,⟨(some 57),(.call 49 [(.t 55),(.t 56),(.c (.i .i64 2))]),none,[]⟩]) (.seq (.reg [⟨(some 59),(.fa (.t 3) 0),none,[]⟩,⟨(some 60),(.ld (.t 59)),none,[]⟩,⟨(some 61),(.bi .eql (.t 60) (.c (.i .i64 3))),none,[]⟩,⟨(some 58),(.mv (.t 61)),none,[]⟩])
 (.cond (.t 58) (.seq (.drw [⟨(some 62),(.mv (.t 4)),none,[]⟩,⟨(some 63),(.nc (.t 62)),none,[]⟩,⟨(some 64),(.fa (.t 63) 13),none,[]⟩,⟨(some 65),(.ld (.t 64)),none,[]⟩,⟨(some 66),(.mv (.t 0)),none,[]⟩,⟨(some 67),(.nc (.t 66)),none,[]⟩,⟨(some 68),(.fa (.t 67) 16),none,[]⟩,⟨(some 69),(.ld (.t 68)),none,[]⟩,⟨(some 70),(.call 102 [(.t 65),(.t 69)]),none,[]⟩])
 (.reg [⟨(some 71),(.mv (.t 0)),none,[]⟩,⟨(some 72),(.mv (.t 4)),none,[]⟩,⟨(some 73),(.ldn (.t 3) 10),none,[]⟩,⟨(some 74),(.call 111 [(.t 71),(.t 72),(.t 73)]),none,[]⟩])) (.seq (.drw [⟨(some 9),(.mv (.t 4)),none,[]⟩,⟨(some 10),(.nc (.t 9)),none,[]⟩,⟨(some 11),(.fa (.t 10) 13),none,[]⟩,⟨(some 12),(.ld (.t 11)),none,[]⟩,⟨(some 13),(.mv (.t 0)),none,[]⟩,⟨(some 14),(.nc (.t 13)),none,[]⟩,⟨(some 15),(.fa (.t 14) 16),none,[]⟩,⟨(some 16),(.ld (.t 15)),none,[]⟩,⟨(some 17),(.call 102 [(.t 12),(.t 16)]),none,[]⟩])
 (.drw [⟨(some 18),(.mv (.t 0)),none,[]⟩,⟨(some 19),(.nc (.t 18)),none,[]⟩,⟨(some 20),(.fa (.t 19) 15),none,[]⟩,⟨(some 21),(.ld (.t 20)),none,[]⟩,⟨(some 22),(.mv (.t 4)),none,[]⟩,⟨(some 23),(.ldn (.t 3) 10),none,[]⟩,⟨(some 24),(.inv (.t 21) [(91,297,[]),(307,338,[]),(313,408,[])] [(.t 22),(.t 23)]),none,[]⟩]))))))))))))) }
noncomputable def f63 : AFn := { np := 1, nt := 82, res := [], body :=
 (.seq (.reg [⟨(some 8),(.mv (.t 0)),none,[]⟩,⟨(some 9),(.nc (.t 8)),none,[]⟩,⟨(some 10),(.fa (.t 9) 43),none,[]⟩,⟨(some 11),(.ld (.t 10)),none,[]⟩,⟨(some 2),(.mv (.t 11)),none,[]⟩])
 (.seq (.reg [⟨(some 12),(.mv (.t 0)),none,[]⟩,⟨(some 13),(.nc (.t 12)),none,[]⟩,⟨(some 14),(.fa (.t 13) 43),none,[]⟩,⟨none,(.st (.t 14) (.c .np) 1),none,[]⟩])
 (.seq (.reg [⟨(some 16),(.mv (.t 0)),none,[]⟩,⟨(some 17),(.mv (.t 2)),none,[]⟩,⟨(some 18),(.call 112 [(.t 16),(.t 17)]),none,[]⟩,⟨(some 15),(.mv (.t 18)),none,[]⟩,⟨(some 19),(.ex (.t 15) 0),none,[]⟩,⟨(some 20),(.ex (.t 15) 1),none,[]⟩,⟨(some 3),(.al [(.i .i64 0),(.i .i64 0)]),none,[]⟩,⟨none,(.st (.t 3) (.t 19) 2),none,[]⟩,⟨(some 4),(.mv (.t 20)),none,[]⟩])
 (.seq (.seq (.drw [⟨(some 21),(.mv (.t 4)),none,[]⟩,⟨(some 22),(.un .not (.t 21)),none,[]⟩,⟨(some 23),(.mv (.t 22)),none,[]⟩,⟨(some 24),(.mv (.t 2)),(some (23,false)),[]⟩,⟨(some 25),(.nc (.t 24)),(some (23,false)),[]⟩,⟨(some 26),(.fa (.t 25) 4),(some (23,false)),[]⟩,⟨(some 27),(.ld (.t 26)),(some (23,false)),[]⟩,⟨(some 28),(.mv (.t 2)),(some (23,false)),[]⟩,⟨(some 29),(.nc (.t 28)),(some (23,false)),[]⟩,⟨(some 30),(.fa (.t 29) 5),(some (23,false)),[]⟩,⟨(some 31),(.ld (.t 30)),(some (23,false)),[]⟩,⟨(some 32),(.bi .geq (.t 27) (.t 31)),(some (23,false)),[]⟩,⟨(some 33),(.pk (.t 23) (.c (.b true)) (.t 32)),none,[]⟩])
 (.cond (.t 33) .ret .skip))
 (.seq (.seq (.reg [⟨(some 34),(.mv (.t 0)),none,[]⟩,⟨(some 35),(.nc (.t 34)),none,[]⟩,⟨(some 36),(.fa (.t 35) 15),none,[]⟩,⟨(some 37),(.ld (.t 36)),none,[]⟩,⟨(some 38),(.mv (.t 2)),none,[]⟩,⟨(some 39),(.inv (.t 37) [(91,287,[]),(307,328,[]),(313,398,[])] [(.t 38)]),none,[]⟩,⟨(some 40),(.lns false (.t 39)),none,[]⟩,⟨(some 41),(.mv (.c (.i .i64 0))),none,[]⟩])
 (.blk 0 (.loop (.seq (.reg [⟨(some 42),(.bi .lss (.t 41) (.t 40)),none,[]⟩])
 (.seq (.cond (.t 42) .skip (.exit 0))
 (.seq (.blk 1 (.seq (.reg [⟨(some 43),(.ias 10 (.t 39) (.t 41)),none,[]⟩,⟨(some 44),(.ldn (.t 43) 10),none,[]⟩,⟨(some 6),(.al [(.i .i64 0),(.i .i64 0),(.i .i64 0),(.i .i64 0),(.i .u64 0),(.i .i64 0),(.i .i64 0),(.i .i64 0),(.i .i64 0),.nsl]),none,[]⟩,⟨none,(.st (.t 6) (.t 44) 10),none,[]⟩])
 (.reg [⟨(some 45),(.mv (.t 0)),none,[]⟩,⟨(some 46),(.ldn (.t 6) 10),none,[]⟩,⟨(some 47),(.call 83 [(.t 45),(.t 46)]),none,[]⟩])))
 (.reg [⟨(some 48),(.bi .add (.t 41) (.c (.i .i64 1))),none,[]⟩,⟨(some 41),(.mv (.t 48)),none,[]⟩])))))))
 (.seq (.drw [⟨(some 49),(.mv (.t 0)),none,[]⟩,⟨(some 50),(.mv (.t 2)),none,[]⟩,⟨(some 51),(.nc (.t 50)),none,[]⟩,⟨(some 52),(.fa (.t 51) 0),none,[]⟩,⟨(some 53),(.fa (.t 52) 0),none,[]⟩,⟨(some 54),(.ld (.t 53)),none,[]⟩,⟨(some 55),(.mv (.t 2)),none,[]⟩,⟨(some 56),(.nc (.t 55)),none,[]⟩,⟨(some 57),(.fa (.t 56) 0),none,[]⟩,⟨(some 58),(.fa (.t 57) 1),none,[]⟩,⟨(some 59),(.ld (.t 58)),none,[]⟩,⟨(some 7),(.al [(.i .i64 0),(.i .i64 0),(.i .i64 0),(.i .i64 0),(.i .u64 0),(.i .i64 0),(.i .i64 0),(.i .i64 0),(.i .i64 0),.nsl]),none,[]⟩,⟨(some 60),(.call 84 [(.t 49),(.c (.i .i64 3)),(.t 54),(.t 59)]),none,[]⟩,⟨none,(.st (.t 7) (.t 60) 10),none,[]⟩])
 (.seq (.drw [⟨(some 61),(.fa (.t 3) 0),none,[]⟩,⟨(some 62),(.ld (.t 61)),none,[]⟩,⟨(some 63),(.fa (.t 3) 1),none,[]⟩,⟨(some 64),(.ld (.t 63)),none,[]⟩,⟨(some 65),(.fa (.t 3) 0),none,[]⟩,⟨(some 66),(.ld (.t 65)),none,[]⟩,⟨(some 67),(.bi .sub (.t 64) (.t 66)),none,[]⟩,⟨(some 68),(.mv (.t 2)),none,[]⟩,⟨(some 69),(.nc (.t 68)),none,[]⟩,⟨(some 70),(.fa (.t 69) 2),none,[]⟩,⟨(some 71),(.ld (.t 70)),none,[]⟩,⟨(some 72),(.fa (.t 7) 5),none,[]⟩,⟨none,(.st (.t 72) (.t 62) 1),none,[(64,(.ld (.t 63)),none),(66,(.ld (.t 65)),none),(71,(.ld (.t 70)),none)]⟩,⟨(some 73),(.fa (.t 7) 8),none,[]⟩,⟨none,(.st (.t 73) (.t 67) 1),none,[(71,(.ld (.t 70)),none)]⟩,⟨(some 74),(.fa (.t 7) 7),none,[]⟩,⟨none,(.st (.t 74) (.t 71) 1),none,[]⟩])
 (.seq (.reg [⟨(some 75),(.fa (.t 7) 8),none,[]⟩,⟨(some 76),(.ld (.t 75)),none,[]⟩,⟨(some 77),(.mn [(.t 76),(.c (.i .i64 1500))]),none,[]⟩,⟨(some 78),(.fa (.t 7) 6),none,[]⟩,⟨none,(.st (.t 78) (.t 77) 1),none,[]⟩])
 (.reg [⟨(some 79),(.mv (.t 0)),none,[]⟩,⟨(some 80),(.ldn (.t 7) 10),none,[]⟩,⟨(some 81),(.call 83 [(.t 79),(.t 80)]),none,[]⟩]))))))))) }
noncomputable def f64 : AFn := { np := 1, nt := 111, res := [.c 2 10 true,.t 3], body :=
 (.seq (.reg [⟨(some 2),(.al [(.i .i64 0),(.i .i64 0),(.i .i64 0),(.i .i64 0),(.i .u64 0),(.i .i64 0),(.i .i64 0),(.i .i64 0),(.i .i64 0),.nsl]),none,[]⟩,⟨(some 3),(.mv (.c (.b false))),none,[]⟩])
 (.seq (.reg [⟨(some 11),(.mv (.t 0)),none,[]⟩,⟨(some 12),(.nc (.t 11)),none,[]⟩,⟨(some 13),(.fa (.t 12) 19),none,[]⟩,⟨(some 14),(.ld (.t 13)),none,[]⟩,⟨(some 15),(.lns false (.t 14)),none,[]⟩,⟨(some 4),(.mv (.t 15)),none,[]⟩])
 (.seq (.reg [⟨(some 5),(.mv (.c (.i .i64 0))),none,[]⟩])
 (.seq (.blk 0 (.loop (.seq (.seq (.drw [⟨(some 16),(.mv (.t 5)),none,[]⟩,⟨(some 17),(.mv (.t 4)),none,[]⟩,⟨(some 18),(.bi .lss (.t 16) (.t 17)),none,[]⟩,⟨(some 19),(.mv (.t 18)),none,[]⟩,⟨(some 20),(.mv (.t 0)),(some (19,true)),[]⟩,⟨(some 21),(.nc (.t 20)),(some (19,true)),[]⟩,⟨(some 22),(.fa (.t 21) 19),(some (19,true)),[]⟩,⟨(some 23),(.ld (.t 22)),(some (19,true)),[]⟩,⟨(some 24),(.mv (.t 5)),(some (19,true)),[]⟩,⟨(some 25),(.ias 1 (.t 23) (.t 24)),(some (19,true)),[]⟩,⟨(some 26),(.ld (.t 25)),(some (19,true)),[]⟩,⟨(some 27),(.nc (.t 26)),(some (19,true)),[]⟩,⟨(some 28),(.fa (.t 27) 0),(some (19,true)),[]⟩,⟨(some 29),(.ld (.t 28)),(some (19,true)),[]⟩,⟨(some 30),(.mv (.t 0)),(some (19,true)),[]⟩,⟨(some 31),(.nc (.t 30)),(some (19,true)),[]⟩,⟨(some 32),(.fa (.t 31) 44),(some (19,true)),[]⟩,⟨(some 33),(.ld (.t 32)),(some (19,true)),[]⟩,⟨(some 34),(.bi .leq (.t 29) (.t 33)),(some (19,true)),[]⟩,⟨(some 35),(.pk (.t 19) (.t 34) (.c (.b false))),none,[]⟩])
 (.cond (.t 35) .skip (.exit 0)))
 (.blk 1 (.reg [⟨(some 36),(.mv (.t 5)),none,[]⟩,⟨(some 37),(.bi .add (.t 36) (.c (.i .i64 1))),none,[]⟩,⟨(some 5),(.mv (.t 37)),none,[]⟩])))))
 (.seq (.seq (.reg [⟨(some 38),(.mv (.t 4)),none,[]⟩,⟨(some 39),(.mv (.c (.i .i64 0))),none,[]⟩])
 (.blk 2 (.loop (.seq (.reg [⟨(some 40),(.bi .lss (.t 39) (.t 38)),none,[]⟩])
 (.seq (.cond (.t 40) .skip (.exit 2))
 (.seq (.blk 3 (.seq (.reg [⟨(some 41),(.mv (.t 39)),none,[]⟩,⟨(some 6),(.mv (.t 41)),none,[]⟩])
 (.seq (.drw [⟨(some 42),(.mv (.t 0)),none,[]⟩,⟨(some 43),(.nc (.t 42)),none,[]⟩,⟨(some 44),(.fa (.t 43) 19),none,[]⟩,⟨(some 45),(.ld (.t 44)),none,[]⟩,⟨(some 46),(.mv (.t 5)),none,[]⟩,⟨(some 47),(.mv (.t 6)),none,[]⟩,⟨(some 48),(.bi .add (.t 46) (.t 47)),none,[]⟩,⟨(some 49),(.mv (.t 4)),none,[]⟩,⟨(some 50),(.bi .rem (.t 48) (.t 49)),none,[]⟩,⟨(some 51),(.ias 1 (.t 45) (.t 50)),none,[]⟩,⟨(some 52),(.ld (.t 51)),none,[]⟩,⟨(some 7),(.mv (.t 52)),none,[]⟩])
 (.seq (.reg [⟨(some 54),(.mv (.t 0)),none,[]⟩,⟨(some 55),(.nc (.t 54)),none,[]⟩,⟨(some 56),(.fa (.t 55) 15),none,[]⟩,⟨(some 57),(.ld (.t 56)),none,[]⟩,⟨(some 58),(.mv (.t 7)),none,[]⟩,⟨(some 59),(.inv (.t 57) [(91,295,[]),(307,336,[]),(313,406,[])] [(.t 58)]),none,[]⟩,⟨(some 53),(.mv (.t 59)),none,[]⟩,⟨(some 60),(.ex (.t 53) 0),none,[]⟩,⟨(some 61),(.ex (.t 53) 1),none,[]⟩,⟨(some 8),(.al [(.i .i64 0),(.i .i64 0)]),none,[]⟩,⟨none,(.st (.t 8) (.t 60) 2),none,[]⟩,⟨(some 9),(.mv (.t 61)),none,[]⟩])
 (.seq (.reg [⟨(some 62),(.mv (.t 9)),none,[]⟩,⟨(some 63),(.bi .neq (.t 62) (.c (.i .i64 1))),none,[]⟩,⟨(some 64),(.mv (.t 63)),none,[]⟩,⟨(some 65),(.mv (.t 0)),(some (64,true)),[]⟩,⟨(some 66),(.nc (.t 65)),(some (64,true)),[]⟩,⟨(some 67),(.fa (.t 66) 0),(some (64,true)),[]⟩,⟨(some 68),(.fa (.t 67) 0),(some (64,true)),[]⟩,⟨(some 69),(.ld (.t 68)),(some (64,true)),[]⟩,⟨(some 70),(.bi .neq (.t 69) (.c (.i .i64 3))),(some (64,true)),[]⟩,⟨(some 71),(.pk (.t 64) (.t 70) (.c (.b false))),none,[]⟩,⟨(some 10),(.mv (.t 71)),none,[]⟩])
 (.seq (.seq (.drw [⟨(some 72),(.mv (.t 9)),none,[]⟩,⟨(some 73),(.bi .eql (.t 72) (.c (.i .i64 0))),none,[]⟩,⟨(some 74),(.mv (.t 73)),none,[]⟩,⟨(some 75),(.mv (.t 10)),(some (74,false)),[]⟩,⟨(some 76),(.mv (.t 75)),(some (74,false)),[]⟩,⟨(some 77),(.mv (.t 0)),(some (76,true)),[]⟩,⟨(some 78),(.nc (.t 77)),(some (76,true)),[]⟩,⟨(some 79),(.fa (.t 78) 16),(some (76,true)),[]⟩,⟨(some 80),(.ld (.t 79)),(some (76,true)),[]⟩,⟨(some 81),(.mv (.t 0)),(some (76,true)),[]⟩,⟨(some 82),(.nc (.t 81)),(some (76,true)),[]⟩,⟨(some 83),(.fa (.t 82) 42),(some (76,true)),[]⟩,⟨(some 84),(.ld (.t 83)),(some (76,true)),[]⟩,⟨(some 85),(.bi .lss (.t 80) (.t 84)),(some (76,true)),[]⟩,⟨(some 86),(.pk (.t 76) (.t 85) (.c (.b false))),(some (74,false)),[]⟩,⟨(some 87),(.pk (.t 74) (.c (.b true)) (.t 86)),none,[]⟩])
 (.cond (.t 87) (.exit 3) .skip))
 (.seq (.seq (.reg [⟨(some 88),(.mv (.t 10)),none,[]⟩])
 (.cond (.t 88) (.reg [⟨(some 89),(.mv (.t 0)),none,[]⟩,⟨(some 90),(.mv (.t 0)),none,[]⟩,⟨(some 91),(.nc (.t 90)),none,[]⟩,⟨(some 92),(.fa (.t 91) 16),none,[]⟩,⟨(some 93),(.ld (.t 92)),none,[]⟩,⟨(some 94),(.bi .add (.t 93) (.c (.i .i64 2))),none,[]⟩,⟨(some 95),(.nc (.t 89)),none,[]⟩,⟨(some 96),(.fa (.t 95) 42),none,[]⟩,⟨none,(.st (.t 96) (.t 94) 1),none,[]⟩]) .skip))
 (.seq (.reg [⟨(some 97),(.mv (.t 0)),none,[]⟩,⟨(some 98),(.mv (.t 7)),none,[]⟩,⟨(some 99),(.nc (.t 98)),none,[]⟩,⟨(some 100),(.fa (.t 99) 0),none,[]⟩,⟨(some 101),(.ld (.t 100)),none,[]⟩,⟨(some 102),(.nc (.t 97)),none,[]⟩,⟨(some 103),(.fa (.t 102) 44),none,[]⟩,⟨none,(.st (.t 103) (.t 101) 1),none,[]⟩])
 (.seq (.reg [⟨(some 104),(.mv (.t 0)),none,[]⟩,⟨(some 105),(.mv (.t 7)),none,[]⟩,⟨(some 106),(.ldn (.t 8) 2),none,[]⟩,⟨(some 107),(.mv (.t 9)),none,[]⟩,⟨(some 108),(.call 113 [(.t 104),(.t 105),(.t 106),(.t 107)]),none,[]⟩,⟨none,(.st (.t 2) (.t 108) 10),none,[]⟩,⟨(some 3),(.mv (.c (.b true))),none,[]⟩])
 .ret)))))))))
 (.reg [⟨(some 109),(.bi .add (.t 39) (.c (.i .i64 1))),none,[]⟩,⟨(some 39),(.mv (.t 109)),none,[]⟩])))))))
 (.seq (.reg [⟨(some 110),(.bl [(.i .i64 0),(.i .i64 0),(.i .i64 0),(.i .i64 0),(.i .u64 0),(.i .i64 0),(.i .i64 0),(.i .i64 0),(.i .i64 0),.nsl] []),none,[]⟩,⟨none,(.st (.t 2) (.t 110) 10),none,[]⟩,⟨(some 3),(.mv (.c (.b false))),none,[]⟩])
 .ret)))))) }
noncomputable def f65 : AFn := { np := 2, nt := 80, res := [.t 4], body :=
 (.seq (.reg [⟨(some 4),(.mv (.c (.b false))),none,[]⟩])
 (.seq (.seq (.reg [⟨(some 5),(.mv (.c (.i .i64 0))),none,[]⟩])
 (.blk 0 (.loop (.seq (.seq (.reg [⟨(some 8),(.mv (.t 5)),none,[]⟩,⟨(some 9),(.bi .lss (.t 8) (.c (.i .i64 2))),none,[]⟩])
 (.cond (.t 9) .skip (.exit 0)))
 (.seq (.blk 1 (.seq (.reg [⟨(some 12),(.mv (.t 0)),none,[]⟩,⟨(some 13),(.nc (.t 12)),none,[]⟩,⟨(some 14),(.fa (.t 13) 2),none,[]⟩,⟨(some 15),(.ld (.t 14)),none,[]⟩,⟨(some 16),(.lns false (.t 15)),none,[]⟩,⟨(some 6),(.mv (.t 16)),none,[]⟩])
 (.seq (.seq (.reg [⟨(some 17),(.mv (.t 0)),none,[]⟩,⟨(some 18),(.mv (.t 5)),none,[]⟩,⟨(some 19),(.mv (.t 1)),none,[]⟩,⟨(some 20),(.call 53 [(.t 17),(.t 18),(.c (.i .i64 100001)),(.t 19)]),none,[]⟩,⟨(some 21),(.un .not (.t 20)),none,[]⟩,⟨(some 22),(.mv (.t 21)),none,[]⟩,⟨(some 23),(.mv (.t 0)),(some (22,false)),[]⟩,⟨(some 24),(.nc (.t 23)),(some (22,false)),[]⟩,⟨(some 25),(.fa (.t 24) 2),(some (22,false)),[]⟩,⟨(some 26),(.ld (.t 25)),(some (22,false)),[]⟩,⟨(some 27),(.lns false (.t 26)),(some (22,false)),[]⟩,⟨(some 28),(.mv (.t 6)),(some (22,false)),[]⟩,⟨(some 29),(.bi .sub (.t 27) (.t 28)),(some (22,false)),[]⟩,⟨(some 30),(.bi .gtr (.t 29) (.c (.i .i64 100000))),(some (22,false)),[]⟩,⟨(some 31),(.pk (.t 22) (.c (.b true)) (.t 30)),none,[]⟩])
 (.cond (.t 31) (.seq (.reg [⟨(some 4),(.mv (.c (.b false))),none,[]⟩])
 .ret) .skip))
 (.seq (.seq (.reg [⟨(some 7),(.mv (.c (.i .i64 0))),none,[]⟩])
 (.blk 2 (.loop (.seq (.seq (.reg [⟨(some 32),(.mv (.t 7)),none,[]⟩,⟨(some 33),(.mv (.t 0)),none,[]⟩,⟨(some 34),(.nc (.t 33)),none,[]⟩,⟨(some 35),(.fa (.t 34) 2),none,[]⟩,⟨(some 36),(.ld (.t 35)),none,[]⟩,⟨(some 37),(.lns false (.t 36)),none,[]⟩,⟨(some 38),(.bi .lss (.t 32) (.t 37)),none,[]⟩])
 (.cond (.t 38) .skip (.exit 2)))
 (.seq (.blk 3 (.drw [⟨(some 41),(.mv (.t 0)),none,[]⟩,⟨(some 42),(.mv (.t 5)),none,[]⟩,⟨(some 43),(.bi .sub (.c (.i .i64 1)) (.t 42)),none,[]⟩,⟨(some 44),(.nc (.t 41)),none,[]⟩,⟨(some 45),(.fa (.t 44) 0),none,[]⟩,⟨(some 46),(.iaa 2 1 (.t 45) (.t 43)),none,[]⟩,⟨(some 47),(.ld (.t 46)),none,[]⟩,⟨(some 48),(.nc (.t 47)),none,[]⟩,⟨(some 49),(.fa (.t 48) 0),none,[]⟩,⟨(some 50),(.ld (.t 49)),none,[]⟩,⟨(some 51),(.mv (.t 0)),none,[]⟩,⟨(some 52),(.nc (.t 51)),none,[]⟩,⟨(some 53),(.fa (.t 52) 2),none,[]⟩,⟨(some 54),(.ld (.t 53)),none,[]⟩,⟨(some 55),(.mv (.t 7)),none,[]⟩,⟨(some 56),(.ias 10 (.t 54) (.t 55)),none,[]⟩,⟨(some 57),(.ldn (.t 56) 10),none,[]⟩,⟨(some 58),(.call 18 [(.t 50),(.t 57)]),none,[]⟩]))
 (.reg [⟨(some 39),(.mv (.t 7)),none,[]⟩,⟨(some 40),(.bi .add (.t 39) (.c (.i .i64 1))),none,[]⟩,⟨(some 7),(.mv (.t 40)),none,[]⟩]))))))
 (.reg [⟨(some 59),(.mv (.t 0)),none,[]⟩,⟨(some 60),(.nc (.t 59)),none,[]⟩,⟨(some 61),(.fa (.t 60) 2),none,[]⟩,⟨none,(.st (.t 61) (.c .nsl) 1),none,[]⟩])))))
 (.reg [⟨(some 10),(.mv (.t 5)),none,[]⟩,⟨(some 11),(.bi .add (.t 10) (.c (.i .i64 1))),none,[]⟩,⟨(some 5),(.mv (.t 11)),none,[]⟩]))))))
 (.seq (.reg [⟨(some 62),(.mv (.t 0)),none,[]⟩,⟨(some 63),(.nc (.t 62)),none,[]⟩,⟨(some 64),(.fa (.t 63) 0),none,[]⟩,⟨(some 65),(.iaa 2 1 (.t 64) (.c (.i .i64 0))),none,[]⟩,⟨(some 66),(.ld (.t 65)),none,[]⟩,⟨(some 67),(.nc (.t 66)),none,[]⟩,⟨(some 68),(.fa (.t 67) 0),none,[]⟩,⟨(some 69),(.ld (.t 68)),none,[]⟩,⟨(some 70),(.call 54 [(.t 69)]),none,[]⟩])
 (.seq (.reg [⟨(some 71),(.mv (.t 0)),none,[]⟩,⟨(some 72),(.nc (.t 71)),none,[]⟩,⟨(some 73),(.fa (.t 72) 0),none,[]⟩,⟨(some 74),(.iaa 2 1 (.t 73) (.c (.i .i64 1))),none,[]⟩,⟨(some 75),(.ld (.t 74)),none,[]⟩,⟨(some 76),(.nc (.t 75)),none,[]⟩,⟨(some 77),(.fa (.t 76) 0),none,[]⟩,⟨(some 78),(.ld (.t 77)),none,[]⟩,⟨(some 79),(.call 54 [(.t 78)]),none,[]⟩])
 (.seq (.reg [⟨(some 4),(.mv (.c (.b true))),none,[]⟩])
 .ret))))) }
noncomputable def f66 : AFn := { np := 3, nt := 34, res := [.t 6], body :=
 (.seq (.reg [⟨(some 3),(.bx (.t 0)),none,[]⟩,⟨(some 6),(.mv (.c (.i .i64 0))),none,[]⟩])
 (.seq (.seq (.reg [⟨(some 10),(.ldn (.t 3) 14),none,[]⟩,⟨(some 11),(.call 77 [(.t 10)]),none,[]⟩,⟨(some 12),(.bi .neq (.t 11) (.c (.i .i64 0))),none,[]⟩])
 (.cond (.t 12) (.seq (.reg [⟨(some 6),(.mv (.c (.i .i64 0))),none,[]⟩])
 .ret) .skip))
 (.seq (.reg [⟨(some 7),(.mv (.c (.i .i64 2))),none,[]⟩])
 (.seq (.seq (.reg [⟨(some 13),(.mv (.t 1)),none,[]⟩,⟨(some 14),(.lns false (.t 13)),none,[]⟩,⟨(some 15),(.mv (.c (.i .i64 0))),none,[]⟩])
 (.blk 0 (.loop (.seq (.reg [⟨(some 16),(.bi .lss (.t 15) (.t 14)),none,[]⟩])
 (.seq (.cond (.t 16) .skip (.exit 0))
 (.seq (.blk 1 (.seq (.reg [⟨(some 17),(.ias 1 (.t 13) (.t 15)),none,[]⟩,⟨(some 18),(.ld (.t 17)),none,[]⟩,⟨(some 9),(.mv (.t 18)),none,[]⟩])
 (.reg [⟨(some 19),(.mv (.t 7)),none,[]⟩,⟨(some 20),(.ldn (.t 3) 14),none,[]⟩,⟨(some 21),(.mv (.t 9)),none,[]⟩,⟨(some 22),(.call 114 [(.t 20),(.t 21)]),none,[]⟩,⟨(some 23),(.call 96 [(.t 19),(.t 22)]),none,[]⟩,⟨(some 7),(.mv (.t 23)),none,[]⟩])))
 (.reg [⟨(some 24),(.bi .add (.t 15) (.c (.i .i64 1))),none,[]⟩,⟨(some 15),(.mv (.t 24)),none,[]⟩])))))))
 (.seq (.reg [⟨(some 25),(.fa (.t 3) 11),none,[]⟩,⟨(some 26),(.ld (.t 25)),none,[]⟩,⟨(some 27),(.bi .mul (.c (.i .i64 4)) (.t 26)),none,[]⟩,⟨(some 28),(.bi .add (.t 27) (.c (.i .i64 400))),none,[]⟩,⟨(some 29),(.mv (.t 7)),none,[]⟩,⟨(some 30),(.call 115 [(.t 28),(.t 29)]),none,[]⟩,⟨(some 31),(.mv (.t 2)),none,[]⟩,⟨(some 32),(.call 115 [(.c (.i .i64 40)),(.t 31)]),none,[]⟩,⟨(some 33),(.call 96 [(.t 30),(.t 32)]),none,[]⟩,⟨(some 6),(.mv (.t 33)),none,[]⟩])
 .ret))))) }
noncomputable def f77 : AFn := { np := 1, nt := 78, res := [.t 2], body :=
 (.seq (.reg [⟨(some 1),(.bx (.t 0)),none,[]⟩,⟨(some 2),(.mv (.c (.i .i64 0))),none,[]⟩])
 (.seq (.reg [⟨(some 4),(.fa (.t 1) 1),none,[]⟩,⟨(some 5),(.ld (.t 4)),none,[]⟩,⟨(some 6),(.call 125 [(.t 5),(.c (.i .i64 2)),(.c (.i .i64 8))]),none,[]⟩,⟨(some 7),(.mv (.t 6)),none,[]⟩,⟨(some 8),(.fa (.t 1) 2),(some (7,true)),[]⟩,⟨(some 9),(.ld (.t 8)),(some (7,true)),[]⟩,⟨(some 10),(.call 125 [(.t 9),(.c (.i .i64 1)),(.c (.i .i64 4))]),(some (7,true)),[]⟩,⟨(some 11),(.pk (.t 7) (.t 10) (.c (.b false))),none,[]⟩,⟨(some 12),(.mv (.t 11)),none,[]⟩,⟨(some 13),(.fa (.t 1) 3),(some (12,true)),[]⟩,⟨(some 14),(.ld (.t 13)),(some (12,true)),[]⟩,⟨(some 15),(.call 125 [(.t 14),(.c (.i .i64 20)),(.c (.i .i64 1500))]),(some (12,true)),[]⟩,⟨(some 16),(.pk (.t 12) (.t 15) (.c (.b false))),none,[]⟩,⟨(some 17),(.mv (.t 16)),none,[]⟩,⟨(some 18),(.fa (.t 1) 5),(some (17,true)),[]⟩,⟨(some 19),(.ld (.t 18)),(some (17,true)),[]⟩,⟨(some 20),(.call 125 [(.t 19),(.c (.i .i64 1)),(.c (.i .i64 8))]),(some (17,true)),[]⟩,⟨(some 21),(.pk (.t 17) (.t 20) (.c (.b false))),none,[]⟩,⟨(some 3),(.mv (.t 21)),none,[]⟩])
 (.seq (.reg [⟨(some 22),(.mv (.t 3)),none,[]⟩,⟨(some 23),(.mv (.t 22)),none,[]⟩,⟨(some 24),(.fa (.t 1) 9),(some (23,true)),[]⟩,⟨(some 25),(.ld (.t 24)),(some (23,true)),[]⟩,⟨(some 26),(.call 125 [(.t 25),(.c (.i .i64 1)),(.c (.i .i64 200))]),(some (23,true)),[]⟩,⟨(some 27),(.pk (.t 23) (.t 26) (.c (.b false))),none,[]⟩,⟨(some 28),(.mv (.t 27)),none,[]⟩,⟨(some 29),(.fa (.t 1) 10),(some (28,true)),[]⟩,⟨(some 30),(.ld (.t 29)),(some (28,true)),[]⟩,⟨(some 31),(.call 125 [(.t 30),(.c (.i .i64 10)),(.c (.i .i64 10000))]),(some (28,true)),[]⟩,⟨(some 32),(.pk (.t 28) (.t 31) (.c (.b false))),none,[]⟩,⟨(some 33),(.mv (.t 32)),none,[]⟩,⟨(some 34),(.fa (.t 1) 11),(some (33,true)),[]⟩,⟨(some 35),(.ld (.t 34)),(some (33,true)),[]⟩,⟨(some 36),(.fa (.t 1) 10),(some (33,true)),[]⟩,⟨(some 37),(.ld (.t 36)),(some (33,true)),[]⟩,⟨(some 38),(.call 125 [(.t 35),(.t 37),(.c (.i .i64 1000000))]),(some (33,true)),[]⟩,⟨(some 39),(.pk (.t 33) (.t 38) (.c (.b false))),none,[]⟩,⟨(some 3),(.mv (.t 39)),none,[]⟩])
 (.seq (.reg [⟨(some 40),(.mv (.t 3)),none,[]⟩,⟨(some 41),(.mv (.t 40)),none,[]⟩,⟨(some 42),(.fa (.t 1) 12),(some (41,true)),[]⟩,⟨(some 43),(.ld (.t 42)),(some (41,true)),[]⟩,⟨(some 44),(.call 125 [(.t 43),(.c (.i .i64 0)),(.c (.i .i64 1000))]),(some (41,true)),[]⟩,⟨(some 45),(.pk (.t 41) (.t 44) (.c (.b false))),none,[]⟩,⟨(some 46),(.mv (.t 45)),none,[]⟩,⟨(some 47),(.fa (.t 1) 13),(some (46,true)),[]⟩,⟨(some 48),(.ld (.t 47)),(some (46,true)),[]⟩,⟨(some 49),(.bi .geq (.t 48) (.c (.i .u64 1))),(some (46,true)),[]⟩,⟨(some 50),(.pk (.t 46) (.t 49) (.c (.b false))),none,[]⟩,⟨(some 51),(.mv (.t 50)),none,[]⟩,⟨(some 52),(.fa (.t 1) 13),(some (51,true)),[]⟩,⟨(some 53),(.ld (.t 52)),(some (51,true)),[]⟩,⟨(some 54),(.bi .leq (.t 53) (.c (.i .u64 1152921504606846976))),(some (51,true)),[]⟩,⟨(some 55),(.pk (.t 51) (.t 54) (.c (.b false))),none,[]⟩,⟨(some 56),(.mv (.t 55)),none,[]⟩,⟨(some 57),(.fa (.t 1) 8),(some (56,true)),[]⟩,⟨(some 58),(.ld (.t 57)),(some (56,true)),[]⟩,⟨(some 59),(.call 125 [(.t 58),(.c (.i .i64 1)),(.c (.i .i64 100))]),(some (56,true)),[]⟩,⟨(some 60),(.pk (.t 56) (.t 59) (.c (.b false))),none,[]⟩,⟨(some 3),(.mv (.t 60)),none,[]⟩])
 (.seq (.seq (.reg [⟨(some 61),(.mv (.t 3)),none,[]⟩,⟨(some 62),(.un .not (.t 61)),none,[]⟩,⟨(some 63),(.mv (.t 62)),none,[]⟩,⟨(some 64),(.fa (.t 1) 7),(some (63,false)),[]⟩,⟨(some 65),(.ld (.t 64)),(some (63,false)),[]⟩,⟨(some 66),(.fa (.t 1) 3),(some (63,false)),[]⟩,⟨(some 67),(.ld (.t 66)),(some (63,false)),[]⟩,⟨(some 68),(.bi .add (.c (.i .i64 26)) (.t 67)),(some (63,false)),[]⟩,⟨(some 69),(.bi .mul (.c (.i .i64 4)) (.t 68)),(some (63,false)),[]⟩,⟨(some 70),(.call 125 [(.t 65),(.t 69),(.c (.i .i64 10000000))]),(some (63,false)),[]⟩,⟨(some 71),(.un .not (.t 70)),(some (63,false)),[]⟩,⟨(some 72),(.pk (.t 63) (.c (.b true)) (.t 71)),none,[]⟩,⟨(some 73),(.mv (.t 72)),none,[]⟩,⟨(some 74),(.ldn (.t 1) 14),(some (73,false)),[]⟩,⟨(some 75),(.call 126 [(.t 74)]),(some (73,false)),[]⟩,⟨(some 76),(.un .not (.t 75)),(some (73,false)),[]⟩,⟨(some 77),(.pk (.t 73) (.c (.b true)) (.t 76)),none,[]⟩])
 (.cond (.t 77) (.seq (.reg [⟨(some 2),(.mv (.c (.i .i64 1))),none,[]⟩])
 .ret) .skip))
 (.seq (.reg [⟨(some 2),(.mv (.c (.i .i64 0))),none,[]⟩])
 .ret)))))) }
noncomputable def f78 : AFn := { np := 3, nt := 28, res := [.t 6,.t 7], body :=
 (.seq (.reg [⟨(some 6),(.mv (.c .np)),none,[]⟩,⟨(some 7),(.mv (.c (.i .i64 0))),none,[]⟩])
 (.seq (.reg [⟨(some 11),(.mv (.t 2)),none,[]⟩,⟨(some 12),(.call 127 [(.t 11)]),none,[]⟩,⟨(some 10),(.mv (.t 12)),none,[]⟩,⟨(some 13),(.ex (.t 10) 0),none,[]⟩,⟨(some 14),(.ex (.t 10) 1),none,[]⟩,⟨(some 8),(.mv (.t 13)),none,[]⟩,⟨(some 9),(.mv (.t 14)),none,[]⟩])
 (.seq (.seq (.reg [⟨(some 15),(.mv (.t 0)),none,[]⟩,⟨(some 16),(.mv (.t 1)),none,[]⟩,⟨(some 17),(.call 128 [(.t 15),(.t 16)]),none,[]⟩,⟨(some 18),(.un .not (.t 17)),none,[]⟩,⟨(some 19),(.mv (.t 18)),none,[]⟩,⟨(some 20),(.mv (.t 9)),(some (19,false)),[]⟩,⟨(some 21),(.bi .neq (.t 20) (.c (.i .i64 0))),(some (19,false)),[]⟩,⟨(some 22),(.pk (.t 19) (.c (.b true)) (.t 21)),none,[]⟩])
 (.cond (.t 22) (.seq (.reg [⟨(some 6),(.mv (.c .np)),none,[]⟩,⟨(some 7),(.mv (.c (.i .i64 1))),none,[]⟩])
 .ret) .skip))
 (.seq (.reg [⟨(some 23),(.mv (.t 0)),none,[]⟩,⟨(some 24),(.mv (.t 1)),none,[]⟩,⟨(some 25),(.mv (.t 8)),none,[]⟩,⟨(some 26),(.bl [(.i .i64 0),(.i .i64 0),.np,.nsl] [(0,1,(.t 23)),(1,1,(.t 24)),(2,1,(.t 25))]),none,[]⟩,⟨(some 27),(.bx (.t 26)),none,[]⟩,⟨(some 6),(.mv (.t 27)),none,[]⟩,⟨(some 7),(.mv (.c (.i .i64 0))),none,[]⟩])
 .ret)))) }
noncomputable def f79 : AFn := { np := 2, nt := 39, res := [.t 4,.t 5], body :=
 (.seq (.reg [⟨(some 4),(.mv (.c .np)),none,[]⟩,⟨(some 5),(.mv (.c (.i .i64 0))),none,[]⟩])
 (.seq (.seq (.reg [⟨(some 10),(.mv (.t 0)),none,[]⟩,⟨(some 11),(.mv (.t 1)),none,[]⟩,⟨(some 12),(.call 128 [(.t 10),(.t 11)]),none,[]⟩,⟨(some 13),(.un .not (.t 12)),none,[]⟩])
 (.cond (.t 13) (.seq (.reg [⟨(some 4),(.mv (.c .np)),none,[]⟩,⟨(some 5),(.mv (.c (.i .i64 1))),none,[]⟩])
 .ret) .skip))
 (.seq (.reg [⟨(some 15),(.mv (.t 0)),none,[]⟩,⟨(some 16),(.call 129 [(.t 15)]),none,[]⟩,⟨(some 14),(.mv (.t 16)),none,[]⟩,⟨(some 17),(.ex (.t 14) 0),none,[]⟩,⟨(some 18),(.ex (.t 14) 1),none,[]⟩,⟨(some 6),(.mv (.t 17)),none,[]⟩,⟨(some 7),(.mv (.t 18)),none,[]⟩])
 (.seq (.reg [⟨(some 19),(.mv (.t 1)),none,[]⟩,⟨(some 20),(.mv (.t 6)),none,[]⟩,⟨(some 21),(.mv (.t 0)),none,[]⟩,⟨(some 22),(.bl [(.i .i64 0),.np,.np,.np,.np,.np,.np,.np,.np,.np,(.i .i64 0),(.i .i64 0),(.i .i64 0),(.i .i64 0),(.i .i64 0),(.i .i64 0),(.i .i64 0),(.i .i64 0),(.i .i64 0),.nsl] [(0,1,(.t 19)),(1,1,(.t 20)),(18,1,(.t 21))]),none,[]⟩,⟨(some 23),(.bx (.t 22)),none,[]⟩,⟨(some 8),(.mv (.t 23)),none,[]⟩])
 (.seq (.seq (.reg [⟨(some 24),(.mv (.c (.i .i64 0))),none,[]⟩])
 (.blk 0 (.loop (.seq (.reg [⟨(some 25),(.bi .lss (.t 24) (.c (.i .i64 8))),none,[]⟩])
 (.seq (.cond (.t 25) .skip (.exit 0))
 (.seq (.blk 1 (.seq (.reg [⟨(some 26),(.mv (.t 24)),none,[]⟩,⟨(some 9),(.mv (.t 26)),none,[]⟩])
 (.drw [⟨(some 28),(.mv (.t 8)),none,[]⟩,⟨(some 29),(.mv (.t 9)),none,[]⟩,⟨(some 30),(.mv (.t 0)),none,[]⟩,⟨(some 34),(.nc (.t 28)),none,[]⟩,⟨(some 35),(.fa (.t 34) 2),none,[]⟩,⟨(some 31),(.call 130 [(.t 30)]),none,[]⟩,⟨(some 27),(.mv (.t 31)),none,[]⟩,⟨(some 32),(.ex (.t 27) 0),none,[]⟩,⟨(some 33),(.ex (.t 27) 1),none,[]⟩,⟨(some 36),(.iaa 8 1 (.t 35) (.t 29)),none,[]⟩,⟨none,(.st (.t 36) (.t 32) 1),none,[]⟩])))
 (.reg [⟨(some 37),(.bi .add (.t 24) (.c (.i .i64 1))),none,[]⟩,⟨(some 24),(.mv (.t 37)),none,[]⟩])))))))
 (.seq (.reg [⟨(some 38),(.mv (.t 8)),none,[]⟩,⟨(some 4),(.mv (.t 38)),none,[]⟩,⟨(some 5),(.mv (.c (.i .i64 0))),none,[]⟩])
 .ret)))))) }
noncomputable def f80 : AFn := { np := 1, nt := 28, res := [.t 2,.t 3], body :=
 (.seq (.reg [⟨(some 2),(.mv (.c (.i .u64 0))),none,[]⟩,⟨(some 3),(.mv (.c (.i .i64 0))),none,[]⟩])
 (.seq (.seq (.drw [⟨(some 4),(.mv (.t 0)),none,[]⟩,⟨(some 5),(.eq false .ptr (.t 4) (.c .np)),none,[]⟩,⟨(some 6),(.mv (.t 5)),none,[]⟩,⟨(some 7),(.mv (.t 0)),(some (6,false)),[]⟩,⟨(some 8),(.nc (.t 7)),(some (6,false)),[]⟩,⟨(some 9),(.fa (.t 8) 1),(some (6,false)),[]⟩,⟨(some 10),(.ld (.t 9)),(some (6,false)),[]⟩,⟨(some 11),(.mv (.t 0)),(some (6,false)),[]⟩,⟨(some 12),(.nc (.t 11)),(some (6,false)),[]⟩,⟨(some 13),(.fa (.t 12) 0),(some (6,false)),[]⟩,⟨(some 14),(.ld (.t 13)),(some (6,false)),[]⟩,⟨(some 15),(.bi .geq (.t 10) (.t 14)),(some (6,false)),[]⟩,⟨(some 16),(.pk (.t 6) (.c (.b true)) (.t 15)),none,[]⟩])
 (.cond (.t 16) (.seq (.reg [⟨(some 2),(.mv (.c (.i .u64 0))),none,[]⟩,⟨(some 3),(.mv (.c (.i .i64 7))),none,[]⟩])
 .ret) .skip))
 (.seq (.reg [⟨(some 17),(.mv (.t 0)),none,[]⟩,⟨(some 18),(.nc (.t 17)),none,[]⟩,⟨(some 19),(.fa (.t 18) 1),none,[]⟩,⟨(some 20),(.ld (.t 19)),none,[]⟩,⟨(some 21),(.bi .add (.t 20) (.c (.i .u64 1))),none,[]⟩,⟨(some 22),(.nc (.t 17)),none,[]⟩,⟨(some 23),(.fa (.t 22) 1),none,[]⟩,⟨none,(.st (.t 23) (.t 21) 1),none,[]⟩])
 (.seq (.reg [⟨(some 24),(.mv (.t 0)),none,[]⟩,⟨(some 25),(.nc (.t 24)),none,[]⟩,⟨(some 26),(.fa (.t 25) 1),none,[]⟩,⟨(some 27),(.ld (.t 26)),none,[]⟩,⟨(some 2),(.mv (.t 27)),none,[]⟩,⟨(some 3),(.mv (.c (.i .i64 0))),none,[]⟩])
 .ret)))) }
noncomputable def f81 : AFn := { np := 3, nt := 26, res := [], body :=
 (.seq (.reg [⟨(some 6),(.mv (.t 0)),none,[]⟩,⟨(some 7),(.mv (.t 2)),none,[]⟩,⟨(some 8),(.nc (.t 6)),none,[]⟩,⟨(some 9),(.fa (.t 8) 4),none,[]⟩,⟨none,(.st (.t 9) (.t 7) 1),none,[]⟩])
 (.drw [⟨(some 10),(.mv (.t 0)),none,[]⟩,⟨(some 11),(.mv (.t 1)),none,[]⟩,⟨(some 12),(.mv (.t 0)),none,[]⟩,⟨(some 13),(.nc (.t 12)),none,[]⟩,⟨(some 14),(.fa (.t 13) 0),none,[]⟩,⟨(some 15),(.ld (.t 14)),none,[]⟩,⟨(some 16),(.mv (.t 0)),none,[]⟩,⟨(some 17),(.nc (.t 16)),none,[]⟩,⟨(some 18),(.fa (.t 17) 1),none,[]⟩,⟨(some 19),(.ld (.t 18)),none,[]⟩,⟨(some 20),(.mv (.t 2)),none,[]⟩,⟨(some 21),(.mn [(.t 20),(.c (.i .i64 100))]),none,[]⟩,⟨(some 22),(.call 131 [(.t 15),(.t 19),(.t 21)]),none,[]⟩,⟨(some 23),(.call 96 [(.t 11),(.t 22)]),none,[]⟩,⟨(some 24),(.nc (.t 10)),none,[]⟩,⟨(some 25),(.fa (.t 24) 3),none,[]⟩,⟨none,(.st (.t 25) (.t 23) 1),none,[]⟩])) }
noncomputable def f82 : AFn := { np := 2, nt := 30, res := [.t 4], body :=
 (.seq (.reg [⟨(some 3),(.bx (.t 1)),none,[]⟩,⟨(some 4),(.mv (.c (.i .u64 0))),none,[]⟩])
 (.seq (.seq (.reg [⟨(some 6),(.mv (.t 0)),none,[]⟩,⟨(some 7),(.eq false .ptr (.t 6) (.c .np)),none,[]⟩])
 (.cond (.t 7) (.seq (.reg [⟨(some 4),(.mv (.c (.i .u64 1))),none,[]⟩])
 .ret) .skip))
 (.seq (.reg [⟨(some 8),(.mv (.t 0)),none,[]⟩,⟨(some 9),(.nc (.t 8)),none,[]⟩,⟨(some 10),(.fa (.t 9) 3),none,[]⟩,⟨(some 11),(.ld (.t 10)),none,[]⟩,⟨(some 12),(.mkf 133 [] [(.t 3)]),none,[]⟩,⟨(some 13),(.call 132 [(.t 11),(.t 12)]),none,[]⟩,⟨(some 5),(.mv (.t 13)),none,[]⟩])
 (.seq (.seq (.reg [⟨(some 14),(.mv (.t 5)),none,[]⟩,⟨(some 15),(.bi .lss (.t 14) (.c (.i .i64 0))),none,[]⟩])
 (.cond (.t 15) (.seq (.reg [⟨(some 16),(.mv (.t 0)),none,[]⟩,⟨(some 17),(.nc (.t 16)),none,[]⟩,⟨(some 18),(.fa (.t 17) 2),none,[]⟩,⟨(some 19),(.ld (.t 18)),none,[]⟩,⟨(some 20),(.call 88 [(.t 19)]),none,[]⟩,⟨(some 21),(.bi .add (.t 20) (.c (.i .u64 1))),none,[]⟩,⟨(some 4),(.mv (.t 21)),none,[]⟩])
 .ret) .skip))
 (.seq (.reg [⟨(some 22),(.mv (.t 0)),none,[]⟩,⟨(some 23),(.nc (.t 22)),none,[]⟩,⟨(some 24),(.fa (.t 23) 3),none,[]⟩,⟨(some 25),(.ld (.t 24)),none,[]⟩,⟨(some 26),(.mv (.t 5)),none,[]⟩,⟨(some 27),(.ias 5 (.t 25) (.t 26)),none,[]⟩,⟨(some 28),(.fa (.t 27) 0),none,[]⟩,⟨(some 29),(.ld (.t 28)),none,[]⟩,⟨(some 4),(.mv (.t 29)),none,[]⟩])
 .ret))))) }
noncomputable def f83 : AFn := { np := 2, nt := 20, res := [], body :=
 (.seq (.reg [⟨(some 3),(.bx (.t 1)),none,[]⟩])
 (.seq (.reg [⟨(some 4),(.mv (.t 0)),none,[]⟩,⟨(some 5),(.nc (.t 4)),none,[]⟩,⟨(some 6),(.fa (.t 5) 23),none,[]⟩,⟨(some 7),(.ld (.t 6)),none,[]⟩,⟨(some 8),(.lns false (.t 7)),none,[]⟩,⟨(some 9),(.bi .lss (.t 8) (.c (.i .i64 50000))),none,[]⟩])
 (.cond (.t 9) (.drw [⟨(some 10),(.mv (.t 0)),none,[]⟩,⟨(some 11),(.mv (.t 0)),none,[]⟩,⟨(some 12),(.nc (.t 11)),none,[]⟩,⟨(some 13),(.fa (.t 12) 23),none,[]⟩,⟨(some 14),(.ld (.t 13)),none,[]⟩,⟨(some 15),(.ldn (.t 3) 10),none,[]⟩,⟨(some 16),(.bs 1 [(.i .i64 0),(.i .i64 0),(.i .i64 0),(.i .i64 0),(.i .u64 0),(.i .i64 0),(.i .i64 0),(.i .i64 0),(.i .i64 0),.nsl] [(0,10,(.t 15))]),none,[]⟩,⟨(some 17),(.ap 10 (.t 14) (.t 16)),none,[]⟩,⟨(some 18),(.nc (.t 10)),none,[]⟩,⟨(some 19),(.fa (.t 18) 23),none,[]⟩,⟨none,(.st (.t 19) (.t 17) 1),none,[]⟩]) .skip))) }
noncomputable def f84 : AFn := { np := 4, nt := 17, res := [.c 8 10 true], body :=
 (.seq (.reg [⟨(some 8),(.al [(.i .i64 0),(.i .i64 0),(.i .i64 0),(.i .i64 0),(.i .u64 0),(.i .i64 0),(.i .i64 0),(.i .i64 0),(.i .i64 0),.nsl]),none,[]⟩])
 (.seq (.reg [⟨(some 9),(.mv (.t 1)),none,[]⟩,⟨(some 10),(.mv (.t 0)),none,[]⟩,⟨(some 11),(.nc (.t 10)),none,[]⟩,⟨(some 12),(.fa (.t 11) 14),none,[]⟩,⟨(some 13),(.ld (.t 12)),none,[]⟩,⟨(some 14),(.mv (.t 2)),none,[]⟩,⟨(some 15),(.mv (.t 3)),none,[]⟩,⟨(some 16),(.bl [(.i .i64 0),(.i .i64 0),(.i .i64 0),(.i .i64 0),(.i .u64 0),(.i .i64 0),(.i .i64 0),(.i .i64 0),(.i .i64 0),.nsl] [(0,1,(.t 9)),(1,1,(.t 13)),(2,1,(.t 14)),(3,1,(.c (.i .i64 7))),(4,1,(.t 15))]),none,[]⟩,⟨none,(.st (.t 8) (.t 16) 10),none,[]⟩])
 .ret)) }
noncomputable def f85 : AFn := { np := 3, nt := 49, res := [.t 6,.t 7], body :=
 (.seq (.reg [⟨(some 6),(.mv (.c (.i .i64 0))),none,[]⟩,⟨(some 7),(.mv (.c (.b false))),none,[]⟩])
 (.seq (.reg [⟨(some 12),(.mv (.t 0)),none,[]⟩,⟨(some 13),(.lns false (.t 12)),none,[]⟩,⟨(some 8),(.mv (.t 13)),none,[]⟩])
 (.seq (.reg [⟨(some 14),(.mv (.t 8)),none,[]⟩,⟨(some 9),(.mv (.c (.i .i64 0))),none,[]⟩,⟨(some 10),(.mv (.t 14)),none,[]⟩])
 (.seq (.blk 0 (.loop (.seq (.seq (.reg [⟨(some 15),(.mv (.t 9)),none,[]⟩,⟨(some 16),(.mv (.t 10)),none,[]⟩,⟨(some 17),(.bi .lss (.t 15) (.t 16)),none,[]⟩])
 (.cond (.t 17) .skip (.exit 0)))
 (.blk 1 (.seq (.reg [⟨(some 18),(.mv (.t 9)),none,[]⟩,⟨(some 19),(.mv (.t 10)),none,[]⟩,⟨(some 20),(.bi .add (.t 18) (.t 19)),none,[]⟩,⟨(some 21),(.cvi .u64 (.t 20)),none,[]⟩,⟨(some 22),(.bi .shr (.t 21) (.c (.i .u64 1))),none,[]⟩,⟨(some 23),(.cvi .i64 (.t 22)),none,[]⟩,⟨(some 11),(.mv (.t 23)),none,[]⟩])
 (.seq (.reg [⟨(some 24),(.mv (.t 2)),none,[]⟩,⟨(some 25),(.mv (.t 0)),none,[]⟩,⟨(some 26),(.mv (.t 11)),none,[]⟩,⟨(some 27),(.ias 1 (.t 25) (.t 26)),none,[]⟩,⟨(some 28),(.ld (.t 27)),none,[]⟩,⟨(some 29),(.mv (.t 1)),none,[]⟩,⟨(some 30),(.cv (.t 24) [(.t 28),(.t 29)]),none,[]⟩,⟨(some 31),(.bi .lss (.t 30) (.c (.i .i64 0))),none,[]⟩])
 (.cond (.t 31) (.reg [⟨(some 32),(.mv (.t 11)),none,[]⟩,⟨(some 33),(.bi .add (.t 32) (.c (.i .i64 1))),none,[]⟩,⟨(some 9),(.mv (.t 33)),none,[]⟩]) (.reg [⟨(some 34),(.mv (.t 11)),none,[]⟩,⟨(some 10),(.mv (.t 34)),none,[]⟩]))))))))
 (.seq (.reg [⟨(some 35),(.mv (.t 9)),none,[]⟩,⟨(some 36),(.mv (.t 9)),none,[]⟩,⟨(some 37),(.mv (.t 8)),none,[]⟩,⟨(some 38),(.bi .lss (.t 36) (.t 37)),none,[]⟩,⟨(some 39),(.mv (.t 38)),none,[]⟩,⟨(some 40),(.mv (.t 2)),(some (39,true)),[]⟩,⟨(some 41),(.mv (.t 0)),(some (39,true)),[]⟩,⟨(some 42),(.mv (.t 9)),(some (39,true)),[]⟩,⟨(some 43),(.ias 1 (.t 41) (.t 42)),(some (39,true)),[]⟩,⟨(some 44),(.ld (.t 43)),(some (39,true)),[]⟩,⟨(some 45),(.mv (.t 1)),(some (39,true)),[]⟩,⟨(some 46),(.cv (.t 40) [(.t 44),(.t 45)]),(some (39,true)),[]⟩,⟨(some 47),(.bi .eql (.t 46) (.c (.i .i64 0))),(some (39,true)),[]⟩,⟨(some 48),(.pk (.t 39) (.t 47) (.c (.b false))),none,[]⟩,⟨(some 6),(.mv (.t 35)),none,[]⟩,⟨(some 7),(.mv (.t 48)),none,[]⟩])
 .ret))))) }
noncomputable def f86 : AFn := { np := 2, nt := 11, res := [.t 4], body :=
 (.seq (.reg [⟨(some 4),(.mv (.c (.i .i64 0))),none,[]⟩])
 (.seq (.reg [⟨(some 5),(.mv (.t 0)),none,[]⟩,⟨(some 6),(.nc (.t 5)),none,[]⟩,⟨(some 7),(.fa (.t 6) 0),none,[]⟩,⟨(some 8),(.ld (.t 7)),none,[]⟩,⟨(some 9),(.mv (.t 1)),none,[]⟩,⟨(some 10),(.call 87 [(.t 8),(.t 9)]),none,[]⟩,⟨(some 4),(.mv (.t 10)),none,[]⟩])
 .ret)) }
noncomputable def f87 : AFn := { np := 2, nt := 20, res := [.t 4], body :=
 (.seq (.reg [⟨(some 4),(.mv (.c (.i .i64 0))),none,[]⟩])
 (.seq (.reg [⟨(some 7),(.mv (.t 0)),none,[]⟩,⟨(some 8),(.call 134 [(.t 7)]),none,[]⟩,⟨(some 5),(.mv (.t 8)),none,[]⟩])
 (.seq (.reg [⟨(some 9),(.mv (.t 1)),none,[]⟩,⟨(some 10),(.call 134 [(.t 9)]),none,[]⟩,⟨(some 6),(.mv (.t 10)),none,[]⟩])
 (.seq (.seq (.reg [⟨(some 11),(.mv (.t 5)),none,[]⟩])
 (.cond (.t 11) (.seq (.seq (.reg [⟨(some 12),(.mv (.t 6)),none,[]⟩])
 (.cond (.t 12) (.seq (.reg [⟨(some 4),(.mv (.c (.i .i64 0))),none,[]⟩])
 .ret) .skip))
 (.seq (.reg [⟨(some 4),(.mv (.c (.i .i64 (-1)))),none,[]⟩])
 .ret)) .skip))
 (.seq (.seq (.reg [⟨(some 13),(.mv (.t 6)),none,[]⟩])
 (.cond (.t 13) (.seq (.reg [⟨(some 4),(.mv (.c (.i .i64 1))),none,[]⟩])
 .ret) .skip))
 (.seq (.seq (.reg [⟨(some 14),(.mv (.t 0)),none,[]⟩,⟨(some 15),(.mv (.t 1)),none,[]⟩,⟨(some 16),(.bi .lss (.t 14) (.t 15)),none,[]⟩])
 (.cond (.t 16) (.seq (.reg [⟨(some 4),(.mv (.c (.i .i64 (-1)))),none,[]⟩])
 .ret) .skip))
 (.seq (.seq (.reg [⟨(some 17),(.mv (.t 0)),none,[]⟩,⟨(some 18),(.mv (.t 1)),none,[]⟩,⟨(some 19),(.bi .gtr (.t 17) (.t 18)),none,[]⟩])
 (.cond (.t 19) (.seq (.reg [⟨(some 4),(.mv (.c (.i .i64 1))),none,[]⟩])
 .ret) .skip))
 (.seq (.reg [⟨(some 4),(.mv (.c (.i .i64 0))),none,[]⟩])
 .ret)))))))) }
noncomputable def f88 : AFn := { np := 1, nt := 9, res := [.t 2], body :=
 (.seq (.reg [⟨(some 2),(.mv (.c (.i .u64 0))),none,[]⟩])
 (.seq (.seq (.reg [⟨(some 3),(.mv (.t 0)),none,[]⟩,⟨(some 4),(.eq false .ptr (.t 3) (.c .np)),none,[]⟩])
 (.cond (.t 4) (.seq (.reg [⟨(some 2),(.mv (.c (.i .u64 0))),none,[]⟩])
 .ret) .skip))
 (.seq (.reg [⟨(some 5),(.mv (.t 0)),none,[]⟩,⟨(some 6),(.nc (.t 5)),none,[]⟩,⟨(some 7),(.fa (.t 6) 1),none,[]⟩,⟨(some 8),(.ld (.t 7)),none,[]⟩,⟨(some 2),(.mv (.t 8)),none,[]⟩])
 .ret))) }
noncomputable def f89 : AFn := { np := 3, nt := 43, res := [.t 6], body :=
 (.seq (.reg [⟨(some 6),(.mv (.c (.i .i64 0))),none,[]⟩])
 (.seq (.reg [⟨(some 10),(.mv (.t 0)),none,[]⟩,⟨(some 11),(.mv (.t 1)),none,[]⟩,⟨(some 12),(.call 135 [(.t 10),(.t 11)]),none,[]⟩,⟨(some 9),(.mv (.t 12)),none,[]⟩,⟨(some 13),(.ex (.t 9) 0),none,[]⟩,⟨(some 14),(.ex (.t 9) 1),none,[]⟩,⟨(some 7),(.mv (.t 13)),none,[]⟩,⟨(some 8),(.mv (.t 14)),none,[]⟩])
 (.seq (.blk 0 (.seq (.reg [⟨(some 16),(.mv (.t 8)),none,[]⟩,⟨(some 17),(.un .not (.t 16)),none,[]⟩,⟨(some 15),(.mv (.t 17)),none,[]⟩])
 (.cond (.t 15) (.seq (.reg [⟨(some 6),(.mv (.c (.i .i64 5))),none,[]⟩])
 .ret) (.seq (.reg [⟨(some 19),(.mv (.t 2)),none,[]⟩,⟨(some 20),(.bi .lss (.t 19) (.c (.i .i64 2))),none,[]⟩,⟨(some 21),(.mv (.t 20)),none,[]⟩,⟨(some 22),(.mv (.t 2)),(some (21,false)),[]⟩,⟨(some 23),(.bi .gtr (.t 22) (.c (.i .i64 4))),(some (21,false)),[]⟩,⟨(some 24),(.pk (.t 21) (.c (.b true)) (.t 23)),none,[]⟩,⟨(some 18),(.mv (.t 24)),none,[]⟩])
 (.cond (.t 18) (.seq (.reg [⟨(some 6),(.mv (.c (.i .i64 1))),none,[]⟩])
 .ret) (.seq (.reg [⟨(some 26),(.mv (.t 0)),none,[]⟩,⟨(some 27),(.nc (.t 26)),none,[]⟩,⟨(some 28),(.fa (.t 27) 3),none,[]⟩,⟨(some 29),(.ld (.t 28)),none,[]⟩,⟨(some 30),(.mv (.t 7)),none,[]⟩,⟨(some 31),(.ias 5 (.t 29) (.t 30)),none,[]⟩,⟨(some 32),(.fa (.t 31) 3),none,[]⟩,⟨(some 33),(.ld (.t 32)),none,[]⟩,⟨(some 34),(.bi .neq (.t 33) (.c (.i .i64 1))),none,[]⟩,⟨(some 25),(.mv (.t 34)),none,[]⟩])
 (.cond (.t 25) (.seq (.reg [⟨(some 6),(.mv (.c (.i .i64 8))),none,[]⟩])
 .ret) .skip)))))))
 (.seq (.reg [⟨(some 35),(.mv (.t 0)),none,[]⟩,⟨(some 36),(.nc (.t 35)),none,[]⟩,⟨(some 37),(.fa (.t 36) 3),none,[]⟩,⟨(some 38),(.ld (.t 37)),none,[]⟩,⟨(some 39),(.mv (.t 7)),none,[]⟩,⟨(some 40),(.mv (.t 2)),none,[]⟩,⟨(some 41),(.ias 5 (.t 38) (.t 39)),none,[]⟩,⟨(some 42),(.fa (.t 41) 3),none,[]⟩,⟨none,(.st (.t 42) (.t 40) 1),none,[]⟩])
 (.seq (.reg [⟨(some 6),(.mv (.c (.i .i64 0))),none,[]⟩])
 .ret))))) }
noncomputable def f90 : AFn := { np := 2, nt := 37, res := [.t 4], body :=
 (.seq (.reg [⟨(some 4),(.mv (.c (.i .i64 0))),none,[]⟩])
 (.seq (.reg [⟨(some 8),(.mv (.t 0)),none,[]⟩,⟨(some 9),(.mv (.t 1)),none,[]⟩,⟨(some 10),(.call 135 [(.t 8),(.t 9)]),none,[]⟩,⟨(some 7),(.mv (.t 10)),none,[]⟩,⟨(some 11),(.ex (.t 7) 0),none,[]⟩,⟨(some 12),(.ex (.t 7) 1),none,[]⟩,⟨(some 5),(.mv (.t 11)),none,[]⟩,⟨(some 6),(.mv (.t 12)),none,[]⟩])
 (.seq (.blk 0 (.seq (.reg [⟨(some 14),(.mv (.t 6)),none,[]⟩,⟨(some 15),(.un .not (.t 14)),none,[]⟩,⟨(some 13),(.mv (.t 15)),none,[]⟩])
 (.cond (.t 13) (.seq (.reg [⟨(some 4),(.mv (.c (.i .i64 5))),none,[]⟩])
 .ret) (.seq (.reg [⟨(some 17),(.mv (.t 0)),none,[]⟩,⟨(some 18),(.nc (.t 17)),none,[]⟩,⟨(some 19),(.fa (.t 18) 3),none,[]⟩,⟨(some 20),(.ld (.t 19)),none,[]⟩,⟨(some 21),(.mv (.t 5)),none,[]⟩,⟨(some 22),(.ias 5 (.t 20) (.t 21)),none,[]⟩,⟨(some 23),(.fa (.t 22) 3),none,[]⟩,⟨(some 24),(.ld (.t 23)),none,[]⟩,⟨(some 25),(.bi .eql (.t 24) (.c (.i .i64 1))),none,[]⟩,⟨(some 16),(.mv (.t 25)),none,[]⟩])
 (.cond (.t 16) (.seq (.reg [⟨(some 4),(.mv (.c (.i .i64 1))),none,[]⟩])
 .ret) .skip)))))
 (.seq (.reg [⟨(some 26),(.mv (.t 0)),none,[]⟩,⟨(some 27),(.mv (.t 0)),none,[]⟩,⟨(some 28),(.nc (.t 27)),none,[]⟩,⟨(some 29),(.fa (.t 28) 3),none,[]⟩,⟨(some 30),(.ld (.t 29)),none,[]⟩,⟨(some 31),(.mv (.t 5)),none,[]⟩,⟨(some 32),(.mv (.t 5)),none,[]⟩,⟨(some 33),(.bi .add (.t 32) (.c (.i .i64 1))),none,[]⟩,⟨(some 34),(.call 136 [(.t 30),(.t 31),(.t 33)]),none,[]⟩,⟨(some 35),(.nc (.t 26)),none,[]⟩,⟨(some 36),(.fa (.t 35) 3),none,[]⟩,⟨none,(.st (.t 36) (.t 34) 1),none,[]⟩])
 (.seq (.reg [⟨(some 4),(.mv (.c (.i .i64 0))),none,[]⟩])
 .ret))))) }
noncomputable def f91 : AFn := { np := 2, nt := 42, res := [.t 4], body :=
 (.seq (.reg [⟨(some 4),(.mv (.c .nsl)),none,[]⟩])
 (.seq (.reg [⟨(some 8),(.mv (.t 0)),none,[]⟩,⟨(some 9),(.mv (.t 1)),none,[]⟩,⟨(some 10),(.call 137 [(.t 8),(.t 9)]),none,[]⟩,⟨(some 5),(.mv (.t 10)),none,[]⟩])
 (.seq (.seq (.reg [⟨(some 11),(.mv (.t 5)),none,[]⟩,⟨(some 12),(.bi .eql (.t 11) (.c (.i .i64 (-1)))),none,[]⟩])
 (.cond (.t 12) (.seq (.reg [⟨(some 13),(.mv (.t 0)),none,[]⟩,⟨(some 4),(.mv (.t 13)),none,[]⟩])
 .ret) .skip))
 (.seq (.seq (.reg [⟨(some 14),(.mv (.t 5)),none,[]⟩,⟨(some 15),(.bi .add (.t 14) (.c (.i .i64 1))),none,[]⟩,⟨(some 6),(.mv (.t 15)),none,[]⟩])
 (.blk 0 (.loop (.seq (.seq (.reg [⟨(some 16),(.mv (.t 6)),none,[]⟩,⟨(some 17),(.mv (.t 0)),none,[]⟩,⟨(some 18),(.lns false (.t 17)),none,[]⟩,⟨(some 19),(.bi .lss (.t 16) (.t 18)),none,[]⟩])
 (.cond (.t 19) .skip (.exit 0)))
 (.seq (.blk 1 (.seq (.reg [⟨(some 22),(.mv (.t 0)),none,[]⟩,⟨(some 23),(.mv (.t 6)),none,[]⟩,⟨(some 24),(.ias 1 (.t 22) (.t 23)),none,[]⟩,⟨(some 25),(.ld (.t 24)),none,[]⟩,⟨(some 7),(.mv (.t 25)),none,[]⟩])
 (.seq (.reg [⟨(some 26),(.mv (.t 1)),none,[]⟩,⟨(some 27),(.mv (.t 7)),none,[]⟩,⟨(some 28),(.cv (.t 26) [(.t 27)]),none,[]⟩,⟨(some 29),(.un .not (.t 28)),none,[]⟩])
 (.cond (.t 29) (.seq (.reg [⟨(some 30),(.mv (.t 0)),none,[]⟩,⟨(some 31),(.mv (.t 5)),none,[]⟩,⟨(some 32),(.mv (.t 7)),none,[]⟩,⟨(some 33),(.ias 1 (.t 30) (.t 31)),none,[]⟩,⟨none,(.st (.t 33) (.t 32) 1),none,[]⟩])
 (.reg [⟨(some 34),(.mv (.t 5)),none,[]⟩,⟨(some 35),(.bi .add (.t 34) (.c (.i .i64 1))),none,[]⟩,⟨(some 5),(.mv (.t 35)),none,[]⟩])) .skip))))
 (.reg [⟨(some 20),(.mv (.t 6)),none,[]⟩,⟨(some 21),(.bi .add (.t 20) (.c (.i .i64 1))),none,[]⟩,⟨(some 6),(.mv (.t 21)),none,[]⟩]))))))
 (.seq (.reg [⟨(some 36),(.mv (.t 0)),none,[]⟩,⟨(some 37),(.mv (.t 5)),none,[]⟩,⟨(some 38),(.sll 1 (.t 36) (some (.t 37)) none none),none,[]⟩,⟨none,(.cls [.np] (.t 38)),none,[]⟩])
 (.seq (.reg [⟨(some 39),(.mv (.t 0)),none,[]⟩,⟨(some 40),(.mv (.t 5)),none,[]⟩,⟨(some 41),(.sll 1 (.t 39) none (some (.t 40)) none),none,[]⟩,⟨(some 4),(.mv (.t 41)),none,[]⟩])
 .ret)))))) }
noncomputable def f92 : AFn := { np := 1, nt := 7, res := [.t 3], body :=
 (.seq (.reg [⟨(some 3),(.mv (.c (.b false))),none,[]⟩])
 (.seq (.reg [⟨(some 4),(.mv (.t 0)),none,[]⟩,⟨(some 5),(.ld (.t 1)),none,[]⟩,⟨(some 6),(.eq false .ptr (.t 4) (.t 5)),none,[]⟩,⟨(some 3),(.mv (.t 6)),none,[]⟩])
 .ret)) }
noncomputable def f93 : AFn := { np := 1, nt := 8, res := [.t 2], body :=
 (.seq (.reg [⟨(some 2),(.mv (.c .nsl)),none,[]⟩])
 (.seq (.seq (.reg [⟨(some 3),(.mv (.t 0)),none,[]⟩,⟨(some 4),(.eq false .slc (.t 3) (.c .nsl)),none,[]⟩])
 (.cond (.t 4) (.seq (.reg [⟨(some 2),(.mv (.c .nsl)),none,[]⟩])
 .ret) .skip))
 (.seq (.reg [⟨(some 5),(.bs 0 [] []),none,[]⟩,⟨(some 6),(.mv (.t 0)),none,[]⟩,⟨(some 7),(.ap 2 (.t 5) (.t 6)),none,[]⟩,⟨(some 2),(.mv (.t 7)),none,[]⟩])
 .ret))) }
noncomputable def f94 : AFn := { np := 3, nt := 30, res := [], body :=
 (.seq (.seq (.reg [⟨(some 7),(.mv (.t 2)),none,[]⟩,⟨(some 8),(.mv (.t 0)),none,[]⟩,⟨(some 9),(.nc (.t 8)),none,[]⟩,⟨(some 10),(.fa (.t 9) 17),none,[]⟩,⟨(some 11),(.ld (.t 10)),none,[]⟩,⟨(some 12),(.call 48 [(.t 11)]),none,[]⟩,⟨(some 13),(.bi .gtr (.t 7) (.t 12)),none,[]⟩])
 (.cond (.t 13) .ret .skip))
 (.seq (.reg [⟨(some 14),(.mv (.t 0)),none,[]⟩,⟨(some 15),(.mv (.t 1)),none,[]⟩,⟨(some 16),(.call 46 [(.t 14),(.t 15)]),none,[]⟩])
 (.seq (.reg [⟨(some 17),(.mv (.t 2)),none,[]⟩,⟨(some 18),(.mv (.t 0)),none,[]⟩,⟨(some 19),(.mv (.t 1)),none,[]⟩,⟨(some 20),(.call 45 [(.t 18),(.t 19)]),none,[]⟩,⟨(some 21),(.bi .geq (.t 17) (.t 20)),none,[]⟩])
 (.cond (.t 21) (.seq (.reg [⟨(some 22),(.mv (.t 0)),none,[]⟩,⟨(some 23),(.mv (.t 1)),none,[]⟩,⟨(some 24),(.mv (.t 2)),none,[]⟩,⟨(some 25),(.call 84 [(.t 22),(.c (.i .i64 12)),(.t 23),(.t 24)]),none,[]⟩,⟨(some 6),(.al [(.i .i64 0),(.i .i64 0),(.i .i64 0),(.i .i64 0),(.i .u64 0),(.i .i64 0),(.i .i64 0),(.i .i64 0),(.i .i64 0),.nsl]),none,[]⟩,⟨none,(.st (.t 6) (.t 25) 10),none,[]⟩])
 (.seq (.reg [⟨(some 26),(.fa (.t 6) 8),none,[]⟩,⟨none,(.st (.t 26) (.c (.i .i64 1)) 1),none,[]⟩])
 (.reg [⟨(some 27),(.mv (.t 0)),none,[]⟩,⟨(some 28),(.ldn (.t 6) 10),none,[]⟩,⟨(some 29),(.call 83 [(.t 27),(.t 28)]),none,[]⟩]))) .skip)))) }
noncomputable def f95 : AFn := { np := 1, nt := 9, res := [.t 2], body :=
 (.seq (.reg [⟨(some 2),(.mv (.c (.i .i64 0))),none,[]⟩])
 (.seq (.seq (.reg [⟨(some 3),(.mv (.t 0)),none,[]⟩,⟨(some 4),(.eq false .ptr (.t 3) (.c .np)),none,[]⟩])
 (.cond (.t 4) (.seq (.reg [⟨(some 2),(.mv (.c (.i .i64 0))),none,[]⟩])
 .ret) .skip))
 (.seq (.reg [⟨(some 5),(.mv (.t 0)),none,[]⟩,⟨(some 6),(.nc (.t 5)),none,[]⟩,⟨(some 7),(.fa (.t 6) 1),none,[]⟩,⟨(some 8),(.ld (.t 7)),none,[]⟩,⟨(some 2),(.mv (.t 8)),none,[]⟩])
 .ret))) }
noncomputable def f96 : AFn := { np := 2, nt := 11, res := [.t 4], body :=
 (.seq (.reg [⟨(some 4),(.mv (.c (.i .i64 0))),none,[]⟩])
 (.seq (.reg [⟨(some 5),(.mv (.t 0)),none,[]⟩,⟨(some 6),(.call 138 [(.t 5)]),none,[]⟩,⟨(some 7),(.mv (.t 1)),none,[]⟩,⟨(some 8),(.call 138 [(.t 7)]),none,[]⟩,⟨(some 9),(.bi .add (.t 6) (.t 8)),none,[]⟩,⟨(some 10),(.call 138 [(.t 9)]),none,[]⟩,⟨(some 4),(.mv (.t 10)),none,[]⟩])
 .ret)) }
noncomputable def f97 : AFn := { np := 1, nt := 109, res := [], body :=
 (.seq (.seq (.drw [⟨(some 11),(.mv (.t 0)),none,[]⟩,⟨(some 12),(.nc (.t 11)),none,[]⟩,⟨(some 13),(.fa (.t 12) 16),none,[]⟩,⟨(some 14),(.ld (.t 13)),none,[]⟩,⟨(some 15),(.mv (.t 0)),none,[]⟩,⟨(some 16),(.nc (.t 15)),none,[]⟩,⟨(some 17),(.fa (.t 16) 40),none,[]⟩,⟨(some 18),(.ld (.t 17)),none,[]⟩,⟨(some 19),(.bi .lss (.t 14) (.t 18)),none,[]⟩])
 (.cond (.t 19) .ret .skip))
 (.seq (.reg [⟨(some 2),(.mv (.c .np)),none,[]⟩])
 (.seq (.reg [⟨(some 20),(.mv (.t 0)),none,[]⟩,⟨(some 21),(.nc (.t 20)),none,[]⟩,⟨(some 22),(.fa (.t 21) 16),none,[]⟩,⟨(some 23),(.ld (.t 22)),none,[]⟩,⟨(some 24),(.bi .add (.t 23) (.c (.i .i64 1))),none,[]⟩,⟨(some 3),(.mv (.t 24)),none,[]⟩])
 (.seq (.seq (.reg [⟨(some 25),(.mv (.t 0)),none,[]⟩,⟨(some 26),(.nc (.t 25)),none,[]⟩,⟨(some 27),(.fa (.t 26) 19),none,[]⟩,⟨(some 28),(.ld (.t 27)),none,[]⟩,⟨(some 29),(.lns false (.t 28)),none,[]⟩,⟨(some 30),(.mv (.c (.i .i64 0))),none,[]⟩])
 (.blk 0 (.loop (.seq (.reg [⟨(some 31),(.bi .lss (.t 30) (.t 29)),none,[]⟩])
 (.seq (.cond (.t 31) .skip (.exit 0))
 (.seq (.blk 1 (.seq (.reg [⟨(some 32),(.ias 1 (.t 28) (.t 30)),none,[]⟩,⟨(some 33),(.ld (.t 32)),none,[]⟩,⟨(some 5),(.mv (.t 33)),none,[]⟩])
 (.seq (.reg [⟨(some 35),(.mv (.t 5)),none,[]⟩,⟨(some 36),(.nc (.t 35)),none,[]⟩,⟨(some 37),(.fa (.t 36) 13),none,[]⟩,⟨(some 38),(.ld (.t 37)),none,[]⟩,⟨(some 39),(.call 139 [(.t 38)]),none,[]⟩,⟨(some 34),(.mv (.t 39)),none,[]⟩,⟨(some 40),(.ex (.t 34) 0),none,[]⟩,⟨(some 41),(.ex (.t 34) 1),none,[]⟩,⟨(some 6),(.mv (.t 40)),none,[]⟩,⟨(some 7),(.mv (.t 41)),none,[]⟩])
 (.seq (.reg [⟨(some 42),(.mv (.t 7)),none,[]⟩,⟨(some 43),(.mv (.t 42)),none,[]⟩,⟨(some 44),(.mv (.t 6)),(some (43,true)),[]⟩,⟨(some 45),(.mv (.t 3)),(some (43,true)),[]⟩,⟨(some 46),(.bi .lss (.t 44) (.t 45)),(some (43,true)),[]⟩,⟨(some 47),(.pk (.t 43) (.t 46) (.c (.b false))),none,[]⟩])
 (.cond (.t 47) (.reg [⟨(some 48),(.mv (.t 5)),none,[]⟩,⟨(some 49),(.mv (.t 6)),none,[]⟩,⟨(some 2),(.mv (.t 48)),none,[]⟩,⟨(some 3),(.mv (.t 49)),none,[]⟩]) .skip)))))
 (.reg [⟨(some 50),(.bi .add (.t 30) (.c (.i .i64 1))),none,[]⟩,⟨(some 30),(.mv (.t 50)),none,[]⟩])))))))
 (.seq (.seq (.reg [⟨(some 51),(.mv (.t 2)),none,[]⟩,⟨(some 52),(.eq false .ptr (.t 51) (.c .np)),none,[]⟩])
 (.cond (.t 52) .ret .skip))
 (.seq (.reg [⟨(some 53),(.mv (.t 0)),none,[]⟩,⟨(some 54),(.mv (.t 0)),none,[]⟩,⟨(some 55),(.nc (.t 54)),none,[]⟩,⟨(some 56),(.fa (.t 55) 16),none,[]⟩,⟨(some 57),(.ld (.t 56)),none,[]⟩,⟨(some 58),(.bi .add (.t 57) (.c (.i .i64 32))),none,[]⟩,⟨(some 59),(.nc (.t 53)),none,[]⟩,⟨(some 60),(.fa (.t 59) 40),none,[]⟩,⟨none,(.st (.t 60) (.t 58) 1),none,[]⟩])
 (.seq (.seq (.drw [⟨(some 62),(.mv (.t 2)),none,[]⟩,⟨(some 63),(.nc (.t 62)),none,[]⟩,⟨(some 64),(.fa (.t 63) 13),none,[]⟩,⟨(some 65),(.ld (.t 64)),none,[]⟩,⟨(some 66),(.mv (.t 0)),none,[]⟩,⟨(some 67),(.nc (.t 66)),none,[]⟩,⟨(some 68),(.fa (.t 67) 16),none,[]⟩,⟨(some 69),(.ld (.t 68)),none,[]⟩,⟨(some 70),(.call 140 [(.t 65),(.t 69)]),none,[]⟩,⟨(some 61),(.mv (.t 70)),none,[]⟩,⟨(some 71),(.ex (.t 61) 0),none,[]⟩,⟨(some 72),(.ex (.t 61) 1),none,[]⟩,⟨(some 8),(.mv (.t 71)),none,[]⟩,⟨(some 9),(.mv (.t 72)),none,[]⟩])
 (.seq (.reg [⟨(some 73),(.mv (.t 9)),none,[]⟩,⟨(some 74),(.bi .neq (.t 73) (.c (.i .i64 0))),none,[]⟩])
 (.cond (.t 74) (.seq (.reg [⟨(some 75),(.mv (.t 0)),none,[]⟩,⟨(some 76),(.mv (.t 2)),none,[]⟩,⟨(some 77),(.call 49 [(.t 75),(.t 76),(.c (.i .i64 3))]),none,[]⟩])
 .ret) .skip)))
 (.seq (.reg [⟨(some 78),(.mv (.t 0)),none,[]⟩,⟨(some 79),(.mv (.t 2)),none,[]⟩,⟨(some 80),(.nc (.t 79)),none,[]⟩,⟨(some 81),(.fa (.t 80) 1),none,[]⟩,⟨(some 82),(.ld (.t 81)),none,[]⟩,⟨(some 83),(.call 46 [(.t 78),(.t 82)]),none,[]⟩])
 (.seq (.drw [⟨(some 84),(.mv (.t 0)),none,[]⟩,⟨(some 85),(.mv (.t 0)),none,[]⟩,⟨(some 86),(.nc (.t 85)),none,[]⟩,⟨(some 87),(.fa (.t 86) 15),none,[]⟩,⟨(some 88),(.ld (.t 87)),none,[]⟩,⟨(some 90),(.mv (.t 2)),none,[]⟩,⟨(some 91),(.nc (.t 90)),none,[]⟩,⟨(some 92),(.fa (.t 91) 1),none,[]⟩,⟨(some 93),(.ld (.t 92)),none,[]⟩,⟨(some 94),(.mv (.t 2)),none,[]⟩,⟨(some 95),(.nc (.t 94)),none,[]⟩,⟨(some 96),(.fa (.t 95) 0),none,[]⟩,⟨(some 97),(.ld (.t 96)),none,[]⟩,⟨(some 10),(.al [(.i .i64 0),(.i .i64 0),(.i .i64 0),(.i .i64 0),(.i .u64 0),(.i .i64 0),(.i .i64 0),(.i .i64 0),(.i .i64 0),.nsl]),none,[]⟩,⟨(some 89),(.inv (.t 88) [(91,294,[]),(307,335,[]),(313,405,[])] []),none,[(93,(.ld (.t 92)),none),(97,(.ld (.t 96)),none)]⟩,⟨(some 98),(.call 84 [(.t 84),(.t 89),(.t 93),(.t 97)]),none,[]⟩,⟨none,(.st (.t 10) (.t 98) 10),none,[]⟩])
 (.seq (.reg [⟨(some 99),(.mv (.t 2)),none,[]⟩,⟨(some 100),(.nc (.t 99)),none,[]⟩,⟨(some 101),(.fa (.t 100) 2),none,[]⟩,⟨(some 102),(.ld (.t 101)),none,[]⟩,⟨(some 103),(.lns false (.t 102)),none,[]⟩,⟨(some 104),(.fa (.t 10) 7),none,[]⟩,⟨none,(.st (.t 104) (.t 103) 1),none,[]⟩,⟨(some 105),(.fa (.t 10) 8),none,[]⟩,⟨none,(.st (.t 105) (.c (.i .i64 2)) 1),none,[]⟩])
 (.reg [⟨(some 106),(.mv (.t 0)),none,[]⟩,⟨(some 107),(.ldn (.t 10) 10),none,[]⟩,⟨(some 108),(.call 83 [(.t 106),(.t 107)]),none,[]⟩]))))))))))) }
noncomputable def f98 : AFn := { np := 1, nt := 105, res := [], body :=
 (.seq (.seq (.drw [⟨(some 6),(.mv (.t 0)),none,[]⟩,⟨(some 7),(.nc (.t 6)),none,[]⟩,⟨(some 8),(.fa (.t 7) 16),none,[]⟩,⟨(some 9),(.ld (.t 8)),none,[]⟩,⟨(some 10),(.mv (.t 0)),none,[]⟩,⟨(some 11),(.nc (.t 10)),none,[]⟩,⟨(some 12),(.fa (.t 11) 41),none,[]⟩,⟨(some 13),(.ld (.t 12)),none,[]⟩,⟨(some 14),(.bi .lss (.t 9) (.t 13)),none,[]⟩,⟨(some 15),(.mv (.t 14)),none,[]⟩,⟨(some 16),(.mv (.t 0)),(some (15,false)),[]⟩,⟨(some 17),(.nc (.t 16)),(some (15,false)),[]⟩,⟨(some 18),(.fa (.t 17) 43),(some (15,false)),[]⟩,⟨(some 19),(.ld (.t 18)),(some (15,false)),[]⟩,⟨(some 20),(.eq true .ptr (.t 19) (.c .np)),(some (15,false)),[]⟩,⟨(some 21),(.pk (.t 15) (.c (.b true)) (.t 20)),none,[]⟩])
 (.cond (.t 21) .ret .skip))
 (.seq (.seq (.reg [⟨(some 22),(.mv (.t 0)),none,[]⟩,⟨(some 23),(.call 108 [(.t 22)]),none,[]⟩,⟨(some 24),(.lns false (.t 23)),none,[]⟩,⟨(some 25),(.mv (.c (.i .i64 0))),none,[]⟩])
 (.blk 0 (.loop (.seq (.reg [⟨(some 26),(.bi .lss (.t 25) (.t 24)),none,[]⟩])
 (.seq (.cond (.t 26) .skip (.exit 0))
 (.seq (.blk 1 (.seq (.reg [⟨(some 27),(.ias 1 (.t 23) (.t 25)),none,[]⟩,⟨(some 28),(.ld (.t 27)),none,[]⟩,⟨(some 3),(.mv (.t 28)),none,[]⟩])
 (.seq (.seq (.drw [⟨(some 29),(.mv (.t 0)),none,[]⟩,⟨(some 30),(.nc (.t 29)),none,[]⟩,⟨(some 31),(.fa (.t 30) 16),none,[]⟩,⟨(some 32),(.ld (.t 31)),none,[]⟩,⟨(some 33),(.mv (.t 3)),none,[]⟩,⟨(some 34),(.nc (.t 33)),none,[]⟩,⟨(some 35),(.fa (.t 34) 4),none,[]⟩,⟨(some 36),(.ld (.t 35)),none,[]⟩,⟨(some 37),(.mv (.t 3)),none,[]⟩,⟨(some 38),(.nc (.t 37)),none,[]⟩,⟨(some 39),(.fa (.t 38) 5),none,[]⟩,⟨(some 40),(.ld (.t 39)),none,[]⟩,⟨(some 41),(.mx [(.t 36),(.t 40)]),none,[]⟩,⟨(some 42),(.bi .sub (.t 32) (.t 41)),none,[]⟩,⟨(some 43),(.mv (.t 0)),none,[]⟩,⟨(some 44),(.nc (.t 43)),none,[]⟩,⟨(some 45),(.fa (.t 44) 0),none,[]⟩,⟨(some 46),(.fa (.t 45) 10),none,[]⟩,⟨(some 47),(.ld (.t 46)),none,[]⟩,⟨(some 48),(.bi .lss (.t 42) (.t 47)),none,[]⟩,⟨(some 49),(.mv (.t 48)),none,[]⟩,⟨(some 50),(.mv (.t 0)),(some (49,false)),[]⟩,⟨(some 51),(.nc (.t 50)),(some (49,false)),[]⟩,⟨(some 52),(.fa (.t 51) 43),(some (49,false)),[]⟩,⟨(some 53),(.ld (.t 52)),(some (49,false)),[]⟩,⟨(some 54),(.eq true .ptr (.t 53) (.c .np)),(some (49,false)),[]⟩,⟨(some 55),(.mv (.t 54)),(some (49,false)),[]⟩,⟨(some 56),(.mv (.t 0)),(some (55,true)),[]⟩,⟨(some 57),(.nc (.t 56)),(some (55,true)),[]⟩,⟨(some 58),(.fa (.t 57) 43),(some (55,true)),[]⟩,⟨(some 59),(.ld (.t 58)),(some (55,true)),[]⟩,⟨(some 60),(.nc (.t 59)),(some (55,true)),[]⟩,⟨(some 61),(.fa (.t 60) 5),(some (55,true)),[]⟩,⟨(some 62),(.ld (.t 61)),(some (55,true)),[]⟩,⟨(some 63),(.mv (.t 3)),(some (55,true)),[]⟩,⟨(some 64),(.nc (.t 63)),(some (55,true)),[]⟩,⟨(some 65),(.fa (.t 64) 5),(some (55,true)),[]⟩,⟨(some 66),(.ld (.t 65)),(some (55,true)),[]⟩,⟨(some 67),(.bi .leq (.t 62) (.t 66)),(some (55,true)),[]⟩,⟨(some 68),(.pk (.t 55) (.t 67) (.c (.b false))),(some (49,false)),[]⟩,⟨(some 69),(.pk (.t 49) (.c (.b true)) (.t 68)),none,[]⟩])
 (.cond (.t 69) (.exit 1) .skip))
 (.seq (.reg [⟨(some 71),(.mv (.t 0)),none,[]⟩,⟨(some 72),(.mv (.t 3)),none,[]⟩,⟨(some 73),(.call 112 [(.t 71),(.t 72)]),none,[]⟩,⟨(some 70),(.mv (.t 73)),none,[]⟩,⟨(some 74),(.ex (.t 70) 0),none,[]⟩,⟨(some 75),(.ex (.t 70) 1),none,[]⟩,⟨(some 4),(.al [(.i .i64 0),(.i .i64 0)]),none,[]⟩,⟨none,(.st (.t 4) (.t 74) 2),none,[]⟩,⟨(some 5),(.mv (.t 75)),none,[]⟩])
 (.seq (.reg [⟨(some 76),(.mv (.t 5)),none,[]⟩])
 (.cond (.t 76) (.reg [⟨(some 77),(.mv (.t 0)),none,[]⟩,⟨(some 78),(.mv (.t 3)),none,[]⟩,⟨(some 79),(.nc (.t 77)),none,[]⟩,⟨(some 80),(.fa (.t 79) 43),none,[]⟩,⟨none,(.st (.t 80) (.t 78) 1),none,[]⟩]) .skip))))))
 (.reg [⟨(some 81),(.bi .add (.t 25) (.c (.i .i64 1))),none,[]⟩,⟨(some 25),(.mv (.t 81)),none,[]⟩])))))))
 (.seq (.reg [⟨(some 82),(.mv (.t 0)),none,[]⟩,⟨(some 83),(.nc (.t 82)),none,[]⟩,⟨(some 84),(.fa (.t 83) 43),none,[]⟩,⟨(some 85),(.ld (.t 84)),none,[]⟩,⟨(some 86),(.eq true .ptr (.t 85) (.c .np)),none,[]⟩])
 (.cond (.t 86) (.seq (.drw [⟨(some 87),(.mv (.t 0)),none,[]⟩,⟨(some 88),(.nc (.t 87)),none,[]⟩,⟨(some 89),(.fa (.t 88) 43),none,[]⟩,⟨(some 90),(.ld (.t 89)),none,[]⟩,⟨(some 91),(.mv (.t 0)),none,[]⟩,⟨(some 92),(.nc (.t 91)),none,[]⟩,⟨(some 93),(.fa (.t 92) 16),none,[]⟩,⟨(some 94),(.ld (.t 93)),none,[]⟩,⟨(some 95),(.nc (.t 90)),none,[]⟩,⟨(some 96),(.fa (.t 95) 5),none,[]⟩,⟨none,(.st (.t 96) (.t 94) 1),none,[]⟩])
 (.reg [⟨(some 97),(.mv (.t 0)),none,[]⟩,⟨(some 98),(.mv (.t 0)),none,[]⟩,⟨(some 99),(.nc (.t 98)),none,[]⟩,⟨(some 100),(.fa (.t 99) 16),none,[]⟩,⟨(some 101),(.ld (.t 100)),none,[]⟩,⟨(some 102),(.bi .add (.t 101) (.c (.i .i64 32))),none,[]⟩,⟨(some 103),(.nc (.t 97)),none,[]⟩,⟨(some 104),(.fa (.t 103) 41),none,[]⟩,⟨none,(.st (.t 104) (.t 102) 1),none,[]⟩])) .skip)))) }
noncomputable def f99 : AFn := { np := 1, nt := 11, res := [.c 2 3 true,.t 3], body :=
 (.seq (.reg [⟨(some 2),(.al [(.i .i64 0),(.i .u64 0),.nsl]),none,[]⟩,⟨(some 3),(.mv (.c (.b false))),none,[]⟩])
 (.seq (.reg [⟨(some 4),(.mv (.t 0)),none,[]⟩,⟨(some 5),(.nc (.t 4)),none,[]⟩,⟨(some 6),(.fa (.t 5) 18),none,[]⟩,⟨(some 7),(.ld (.t 6)),none,[]⟩,⟨(some 8),(.call 141 [(.t 7)]),none,[]⟩,⟨(some 9),(.ex (.t 8) 0),none,[]⟩,⟨(some 10),(.ex (.t 8) 1),none,[]⟩,⟨none,(.st (.t 2) (.t 9) 3),none,[]⟩,⟨(some 3),(.mv (.t 10)),none,[]⟩])
 .ret)) }
noncomputable def f100 : AFn := { np := 2, nt := 12, res := [.t 4], body :=
 (.seq (.reg [⟨(some 4),(.mv (.c (.b false))),none,[]⟩])
 (.seq (.reg [⟨(some 5),(.mv (.t 0)),none,[]⟩,⟨(some 6),(.bi .geq (.t 5) (.c (.i .i64 0))),none,[]⟩,⟨(some 7),(.mv (.t 6)),none,[]⟩,⟨(some 8),(.mv (.t 0)),(some (7,true)),[]⟩,⟨(some 9),(.mv (.t 1)),(some (7,true)),[]⟩,⟨(some 10),(.bi .leq (.t 8) (.t 9)),(some (7,true)),[]⟩,⟨(some 11),(.pk (.t 7) (.t 10) (.c (.b false))),none,[]⟩,⟨(some 4),(.mv (.t 11)),none,[]⟩])
 .ret)) }
noncomputable def f101 : AFn := { np := 2, nt := 99, res := [.t 4,.t 5], body :=
 (.seq (.reg [⟨(some 3),(.bx (.t 1)),none,[]⟩,⟨(some 4),(.mv (.c .np)),none,[]⟩,⟨(some 5),(.mv (.c (.i .i64 0))),none,[]⟩])
 (.seq (.reg [⟨(some 11),(.fa (.t 3) 5),none,[]⟩,⟨(some 12),(.ld (.t 11)),none,[]⟩,⟨(some 6),(.mv (.t 12)),none,[]⟩])
 (.seq (.seq (.reg [⟨(some 13),(.fa (.t 3) 0),none,[]⟩,⟨(some 14),(.ld (.t 13)),none,[]⟩,⟨(some 15),(.bi .neq (.t 14) (.c (.i .i64 1))),none,[]⟩])
 (.cond (.t 15) (.reg [⟨(some 6),(.mv (.c (.i .i64 0))),none,[]⟩]) .skip))
 (.seq (.drw [⟨(some 16),(.mv (.t 0)),none,[]⟩,⟨(some 17),(.nc (.t 16)),none,[]⟩,⟨(some 18),(.fa (.t 17) 21),none,[]⟩,⟨(some 19),(.ld (.t 18)),none,[]⟩,⟨(some 20),(.ldn (.t 3) 10),none,[]⟩,⟨(some 21),(.call 103 [(.t 20)]),none,[(19,(.ld (.t 18)),none)]⟩,⟨(some 22),(.lk (.st [(0,1,false,.int),(1,1,false,.int)]) .np (.t 19) (.t 21) false),none,[]⟩,⟨(some 7),(.mv (.t 22)),none,[]⟩])
 (.seq (.drw [⟨(some 24),(.mv (.t 0)),none,[]⟩,⟨(some 25),(.nc (.t 24)),none,[]⟩,⟨(some 26),(.fa (.t 25) 18),none,[]⟩,⟨(some 27),(.ld (.t 26)),none,[]⟩,⟨(some 28),(.fa (.t 3) 1),none,[]⟩,⟨(some 29),(.ld (.t 28)),none,[]⟩,⟨(some 30),(.fa (.t 3) 4),none,[]⟩,⟨(some 31),(.ld (.t 30)),none,[]⟩,⟨(some 32),(.fa (.t 3) 7),none,[]⟩,⟨(some 33),(.ld (.t 32)),none,[]⟩,⟨(some 34),(.mv (.t 6)),none,[]⟩,⟨(some 35),(.fa (.t 3) 9),none,[]⟩,⟨(some 36),(.ld (.t 35)),none,[]⟩,⟨(some 37),(.call 142 [(.t 27),(.t 29),(.t 31),(.t 33),(.t 34),(.t 36)]),none,[]⟩,⟨(some 23),(.mv (.t 37)),none,[]⟩,⟨(some 38),(.ex (.t 23) 0),none,[]⟩,⟨(some 39),(.ex (.t 23) 1),none,[]⟩,⟨(some 40),(.ex (.t 23) 2),none,[]⟩,⟨(some 8),(.mv (.t 38)),none,[]⟩,⟨(some 9),(.mv (.t 39)),none,[]⟩,⟨(some 10),(.mv (.t 40)),none,[]⟩])
 (.seq (.blk 0 (.seq (.reg [⟨(some 42),(.mv (.t 10)),none,[]⟩,⟨(some 43),(.bi .neq (.t 42) (.c (.i .i64 0))),none,[]⟩,⟨(some 41),(.mv (.t 43)),none,[]⟩])
 (.cond (.t 41) (.seq (.reg [⟨(some 44),(.mv (.t 10)),none,[]⟩,⟨(some 4),(.mv (.c .np)),none,[]⟩,⟨(some 5),(.mv (.t 44)),none,[]⟩])
 .ret) (.seq (.reg [⟨(some 46),(.mv (.t 9)),none,[]⟩,⟨(some 45),(.mv (.t 46)),none,[]⟩])
 (.cond (.t 45) (.seq (.reg [⟨(some 47),(.mv (.t 0)),none,[]⟩,⟨(some 48),(.mv (.t 7)),none,[]⟩,⟨(some 49),(.call 109 [(.t 47),(.t 48)]),none,[]⟩])
 (.seq (.reg [⟨(some 50),(.mv (.t 0)),none,[]⟩,⟨(some 51),(.ldn (.t 3) 10),none,[]⟩,⟨(some 52),(.call 143 [(.t 50),(.t 51)]),none,[]⟩])
 (.seq (.reg [⟨(some 4),(.mv (.c .np)),none,[]⟩,⟨(some 5),(.mv (.c (.i .i64 0))),none,[]⟩])
 .ret))) (.seq (.reg [⟨(some 54),(.mv (.t 7)),none,[]⟩,⟨(some 55),(.eq false .ptr (.t 54) (.c .np)),none,[]⟩,⟨(some 53),(.mv (.t 55)),none,[]⟩])
 (.cond (.t 53) (.seq (.drw [⟨(some 56),(.ldn (.t 3) 10),none,[]⟩,⟨(some 58),(.fa (.t 3) 7),none,[]⟩,⟨(some 59),(.ld (.t 58)),none,[]⟩,⟨(some 60),(.mv (.t 0)),none,[]⟩,⟨(some 61),(.nc (.t 60)),none,[]⟩,⟨(some 62),(.fa (.t 61) 16),none,[]⟩,⟨(some 63),(.ld (.t 62)),none,[]⟩,⟨(some 64),(.mv (.t 0)),none,[]⟩,⟨(some 65),(.nc (.t 64)),none,[]⟩,⟨(some 66),(.fa (.t 65) 16),none,[]⟩,⟨(some 67),(.ld (.t 66)),none,[]⟩,⟨(some 68),(.mv (.t 0)),none,[]⟩,⟨(some 69),(.nc (.t 68)),none,[]⟩,⟨(some 70),(.fa (.t 69) 16),none,[]⟩,⟨(some 71),(.ld (.t 70)),none,[]⟩,⟨(some 57),(.call 103 [(.t 56)]),none,[(59,(.ld (.t 58)),none),(63,(.ld (.t 62)),none),(67,(.ld (.t 66)),none),(71,(.ld (.t 70)),none)]⟩,⟨(some 72),(.bl [(.i .i64 0),(.i .u64 0),(.i .i64 0),(.i .i64 0),(.i .i64 0),(.i .i64 0),(.i .i64 0),(.i .i64 0),(.i .i64 0),(.i .i64 0),(.b false)] [(0,2,(.t 57)),(2,1,(.t 59)),(3,1,(.t 63)),(4,1,(.t 67)),(5,1,(.t 71))]),none,[]⟩,⟨(some 73),(.bx (.t 72)),none,[]⟩,⟨(some 7),(.mv (.t 73)),none,[]⟩])
 (.seq (.drw [⟨(some 74),(.mv (.t 0)),none,[]⟩,⟨(some 75),(.nc (.t 74)),none,[]⟩,⟨(some 76),(.fa (.t 75) 21),none,[]⟩,⟨(some 77),(.ld (.t 76)),none,[]⟩,⟨(some 78),(.mv (.t 7)),none,[]⟩,⟨(some 79),(.nc (.t 78)),none,[]⟩,⟨(some 80),(.fa (.t 79) 0),none,[]⟩,⟨(some 81),(.ldn (.t 80) 2),none,[]⟩,⟨(some 82),(.mv (.t 7)),none,[]⟩,⟨none,(.mu (.st [(0,1,false,.int),(1,1,false,.int)]) (.t 77) (.t 81) (.t 82)),none,[]⟩])
 (.reg [⟨(some 83),(.mv (.t 0)),none,[]⟩,⟨(some 84),(.nc (.t 83)),none,[]⟩,⟨(some 85),(.fa (.t 84) 15),none,[]⟩,⟨(some 86),(.ld (.t 85)),none,[]⟩,⟨(some 87),(.mv (.t 7)),none,[]⟩,⟨(some 88),(.inv (.t 86) [(91,292,[]),(307,333,[]),(313,403,[])] [(.t 87)]),none,[]⟩]))) .skip)))))))
 (.seq (.seq (.reg [⟨(some 89),(.mv (.t 8)),none,[]⟩,⟨(some 90),(.bi .gtr (.t 89) (.c (.i .i64 0))),none,[]⟩])
 (.cond (.t 90) (.reg [⟨(some 91),(.mv (.t 7)),none,[]⟩,⟨(some 92),(.mv (.t 0)),none,[]⟩,⟨(some 93),(.nc (.t 92)),none,[]⟩,⟨(some 94),(.fa (.t 93) 16),none,[]⟩,⟨(some 95),(.ld (.t 94)),none,[]⟩,⟨(some 96),(.nc (.t 91)),none,[]⟩,⟨(some 97),(.fa (.t 96) 4),none,[]⟩,⟨none,(.st (.t 97) (.t 95) 1),none,[]⟩]) .skip))
 (.seq (.reg [⟨(some 98),(.mv (.t 7)),none,[]⟩,⟨(some 4),(.mv (.t 98)),none,[]⟩,⟨(some 5),(.mv (.c (.i .i64 0))),none,[]⟩])
 .ret)))))))) }
noncomputable def f102 : AFn := { np := 2, nt := 15, res := [], body :=
 (.seq (.reg [⟨(some 4),(.mv (.t 0)),none,[]⟩,⟨(some 5),(.eq true .ptr (.t 4) (.c .np)),none,[]⟩,⟨(some 6),(.mv (.t 5)),none,[]⟩,⟨(some 7),(.mv (.t 0)),(some (6,true)),[]⟩,⟨(some 8),(.nc (.t 7)),(some (6,true)),[]⟩,⟨(some 9),(.fa (.t 8) 5),(some (6,true)),[]⟩,⟨(some 10),(.ld (.t 9)),(some (6,true)),[]⟩,⟨(some 11),(.pk (.t 6) (.t 10) (.c (.b false))),none,[]⟩])
 (.cond (.t 11) (.reg [⟨(some 12),(.mv (.t 0)),none,[]⟩,⟨(some 13),(.mv (.t 1)),none,[]⟩,⟨(some 14),(.call 81 [(.t 12),(.t 13),(.c (.i .i64 0))]),none,[]⟩]) .skip)) }
noncomputable def f103 : AFn := { np := 1, nt := 8, res := [.c 2 2 true], body :=
 (.seq (.reg [⟨(some 1),(.bx (.t 0)),none,[]⟩,⟨(some 2),(.al [(.i .i64 0),(.i .u64 0)]),none,[]⟩])
 (.seq (.reg [⟨(some 3),(.fa (.t 1) 1),none,[]⟩,⟨(some 4),(.ld (.t 3)),none,[]⟩,⟨(some 5),(.fa (.t 1) 4),none,[]⟩,⟨(some 6),(.ld (.t 5)),none,[]⟩,⟨(some 7),(.bl [(.i .i64 0),(.i .u64 0)] [(0,1,(.t 4)),(1,1,(.t 6))]),none,[]⟩,⟨none,(.st (.t 2) (.t 7) 2),none,[]⟩])
 .ret)) }
noncomputable def f108 : AFn := { np := 1, nt := 13, res := [.t 2], body :=
 (.seq (.reg [⟨(some 2),(.mv (.c .nsl)),none,[]⟩])
 (.seq (.reg [⟨(some 4),(.mv (.t 0)),none,[]⟩,⟨(some 5),(.nc (.t 4)),none,[]⟩,⟨(some 6),(.fa (.t 5) 21),none,[]⟩,⟨(some 7),(.ld (.t 6)),none,[]⟩,⟨(some 8),(.call 149 [(.t 7)]),none,[]⟩,⟨(some 9),(.call 148 [(.t 8)]),none,[]⟩,⟨(some 3),(.mv (.t 9)),none,[]⟩])
 (.seq (.reg [⟨(some 10),(.mv (.t 3)),none,[]⟩,⟨(some 11),(.call 150 [(.t 10),(.c (.fn 151 [] []))]),none,[]⟩])
 (.seq (.reg [⟨(some 12),(.mv (.t 3)),none,[]⟩,⟨(some 2),(.mv (.t 12)),none,[]⟩])
 .ret)))) }
noncomputable def f109 : AFn := { np := 2, nt := 29, res := [], body :=
 (.seq (.seq (.reg [⟨(some 4),(.mv (.t 1)),none,[]⟩,⟨(some 5),(.eq false .ptr (.t 4) (.c .np)),none,[]⟩])
 (.cond (.t 5) .ret .skip))
 (.seq (.drw [⟨(some 6),(.mv (.t 0)),none,[]⟩,⟨(some 7),(.nc (.t 6)),none,[]⟩,⟨(some 8),(.fa (.t 7) 21),none,[]⟩,⟨(some 9),(.ld (.t 8)),none,[]⟩,⟨(some 10),(.mv (.t 1)),none,[]⟩,⟨(some 11),(.nc (.t 10)),none,[]⟩,⟨(some 12),(.fa (.t 11) 0),none,[]⟩,⟨(some 13),(.ldn (.t 12) 2),none,[]⟩,⟨none,(.dl (.st [(0,1,false,.int),(1,1,false,.int)]) (.t 9) (.t 13)),none,[]⟩])
 (.seq (.seq (.reg [⟨(some 14),(.mv (.t 0)),none,[]⟩,⟨(some 15),(.nc (.t 14)),none,[]⟩,⟨(some 16),(.fa (.t 15) 43),none,[]⟩,⟨(some 17),(.ld (.t 16)),none,[]⟩,⟨(some 18),(.mv (.t 1)),none,[]⟩,⟨(some 19),(.eq false .ptr (.t 17) (.t 18)),none,[]⟩])
 (.cond (.t 19) (.reg [⟨(some 20),(.mv (.t 0)),none,[]⟩,⟨(some 21),(.nc (.t 20)),none,[]⟩,⟨(some 22),(.fa (.t 21) 43),none,[]⟩,⟨none,(.st (.t 22) (.c .np) 1),none,[]⟩]) .skip))
 (.reg [⟨(some 23),(.mv (.t 0)),none,[]⟩,⟨(some 24),(.nc (.t 23)),none,[]⟩,⟨(some 25),(.fa (.t 24) 15),none,[]⟩,⟨(some 26),(.ld (.t 25)),none,[]⟩,⟨(some 27),(.mv (.t 1)),none,[]⟩,⟨(some 28),(.inv (.t 26) [(91,290,[]),(307,331,[]),(313,401,[])] [(.t 27)]),none,[]⟩])))) }
noncomputable def f111 : AFn := { np := 3, nt := 23, res := [], body :=
 (.seq (.reg [⟨(some 5),(.bx (.t 2)),none,[]⟩])
 (.drw [⟨(some 6),(.mv (.t 1)),none,[]⟩,⟨(some 7),(.mv (.t 1)),none,[]⟩,⟨(some 8),(.mv (.t 1)),none,[]⟩,⟨(some 9),(.nc (.t 8)),none,[]⟩,⟨(some 10),(.fa (.t 9) 11),none,[]⟩,⟨(some 11),(.ld (.t 10)),none,[]⟩,⟨(some 12),(.fa (.t 5) 5),none,[]⟩,⟨(some 13),(.ld (.t 12)),none,[]⟩,⟨(some 14),(.fa (.t 5) 5),none,[]⟩,⟨(some 15),(.ld (.t 14)),none,[]⟩,⟨(some 16),(.fa (.t 5) 8),none,[]⟩,⟨(some 17),(.ld (.t 16)),none,[]⟩,⟨(some 18),(.call 96 [(.t 15),(.t 17)]),none,[(11,(.ld (.t 10)),none),(13,(.ld (.t 12)),none)]⟩,⟨(some 19),(.bl [(.i .i64 0),(.i .i64 0)] [(0,1,(.t 13)),(1,1,(.t 18))]),none,[]⟩,⟨(some 20),(.call 158 [(.t 7),(.t 11),(.t 19)]),none,[]⟩,⟨(some 21),(.nc (.t 6)),none,[]⟩,⟨(some 22),(.fa (.t 21) 11),none,[]⟩,⟨none,(.st (.t 22) (.t 20) 1),none,[]⟩])) }
noncomputable def f112 : AFn := { np := 2, nt := 54, res := [.c 4 2 true,.t 5], body :=
 (.seq (.reg [⟨(some 4),(.al [(.i .i64 0),(.i .i64 0)]),none,[]⟩,⟨(some 5),(.mv (.c (.b false))),none,[]⟩])
 (.seq (.drw [⟨(some 7),(.mv (.t 0)),none,[]⟩,⟨(some 8),(.nc (.t 7)),none,[]⟩,⟨(some 9),(.fa (.t 8) 18),none,[]⟩,⟨(some 10),(.ld (.t 9)),none,[]⟩,⟨(some 11),(.mv (.t 1)),none,[]⟩,⟨(some 12),(.nc (.t 11)),none,[]⟩,⟨(some 13),(.fa (.t 12) 0),none,[]⟩,⟨(some 14),(.fa (.t 13) 0),none,[]⟩,⟨(some 15),(.ld (.t 14)),none,[]⟩,⟨(some 16),(.mv (.t 1)),none,[]⟩,⟨(some 17),(.nc (.t 16)),none,[]⟩,⟨(some 18),(.fa (.t 17) 0),none,[]⟩,⟨(some 19),(.fa (.t 18) 1),none,[]⟩,⟨(some 20),(.ld (.t 19)),none,[]⟩,⟨(some 21),(.mv (.t 0)),none,[]⟩,⟨(some 22),(.nc (.t 21)),none,[]⟩,⟨(some 23),(.fa (.t 22) 15),none,[]⟩,⟨(some 24),(.ld (.t 23)),none,[]⟩,⟨(some 25),(.mv (.t 1)),none,[]⟩,⟨(some 26),(.inv (.t 24) [(91,298,[]),(307,339,[]),(313,409,[])] [(.t 25)]),none,[(10,(.ld (.t 9)),none),(15,(.ld (.t 14)),none),(20,(.ld (.t 19)),none)]⟩,⟨(some 27),(.call 159 [(.t 10),(.t 15),(.t 20),(.t 26),(.c (.i .i64 1))]),none,[]⟩,⟨(some 6),(.mv (.t 27)),none,[]⟩])
 (.seq (.seq (.reg [⟨(some 28),(.mv (.t 6)),none,[]⟩,⟨(some 29),(.lns false (.t 28)),none,[]⟩,⟨(some 30),(.bi .eql (.t 29) (.c (.i .i64 0))),none,[]⟩])
 (.cond (.t 30) (.seq (.reg [⟨(some 31),(.ldn (.t 4) 2),none,[]⟩,⟨none,(.st (.t 4) (.t 31) 2),none,[]⟩,⟨(some 5),(.mv (.c (.b false))),none,[]⟩])
 .ret) .skip))
 (.seq (.drw [⟨(some 32),(.mv (.t 6)),none,[]⟩,⟨(some 33),(.mv (.t 6)),none,[]⟩,⟨(some 34),(.ias 2 (.t 33) (.c (.i .i64 0))),none,[]⟩,⟨(some 35),(.fa (.t 34) 1),none,[]⟩,⟨(some 36),(.ld (.t 35)),none,[]⟩,⟨(some 37),(.mv (.t 6)),none,[]⟩,⟨(some 38),(.ias 2 (.t 37) (.c (.i .i64 0))),none,[]⟩,⟨(some 39),(.fa (.t 38) 0),none,[]⟩,⟨(some 40),(.ld (.t 39)),none,[]⟩,⟨(some 41),(.mv (.t 0)),none,[]⟩,⟨(some 42),(.nc (.t 41)),none,[]⟩,⟨(some 43),(.fa (.t 42) 0),none,[]⟩,⟨(some 44),(.fa (.t 43) 3),none,[]⟩,⟨(some 45),(.ld (.t 44)),none,[]⟩,⟨(some 46),(.bi .mul (.c (.i .i64 8)) (.t 45)),none,[]⟩,⟨(some 47),(.bi .add (.t 40) (.t 46)),none,[]⟩,⟨(some 48),(.mn [(.t 36),(.t 47)]),none,[]⟩,⟨(some 49),(.ias 2 (.t 32) (.c (.i .i64 0))),none,[]⟩,⟨(some 50),(.fa (.t 49) 1),none,[]⟩,⟨none,(.st (.t 50) (.t 48) 1),none,[]⟩])
 (.seq (.reg [⟨(some 51),(.mv (.t 6)),none,[]⟩,⟨(some 52),(.ias 2 (.t 51) (.c (.i .i64 0))),none,[]⟩,⟨(some 53),(.ldn (.t 52) 2),none,[]⟩,⟨none,(.st (.t 4) (.t 53) 2),none,[]⟩,⟨(some 5),(.mv (.c (.b true))),none,[]⟩])
 .ret))))) }
noncomputable def f113 : AFn := { np := 4, nt := 109, res := [.c 8 10 true], body :=
 (.seq (.reg [⟨(some 6),(.bx (.t 2)),none,[]⟩,⟨(some 8),(.al [(.i .i64 0),(.i .i64 0),(.i .i64 0),(.i .i64 0),(.i .u64 0),(.i .i64 0),(.i .i64 0),(.i .i64 0),(.i .i64 0),.nsl]),none,[]⟩])
 (.seq (.drw [⟨(some 10),(.mv (.t 0)),none,[]⟩,⟨(some 11),(.mv (.t 1)),none,[]⟩,⟨(some 12),(.nc (.t 11)),none,[]⟩,⟨(some 13),(.fa (.t 12) 1),none,[]⟩,⟨(some 14),(.ld (.t 13)),none,[]⟩,⟨(some 15),(.mv (.t 1)),none,[]⟩,⟨(some 16),(.nc (.t 15)),none,[]⟩,⟨(some 17),(.fa (.t 16) 0),none,[]⟩,⟨(some 18),(.ld (.t 17)),none,[]⟩,⟨(some 9),(.al [(.i .i64 0),(.i .i64 0),(.i .i64 0),(.i .i64 0),(.i .u64 0),(.i .i64 0),(.i .i64 0),(.i .i64 0),(.i .i64 0),.nsl]),none,[]⟩,⟨(some 19),(.call 84 [(.t 10),(.c (.i .i64 1)),(.t 14),(.t 18)]),none,[]⟩,⟨none,(.st (.t 9) (.t 19) 10),none,[]⟩])
 (.seq (.reg [⟨(some 20),(.mv (.t 1)),none,[]⟩,⟨(some 21),(.nc (.t 20)),none,[]⟩,⟨(some 22),(.fa (.t 21) 10),none,[]⟩,⟨(some 23),(.ld (.t 22)),none,[]⟩,⟨(some 24),(.fa (.t 9) 3),none,[]⟩,⟨none,(.st (.t 24) (.t 23) 1),none,[]⟩])
 (.seq (.seq (.reg [⟨(some 25),(.mv (.t 3)),none,[]⟩])
 (.blk 0 (.seq (.reg [⟨(some 27),(.bi .eql (.t 25) (.c (.i .i64 3))),none,[]⟩,⟨(some 26),(.mv (.t 27)),none,[]⟩])
 (.cond (.t 26) (.reg [⟨(some 29),(.mv (.t 1)),none,[]⟩,⟨(some 30),(.mv (.t 0)),none,[]⟩,⟨(some 31),(.mv (.t 1)),none,[]⟩,⟨(some 32),(.nc (.t 31)),none,[]⟩,⟨(some 33),(.fa (.t 32) 11),none,[]⟩,⟨(some 34),(.ld (.t 33)),none,[]⟩,⟨(some 35),(.call 160 [(.t 30),(.t 34)]),none,[]⟩,⟨(some 28),(.mv (.t 35)),none,[]⟩,⟨(some 36),(.ex (.t 28) 0),none,[]⟩,⟨(some 37),(.ex (.t 28) 1),none,[]⟩,⟨none,(.st (.t 6) (.t 36) 2),none,[]⟩,⟨(some 38),(.nc (.t 29)),none,[]⟩,⟨(some 39),(.fa (.t 38) 11),none,[]⟩,⟨none,(.st (.t 39) (.t 37) 1),none,[]⟩]) (.seq (.reg [⟨(some 41),(.bi .eql (.t 25) (.c (.i .i64 4))),none,[]⟩,⟨(some 40),(.mv (.t 41)),none,[]⟩])
 (.cond (.t 40) (.reg [⟨(some 43),(.mv (.t 1)),none,[]⟩,⟨(some 44),(.mv (.t 0)),none,[]⟩,⟨(some 45),(.mv (.t 1)),none,[]⟩,⟨(some 46),(.nc (.t 45)),none,[]⟩,⟨(some 47),(.fa (.t 46) 12),none,[]⟩,⟨(some 48),(.ld (.t 47)),none,[]⟩,⟨(some 49),(.call 160 [(.t 44),(.t 48)]),none,[]⟩,⟨(some 42),(.mv (.t 49)),none,[]⟩,⟨(some 50),(.ex (.t 42) 0),none,[]⟩,⟨(some 51),(.ex (.t 42) 1),none,[]⟩,⟨none,(.st (.t 6) (.t 50) 2),none,[]⟩,⟨(some 52),(.nc (.t 43)),none,[]⟩,⟨(some 53),(.fa (.t 52) 12),none,[]⟩,⟨none,(.st (.t 53) (.t 51) 1),none,[]⟩]) (.seq (.reg [⟨(some 55),(.bi .eql (.t 25) (.c (.i .i64 1))),none,[]⟩,⟨(some 54),(.mv (.t 55)),none,[]⟩])
 (.cond (.t 54) (.reg [⟨(some 56),(.mv (.t 1)),none,[]⟩,⟨(some 57),(.nc (.t 56)),none,[]⟩,⟨(some 58),(.fa (.t 57) 9),none,[]⟩,⟨(some 59),(.ld (.t 58)),none,[]⟩,⟨(some 60),(.fa (.t 9) 3),none,[]⟩,⟨none,(.st (.t 60) (.t 59) 1),none,[]⟩]) .skip))))))))
 (.seq (.drw [⟨(some 61),(.fa (.t 6) 0),none,[]⟩,⟨(some 62),(.ld (.t 61)),none,[]⟩,⟨(some 63),(.fa (.t 6) 1),none,[]⟩,⟨(some 64),(.ld (.t 63)),none,[]⟩,⟨(some 65),(.fa (.t 6) 0),none,[]⟩,⟨(some 66),(.ld (.t 65)),none,[]⟩,⟨(some 67),(.bi .sub (.t 64) (.t 66)),none,[]⟩,⟨(some 68),(.mv (.t 1)),none,[]⟩,⟨(some 69),(.nc (.t 68)),none,[]⟩,⟨(some 70),(.fa (.t 69) 2),none,[]⟩,⟨(some 71),(.ld (.t 70)),none,[]⟩,⟨(some 72),(.lns false (.t 71)),none,[]⟩,⟨(some 73),(.mv (.t 1)),none,[]⟩,⟨(some 74),(.nc (.t 73)),none,[]⟩,⟨(some 75),(.fa (.t 74) 8),none,[]⟩,⟨(some 76),(.ld (.t 75)),none,[]⟩,⟨(some 77),(.fa (.t 9) 5),none,[]⟩,⟨none,(.st (.t 77) (.t 62) 1),none,[(64,(.ld (.t 63)),none),(66,(.ld (.t 65)),none),(71,(.ld (.t 70)),none),(76,(.ld (.t 75)),none)]⟩,⟨(some 78),(.fa (.t 9) 6),none,[]⟩,⟨none,(.st (.t 78) (.t 67) 1),none,[(71,(.ld (.t 70)),none),(76,(.ld (.t 75)),none)]⟩,⟨(some 79),(.fa (.t 9) 7),none,[]⟩,⟨none,(.st (.t 79) (.t 72) 1),none,[(76,(.ld (.t 75)),none)]⟩,⟨(some 80),(.fa (.t 9) 8),none,[]⟩,⟨none,(.st (.t 80) (.t 76) 1),none,[]⟩])
 (.seq (.drw [⟨(some 81),(.mv (.t 1)),none,[]⟩,⟨(some 82),(.nc (.t 81)),none,[]⟩,⟨(some 83),(.fa (.t 82) 2),none,[]⟩,⟨(some 84),(.ld (.t 83)),none,[]⟩,⟨(some 85),(.ldn (.t 6) 2),none,[]⟩,⟨(some 86),(.call 161 [(.t 84),(.t 85)]),none,[]⟩,⟨(some 87),(.fa (.t 9) 9),none,[]⟩,⟨none,(.st (.t 87) (.t 86) 1),none,[]⟩])
 (.seq (.drw [⟨(some 88),(.mv (.t 1)),none,[]⟩,⟨(some 89),(.mv (.t 1)),none,[]⟩,⟨(some 90),(.mv (.t 1)),none,[]⟩,⟨(some 91),(.nc (.t 90)),none,[]⟩,⟨(some 92),(.fa (.t 91) 4),none,[]⟩,⟨(some 93),(.ld (.t 92)),none,[]⟩,⟨(some 94),(.fa (.t 6) 1),none,[]⟩,⟨(some 95),(.ld (.t 94)),none,[]⟩,⟨(some 96),(.mx [(.t 93),(.t 95)]),none,[]⟩,⟨(some 97),(.nc (.t 88)),none,[]⟩,⟨(some 98),(.fa (.t 97) 4),none,[]⟩,⟨none,(.st (.t 98) (.t 96) 1),none,[]⟩,⟨(some 99),(.nc (.t 89)),none,[]⟩,⟨(some 100),(.fa (.t 99) 5),none,[]⟩,⟨none,(.st (.t 100) (.c (.b true)) 1),none,[]⟩])
 (.seq (.reg [⟨(some 101),(.mv (.t 0)),none,[]⟩,⟨(some 102),(.nc (.t 101)),none,[]⟩,⟨(some 103),(.fa (.t 102) 15),none,[]⟩,⟨(some 104),(.ld (.t 103)),none,[]⟩,⟨(some 105),(.mv (.t 1)),none,[]⟩,⟨(some 106),(.mv (.t 3)),none,[]⟩,⟨(some 107),(.inv (.t 104) [(91,299,[]),(307,340,[]),(313,410,[])] [(.t 105),(.t 106)]),none,[]⟩])
 (.seq (.reg [⟨(some 108),(.ldn (.t 9) 10),none,[]⟩,⟨none,(.st (.t 8) (.t 108) 10),none,[]⟩])
 .ret))))))))) }
noncomputable def f114 : AFn := { np := 2, nt := 9, res := [.t 4], body :=
 (.seq (.reg [⟨(some 2),(.bx (.t 0)),none,[]⟩,⟨(some 4),(.mv (.c (.i .i64 0))),none,[]⟩])
 (.seq (.reg [⟨(some 5),(.mv (.t 1)),none,[]⟩,⟨(some 6),(.fa (.t 2) 3),none,[]⟩,⟨(some 7),(.ld (.t 6)),none,[]⟩,⟨(some 8),(.call 162 [(.t 5),(.t 7)]),none,[]⟩,⟨(some 4),(.mv (.t 8)),none,[]⟩])
 .ret)) }
noncomputable def f115 : AFn := { np := 2, nt := 10, res := [.t 4], body :=
 (.seq (.reg [⟨(some 4),(.mv (.c (.i .i64 0))),none,[]⟩])
 (.seq (.reg [⟨(some 5),(.mv (.t 0)),none,[]⟩,⟨(some 6),(.call 138 [(.t 5)]),none,[]⟩,⟨(some 7),(.mv (.t 1)),none,[]⟩,⟨(some 8),(.call 138 [(.t 7)]),none,[]⟩,⟨(some 9),(.call 163 [(.t 6),(.t 8),(.c (.i .i64 0))]),none,[]⟩,⟨(some 4),(.mv (.t 9)),none,[]⟩])
 .ret)) }
noncomputable def f125 : AFn := { np := 3, nt := 15, res := [.t 6], body :=
 (.seq (.reg [⟨(some 6),(.mv (.c (.b false))),none,[]⟩])
 (.seq (.reg [⟨(some 7),(.mv (.t 0)),none,[]⟩,⟨(some 8),(.mv (.t 1)),none,[]⟩,⟨(some 9),(.bi .geq (.t 7) (.t 8)),none,[]⟩,⟨(some 10),(.mv (.t 9)),none,[]⟩,⟨(some 11),(.mv (.t 0)),(some (10,true)),[]⟩,⟨(some 12),(.mv (.t 2)),(some (10,true)),[]⟩,⟨(some 13),(.bi .leq (.t 11) (.t 12)),(some (10,true)),[]⟩,⟨(some 14),(.pk (.t 10) (.t 13) (.c (.b false))),none,[]⟩,⟨(some 6),(.mv (.t 14)),none,[]⟩])
 .ret)) }
noncomputable def f126 : AFn := { np := 1, nt := 40, res := [.t 2], body :=
 (.seq (.reg [⟨(some 1),(.bx (.t 0)),none,[]⟩,⟨(some 2),(.mv (.c (.b false))),none,[]⟩])
 (.seq (.seq (.reg [⟨(some 3),(.fa (.t 1) 0),none,[]⟩,⟨(some 4),(.ld (.t 3)),none,[]⟩])
 (.blk 0 (.seq (.reg [⟨(some 6),(.bi .eql (.t 4) (.c (.i .i64 1))),none,[]⟩,⟨(some 5),(.mv (.t 6)),none,[]⟩])
 (.cond (.t 5) (.seq (.reg [⟨(some 7),(.fa (.t 1) 4),none,[]⟩,⟨(some 8),(.ld (.t 7)),none,[]⟩,⟨(some 9),(.call 125 [(.t 8),(.c (.i .i64 0)),(.c (.i .i64 20000))]),none,[]⟩,⟨(some 10),(.mv (.t 9)),none,[]⟩,⟨(some 11),(.fa (.t 1) 6),(some (10,true)),[]⟩,⟨(some 12),(.ld (.t 11)),(some (10,true)),[]⟩,⟨(some 13),(.fa (.t 1) 5),(some (10,true)),[]⟩,⟨(some 14),(.ld (.t 13)),(some (10,true)),[]⟩,⟨(some 15),(.fa (.t 1) 3),(some (10,true)),[]⟩,⟨(some 16),(.ld (.t 15)),(some (10,true)),[]⟩,⟨(some 17),(.bi .mul (.t 14) (.t 16)),(some (10,true)),[]⟩,⟨(some 18),(.call 125 [(.t 12),(.t 17),(.c (.i .i64 1000000))]),(some (10,true)),[]⟩,⟨(some 19),(.pk (.t 10) (.t 18) (.c (.b false))),none,[]⟩,⟨(some 2),(.mv (.t 19)),none,[]⟩])
 .ret) (.seq (.reg [⟨(some 21),(.bi .eql (.t 4) (.c (.i .i64 2))),none,[]⟩,⟨(some 20),(.mv (.t 21)),none,[]⟩])
 (.cond (.t 20) (.seq (.reg [⟨(some 22),(.fa (.t 1) 4),none,[]⟩,⟨(some 23),(.ld (.t 22)),none,[]⟩,⟨(some 24),(.call 125 [(.t 23),(.c (.i .i64 1)),(.c (.i .i64 100))]),none,[]⟩,⟨(some 25),(.mv (.t 24)),none,[]⟩,⟨(some 26),(.fa (.t 1) 6),(some (25,true)),[]⟩,⟨(some 27),(.ld (.t 26)),(some (25,true)),[]⟩,⟨(some 28),(.bi .eql (.t 27) (.c (.i .i64 0))),(some (25,true)),[]⟩,⟨(some 29),(.pk (.t 25) (.t 28) (.c (.b false))),none,[]⟩,⟨(some 2),(.mv (.t 29)),none,[]⟩])
 .ret) (.seq (.reg [⟨(some 31),(.bi .eql (.t 4) (.c (.i .i64 3))),none,[]⟩,⟨(some 30),(.mv (.t 31)),none,[]⟩])
 (.cond (.t 30) (.seq (.reg [⟨(some 32),(.fa (.t 1) 4),none,[]⟩,⟨(some 33),(.ld (.t 32)),none,[]⟩,⟨(some 34),(.bi .eql (.t 33) (.c (.i .i64 0))),none,[]⟩,⟨(some 35),(.mv (.t 34)),none,[]⟩,⟨(some 36),(.fa (.t 1) 6),(some (35,true)),[]⟩,⟨(some 37),(.ld (.t 36)),(some (35,true)),[]⟩,⟨(some 38),(.bi .eql (.t 37) (.c (.i .i64 0))),(some (35,true)),[]⟩,⟨(some 39),(.pk (.t 35) (.t 38) (.c (.b false))),none,[]⟩,⟨(some 2),(.mv (.t 39)),none,[]⟩])
 .ret) .skip))))))))
 (.seq (.reg [⟨(some 2),(.mv (.c (.b false))),none,[]⟩])
 .ret))) }
noncomputable def f127 : AFn := { np := 1, nt := 13, res := [.t 2,.t 3], body :=
 (.seq (.reg [⟨(some 2),(.mv (.c .np)),none,[]⟩,⟨(some 3),(.mv (.c (.i .i64 0))),none,[]⟩])
 (.seq (.seq (.reg [⟨(some 4),(.mv (.t 0)),none,[]⟩,⟨(some 5),(.bi .lss (.t 4) (.c (.i .u64 1))),none,[]⟩,⟨(some 6),(.mv (.t 5)),none,[]⟩,⟨(some 7),(.mv (.t 0)),(some (6,false)),[]⟩,⟨(some 8),(.bi .gtr (.t 7) (.c (.i .u64 1152921504606846976))),(some (6,false)),[]⟩,⟨(some 9),(.pk (.t 6) (.c (.b true)) (.t 8)),none,[]⟩])
 (.cond (.t 9) (.seq (.reg [⟨(some 2),(.mv (.c .np)),none,[]⟩,⟨(some 3),(.mv (.c (.i .i64 1))),none,[]⟩])
 .ret) .skip))
 (.seq (.reg [⟨(some 10),(.mv (.t 0)),none,[]⟩,⟨(some 11),(.bl [(.i .u64 0),(.i .u64 0)] [(0,1,(.t 10))]),none,[]⟩,⟨(some 12),(.bx (.t 11)),none,[]⟩,⟨(some 2),(.mv (.t 12)),none,[]⟩,⟨(some 3),(.mv (.c (.i .i64 0))),none,[]⟩])
 .ret))) }
noncomputable def f128 : AFn := { np := 2, nt := 19, res := [.t 4], body :=
 (.seq (.reg [⟨(some 4),(.mv (.c (.b false))),none,[]⟩])
 (.seq (.reg [⟨(some 5),(.mv (.t 0)),none,[]⟩,⟨(some 6),(.bi .geq (.t 5) (.c (.i .i64 1))),none,[]⟩,⟨(some 7),(.mv (.t 6)),none,[]⟩,⟨(some 8),(.mv (.t 0)),(some (7,true)),[]⟩,⟨(some 9),(.bi .leq (.t 8) (.c (.i .i64 10000))),(some (7,true)),[]⟩,⟨(some 10),(.pk (.t 7) (.t 9) (.c (.b false))),none,[]⟩,⟨(some 11),(.mv (.t 10)),none,[]⟩,⟨(some 12),(.mv (.t 1)),(some (11,true)),[]⟩,⟨(some 13),(.bi .geq (.t 12) (.c (.i .i64 0))),(some (11,true)),[]⟩,⟨(some 14),(.pk (.t 11) (.t 13) (.c (.b false))),none,[]⟩,⟨(some 15),(.mv (.t 14)),none,[]⟩,⟨(some 16),(.mv (.t 1)),(some (15,true)),[]⟩,⟨(some 17),(.bi .leq (.t 16) (.c (.i .i64 20000))),(some (15,true)),[]⟩,⟨(some 18),(.pk (.t 15) (.t 17) (.c (.b false))),none,[]⟩,⟨(some 4),(.mv (.t 18)),none,[]⟩])
 .ret)) }
end Go.Ev.Q
