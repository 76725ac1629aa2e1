/-
  Tables of the evaluator: functions of the program, as it reckons them (part 3). Conditions: none.
-/
import Derived.Test.YtnkfegnbddmebaaGreatXaEvA
set_option maxRecDepth 1000000
namespace Go.Ev.Q
open Go Go.Ev
noncomputable def f217 : AFn := { np := 1, nt := 25, res := [.t 2], body :=
 (.seq (.reg [⟨(some 2),(.mv (.c (.i .i64 0))),none,[]⟩])
 (.seq (.seq (.reg [⟨(some 3),(.mv (.t 0)),none,[]⟩,⟨(some 4),(.bi .geq (.t 3) (.c (.i .u64 4294967296))),none,[]⟩])
 (.cond (.t 4) (.seq (.reg [⟨(some 5),(.mv (.t 0)),none,[]⟩,⟨(some 6),(.bi .shr (.t 5) (.c (.i .u64 32))),none,[]⟩,⟨(some 0),(.mv (.t 6)),none,[]⟩])
 (.reg [⟨(some 2),(.mv (.c (.i .i64 32))),none,[]⟩])) .skip))
 (.seq (.seq (.reg [⟨(some 7),(.mv (.t 0)),none,[]⟩,⟨(some 8),(.bi .geq (.t 7) (.c (.i .u64 65536))),none,[]⟩])
 (.cond (.t 8) (.seq (.reg [⟨(some 9),(.mv (.t 0)),none,[]⟩,⟨(some 10),(.bi .shr (.t 9) (.c (.i .u64 16))),none,[]⟩,⟨(some 0),(.mv (.t 10)),none,[]⟩])
 (.reg [⟨(some 11),(.mv (.t 2)),none,[]⟩,⟨(some 12),(.bi .add (.t 11) (.c (.i .i64 16))),none,[]⟩,⟨(some 2),(.mv (.t 12)),none,[]⟩])) .skip))
 (.seq (.seq (.reg [⟨(some 13),(.mv (.t 0)),none,[]⟩,⟨(some 14),(.bi .geq (.t 13) (.c (.i .u64 256))),none,[]⟩])
 (.cond (.t 14) (.seq (.reg [⟨(some 15),(.mv (.t 0)),none,[]⟩,⟨(some 16),(.bi .shr (.t 15) (.c (.i .u64 8))),none,[]⟩,⟨(some 0),(.mv (.t 16)),none,[]⟩])
 (.reg [⟨(some 17),(.mv (.t 2)),none,[]⟩,⟨(some 18),(.bi .add (.t 17) (.c (.i .i64 8))),none,[]⟩,⟨(some 2),(.mv (.t 18)),none,[]⟩])) .skip))
 (.seq (.reg [⟨(some 19),(.mv (.t 2)),none,[]⟩,⟨(some 20),(.mv (.t 0)),none,[]⟩,⟨(some 21),(.cvi .u8 (.t 20)),none,[]⟩,⟨(some 22),(.ixs (.c (.s [0,1,2,2,3,3,3,3,4,4,4,4,4,4,4,4,5,5,5,5,5,5,5,5,5,5,5,5,5,5,5,5,6,6,6,6,6,6,6,6,6,6,6,6,6,6,6,6,6,6,6,6,6,6,6,6,6,6,6,6,6,6,6,6,7,7,7,7,7,7,7,7,7,7,7,7,7,7,7,7,7,7,7,7,7,7,7,7,7,7,7,7,7,7,7,7,7,7,7,7,7,7,7,7,7,7,7,7,7,7,7,7,7,7,7,7,7,7,7,7,7,7,7,7,7,7,7,7,8,8,8,8,8,8,8,8,8,8,8,8,8,8,8,8,8,8,8,8,8,8,8,8,8,8,8,8,8,8,8,8,8,8,8,8,8,8,8,8,8,8,8,8,8,8,8,8,8,8,8,8,8,8,8,8,8,8,8,8,8,8,8,8,8,8,8,8,8,8,8,8,8,8,8,8,8,8,8,8,8,8,8,8,8,8,8,8,8,8,8,8,8,8,8,8,8,8,8,8,8,8,8,8,8,8,8,8,8,8,8,8,8,8,8,8,8,8,8,8,8,8,8,8,8,8,8,8])) (.t 21)),none,[]⟩,⟨(some 23),(.cvi .i64 (.t 22)),none,[]⟩,⟨(some 24),(.bi .add (.t 19) (.t 23)),none,[]⟩,⟨(some 2),(.mv (.t 24)),none,[]⟩])
 .ret))))) }
noncomputable def f222 : AFn := { np := 2, nt := 19, res := [.t 4], body :=
 (.seq (.reg [⟨(some 4),(.mv (.c (.i .i64 0))),none,[]⟩])
 (.seq (.seq (.reg [⟨(some 6),(.mv (.t 0)),none,[]⟩,⟨(some 7),(.lns false (.t 6)),none,[]⟩,⟨(some 8),(.mv (.c (.i .i64 0))),none,[]⟩])
 (.blk 0 (.loop (.seq (.reg [⟨(some 9),(.bi .lss (.t 8) (.t 7)),none,[]⟩])
 (.seq (.cond (.t 9) .skip (.exit 0))
 (.seq (.blk 1 (.seq (.reg [⟨(some 10),(.mv (.t 8)),none,[]⟩,⟨(some 5),(.mv (.t 10)),none,[]⟩])
 (.seq (.reg [⟨(some 11),(.mv (.t 1)),none,[]⟩,⟨(some 12),(.mv (.t 0)),none,[]⟩,⟨(some 13),(.mv (.t 5)),none,[]⟩,⟨(some 14),(.ias 2 (.t 12) (.t 13)),none,[]⟩,⟨(some 15),(.ldn (.t 14) 2),none,[]⟩,⟨(some 16),(.cv (.t 11) [(.t 15)]),none,[]⟩])
 (.cond (.t 16) (.seq (.reg [⟨(some 17),(.mv (.t 5)),none,[]⟩,⟨(some 4),(.mv (.t 17)),none,[]⟩])
 .ret) .skip))))
 (.reg [⟨(some 18),(.bi .add (.t 8) (.c (.i .i64 1))),none,[]⟩,⟨(some 8),(.mv (.t 18)),none,[]⟩])))))))
 (.seq (.reg [⟨(some 4),(.mv (.c (.i .i64 (-1)))),none,[]⟩])
 .ret))) }
noncomputable def f223 : AFn := { np := 3, nt := 63, res := [.t 6], body :=
 (.seq (.reg [⟨(some 6),(.mv (.c .nsl)),none,[]⟩])
 (.seq (.seq (.reg [⟨(some 11),(.mv (.t 0)),none,[]⟩,⟨(some 12),(.eq false .ptr (.t 11) (.c .np)),none,[]⟩])
 (.cond (.t 12) (.seq (.reg [⟨(some 6),(.mv (.c .nsl)),none,[]⟩])
 .ret) .skip))
 (.seq (.reg [⟨(some 13),(.mv (.t 1)),none,[]⟩,⟨(some 14),(.mv (.t 0)),none,[]⟩,⟨(some 15),(.nc (.t 14)),none,[]⟩,⟨(some 16),(.fa (.t 15) 0),none,[]⟩,⟨(some 17),(.ld (.t 16)),none,[]⟩,⟨(some 18),(.mn [(.t 13),(.t 17)]),none,[]⟩,⟨(some 1),(.mv (.t 18)),none,[]⟩])
 (.seq (.reg [⟨(some 7),(.mv (.c (.i .i64 0))),none,[]⟩])
 (.seq (.seq (.drw [⟨(some 19),(.mv (.t 0)),none,[]⟩,⟨(some 20),(.nc (.t 19)),none,[]⟩,⟨(some 21),(.fa (.t 20) 1),none,[]⟩,⟨(some 22),(.ld (.t 21)),none,[]⟩,⟨(some 24),(.mv (.t 0)),none,[]⟩,⟨(some 25),(.nc (.t 24)),none,[]⟩,⟨(some 26),(.fa (.t 25) 0),none,[]⟩,⟨(some 27),(.ld (.t 26)),none,[]⟩,⟨(some 28),(.mv (.t 0)),none,[]⟩,⟨(some 29),(.nc (.t 28)),none,[]⟩,⟨(some 30),(.fa (.t 29) 0),none,[]⟩,⟨(some 31),(.ld (.t 30)),none,[]⟩,⟨(some 32),(.bl [(.i .i64 0),(.i .i64 0)] [(0,1,(.t 27)),(1,1,(.t 31))]),none,[]⟩,⟨(some 33),(.bs 1 [(.i .i64 0),(.i .i64 0)] [(0,2,(.t 32))]),none,[]⟩,⟨(some 36),(.mv (.c (.i .i64 0))),none,[]⟩,⟨(some 23),(.call 226 [(.t 22)]),none,[(27,(.ld (.t 26)),none),(31,(.ld (.t 30)),none)]⟩,⟨(some 34),(.ap 2 (.t 23) (.t 33)),none,[]⟩,⟨(some 35),(.lns false (.t 34)),none,[]⟩])
 (.blk 0 (.loop (.seq (.reg [⟨(some 37),(.bi .lss (.t 36) (.t 35)),none,[]⟩])
 (.seq (.cond (.t 37) .skip (.exit 0))
 (.seq (.blk 1 (.seq (.reg [⟨(some 38),(.ias 2 (.t 34) (.t 36)),none,[]⟩,⟨(some 39),(.ldn (.t 38) 2),none,[]⟩,⟨(some 9),(.al [(.i .i64 0),(.i .i64 0)]),none,[]⟩,⟨none,(.st (.t 9) (.t 39) 2),none,[]⟩])
 (.seq (.seq (.reg [⟨(some 40),(.fa (.t 9) 0),none,[]⟩,⟨(some 41),(.ld (.t 40)),none,[]⟩,⟨(some 42),(.mv (.t 1)),none,[]⟩,⟨(some 43),(.mn [(.t 41),(.t 42)]),none,[]⟩,⟨(some 10),(.mv (.t 43)),none,[]⟩])
 (.seq (.reg [⟨(some 44),(.mv (.t 7)),none,[]⟩,⟨(some 45),(.mv (.t 10)),none,[]⟩,⟨(some 46),(.bi .lss (.t 44) (.t 45)),none,[]⟩,⟨(some 47),(.mv (.t 46)),none,[]⟩,⟨(some 48),(.mv (.t 6)),(some (47,true)),[]⟩,⟨(some 49),(.lns false (.t 48)),(some (47,true)),[]⟩,⟨(some 50),(.mv (.t 2)),(some (47,true)),[]⟩,⟨(some 51),(.bi .lss (.t 49) (.t 50)),(some (47,true)),[]⟩,⟨(some 52),(.pk (.t 47) (.t 51) (.c (.b false))),none,[]⟩])
 (.cond (.t 52) (.reg [⟨(some 53),(.mv (.t 6)),none,[]⟩,⟨(some 54),(.mv (.t 7)),none,[]⟩,⟨(some 55),(.mv (.t 10)),none,[]⟩,⟨(some 56),(.bl [(.i .i64 0),(.i .i64 0)] [(0,1,(.t 54)),(1,1,(.t 55))]),none,[]⟩,⟨(some 57),(.bs 1 [(.i .i64 0),(.i .i64 0)] [(0,2,(.t 56))]),none,[]⟩,⟨(some 58),(.ap 2 (.t 53) (.t 57)),none,[]⟩,⟨(some 6),(.mv (.t 58)),none,[]⟩]) .skip)))
 (.reg [⟨(some 59),(.fa (.t 9) 1),none,[]⟩,⟨(some 60),(.ld (.t 59)),none,[]⟩,⟨(some 7),(.mv (.t 60)),none,[]⟩]))))
 (.reg [⟨(some 61),(.bi .add (.t 36) (.c (.i .i64 1))),none,[]⟩,⟨(some 36),(.mv (.t 61)),none,[]⟩])))))))
 (.seq (.reg [⟨(some 62),(.mv (.t 6)),none,[]⟩,⟨(some 6),(.mv (.t 62)),none,[]⟩])
 .ret)))))) }
noncomputable def f224 : AFn := { np := 1, nt := 13, res := [.t 2,.t 3], body :=
 (.seq (.reg [⟨(some 2),(.mv (.c .np)),none,[]⟩,⟨(some 3),(.mv (.c (.i .i64 0))),none,[]⟩])
 (.seq (.seq (.reg [⟨(some 4),(.mv (.t 0)),none,[]⟩,⟨(some 5),(.bi .lss (.t 4) (.c (.i .i64 0))),none,[]⟩,⟨(some 6),(.mv (.t 5)),none,[]⟩,⟨(some 7),(.mv (.t 0)),(some (6,false)),[]⟩,⟨(some 8),(.bi .gtr (.t 7) (.c (.i .i64 1073741824))),(some (6,false)),[]⟩,⟨(some 9),(.pk (.t 6) (.c (.b true)) (.t 8)),none,[]⟩])
 (.cond (.t 9) (.seq (.reg [⟨(some 2),(.mv (.c .np)),none,[]⟩,⟨(some 3),(.mv (.c (.i .i64 1))),none,[]⟩])
 .ret) .skip))
 (.seq (.reg [⟨(some 10),(.mv (.t 0)),none,[]⟩,⟨(some 11),(.bl [(.i .i64 0),.nsl] [(0,1,(.t 10))]),none,[]⟩,⟨(some 12),(.bx (.t 11)),none,[]⟩,⟨(some 2),(.mv (.t 12)),none,[]⟩,⟨(some 3),(.mv (.c (.i .i64 0))),none,[]⟩])
 .ret))) }
noncomputable def f226 : AFn := { np := 1, nt := 8, res := [.t 2], body :=
 (.seq (.reg [⟨(some 2),(.mv (.c .nsl)),none,[]⟩])
 (.seq (.seq (.reg [⟨(some 3),(.mv (.t 0)),none,[]⟩,⟨(some 4),(.eq false .slc (.t 3) (.c .nsl)),none,[]⟩])
 (.cond (.t 4) (.seq (.reg [⟨(some 2),(.mv (.c .nsl)),none,[]⟩])
 .ret) .skip))
 (.seq (.reg [⟨(some 5),(.bs 0 [] []),none,[]⟩,⟨(some 6),(.mv (.t 0)),none,[]⟩,⟨(some 7),(.ap 2 (.t 5) (.t 6)),none,[]⟩,⟨(some 2),(.mv (.t 7)),none,[]⟩])
 .ret))) }
noncomputable def f227 : AFn := { np := 3, nt := 26, res := [.t 6], body :=
 (.seq (.reg [⟨(some 6),(.mv (.c (.b false))),none,[]⟩])
 (.seq (.reg [⟨(some 7),(.mv (.t 0)),none,[]⟩,⟨(some 8),(.eq true .ptr (.t 7) (.c .np)),none,[]⟩,⟨(some 9),(.mv (.t 8)),none,[]⟩,⟨(some 10),(.mv (.t 1)),(some (9,true)),[]⟩,⟨(some 11),(.bi .leq (.c (.i .i64 0)) (.t 10)),(some (9,true)),[]⟩,⟨(some 12),(.pk (.t 9) (.t 11) (.c (.b false))),none,[]⟩,⟨(some 13),(.mv (.t 12)),none,[]⟩,⟨(some 14),(.mv (.t 1)),(some (13,true)),[]⟩,⟨(some 15),(.mv (.t 2)),(some (13,true)),[]⟩,⟨(some 16),(.bi .leq (.t 14) (.t 15)),(some (13,true)),[]⟩,⟨(some 17),(.pk (.t 13) (.t 16) (.c (.b false))),none,[]⟩,⟨(some 18),(.mv (.t 17)),none,[]⟩,⟨(some 19),(.mv (.t 2)),(some (18,true)),[]⟩,⟨(some 20),(.mv (.t 0)),(some (18,true)),[]⟩,⟨(some 21),(.nc (.t 20)),(some (18,true)),[]⟩,⟨(some 22),(.fa (.t 21) 0),(some (18,true)),[]⟩,⟨(some 23),(.ld (.t 22)),(some (18,true)),[]⟩,⟨(some 24),(.bi .leq (.t 19) (.t 23)),(some (18,true)),[]⟩,⟨(some 25),(.pk (.t 18) (.t 24) (.c (.b false))),none,[]⟩,⟨(some 6),(.mv (.t 25)),none,[]⟩])
 .ret)) }
noncomputable def f228 : AFn := { np := 3, nt := 41, res := [.t 6], body :=
 (.seq (.reg [⟨(some 6),(.mv (.c (.i .i64 0))),none,[]⟩])
 (.seq (.seq (.reg [⟨(some 10),(.mv (.t 0)),none,[]⟩,⟨(some 11),(.mv (.t 1)),none,[]⟩,⟨(some 12),(.mv (.t 2)),none,[]⟩,⟨(some 13),(.call 227 [(.t 10),(.t 11),(.t 12)]),none,[]⟩,⟨(some 14),(.un .not (.t 13)),none,[]⟩])
 (.cond (.t 14) (.seq (.reg [⟨(some 6),(.mv (.c (.i .i64 0))),none,[]⟩])
 .ret) .skip))
 (.seq (.reg [⟨(some 15),(.mv (.t 2)),none,[]⟩,⟨(some 16),(.mv (.t 1)),none,[]⟩,⟨(some 17),(.bi .sub (.t 15) (.t 16)),none,[]⟩,⟨(some 7),(.mv (.t 17)),none,[]⟩])
 (.seq (.seq (.reg [⟨(some 18),(.mv (.t 0)),none,[]⟩,⟨(some 19),(.nc (.t 18)),none,[]⟩,⟨(some 20),(.fa (.t 19) 1),none,[]⟩,⟨(some 21),(.ld (.t 20)),none,[]⟩,⟨(some 22),(.lns false (.t 21)),none,[]⟩,⟨(some 23),(.mv (.c (.i .i64 0))),none,[]⟩])
 (.blk 0 (.loop (.seq (.reg [⟨(some 24),(.bi .lss (.t 23) (.t 22)),none,[]⟩])
 (.seq (.cond (.t 24) .skip (.exit 0))
 (.seq (.blk 1 (.seq (.reg [⟨(some 25),(.ias 2 (.t 21) (.t 23)),none,[]⟩,⟨(some 26),(.ldn (.t 25) 2),none,[]⟩,⟨(some 9),(.al [(.i .i64 0),(.i .i64 0)]),none,[]⟩,⟨none,(.st (.t 9) (.t 26) 2),none,[]⟩])
 (.reg [⟨(some 27),(.mv (.t 7)),none,[]⟩,⟨(some 28),(.fa (.t 9) 1),none,[]⟩,⟨(some 29),(.ld (.t 28)),none,[]⟩,⟨(some 30),(.mv (.t 2)),none,[]⟩,⟨(some 31),(.mn [(.t 29),(.t 30)]),none,[]⟩,⟨(some 32),(.fa (.t 9) 0),none,[]⟩,⟨(some 33),(.ld (.t 32)),none,[]⟩,⟨(some 34),(.mv (.t 1)),none,[]⟩,⟨(some 35),(.mx [(.t 33),(.t 34)]),none,[]⟩,⟨(some 36),(.bi .sub (.t 31) (.t 35)),none,[]⟩,⟨(some 37),(.mx [(.t 36),(.c (.i .i64 0))]),none,[]⟩,⟨(some 38),(.bi .sub (.t 27) (.t 37)),none,[]⟩,⟨(some 7),(.mv (.t 38)),none,[]⟩])))
 (.reg [⟨(some 39),(.bi .add (.t 23) (.c (.i .i64 1))),none,[]⟩,⟨(some 23),(.mv (.t 39)),none,[]⟩])))))))
 (.seq (.reg [⟨(some 40),(.mv (.t 7)),none,[]⟩,⟨(some 6),(.mv (.t 40)),none,[]⟩])
 .ret))))) }
noncomputable def f229 : AFn := { np := 1, nt := 8, res := [.t 3], body :=
 (.seq (.reg [⟨(some 2),(.bx (.t 0)),none,[]⟩,⟨(some 3),(.mv (.c (.b false))),none,[]⟩])
 (.seq (.reg [⟨(some 4),(.fa (.t 2) 1),none,[]⟩,⟨(some 5),(.ld (.t 4)),none,[]⟩,⟨(some 6),(.ld (.t 1)),none,[]⟩,⟨(some 7),(.bi .geq (.t 5) (.t 6)),none,[]⟩,⟨(some 3),(.mv (.t 7)),none,[]⟩])
 .ret)) }
noncomputable def f230 : AFn := { np := 4, nt := 224, res := [.t 8], body :=
 (.seq (.reg [⟨(some 8),(.mv (.c .nsl)),none,[]⟩])
 (.seq (.reg [⟨(some 15),(.mv (.t 0)),none,[]⟩,⟨(some 16),(.mv (.t 1)),none,[]⟩,⟨(some 17),(.mv (.t 2)),none,[]⟩,⟨(some 18),(.sll 2 (.t 15) (some (.t 16)) (some (.t 17)) none),none,[]⟩])
 (.seq (.seq (.reg [⟨(some 19),(.mv (.t 1)),none,[]⟩,⟨(some 20),(.mv (.t 2)),none,[]⟩,⟨(some 21),(.bi .eql (.t 19) (.t 20)),none,[]⟩])
 (.cond (.t 21) (.seq (.reg [⟨(some 22),(.mv (.t 0)),none,[]⟩,⟨(some 23),(.mv (.t 1)),none,[]⟩,⟨(some 24),(.mv (.t 3)),none,[]⟩,⟨(some 25),(.call 247 [(.t 22),(.t 23),(.t 24)]),none,[]⟩,⟨(some 8),(.mv (.t 25)),none,[]⟩])
 .ret) .skip))
 (.seq (.seq (.reg [⟨(some 26),(.mv (.t 2)),none,[]⟩,⟨(some 27),(.mv (.t 0)),none,[]⟩,⟨(some 28),(.lns false (.t 27)),none,[]⟩,⟨(some 29),(.bi .eql (.t 26) (.t 28)),none,[]⟩])
 (.cond (.t 29) (.seq (.reg [⟨(some 30),(.mv (.t 0)),none,[]⟩,⟨(some 31),(.mv (.t 1)),none,[]⟩,⟨(some 32),(.sll 2 (.t 30) none (some (.t 31)) none),none,[]⟩,⟨(some 33),(.mv (.t 3)),none,[]⟩,⟨(some 34),(.ap 2 (.t 32) (.t 33)),none,[]⟩,⟨(some 9),(.mv (.t 34)),none,[]⟩])
 (.seq (.seq (.reg [⟨(some 35),(.mv (.t 9)),none,[]⟩,⟨(some 36),(.lns false (.t 35)),none,[]⟩,⟨(some 37),(.mv (.t 0)),none,[]⟩,⟨(some 38),(.lns false (.t 37)),none,[]⟩,⟨(some 39),(.bi .lss (.t 36) (.t 38)),none,[]⟩])
 (.cond (.t 39) (.reg [⟨(some 40),(.mv (.t 0)),none,[]⟩,⟨(some 41),(.mv (.t 9)),none,[]⟩,⟨(some 42),(.lns false (.t 41)),none,[]⟩,⟨(some 43),(.sll 2 (.t 40) (some (.t 42)) none none),none,[]⟩,⟨none,(.cls [(.i .i64 0),(.i .i64 0)] (.t 43)),none,[]⟩]) .skip))
 (.seq (.reg [⟨(some 44),(.mv (.t 9)),none,[]⟩,⟨(some 8),(.mv (.t 44)),none,[]⟩])
 .ret))) .skip))
 (.seq (.drw [⟨(some 45),(.mv (.t 0)),none,[]⟩,⟨(some 46),(.mv (.t 1)),none,[]⟩,⟨(some 47),(.sll 2 (.t 45) none (some (.t 46)) none),none,[]⟩,⟨(some 48),(.lns false (.t 47)),none,[]⟩,⟨(some 49),(.mv (.t 3)),none,[]⟩,⟨(some 50),(.lns false (.t 49)),none,[]⟩,⟨(some 51),(.bi .add (.t 48) (.t 50)),none,[]⟩,⟨(some 52),(.mv (.t 0)),none,[]⟩,⟨(some 53),(.mv (.t 2)),none,[]⟩,⟨(some 54),(.sll 2 (.t 52) (some (.t 53)) none none),none,[]⟩,⟨(some 55),(.lns false (.t 54)),none,[]⟩,⟨(some 56),(.bi .add (.t 51) (.t 55)),none,[]⟩,⟨(some 10),(.mv (.t 56)),none,[]⟩])
 (.seq (.seq (.reg [⟨(some 57),(.mv (.t 10)),none,[]⟩,⟨(some 58),(.mv (.t 0)),none,[]⟩,⟨(some 59),(.cp (.t 58)),none,[]⟩,⟨(some 60),(.bi .gtr (.t 57) (.t 59)),none,[]⟩])
 (.cond (.t 60) (.seq (.reg [⟨(some 61),(.mv (.t 0)),none,[]⟩,⟨(some 62),(.mv (.t 1)),none,[]⟩,⟨(some 63),(.sll 2 (.t 61) none (some (.t 62)) none),none,[]⟩,⟨(some 64),(.mv (.t 10)),none,[]⟩,⟨(some 65),(.mv (.t 1)),none,[]⟩,⟨(some 66),(.bi .sub (.t 64) (.t 65)),none,[]⟩,⟨(some 67),(.apz 2 16 [(.i .i64 0),(.i .i64 0)] (.t 63) (.t 66)),none,[]⟩,⟨(some 11),(.mv (.t 67)),none,[]⟩])
 (.seq (.reg [⟨(some 68),(.mv (.t 11)),none,[]⟩,⟨(some 69),(.mv (.t 1)),none,[]⟩,⟨(some 70),(.sll 2 (.t 68) (some (.t 69)) none none),none,[]⟩,⟨(some 71),(.mv (.t 3)),none,[]⟩,⟨(some 72),(.cpy 2 (.t 70) (.t 71)),none,[]⟩])
 (.seq (.drw [⟨(some 73),(.mv (.t 11)),none,[]⟩,⟨(some 74),(.mv (.t 1)),none,[]⟩,⟨(some 75),(.mv (.t 3)),none,[]⟩,⟨(some 76),(.lns false (.t 75)),none,[]⟩,⟨(some 77),(.bi .add (.t 74) (.t 76)),none,[]⟩,⟨(some 78),(.sll 2 (.t 73) (some (.t 77)) none none),none,[]⟩,⟨(some 79),(.mv (.t 0)),none,[]⟩,⟨(some 80),(.mv (.t 2)),none,[]⟩,⟨(some 81),(.sll 2 (.t 79) (some (.t 80)) none none),none,[]⟩,⟨(some 82),(.cpy 2 (.t 78) (.t 81)),none,[]⟩])
 (.seq (.reg [⟨(some 83),(.mv (.t 11)),none,[]⟩,⟨(some 8),(.mv (.t 83)),none,[]⟩])
 .ret)))) .skip))
 (.seq (.reg [⟨(some 84),(.mv (.t 0)),none,[]⟩,⟨(some 85),(.mv (.t 10)),none,[]⟩,⟨(some 86),(.sll 2 (.t 84) none (some (.t 85)) none),none,[]⟩,⟨(some 12),(.mv (.t 86)),none,[]⟩])
 (.seq (.seq (.reg [⟨(some 87),(.mv (.t 1)),none,[]⟩,⟨(some 88),(.mv (.t 3)),none,[]⟩,⟨(some 89),(.lns false (.t 88)),none,[]⟩,⟨(some 90),(.bi .add (.t 87) (.t 89)),none,[]⟩,⟨(some 91),(.mv (.t 2)),none,[]⟩,⟨(some 92),(.bi .leq (.t 90) (.t 91)),none,[]⟩])
 (.cond (.t 92) (.seq (.reg [⟨(some 93),(.mv (.t 12)),none,[]⟩,⟨(some 94),(.mv (.t 1)),none,[]⟩,⟨(some 95),(.sll 2 (.t 93) (some (.t 94)) none none),none,[]⟩,⟨(some 96),(.mv (.t 3)),none,[]⟩,⟨(some 97),(.cpy 2 (.t 95) (.t 96)),none,[]⟩])
 (.seq (.drw [⟨(some 98),(.mv (.t 12)),none,[]⟩,⟨(some 99),(.mv (.t 1)),none,[]⟩,⟨(some 100),(.mv (.t 3)),none,[]⟩,⟨(some 101),(.lns false (.t 100)),none,[]⟩,⟨(some 102),(.bi .add (.t 99) (.t 101)),none,[]⟩,⟨(some 103),(.sll 2 (.t 98) (some (.t 102)) none none),none,[]⟩,⟨(some 104),(.mv (.t 0)),none,[]⟩,⟨(some 105),(.mv (.t 2)),none,[]⟩,⟨(some 106),(.sll 2 (.t 104) (some (.t 105)) none none),none,[]⟩,⟨(some 107),(.cpy 2 (.t 103) (.t 106)),none,[]⟩])
 (.seq (.reg [⟨(some 108),(.mv (.t 0)),none,[]⟩,⟨(some 109),(.mv (.t 10)),none,[]⟩,⟨(some 110),(.sll 2 (.t 108) (some (.t 109)) none none),none,[]⟩,⟨none,(.cls [(.i .i64 0),(.i .i64 0)] (.t 110)),none,[]⟩])
 (.seq (.reg [⟨(some 111),(.mv (.t 12)),none,[]⟩,⟨(some 8),(.mv (.t 111)),none,[]⟩])
 .ret)))) .skip))
 (.seq (.seq (.reg [⟨(some 112),(.mv (.t 12)),none,[]⟩,⟨(some 113),(.mv (.t 1)),none,[]⟩,⟨(some 114),(.mv (.t 3)),none,[]⟩,⟨(some 115),(.lns false (.t 114)),none,[]⟩,⟨(some 116),(.bi .add (.t 113) (.t 115)),none,[]⟩,⟨(some 117),(.sll 2 (.t 112) (some (.t 116)) none none),none,[]⟩,⟨(some 118),(.mv (.t 3)),none,[]⟩,⟨(some 119),(.call 248 [(.t 117),(.t 118)]),none,[]⟩,⟨(some 120),(.un .not (.t 119)),none,[]⟩])
 (.cond (.t 120) (.seq (.drw [⟨(some 121),(.mv (.t 12)),none,[]⟩,⟨(some 122),(.mv (.t 1)),none,[]⟩,⟨(some 123),(.mv (.t 3)),none,[]⟩,⟨(some 124),(.lns false (.t 123)),none,[]⟩,⟨(some 125),(.bi .add (.t 122) (.t 124)),none,[]⟩,⟨(some 126),(.sll 2 (.t 121) (some (.t 125)) none none),none,[]⟩,⟨(some 127),(.mv (.t 0)),none,[]⟩,⟨(some 128),(.mv (.t 2)),none,[]⟩,⟨(some 129),(.sll 2 (.t 127) (some (.t 128)) none none),none,[]⟩,⟨(some 130),(.cpy 2 (.t 126) (.t 129)),none,[]⟩])
 (.seq (.reg [⟨(some 131),(.mv (.t 12)),none,[]⟩,⟨(some 132),(.mv (.t 1)),none,[]⟩,⟨(some 133),(.sll 2 (.t 131) (some (.t 132)) none none),none,[]⟩,⟨(some 134),(.mv (.t 3)),none,[]⟩,⟨(some 135),(.cpy 2 (.t 133) (.t 134)),none,[]⟩])
 (.seq (.reg [⟨(some 136),(.mv (.t 12)),none,[]⟩,⟨(some 8),(.mv (.t 136)),none,[]⟩])
 .ret))) .skip))
 (.seq (.reg [⟨(some 137),(.mv (.t 3)),none,[]⟩,⟨(some 138),(.lns false (.t 137)),none,[]⟩,⟨(some 139),(.mv (.t 2)),none,[]⟩,⟨(some 140),(.mv (.t 1)),none,[]⟩,⟨(some 141),(.bi .sub (.t 139) (.t 140)),none,[]⟩,⟨(some 142),(.bi .sub (.t 138) (.t 141)),none,[]⟩,⟨(some 13),(.mv (.t 142)),none,[]⟩])
 (.seq (.seq (.reg [⟨(some 143),(.mv (.t 12)),none,[]⟩,⟨(some 144),(.mv (.t 1)),none,[]⟩,⟨(some 145),(.mv (.t 2)),none,[]⟩,⟨(some 146),(.sll 2 (.t 143) (some (.t 144)) (some (.t 145)) none),none,[]⟩,⟨(some 147),(.mv (.t 3)),none,[]⟩,⟨(some 148),(.call 248 [(.t 146),(.t 147)]),none,[]⟩,⟨(some 149),(.un .not (.t 148)),none,[]⟩])
 (.cond (.t 149) (.seq (.drw [⟨(some 150),(.mv (.t 12)),none,[]⟩,⟨(some 151),(.mv (.t 1)),none,[]⟩,⟨(some 152),(.mv (.t 2)),none,[]⟩,⟨(some 153),(.sll 2 (.t 150) (some (.t 151)) (some (.t 152)) none),none,[]⟩,⟨(some 154),(.mv (.t 3)),none,[]⟩,⟨(some 155),(.mv (.t 13)),none,[]⟩,⟨(some 156),(.sll 2 (.t 154) (some (.t 155)) none none),none,[]⟩,⟨(some 157),(.cpy 2 (.t 153) (.t 156)),none,[]⟩])
 (.seq (.drw [⟨(some 158),(.mv (.t 12)),none,[]⟩,⟨(some 159),(.mv (.t 0)),none,[]⟩,⟨(some 160),(.lns false (.t 159)),none,[]⟩,⟨(some 161),(.sll 2 (.t 158) (some (.t 160)) none none),none,[]⟩,⟨(some 162),(.mv (.t 3)),none,[]⟩,⟨(some 163),(.mv (.t 13)),none,[]⟩,⟨(some 164),(.sll 2 (.t 162) none (some (.t 163)) none),none,[]⟩,⟨(some 165),(.cpy 2 (.t 161) (.t 164)),none,[]⟩])
 (.seq (.reg [⟨(some 166),(.mv (.t 12)),none,[]⟩,⟨(some 167),(.mv (.t 1)),none,[]⟩,⟨(some 168),(.sll 2 (.t 166) (some (.t 167)) none none),none,[]⟩,⟨(some 169),(.mv (.t 13)),none,[]⟩,⟨(some 170),(.call 249 [(.t 168),(.t 169)]),none,[]⟩])
 (.seq (.reg [⟨(some 171),(.mv (.t 12)),none,[]⟩,⟨(some 8),(.mv (.t 171)),none,[]⟩])
 .ret)))) .skip))
 (.seq (.seq (.reg [⟨(some 172),(.mv (.t 12)),none,[]⟩,⟨(some 173),(.mv (.t 0)),none,[]⟩,⟨(some 174),(.lns false (.t 173)),none,[]⟩,⟨(some 175),(.sll 2 (.t 172) (some (.t 174)) none none),none,[]⟩,⟨(some 176),(.mv (.t 3)),none,[]⟩,⟨(some 177),(.call 248 [(.t 175),(.t 176)]),none,[]⟩,⟨(some 178),(.un .not (.t 177)),none,[]⟩])
 (.cond (.t 178) (.seq (.drw [⟨(some 179),(.mv (.t 12)),none,[]⟩,⟨(some 180),(.mv (.t 0)),none,[]⟩,⟨(some 181),(.lns false (.t 180)),none,[]⟩,⟨(some 182),(.sll 2 (.t 179) (some (.t 181)) none none),none,[]⟩,⟨(some 183),(.mv (.t 3)),none,[]⟩,⟨(some 184),(.mv (.t 13)),none,[]⟩,⟨(some 185),(.sll 2 (.t 183) none (some (.t 184)) none),none,[]⟩,⟨(some 186),(.cpy 2 (.t 182) (.t 185)),none,[]⟩])
 (.seq (.drw [⟨(some 187),(.mv (.t 12)),none,[]⟩,⟨(some 188),(.mv (.t 1)),none,[]⟩,⟨(some 189),(.mv (.t 2)),none,[]⟩,⟨(some 190),(.sll 2 (.t 187) (some (.t 188)) (some (.t 189)) none),none,[]⟩,⟨(some 191),(.mv (.t 3)),none,[]⟩,⟨(some 192),(.mv (.t 13)),none,[]⟩,⟨(some 193),(.sll 2 (.t 191) (some (.t 192)) none none),none,[]⟩,⟨(some 194),(.cpy 2 (.t 190) (.t 193)),none,[]⟩])
 (.seq (.reg [⟨(some 195),(.mv (.t 12)),none,[]⟩,⟨(some 196),(.mv (.t 1)),none,[]⟩,⟨(some 197),(.sll 2 (.t 195) (some (.t 196)) none none),none,[]⟩,⟨(some 198),(.mv (.t 13)),none,[]⟩,⟨(some 199),(.call 249 [(.t 197),(.t 198)]),none,[]⟩])
 (.seq (.reg [⟨(some 200),(.mv (.t 12)),none,[]⟩,⟨(some 8),(.mv (.t 200)),none,[]⟩])
 .ret)))) .skip))
 (.seq (.reg [⟨(some 201),(.mv (.t 3)),none,[]⟩,⟨(some 202),(.mv (.t 0)),none,[]⟩,⟨(some 203),(.mv (.t 2)),none,[]⟩,⟨(some 204),(.sll 2 (.t 202) (some (.t 203)) none none),none,[]⟩,⟨(some 205),(.call 250 [(.t 201),(.t 204)]),none,[]⟩,⟨(some 14),(.mv (.t 205)),none,[]⟩])
 (.seq (.reg [⟨(some 206),(.mv (.t 12)),none,[]⟩,⟨(some 207),(.mv (.t 1)),none,[]⟩,⟨(some 208),(.sll 2 (.t 206) (some (.t 207)) none none),none,[]⟩,⟨(some 209),(.mv (.t 3)),none,[]⟩,⟨(some 210),(.cpy 2 (.t 208) (.t 209)),none,[]⟩])
 (.seq (.drw [⟨(some 211),(.mv (.t 12)),none,[]⟩,⟨(some 212),(.mv (.t 1)),none,[]⟩,⟨(some 213),(.mv (.t 3)),none,[]⟩,⟨(some 214),(.lns false (.t 213)),none,[]⟩,⟨(some 215),(.bi .add (.t 212) (.t 214)),none,[]⟩,⟨(some 216),(.sll 2 (.t 211) (some (.t 215)) none none),none,[]⟩,⟨(some 217),(.mv (.t 12)),none,[]⟩,⟨(some 218),(.mv (.t 1)),none,[]⟩,⟨(some 219),(.mv (.t 14)),none,[]⟩,⟨(some 220),(.bi .add (.t 218) (.t 219)),none,[]⟩,⟨(some 221),(.sll 2 (.t 217) (some (.t 220)) none none),none,[]⟩,⟨(some 222),(.cpy 2 (.t 216) (.t 221)),none,[]⟩])
 (.seq (.reg [⟨(some 223),(.mv (.t 12)),none,[]⟩,⟨(some 8),(.mv (.t 223)),none,[]⟩])
 .ret)))))))))))))))) }
noncomputable def f231 : AFn := { np := 1, nt := 21, res := [.t 2], body :=
 (.seq (.reg [⟨(some 2),(.mv (.c (.i .i64 0))),none,[]⟩])
 (.seq (.seq (.reg [⟨(some 5),(.mv (.t 0)),none,[]⟩,⟨(some 6),(.call 201 [(.t 5)]),none,[]⟩,⟨(some 7),(.lns false (.t 6)),none,[]⟩,⟨(some 8),(.mv (.c (.i .i64 0))),none,[]⟩])
 (.blk 0 (.loop (.seq (.reg [⟨(some 9),(.bi .lss (.t 8) (.t 7)),none,[]⟩])
 (.seq (.cond (.t 9) .skip (.exit 0))
 (.seq (.blk 1 (.seq (.reg [⟨(some 10),(.ias 2 (.t 6) (.t 8)),none,[]⟩,⟨(some 11),(.ldn (.t 10) 2),none,[]⟩,⟨(some 4),(.al [(.i .i64 0),(.i .i64 0)]),none,[]⟩,⟨none,(.st (.t 4) (.t 11) 2),none,[]⟩])
 (.reg [⟨(some 12),(.mv (.t 2)),none,[]⟩,⟨(some 13),(.fa (.t 4) 1),none,[]⟩,⟨(some 14),(.ld (.t 13)),none,[]⟩,⟨(some 15),(.fa (.t 4) 0),none,[]⟩,⟨(some 16),(.ld (.t 15)),none,[]⟩,⟨(some 17),(.bi .sub (.t 14) (.t 16)),none,[]⟩,⟨(some 18),(.bi .add (.t 12) (.t 17)),none,[]⟩,⟨(some 2),(.mv (.t 18)),none,[]⟩])))
 (.reg [⟨(some 19),(.bi .add (.t 8) (.c (.i .i64 1))),none,[]⟩,⟨(some 8),(.mv (.t 19)),none,[]⟩])))))))
 (.seq (.reg [⟨(some 20),(.mv (.t 2)),none,[]⟩,⟨(some 2),(.mv (.t 20)),none,[]⟩])
 .ret))) }
noncomputable def f240 : AFn := { np := 2, nt := 24, res := [.t 4], body :=
 (.seq (.reg [⟨(some 3),(.bx (.t 1)),none,[]⟩,⟨(some 4),(.mv (.c (.i .i64 0))),none,[]⟩])
 (.seq (.reg [⟨(some 6),(.fa (.t 3) 1),none,[]⟩,⟨(some 7),(.ld (.t 6)),none,[]⟩,⟨(some 8),(.bi .mul (.t 7) (.c (.i .u64 11400714819323198485))),none,[]⟩,⟨(some 9),(.fa (.t 3) 0),none,[]⟩,⟨(some 10),(.ld (.t 9)),none,[]⟩,⟨(some 11),(.cvi .u64 (.t 10)),none,[]⟩,⟨(some 12),(.bi .mul (.t 11) (.c (.i .u64 13787848793156543929))),none,[]⟩,⟨(some 13),(.bi .add (.t 8) (.t 12)),none,[]⟩,⟨(some 14),(.bi .shr (.t 13) (.c (.i .u64 20))),none,[]⟩,⟨(some 5),(.mv (.t 14)),none,[]⟩])
 (.seq (.reg [⟨(some 15),(.mv (.t 5)),none,[]⟩,⟨(some 16),(.mv (.t 0)),none,[]⟩,⟨(some 17),(.nc (.t 16)),none,[]⟩,⟨(some 18),(.fa (.t 17) 2),none,[]⟩,⟨(some 19),(.ld (.t 18)),none,[]⟩,⟨(some 20),(.lns false (.t 19)),none,[]⟩,⟨(some 21),(.cvi .u64 (.t 20)),none,[]⟩,⟨(some 22),(.bi .rem (.t 15) (.t 21)),none,[]⟩,⟨(some 23),(.cvi .i64 (.t 22)),none,[]⟩,⟨(some 4),(.mv (.t 23)),none,[]⟩])
 .ret))) }
noncomputable def f247 : AFn := { np := 3, nt := 95, res := [.t 6], body :=
 (.seq (.reg [⟨(some 6),(.mv (.c .nsl)),none,[]⟩])
 (.seq (.reg [⟨(some 10),(.mv (.t 0)),none,[]⟩,⟨(some 11),(.mv (.t 1)),none,[]⟩,⟨(some 12),(.sll 2 (.t 10) (some (.t 11)) none none),none,[]⟩])
 (.seq (.reg [⟨(some 13),(.mv (.t 2)),none,[]⟩,⟨(some 14),(.lns false (.t 13)),none,[]⟩,⟨(some 7),(.mv (.t 14)),none,[]⟩])
 (.seq (.seq (.reg [⟨(some 15),(.mv (.t 7)),none,[]⟩,⟨(some 16),(.bi .eql (.t 15) (.c (.i .i64 0))),none,[]⟩])
 (.cond (.t 16) (.seq (.reg [⟨(some 17),(.mv (.t 0)),none,[]⟩,⟨(some 6),(.mv (.t 17)),none,[]⟩])
 .ret) .skip))
 (.seq (.reg [⟨(some 18),(.mv (.t 0)),none,[]⟩,⟨(some 19),(.lns false (.t 18)),none,[]⟩,⟨(some 8),(.mv (.t 19)),none,[]⟩])
 (.seq (.seq (.reg [⟨(some 20),(.mv (.t 1)),none,[]⟩,⟨(some 21),(.mv (.t 8)),none,[]⟩,⟨(some 22),(.bi .eql (.t 20) (.t 21)),none,[]⟩])
 (.cond (.t 22) (.seq (.reg [⟨(some 23),(.mv (.t 0)),none,[]⟩,⟨(some 24),(.mv (.t 2)),none,[]⟩,⟨(some 25),(.ap 2 (.t 23) (.t 24)),none,[]⟩,⟨(some 6),(.mv (.t 25)),none,[]⟩])
 .ret) .skip))
 (.seq (.seq (.reg [⟨(some 26),(.mv (.t 8)),none,[]⟩,⟨(some 27),(.mv (.t 7)),none,[]⟩,⟨(some 28),(.bi .add (.t 26) (.t 27)),none,[]⟩,⟨(some 29),(.mv (.t 0)),none,[]⟩,⟨(some 30),(.cp (.t 29)),none,[]⟩,⟨(some 31),(.bi .gtr (.t 28) (.t 30)),none,[]⟩])
 (.cond (.t 31) (.seq (.reg [⟨(some 32),(.mv (.t 0)),none,[]⟩,⟨(some 33),(.mv (.t 1)),none,[]⟩,⟨(some 34),(.sll 2 (.t 32) none (some (.t 33)) none),none,[]⟩,⟨(some 35),(.mv (.t 8)),none,[]⟩,⟨(some 36),(.mv (.t 7)),none,[]⟩,⟨(some 37),(.bi .add (.t 35) (.t 36)),none,[]⟩,⟨(some 38),(.mv (.t 1)),none,[]⟩,⟨(some 39),(.bi .sub (.t 37) (.t 38)),none,[]⟩,⟨(some 40),(.apz 2 16 [(.i .i64 0),(.i .i64 0)] (.t 34) (.t 39)),none,[]⟩,⟨(some 9),(.mv (.t 40)),none,[]⟩])
 (.seq (.reg [⟨(some 41),(.mv (.t 9)),none,[]⟩,⟨(some 42),(.mv (.t 1)),none,[]⟩,⟨(some 43),(.sll 2 (.t 41) (some (.t 42)) none none),none,[]⟩,⟨(some 44),(.mv (.t 2)),none,[]⟩,⟨(some 45),(.cpy 2 (.t 43) (.t 44)),none,[]⟩])
 (.seq (.drw [⟨(some 46),(.mv (.t 9)),none,[]⟩,⟨(some 47),(.mv (.t 1)),none,[]⟩,⟨(some 48),(.mv (.t 7)),none,[]⟩,⟨(some 49),(.bi .add (.t 47) (.t 48)),none,[]⟩,⟨(some 50),(.sll 2 (.t 46) (some (.t 49)) none none),none,[]⟩,⟨(some 51),(.mv (.t 0)),none,[]⟩,⟨(some 52),(.mv (.t 1)),none,[]⟩,⟨(some 53),(.sll 2 (.t 51) (some (.t 52)) none none),none,[]⟩,⟨(some 54),(.cpy 2 (.t 50) (.t 53)),none,[]⟩])
 (.seq (.reg [⟨(some 55),(.mv (.t 9)),none,[]⟩,⟨(some 6),(.mv (.t 55)),none,[]⟩])
 .ret)))) .skip))
 (.seq (.reg [⟨(some 56),(.mv (.t 0)),none,[]⟩,⟨(some 57),(.mv (.t 8)),none,[]⟩,⟨(some 58),(.mv (.t 7)),none,[]⟩,⟨(some 59),(.bi .add (.t 57) (.t 58)),none,[]⟩,⟨(some 60),(.sll 2 (.t 56) none (some (.t 59)) none),none,[]⟩,⟨(some 0),(.mv (.t 60)),none,[]⟩])
 (.seq (.seq (.reg [⟨(some 61),(.mv (.t 2)),none,[]⟩,⟨(some 62),(.mv (.t 0)),none,[]⟩,⟨(some 63),(.mv (.t 1)),none,[]⟩,⟨(some 64),(.mv (.t 7)),none,[]⟩,⟨(some 65),(.bi .add (.t 63) (.t 64)),none,[]⟩,⟨(some 66),(.sll 2 (.t 62) (some (.t 65)) none none),none,[]⟩,⟨(some 67),(.call 248 [(.t 61),(.t 66)]),none,[]⟩,⟨(some 68),(.un .not (.t 67)),none,[]⟩])
 (.cond (.t 68) (.seq (.drw [⟨(some 69),(.mv (.t 0)),none,[]⟩,⟨(some 70),(.mv (.t 1)),none,[]⟩,⟨(some 71),(.mv (.t 7)),none,[]⟩,⟨(some 72),(.bi .add (.t 70) (.t 71)),none,[]⟩,⟨(some 73),(.sll 2 (.t 69) (some (.t 72)) none none),none,[]⟩,⟨(some 74),(.mv (.t 0)),none,[]⟩,⟨(some 75),(.mv (.t 1)),none,[]⟩,⟨(some 76),(.sll 2 (.t 74) (some (.t 75)) none none),none,[]⟩,⟨(some 77),(.cpy 2 (.t 73) (.t 76)),none,[]⟩])
 (.seq (.reg [⟨(some 78),(.mv (.t 0)),none,[]⟩,⟨(some 79),(.mv (.t 1)),none,[]⟩,⟨(some 80),(.sll 2 (.t 78) (some (.t 79)) none none),none,[]⟩,⟨(some 81),(.mv (.t 2)),none,[]⟩,⟨(some 82),(.cpy 2 (.t 80) (.t 81)),none,[]⟩])
 (.seq (.reg [⟨(some 83),(.mv (.t 0)),none,[]⟩,⟨(some 6),(.mv (.t 83)),none,[]⟩])
 .ret))) .skip))
 (.seq (.reg [⟨(some 84),(.mv (.t 0)),none,[]⟩,⟨(some 85),(.mv (.t 8)),none,[]⟩,⟨(some 86),(.sll 2 (.t 84) (some (.t 85)) none none),none,[]⟩,⟨(some 87),(.mv (.t 2)),none,[]⟩,⟨(some 88),(.cpy 2 (.t 86) (.t 87)),none,[]⟩])
 (.seq (.reg [⟨(some 89),(.mv (.t 0)),none,[]⟩,⟨(some 90),(.mv (.t 1)),none,[]⟩,⟨(some 91),(.sll 2 (.t 89) (some (.t 90)) none none),none,[]⟩,⟨(some 92),(.mv (.t 7)),none,[]⟩,⟨(some 93),(.call 249 [(.t 91),(.t 92)]),none,[]⟩])
 (.seq (.reg [⟨(some 94),(.mv (.t 0)),none,[]⟩,⟨(some 6),(.mv (.t 94)),none,[]⟩])
 .ret)))))))))))) }
noncomputable def f274 : AFn := { np := 2, nt := 78, res := [.t 4], body :=
 (.seq (.reg [⟨(some 3),(.bx (.t 1)),none,[]⟩,⟨(some 4),(.mv (.c (.i .i64 0))),none,[]⟩])
 (.seq (.reg [⟨(some 9),(.mv (.t 0)),none,[]⟩,⟨(some 10),(.ldn (.t 3) 2),none,[]⟩,⟨(some 11),(.call 281 [(.t 9),(.t 10)]),none,[]⟩,⟨(some 8),(.mv (.t 11)),none,[]⟩,⟨(some 12),(.ex (.t 8) 0),none,[]⟩,⟨(some 13),(.ex (.t 8) 1),none,[]⟩,⟨(some 5),(.mv (.t 12)),none,[]⟩,⟨(some 6),(.mv (.t 13)),none,[]⟩])
 (.seq (.seq (.reg [⟨(some 14),(.mv (.t 6)),none,[]⟩,⟨(some 15),(.un .not (.t 14)),none,[]⟩])
 (.cond (.t 15) (.seq (.reg [⟨(some 4),(.mv (.c (.i .i64 5))),none,[]⟩])
 .ret) .skip))
 (.seq (.reg [⟨(some 16),(.mv (.t 0)),none,[]⟩,⟨(some 17),(.nc (.t 16)),none,[]⟩,⟨(some 18),(.fa (.t 17) 2),none,[]⟩,⟨(some 19),(.ld (.t 18)),none,[]⟩,⟨(some 20),(.mv (.t 5)),none,[]⟩,⟨(some 21),(.bl [(.b false),(.i .i64 0),(.i .u64 0),.np,.np,.np] []),none,[]⟩,⟨(some 22),(.ias 6 (.t 19) (.t 20)),none,[]⟩,⟨none,(.st (.t 22) (.t 21) 6),none,[]⟩])
 (.seq (.reg [⟨(some 23),(.mv (.t 0)),none,[]⟩,⟨(some 24),(.nc (.t 23)),none,[]⟩,⟨(some 25),(.fa (.t 24) 1),none,[]⟩,⟨(some 26),(.ld (.t 25)),none,[]⟩,⟨(some 27),(.bi .sub (.t 26) (.c (.i .i64 1))),none,[]⟩,⟨(some 28),(.nc (.t 23)),none,[]⟩,⟨(some 29),(.fa (.t 28) 1),none,[]⟩,⟨none,(.st (.t 29) (.t 27) 1),none,[]⟩])
 (.seq (.seq (.reg [⟨(some 30),(.mv (.t 5)),none,[]⟩,⟨(some 31),(.bi .add (.t 30) (.c (.i .i64 1))),none,[]⟩,⟨(some 32),(.mv (.t 0)),none,[]⟩,⟨(some 33),(.nc (.t 32)),none,[]⟩,⟨(some 34),(.fa (.t 33) 2),none,[]⟩,⟨(some 35),(.ld (.t 34)),none,[]⟩,⟨(some 36),(.lns false (.t 35)),none,[]⟩,⟨(some 37),(.bi .rem (.t 31) (.t 36)),none,[]⟩,⟨(some 5),(.mv (.t 37)),none,[]⟩])
 (.blk 0 (.loop (.seq (.seq (.reg [⟨(some 38),(.mv (.t 0)),none,[]⟩,⟨(some 39),(.nc (.t 38)),none,[]⟩,⟨(some 40),(.fa (.t 39) 2),none,[]⟩,⟨(some 41),(.ld (.t 40)),none,[]⟩,⟨(some 42),(.mv (.t 5)),none,[]⟩,⟨(some 43),(.ias 6 (.t 41) (.t 42)),none,[]⟩,⟨(some 44),(.fa (.t 43) 0),none,[]⟩,⟨(some 45),(.ld (.t 44)),none,[]⟩])
 (.cond (.t 45) .skip (.exit 0)))
 (.seq (.blk 1 (.seq (.reg [⟨(some 54),(.mv (.t 0)),none,[]⟩,⟨(some 55),(.nc (.t 54)),none,[]⟩,⟨(some 56),(.fa (.t 55) 2),none,[]⟩,⟨(some 57),(.ld (.t 56)),none,[]⟩,⟨(some 58),(.mv (.t 5)),none,[]⟩,⟨(some 59),(.ias 6 (.t 57) (.t 58)),none,[]⟩,⟨(some 60),(.ldn (.t 59) 6),none,[]⟩,⟨(some 7),(.al [(.b false),(.i .i64 0),(.i .u64 0),.np,.np,.np]),none,[]⟩,⟨none,(.st (.t 7) (.t 60) 6),none,[]⟩])
 (.seq (.reg [⟨(some 61),(.mv (.t 0)),none,[]⟩,⟨(some 62),(.nc (.t 61)),none,[]⟩,⟨(some 63),(.fa (.t 62) 2),none,[]⟩,⟨(some 64),(.ld (.t 63)),none,[]⟩,⟨(some 65),(.mv (.t 5)),none,[]⟩,⟨(some 66),(.bl [(.b false),(.i .i64 0),(.i .u64 0),.np,.np,.np] []),none,[]⟩,⟨(some 67),(.ias 6 (.t 64) (.t 65)),none,[]⟩,⟨none,(.st (.t 67) (.t 66) 6),none,[]⟩])
 (.drw [⟨(some 68),(.mv (.t 0)),none,[]⟩,⟨(some 69),(.nc (.t 68)),none,[]⟩,⟨(some 70),(.fa (.t 69) 2),none,[]⟩,⟨(some 71),(.ld (.t 70)),none,[]⟩,⟨(some 72),(.mv (.t 0)),none,[]⟩,⟨(some 73),(.fa (.t 7) 1),none,[]⟩,⟨(some 74),(.ldn (.t 73) 2),none,[]⟩,⟨(some 76),(.ldn (.t 7) 6),none,[]⟩,⟨(some 75),(.call 279 [(.t 72),(.t 74)]),none,[(71,(.ld (.t 70)),none),(76,(.ldn (.t 7) 6),none)]⟩,⟨(some 77),(.ias 6 (.t 71) (.t 75)),none,[]⟩,⟨none,(.st (.t 77) (.t 76) 6),none,[]⟩]))))
 (.reg [⟨(some 46),(.mv (.t 5)),none,[]⟩,⟨(some 47),(.bi .add (.t 46) (.c (.i .i64 1))),none,[]⟩,⟨(some 48),(.mv (.t 0)),none,[]⟩,⟨(some 49),(.nc (.t 48)),none,[]⟩,⟨(some 50),(.fa (.t 49) 2),none,[]⟩,⟨(some 51),(.ld (.t 50)),none,[]⟩,⟨(some 52),(.lns false (.t 51)),none,[]⟩,⟨(some 53),(.bi .rem (.t 47) (.t 52)),none,[]⟩,⟨(some 5),(.mv (.t 53)),none,[]⟩]))))))
 (.seq (.reg [⟨(some 4),(.mv (.c (.i .i64 0))),none,[]⟩])
 .ret))))))) }
noncomputable def f275 : AFn := { np := 2, nt := 24, res := [.c 4 3 true,.t 5], body :=
 (.seq (.reg [⟨(some 3),(.bx (.t 1)),none,[]⟩,⟨(some 4),(.al [.np,.np,.np]),none,[]⟩,⟨(some 5),(.mv (.c (.b false))),none,[]⟩])
 (.seq (.reg [⟨(some 8),(.mv (.t 0)),none,[]⟩,⟨(some 9),(.ldn (.t 3) 2),none,[]⟩,⟨(some 10),(.call 281 [(.t 8),(.t 9)]),none,[]⟩,⟨(some 7),(.mv (.t 10)),none,[]⟩,⟨(some 11),(.ex (.t 7) 0),none,[]⟩,⟨(some 12),(.ex (.t 7) 1),none,[]⟩,⟨(some 6),(.mv (.t 11)),none,[]⟩,⟨(some 5),(.mv (.t 12)),none,[]⟩])
 (.seq (.seq (.reg [⟨(some 13),(.mv (.t 5)),none,[]⟩])
 (.cond (.t 13) (.reg [⟨(some 14),(.mv (.t 0)),none,[]⟩,⟨(some 15),(.nc (.t 14)),none,[]⟩,⟨(some 16),(.fa (.t 15) 2),none,[]⟩,⟨(some 17),(.ld (.t 16)),none,[]⟩,⟨(some 18),(.mv (.t 6)),none,[]⟩,⟨(some 19),(.ias 6 (.t 17) (.t 18)),none,[]⟩,⟨(some 20),(.fa (.t 19) 3),none,[]⟩,⟨(some 21),(.ldn (.t 20) 3),none,[]⟩,⟨none,(.st (.t 4) (.t 21) 3),none,[]⟩]) .skip))
 (.seq (.reg [⟨(some 22),(.ldn (.t 4) 3),none,[]⟩,⟨(some 23),(.mv (.t 5)),none,[]⟩,⟨none,(.st (.t 4) (.t 22) 3),none,[]⟩,⟨(some 5),(.mv (.t 23)),none,[]⟩])
 .ret)))) }
noncomputable def f278 : AFn := { np := 3, nt := 63, res := [.t 6], body :=
 (.seq (.reg [⟨(some 4),(.bx (.t 1)),none,[]⟩,⟨(some 5),(.bx (.t 2)),none,[]⟩,⟨(some 6),(.mv (.c (.i .i64 0))),none,[]⟩])
 (.seq (.reg [⟨(some 10),(.mv (.t 0)),none,[]⟩,⟨(some 11),(.ldn (.t 4) 2),none,[]⟩,⟨(some 12),(.call 281 [(.t 10),(.t 11)]),none,[]⟩,⟨(some 9),(.mv (.t 12)),none,[]⟩,⟨(some 13),(.ex (.t 9) 0),none,[]⟩,⟨(some 14),(.ex (.t 9) 1),none,[]⟩,⟨(some 7),(.mv (.t 13)),none,[]⟩,⟨(some 8),(.mv (.t 14)),none,[]⟩])
 (.seq (.blk 0 (.seq (.reg [⟨(some 16),(.mv (.t 8)),none,[]⟩,⟨(some 15),(.mv (.t 16)),none,[]⟩])
 (.cond (.t 15) (.seq (.reg [⟨(some 6),(.mv (.c (.i .i64 6))),none,[]⟩])
 .ret) (.seq (.drw [⟨(some 18),(.mv (.t 0)),none,[]⟩,⟨(some 19),(.eq false .ptr (.t 18) (.c .np)),none,[]⟩,⟨(some 20),(.mv (.t 19)),none,[]⟩,⟨(some 21),(.mv (.t 0)),(some (20,false)),[]⟩,⟨(some 22),(.nc (.t 21)),(some (20,false)),[]⟩,⟨(some 23),(.fa (.t 22) 1),(some (20,false)),[]⟩,⟨(some 24),(.ld (.t 23)),(some (20,false)),[]⟩,⟨(some 25),(.mv (.t 0)),(some (20,false)),[]⟩,⟨(some 26),(.nc (.t 25)),(some (20,false)),[]⟩,⟨(some 27),(.fa (.t 26) 0),(some (20,false)),[]⟩,⟨(some 28),(.ld (.t 27)),(some (20,false)),[]⟩,⟨(some 29),(.bi .geq (.t 24) (.t 28)),(some (20,false)),[]⟩,⟨(some 30),(.pk (.t 20) (.c (.b true)) (.t 29)),none,[]⟩,⟨(some 17),(.mv (.t 30)),none,[]⟩])
 (.cond (.t 17) (.seq (.reg [⟨(some 6),(.mv (.c (.i .i64 4))),none,[]⟩])
 .ret) .skip)))))
 (.seq (.seq (.drw [⟨(some 31),(.mv (.t 0)),none,[]⟩,⟨(some 32),(.nc (.t 31)),none,[]⟩,⟨(some 33),(.fa (.t 32) 1),none,[]⟩,⟨(some 34),(.ld (.t 33)),none,[]⟩,⟨(some 35),(.bi .add (.t 34) (.c (.i .i64 1))),none,[]⟩,⟨(some 36),(.bi .mul (.c (.i .i64 2)) (.t 35)),none,[]⟩,⟨(some 37),(.mv (.t 0)),none,[]⟩,⟨(some 38),(.nc (.t 37)),none,[]⟩,⟨(some 39),(.fa (.t 38) 2),none,[]⟩,⟨(some 40),(.ld (.t 39)),none,[]⟩,⟨(some 41),(.lns false (.t 40)),none,[]⟩,⟨(some 42),(.bi .gtr (.t 36) (.t 41)),none,[]⟩])
 (.cond (.t 42) (.reg [⟨(some 43),(.mv (.t 0)),none,[]⟩,⟨(some 44),(.call 280 [(.t 43)]),none,[]⟩]) .skip))
 (.seq (.drw [⟨(some 45),(.mv (.t 0)),none,[]⟩,⟨(some 46),(.nc (.t 45)),none,[]⟩,⟨(some 47),(.fa (.t 46) 2),none,[]⟩,⟨(some 48),(.ld (.t 47)),none,[]⟩,⟨(some 49),(.mv (.t 0)),none,[]⟩,⟨(some 50),(.ldn (.t 4) 2),none,[]⟩,⟨(some 52),(.ldn (.t 4) 2),none,[]⟩,⟨(some 53),(.ldn (.t 5) 3),none,[]⟩,⟨(some 54),(.bl [(.b false),(.i .i64 0),(.i .u64 0),.np,.np,.np] [(0,1,(.c (.b true))),(1,2,(.t 52)),(3,3,(.t 53))]),none,[]⟩,⟨(some 51),(.call 279 [(.t 49),(.t 50)]),none,[(48,(.ld (.t 47)),none),(52,(.ldn (.t 4) 2),none),(53,(.ldn (.t 5) 3),none)]⟩,⟨(some 55),(.ias 6 (.t 48) (.t 51)),none,[]⟩,⟨none,(.st (.t 55) (.t 54) 6),none,[]⟩])
 (.seq (.reg [⟨(some 56),(.mv (.t 0)),none,[]⟩,⟨(some 57),(.nc (.t 56)),none,[]⟩,⟨(some 58),(.fa (.t 57) 1),none,[]⟩,⟨(some 59),(.ld (.t 58)),none,[]⟩,⟨(some 60),(.bi .add (.t 59) (.c (.i .i64 1))),none,[]⟩,⟨(some 61),(.nc (.t 56)),none,[]⟩,⟨(some 62),(.fa (.t 61) 1),none,[]⟩,⟨none,(.st (.t 62) (.t 60) 1),none,[]⟩])
 (.seq (.reg [⟨(some 6),(.mv (.c (.i .i64 0))),none,[]⟩])
 .ret))))))) }
noncomputable def f279 : AFn := { np := 2, nt := 38, res := [.t 4], body :=
 (.seq (.reg [⟨(some 3),(.bx (.t 1)),none,[]⟩,⟨(some 4),(.mv (.c (.i .i64 0))),none,[]⟩])
 (.seq (.reg [⟨(some 6),(.mv (.t 0)),none,[]⟩,⟨(some 7),(.ldn (.t 3) 2),none,[]⟩,⟨(some 8),(.call 282 [(.t 6),(.t 7)]),none,[]⟩,⟨(some 5),(.mv (.t 8)),none,[]⟩])
 (.seq (.blk 0 (.loop (.seq (.seq (.drw [⟨(some 9),(.mv (.t 0)),none,[]⟩,⟨(some 10),(.nc (.t 9)),none,[]⟩,⟨(some 11),(.fa (.t 10) 2),none,[]⟩,⟨(some 12),(.ld (.t 11)),none,[]⟩,⟨(some 13),(.mv (.t 5)),none,[]⟩,⟨(some 14),(.ias 6 (.t 12) (.t 13)),none,[]⟩,⟨(some 15),(.fa (.t 14) 0),none,[]⟩,⟨(some 16),(.ld (.t 15)),none,[]⟩,⟨(some 17),(.mv (.t 16)),none,[]⟩,⟨(some 18),(.mv (.t 0)),(some (17,true)),[]⟩,⟨(some 19),(.nc (.t 18)),(some (17,true)),[]⟩,⟨(some 20),(.fa (.t 19) 2),(some (17,true)),[]⟩,⟨(some 21),(.ld (.t 20)),(some (17,true)),[]⟩,⟨(some 22),(.mv (.t 5)),(some (17,true)),[]⟩,⟨(some 23),(.ias 6 (.t 21) (.t 22)),(some (17,true)),[]⟩,⟨(some 24),(.fa (.t 23) 1),(some (17,true)),[]⟩,⟨(some 25),(.ldn (.t 24) 2),(some (17,true)),[]⟩,⟨(some 26),(.ldn (.t 3) 2),(some (17,true)),[]⟩,⟨(some 27),(.eq true (.st [(0,1,false,.int),(1,1,false,.int)]) (.t 25) (.t 26)),(some (17,true)),[]⟩,⟨(some 28),(.pk (.t 17) (.t 27) (.c (.b false))),none,[]⟩])
 (.cond (.t 28) .skip (.exit 0)))
 (.blk 1 (.reg [⟨(some 29),(.mv (.t 5)),none,[]⟩,⟨(some 30),(.bi .add (.t 29) (.c (.i .i64 1))),none,[]⟩,⟨(some 31),(.mv (.t 0)),none,[]⟩,⟨(some 32),(.nc (.t 31)),none,[]⟩,⟨(some 33),(.fa (.t 32) 2),none,[]⟩,⟨(some 34),(.ld (.t 33)),none,[]⟩,⟨(some 35),(.lns false (.t 34)),none,[]⟩,⟨(some 36),(.bi .rem (.t 30) (.t 35)),none,[]⟩,⟨(some 5),(.mv (.t 36)),none,[]⟩])))))
 (.seq (.reg [⟨(some 37),(.mv (.t 5)),none,[]⟩,⟨(some 4),(.mv (.t 37)),none,[]⟩])
 .ret)))) }
noncomputable def f281 : AFn := { np := 2, nt := 29, res := [.t 4,.t 5], body :=
 (.seq (.reg [⟨(some 3),(.bx (.t 1)),none,[]⟩,⟨(some 4),(.mv (.c (.i .i64 0))),none,[]⟩,⟨(some 5),(.mv (.c (.b false))),none,[]⟩])
 (.seq (.seq (.reg [⟨(some 7),(.mv (.t 0)),none,[]⟩,⟨(some 8),(.eq false .ptr (.t 7) (.c .np)),none,[]⟩,⟨(some 9),(.mv (.t 8)),none,[]⟩,⟨(some 10),(.mv (.t 0)),(some (9,false)),[]⟩,⟨(some 11),(.nc (.t 10)),(some (9,false)),[]⟩,⟨(some 12),(.fa (.t 11) 2),(some (9,false)),[]⟩,⟨(some 13),(.ld (.t 12)),(some (9,false)),[]⟩,⟨(some 14),(.lns false (.t 13)),(some (9,false)),[]⟩,⟨(some 15),(.bi .eql (.t 14) (.c (.i .i64 0))),(some (9,false)),[]⟩,⟨(some 16),(.pk (.t 9) (.c (.b true)) (.t 15)),none,[]⟩])
 (.cond (.t 16) (.seq (.reg [⟨(some 4),(.mv (.c (.i .i64 0))),none,[]⟩,⟨(some 5),(.mv (.c (.b false))),none,[]⟩])
 .ret) .skip))
 (.seq (.reg [⟨(some 17),(.mv (.t 0)),none,[]⟩,⟨(some 18),(.ldn (.t 3) 2),none,[]⟩,⟨(some 19),(.call 279 [(.t 17),(.t 18)]),none,[]⟩,⟨(some 6),(.mv (.t 19)),none,[]⟩])
 (.seq (.drw [⟨(some 20),(.mv (.t 6)),none,[]⟩,⟨(some 21),(.mv (.t 0)),none,[]⟩,⟨(some 22),(.nc (.t 21)),none,[]⟩,⟨(some 23),(.fa (.t 22) 2),none,[]⟩,⟨(some 24),(.ld (.t 23)),none,[]⟩,⟨(some 25),(.mv (.t 6)),none,[]⟩,⟨(some 26),(.ias 6 (.t 24) (.t 25)),none,[]⟩,⟨(some 27),(.fa (.t 26) 0),none,[]⟩,⟨(some 28),(.ld (.t 27)),none,[]⟩,⟨(some 4),(.mv (.t 20)),none,[]⟩,⟨(some 5),(.mv (.t 28)),none,[]⟩])
 .ret)))) }
noncomputable def f282 : AFn := { np := 2, nt := 24, res := [.t 4], body :=
 (.seq (.reg [⟨(some 3),(.bx (.t 1)),none,[]⟩,⟨(some 4),(.mv (.c (.i .i64 0))),none,[]⟩])
 (.seq (.reg [⟨(some 6),(.fa (.t 3) 1),none,[]⟩,⟨(some 7),(.ld (.t 6)),none,[]⟩,⟨(some 8),(.bi .mul (.t 7) (.c (.i .u64 11400714819323198485))),none,[]⟩,⟨(some 9),(.fa (.t 3) 0),none,[]⟩,⟨(some 10),(.ld (.t 9)),none,[]⟩,⟨(some 11),(.cvi .u64 (.t 10)),none,[]⟩,⟨(some 12),(.bi .mul (.t 11) (.c (.i .u64 13787848793156543929))),none,[]⟩,⟨(some 13),(.bi .add (.t 8) (.t 12)),none,[]⟩,⟨(some 14),(.bi .shr (.t 13) (.c (.i .u64 20))),none,[]⟩,⟨(some 5),(.mv (.t 14)),none,[]⟩])
 (.seq (.reg [⟨(some 15),(.mv (.t 5)),none,[]⟩,⟨(some 16),(.mv (.t 0)),none,[]⟩,⟨(some 17),(.nc (.t 16)),none,[]⟩,⟨(some 18),(.fa (.t 17) 2),none,[]⟩,⟨(some 19),(.ld (.t 18)),none,[]⟩,⟨(some 20),(.lns false (.t 19)),none,[]⟩,⟨(some 21),(.cvi .u64 (.t 20)),none,[]⟩,⟨(some 22),(.bi .rem (.t 15) (.t 21)),none,[]⟩,⟨(some 23),(.cvi .i64 (.t 22)),none,[]⟩,⟨(some 4),(.mv (.t 23)),none,[]⟩])
 .ret))) }
noncomputable def f284 : AFn := { np := 2, nt := 29, res := [], body :=
 (.seq (.seq (.reg [⟨(some 4),(.mv (.t 0)),none,[]⟩,⟨(some 5),(.eq false .ptr (.t 4) (.c .np)),none,[]⟩])
 (.cond (.t 5) .ret .skip))
 (.seq (.seq (.reg [⟨(some 6),(.mv (.t 0)),none,[]⟩,⟨(some 7),(.nc (.t 6)),none,[]⟩,⟨(some 8),(.fa (.t 7) 2),none,[]⟩,⟨(some 9),(.ld (.t 8)),none,[]⟩,⟨(some 10),(.eq false .mp (.t 9) (.c .nm)),none,[]⟩])
 (.cond (.t 10) (.reg [⟨(some 11),(.mv (.t 0)),none,[]⟩,⟨(some 12),.mkm,none,[]⟩,⟨(some 13),(.nc (.t 11)),none,[]⟩,⟨(some 14),(.fa (.t 13) 2),none,[]⟩,⟨none,(.st (.t 14) (.t 12) 1),none,[]⟩]) .skip))
 (.seq (.reg [⟨(some 15),(.mv (.t 0)),none,[]⟩,⟨(some 16),(.nc (.t 15)),none,[]⟩,⟨(some 17),(.fa (.t 16) 0),none,[]⟩,⟨(some 18),(.ld (.t 17)),none,[]⟩,⟨(some 19),(.bi .add (.t 18) (.c (.i .i64 1))),none,[]⟩,⟨(some 20),(.nc (.t 15)),none,[]⟩,⟨(some 21),(.fa (.t 20) 0),none,[]⟩,⟨none,(.st (.t 21) (.t 19) 1),none,[]⟩])
 (.reg [⟨(some 22),(.mv (.t 0)),none,[]⟩,⟨(some 23),(.nc (.t 22)),none,[]⟩,⟨(some 24),(.fa (.t 23) 2),none,[]⟩,⟨(some 25),(.ld (.t 24)),none,[]⟩,⟨(some 26),(.mv (.t 1)),none,[]⟩,⟨(some 27),(.lk .int (.i .i64 0) (.t 25) (.t 26) false),none,[]⟩,⟨(some 28),(.bi .add (.t 27) (.c (.i .i64 1))),none,[]⟩,⟨none,(.mu .int (.t 25) (.t 26) (.t 28)),none,[]⟩])))) }
noncomputable def f285 : AFn := { np := 2, nt := 40, res := [], body :=
 (.seq (.reg [⟨(some 5),(.mv (.t 0)),none,[]⟩,⟨(some 6),(.nc (.t 5)),none,[]⟩,⟨(some 7),(.fa (.t 6) 3),none,[]⟩,⟨(some 8),(.ld (.t 7)),none,[]⟩,⟨(some 4),(.mv (.t 8)),none,[]⟩])
 (.seq (.reg [⟨(some 9),(.mv (.t 0)),none,[]⟩,⟨(some 10),(.mv (.t 1)),none,[]⟩,⟨(some 11),(.mv (.t 4)),none,[]⟩,⟨(some 12),(.call 169 [(.t 10),(.t 11),(.c (.i .i64 1125899906842624))]),none,[]⟩,⟨(some 13),(.nc (.t 9)),none,[]⟩,⟨(some 14),(.fa (.t 13) 3),none,[]⟩,⟨none,(.st (.t 14) (.t 12) 1),none,[]⟩])
 (.drw [⟨(some 15),(.mv (.t 0)),none,[]⟩,⟨(some 16),(.mv (.t 0)),none,[]⟩,⟨(some 17),(.nc (.t 16)),none,[]⟩,⟨(some 18),(.fa (.t 17) 1),none,[]⟩,⟨(some 19),(.ld (.t 18)),none,[]⟩,⟨(some 21),(.mv (.t 0)),none,[]⟩,⟨(some 22),(.nc (.t 21)),none,[]⟩,⟨(some 23),(.fa (.t 22) 2),none,[]⟩,⟨(some 24),(.ld (.t 23)),none,[]⟩,⟨(some 25),(.mv (.t 0)),none,[]⟩,⟨(some 26),(.nc (.t 25)),none,[]⟩,⟨(some 27),(.fa (.t 26) 0),none,[]⟩,⟨(some 28),(.ld (.t 27)),none,[]⟩,⟨(some 29),(.mv (.t 0)),none,[]⟩,⟨(some 30),(.nc (.t 29)),none,[]⟩,⟨(some 31),(.fa (.t 30) 3),none,[]⟩,⟨(some 32),(.ld (.t 31)),none,[]⟩,⟨(some 33),(.mv (.t 4)),none,[]⟩,⟨(some 34),(.bi .sub (.t 32) (.t 33)),none,[]⟩,⟨(some 20),(.call 315 [(.t 19)]),none,[(24,(.ld (.t 23)),none),(28,(.ld (.t 27)),none),(32,(.ld (.t 31)),none)]⟩,⟨(some 35),(.call 115 [(.t 28),(.t 34)]),none,[(24,(.ld (.t 23)),none)]⟩,⟨(some 36),(.call 319 [(.t 24),(.t 35)]),none,[]⟩,⟨(some 37),(.mn [(.t 20),(.t 36)]),none,[]⟩,⟨(some 38),(.nc (.t 15)),none,[]⟩,⟨(some 39),(.fa (.t 38) 2),none,[]⟩,⟨none,(.st (.t 39) (.t 37) 1),none,[]⟩]))) }
noncomputable def f286 : AFn := { np := 1, nt := 15, res := [.t 2], body :=
 (.seq (.reg [⟨(some 2),(.mv (.c (.i .i64 0))),none,[]⟩])
 (.seq (.seq (.reg [⟨(some 3),(.mv (.t 0)),none,[]⟩,⟨(some 4),(.eq false .ptr (.t 3) (.c .np)),none,[]⟩])
 (.cond (.t 4) (.seq (.reg [⟨(some 2),(.mv (.c (.i .i64 1125899906842624))),none,[]⟩])
 .ret) .skip))
 (.seq (.drw [⟨(some 5),(.mv (.t 0)),none,[]⟩,⟨(some 6),(.nc (.t 5)),none,[]⟩,⟨(some 7),(.fa (.t 6) 2),none,[]⟩,⟨(some 8),(.ld (.t 7)),none,[]⟩,⟨(some 9),(.mv (.t 0)),none,[]⟩,⟨(some 10),(.nc (.t 9)),none,[]⟩,⟨(some 11),(.fa (.t 10) 1),none,[]⟩,⟨(some 12),(.ld (.t 11)),none,[]⟩,⟨(some 13),(.mx [(.t 8),(.t 12)]),none,[]⟩,⟨(some 14),(.mn [(.t 13),(.c (.i .i64 1125899906842624))]),none,[]⟩,⟨(some 2),(.mv (.t 14)),none,[]⟩])
 .ret))) }
noncomputable def f287 : AFn := { np := 2, nt := 9, res := [.t 4], body :=
 (.seq (.reg [⟨(some 4),(.mv (.c .nsl)),none,[]⟩])
 (.seq (.reg [⟨(some 5),(.mv (.t 0)),none,[]⟩,⟨(some 6),(.mv (.t 1)),none,[]⟩,⟨(some 7),(.call 300 [(.t 5),(.t 6)]),none,[]⟩,⟨(some 8),(.bs 1 [(.i .i64 0),(.i .i64 0),(.i .i64 0),(.i .i64 0),(.i .u64 0),(.i .i64 0),(.i .i64 0),(.i .i64 0),(.i .i64 0),.nsl] [(0,10,(.t 7))]),none,[]⟩,⟨(some 4),(.mv (.t 8)),none,[]⟩])
 .ret)) }
noncomputable def f288 : AFn := { np := 2, nt := 10, res := [], body :=
 (.reg [⟨(some 4),(.mv (.t 0)),none,[]⟩,⟨(some 5),(.nc (.t 4)),none,[]⟩,⟨(some 6),(.fa (.t 5) 0),none,[]⟩,⟨(some 7),(.ld (.t 6)),none,[]⟩,⟨(some 8),(.mv (.t 1)),none,[]⟩,⟨(some 9),(.call 301 [(.t 7),(.t 8)]),none,[]⟩]) }
noncomputable def f289 : AFn := { np := 3, nt := 25, res := [], body :=
 (.seq (.reg [⟨(some 5),(.bx (.t 2)),none,[]⟩])
 (.seq (.drw [⟨(some 9),(.mv (.t 0)),none,[]⟩,⟨(some 10),(.nc (.t 9)),none,[]⟩,⟨(some 11),(.fa (.t 10) 1),none,[]⟩,⟨(some 12),(.ld (.t 11)),none,[]⟩,⟨(some 13),(.mv (.t 1)),none,[]⟩,⟨(some 14),(.nc (.t 13)),none,[]⟩,⟨(some 15),(.fa (.t 14) 0),none,[]⟩,⟨(some 16),(.ldn (.t 15) 2),none,[]⟩,⟨(some 6),(.al [.np,.np,.np]),none,[]⟩,⟨(some 17),(.call 275 [(.t 12),(.t 16)]),none,[]⟩,⟨(some 8),(.mv (.t 17)),none,[]⟩,⟨(some 18),(.ex (.t 8) 0),none,[]⟩,⟨(some 19),(.ex (.t 8) 1),none,[]⟩,⟨none,(.st (.t 6) (.t 18) 3),none,[]⟩,⟨(some 7),(.mv (.t 19)),none,[]⟩])
 (.reg [⟨(some 20),(.fa (.t 6) 1),none,[]⟩,⟨(some 21),(.ld (.t 20)),none,[]⟩,⟨(some 22),(.fa (.t 5) 8),none,[]⟩,⟨(some 23),(.ld (.t 22)),none,[]⟩,⟨(some 24),(.call 302 [(.t 21),(.t 23)]),none,[]⟩]))) }
noncomputable def f290 : AFn := { np := 2, nt := 13, res := [], body :=
 (.drw [⟨(some 4),(.mv (.t 0)),none,[]⟩,⟨(some 5),(.nc (.t 4)),none,[]⟩,⟨(some 6),(.fa (.t 5) 1),none,[]⟩,⟨(some 7),(.ld (.t 6)),none,[]⟩,⟨(some 8),(.mv (.t 1)),none,[]⟩,⟨(some 9),(.nc (.t 8)),none,[]⟩,⟨(some 10),(.fa (.t 9) 0),none,[]⟩,⟨(some 11),(.ldn (.t 10) 2),none,[]⟩,⟨(some 12),(.call 274 [(.t 7),(.t 11)]),none,[]⟩]) }
noncomputable def f292 : AFn := { np := 2, nt := 33, res := [], body :=
 (.seq (.reg [⟨(some 9),(.call 303 [(.c (.i .i64 1000)),(.c (.i .i64 8192))]),none,[]⟩,⟨(some 8),(.mv (.t 9)),none,[]⟩,⟨(some 10),(.ex (.t 8) 0),none,[]⟩,⟨(some 11),(.ex (.t 8) 1),none,[]⟩,⟨(some 4),(.mv (.t 10)),none,[]⟩,⟨(some 5),(.mv (.t 11)),none,[]⟩])
 (.seq (.reg [⟨(some 13),(.mv (.t 4)),none,[]⟩,⟨(some 14),(.call 306 [(.t 13)]),none,[]⟩,⟨(some 15),(.call 305 [(.t 14)]),none,[]⟩,⟨(some 16),(.call 304 [(.t 15),(.c (.i .i64 1))]),none,[]⟩,⟨(some 12),(.mv (.t 16)),none,[]⟩,⟨(some 17),(.ex (.t 12) 0),none,[]⟩,⟨(some 18),(.ex (.t 12) 1),none,[]⟩,⟨(some 6),(.mv (.t 17)),none,[]⟩,⟨(some 7),(.mv (.t 18)),none,[]⟩])
 (.drw [⟨(some 19),(.mv (.t 0)),none,[]⟩,⟨(some 20),(.nc (.t 19)),none,[]⟩,⟨(some 21),(.fa (.t 20) 1),none,[]⟩,⟨(some 22),(.ld (.t 21)),none,[]⟩,⟨(some 23),(.mv (.t 1)),none,[]⟩,⟨(some 24),(.nc (.t 23)),none,[]⟩,⟨(some 25),(.fa (.t 24) 0),none,[]⟩,⟨(some 26),(.ldn (.t 25) 2),none,[]⟩,⟨(some 27),(.mv (.t 4)),none,[]⟩,⟨(some 28),(.bl [(.i .i64 0),(.i .i64 0),.nm] []),none,[]⟩,⟨(some 29),(.bx (.t 28)),none,[]⟩,⟨(some 30),(.mv (.t 6)),none,[]⟩,⟨(some 31),(.bl [.np,.np,.np] [(0,1,(.t 27)),(1,1,(.t 29)),(2,1,(.t 30))]),none,[]⟩,⟨(some 32),(.call 278 [(.t 22),(.t 26),(.t 31)]),none,[]⟩]))) }
noncomputable def f293 : AFn := { np := 1, nt := 67, res := [.c 2 10 true,.t 3], body :=
 (.seq (.reg [⟨(some 2),(.al [(.i .i64 0),(.i .i64 0),(.i .i64 0),(.i .i64 0),(.i .u64 0),(.i .i64 0),(.i .i64 0),(.i .i64 0),(.i .i64 0),.nsl]),none,[]⟩,⟨(some 3),(.mv (.c (.b false))),none,[]⟩])
 (.seq (.reg [⟨(some 8),(.mv (.t 0)),none,[]⟩,⟨(some 9),(.nc (.t 8)),none,[]⟩,⟨(some 10),(.fa (.t 9) 0),none,[]⟩,⟨(some 11),(.ld (.t 10)),none,[]⟩,⟨(some 12),(.call 35 [(.t 11)]),none,[]⟩,⟨(some 4),(.mv (.t 12)),none,[]⟩])
 (.seq (.seq (.reg [⟨(some 13),(.mv (.t 4)),none,[]⟩,⟨(some 14),(.mv (.t 0)),none,[]⟩,⟨(some 15),(.nc (.t 14)),none,[]⟩,⟨(some 16),(.fa (.t 15) 2),none,[]⟩,⟨(some 17),(.ld (.t 16)),none,[]⟩,⟨(some 18),(.call 286 [(.t 17)]),none,[]⟩,⟨(some 19),(.bi .lss (.t 13) (.t 18)),none,[]⟩])
 (.cond (.t 19) (.seq (.reg [⟨(some 20),(.bl [(.i .i64 0),(.i .i64 0),(.i .i64 0),(.i .i64 0),(.i .u64 0),(.i .i64 0),(.i .i64 0),(.i .i64 0),(.i .i64 0),.nsl] []),none,[]⟩,⟨none,(.st (.t 2) (.t 20) 10),none,[]⟩,⟨(some 3),(.mv (.c (.b false))),none,[]⟩])
 .ret) .skip))
 (.seq (.reg [⟨(some 21),(.mv (.t 0)),none,[]⟩,⟨(some 22),(.call 307 [(.t 21)]),none,[]⟩,⟨(some 5),(.mv (.t 22)),none,[]⟩])
 (.seq (.seq (.reg [⟨(some 23),(.mv (.t 5)),none,[]⟩,⟨(some 24),(.eq false .ptr (.t 23) (.c .np)),none,[]⟩,⟨(some 25),(.mv (.t 24)),none,[]⟩,⟨(some 26),(.mv (.t 0)),(some (25,false)),[]⟩,⟨(some 27),(.nc (.t 26)),(some (25,false)),[]⟩,⟨(some 28),(.fa (.t 27) 2),(some (25,false)),[]⟩,⟨(some 29),(.ld (.t 28)),(some (25,false)),[]⟩,⟨(some 30),(.mv (.t 4)),(some (25,false)),[]⟩,⟨(some 31),(.call 308 [(.t 29),(.t 30)]),(some (25,false)),[]⟩,⟨(some 32),(.un .not (.t 31)),(some (25,false)),[]⟩,⟨(some 33),(.pk (.t 25) (.c (.b true)) (.t 32)),none,[]⟩])
 (.cond (.t 33) (.seq (.reg [⟨(some 34),(.bl [(.i .i64 0),(.i .i64 0),(.i .i64 0),(.i .i64 0),(.i .u64 0),(.i .i64 0),(.i .i64 0),(.i .i64 0),(.i .i64 0),.nsl] []),none,[]⟩,⟨none,(.st (.t 2) (.t 34) 10),none,[]⟩,⟨(some 3),(.mv (.c (.b false))),none,[]⟩])
 .ret) .skip))
 (.seq (.drw [⟨(some 36),(.mv (.t 0)),none,[]⟩,⟨(some 37),(.nc (.t 36)),none,[]⟩,⟨(some 38),(.fa (.t 37) 1),none,[]⟩,⟨(some 39),(.ld (.t 38)),none,[]⟩,⟨(some 40),(.mv (.t 5)),none,[]⟩,⟨(some 41),(.nc (.t 40)),none,[]⟩,⟨(some 42),(.fa (.t 41) 0),none,[]⟩,⟨(some 43),(.ldn (.t 42) 2),none,[]⟩,⟨(some 6),(.al [.np,.np,.np]),none,[]⟩,⟨(some 44),(.call 275 [(.t 39),(.t 43)]),none,[]⟩,⟨(some 35),(.mv (.t 44)),none,[]⟩,⟨(some 45),(.ex (.t 35) 0),none,[]⟩,⟨(some 46),(.ex (.t 35) 1),none,[]⟩,⟨none,(.st (.t 6) (.t 45) 3),none,[]⟩,⟨(some 7),(.mv (.t 46)),none,[]⟩])
 (.seq (.reg [⟨(some 47),(.fa (.t 6) 2),none,[]⟩,⟨(some 48),(.ld (.t 47)),none,[]⟩,⟨(some 49),(.mv (.t 4)),none,[]⟩,⟨(some 50),(.call 309 [(.t 48),(.t 49),(.c (.i .i64 1))]),none,[]⟩])
 (.seq (.reg [⟨(some 51),(.mv (.t 0)),none,[]⟩,⟨(some 52),(.mv (.t 5)),none,[]⟩,⟨(some 53),(.nc (.t 52)),none,[]⟩,⟨(some 54),(.fa (.t 53) 0),none,[]⟩,⟨(some 55),(.ldn (.t 54) 2),none,[]⟩,⟨(some 56),(.nc (.t 51)),none,[]⟩,⟨(some 57),(.fa (.t 56) 3),none,[]⟩,⟨none,(.st (.t 57) (.t 55) 2),none,[]⟩])
 (.seq (.reg [⟨(some 58),(.mv (.t 0)),none,[]⟩,⟨(some 59),(.nc (.t 58)),none,[]⟩,⟨(some 60),(.fa (.t 59) 0),none,[]⟩,⟨(some 61),(.ld (.t 60)),none,[]⟩,⟨(some 62),(.mv (.t 5)),none,[]⟩,⟨(some 63),(.call 310 [(.t 61),(.t 62)]),none,[]⟩])
 (.seq (.reg [⟨(some 64),(.mv (.t 0)),none,[]⟩,⟨(some 65),(.mv (.t 5)),none,[]⟩,⟨(some 66),(.call 300 [(.t 64),(.t 65)]),none,[]⟩,⟨none,(.st (.t 2) (.t 66) 10),none,[]⟩,⟨(some 3),(.mv (.c (.b true))),none,[]⟩])
 .ret)))))))))) }
noncomputable def f294 : AFn := { np := 1, nt := 3, res := [.t 2], body :=
 (.seq (.reg [⟨(some 2),(.mv (.c (.i .i64 0))),none,[]⟩])
 (.seq (.reg [⟨(some 2),(.mv (.c (.i .i64 10))),none,[]⟩])
 .ret)) }
noncomputable def f295 : AFn := { np := 2, nt := 54, res := [.c 4 2 true,.t 5], body :=
 (.seq (.reg [⟨(some 4),(.al [(.i .i64 0),(.i .i64 0)]),none,[]⟩,⟨(some 5),(.mv (.c (.i .i64 0))),none,[]⟩])
 (.seq (.blk 0 (.seq (.drw [⟨(some 7),(.mv (.t 1)),none,[]⟩,⟨(some 8),(.nc (.t 7)),none,[]⟩,⟨(some 9),(.fa (.t 8) 6),none,[]⟩,⟨(some 10),(.ld (.t 9)),none,[]⟩,⟨(some 11),(.mv (.t 1)),none,[]⟩,⟨(some 12),(.nc (.t 11)),none,[]⟩,⟨(some 13),(.fa (.t 12) 7),none,[]⟩,⟨(some 14),(.ld (.t 13)),none,[]⟩,⟨(some 15),(.bi .leq (.t 10) (.t 14)),none,[]⟩,⟨(some 6),(.mv (.t 15)),none,[]⟩])
 (.cond (.t 6) (.seq (.reg [⟨(some 16),(.ldn (.t 4) 2),none,[]⟩,⟨none,(.st (.t 4) (.t 16) 2),none,[]⟩,⟨(some 5),(.mv (.c (.i .i64 0))),none,[]⟩])
 .ret) (.seq (.reg [⟨(some 18),(.mv (.t 1)),none,[]⟩,⟨(some 19),(.nc (.t 18)),none,[]⟩,⟨(some 20),(.fa (.t 19) 11),none,[]⟩,⟨(some 21),(.ld (.t 20)),none,[]⟩,⟨(some 22),(.lns false (.t 21)),none,[]⟩,⟨(some 23),(.bi .gtr (.t 22) (.c (.i .i64 0))),none,[]⟩,⟨(some 17),(.mv (.t 23)),none,[]⟩])
 (.cond (.t 17) (.seq (.reg [⟨(some 24),(.ldn (.t 4) 2),none,[]⟩,⟨none,(.st (.t 4) (.t 24) 2),none,[]⟩,⟨(some 5),(.mv (.c (.i .i64 3))),none,[]⟩])
 .ret) (.seq (.reg [⟨(some 26),(.mv (.t 0)),none,[]⟩,⟨(some 27),(.mv (.t 1)),none,[]⟩,⟨(some 28),(.call 311 [(.t 26),(.t 27)]),none,[]⟩,⟨(some 25),(.mv (.t 28)),none,[]⟩])
 (.cond (.t 25) (.seq (.drw [⟨(some 29),(.mv (.t 1)),none,[]⟩,⟨(some 30),(.nc (.t 29)),none,[]⟩,⟨(some 31),(.fa (.t 30) 4),none,[]⟩,⟨(some 32),(.ld (.t 31)),none,[]⟩,⟨(some 33),(.mv (.t 1)),none,[]⟩,⟨(some 34),(.nc (.t 33)),none,[]⟩,⟨(some 35),(.fa (.t 34) 4),none,[]⟩,⟨(some 36),(.ld (.t 35)),none,[]⟩,⟨(some 37),(.mv (.t 0)),none,[]⟩,⟨(some 38),(.nc (.t 37)),none,[]⟩,⟨(some 39),(.fa (.t 38) 0),none,[]⟩,⟨(some 40),(.ld (.t 39)),none,[]⟩,⟨(some 41),(.nc (.t 40)),none,[]⟩,⟨(some 42),(.fa (.t 41) 0),none,[]⟩,⟨(some 43),(.fa (.t 42) 3),none,[]⟩,⟨(some 44),(.ld (.t 43)),none,[]⟩,⟨(some 45),(.bi .add (.t 36) (.t 44)),none,[]⟩,⟨(some 46),(.mv (.t 1)),none,[]⟩,⟨(some 47),(.nc (.t 46)),none,[]⟩,⟨(some 48),(.fa (.t 47) 2),none,[]⟩,⟨(some 49),(.ld (.t 48)),none,[]⟩,⟨(some 50),(.lns false (.t 49)),none,[]⟩,⟨(some 51),(.mn [(.t 45),(.t 50)]),none,[]⟩,⟨(some 52),(.bl [(.i .i64 0),(.i .i64 0)] [(0,1,(.t 32)),(1,1,(.t 51))]),none,[]⟩,⟨none,(.st (.t 4) (.t 52) 2),none,[]⟩,⟨(some 5),(.mv (.c (.i .i64 2))),none,[]⟩])
 .ret) .skip)))))))
 (.seq (.reg [⟨(some 53),(.ldn (.t 4) 2),none,[]⟩,⟨none,(.st (.t 4) (.t 53) 2),none,[]⟩,⟨(some 5),(.mv (.c (.i .i64 0))),none,[]⟩])
 .ret))) }
noncomputable def f296 : AFn := { np := 1, nt := 63, res := [], body :=
 (.seq (.reg [⟨(some 9),(.mv (.t 0)),none,[]⟩,⟨(some 10),(.nc (.t 9)),none,[]⟩,⟨(some 11),(.fa (.t 10) 0),none,[]⟩,⟨(some 12),(.ld (.t 11)),none,[]⟩,⟨(some 13),(.call 35 [(.t 12)]),none,[]⟩,⟨(some 2),(.mv (.t 13)),none,[]⟩])
 (.seq (.reg [⟨(some 14),(.mv (.t 0)),none,[]⟩,⟨(some 15),(.nc (.t 14)),none,[]⟩,⟨(some 16),(.fa (.t 15) 0),none,[]⟩,⟨(some 17),(.ld (.t 16)),none,[]⟩,⟨(some 18),(.call 108 [(.t 17)]),none,[]⟩,⟨(some 19),(.lns false (.t 18)),none,[]⟩,⟨(some 20),(.mv (.c (.i .i64 0))),none,[]⟩])
 (.blk 0 (.loop (.seq (.reg [⟨(some 21),(.bi .lss (.t 20) (.t 19)),none,[]⟩])
 (.seq (.cond (.t 21) .skip (.exit 0))
 (.seq (.blk 1 (.seq (.reg [⟨(some 22),(.ias 1 (.t 18) (.t 20)),none,[]⟩,⟨(some 23),(.ld (.t 22)),none,[]⟩,⟨(some 4),(.mv (.t 23)),none,[]⟩])
 (.seq (.seq (.reg [⟨(some 24),(.mv (.t 2)),none,[]⟩,⟨(some 25),(.mv (.t 4)),none,[]⟩,⟨(some 26),(.nc (.t 25)),none,[]⟩,⟨(some 27),(.fa (.t 26) 3),none,[]⟩,⟨(some 28),(.ld (.t 27)),none,[]⟩,⟨(some 29),(.bi .sub (.t 24) (.t 28)),none,[]⟩,⟨(some 30),(.bi .rem (.t 29) (.c (.i .i64 64))),none,[]⟩,⟨(some 31),(.bi .neq (.t 30) (.c (.i .i64 0))),none,[]⟩])
 (.cond (.t 31) (.exit 1) .skip))
 (.seq (.drw [⟨(some 33),(.mv (.t 0)),none,[]⟩,⟨(some 34),(.nc (.t 33)),none,[]⟩,⟨(some 35),(.fa (.t 34) 1),none,[]⟩,⟨(some 36),(.ld (.t 35)),none,[]⟩,⟨(some 37),(.mv (.t 4)),none,[]⟩,⟨(some 38),(.nc (.t 37)),none,[]⟩,⟨(some 39),(.fa (.t 38) 0),none,[]⟩,⟨(some 40),(.ldn (.t 39) 2),none,[]⟩,⟨(some 5),(.al [.np,.np,.np]),none,[]⟩,⟨(some 41),(.call 275 [(.t 36),(.t 40)]),none,[]⟩,⟨(some 32),(.mv (.t 41)),none,[]⟩,⟨(some 42),(.ex (.t 32) 0),none,[]⟩,⟨(some 43),(.ex (.t 32) 1),none,[]⟩,⟨none,(.st (.t 5) (.t 42) 3),none,[]⟩,⟨(some 6),(.mv (.t 43)),none,[]⟩])
 (.seq (.reg [⟨(some 45),(.fa (.t 5) 1),none,[]⟩,⟨(some 46),(.ld (.t 45)),none,[]⟩,⟨(some 47),(.call 312 [(.t 46)]),none,[]⟩,⟨(some 44),(.mv (.t 47)),none,[]⟩,⟨(some 48),(.ex (.t 44) 0),none,[]⟩,⟨(some 49),(.ex (.t 44) 1),none,[]⟩,⟨(some 7),(.mv (.t 48)),none,[]⟩,⟨(some 8),(.mv (.t 49)),none,[]⟩])
 (.seq (.reg [⟨(some 50),(.mv (.t 7)),none,[]⟩,⟨(some 51),(.bi .gtr (.t 50) (.c (.i .i64 0))),none,[]⟩])
 (.cond (.t 51) (.drw [⟨(some 52),(.fa (.t 5) 2),none,[]⟩,⟨(some 53),(.ld (.t 52)),none,[]⟩,⟨(some 54),(.mv (.t 2)),none,[]⟩,⟨(some 55),(.fa (.t 5) 0),none,[]⟩,⟨(some 56),(.ld (.t 55)),none,[]⟩,⟨(some 57),(.mv (.t 7)),none,[]⟩,⟨(some 58),(.mv (.t 8)),none,[]⟩,⟨(some 59),(.call 314 [(.t 56),(.t 57),(.t 58)]),none,[(53,(.ld (.t 52)),none)]⟩,⟨(some 60),(.call 305 [(.t 59)]),none,[(53,(.ld (.t 52)),none)]⟩,⟨(some 61),(.call 313 [(.t 53),(.t 54),(.t 60)]),none,[]⟩]) .skip)))))))
 (.reg [⟨(some 62),(.bi .add (.t 20) (.c (.i .i64 1))),none,[]⟩,⟨(some 20),(.mv (.t 62)),none,[]⟩])))))))) }
noncomputable def f297 : AFn := { np := 3, nt := 51, res := [], body :=
 (.seq (.reg [⟨(some 5),(.bx (.t 2)),none,[]⟩])
 (.seq (.seq (.reg [⟨(some 6),(.fa (.t 5) 0),none,[]⟩,⟨(some 7),(.ld (.t 6)),none,[]⟩,⟨(some 8),(.bi .neq (.t 7) (.c (.i .i64 11))),none,[]⟩])
 (.cond (.t 8) .ret .skip))
 (.seq (.reg [⟨(some 9),(.mv (.t 1)),none,[]⟩,⟨(some 10),(.nc (.t 9)),none,[]⟩,⟨(some 11),(.fa (.t 10) 6),none,[]⟩,⟨(some 12),(.ld (.t 11)),none,[]⟩,⟨(some 13),(.bi .add (.t 12) (.c (.i .i64 1))),none,[]⟩,⟨(some 14),(.nc (.t 9)),none,[]⟩,⟨(some 15),(.fa (.t 14) 6),none,[]⟩,⟨none,(.st (.t 15) (.t 13) 1),none,[]⟩])
 (.seq (.reg [⟨(some 16),(.mv (.t 1)),none,[]⟩,⟨(some 17),(.fa (.t 5) 8),none,[]⟩,⟨(some 18),(.ld (.t 17)),none,[]⟩,⟨(some 19),(.nc (.t 16)),none,[]⟩,⟨(some 20),(.fa (.t 19) 8),none,[]⟩,⟨none,(.st (.t 20) (.t 18) 1),none,[]⟩])
 (.seq (.reg [⟨(some 21),(.mv (.t 0)),none,[]⟩,⟨(some 22),(.mv (.t 1)),none,[]⟩,⟨(some 23),(.call 311 [(.t 21),(.t 22)]),none,[]⟩,⟨(some 24),(.un .not (.t 23)),none,[]⟩,⟨(some 25),(.mv (.t 24)),none,[]⟩,⟨(some 26),(.mv (.t 1)),(some (25,true)),[]⟩,⟨(some 27),(.nc (.t 26)),(some (25,true)),[]⟩,⟨(some 28),(.fa (.t 27) 11),(some (25,true)),[]⟩,⟨(some 29),(.ld (.t 28)),(some (25,true)),[]⟩,⟨(some 30),(.lns false (.t 29)),(some (25,true)),[]⟩,⟨(some 31),(.bi .eql (.t 30) (.c (.i .i64 0))),(some (25,true)),[]⟩,⟨(some 32),(.pk (.t 25) (.t 31) (.c (.b false))),none,[]⟩])
 (.cond (.t 32) (.drw [⟨(some 33),(.mv (.t 0)),none,[]⟩,⟨(some 34),(.nc (.t 33)),none,[]⟩,⟨(some 35),(.fa (.t 34) 0),none,[]⟩,⟨(some 36),(.ld (.t 35)),none,[]⟩,⟨(some 37),(.mv (.t 0)),none,[]⟩,⟨(some 38),(.nc (.t 37)),none,[]⟩,⟨(some 39),(.fa (.t 38) 0),none,[]⟩,⟨(some 40),(.ld (.t 39)),none,[]⟩,⟨(some 41),(.mv (.t 1)),none,[]⟩,⟨(some 42),(.nc (.t 41)),none,[]⟩,⟨(some 43),(.fa (.t 42) 1),none,[]⟩,⟨(some 44),(.ld (.t 43)),none,[]⟩,⟨(some 45),(.mv (.t 1)),none,[]⟩,⟨(some 46),(.nc (.t 45)),none,[]⟩,⟨(some 47),(.fa (.t 46) 0),none,[]⟩,⟨(some 48),(.ld (.t 47)),none,[]⟩,⟨(some 49),(.call 84 [(.t 40),(.c (.i .i64 12)),(.t 44),(.t 48)]),none,[(36,(.ld (.t 35)),none)]⟩,⟨(some 50),(.call 83 [(.t 36),(.t 49)]),none,[]⟩]) .skip)))))) }
noncomputable def f298 : AFn := { np := 2, nt := 9, res := [.t 4], body :=
 (.seq (.reg [⟨(some 4),(.mv (.c (.i .i64 0))),none,[]⟩])
 (.seq (.reg [⟨(some 5),(.mv (.t 1)),none,[]⟩,⟨(some 6),(.nc (.t 5)),none,[]⟩,⟨(some 7),(.fa (.t 6) 2),none,[]⟩,⟨(some 8),(.ld (.t 7)),none,[]⟩,⟨(some 4),(.mv (.t 8)),none,[]⟩])
 .ret)) }
noncomputable def f299 : AFn := { np := 3, nt := 13, res := [], body :=
 (.reg [⟨(some 6),(.mv (.t 1)),none,[]⟩,⟨(some 7),(.nc (.t 6)),none,[]⟩,⟨(some 8),(.fa (.t 7) 7),none,[]⟩,⟨(some 9),(.ld (.t 8)),none,[]⟩,⟨(some 10),(.bi .add (.t 9) (.c (.i .i64 1))),none,[]⟩,⟨(some 11),(.nc (.t 6)),none,[]⟩,⟨(some 12),(.fa (.t 11) 7),none,[]⟩,⟨none,(.st (.t 12) (.t 10) 1),none,[]⟩]) }
noncomputable def f300 : AFn := { np := 2, nt := 55, res := [.c 4 10 true], body :=
 (.seq (.reg [⟨(some 4),(.al [(.i .i64 0),(.i .i64 0),(.i .i64 0),(.i .i64 0),(.i .u64 0),(.i .i64 0),(.i .i64 0),(.i .i64 0),(.i .i64 0),.nsl]),none,[]⟩])
 (.seq (.reg [⟨(some 8),(.mv (.t 1)),none,[]⟩,⟨(some 9),(.nc (.t 8)),none,[]⟩,⟨(some 10),(.fa (.t 9) 9),none,[]⟩,⟨(some 11),(.ld (.t 10)),none,[]⟩,⟨(some 12),(.bi .add (.t 11) (.c (.i .i64 1))),none,[]⟩,⟨(some 13),(.nc (.t 8)),none,[]⟩,⟨(some 14),(.fa (.t 13) 9),none,[]⟩,⟨none,(.st (.t 14) (.t 12) 1),none,[]⟩])
 (.seq (.drw [⟨(some 16),(.mv (.t 0)),none,[]⟩,⟨(some 17),(.nc (.t 16)),none,[]⟩,⟨(some 18),(.fa (.t 17) 1),none,[]⟩,⟨(some 19),(.ld (.t 18)),none,[]⟩,⟨(some 20),(.mv (.t 1)),none,[]⟩,⟨(some 21),(.nc (.t 20)),none,[]⟩,⟨(some 22),(.fa (.t 21) 0),none,[]⟩,⟨(some 23),(.ldn (.t 22) 2),none,[]⟩,⟨(some 5),(.al [.np,.np,.np]),none,[]⟩,⟨(some 24),(.call 275 [(.t 19),(.t 23)]),none,[]⟩,⟨(some 15),(.mv (.t 24)),none,[]⟩,⟨(some 25),(.ex (.t 15) 0),none,[]⟩,⟨(some 26),(.ex (.t 15) 1),none,[]⟩,⟨none,(.st (.t 5) (.t 25) 3),none,[]⟩,⟨(some 6),(.mv (.t 26)),none,[]⟩])
 (.seq (.drw [⟨(some 27),(.fa (.t 5) 1),none,[]⟩,⟨(some 28),(.ld (.t 27)),none,[]⟩,⟨(some 29),(.mv (.t 1)),none,[]⟩,⟨(some 30),(.nc (.t 29)),none,[]⟩,⟨(some 31),(.fa (.t 30) 9),none,[]⟩,⟨(some 32),(.ld (.t 31)),none,[]⟩,⟨(some 33),(.call 284 [(.t 28),(.t 32)]),none,[]⟩])
 (.seq (.drw [⟨(some 34),(.mv (.t 0)),none,[]⟩,⟨(some 35),(.nc (.t 34)),none,[]⟩,⟨(some 36),(.fa (.t 35) 0),none,[]⟩,⟨(some 37),(.ld (.t 36)),none,[]⟩,⟨(some 38),(.mv (.t 1)),none,[]⟩,⟨(some 39),(.nc (.t 38)),none,[]⟩,⟨(some 40),(.fa (.t 39) 0),none,[]⟩,⟨(some 41),(.fa (.t 40) 0),none,[]⟩,⟨(some 42),(.ld (.t 41)),none,[]⟩,⟨(some 43),(.mv (.t 1)),none,[]⟩,⟨(some 44),(.nc (.t 43)),none,[]⟩,⟨(some 45),(.fa (.t 44) 0),none,[]⟩,⟨(some 46),(.fa (.t 45) 1),none,[]⟩,⟨(some 47),(.ld (.t 46)),none,[]⟩,⟨(some 7),(.al [(.i .i64 0),(.i .i64 0),(.i .i64 0),(.i .i64 0),(.i .u64 0),(.i .i64 0),(.i .i64 0),(.i .i64 0),(.i .i64 0),.nsl]),none,[]⟩,⟨(some 48),(.call 84 [(.t 37),(.c (.i .i64 11)),(.t 42),(.t 47)]),none,[]⟩,⟨none,(.st (.t 7) (.t 48) 10),none,[]⟩])
 (.seq (.reg [⟨(some 49),(.mv (.t 1)),none,[]⟩,⟨(some 50),(.nc (.t 49)),none,[]⟩,⟨(some 51),(.fa (.t 50) 9),none,[]⟩,⟨(some 52),(.ld (.t 51)),none,[]⟩,⟨(some 53),(.fa (.t 7) 8),none,[]⟩,⟨none,(.st (.t 53) (.t 52) 1),none,[]⟩])
 (.seq (.reg [⟨(some 54),(.ldn (.t 7) 10),none,[]⟩,⟨none,(.st (.t 4) (.t 54) 10),none,[]⟩])
 .ret))))))) }
noncomputable def f301 : AFn := { np := 2, nt := 30, res := [], body :=
 (.seq (.drw [⟨(some 5),(.mv (.t 0)),none,[]⟩,⟨(some 6),(.mv (.t 0)),none,[]⟩,⟨(some 7),(.nc (.t 6)),none,[]⟩,⟨(some 8),(.fa (.t 7) 15),none,[]⟩,⟨(some 9),(.ld (.t 8)),none,[]⟩,⟨(some 11),(.mv (.t 1)),none,[]⟩,⟨(some 12),(.nc (.t 11)),none,[]⟩,⟨(some 13),(.fa (.t 12) 1),none,[]⟩,⟨(some 14),(.ld (.t 13)),none,[]⟩,⟨(some 15),(.mv (.t 1)),none,[]⟩,⟨(some 16),(.nc (.t 15)),none,[]⟩,⟨(some 17),(.fa (.t 16) 0),none,[]⟩,⟨(some 18),(.ld (.t 17)),none,[]⟩,⟨(some 4),(.al [(.i .i64 0),(.i .i64 0),(.i .i64 0),(.i .i64 0),(.i .u64 0),(.i .i64 0),(.i .i64 0),(.i .i64 0),(.i .i64 0),.nsl]),none,[]⟩,⟨(some 10),(.inv (.t 9) [(91,294,[]),(307,335,[]),(313,405,[])] []),none,[(14,(.ld (.t 13)),none),(18,(.ld (.t 17)),none)]⟩,⟨(some 19),(.call 84 [(.t 5),(.t 10),(.t 14),(.t 18)]),none,[]⟩,⟨none,(.st (.t 4) (.t 19) 10),none,[]⟩])
 (.seq (.reg [⟨(some 20),(.mv (.t 1)),none,[]⟩,⟨(some 21),(.nc (.t 20)),none,[]⟩,⟨(some 22),(.fa (.t 21) 2),none,[]⟩,⟨(some 23),(.ld (.t 22)),none,[]⟩,⟨(some 24),(.lns false (.t 23)),none,[]⟩,⟨(some 25),(.fa (.t 4) 7),none,[]⟩,⟨none,(.st (.t 25) (.t 24) 1),none,[]⟩,⟨(some 26),(.fa (.t 4) 8),none,[]⟩,⟨none,(.st (.t 26) (.c (.i .i64 1)) 1),none,[]⟩])
 (.reg [⟨(some 27),(.mv (.t 0)),none,[]⟩,⟨(some 28),(.ldn (.t 4) 10),none,[]⟩,⟨(some 29),(.call 83 [(.t 27),(.t 28)]),none,[]⟩]))) }
noncomputable def f302 : AFn := { np := 2, nt := 27, res := [], body :=
 (.seq (.reg [⟨(some 4),(.mv (.t 0)),none,[]⟩,⟨(some 5),(.eq true .ptr (.t 4) (.c .np)),none,[]⟩,⟨(some 6),(.mv (.t 5)),none,[]⟩,⟨(some 7),(.mv (.t 0)),(some (6,true)),[]⟩,⟨(some 8),(.nc (.t 7)),(some (6,true)),[]⟩,⟨(some 9),(.fa (.t 8) 2),(some (6,true)),[]⟩,⟨(some 10),(.ld (.t 9)),(some (6,true)),[]⟩,⟨(some 11),(.mv (.t 1)),(some (6,true)),[]⟩,⟨(some 12),(.lk .int (.i .i64 0) (.t 10) (.t 11) false),(some (6,true)),[]⟩,⟨(some 13),(.bi .gtr (.t 12) (.c (.i .i64 0))),(some (6,true)),[]⟩,⟨(some 14),(.pk (.t 6) (.t 13) (.c (.b false))),none,[]⟩])
 (.cond (.t 14) (.seq (.reg [⟨(some 15),(.mv (.t 0)),none,[]⟩,⟨(some 16),(.nc (.t 15)),none,[]⟩,⟨(some 17),(.fa (.t 16) 1),none,[]⟩,⟨(some 18),(.ld (.t 17)),none,[]⟩,⟨(some 19),(.bi .add (.t 18) (.c (.i .i64 1))),none,[]⟩,⟨(some 20),(.nc (.t 15)),none,[]⟩,⟨(some 21),(.fa (.t 20) 1),none,[]⟩,⟨none,(.st (.t 21) (.t 19) 1),none,[]⟩])
 (.reg [⟨(some 22),(.mv (.t 0)),none,[]⟩,⟨(some 23),(.nc (.t 22)),none,[]⟩,⟨(some 24),(.fa (.t 23) 2),none,[]⟩,⟨(some 25),(.ld (.t 24)),none,[]⟩,⟨(some 26),(.mv (.t 1)),none,[]⟩,⟨none,(.dl .int (.t 25) (.t 26)),none,[]⟩])) .skip)) }
noncomputable def f303 : AFn := { np := 2, nt := 32, res := [.t 4,.t 5], body :=
 (.seq (.reg [⟨(some 4),(.mv (.c .np)),none,[]⟩,⟨(some 5),(.mv (.c (.i .i64 0))),none,[]⟩])
 (.seq (.seq (.reg [⟨(some 7),(.mv (.t 0)),none,[]⟩,⟨(some 8),(.bi .lss (.t 7) (.c (.i .i64 1))),none,[]⟩,⟨(some 9),(.mv (.t 8)),none,[]⟩,⟨(some 10),(.mv (.t 0)),(some (9,false)),[]⟩,⟨(some 11),(.bi .gtr (.t 10) (.c (.i .i64 1048576))),(some (9,false)),[]⟩,⟨(some 12),(.pk (.t 9) (.c (.b true)) (.t 11)),none,[]⟩,⟨(some 13),(.mv (.t 12)),none,[]⟩,⟨(some 14),(.mv (.t 1)),(some (13,false)),[]⟩,⟨(some 15),(.bi .lss (.t 14) (.c (.i .i64 0))),(some (13,false)),[]⟩,⟨(some 16),(.pk (.t 13) (.c (.b true)) (.t 15)),none,[]⟩,⟨(some 17),(.mv (.t 16)),none,[]⟩,⟨(some 18),(.mv (.t 1)),(some (17,false)),[]⟩,⟨(some 19),(.bi .gtr (.t 18) (.c (.i .i64 65536))),(some (17,false)),[]⟩,⟨(some 20),(.pk (.t 17) (.c (.b true)) (.t 19)),none,[]⟩])
 (.cond (.t 20) (.seq (.reg [⟨(some 4),(.mv (.c .np)),none,[]⟩,⟨(some 5),(.mv (.c (.i .i64 1))),none,[]⟩])
 .ret) .skip))
 (.seq (.reg [⟨(some 21),(.mv (.t 0)),none,[]⟩,⟨(some 22),(.call 315 [(.t 21)]),none,[]⟩,⟨(some 6),(.mv (.t 22)),none,[]⟩])
 (.seq (.reg [⟨(some 23),(.mv (.t 6)),none,[]⟩,⟨(some 24),(.mv (.t 1)),none,[]⟩,⟨(some 25),(.mv (.t 6)),none,[]⟩,⟨(some 26),(.bi .quo (.t 25) (.c (.i .i64 16))),none,[]⟩,⟨(some 27),(.mv (.t 6)),none,[]⟩,⟨(some 28),(.bi .quo (.t 27) (.c (.i .i64 64))),none,[]⟩,⟨(some 29),(.mx [(.t 26),(.t 28)]),none,[]⟩,⟨(some 30),(.bl [(.i .i64 0),(.i .i64 0),(.i .i64 0),(.i .i64 0),(.i .i64 0)] [(0,1,(.t 23)),(1,1,(.t 24)),(2,1,(.t 29)),(3,1,(.c (.i .i64 32768)))]),none,[]⟩,⟨(some 31),(.bx (.t 30)),none,[]⟩,⟨(some 4),(.mv (.t 31)),none,[]⟩,⟨(some 5),(.mv (.c (.i .i64 0))),none,[]⟩])
 .ret)))) }
noncomputable def f304 : AFn := { np := 2, nt := 26, res := [.t 4,.t 5], body :=
 (.seq (.reg [⟨(some 4),(.mv (.c .np)),none,[]⟩,⟨(some 5),(.mv (.c (.i .i64 0))),none,[]⟩])
 (.seq (.seq (.reg [⟨(some 6),(.mv (.t 0)),none,[]⟩,⟨(some 7),(.bi .lss (.t 6) (.c (.i .i64 0))),none,[]⟩,⟨(some 8),(.mv (.t 7)),none,[]⟩,⟨(some 9),(.mv (.t 0)),(some (8,false)),[]⟩,⟨(some 10),(.bi .gtr (.t 9) (.c (.i .i64 17179869184))),(some (8,false)),[]⟩,⟨(some 11),(.pk (.t 8) (.c (.b true)) (.t 10)),none,[]⟩,⟨(some 12),(.mv (.t 11)),none,[]⟩,⟨(some 13),(.mv (.t 1)),(some (12,false)),[]⟩,⟨(some 14),(.bi .lss (.t 13) (.c (.i .i64 1))),(some (12,false)),[]⟩,⟨(some 15),(.pk (.t 12) (.c (.b true)) (.t 14)),none,[]⟩,⟨(some 16),(.mv (.t 15)),none,[]⟩,⟨(some 17),(.mv (.t 1)),(some (16,false)),[]⟩,⟨(some 18),(.bi .gtr (.t 17) (.c (.i .i64 1073741824))),(some (16,false)),[]⟩,⟨(some 19),(.pk (.t 16) (.c (.b true)) (.t 18)),none,[]⟩])
 (.cond (.t 19) (.seq (.reg [⟨(some 4),(.mv (.c .np)),none,[]⟩,⟨(some 5),(.mv (.c (.i .i64 1))),none,[]⟩])
 .ret) .skip))
 (.seq (.reg [⟨(some 20),(.mv (.t 0)),none,[]⟩,⟨(some 21),(.mv (.t 1)),none,[]⟩,⟨(some 22),(.mv (.t 1)),none,[]⟩,⟨(some 23),(.call 315 [(.t 22)]),none,[]⟩,⟨(some 24),(.bl [(.i .i64 0),(.i .i64 0),(.i .i64 0),(.i .i64 0)] [(0,1,(.t 20)),(1,1,(.t 21)),(2,1,(.t 23)),(3,1,(.c (.i .i64 0)))]),none,[]⟩,⟨(some 25),(.bx (.t 24)),none,[]⟩,⟨(some 4),(.mv (.t 25)),none,[]⟩,⟨(some 5),(.mv (.c (.i .i64 0))),none,[]⟩])
 .ret))) }
noncomputable def f305 : AFn := { np := 1, nt := 5, res := [.t 2], body :=
 (.seq (.reg [⟨(some 2),(.mv (.c (.i .i64 0))),none,[]⟩])
 (.seq (.reg [⟨(some 3),(.mv (.t 0)),none,[]⟩,⟨(some 4),(.bi .quo (.t 3) (.c (.i .i64 1000))),none,[]⟩,⟨(some 2),(.mv (.t 4)),none,[]⟩])
 .ret)) }
noncomputable def f306 : AFn := { np := 1, nt := 9, res := [.t 2], body :=
 (.seq (.reg [⟨(some 2),(.mv (.c (.i .i64 0))),none,[]⟩])
 (.seq (.seq (.reg [⟨(some 3),(.mv (.t 0)),none,[]⟩,⟨(some 4),(.eq false .ptr (.t 3) (.c .np)),none,[]⟩])
 (.cond (.t 4) (.seq (.reg [⟨(some 2),(.mv (.c (.i .i64 0))),none,[]⟩])
 .ret) .skip))
 (.seq (.reg [⟨(some 5),(.mv (.t 0)),none,[]⟩,⟨(some 6),(.nc (.t 5)),none,[]⟩,⟨(some 7),(.fa (.t 6) 2),none,[]⟩,⟨(some 8),(.ld (.t 7)),none,[]⟩,⟨(some 2),(.mv (.t 8)),none,[]⟩])
 .ret))) }
noncomputable def f307 : AFn := { np := 1, nt := 63, res := [.t 2], body :=
 (.seq (.reg [⟨(some 2),(.mv (.c .np)),none,[]⟩])
 (.seq (.reg [⟨(some 3),(.mv (.c .np)),none,[]⟩])
 (.seq (.seq (.reg [⟨(some 8),(.mv (.t 0)),none,[]⟩,⟨(some 9),(.nc (.t 8)),none,[]⟩,⟨(some 10),(.fa (.t 9) 0),none,[]⟩,⟨(some 11),(.ld (.t 10)),none,[]⟩,⟨(some 12),(.call 108 [(.t 11)]),none,[]⟩,⟨(some 13),(.lns false (.t 12)),none,[]⟩,⟨(some 14),(.mv (.c (.i .i64 0))),none,[]⟩])
 (.blk 0 (.loop (.seq (.reg [⟨(some 15),(.bi .lss (.t 14) (.t 13)),none,[]⟩])
 (.seq (.cond (.t 15) .skip (.exit 0))
 (.seq (.blk 1 (.seq (.reg [⟨(some 16),(.ias 1 (.t 12) (.t 14)),none,[]⟩,⟨(some 17),(.ld (.t 16)),none,[]⟩,⟨(some 5),(.mv (.t 17)),none,[]⟩])
 (.seq (.drw [⟨(some 19),(.mv (.t 0)),none,[]⟩,⟨(some 20),(.nc (.t 19)),none,[]⟩,⟨(some 21),(.fa (.t 20) 1),none,[]⟩,⟨(some 22),(.ld (.t 21)),none,[]⟩,⟨(some 23),(.mv (.t 5)),none,[]⟩,⟨(some 24),(.nc (.t 23)),none,[]⟩,⟨(some 25),(.fa (.t 24) 0),none,[]⟩,⟨(some 26),(.ldn (.t 25) 2),none,[]⟩,⟨(some 6),(.al [.np,.np,.np]),none,[]⟩,⟨(some 27),(.call 275 [(.t 22),(.t 26)]),none,[]⟩,⟨(some 18),(.mv (.t 27)),none,[]⟩,⟨(some 28),(.ex (.t 18) 0),none,[]⟩,⟨(some 29),(.ex (.t 18) 1),none,[]⟩,⟨none,(.st (.t 6) (.t 28) 3),none,[]⟩,⟨(some 7),(.mv (.t 29)),none,[]⟩])
 (.blk 2 (.seq (.drw [⟨(some 31),(.mv (.t 5)),none,[]⟩,⟨(some 32),(.nc (.t 31)),none,[]⟩,⟨(some 33),(.fa (.t 32) 10),none,[]⟩,⟨(some 34),(.ld (.t 33)),none,[]⟩,⟨(some 35),(.mv (.t 34)),none,[]⟩,⟨(some 36),(.fa (.t 6) 2),(some (35,false)),[]⟩,⟨(some 37),(.ld (.t 36)),(some (35,false)),[]⟩,⟨(some 38),(.mv (.t 0)),(some (35,false)),[]⟩,⟨(some 39),(.nc (.t 38)),(some (35,false)),[]⟩,⟨(some 40),(.fa (.t 39) 0),(some (35,false)),[]⟩,⟨(some 41),(.ld (.t 40)),(some (35,false)),[]⟩,⟨(some 42),(.call 35 [(.t 41)]),(some (35,false)),[(37,(.ld (.t 36)),(some (35,false)))]⟩,⟨(some 43),(.call 316 [(.t 37),(.t 42)]),(some (35,false)),[]⟩,⟨(some 44),(.bi .lss (.t 43) (.c (.i .i64 1))),(some (35,false)),[]⟩,⟨(some 45),(.pk (.t 35) (.c (.b true)) (.t 44)),none,[]⟩,⟨(some 30),(.mv (.t 45)),none,[]⟩])
 (.cond (.t 30) .skip (.seq (.drw [⟨(some 47),(.mv (.t 5)),none,[]⟩,⟨(some 48),(.nc (.t 47)),none,[]⟩,⟨(some 49),(.fa (.t 48) 0),none,[]⟩,⟨(some 50),(.ldn (.t 49) 2),none,[]⟩,⟨(some 51),(.mv (.t 0)),none,[]⟩,⟨(some 52),(.nc (.t 51)),none,[]⟩,⟨(some 53),(.fa (.t 52) 3),none,[]⟩,⟨(some 54),(.ldn (.t 53) 2),none,[]⟩,⟨(some 55),(.call 317 [(.t 50),(.t 54)]),none,[]⟩,⟨(some 46),(.mv (.t 55)),none,[]⟩])
 (.cond (.t 46) (.seq (.reg [⟨(some 56),(.mv (.t 5)),none,[]⟩,⟨(some 2),(.mv (.t 56)),none,[]⟩])
 .ret) (.seq (.reg [⟨(some 58),(.mv (.t 3)),none,[]⟩,⟨(some 59),(.eq false .ptr (.t 58) (.c .np)),none,[]⟩,⟨(some 57),(.mv (.t 59)),none,[]⟩])
 (.cond (.t 57) (.reg [⟨(some 60),(.mv (.t 5)),none,[]⟩,⟨(some 3),(.mv (.t 60)),none,[]⟩]) .skip))))))))))
 (.reg [⟨(some 61),(.bi .add (.t 14) (.c (.i .i64 1))),none,[]⟩,⟨(some 14),(.mv (.t 61)),none,[]⟩])))))))
 (.seq (.reg [⟨(some 62),(.mv (.t 3)),none,[]⟩,⟨(some 2),(.mv (.t 62)),none,[]⟩])
 .ret)))) }
noncomputable def f308 : AFn := { np := 2, nt := 44, res := [.t 4], body :=
 (.seq (.reg [⟨(some 4),(.mv (.c (.b false))),none,[]⟩])
 (.seq (.seq (.reg [⟨(some 5),(.mv (.t 0)),none,[]⟩,⟨(some 6),(.eq false .ptr (.t 5) (.c .np)),none,[]⟩])
 (.cond (.t 6) (.seq (.reg [⟨(some 4),(.mv (.c (.b false))),none,[]⟩])
 .ret) .skip))
 (.seq (.reg [⟨(some 7),(.mv (.t 0)),none,[]⟩,⟨(some 8),(.mv (.t 1)),none,[]⟩,⟨(some 9),(.mv (.t 0)),none,[]⟩,⟨(some 10),(.nc (.t 9)),none,[]⟩,⟨(some 11),(.fa (.t 10) 1),none,[]⟩,⟨(some 12),(.ld (.t 11)),none,[]⟩,⟨(some 13),(.call 169 [(.t 8),(.t 12),(.c (.i .i64 1125899906842624))]),none,[]⟩,⟨(some 14),(.nc (.t 7)),none,[]⟩,⟨(some 15),(.fa (.t 14) 1),none,[]⟩,⟨none,(.st (.t 15) (.t 13) 1),none,[]⟩])
 (.seq (.seq (.drw [⟨(some 16),(.mv (.t 0)),none,[]⟩,⟨(some 17),(.nc (.t 16)),none,[]⟩,⟨(some 18),(.fa (.t 17) 1),none,[]⟩,⟨(some 19),(.ld (.t 18)),none,[]⟩,⟨(some 20),(.mv (.t 0)),none,[]⟩,⟨(some 21),(.nc (.t 20)),none,[]⟩,⟨(some 22),(.fa (.t 21) 2),none,[]⟩,⟨(some 23),(.ld (.t 22)),none,[]⟩,⟨(some 24),(.bi .lss (.t 19) (.t 23)),none,[]⟩,⟨(some 25),(.mv (.t 24)),none,[]⟩,⟨(some 26),(.mv (.t 0)),(some (25,false)),[]⟩,⟨(some 27),(.nc (.t 26)),(some (25,false)),[]⟩,⟨(some 28),(.fa (.t 27) 0),(some (25,false)),[]⟩,⟨(some 29),(.ld (.t 28)),(some (25,false)),[]⟩,⟨(some 30),(.bi .eql (.t 29) (.c (.i .i64 0))),(some (25,false)),[]⟩,⟨(some 31),(.pk (.t 25) (.c (.b true)) (.t 30)),none,[]⟩])
 (.cond (.t 31) (.seq (.reg [⟨(some 4),(.mv (.c (.b false))),none,[]⟩])
 .ret) .skip))
 (.seq (.drw [⟨(some 32),(.mv (.t 0)),none,[]⟩,⟨(some 33),(.mv (.t 0)),none,[]⟩,⟨(some 34),(.nc (.t 33)),none,[]⟩,⟨(some 35),(.fa (.t 34) 1),none,[]⟩,⟨(some 36),(.ld (.t 35)),none,[]⟩,⟨(some 37),(.mv (.t 0)),none,[]⟩,⟨(some 38),(.nc (.t 37)),none,[]⟩,⟨(some 39),(.fa (.t 38) 0),none,[]⟩,⟨(some 40),(.ld (.t 39)),none,[]⟩,⟨(some 41),(.bi .add (.t 36) (.t 40)),none,[]⟩,⟨(some 42),(.nc (.t 32)),none,[]⟩,⟨(some 43),(.fa (.t 42) 2),none,[]⟩,⟨none,(.st (.t 43) (.t 41) 1),none,[]⟩])
 (.seq (.reg [⟨(some 4),(.mv (.c (.b true))),none,[]⟩])
 .ret)))))) }
noncomputable def f309 : AFn := { np := 3, nt := 29, res := [.t 6], body :=
 (.seq (.reg [⟨(some 6),(.mv (.c (.b false))),none,[]⟩])
 (.seq (.seq (.reg [⟨(some 8),(.mv (.t 0)),none,[]⟩,⟨(some 9),(.eq false .ptr (.t 8) (.c .np)),none,[]⟩])
 (.cond (.t 9) (.seq (.reg [⟨(some 6),(.mv (.c (.b false))),none,[]⟩])
 .ret) .skip))
 (.seq (.seq (.reg [⟨(some 10),(.mv (.t 0)),none,[]⟩,⟨(some 11),(.mv (.t 1)),none,[]⟩,⟨(some 12),(.call 316 [(.t 10),(.t 11)]),none,[]⟩,⟨(some 7),(.mv (.t 12)),none,[]⟩])
 (.seq (.reg [⟨(some 13),(.mv (.t 2)),none,[]⟩,⟨(some 14),(.bi .lss (.t 13) (.c (.i .i64 0))),none,[]⟩,⟨(some 15),(.mv (.t 14)),none,[]⟩,⟨(some 16),(.mv (.t 7)),(some (15,false)),[]⟩,⟨(some 17),(.mv (.t 2)),(some (15,false)),[]⟩,⟨(some 18),(.bi .lss (.t 16) (.t 17)),(some (15,false)),[]⟩,⟨(some 19),(.pk (.t 15) (.c (.b true)) (.t 18)),none,[]⟩])
 (.cond (.t 19) (.seq (.reg [⟨(some 6),(.mv (.c (.b false))),none,[]⟩])
 .ret) .skip)))
 (.seq (.drw [⟨(some 20),(.mv (.t 0)),none,[]⟩,⟨(some 21),(.nc (.t 20)),none,[]⟩,⟨(some 22),(.fa (.t 21) 2),none,[]⟩,⟨(some 23),(.ld (.t 22)),none,[]⟩,⟨(some 24),(.mv (.t 2)),none,[]⟩,⟨(some 25),(.call 315 [(.t 24)]),none,[(23,(.ld (.t 22)),none)]⟩,⟨(some 26),(.bi .sub (.t 23) (.t 25)),none,[]⟩,⟨(some 27),(.nc (.t 20)),none,[]⟩,⟨(some 28),(.fa (.t 27) 2),none,[]⟩,⟨none,(.st (.t 28) (.t 26) 1),none,[]⟩])
 (.seq (.reg [⟨(some 6),(.mv (.c (.b true))),none,[]⟩])
 .ret))))) }
noncomputable def f310 : AFn := { np := 2, nt := 11, res := [], body :=
 (.reg [⟨(some 4),(.mv (.t 1)),none,[]⟩,⟨(some 5),(.mv (.t 0)),none,[]⟩,⟨(some 6),(.nc (.t 5)),none,[]⟩,⟨(some 7),(.fa (.t 6) 16),none,[]⟩,⟨(some 8),(.ld (.t 7)),none,[]⟩,⟨(some 9),(.nc (.t 4)),none,[]⟩,⟨(some 10),(.fa (.t 9) 5),none,[]⟩,⟨none,(.st (.t 10) (.t 8) 1),none,[]⟩]) }
noncomputable def f311 : AFn := { np := 2, nt := 22, res := [.t 4], body :=
 (.seq (.reg [⟨(some 4),(.mv (.c (.b false))),none,[]⟩])
 (.seq (.drw [⟨(some 5),(.mv (.t 1)),none,[]⟩,⟨(some 6),(.nc (.t 5)),none,[]⟩,⟨(some 7),(.fa (.t 6) 4),none,[]⟩,⟨(some 8),(.ld (.t 7)),none,[]⟩,⟨(some 9),(.mv (.t 1)),none,[]⟩,⟨(some 10),(.nc (.t 9)),none,[]⟩,⟨(some 11),(.fa (.t 10) 2),none,[]⟩,⟨(some 12),(.ld (.t 11)),none,[]⟩,⟨(some 13),(.lns false (.t 12)),none,[]⟩,⟨(some 14),(.bi .lss (.t 8) (.t 13)),none,[]⟩,⟨(some 15),(.mv (.t 14)),none,[]⟩,⟨(some 16),(.mv (.t 1)),(some (15,false)),[]⟩,⟨(some 17),(.nc (.t 16)),(some (15,false)),[]⟩,⟨(some 18),(.fa (.t 17) 5),(some (15,false)),[]⟩,⟨(some 19),(.ld (.t 18)),(some (15,false)),[]⟩,⟨(some 20),(.un .not (.t 19)),(some (15,false)),[]⟩,⟨(some 21),(.pk (.t 15) (.c (.b true)) (.t 20)),none,[]⟩,⟨(some 4),(.mv (.t 21)),none,[]⟩])
 .ret)) }
noncomputable def f315 : AFn := { np := 1, nt := 6, res := [.t 2], body :=
 (.seq (.reg [⟨(some 2),(.mv (.c (.i .i64 0))),none,[]⟩])
 (.seq (.reg [⟨(some 3),(.mv (.t 0)),none,[]⟩,⟨(some 4),(.call 169 [(.t 3),(.c (.i .i64 0)),(.c (.i .i64 17179869184))]),none,[]⟩,⟨(some 5),(.bi .shl (.t 4) (.c (.i .u64 16))),none,[]⟩,⟨(some 2),(.mv (.t 5)),none,[]⟩])
 .ret)) }
noncomputable def f316 : AFn := { np := 2, nt := 15, res := [.t 4], body :=
 (.seq (.reg [⟨(some 4),(.mv (.c (.i .i64 0))),none,[]⟩])
 (.seq (.seq (.reg [⟨(some 5),(.mv (.t 0)),none,[]⟩,⟨(some 6),(.eq false .ptr (.t 5) (.c .np)),none,[]⟩])
 (.cond (.t 6) (.seq (.reg [⟨(some 4),(.mv (.c (.i .i64 0))),none,[]⟩])
 .ret) .skip))
 (.seq (.reg [⟨(some 7),(.mv (.t 0)),none,[]⟩,⟨(some 8),(.mv (.t 1)),none,[]⟩,⟨(some 9),(.call 285 [(.t 7),(.t 8)]),none,[]⟩])
 (.seq (.reg [⟨(some 10),(.mv (.t 0)),none,[]⟩,⟨(some 11),(.nc (.t 10)),none,[]⟩,⟨(some 12),(.fa (.t 11) 2),none,[]⟩,⟨(some 13),(.ld (.t 12)),none,[]⟩,⟨(some 14),(.call 322 [(.t 13)]),none,[]⟩,⟨(some 4),(.mv (.t 14)),none,[]⟩])
 .ret)))) }
noncomputable def f317 : AFn := { np := 2, nt := 24, res := [.t 4], body :=
 (.seq (.reg [⟨(some 2),(.bx (.t 0)),none,[]⟩,⟨(some 3),(.bx (.t 1)),none,[]⟩,⟨(some 4),(.mv (.c (.b false))),none,[]⟩])
 (.seq (.reg [⟨(some 5),(.fa (.t 2) 0),none,[]⟩,⟨(some 6),(.ld (.t 5)),none,[]⟩,⟨(some 7),(.fa (.t 3) 0),none,[]⟩,⟨(some 8),(.ld (.t 7)),none,[]⟩,⟨(some 9),(.bi .gtr (.t 6) (.t 8)),none,[]⟩,⟨(some 10),(.mv (.t 9)),none,[]⟩,⟨(some 11),(.fa (.t 2) 0),(some (10,false)),[]⟩,⟨(some 12),(.ld (.t 11)),(some (10,false)),[]⟩,⟨(some 13),(.fa (.t 3) 0),(some (10,false)),[]⟩,⟨(some 14),(.ld (.t 13)),(some (10,false)),[]⟩,⟨(some 15),(.bi .eql (.t 12) (.t 14)),(some (10,false)),[]⟩,⟨(some 16),(.mv (.t 15)),(some (10,false)),[]⟩,⟨(some 17),(.fa (.t 2) 1),(some (16,true)),[]⟩,⟨(some 18),(.ld (.t 17)),(some (16,true)),[]⟩,⟨(some 19),(.fa (.t 3) 1),(some (16,true)),[]⟩,⟨(some 20),(.ld (.t 19)),(some (16,true)),[]⟩,⟨(some 21),(.bi .gtr (.t 18) (.t 20)),(some (16,true)),[]⟩,⟨(some 22),(.pk (.t 16) (.t 21) (.c (.b false))),(some (10,false)),[]⟩,⟨(some 23),(.pk (.t 10) (.c (.b true)) (.t 22)),none,[]⟩,⟨(some 4),(.mv (.t 23)),none,[]⟩])
 .ret)) }
noncomputable def f318 : AFn := { np := 3, nt := 18, res := [.t 6], body :=
 (.seq (.reg [⟨(some 6),(.mv (.c (.i .i64 0))),none,[]⟩])
 (.seq (.blk 0 (.seq (.reg [⟨(some 8),(.mv (.t 0)),none,[]⟩,⟨(some 9),(.mv (.t 1)),none,[]⟩,⟨(some 10),(.bi .lss (.t 8) (.t 9)),none,[]⟩,⟨(some 7),(.mv (.t 10)),none,[]⟩])
 (.cond (.t 7) (.seq (.reg [⟨(some 11),(.mv (.t 1)),none,[]⟩,⟨(some 6),(.mv (.t 11)),none,[]⟩])
 .ret) (.seq (.reg [⟨(some 13),(.mv (.t 0)),none,[]⟩,⟨(some 14),(.mv (.t 2)),none,[]⟩,⟨(some 15),(.bi .gtr (.t 13) (.t 14)),none,[]⟩,⟨(some 12),(.mv (.t 15)),none,[]⟩])
 (.cond (.t 12) (.seq (.reg [⟨(some 16),(.mv (.t 2)),none,[]⟩,⟨(some 6),(.mv (.t 16)),none,[]⟩])
 .ret) .skip)))))
 (.seq (.reg [⟨(some 17),(.mv (.t 0)),none,[]⟩,⟨(some 6),(.mv (.t 17)),none,[]⟩])
 .ret))) }
noncomputable def f319 : AFn := { np := 2, nt := 11, res := [.t 4], body :=
 (.seq (.reg [⟨(some 4),(.mv (.c (.i .i64 0))),none,[]⟩])
 (.seq (.reg [⟨(some 5),(.mv (.t 0)),none,[]⟩,⟨(some 6),(.call 323 [(.t 5)]),none,[]⟩,⟨(some 7),(.mv (.t 1)),none,[]⟩,⟨(some 8),(.call 323 [(.t 7)]),none,[]⟩,⟨(some 9),(.bi .add (.t 6) (.t 8)),none,[]⟩,⟨(some 10),(.call 323 [(.t 9)]),none,[]⟩,⟨(some 4),(.mv (.t 10)),none,[]⟩])
 .ret)) }
noncomputable def f322 : AFn := { np := 1, nt := 6, res := [.t 2], body :=
 (.seq (.reg [⟨(some 2),(.mv (.c (.i .i64 0))),none,[]⟩])
 (.seq (.reg [⟨(some 3),(.mv (.t 0)),none,[]⟩,⟨(some 4),(.call 323 [(.t 3)]),none,[]⟩,⟨(some 5),(.bi .shr (.t 4) (.c (.i .u64 16))),none,[]⟩,⟨(some 2),(.mv (.t 5)),none,[]⟩])
 .ret)) }
noncomputable def f323 : AFn := { np := 1, nt := 5, res := [.t 2], body :=
 (.seq (.reg [⟨(some 2),(.mv (.c (.i .i64 0))),none,[]⟩])
 (.seq (.reg [⟨(some 3),(.mv (.t 0)),none,[]⟩,⟨(some 4),(.call 318 [(.t 3),(.c (.i .i64 0)),(.c (.i .i64 1125899906842624))]),none,[]⟩,⟨(some 2),(.mv (.t 4)),none,[]⟩])
 .ret)) }
end Go.Ev.Q
