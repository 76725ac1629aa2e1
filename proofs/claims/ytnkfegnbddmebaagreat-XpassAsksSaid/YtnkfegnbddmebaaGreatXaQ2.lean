/-
  Tables of the evaluator: functions of the program, as it reckons them (part 2). Conditions: none.
-/
import Derived.Test.YtnkfegnbddmebaaGreatXaEvA
set_option maxRecDepth 1000000
namespace Go.Ev.Q
open Go Go.Ev
noncomputable def f129 : AFn := { np := 1, nt := 14, res := [.t 2,.t 3], body :=
 (.seq (.reg [⟨(some 2),(.mv (.c .np)),none,[]⟩,⟨(some 3),(.mv (.c (.i .i64 0))),none,[]⟩])
 (.seq (.seq (.reg [⟨(some 4),(.mv (.t 0)),none,[]⟩,⟨(some 5),(.bi .lss (.t 4) (.c (.i .i64 1))),none,[]⟩,⟨(some 6),(.mv (.t 5)),none,[]⟩,⟨(some 7),(.mv (.t 0)),(some (6,false)),[]⟩,⟨(some 8),(.bi .gtr (.t 7) (.c (.i .i64 100000))),(some (6,false)),[]⟩,⟨(some 9),(.pk (.t 6) (.c (.b true)) (.t 8)),none,[]⟩])
 (.cond (.t 9) (.seq (.reg [⟨(some 2),(.mv (.c .np)),none,[]⟩,⟨(some 3),(.mv (.c (.i .i64 1))),none,[]⟩])
 .ret) .skip))
 (.seq (.reg [⟨(some 10),(.mv (.t 0)),none,[]⟩,⟨(some 11),(.mks 4 32 [(.b false),(.i .i64 0),(.i .u64 0),.np] (.c (.i .i64 8)) (.c (.i .i64 8))),none,[]⟩,⟨(some 12),(.bl [(.i .i64 0),(.i .i64 0),.nsl] [(0,1,(.t 10)),(2,1,(.t 11))]),none,[]⟩,⟨(some 13),(.bx (.t 12)),none,[]⟩,⟨(some 2),(.mv (.t 13)),none,[]⟩,⟨(some 3),(.mv (.c (.i .i64 0))),none,[]⟩])
 .ret))) }
noncomputable def f130 : AFn := { np := 1, nt := 13, res := [.t 2,.t 3], body :=
 (.seq (.reg [⟨(some 2),(.mv (.c .np)),none,[]⟩,⟨(some 3),(.mv (.c (.i .i64 0))),none,[]⟩])
 (.seq (.seq (.reg [⟨(some 4),(.mv (.t 0)),none,[]⟩,⟨(some 5),(.bi .lss (.t 4) (.c (.i .i64 1))),none,[]⟩,⟨(some 6),(.mv (.t 5)),none,[]⟩,⟨(some 7),(.mv (.t 0)),(some (6,false)),[]⟩,⟨(some 8),(.bi .gtr (.t 7) (.c (.i .i64 100000))),(some (6,false)),[]⟩,⟨(some 9),(.pk (.t 6) (.c (.b true)) (.t 8)),none,[]⟩])
 (.cond (.t 9) (.seq (.reg [⟨(some 2),(.mv (.c .np)),none,[]⟩,⟨(some 3),(.mv (.c (.i .i64 1))),none,[]⟩])
 .ret) .skip))
 (.seq (.reg [⟨(some 10),(.mv (.t 0)),none,[]⟩,⟨(some 11),(.bl [(.i .i64 0),(.i .u64 0),.nsl] [(0,1,(.t 10)),(1,1,(.c (.i .u64 1)))]),none,[]⟩,⟨(some 12),(.bx (.t 11)),none,[]⟩,⟨(some 2),(.mv (.t 12)),none,[]⟩,⟨(some 3),(.mv (.c (.i .i64 0))),none,[]⟩])
 .ret))) }
noncomputable def f131 : AFn := { np := 3, nt := 25, res := [.t 6], body :=
 (.seq (.reg [⟨(some 6),(.mv (.c (.i .i64 0))),none,[]⟩])
 (.seq (.reg [⟨(some 7),(.mv (.t 0)),none,[]⟩,⟨(some 8),(.call 169 [(.t 7),(.c (.i .i64 1)),(.c (.i .i64 1099511627776))]),none,[]⟩,⟨(some 9),(.mv (.t 1)),none,[]⟩,⟨(some 10),(.call 169 [(.t 9),(.c (.i .i64 1)),(.c (.i .i64 1099511627776))]),none,[]⟩,⟨(some 0),(.mv (.t 8)),none,[]⟩,⟨(some 1),(.mv (.t 10)),none,[]⟩])
 (.seq (.blk 0 (.loop (.seq (.seq (.reg [⟨(some 11),(.mv (.t 2)),none,[]⟩,⟨(some 12),(.bi .gtr (.t 11) (.c (.i .i64 0))),none,[]⟩,⟨(some 13),(.mv (.t 12)),none,[]⟩,⟨(some 14),(.mv (.t 0)),(some (13,true)),[]⟩,⟨(some 15),(.mv (.t 1)),(some (13,true)),[]⟩,⟨(some 16),(.bi .lss (.t 14) (.t 15)),(some (13,true)),[]⟩,⟨(some 17),(.pk (.t 13) (.t 16) (.c (.b false))),none,[]⟩])
 (.cond (.t 17) .skip (.exit 0)))
 (.seq (.blk 1 (.reg [⟨(some 20),(.mv (.t 0)),none,[]⟩,⟨(some 21),(.bi .mul (.t 20) (.c (.i .i64 2))),none,[]⟩,⟨(some 0),(.mv (.t 21)),none,[]⟩]))
 (.reg [⟨(some 18),(.mv (.t 2)),none,[]⟩,⟨(some 19),(.bi .sub (.t 18) (.c (.i .i64 1))),none,[]⟩,⟨(some 2),(.mv (.t 19)),none,[]⟩])))))
 (.seq (.reg [⟨(some 22),(.mv (.t 0)),none,[]⟩,⟨(some 23),(.mv (.t 1)),none,[]⟩,⟨(some 24),(.mn [(.t 22),(.t 23)]),none,[]⟩,⟨(some 6),(.mv (.t 24)),none,[]⟩])
 .ret)))) }
noncomputable def f132 : AFn := { np := 2, nt := 19, res := [.t 4], body :=
 (.seq (.reg [⟨(some 4),(.mv (.c (.i .i64 0))),none,[]⟩])
 (.seq (.seq (.reg [⟨(some 6),(.mv (.t 0)),none,[]⟩,⟨(some 7),(.lns false (.t 6)),none,[]⟩,⟨(some 8),(.mv (.c (.i .i64 0))),none,[]⟩])
 (.blk 0 (.loop (.seq (.reg [⟨(some 9),(.bi .lss (.t 8) (.t 7)),none,[]⟩])
 (.seq (.cond (.t 9) .skip (.exit 0))
 (.seq (.blk 1 (.seq (.reg [⟨(some 10),(.mv (.t 8)),none,[]⟩,⟨(some 5),(.mv (.t 10)),none,[]⟩])
 (.seq (.reg [⟨(some 11),(.mv (.t 1)),none,[]⟩,⟨(some 12),(.mv (.t 0)),none,[]⟩,⟨(some 13),(.mv (.t 5)),none,[]⟩,⟨(some 14),(.ias 5 (.t 12) (.t 13)),none,[]⟩,⟨(some 15),(.ldn (.t 14) 5),none,[]⟩,⟨(some 16),(.cv (.t 11) [(.t 15)]),none,[]⟩])
 (.cond (.t 16) (.seq (.reg [⟨(some 17),(.mv (.t 5)),none,[]⟩,⟨(some 4),(.mv (.t 17)),none,[]⟩])
 .ret) .skip))))
 (.reg [⟨(some 18),(.bi .add (.t 8) (.c (.i .i64 1))),none,[]⟩,⟨(some 8),(.mv (.t 18)),none,[]⟩])))))))
 (.seq (.reg [⟨(some 4),(.mv (.c (.i .i64 (-1)))),none,[]⟩])
 .ret))) }
noncomputable def f133 : AFn := { np := 1, nt := 13, res := [.t 3], body :=
 (.seq (.reg [⟨(some 2),(.bx (.t 0)),none,[]⟩,⟨(some 3),(.mv (.c (.b false))),none,[]⟩])
 (.seq (.reg [⟨(some 4),(.fa (.t 2) 1),none,[]⟩,⟨(some 5),(.ld (.t 4)),none,[]⟩,⟨(some 6),(.ld (.t 1)),none,[]⟩,⟨(some 7),(.bi .eql (.t 5) (.t 6)),none,[]⟩,⟨(some 8),(.mv (.t 7)),none,[]⟩,⟨(some 9),(.fa (.t 2) 3),(some (8,true)),[]⟩,⟨(some 10),(.ld (.t 9)),(some (8,true)),[]⟩,⟨(some 11),(.bi .eql (.t 10) (.c (.i .i64 1))),(some (8,true)),[]⟩,⟨(some 12),(.pk (.t 8) (.t 11) (.c (.b false))),none,[]⟩,⟨(some 3),(.mv (.t 12)),none,[]⟩])
 .ret)) }
noncomputable def f134 : AFn := { np := 1, nt := 6, res := [.t 2], body :=
 (.seq (.reg [⟨(some 2),(.mv (.c (.b false))),none,[]⟩])
 (.seq (.reg [⟨(some 3),(.mv (.t 0)),none,[]⟩,⟨(some 4),(.mv (.t 0)),none,[]⟩,⟨(some 5),(.bi .neq (.t 3) (.t 4)),none,[]⟩,⟨(some 2),(.mv (.t 5)),none,[]⟩])
 .ret)) }
noncomputable def f135 : AFn := { np := 2, nt := 16, res := [.t 4,.t 5], body :=
 (.seq (.reg [⟨(some 4),(.mv (.c (.i .i64 0))),none,[]⟩,⟨(some 5),(.mv (.c (.b false))),none,[]⟩])
 (.seq (.seq (.reg [⟨(some 6),(.mv (.t 0)),none,[]⟩,⟨(some 7),(.eq false .ptr (.t 6) (.c .np)),none,[]⟩])
 (.cond (.t 7) (.seq (.reg [⟨(some 4),(.mv (.c (.i .i64 0))),none,[]⟩,⟨(some 5),(.mv (.c (.b false))),none,[]⟩])
 .ret) .skip))
 (.seq (.reg [⟨(some 8),(.mv (.t 0)),none,[]⟩,⟨(some 9),(.nc (.t 8)),none,[]⟩,⟨(some 10),(.fa (.t 9) 3),none,[]⟩,⟨(some 11),(.ld (.t 10)),none,[]⟩,⟨(some 12),(.mv (.t 1)),none,[]⟩,⟨(some 13),(.call 170 [(.t 11),(.t 12),(.c (.fn 171 [] []))]),none,[]⟩,⟨(some 14),(.ex (.t 13) 0),none,[]⟩,⟨(some 15),(.ex (.t 13) 1),none,[]⟩,⟨(some 4),(.mv (.t 14)),none,[]⟩,⟨(some 5),(.mv (.t 15)),none,[]⟩])
 .ret))) }
noncomputable def f136 : AFn := { np := 3, nt := 33, res := [.t 6], body :=
 (.seq (.reg [⟨(some 6),(.mv (.c .nsl)),none,[]⟩])
 (.seq (.reg [⟨(some 8),(.mv (.t 0)),none,[]⟩,⟨(some 9),(.mv (.t 1)),none,[]⟩,⟨(some 10),(.mv (.t 2)),none,[]⟩,⟨(some 11),(.mv (.t 0)),none,[]⟩,⟨(some 12),(.lns false (.t 11)),none,[]⟩,⟨(some 13),(.sll 5 (.t 8) (some (.t 9)) (some (.t 10)) (some (.t 12))),none,[]⟩])
 (.seq (.seq (.reg [⟨(some 14),(.mv (.t 1)),none,[]⟩,⟨(some 15),(.mv (.t 2)),none,[]⟩,⟨(some 16),(.bi .eql (.t 14) (.t 15)),none,[]⟩])
 (.cond (.t 16) (.seq (.reg [⟨(some 17),(.mv (.t 0)),none,[]⟩,⟨(some 6),(.mv (.t 17)),none,[]⟩])
 .ret) .skip))
 (.seq (.reg [⟨(some 18),(.mv (.t 0)),none,[]⟩,⟨(some 19),(.lns false (.t 18)),none,[]⟩,⟨(some 7),(.mv (.t 19)),none,[]⟩])
 (.seq (.drw [⟨(some 20),(.mv (.t 0)),none,[]⟩,⟨(some 21),(.mv (.t 1)),none,[]⟩,⟨(some 22),(.sll 5 (.t 20) none (some (.t 21)) none),none,[]⟩,⟨(some 23),(.mv (.t 0)),none,[]⟩,⟨(some 24),(.mv (.t 2)),none,[]⟩,⟨(some 25),(.sll 5 (.t 23) (some (.t 24)) none none),none,[]⟩,⟨(some 26),(.ap 5 (.t 22) (.t 25)),none,[]⟩,⟨(some 0),(.mv (.t 26)),none,[]⟩])
 (.seq (.reg [⟨(some 27),(.mv (.t 0)),none,[]⟩,⟨(some 28),(.mv (.t 0)),none,[]⟩,⟨(some 29),(.lns false (.t 28)),none,[]⟩,⟨(some 30),(.mv (.t 7)),none,[]⟩,⟨(some 31),(.sll 5 (.t 27) (some (.t 29)) (some (.t 30)) none),none,[]⟩,⟨none,(.cls [(.i .u64 0),(.i .i64 0),.nsl,(.i .i64 0),(.b false)] (.t 31)),none,[]⟩])
 (.seq (.reg [⟨(some 32),(.mv (.t 0)),none,[]⟩,⟨(some 6),(.mv (.t 32)),none,[]⟩])
 .ret))))))) }
noncomputable def f137 : AFn := { np := 2, nt := 19, res := [.t 4], body :=
 (.seq (.reg [⟨(some 4),(.mv (.c (.i .i64 0))),none,[]⟩])
 (.seq (.seq (.reg [⟨(some 6),(.mv (.t 0)),none,[]⟩,⟨(some 7),(.lns false (.t 6)),none,[]⟩,⟨(some 8),(.mv (.c (.i .i64 0))),none,[]⟩])
 (.blk 0 (.loop (.seq (.reg [⟨(some 9),(.bi .lss (.t 8) (.t 7)),none,[]⟩])
 (.seq (.cond (.t 9) .skip (.exit 0))
 (.seq (.blk 1 (.seq (.reg [⟨(some 10),(.mv (.t 8)),none,[]⟩,⟨(some 5),(.mv (.t 10)),none,[]⟩])
 (.seq (.reg [⟨(some 11),(.mv (.t 1)),none,[]⟩,⟨(some 12),(.mv (.t 0)),none,[]⟩,⟨(some 13),(.mv (.t 5)),none,[]⟩,⟨(some 14),(.ias 1 (.t 12) (.t 13)),none,[]⟩,⟨(some 15),(.ld (.t 14)),none,[]⟩,⟨(some 16),(.cv (.t 11) [(.t 15)]),none,[]⟩])
 (.cond (.t 16) (.seq (.reg [⟨(some 17),(.mv (.t 5)),none,[]⟩,⟨(some 4),(.mv (.t 17)),none,[]⟩])
 .ret) .skip))))
 (.reg [⟨(some 18),(.bi .add (.t 8) (.c (.i .i64 1))),none,[]⟩,⟨(some 8),(.mv (.t 18)),none,[]⟩])))))))
 (.seq (.reg [⟨(some 4),(.mv (.c (.i .i64 (-1)))),none,[]⟩])
 .ret))) }
noncomputable def f138 : AFn := { np := 1, nt := 5, res := [.t 2], body :=
 (.seq (.reg [⟨(some 2),(.mv (.c (.i .i64 0))),none,[]⟩])
 (.seq (.reg [⟨(some 3),(.mv (.t 0)),none,[]⟩,⟨(some 4),(.call 169 [(.t 3),(.c (.i .i64 0)),(.c (.i .i64 1125899906842624))]),none,[]⟩,⟨(some 2),(.mv (.t 4)),none,[]⟩])
 .ret)) }
noncomputable def f139 : AFn := { np := 1, nt := 17, res := [.t 2,.t 3], body :=
 (.seq (.reg [⟨(some 2),(.mv (.c (.i .i64 0))),none,[]⟩,⟨(some 3),(.mv (.c (.b false))),none,[]⟩])
 (.seq (.seq (.reg [⟨(some 4),(.mv (.t 0)),none,[]⟩,⟨(some 5),(.eq false .ptr (.t 4) (.c .np)),none,[]⟩,⟨(some 6),(.mv (.t 5)),none,[]⟩,⟨(some 7),(.mv (.t 0)),(some (6,false)),[]⟩,⟨(some 8),(.nc (.t 7)),(some (6,false)),[]⟩,⟨(some 9),(.fa (.t 8) 5),(some (6,false)),[]⟩,⟨(some 10),(.ld (.t 9)),(some (6,false)),[]⟩,⟨(some 11),(.un .not (.t 10)),(some (6,false)),[]⟩,⟨(some 12),(.pk (.t 6) (.c (.b true)) (.t 11)),none,[]⟩])
 (.cond (.t 12) (.seq (.reg [⟨(some 2),(.mv (.c (.i .i64 0))),none,[]⟩,⟨(some 3),(.mv (.c (.b false))),none,[]⟩])
 .ret) .skip))
 (.seq (.reg [⟨(some 13),(.mv (.t 0)),none,[]⟩,⟨(some 14),(.nc (.t 13)),none,[]⟩,⟨(some 15),(.fa (.t 14) 3),none,[]⟩,⟨(some 16),(.ld (.t 15)),none,[]⟩,⟨(some 2),(.mv (.t 16)),none,[]⟩,⟨(some 3),(.mv (.c (.b true))),none,[]⟩])
 .ret))) }
noncomputable def f140 : AFn := { np := 2, nt := 50, res := [.t 4,.t 5], body :=
 (.seq (.reg [⟨(some 4),(.mv (.c (.b false))),none,[]⟩,⟨(some 5),(.mv (.c (.i .i64 0))),none,[]⟩])
 (.seq (.seq (.reg [⟨(some 6),(.mv (.t 0)),none,[]⟩,⟨(some 7),(.eq false .ptr (.t 6) (.c .np)),none,[]⟩,⟨(some 8),(.mv (.t 7)),none,[]⟩,⟨(some 9),(.mv (.t 0)),(some (8,false)),[]⟩,⟨(some 10),(.nc (.t 9)),(some (8,false)),[]⟩,⟨(some 11),(.fa (.t 10) 5),(some (8,false)),[]⟩,⟨(some 12),(.ld (.t 11)),(some (8,false)),[]⟩,⟨(some 13),(.un .not (.t 12)),(some (8,false)),[]⟩,⟨(some 14),(.pk (.t 8) (.c (.b true)) (.t 13)),none,[]⟩,⟨(some 15),(.mv (.t 14)),none,[]⟩,⟨(some 16),(.mv (.t 1)),(some (15,false)),[]⟩,⟨(some 17),(.mv (.t 0)),(some (15,false)),[]⟩,⟨(some 18),(.nc (.t 17)),(some (15,false)),[]⟩,⟨(some 19),(.fa (.t 18) 3),(some (15,false)),[]⟩,⟨(some 20),(.ld (.t 19)),(some (15,false)),[]⟩,⟨(some 21),(.bi .lss (.t 16) (.t 20)),(some (15,false)),[]⟩,⟨(some 22),(.pk (.t 15) (.c (.b true)) (.t 21)),none,[]⟩])
 (.cond (.t 22) (.seq (.reg [⟨(some 4),(.mv (.c (.b false))),none,[]⟩,⟨(some 5),(.mv (.c (.i .i64 0))),none,[]⟩])
 .ret) .skip))
 (.seq (.reg [⟨(some 23),(.mv (.t 0)),none,[]⟩,⟨(some 24),(.mv (.t 1)),none,[]⟩,⟨(some 25),(.mv (.t 0)),none,[]⟩,⟨(some 26),(.nc (.t 25)),none,[]⟩,⟨(some 27),(.fa (.t 26) 4),none,[]⟩,⟨(some 28),(.ld (.t 27)),none,[]⟩,⟨(some 29),(.bi .add (.t 28) (.c (.i .i64 1))),none,[]⟩,⟨(some 30),(.call 81 [(.t 23),(.t 24),(.t 29)]),none,[]⟩])
 (.seq (.seq (.drw [⟨(some 31),(.mv (.t 0)),none,[]⟩,⟨(some 32),(.nc (.t 31)),none,[]⟩,⟨(some 33),(.fa (.t 32) 2),none,[]⟩,⟨(some 34),(.ld (.t 33)),none,[]⟩,⟨(some 35),(.bi .gtr (.t 34) (.c (.i .i64 0))),none,[]⟩,⟨(some 36),(.mv (.t 35)),none,[]⟩,⟨(some 37),(.mv (.t 0)),(some (36,true)),[]⟩,⟨(some 38),(.nc (.t 37)),(some (36,true)),[]⟩,⟨(some 39),(.fa (.t 38) 4),(some (36,true)),[]⟩,⟨(some 40),(.ld (.t 39)),(some (36,true)),[]⟩,⟨(some 41),(.mv (.t 0)),(some (36,true)),[]⟩,⟨(some 42),(.nc (.t 41)),(some (36,true)),[]⟩,⟨(some 43),(.fa (.t 42) 2),(some (36,true)),[]⟩,⟨(some 44),(.ld (.t 43)),(some (36,true)),[]⟩,⟨(some 45),(.bi .gtr (.t 40) (.t 44)),(some (36,true)),[]⟩,⟨(some 46),(.pk (.t 36) (.t 45) (.c (.b false))),none,[]⟩])
 (.cond (.t 46) (.seq (.reg [⟨(some 47),(.mv (.t 0)),none,[]⟩,⟨(some 48),(.nc (.t 47)),none,[]⟩,⟨(some 49),(.fa (.t 48) 5),none,[]⟩,⟨none,(.st (.t 49) (.c (.b false)) 1),none,[]⟩])
 (.seq (.reg [⟨(some 4),(.mv (.c (.b false))),none,[]⟩,⟨(some 5),(.mv (.c (.i .i64 8))),none,[]⟩])
 .ret)) .skip))
 (.seq (.reg [⟨(some 4),(.mv (.c (.b true))),none,[]⟩,⟨(some 5),(.mv (.c (.i .i64 0))),none,[]⟩])
 .ret))))) }
noncomputable def f141 : AFn := { np := 1, nt := 24, res := [.c 2 3 true,.t 3], body :=
 (.seq (.reg [⟨(some 2),(.al [(.i .i64 0),(.i .u64 0),.nsl]),none,[]⟩,⟨(some 3),(.mv (.c (.b false))),none,[]⟩])
 (.seq (.seq (.reg [⟨(some 5),(.mv (.t 0)),none,[]⟩,⟨(some 6),(.call 172 [(.t 5)]),none,[]⟩,⟨(some 7),(.bi .eql (.t 6) (.c (.i .i64 0))),none,[]⟩])
 (.cond (.t 7) (.seq (.reg [⟨(some 8),(.bl [(.i .i64 0),(.i .u64 0),.nsl] []),none,[]⟩,⟨none,(.st (.t 2) (.t 8) 3),none,[]⟩,⟨(some 3),(.mv (.c (.b false))),none,[]⟩])
 .ret) .skip))
 (.seq (.reg [⟨(some 9),(.mv (.t 0)),none,[]⟩,⟨(some 10),(.nc (.t 9)),none,[]⟩,⟨(some 11),(.fa (.t 10) 19),none,[]⟩,⟨(some 12),(.ld (.t 11)),none,[]⟩,⟨(some 13),(.ias 3 (.t 12) (.c (.i .i64 0))),none,[]⟩,⟨(some 14),(.ldn (.t 13) 3),none,[]⟩,⟨(some 4),(.al [(.i .i64 0),(.i .u64 0),.nsl]),none,[]⟩,⟨none,(.st (.t 4) (.t 14) 3),none,[]⟩])
 (.seq (.reg [⟨(some 15),(.mv (.t 0)),none,[]⟩,⟨(some 16),(.mv (.t 0)),none,[]⟩,⟨(some 17),(.nc (.t 16)),none,[]⟩,⟨(some 18),(.fa (.t 17) 19),none,[]⟩,⟨(some 19),(.ld (.t 18)),none,[]⟩,⟨(some 20),(.call 173 [(.t 19),(.c (.i .i64 0)),(.c (.i .i64 1))]),none,[]⟩,⟨(some 21),(.nc (.t 15)),none,[]⟩,⟨(some 22),(.fa (.t 21) 19),none,[]⟩,⟨none,(.st (.t 22) (.t 20) 1),none,[]⟩])
 (.seq (.reg [⟨(some 23),(.ldn (.t 4) 3),none,[]⟩,⟨none,(.st (.t 2) (.t 23) 3),none,[]⟩,⟨(some 3),(.mv (.c (.b true))),none,[]⟩])
 .ret))))) }
noncomputable def f142 : AFn := { np := 6, nt := 128, res := [.t 12,.t 13,.t 14], body :=
 (.seq (.reg [⟨(some 12),(.mv (.c (.i .i64 0))),none,[]⟩,⟨(some 13),(.mv (.c (.b false))),none,[]⟩,⟨(some 14),(.mv (.c (.i .i64 0))),none,[]⟩])
 (.seq (.seq (.reg [⟨(some 17),(.mv (.t 1)),none,[]⟩,⟨(some 18),(.bi .lss (.t 17) (.c (.i .i64 0))),none,[]⟩,⟨(some 19),(.mv (.t 18)),none,[]⟩,⟨(some 20),(.mv (.t 1)),(some (19,false)),[]⟩,⟨(some 21),(.bi .geq (.t 20) (.c (.i .i64 8))),(some (19,false)),[]⟩,⟨(some 22),(.pk (.t 19) (.c (.b true)) (.t 21)),none,[]⟩,⟨(some 23),(.mv (.t 22)),none,[]⟩,⟨(some 24),(.mv (.t 2)),(some (23,false)),[]⟩,⟨(some 25),(.bi .eql (.t 24) (.c (.i .u64 0))),(some (23,false)),[]⟩,⟨(some 26),(.pk (.t 23) (.c (.b true)) (.t 25)),none,[]⟩,⟨(some 27),(.mv (.t 26)),none,[]⟩,⟨(some 28),(.mv (.t 2)),(some (27,false)),[]⟩,⟨(some 29),(.bi .gtr (.t 28) (.c (.i .u64 1152921504606846976))),(some (27,false)),[]⟩,⟨(some 30),(.pk (.t 27) (.c (.b true)) (.t 29)),none,[]⟩,⟨(some 31),(.mv (.t 30)),none,[]⟩,⟨(some 32),(.mv (.t 3)),(some (31,false)),[]⟩,⟨(some 33),(.bi .lss (.t 32) (.c (.i .i64 0))),(some (31,false)),[]⟩,⟨(some 34),(.pk (.t 31) (.c (.b true)) (.t 33)),none,[]⟩,⟨(some 35),(.mv (.t 34)),none,[]⟩,⟨(some 36),(.mv (.t 4)),(some (35,false)),[]⟩,⟨(some 37),(.bi .lss (.t 36) (.c (.i .i64 0))),(some (35,false)),[]⟩,⟨(some 38),(.pk (.t 35) (.c (.b true)) (.t 37)),none,[]⟩,⟨(some 39),(.mv (.t 38)),none,[]⟩,⟨(some 40),(.mv (.t 4)),(some (39,false)),[]⟩,⟨(some 41),(.mv (.t 3)),(some (39,false)),[]⟩,⟨(some 42),(.bi .gtr (.t 40) (.t 41)),(some (39,false)),[]⟩,⟨(some 43),(.pk (.t 39) (.c (.b true)) (.t 42)),none,[]⟩,⟨(some 44),(.mv (.t 43)),none,[]⟩,⟨(some 45),(.mv (.t 5)),(some (44,false)),[]⟩,⟨(some 46),(.lns false (.t 45)),(some (44,false)),[]⟩,⟨(some 47),(.mv (.t 3)),(some (44,false)),[]⟩,⟨(some 48),(.mv (.t 4)),(some (44,false)),[]⟩,⟨(some 49),(.bi .sub (.t 47) (.t 48)),(some (44,false)),[]⟩,⟨(some 50),(.bi .gtr (.t 46) (.t 49)),(some (44,false)),[]⟩,⟨(some 51),(.pk (.t 44) (.c (.b true)) (.t 50)),none,[]⟩])
 (.cond (.t 51) (.seq (.reg [⟨(some 12),(.mv (.c (.i .i64 0))),none,[]⟩,⟨(some 13),(.mv (.c (.b false))),none,[]⟩,⟨(some 14),(.mv (.c (.i .i64 1))),none,[]⟩])
 .ret) .skip))
 (.seq (.blk 0 (.seq (.reg [⟨(some 53),(.mv (.t 0)),none,[]⟩,⟨(some 54),(.eq false .ptr (.t 53) (.c .np)),none,[]⟩,⟨(some 55),(.mv (.t 54)),none,[]⟩,⟨(some 56),(.mv (.t 0)),(some (55,false)),[]⟩,⟨(some 57),(.nc (.t 56)),(some (55,false)),[]⟩,⟨(some 58),(.fa (.t 57) 1),(some (55,false)),[]⟩,⟨(some 59),(.ld (.t 58)),(some (55,false)),[]⟩,⟨(some 60),(.eq false .ptr (.t 59) (.c .np)),(some (55,false)),[]⟩,⟨(some 61),(.pk (.t 55) (.c (.b true)) (.t 60)),none,[]⟩,⟨(some 52),(.mv (.t 61)),none,[]⟩])
 (.cond (.t 52) (.seq (.reg [⟨(some 12),(.mv (.c (.i .i64 0))),none,[]⟩,⟨(some 13),(.mv (.c (.b false))),none,[]⟩,⟨(some 14),(.mv (.c (.i .i64 4))),none,[]⟩])
 .ret) (.seq (.reg [⟨(some 63),(.mv (.t 0)),none,[]⟩,⟨(some 64),(.mv (.t 1)),none,[]⟩,⟨(some 65),(.mv (.t 2)),none,[]⟩,⟨(some 66),(.call 174 [(.t 63),(.t 64),(.t 65)]),none,[]⟩,⟨(some 62),(.mv (.t 66)),none,[]⟩])
 (.cond (.t 62) (.seq (.reg [⟨(some 12),(.mv (.c (.i .i64 0))),none,[]⟩,⟨(some 13),(.mv (.c (.b true))),none,[]⟩,⟨(some 14),(.mv (.c (.i .i64 0))),none,[]⟩])
 .ret) (.seq (.reg [⟨(some 68),(.mv (.t 3)),none,[]⟩,⟨(some 69),(.mv (.t 0)),none,[]⟩,⟨(some 70),(.nc (.t 69)),none,[]⟩,⟨(some 71),(.fa (.t 70) 0),none,[]⟩,⟨(some 72),(.ld (.t 71)),none,[]⟩,⟨(some 73),(.bi .gtr (.t 68) (.t 72)),none,[]⟩,⟨(some 67),(.mv (.t 73)),none,[]⟩])
 (.cond (.t 67) (.seq (.reg [⟨(some 12),(.mv (.c (.i .i64 0))),none,[]⟩,⟨(some 13),(.mv (.c (.b false))),none,[]⟩,⟨(some 14),(.mv (.c (.i .i64 3))),none,[]⟩])
 .ret) .skip)))))))
 (.seq (.reg [⟨(some 75),(.mv (.t 0)),none,[]⟩,⟨(some 76),(.mv (.t 1)),none,[]⟩,⟨(some 77),(.mv (.t 2)),none,[]⟩,⟨(some 78),(.bl [(.i .i64 0),(.i .u64 0)] [(0,1,(.t 76)),(1,1,(.t 77))]),none,[]⟩,⟨(some 79),(.mv (.t 3)),none,[]⟩,⟨(some 80),(.call 175 [(.t 75),(.t 78),(.t 79)]),none,[]⟩,⟨(some 74),(.mv (.t 80)),none,[]⟩,⟨(some 81),(.ex (.t 74) 0),none,[]⟩,⟨(some 82),(.ex (.t 74) 1),none,[]⟩,⟨(some 15),(.mv (.t 81)),none,[]⟩,⟨(some 14),(.mv (.t 82)),none,[]⟩])
 (.seq (.seq (.reg [⟨(some 83),(.mv (.t 14)),none,[]⟩,⟨(some 84),(.bi .neq (.t 83) (.c (.i .i64 0))),none,[]⟩])
 (.cond (.t 84) (.seq (.reg [⟨(some 85),(.mv (.t 14)),none,[]⟩,⟨(some 12),(.mv (.c (.i .i64 0))),none,[]⟩,⟨(some 13),(.mv (.c (.b false))),none,[]⟩,⟨(some 14),(.mv (.t 85)),none,[]⟩])
 .ret) .skip))
 (.seq (.seq (.reg [⟨(some 87),(.mv (.t 15)),none,[]⟩,⟨(some 88),(.mv (.t 4)),none,[]⟩,⟨(some 89),(.mv (.t 5)),none,[]⟩,⟨(some 90),(.call 176 [(.t 87),(.t 88),(.t 89)]),none,[]⟩,⟨(some 86),(.mv (.t 90)),none,[]⟩,⟨(some 91),(.ex (.t 86) 0),none,[]⟩,⟨(some 92),(.ex (.t 86) 1),none,[]⟩,⟨(some 12),(.mv (.t 91)),none,[]⟩,⟨(some 14),(.mv (.t 92)),none,[]⟩])
 (.seq (.reg [⟨(some 93),(.mv (.t 14)),none,[]⟩,⟨(some 94),(.bi .neq (.t 93) (.c (.i .i64 0))),none,[]⟩])
 (.cond (.t 94) (.seq (.reg [⟨(some 12),(.mv (.c (.i .i64 0))),none,[]⟩,⟨(some 13),(.mv (.c (.b false))),none,[]⟩,⟨(some 14),(.mv (.c (.i .i64 2))),none,[]⟩])
 .ret) .skip)))
 (.seq (.reg [⟨(some 96),(.mv (.t 15)),none,[]⟩,⟨(some 97),(.call 177 [(.t 96)]),none,[]⟩,⟨(some 95),(.mv (.t 97)),none,[]⟩,⟨(some 98),(.ex (.t 95) 0),none,[]⟩,⟨(some 99),(.ex (.t 95) 1),none,[]⟩,⟨(some 16),(.mv (.t 98)),none,[]⟩,⟨(some 13),(.mv (.t 99)),none,[]⟩])
 (.seq (.seq (.reg [⟨(some 100),(.mv (.t 13)),none,[]⟩])
 (.cond (.t 100) (.seq (.reg [⟨(some 101),(.mv (.t 0)),none,[]⟩,⟨(some 102),(.mv (.t 1)),none,[]⟩,⟨(some 103),(.mv (.t 2)),none,[]⟩,⟨(some 104),(.call 147 [(.t 101),(.t 102),(.t 103)]),none,[]⟩])
 (.seq (.reg [⟨(some 105),(.mv (.t 0)),none,[]⟩,⟨(some 106),(.mv (.t 1)),none,[]⟩,⟨(some 107),(.nc (.t 105)),none,[]⟩,⟨(some 108),(.fa (.t 107) 2),none,[]⟩,⟨(some 109),(.iaa 8 1 (.t 108) (.t 106)),none,[]⟩,⟨(some 110),(.ld (.t 109)),none,[]⟩,⟨(some 111),(.mv (.t 2)),none,[]⟩,⟨(some 112),(.call 157 [(.t 110),(.t 111)]),none,[]⟩])
 (.reg [⟨(some 113),(.mv (.t 0)),none,[]⟩,⟨(some 114),(.mv (.t 0)),none,[]⟩,⟨(some 115),(.nc (.t 114)),none,[]⟩,⟨(some 116),(.fa (.t 115) 19),none,[]⟩,⟨(some 117),(.ld (.t 116)),none,[]⟩,⟨(some 118),(.mv (.t 1)),none,[]⟩,⟨(some 119),(.mv (.t 2)),none,[]⟩,⟨(some 120),(.mv (.t 16)),none,[]⟩,⟨(some 121),(.bl [(.i .i64 0),(.i .u64 0),.nsl] [(0,1,(.t 118)),(1,1,(.t 119)),(2,1,(.t 120))]),none,[]⟩,⟨(some 122),(.bs 1 [(.i .i64 0),(.i .u64 0),.nsl] [(0,3,(.t 121))]),none,[]⟩,⟨(some 123),(.ap 3 (.t 117) (.t 122)),none,[]⟩,⟨(some 124),(.nc (.t 113)),none,[]⟩,⟨(some 125),(.fa (.t 124) 19),none,[]⟩,⟨none,(.st (.t 125) (.t 123) 1),none,[]⟩]))) .skip))
 (.seq (.reg [⟨(some 126),(.mv (.t 12)),none,[]⟩,⟨(some 127),(.mv (.t 13)),none,[]⟩,⟨(some 12),(.mv (.t 126)),none,[]⟩,⟨(some 13),(.mv (.t 127)),none,[]⟩,⟨(some 14),(.mv (.c (.i .i64 0))),none,[]⟩])
 .ret))))))))) }
noncomputable def f143 : AFn := { np := 2, nt := 32, res := [], body :=
 (.seq (.reg [⟨(some 3),(.bx (.t 1)),none,[]⟩])
 (.seq (.drw [⟨(some 4),(.fa (.t 3) 4),none,[]⟩,⟨(some 5),(.ld (.t 4)),none,[]⟩,⟨(some 6),(.mv (.t 0)),none,[]⟩,⟨(some 7),(.fa (.t 3) 1),none,[]⟩,⟨(some 8),(.ld (.t 7)),none,[]⟩,⟨(some 9),(.nc (.t 6)),none,[]⟩,⟨(some 10),(.fa (.t 9) 32),none,[]⟩,⟨(some 11),(.iaa 8 1 (.t 10) (.t 8)),none,[]⟩,⟨(some 12),(.ld (.t 11)),none,[]⟩,⟨(some 13),(.bi .geq (.t 5) (.t 12)),none,[]⟩,⟨(some 14),(.mv (.t 13)),none,[]⟩,⟨(some 15),(.mv (.t 0)),(some (14,true)),[]⟩,⟨(some 16),(.nc (.t 15)),(some (14,true)),[]⟩,⟨(some 17),(.fa (.t 16) 22),(some (14,true)),[]⟩,⟨(some 18),(.ld (.t 17)),(some (14,true)),[]⟩,⟨(some 19),(.ldn (.t 3) 10),(some (14,true)),[]⟩,⟨(some 20),(.call 103 [(.t 19)]),(some (14,true)),[(18,(.ld (.t 17)),(some (14,true)))]⟩,⟨(some 21),(.lk (.st [(0,1,false,.int),(1,1,false,.int)]) (.i .i64 0) (.t 18) (.t 20) false),(some (14,true)),[]⟩,⟨(some 22),(.bi .eql (.t 21) (.c (.i .i64 0))),(some (14,true)),[]⟩,⟨(some 23),(.pk (.t 14) (.t 22) (.c (.b false))),none,[]⟩])
 (.cond (.t 23) (.reg [⟨(some 24),(.mv (.t 0)),none,[]⟩,⟨(some 25),(.mv (.t 0)),none,[]⟩,⟨(some 26),(.fa (.t 3) 1),none,[]⟩,⟨(some 27),(.ld (.t 26)),none,[]⟩,⟨(some 28),(.fa (.t 3) 4),none,[]⟩,⟨(some 29),(.ld (.t 28)),none,[]⟩,⟨(some 30),(.call 84 [(.t 25),(.c (.i .i64 5)),(.t 27),(.t 29)]),none,[]⟩,⟨(some 31),(.call 83 [(.t 24),(.t 30)]),none,[]⟩]) .skip))) }
noncomputable def f144 : AFn := { np := 2, nt := 22, res := [.t 4], body :=
 (.seq (.reg [⟨(some 4),(.mv (.c (.b false))),none,[]⟩])
 (.seq (.reg [⟨(some 5),(.mv (.t 0)),none,[]⟩,⟨(some 6),(.eq true .ptr (.t 5) (.c .np)),none,[]⟩,⟨(some 7),(.mv (.t 6)),none,[]⟩,⟨(some 8),(.mv (.t 0)),(some (7,true)),[]⟩,⟨(some 9),(.nc (.t 8)),(some (7,true)),[]⟩,⟨(some 10),(.fa (.t 9) 1),(some (7,true)),[]⟩,⟨(some 11),(.ld (.t 10)),(some (7,true)),[]⟩,⟨(some 12),(.eq true .ptr (.t 11) (.c .np)),(some (7,true)),[]⟩,⟨(some 13),(.pk (.t 7) (.t 12) (.c (.b false))),none,[]⟩,⟨(some 14),(.mv (.t 13)),none,[]⟩,⟨(some 15),(.mv (.t 1)),(some (14,true)),[]⟩,⟨(some 16),(.bi .geq (.t 15) (.c (.i .i64 0))),(some (14,true)),[]⟩,⟨(some 17),(.pk (.t 14) (.t 16) (.c (.b false))),none,[]⟩,⟨(some 18),(.mv (.t 17)),none,[]⟩,⟨(some 19),(.mv (.t 1)),(some (18,true)),[]⟩,⟨(some 20),(.bi .lss (.t 19) (.c (.i .i64 8))),(some (18,true)),[]⟩,⟨(some 21),(.pk (.t 18) (.t 20) (.c (.b false))),none,[]⟩,⟨(some 4),(.mv (.t 21)),none,[]⟩])
 .ret)) }
noncomputable def f147 : AFn := { np := 3, nt := 32, res := [.t 6], body :=
 (.seq (.reg [⟨(some 6),(.mv (.c (.b false))),none,[]⟩])
 (.seq (.seq (.reg [⟨(some 7),(.mv (.t 0)),none,[]⟩,⟨(some 8),(.mv (.t 1)),none,[]⟩,⟨(some 9),(.call 144 [(.t 7),(.t 8)]),none,[]⟩,⟨(some 10),(.un .not (.t 9)),none,[]⟩,⟨(some 11),(.mv (.t 10)),none,[]⟩,⟨(some 12),(.mv (.t 0)),(some (11,false)),[]⟩,⟨(some 13),(.nc (.t 12)),(some (11,false)),[]⟩,⟨(some 14),(.fa (.t 13) 1),(some (11,false)),[]⟩,⟨(some 15),(.ld (.t 14)),(some (11,false)),[]⟩,⟨(some 16),(.mv (.t 1)),(some (11,false)),[]⟩,⟨(some 17),(.mv (.t 2)),(some (11,false)),[]⟩,⟨(some 18),(.bl [(.i .i64 0),(.i .u64 0)] [(0,1,(.t 16)),(1,1,(.t 17))]),(some (11,false)),[]⟩,⟨(some 19),(.call 182 [(.t 15),(.t 18)]),(some (11,false)),[]⟩,⟨(some 20),(.bi .neq (.t 19) (.c (.i .i64 0))),(some (11,false)),[]⟩,⟨(some 21),(.pk (.t 11) (.c (.b true)) (.t 20)),none,[]⟩])
 (.cond (.t 21) (.seq (.reg [⟨(some 6),(.mv (.c (.b false))),none,[]⟩])
 .ret) .skip))
 (.seq (.drw [⟨(some 22),(.mv (.t 0)),none,[]⟩,⟨(some 23),(.mv (.t 1)),none,[]⟩,⟨(some 24),(.nc (.t 22)),none,[]⟩,⟨(some 25),(.fa (.t 24) 10),none,[]⟩,⟨(some 26),(.iaa 8 1 (.t 25) (.t 23)),none,[]⟩,⟨(some 27),(.ld (.t 26)),none,[]⟩,⟨(some 28),(.bi .sub (.t 27) (.c (.i .i64 1))),none,[]⟩,⟨(some 29),(.nc (.t 22)),none,[]⟩,⟨(some 30),(.fa (.t 29) 10),none,[]⟩,⟨(some 31),(.iaa 8 1 (.t 30) (.t 23)),none,[]⟩,⟨none,(.st (.t 31) (.t 28) 1),none,[]⟩])
 (.seq (.reg [⟨(some 6),(.mv (.c (.b true))),none,[]⟩])
 .ret)))) }
noncomputable def f148 : AFn := { np := 1, nt := 5, res := [.t 2], body :=
 (.seq (.reg [⟨(some 2),(.mv (.c .nsl)),none,[]⟩])
 (.seq (.reg [⟨(some 3),(.mv (.t 0)),none,[]⟩,⟨(some 4),(.call 183 [(.c .nsl),(.t 3)]),none,[]⟩,⟨(some 2),(.mv (.t 4)),none,[]⟩])
 .ret)) }
noncomputable def f149 : AFn := { np := 1, nt := 4, res := [.t 2], body :=
 (.seq (.reg [⟨(some 1),(.bx (.t 0)),none,[]⟩,⟨(some 2),(.mv (.c .nf)),none,[]⟩])
 (.seq (.reg [⟨(some 3),(.mkf 184 [] [(.t 1)]),none,[]⟩,⟨(some 2),(.mv (.t 3)),none,[]⟩])
 .ret)) }
noncomputable def f150 : AFn := { np := 2, nt := 14, res := [], body :=
 (.seq (.reg [⟨(some 5),(.mv (.t 0)),none,[]⟩,⟨(some 6),(.lns false (.t 5)),none,[]⟩,⟨(some 4),(.mv (.t 6)),none,[]⟩])
 (.reg [⟨(some 7),(.mv (.t 0)),none,[]⟩,⟨(some 8),(.mv (.t 4)),none,[]⟩,⟨(some 9),(.mv (.t 4)),none,[]⟩,⟨(some 10),(.cvi .u64 (.t 9)),none,[]⟩,⟨(some 11),(.call 186 [(.t 10)]),none,[]⟩,⟨(some 12),(.mv (.t 1)),none,[]⟩,⟨(some 13),(.call 185 [(.t 7),(.c (.i .i64 0)),(.t 8),(.t 11),(.t 12)]),none,[]⟩])) }
noncomputable def f154 : AFn := { np := 2, nt := 31, res := [.t 4], body :=
 (.seq (.reg [⟨(some 4),(.mv (.c (.b false))),none,[]⟩])
 (.seq (.seq (.reg [⟨(some 7),(.mv (.t 0)),none,[]⟩,⟨(some 8),(.eq false .ptr (.t 7) (.c .np)),none,[]⟩,⟨(some 9),(.mv (.t 8)),none,[]⟩,⟨(some 10),(.mv (.t 1)),(some (9,false)),[]⟩,⟨(some 11),(.bi .eql (.t 10) (.c (.i .u64 0))),(some (9,false)),[]⟩,⟨(some 12),(.pk (.t 9) (.c (.b true)) (.t 11)),none,[]⟩])
 (.cond (.t 12) (.seq (.reg [⟨(some 4),(.mv (.c (.b false))),none,[]⟩])
 .ret) .skip))
 (.seq (.reg [⟨(some 14),(.mv (.t 0)),none,[]⟩,⟨(some 15),(.nc (.t 14)),none,[]⟩,⟨(some 16),(.fa (.t 15) 2),none,[]⟩,⟨(some 17),(.ld (.t 16)),none,[]⟩,⟨(some 18),(.mv (.t 1)),none,[]⟩,⟨(some 19),(.call 188 [(.t 17),(.t 18)]),none,[]⟩,⟨(some 13),(.mv (.t 19)),none,[]⟩,⟨(some 20),(.ex (.t 13) 0),none,[]⟩,⟨(some 21),(.ex (.t 13) 1),none,[]⟩,⟨(some 5),(.mv (.t 20)),none,[]⟩,⟨(some 6),(.mv (.t 21)),none,[]⟩])
 (.seq (.reg [⟨(some 22),(.mv (.t 6)),none,[]⟩,⟨(some 23),(.mv (.t 22)),none,[]⟩,⟨(some 24),(.mv (.t 1)),(some (23,false)),[]⟩,⟨(some 25),(.mv (.t 0)),(some (23,false)),[]⟩,⟨(some 26),(.nc (.t 25)),(some (23,false)),[]⟩,⟨(some 27),(.fa (.t 26) 1),(some (23,false)),[]⟩,⟨(some 28),(.ld (.t 27)),(some (23,false)),[]⟩,⟨(some 29),(.bi .lss (.t 24) (.t 28)),(some (23,false)),[]⟩,⟨(some 30),(.pk (.t 23) (.c (.b true)) (.t 29)),none,[]⟩,⟨(some 4),(.mv (.t 30)),none,[]⟩])
 .ret)))) }
noncomputable def f155 : AFn := { np := 1, nt := 10, res := [.t 2], body :=
 (.seq (.reg [⟨(some 2),(.mv (.c (.i .i64 0))),none,[]⟩])
 (.seq (.seq (.reg [⟨(some 3),(.mv (.t 0)),none,[]⟩,⟨(some 4),(.eq false .ptr (.t 3) (.c .np)),none,[]⟩])
 (.cond (.t 4) (.seq (.reg [⟨(some 2),(.mv (.c (.i .i64 0))),none,[]⟩])
 .ret) .skip))
 (.seq (.reg [⟨(some 5),(.mv (.t 0)),none,[]⟩,⟨(some 6),(.nc (.t 5)),none,[]⟩,⟨(some 7),(.fa (.t 6) 2),none,[]⟩,⟨(some 8),(.ld (.t 7)),none,[]⟩,⟨(some 9),(.lns false (.t 8)),none,[]⟩,⟨(some 2),(.mv (.t 9)),none,[]⟩])
 .ret))) }
noncomputable def f157 : AFn := { np := 2, nt := 67, res := [.t 4], body :=
 (.seq (.reg [⟨(some 4),(.mv (.c (.i .i64 0))),none,[]⟩])
 (.seq (.blk 0 (.seq (.reg [⟨(some 8),(.mv (.t 1)),none,[]⟩,⟨(some 9),(.bi .eql (.t 8) (.c (.i .u64 0))),none,[]⟩,⟨(some 10),(.mv (.t 9)),none,[]⟩,⟨(some 11),(.mv (.t 1)),(some (10,false)),[]⟩,⟨(some 12),(.bi .gtr (.t 11) (.c (.i .u64 1152921504606846976))),(some (10,false)),[]⟩,⟨(some 13),(.pk (.t 10) (.c (.b true)) (.t 12)),none,[]⟩,⟨(some 7),(.mv (.t 13)),none,[]⟩])
 (.cond (.t 7) (.seq (.reg [⟨(some 4),(.mv (.c (.i .i64 1))),none,[]⟩])
 .ret) (.seq (.reg [⟨(some 15),(.mv (.t 0)),none,[]⟩,⟨(some 16),(.mv (.t 1)),none,[]⟩,⟨(some 17),(.call 154 [(.t 15),(.t 16)]),none,[]⟩,⟨(some 14),(.mv (.t 17)),none,[]⟩])
 (.cond (.t 14) (.seq (.reg [⟨(some 4),(.mv (.c (.i .i64 0))),none,[]⟩])
 .ret) (.seq (.drw [⟨(some 19),(.mv (.t 0)),none,[]⟩,⟨(some 20),(.eq false .ptr (.t 19) (.c .np)),none,[]⟩,⟨(some 21),(.mv (.t 20)),none,[]⟩,⟨(some 22),(.mv (.t 0)),(some (21,false)),[]⟩,⟨(some 23),(.nc (.t 22)),(some (21,false)),[]⟩,⟨(some 24),(.fa (.t 23) 2),(some (21,false)),[]⟩,⟨(some 25),(.ld (.t 24)),(some (21,false)),[]⟩,⟨(some 26),(.lns false (.t 25)),(some (21,false)),[]⟩,⟨(some 27),(.mv (.t 0)),(some (21,false)),[]⟩,⟨(some 28),(.nc (.t 27)),(some (21,false)),[]⟩,⟨(some 29),(.fa (.t 28) 0),(some (21,false)),[]⟩,⟨(some 30),(.ld (.t 29)),(some (21,false)),[]⟩,⟨(some 31),(.bi .geq (.t 26) (.t 30)),(some (21,false)),[]⟩,⟨(some 32),(.mv (.t 31)),(some (21,false)),[]⟩,⟨(some 33),(.mv (.t 1)),(some (32,true)),[]⟩,⟨(some 34),(.mv (.t 0)),(some (32,true)),[]⟩,⟨(some 35),(.nc (.t 34)),(some (32,true)),[]⟩,⟨(some 36),(.fa (.t 35) 1),(some (32,true)),[]⟩,⟨(some 37),(.ld (.t 36)),(some (32,true)),[]⟩,⟨(some 38),(.bi .neq (.t 33) (.t 37)),(some (32,true)),[]⟩,⟨(some 39),(.pk (.t 32) (.t 38) (.c (.b false))),(some (21,false)),[]⟩,⟨(some 40),(.pk (.t 21) (.c (.b true)) (.t 39)),none,[]⟩,⟨(some 18),(.mv (.t 40)),none,[]⟩])
 (.cond (.t 18) (.seq (.reg [⟨(some 4),(.mv (.c (.i .i64 4))),none,[]⟩])
 .ret) .skip)))))))
 (.seq (.reg [⟨(some 42),(.mv (.t 0)),none,[]⟩,⟨(some 43),(.nc (.t 42)),none,[]⟩,⟨(some 44),(.fa (.t 43) 2),none,[]⟩,⟨(some 45),(.ld (.t 44)),none,[]⟩,⟨(some 46),(.mv (.t 1)),none,[]⟩,⟨(some 47),(.call 188 [(.t 45),(.t 46)]),none,[]⟩,⟨(some 41),(.mv (.t 47)),none,[]⟩,⟨(some 48),(.ex (.t 41) 0),none,[]⟩,⟨(some 49),(.ex (.t 41) 1),none,[]⟩,⟨(some 5),(.mv (.t 48)),none,[]⟩,⟨(some 6),(.mv (.t 49)),none,[]⟩])
 (.seq (.reg [⟨(some 50),(.mv (.t 0)),none,[]⟩,⟨(some 51),(.mv (.t 0)),none,[]⟩,⟨(some 52),(.nc (.t 51)),none,[]⟩,⟨(some 53),(.fa (.t 52) 2),none,[]⟩,⟨(some 54),(.ld (.t 53)),none,[]⟩,⟨(some 55),(.mv (.t 5)),none,[]⟩,⟨(some 56),(.mv (.t 1)),none,[]⟩,⟨(some 57),(.bs 1 [(.i .u64 0)] [(0,1,(.t 56))]),none,[]⟩,⟨(some 58),(.call 189 [(.t 54),(.t 55),(.t 57)]),none,[]⟩,⟨(some 59),(.nc (.t 50)),none,[]⟩,⟨(some 60),(.fa (.t 59) 2),none,[]⟩,⟨none,(.st (.t 60) (.t 58) 1),none,[]⟩])
 (.seq (.reg [⟨(some 61),(.mv (.t 0)),none,[]⟩,⟨(some 62),(.mv (.t 0)),none,[]⟩,⟨(some 63),(.nc (.t 62)),none,[]⟩,⟨(some 64),(.fa (.t 63) 1),none,[]⟩,⟨(some 65),(.ld (.t 64)),none,[]⟩,⟨(some 66),(.call 178 [(.t 61),(.t 65)]),none,[]⟩])
 (.seq (.reg [⟨(some 4),(.mv (.c (.i .i64 0))),none,[]⟩])
 .ret)))))) }
noncomputable def f158 : AFn := { np := 3, nt := 56, res := [.t 6], body :=
 (.seq (.reg [⟨(some 5),(.bx (.t 2)),none,[]⟩,⟨(some 6),(.mv (.c .nsl)),none,[]⟩])
 (.seq (.drw [⟨(some 7),(.fa (.t 5) 1),none,[]⟩,⟨(some 8),(.ld (.t 7)),none,[]⟩,⟨(some 9),(.mv (.t 0)),none,[]⟩,⟨(some 10),(.nc (.t 9)),none,[]⟩,⟨(some 11),(.fa (.t 10) 4),none,[]⟩,⟨(some 12),(.ld (.t 11)),none,[]⟩,⟨(some 13),(.mn [(.t 8),(.t 12)]),none,[]⟩,⟨(some 14),(.fa (.t 5) 1),none,[]⟩,⟨none,(.st (.t 14) (.t 13) 1),none,[]⟩])
 (.seq (.seq (.reg [⟨(some 15),(.mv (.t 0)),none,[]⟩,⟨(some 16),(.nc (.t 15)),none,[]⟩,⟨(some 17),(.fa (.t 16) 5),none,[]⟩,⟨(some 18),(.ld (.t 17)),none,[]⟩,⟨(some 19),(.un .not (.t 18)),none,[]⟩,⟨(some 20),(.mv (.t 19)),none,[]⟩,⟨(some 21),(.fa (.t 5) 0),(some (20,false)),[]⟩,⟨(some 22),(.ld (.t 21)),(some (20,false)),[]⟩,⟨(some 23),(.fa (.t 5) 1),(some (20,false)),[]⟩,⟨(some 24),(.ld (.t 23)),(some (20,false)),[]⟩,⟨(some 25),(.bi .gtr (.t 22) (.t 24)),(some (20,false)),[]⟩,⟨(some 26),(.pk (.t 20) (.c (.b true)) (.t 25)),none,[]⟩,⟨(some 27),(.mv (.t 26)),none,[]⟩,⟨(some 28),(.fa (.t 5) 0),(some (27,false)),[]⟩,⟨(some 29),(.ld (.t 28)),(some (27,false)),[]⟩,⟨(some 30),(.fa (.t 5) 1),(some (27,false)),[]⟩,⟨(some 31),(.ld (.t 30)),(some (27,false)),[]⟩,⟨(some 32),(.bi .eql (.t 29) (.t 31)),(some (27,false)),[]⟩,⟨(some 33),(.mv (.t 32)),(some (27,false)),[]⟩,⟨(some 34),(.mv (.t 0)),(some (33,true)),[]⟩,⟨(some 35),(.nc (.t 34)),(some (33,true)),[]⟩,⟨(some 36),(.fa (.t 35) 2),(some (33,true)),[]⟩,⟨(some 37),(.ld (.t 36)),(some (33,true)),[]⟩,⟨(some 38),(.lns false (.t 37)),(some (33,true)),[]⟩,⟨(some 39),(.bi .gtr (.t 38) (.c (.i .i64 0))),(some (33,true)),[]⟩,⟨(some 40),(.pk (.t 33) (.t 39) (.c (.b false))),(some (27,false)),[]⟩,⟨(some 41),(.pk (.t 27) (.c (.b true)) (.t 40)),none,[]⟩,⟨(some 42),(.mv (.t 41)),none,[]⟩,⟨(some 43),(.mv (.t 1)),(some (42,false)),[]⟩,⟨(some 44),(.lns false (.t 43)),(some (42,false)),[]⟩,⟨(some 45),(.bi .geq (.t 44) (.c (.i .i64 100))),(some (42,false)),[]⟩,⟨(some 46),(.pk (.t 42) (.c (.b true)) (.t 45)),none,[]⟩])
 (.cond (.t 46) (.seq (.reg [⟨(some 47),(.mv (.t 1)),none,[]⟩,⟨(some 6),(.mv (.t 47)),none,[]⟩])
 .ret) .skip))
 (.seq (.seq (.reg [⟨(some 48),(.mv (.t 1)),none,[]⟩,⟨(some 49),(.mkf 191 [] [(.t 5)]),none,[]⟩,⟨(some 50),(.call 190 [(.t 48),(.t 49)]),none,[]⟩])
 (.cond (.t 50) (.seq (.reg [⟨(some 51),(.mv (.t 1)),none,[]⟩,⟨(some 6),(.mv (.t 51)),none,[]⟩])
 .ret) .skip))
 (.seq (.reg [⟨(some 52),(.mv (.t 1)),none,[]⟩,⟨(some 53),(.ldn (.t 5) 2),none,[]⟩,⟨(some 54),(.bs 1 [(.i .i64 0),(.i .i64 0)] [(0,2,(.t 53))]),none,[]⟩,⟨(some 55),(.ap 2 (.t 52) (.t 54)),none,[]⟩,⟨(some 6),(.mv (.t 55)),none,[]⟩])
 .ret))))) }
noncomputable def f159 : AFn := { np := 5, nt := 24, res := [.t 10], body :=
 (.seq (.reg [⟨(some 10),(.mv (.c .nsl)),none,[]⟩])
 (.seq (.reg [⟨(some 14),(.mv (.t 0)),none,[]⟩,⟨(some 15),(.mv (.t 1)),none,[]⟩,⟨(some 16),(.mv (.t 2)),none,[]⟩,⟨(some 17),(.call 192 [(.t 14),(.t 15),(.t 16)]),none,[]⟩,⟨(some 13),(.mv (.t 17)),none,[]⟩,⟨(some 18),(.ex (.t 13) 0),none,[]⟩,⟨(some 19),(.ex (.t 13) 1),none,[]⟩,⟨(some 11),(.mv (.t 18)),none,[]⟩,⟨(some 12),(.mv (.t 19)),none,[]⟩])
 (.seq (.reg [⟨(some 20),(.mv (.t 11)),none,[]⟩,⟨(some 21),(.mv (.t 3)),none,[]⟩,⟨(some 22),(.mv (.t 4)),none,[]⟩,⟨(some 23),(.call 193 [(.t 20),(.t 21),(.t 22)]),none,[]⟩,⟨(some 10),(.mv (.t 23)),none,[]⟩])
 .ret))) }
noncomputable def f161 : AFn := { np := 2, nt := 23, res := [.t 4], body :=
 (.seq (.reg [⟨(some 3),(.bx (.t 1)),none,[]⟩,⟨(some 4),(.mv (.c .nsl)),none,[]⟩])
 (.seq (.drw [⟨(some 7),(.fa (.t 3) 0),none,[]⟩,⟨(some 8),(.ld (.t 7)),none,[]⟩,⟨(some 9),(.mx [(.t 8),(.c (.i .i64 0))]),none,[]⟩,⟨(some 10),(.fa (.t 3) 1),none,[]⟩,⟨(some 11),(.ld (.t 10)),none,[]⟩,⟨(some 12),(.mv (.t 0)),none,[]⟩,⟨(some 13),(.lns false (.t 12)),none,[]⟩,⟨(some 14),(.mn [(.t 11),(.t 13)]),none,[]⟩,⟨(some 5),(.mv (.t 9)),none,[]⟩,⟨(some 6),(.mv (.t 14)),none,[]⟩])
 (.seq (.seq (.reg [⟨(some 15),(.mv (.t 5)),none,[]⟩,⟨(some 16),(.mv (.t 6)),none,[]⟩,⟨(some 17),(.bi .geq (.t 15) (.t 16)),none,[]⟩])
 (.cond (.t 17) (.seq (.reg [⟨(some 4),(.mv (.c .nsl)),none,[]⟩])
 .ret) .skip))
 (.seq (.reg [⟨(some 18),(.mv (.t 0)),none,[]⟩,⟨(some 19),(.mv (.t 5)),none,[]⟩,⟨(some 20),(.mv (.t 6)),none,[]⟩,⟨(some 21),(.sll 1 (.t 18) (some (.t 19)) (some (.t 20)) none),none,[]⟩,⟨(some 22),(.call 44 [(.t 21)]),none,[]⟩,⟨(some 4),(.mv (.t 22)),none,[]⟩])
 .ret)))) }
noncomputable def f162 : AFn := { np := 2, nt := 26, res := [.t 4], body :=
 (.seq (.reg [⟨(some 4),(.mv (.c (.i .i64 0))),none,[]⟩])
 (.seq (.seq (.reg [⟨(some 5),(.mv (.t 0)),none,[]⟩,⟨(some 6),(.bi .lss (.t 5) (.c (.i .i64 0))),none,[]⟩,⟨(some 7),(.mv (.t 6)),none,[]⟩,⟨(some 8),(.mv (.t 0)),(some (7,false)),[]⟩,⟨(some 9),(.bi .gtr (.t 8) (.c (.i .i64 1073741824))),(some (7,false)),[]⟩,⟨(some 10),(.pk (.t 7) (.c (.b true)) (.t 9)),none,[]⟩,⟨(some 11),(.mv (.t 10)),none,[]⟩,⟨(some 12),(.mv (.t 1)),(some (11,false)),[]⟩,⟨(some 13),(.bi .lss (.t 12) (.c (.i .i64 1))),(some (11,false)),[]⟩,⟨(some 14),(.pk (.t 11) (.c (.b true)) (.t 13)),none,[]⟩,⟨(some 15),(.mv (.t 14)),none,[]⟩,⟨(some 16),(.mv (.t 1)),(some (15,false)),[]⟩,⟨(some 17),(.bi .gtr (.t 16) (.c (.i .i64 1048576))),(some (15,false)),[]⟩,⟨(some 18),(.pk (.t 15) (.c (.b true)) (.t 17)),none,[]⟩])
 (.cond (.t 18) (.seq (.reg [⟨(some 4),(.mv (.c (.i .i64 0))),none,[]⟩])
 .ret) .skip))
 (.seq (.reg [⟨(some 19),(.mv (.t 0)),none,[]⟩,⟨(some 20),(.mv (.t 1)),none,[]⟩,⟨(some 21),(.bi .add (.t 19) (.t 20)),none,[]⟩,⟨(some 22),(.bi .sub (.t 21) (.c (.i .i64 1))),none,[]⟩,⟨(some 23),(.mv (.t 1)),none,[]⟩,⟨(some 24),(.bi .quo (.t 22) (.t 23)),none,[]⟩,⟨(some 25),(.mx [(.t 24),(.c (.i .i64 1))]),none,[]⟩,⟨(some 4),(.mv (.t 25)),none,[]⟩])
 .ret))) }
noncomputable def f163 : AFn := { np := 3, nt := 36, res := [.t 6], body :=
 (.seq (.reg [⟨(some 6),(.mv (.c (.i .i64 0))),none,[]⟩])
 (.seq (.reg [⟨(some 11),(.mv (.t 0)),none,[]⟩,⟨(some 12),(.cvi .u64 (.t 11)),none,[]⟩,⟨(some 13),(.mv (.t 1)),none,[]⟩,⟨(some 14),(.cvi .u64 (.t 13)),none,[]⟩,⟨(some 15),(.call 194 [(.t 12),(.t 14)]),none,[]⟩,⟨(some 10),(.mv (.t 15)),none,[]⟩,⟨(some 16),(.ex (.t 10) 0),none,[]⟩,⟨(some 17),(.ex (.t 10) 1),none,[]⟩,⟨(some 7),(.mv (.t 16)),none,[]⟩,⟨(some 8),(.mv (.t 17)),none,[]⟩])
 (.seq (.seq (.reg [⟨(some 18),(.mv (.t 7)),none,[]⟩,⟨(some 19),(.mv (.t 2)),none,[]⟩,⟨(some 20),(.bi .shr (.t 18) (.t 19)),none,[]⟩,⟨(some 21),(.bi .gtr (.t 20) (.c (.i .u64 0))),none,[]⟩])
 (.cond (.t 21) (.seq (.reg [⟨(some 6),(.mv (.c (.i .i64 1125899906842624))),none,[]⟩])
 .ret) .skip))
 (.seq (.reg [⟨(some 22),(.mv (.t 8)),none,[]⟩,⟨(some 23),(.mv (.t 2)),none,[]⟩,⟨(some 24),(.bi .shr (.t 22) (.t 23)),none,[]⟩,⟨(some 9),(.mv (.t 24)),none,[]⟩])
 (.seq (.seq (.reg [⟨(some 25),(.mv (.t 2)),none,[]⟩,⟨(some 26),(.bi .gtr (.t 25) (.c (.i .i64 0))),none,[]⟩])
 (.cond (.t 26) (.reg [⟨(some 27),(.mv (.t 9)),none,[]⟩,⟨(some 28),(.mv (.t 7)),none,[]⟩,⟨(some 29),(.mv (.t 2)),none,[]⟩,⟨(some 30),(.bi .sub (.c (.i .i64 64)) (.t 29)),none,[]⟩,⟨(some 31),(.bi .shl (.t 28) (.t 30)),none,[]⟩,⟨(some 32),(.bi .or (.t 27) (.t 31)),none,[]⟩,⟨(some 9),(.mv (.t 32)),none,[]⟩]) .skip))
 (.seq (.reg [⟨(some 33),(.mv (.t 9)),none,[]⟩,⟨(some 34),(.mn [(.t 33),(.c (.i .u64 1125899906842624))]),none,[]⟩,⟨(some 35),(.cvi .i64 (.t 34)),none,[]⟩,⟨(some 6),(.mv (.t 35)),none,[]⟩])
 .ret)))))) }
noncomputable def f169 : AFn := { np := 3, nt := 18, res := [.t 6], body :=
 (.seq (.reg [⟨(some 6),(.mv (.c (.i .i64 0))),none,[]⟩])
 (.seq (.blk 0 (.seq (.reg [⟨(some 8),(.mv (.t 0)),none,[]⟩,⟨(some 9),(.mv (.t 1)),none,[]⟩,⟨(some 10),(.bi .lss (.t 8) (.t 9)),none,[]⟩,⟨(some 7),(.mv (.t 10)),none,[]⟩])
 (.cond (.t 7) (.seq (.reg [⟨(some 11),(.mv (.t 1)),none,[]⟩,⟨(some 6),(.mv (.t 11)),none,[]⟩])
 .ret) (.seq (.reg [⟨(some 13),(.mv (.t 0)),none,[]⟩,⟨(some 14),(.mv (.t 2)),none,[]⟩,⟨(some 15),(.bi .gtr (.t 13) (.t 14)),none,[]⟩,⟨(some 12),(.mv (.t 15)),none,[]⟩])
 (.cond (.t 12) (.seq (.reg [⟨(some 16),(.mv (.t 2)),none,[]⟩,⟨(some 6),(.mv (.t 16)),none,[]⟩])
 .ret) .skip)))))
 (.seq (.reg [⟨(some 17),(.mv (.t 0)),none,[]⟩,⟨(some 6),(.mv (.t 17)),none,[]⟩])
 .ret))) }
noncomputable def f170 : AFn := { np := 3, nt := 49, res := [.t 6,.t 7], body :=
 (.seq (.reg [⟨(some 6),(.mv (.c (.i .i64 0))),none,[]⟩,⟨(some 7),(.mv (.c (.b false))),none,[]⟩])
 (.seq (.reg [⟨(some 12),(.mv (.t 0)),none,[]⟩,⟨(some 13),(.lns false (.t 12)),none,[]⟩,⟨(some 8),(.mv (.t 13)),none,[]⟩])
 (.seq (.reg [⟨(some 14),(.mv (.t 8)),none,[]⟩,⟨(some 9),(.mv (.c (.i .i64 0))),none,[]⟩,⟨(some 10),(.mv (.t 14)),none,[]⟩])
 (.seq (.blk 0 (.loop (.seq (.seq (.reg [⟨(some 15),(.mv (.t 9)),none,[]⟩,⟨(some 16),(.mv (.t 10)),none,[]⟩,⟨(some 17),(.bi .lss (.t 15) (.t 16)),none,[]⟩])
 (.cond (.t 17) .skip (.exit 0)))
 (.blk 1 (.seq (.reg [⟨(some 18),(.mv (.t 9)),none,[]⟩,⟨(some 19),(.mv (.t 10)),none,[]⟩,⟨(some 20),(.bi .add (.t 18) (.t 19)),none,[]⟩,⟨(some 21),(.cvi .u64 (.t 20)),none,[]⟩,⟨(some 22),(.bi .shr (.t 21) (.c (.i .u64 1))),none,[]⟩,⟨(some 23),(.cvi .i64 (.t 22)),none,[]⟩,⟨(some 11),(.mv (.t 23)),none,[]⟩])
 (.seq (.reg [⟨(some 24),(.mv (.t 2)),none,[]⟩,⟨(some 25),(.mv (.t 0)),none,[]⟩,⟨(some 26),(.mv (.t 11)),none,[]⟩,⟨(some 27),(.ias 5 (.t 25) (.t 26)),none,[]⟩,⟨(some 28),(.ldn (.t 27) 5),none,[]⟩,⟨(some 29),(.mv (.t 1)),none,[]⟩,⟨(some 30),(.cv (.t 24) [(.t 28),(.t 29)]),none,[]⟩,⟨(some 31),(.bi .lss (.t 30) (.c (.i .i64 0))),none,[]⟩])
 (.cond (.t 31) (.reg [⟨(some 32),(.mv (.t 11)),none,[]⟩,⟨(some 33),(.bi .add (.t 32) (.c (.i .i64 1))),none,[]⟩,⟨(some 9),(.mv (.t 33)),none,[]⟩]) (.reg [⟨(some 34),(.mv (.t 11)),none,[]⟩,⟨(some 10),(.mv (.t 34)),none,[]⟩]))))))))
 (.seq (.reg [⟨(some 35),(.mv (.t 9)),none,[]⟩,⟨(some 36),(.mv (.t 9)),none,[]⟩,⟨(some 37),(.mv (.t 8)),none,[]⟩,⟨(some 38),(.bi .lss (.t 36) (.t 37)),none,[]⟩,⟨(some 39),(.mv (.t 38)),none,[]⟩,⟨(some 40),(.mv (.t 2)),(some (39,true)),[]⟩,⟨(some 41),(.mv (.t 0)),(some (39,true)),[]⟩,⟨(some 42),(.mv (.t 9)),(some (39,true)),[]⟩,⟨(some 43),(.ias 5 (.t 41) (.t 42)),(some (39,true)),[]⟩,⟨(some 44),(.ldn (.t 43) 5),(some (39,true)),[]⟩,⟨(some 45),(.mv (.t 1)),(some (39,true)),[]⟩,⟨(some 46),(.cv (.t 40) [(.t 44),(.t 45)]),(some (39,true)),[]⟩,⟨(some 47),(.bi .eql (.t 46) (.c (.i .i64 0))),(some (39,true)),[]⟩,⟨(some 48),(.pk (.t 39) (.t 47) (.c (.b false))),none,[]⟩,⟨(some 6),(.mv (.t 35)),none,[]⟩,⟨(some 7),(.mv (.t 48)),none,[]⟩])
 .ret))))) }
noncomputable def f171 : AFn := { np := 2, nt := 9, res := [.t 4], body :=
 (.seq (.reg [⟨(some 2),(.bx (.t 0)),none,[]⟩,⟨(some 4),(.mv (.c (.i .i64 0))),none,[]⟩])
 (.seq (.reg [⟨(some 5),(.fa (.t 2) 0),none,[]⟩,⟨(some 6),(.ld (.t 5)),none,[]⟩,⟨(some 7),(.mv (.t 1)),none,[]⟩,⟨(some 8),(.call 87 [(.t 6),(.t 7)]),none,[]⟩,⟨(some 4),(.mv (.t 8)),none,[]⟩])
 .ret)) }
noncomputable def f172 : AFn := { np := 1, nt := 10, res := [.t 2], body :=
 (.seq (.reg [⟨(some 2),(.mv (.c (.i .i64 0))),none,[]⟩])
 (.seq (.seq (.reg [⟨(some 3),(.mv (.t 0)),none,[]⟩,⟨(some 4),(.eq false .ptr (.t 3) (.c .np)),none,[]⟩])
 (.cond (.t 4) (.seq (.reg [⟨(some 2),(.mv (.c (.i .i64 0))),none,[]⟩])
 .ret) .skip))
 (.seq (.reg [⟨(some 5),(.mv (.t 0)),none,[]⟩,⟨(some 6),(.nc (.t 5)),none,[]⟩,⟨(some 7),(.fa (.t 6) 19),none,[]⟩,⟨(some 8),(.ld (.t 7)),none,[]⟩,⟨(some 9),(.lns false (.t 8)),none,[]⟩,⟨(some 2),(.mv (.t 9)),none,[]⟩])
 .ret))) }
noncomputable def f173 : AFn := { np := 3, nt := 33, res := [.t 6], body :=
 (.seq (.reg [⟨(some 6),(.mv (.c .nsl)),none,[]⟩])
 (.seq (.reg [⟨(some 8),(.mv (.t 0)),none,[]⟩,⟨(some 9),(.mv (.t 1)),none,[]⟩,⟨(some 10),(.mv (.t 2)),none,[]⟩,⟨(some 11),(.mv (.t 0)),none,[]⟩,⟨(some 12),(.lns false (.t 11)),none,[]⟩,⟨(some 13),(.sll 3 (.t 8) (some (.t 9)) (some (.t 10)) (some (.t 12))),none,[]⟩])
 (.seq (.seq (.reg [⟨(some 14),(.mv (.t 1)),none,[]⟩,⟨(some 15),(.mv (.t 2)),none,[]⟩,⟨(some 16),(.bi .eql (.t 14) (.t 15)),none,[]⟩])
 (.cond (.t 16) (.seq (.reg [⟨(some 17),(.mv (.t 0)),none,[]⟩,⟨(some 6),(.mv (.t 17)),none,[]⟩])
 .ret) .skip))
 (.seq (.reg [⟨(some 18),(.mv (.t 0)),none,[]⟩,⟨(some 19),(.lns false (.t 18)),none,[]⟩,⟨(some 7),(.mv (.t 19)),none,[]⟩])
 (.seq (.drw [⟨(some 20),(.mv (.t 0)),none,[]⟩,⟨(some 21),(.mv (.t 1)),none,[]⟩,⟨(some 22),(.sll 3 (.t 20) none (some (.t 21)) none),none,[]⟩,⟨(some 23),(.mv (.t 0)),none,[]⟩,⟨(some 24),(.mv (.t 2)),none,[]⟩,⟨(some 25),(.sll 3 (.t 23) (some (.t 24)) none none),none,[]⟩,⟨(some 26),(.ap 3 (.t 22) (.t 25)),none,[]⟩,⟨(some 0),(.mv (.t 26)),none,[]⟩])
 (.seq (.reg [⟨(some 27),(.mv (.t 0)),none,[]⟩,⟨(some 28),(.mv (.t 0)),none,[]⟩,⟨(some 29),(.lns false (.t 28)),none,[]⟩,⟨(some 30),(.mv (.t 7)),none,[]⟩,⟨(some 31),(.sll 3 (.t 27) (some (.t 29)) (some (.t 30)) none),none,[]⟩,⟨none,(.cls [(.i .i64 0),(.i .u64 0),.nsl] (.t 31)),none,[]⟩])
 (.seq (.reg [⟨(some 32),(.mv (.t 0)),none,[]⟩,⟨(some 6),(.mv (.t 32)),none,[]⟩])
 .ret))))))) }
noncomputable def f174 : AFn := { np := 3, nt := 20, res := [.t 6], body :=
 (.seq (.reg [⟨(some 6),(.mv (.c (.b false))),none,[]⟩])
 (.seq (.reg [⟨(some 7),(.mv (.t 0)),none,[]⟩,⟨(some 8),(.mv (.t 1)),none,[]⟩,⟨(some 9),(.call 144 [(.t 7),(.t 8)]),none,[]⟩,⟨(some 10),(.mv (.t 9)),none,[]⟩,⟨(some 11),(.mv (.t 0)),(some (10,true)),[]⟩,⟨(some 12),(.mv (.t 1)),(some (10,true)),[]⟩,⟨(some 13),(.nc (.t 11)),(some (10,true)),[]⟩,⟨(some 14),(.fa (.t 13) 2),(some (10,true)),[]⟩,⟨(some 15),(.iaa 8 1 (.t 14) (.t 12)),(some (10,true)),[]⟩,⟨(some 16),(.ld (.t 15)),(some (10,true)),[]⟩,⟨(some 17),(.mv (.t 2)),(some (10,true)),[]⟩,⟨(some 18),(.call 154 [(.t 16),(.t 17)]),(some (10,true)),[]⟩,⟨(some 19),(.pk (.t 10) (.t 18) (.c (.b false))),none,[]⟩,⟨(some 6),(.mv (.t 19)),none,[]⟩])
 .ret)) }
noncomputable def f175 : AFn := { np := 3, nt := 105, res := [.t 6,.t 7], body :=
 (.seq (.reg [⟨(some 4),(.bx (.t 1)),none,[]⟩,⟨(some 6),(.mv (.c .np)),none,[]⟩,⟨(some 7),(.mv (.c (.i .i64 0))),none,[]⟩])
 (.seq (.drw [⟨(some 13),(.mv (.t 0)),none,[]⟩,⟨(some 14),(.nc (.t 13)),none,[]⟩,⟨(some 15),(.fa (.t 14) 1),none,[]⟩,⟨(some 16),(.ld (.t 15)),none,[]⟩,⟨(some 17),(.ldn (.t 4) 2),none,[]⟩,⟨(some 18),(.call 197 [(.t 16),(.t 17)]),none,[]⟩,⟨(some 12),(.mv (.t 18)),none,[]⟩,⟨(some 19),(.ex (.t 12) 0),none,[]⟩,⟨(some 20),(.ex (.t 12) 1),none,[]⟩,⟨(some 8),(.mv (.t 19)),none,[]⟩,⟨(some 9),(.mv (.t 20)),none,[]⟩])
 (.seq (.seq (.drw [⟨(some 21),(.mv (.t 0)),none,[]⟩,⟨(some 22),(.fa (.t 4) 0),none,[]⟩,⟨(some 23),(.ld (.t 22)),none,[]⟩,⟨(some 24),(.nc (.t 21)),none,[]⟩,⟨(some 25),(.fa (.t 24) 2),none,[]⟩,⟨(some 26),(.iaa 8 1 (.t 25) (.t 23)),none,[]⟩,⟨(some 27),(.ld (.t 26)),none,[]⟩,⟨(some 10),(.mv (.t 27)),none,[]⟩])
 (.blk 0 (.seq (.reg [⟨(some 29),(.mv (.t 9)),none,[]⟩,⟨(some 30),(.mv (.t 29)),none,[]⟩,⟨(some 31),(.mv (.t 8)),(some (30,true)),[]⟩,⟨(some 32),(.call 198 [(.t 31)]),(some (30,true)),[]⟩,⟨(some 33),(.mv (.t 2)),(some (30,true)),[]⟩,⟨(some 34),(.bi .neq (.t 32) (.t 33)),(some (30,true)),[]⟩,⟨(some 35),(.pk (.t 30) (.t 34) (.c (.b false))),none,[]⟩,⟨(some 28),(.mv (.t 35)),none,[]⟩])
 (.cond (.t 28) (.seq (.reg [⟨(some 6),(.mv (.c .np)),none,[]⟩,⟨(some 7),(.mv (.c (.i .i64 2))),none,[]⟩])
 .ret) (.seq (.reg [⟨(some 37),(.mv (.t 9)),none,[]⟩,⟨(some 36),(.mv (.t 37)),none,[]⟩])
 (.cond (.t 36) (.seq (.reg [⟨(some 38),(.mv (.t 8)),none,[]⟩,⟨(some 6),(.mv (.t 38)),none,[]⟩,⟨(some 7),(.mv (.c (.i .i64 0))),none,[]⟩])
 .ret) (.seq (.drw [⟨(some 40),(.mv (.t 0)),none,[]⟩,⟨(some 41),(.nc (.t 40)),none,[]⟩,⟨(some 42),(.fa (.t 41) 1),none,[]⟩,⟨(some 43),(.ld (.t 42)),none,[]⟩,⟨(some 45),(.mv (.t 0)),none,[]⟩,⟨(some 46),(.nc (.t 45)),none,[]⟩,⟨(some 47),(.fa (.t 46) 18),none,[]⟩,⟨(some 48),(.ld (.t 47)),none,[]⟩,⟨(some 44),(.call 95 [(.t 43)]),none,[(48,(.ld (.t 47)),none)]⟩,⟨(some 49),(.bi .geq (.t 44) (.t 48)),none,[]⟩,⟨(some 50),(.mv (.t 49)),none,[]⟩,⟨(some 51),(.mv (.t 10)),(some (50,false)),[]⟩,⟨(some 53),(.mv (.t 0)),(some (50,false)),[]⟩,⟨(some 54),(.fa (.t 4) 0),(some (50,false)),[]⟩,⟨(some 55),(.ld (.t 54)),(some (50,false)),[]⟩,⟨(some 56),(.nc (.t 53)),(some (50,false)),[]⟩,⟨(some 57),(.fa (.t 56) 10),(some (50,false)),[]⟩,⟨(some 58),(.iaa 8 1 (.t 57) (.t 55)),(some (50,false)),[]⟩,⟨(some 59),(.ld (.t 58)),(some (50,false)),[]⟩,⟨(some 61),(.mv (.t 0)),(some (50,false)),[]⟩,⟨(some 62),(.nc (.t 61)),(some (50,false)),[]⟩,⟨(some 63),(.fa (.t 62) 18),(some (50,false)),[]⟩,⟨(some 64),(.ld (.t 63)),(some (50,false)),[]⟩,⟨(some 52),(.call 155 [(.t 51)]),(some (50,false)),[(55,(.ld (.t 54)),(some (50,false))),(59,(.ld (.t 58)),(some (50,false))),(64,(.ld (.t 63)),(some (50,false)))]⟩,⟨(some 60),(.bi .add (.t 52) (.t 59)),(some (50,false)),[]⟩,⟨(some 65),(.bi .geq (.t 60) (.t 64)),(some (50,false)),[]⟩,⟨(some 66),(.mv (.t 65)),(some (50,false)),[]⟩,⟨(some 67),(.mv (.t 10)),(some (66,true)),[]⟩,⟨(some 69),(.fa (.t 4) 1),(some (66,true)),[]⟩,⟨(some 70),(.ld (.t 69)),(some (66,true)),[]⟩,⟨(some 68),(.call 156 [(.t 67)]),(some (66,true)),[(70,(.ld (.t 69)),(some (66,true)))]⟩,⟨(some 71),(.bi .neq (.t 68) (.t 70)),(some (66,true)),[]⟩,⟨(some 72),(.pk (.t 66) (.t 71) (.c (.b false))),(some (50,false)),[]⟩,⟨(some 73),(.pk (.t 50) (.c (.b true)) (.t 72)),none,[]⟩,⟨(some 39),(.mv (.t 73)),none,[]⟩])
 (.cond (.t 39) (.seq (.reg [⟨(some 6),(.mv (.c .np)),none,[]⟩,⟨(some 7),(.mv (.c (.i .i64 4))),none,[]⟩])
 .ret) .skip))))))))
 (.seq (.reg [⟨(some 75),(.mv (.t 2)),none,[]⟩,⟨(some 76),(.mv (.t 0)),none,[]⟩,⟨(some 77),(.nc (.t 76)),none,[]⟩,⟨(some 78),(.fa (.t 77) 0),none,[]⟩,⟨(some 79),(.ld (.t 78)),none,[]⟩,⟨(some 80),(.call 199 [(.t 75),(.t 79)]),none,[]⟩,⟨(some 74),(.mv (.t 80)),none,[]⟩,⟨(some 81),(.ex (.t 74) 0),none,[]⟩,⟨(some 82),(.ex (.t 74) 1),none,[]⟩,⟨(some 8),(.mv (.t 81)),none,[]⟩,⟨(some 11),(.mv (.t 82)),none,[]⟩])
 (.seq (.seq (.reg [⟨(some 83),(.mv (.t 11)),none,[]⟩,⟨(some 84),(.bi .eql (.t 83) (.c (.i .i64 0))),none,[]⟩])
 (.cond (.t 84) (.seq (.drw [⟨(some 85),(.mv (.t 0)),none,[]⟩,⟨(some 86),(.nc (.t 85)),none,[]⟩,⟨(some 87),(.fa (.t 86) 1),none,[]⟩,⟨(some 88),(.ld (.t 87)),none,[]⟩,⟨(some 89),(.ldn (.t 4) 2),none,[]⟩,⟨(some 90),(.mv (.t 8)),none,[]⟩,⟨(some 91),(.call 200 [(.t 88),(.t 89),(.t 90)]),none,[]⟩,⟨(some 11),(.mv (.t 91)),none,[]⟩])
 (.drw [⟨(some 92),(.mv (.t 0)),none,[]⟩,⟨(some 93),(.fa (.t 4) 0),none,[]⟩,⟨(some 94),(.ld (.t 93)),none,[]⟩,⟨(some 95),(.nc (.t 92)),none,[]⟩,⟨(some 96),(.fa (.t 95) 10),none,[]⟩,⟨(some 97),(.iaa 8 1 (.t 96) (.t 94)),none,[]⟩,⟨(some 98),(.ld (.t 97)),none,[]⟩,⟨(some 99),(.bi .add (.t 98) (.c (.i .i64 1))),none,[]⟩,⟨(some 100),(.nc (.t 92)),none,[]⟩,⟨(some 101),(.fa (.t 100) 10),none,[]⟩,⟨(some 102),(.iaa 8 1 (.t 101) (.t 94)),none,[]⟩,⟨none,(.st (.t 102) (.t 99) 1),none,[]⟩])) .skip))
 (.seq (.reg [⟨(some 103),(.mv (.t 8)),none,[]⟩,⟨(some 104),(.mv (.t 11)),none,[]⟩,⟨(some 6),(.mv (.t 103)),none,[]⟩,⟨(some 7),(.mv (.t 104)),none,[]⟩])
 .ret)))))) }
noncomputable def f176 : AFn := { np := 3, nt := 102, res := [.t 6,.t 7], body :=
 (.seq (.reg [⟨(some 6),(.mv (.c (.i .i64 0))),none,[]⟩,⟨(some 7),(.mv (.c (.i .i64 0))),none,[]⟩])
 (.seq (.seq (.reg [⟨(some 13),(.mv (.t 0)),none,[]⟩,⟨(some 14),(.eq false .ptr (.t 13) (.c .np)),none,[]⟩,⟨(some 15),(.mv (.t 14)),none,[]⟩,⟨(some 16),(.mv (.t 1)),(some (15,false)),[]⟩,⟨(some 17),(.bi .lss (.t 16) (.c (.i .i64 0))),(some (15,false)),[]⟩,⟨(some 18),(.pk (.t 15) (.c (.b true)) (.t 17)),none,[]⟩,⟨(some 19),(.mv (.t 18)),none,[]⟩,⟨(some 20),(.mv (.t 1)),(some (19,false)),[]⟩,⟨(some 21),(.mv (.t 0)),(some (19,false)),[]⟩,⟨(some 22),(.nc (.t 21)),(some (19,false)),[]⟩,⟨(some 23),(.fa (.t 22) 0),(some (19,false)),[]⟩,⟨(some 24),(.ld (.t 23)),(some (19,false)),[]⟩,⟨(some 25),(.lns false (.t 24)),(some (19,false)),[]⟩,⟨(some 26),(.bi .gtr (.t 20) (.t 25)),(some (19,false)),[]⟩,⟨(some 27),(.pk (.t 19) (.c (.b true)) (.t 26)),none,[]⟩,⟨(some 28),(.mv (.t 27)),none,[]⟩,⟨(some 29),(.mv (.t 2)),(some (28,false)),[]⟩,⟨(some 30),(.lns false (.t 29)),(some (28,false)),[]⟩,⟨(some 31),(.mv (.t 0)),(some (28,false)),[]⟩,⟨(some 32),(.nc (.t 31)),(some (28,false)),[]⟩,⟨(some 33),(.fa (.t 32) 0),(some (28,false)),[]⟩,⟨(some 34),(.ld (.t 33)),(some (28,false)),[]⟩,⟨(some 35),(.lns false (.t 34)),(some (28,false)),[]⟩,⟨(some 36),(.mv (.t 1)),(some (28,false)),[]⟩,⟨(some 37),(.bi .sub (.t 35) (.t 36)),(some (28,false)),[]⟩,⟨(some 38),(.bi .gtr (.t 30) (.t 37)),(some (28,false)),[]⟩,⟨(some 39),(.pk (.t 28) (.c (.b true)) (.t 38)),none,[]⟩])
 (.cond (.t 39) (.seq (.reg [⟨(some 6),(.mv (.c (.i .i64 0))),none,[]⟩,⟨(some 7),(.mv (.c (.i .i64 1))),none,[]⟩])
 .ret) .skip))
 (.seq (.reg [⟨(some 40),(.mv (.t 1)),none,[]⟩,⟨(some 41),(.mv (.t 2)),none,[]⟩,⟨(some 42),(.lns false (.t 41)),none,[]⟩,⟨(some 43),(.bi .add (.t 40) (.t 42)),none,[]⟩,⟨(some 8),(.mv (.t 43)),none,[]⟩])
 (.seq (.seq (.reg [⟨(some 44),(.mv (.t 0)),none,[]⟩,⟨(some 45),(.nc (.t 44)),none,[]⟩,⟨(some 46),(.fa (.t 45) 1),none,[]⟩,⟨(some 47),(.ld (.t 46)),none,[]⟩,⟨(some 48),(.call 201 [(.t 47)]),none,[]⟩,⟨(some 49),(.lns false (.t 48)),none,[]⟩,⟨(some 50),(.mv (.c (.i .i64 0))),none,[]⟩])
 (.blk 0 (.loop (.seq (.reg [⟨(some 51),(.bi .lss (.t 50) (.t 49)),none,[]⟩])
 (.seq (.cond (.t 51) .skip (.exit 0))
 (.seq (.blk 1 (.seq (.reg [⟨(some 52),(.ias 2 (.t 48) (.t 50)),none,[]⟩,⟨(some 53),(.ldn (.t 52) 2),none,[]⟩,⟨(some 10),(.al [(.i .i64 0),(.i .i64 0)]),none,[]⟩,⟨none,(.st (.t 10) (.t 53) 2),none,[]⟩])
 (.seq (.drw [⟨(some 54),(.fa (.t 10) 0),none,[]⟩,⟨(some 55),(.ld (.t 54)),none,[]⟩,⟨(some 56),(.mv (.t 1)),none,[]⟩,⟨(some 57),(.mx [(.t 55),(.t 56)]),none,[]⟩,⟨(some 58),(.fa (.t 10) 1),none,[]⟩,⟨(some 59),(.ld (.t 58)),none,[]⟩,⟨(some 60),(.mv (.t 8)),none,[]⟩,⟨(some 61),(.mn [(.t 59),(.t 60)]),none,[]⟩,⟨(some 11),(.mv (.t 57)),none,[]⟩,⟨(some 12),(.mv (.t 61)),none,[]⟩])
 (.seq (.drw [⟨(some 62),(.mv (.t 11)),none,[]⟩,⟨(some 63),(.mv (.t 12)),none,[]⟩,⟨(some 64),(.bi .lss (.t 62) (.t 63)),none,[]⟩,⟨(some 65),(.mv (.t 64)),none,[]⟩,⟨(some 66),(.mv (.t 0)),(some (65,true)),[]⟩,⟨(some 67),(.nc (.t 66)),(some (65,true)),[]⟩,⟨(some 68),(.fa (.t 67) 0),(some (65,true)),[]⟩,⟨(some 69),(.ld (.t 68)),(some (65,true)),[]⟩,⟨(some 70),(.mv (.t 11)),(some (65,true)),[]⟩,⟨(some 71),(.mv (.t 12)),(some (65,true)),[]⟩,⟨(some 72),(.sll 1 (.t 69) (some (.t 70)) (some (.t 71)) none),(some (65,true)),[]⟩,⟨(some 73),(.mv (.t 2)),(some (65,true)),[]⟩,⟨(some 74),(.mv (.t 11)),(some (65,true)),[]⟩,⟨(some 75),(.mv (.t 1)),(some (65,true)),[]⟩,⟨(some 76),(.bi .sub (.t 74) (.t 75)),(some (65,true)),[]⟩,⟨(some 77),(.mv (.t 12)),(some (65,true)),[]⟩,⟨(some 78),(.mv (.t 1)),(some (65,true)),[]⟩,⟨(some 79),(.bi .sub (.t 77) (.t 78)),(some (65,true)),[]⟩,⟨(some 80),(.sll 1 (.t 73) (some (.t 76)) (some (.t 79)) none),(some (65,true)),[]⟩,⟨(some 81),(.call 124 [(.t 72),(.t 80)]),(some (65,true)),[]⟩,⟨(some 82),(.un .not (.t 81)),(some (65,true)),[]⟩,⟨(some 83),(.pk (.t 65) (.t 82) (.c (.b false))),none,[]⟩])
 (.cond (.t 83) (.seq (.reg [⟨(some 6),(.mv (.c (.i .i64 0))),none,[]⟩,⟨(some 7),(.mv (.c (.i .i64 2))),none,[]⟩])
 .ret) .skip)))))
 (.reg [⟨(some 84),(.bi .add (.t 50) (.c (.i .i64 1))),none,[]⟩,⟨(some 50),(.mv (.t 84)),none,[]⟩])))))))
 (.seq (.reg [⟨(some 85),(.mv (.t 0)),none,[]⟩,⟨(some 86),(.nc (.t 85)),none,[]⟩,⟨(some 87),(.fa (.t 86) 0),none,[]⟩,⟨(some 88),(.ld (.t 87)),none,[]⟩,⟨(some 89),(.mv (.t 1)),none,[]⟩,⟨(some 90),(.sll 1 (.t 88) (some (.t 89)) none none),none,[]⟩,⟨(some 91),(.mv (.t 2)),none,[]⟩,⟨(some 92),(.cpy 1 (.t 90) (.t 91)),none,[]⟩])
 (.seq (.reg [⟨(some 93),(.mv (.t 0)),none,[]⟩,⟨(some 94),(.nc (.t 93)),none,[]⟩,⟨(some 95),(.fa (.t 94) 1),none,[]⟩,⟨(some 96),(.ld (.t 95)),none,[]⟩,⟨(some 97),(.mv (.t 1)),none,[]⟩,⟨(some 98),(.mv (.t 8)),none,[]⟩,⟨(some 99),(.call 202 [(.t 96),(.t 97),(.t 98)]),none,[]⟩,⟨(some 100),(.ex (.t 99) 0),none,[]⟩,⟨(some 101),(.ex (.t 99) 1),none,[]⟩,⟨(some 6),(.mv (.t 100)),none,[]⟩,⟨(some 7),(.mv (.t 101)),none,[]⟩])
 .ret)))))) }
noncomputable def f177 : AFn := { np := 1, nt := 19, res := [.t 2,.t 3], body :=
 (.seq (.reg [⟨(some 2),(.mv (.c .nsl)),none,[]⟩,⟨(some 3),(.mv (.c (.b false))),none,[]⟩])
 (.seq (.seq (.reg [⟨(some 4),(.mv (.t 0)),none,[]⟩,⟨(some 5),(.eq false .ptr (.t 4) (.c .np)),none,[]⟩,⟨(some 6),(.mv (.t 5)),none,[]⟩,⟨(some 7),(.mv (.t 0)),(some (6,false)),[]⟩,⟨(some 8),(.nc (.t 7)),(some (6,false)),[]⟩,⟨(some 9),(.fa (.t 8) 1),(some (6,false)),[]⟩,⟨(some 10),(.ld (.t 9)),(some (6,false)),[]⟩,⟨(some 11),(.call 203 [(.t 10)]),(some (6,false)),[]⟩,⟨(some 12),(.un .not (.t 11)),(some (6,false)),[]⟩,⟨(some 13),(.pk (.t 6) (.c (.b true)) (.t 12)),none,[]⟩])
 (.cond (.t 13) (.seq (.reg [⟨(some 2),(.mv (.c .nsl)),none,[]⟩,⟨(some 3),(.mv (.c (.b false))),none,[]⟩])
 .ret) .skip))
 (.seq (.reg [⟨(some 14),(.mv (.t 0)),none,[]⟩,⟨(some 15),(.nc (.t 14)),none,[]⟩,⟨(some 16),(.fa (.t 15) 0),none,[]⟩,⟨(some 17),(.ld (.t 16)),none,[]⟩,⟨(some 18),(.call 44 [(.t 17)]),none,[]⟩,⟨(some 2),(.mv (.t 18)),none,[]⟩,⟨(some 3),(.mv (.c (.b true))),none,[]⟩])
 .ret))) }
noncomputable def f178 : AFn := { np := 2, nt := 63, res := [.t 4], body :=
 (.seq (.reg [⟨(some 4),(.mv (.c (.i .i64 0))),none,[]⟩])
 (.seq (.reg [⟨(some 5),(.mv (.t 0)),none,[]⟩,⟨(some 6),(.mv (.t 0)),none,[]⟩,⟨(some 7),(.nc (.t 6)),none,[]⟩,⟨(some 8),(.fa (.t 7) 1),none,[]⟩,⟨(some 9),(.ld (.t 8)),none,[]⟩,⟨(some 10),(.mv (.t 1)),none,[]⟩,⟨(some 11),(.mx [(.t 9),(.t 10)]),none,[]⟩,⟨(some 12),(.nc (.t 5)),none,[]⟩,⟨(some 13),(.fa (.t 12) 1),none,[]⟩,⟨none,(.st (.t 13) (.t 11) 1),none,[]⟩])
 (.seq (.blk 0 (.loop (.seq (.seq (.drw [⟨(some 14),(.mv (.t 4)),none,[]⟩,⟨(some 15),(.mv (.t 0)),none,[]⟩,⟨(some 16),(.nc (.t 15)),none,[]⟩,⟨(some 17),(.fa (.t 16) 2),none,[]⟩,⟨(some 18),(.ld (.t 17)),none,[]⟩,⟨(some 19),(.lns false (.t 18)),none,[]⟩,⟨(some 20),(.bi .lss (.t 14) (.t 19)),none,[]⟩,⟨(some 21),(.mv (.t 20)),none,[]⟩,⟨(some 22),(.mv (.t 0)),(some (21,true)),[]⟩,⟨(some 23),(.nc (.t 22)),(some (21,true)),[]⟩,⟨(some 24),(.fa (.t 23) 2),(some (21,true)),[]⟩,⟨(some 25),(.ld (.t 24)),(some (21,true)),[]⟩,⟨(some 26),(.mv (.t 4)),(some (21,true)),[]⟩,⟨(some 27),(.ias 1 (.t 25) (.t 26)),(some (21,true)),[]⟩,⟨(some 28),(.ld (.t 27)),(some (21,true)),[]⟩,⟨(some 29),(.mv (.t 0)),(some (21,true)),[]⟩,⟨(some 30),(.nc (.t 29)),(some (21,true)),[]⟩,⟨(some 31),(.fa (.t 30) 1),(some (21,true)),[]⟩,⟨(some 32),(.ld (.t 31)),(some (21,true)),[]⟩,⟨(some 33),(.bi .leq (.t 28) (.t 32)),(some (21,true)),[]⟩,⟨(some 34),(.pk (.t 21) (.t 33) (.c (.b false))),none,[]⟩])
 (.cond (.t 34) .skip (.exit 0)))
 (.blk 1 (.seq (.drw [⟨(some 35),(.mv (.t 0)),none,[]⟩,⟨(some 36),(.mv (.t 0)),none,[]⟩,⟨(some 37),(.nc (.t 36)),none,[]⟩,⟨(some 38),(.fa (.t 37) 1),none,[]⟩,⟨(some 39),(.ld (.t 38)),none,[]⟩,⟨(some 40),(.mv (.t 0)),none,[]⟩,⟨(some 41),(.nc (.t 40)),none,[]⟩,⟨(some 42),(.fa (.t 41) 2),none,[]⟩,⟨(some 43),(.ld (.t 42)),none,[]⟩,⟨(some 44),(.mv (.t 4)),none,[]⟩,⟨(some 45),(.ias 1 (.t 43) (.t 44)),none,[]⟩,⟨(some 46),(.ld (.t 45)),none,[]⟩,⟨(some 47),(.bi .add (.t 46) (.c (.i .u64 1))),none,[]⟩,⟨(some 48),(.mx [(.t 39),(.t 47)]),none,[]⟩,⟨(some 49),(.nc (.t 35)),none,[]⟩,⟨(some 50),(.fa (.t 49) 1),none,[]⟩,⟨none,(.st (.t 50) (.t 48) 1),none,[]⟩])
 (.reg [⟨(some 51),(.mv (.t 4)),none,[]⟩,⟨(some 52),(.bi .add (.t 51) (.c (.i .i64 1))),none,[]⟩,⟨(some 4),(.mv (.t 52)),none,[]⟩]))))))
 (.seq (.reg [⟨(some 53),(.mv (.t 0)),none,[]⟩,⟨(some 54),(.mv (.t 0)),none,[]⟩,⟨(some 55),(.nc (.t 54)),none,[]⟩,⟨(some 56),(.fa (.t 55) 2),none,[]⟩,⟨(some 57),(.ld (.t 56)),none,[]⟩,⟨(some 58),(.mv (.t 4)),none,[]⟩,⟨(some 59),(.call 204 [(.t 57),(.c (.i .i64 0)),(.t 58)]),none,[]⟩,⟨(some 60),(.nc (.t 53)),none,[]⟩,⟨(some 61),(.fa (.t 60) 2),none,[]⟩,⟨none,(.st (.t 61) (.t 59) 1),none,[]⟩])
 (.seq (.reg [⟨(some 62),(.mv (.t 4)),none,[]⟩,⟨(some 4),(.mv (.t 62)),none,[]⟩])
 .ret))))) }
noncomputable def f182 : AFn := { np := 2, nt := 78, res := [.t 4], body :=
 (.seq (.reg [⟨(some 3),(.bx (.t 1)),none,[]⟩,⟨(some 4),(.mv (.c (.i .i64 0))),none,[]⟩])
 (.seq (.reg [⟨(some 9),(.mv (.t 0)),none,[]⟩,⟨(some 10),(.ldn (.t 3) 2),none,[]⟩,⟨(some 11),(.call 206 [(.t 9),(.t 10)]),none,[]⟩,⟨(some 8),(.mv (.t 11)),none,[]⟩,⟨(some 12),(.ex (.t 8) 0),none,[]⟩,⟨(some 13),(.ex (.t 8) 1),none,[]⟩,⟨(some 5),(.mv (.t 12)),none,[]⟩,⟨(some 6),(.mv (.t 13)),none,[]⟩])
 (.seq (.seq (.reg [⟨(some 14),(.mv (.t 6)),none,[]⟩,⟨(some 15),(.un .not (.t 14)),none,[]⟩])
 (.cond (.t 15) (.seq (.reg [⟨(some 4),(.mv (.c (.i .i64 5))),none,[]⟩])
 .ret) .skip))
 (.seq (.reg [⟨(some 16),(.mv (.t 0)),none,[]⟩,⟨(some 17),(.nc (.t 16)),none,[]⟩,⟨(some 18),(.fa (.t 17) 2),none,[]⟩,⟨(some 19),(.ld (.t 18)),none,[]⟩,⟨(some 20),(.mv (.t 5)),none,[]⟩,⟨(some 21),(.bl [(.b false),(.i .i64 0),(.i .u64 0),.np] []),none,[]⟩,⟨(some 22),(.ias 4 (.t 19) (.t 20)),none,[]⟩,⟨none,(.st (.t 22) (.t 21) 4),none,[]⟩])
 (.seq (.reg [⟨(some 23),(.mv (.t 0)),none,[]⟩,⟨(some 24),(.nc (.t 23)),none,[]⟩,⟨(some 25),(.fa (.t 24) 1),none,[]⟩,⟨(some 26),(.ld (.t 25)),none,[]⟩,⟨(some 27),(.bi .sub (.t 26) (.c (.i .i64 1))),none,[]⟩,⟨(some 28),(.nc (.t 23)),none,[]⟩,⟨(some 29),(.fa (.t 28) 1),none,[]⟩,⟨none,(.st (.t 29) (.t 27) 1),none,[]⟩])
 (.seq (.seq (.reg [⟨(some 30),(.mv (.t 5)),none,[]⟩,⟨(some 31),(.bi .add (.t 30) (.c (.i .i64 1))),none,[]⟩,⟨(some 32),(.mv (.t 0)),none,[]⟩,⟨(some 33),(.nc (.t 32)),none,[]⟩,⟨(some 34),(.fa (.t 33) 2),none,[]⟩,⟨(some 35),(.ld (.t 34)),none,[]⟩,⟨(some 36),(.lns false (.t 35)),none,[]⟩,⟨(some 37),(.bi .rem (.t 31) (.t 36)),none,[]⟩,⟨(some 5),(.mv (.t 37)),none,[]⟩])
 (.blk 0 (.loop (.seq (.seq (.reg [⟨(some 38),(.mv (.t 0)),none,[]⟩,⟨(some 39),(.nc (.t 38)),none,[]⟩,⟨(some 40),(.fa (.t 39) 2),none,[]⟩,⟨(some 41),(.ld (.t 40)),none,[]⟩,⟨(some 42),(.mv (.t 5)),none,[]⟩,⟨(some 43),(.ias 4 (.t 41) (.t 42)),none,[]⟩,⟨(some 44),(.fa (.t 43) 0),none,[]⟩,⟨(some 45),(.ld (.t 44)),none,[]⟩])
 (.cond (.t 45) .skip (.exit 0)))
 (.seq (.blk 1 (.seq (.reg [⟨(some 54),(.mv (.t 0)),none,[]⟩,⟨(some 55),(.nc (.t 54)),none,[]⟩,⟨(some 56),(.fa (.t 55) 2),none,[]⟩,⟨(some 57),(.ld (.t 56)),none,[]⟩,⟨(some 58),(.mv (.t 5)),none,[]⟩,⟨(some 59),(.ias 4 (.t 57) (.t 58)),none,[]⟩,⟨(some 60),(.ldn (.t 59) 4),none,[]⟩,⟨(some 7),(.al [(.b false),(.i .i64 0),(.i .u64 0),.np]),none,[]⟩,⟨none,(.st (.t 7) (.t 60) 4),none,[]⟩])
 (.seq (.reg [⟨(some 61),(.mv (.t 0)),none,[]⟩,⟨(some 62),(.nc (.t 61)),none,[]⟩,⟨(some 63),(.fa (.t 62) 2),none,[]⟩,⟨(some 64),(.ld (.t 63)),none,[]⟩,⟨(some 65),(.mv (.t 5)),none,[]⟩,⟨(some 66),(.bl [(.b false),(.i .i64 0),(.i .u64 0),.np] []),none,[]⟩,⟨(some 67),(.ias 4 (.t 64) (.t 65)),none,[]⟩,⟨none,(.st (.t 67) (.t 66) 4),none,[]⟩])
 (.drw [⟨(some 68),(.mv (.t 0)),none,[]⟩,⟨(some 69),(.nc (.t 68)),none,[]⟩,⟨(some 70),(.fa (.t 69) 2),none,[]⟩,⟨(some 71),(.ld (.t 70)),none,[]⟩,⟨(some 72),(.mv (.t 0)),none,[]⟩,⟨(some 73),(.fa (.t 7) 1),none,[]⟩,⟨(some 74),(.ldn (.t 73) 2),none,[]⟩,⟨(some 76),(.ldn (.t 7) 4),none,[]⟩,⟨(some 75),(.call 207 [(.t 72),(.t 74)]),none,[(71,(.ld (.t 70)),none),(76,(.ldn (.t 7) 4),none)]⟩,⟨(some 77),(.ias 4 (.t 71) (.t 75)),none,[]⟩,⟨none,(.st (.t 77) (.t 76) 4),none,[]⟩]))))
 (.reg [⟨(some 46),(.mv (.t 5)),none,[]⟩,⟨(some 47),(.bi .add (.t 46) (.c (.i .i64 1))),none,[]⟩,⟨(some 48),(.mv (.t 0)),none,[]⟩,⟨(some 49),(.nc (.t 48)),none,[]⟩,⟨(some 50),(.fa (.t 49) 2),none,[]⟩,⟨(some 51),(.ld (.t 50)),none,[]⟩,⟨(some 52),(.lns false (.t 51)),none,[]⟩,⟨(some 53),(.bi .rem (.t 47) (.t 52)),none,[]⟩,⟨(some 5),(.mv (.t 53)),none,[]⟩]))))))
 (.seq (.reg [⟨(some 4),(.mv (.c (.i .i64 0))),none,[]⟩])
 .ret))))))) }
noncomputable def f183 : AFn := { np := 2, nt := 13, res := [.t 4], body :=
 (.seq (.reg [⟨(some 2),(.bx (.t 0)),none,[]⟩,⟨(some 4),(.mv (.c .nsl)),none,[]⟩])
 (.seq (.seq (.reg [⟨(some 6),(.mv (.t 1)),none,[]⟩])
 (.blk 0 (.rf (.t 6) [7] (.reg [⟨(some 5),(.mv (.t 7)),none,[]⟩]) (.blk 1 (.reg [⟨(some 8),(.ld (.t 2)),none,[]⟩,⟨(some 9),(.mv (.t 5)),none,[]⟩,⟨(some 10),(.bs 1 [.np] [(0,1,(.t 9))]),none,[]⟩,⟨(some 11),(.ap 1 (.t 8) (.t 10)),none,[]⟩,⟨none,(.st (.t 2) (.t 11) 1),none,[]⟩])))))
 (.seq (.reg [⟨(some 12),(.ld (.t 2)),none,[]⟩,⟨(some 4),(.mv (.t 12)),none,[]⟩])
 .ret))) }
noncomputable def f184 : AFn := { np := 1, nt := 15, res := [], body :=
 (.seq (.reg [⟨(some 5),(.ld (.t 1)),none,[]⟩,⟨(some 6),(.rm (.t 5)),none,[]⟩])
 (.blk 0 (.loop (.seq (.reg [⟨(some 7),(.nxm (.t 6)),none,[]⟩,⟨(some 8),(.ex (.t 7) 0),none,[]⟩])
 (.seq (.cond (.t 8) .skip (.exit 0))
 (.blk 1 (.seq (.reg [⟨(some 9),(.en (.t 6)),none,[]⟩,⟨(some 10),(.ex (.t 9) 1),none,[]⟩,⟨(some 4),(.mv (.t 10)),none,[]⟩])
 (.seq (.reg [⟨(some 11),(.mv (.t 0)),none,[]⟩,⟨(some 12),(.mv (.t 4)),none,[]⟩,⟨(some 13),(.cv (.t 11) [(.t 12)]),none,[]⟩,⟨(some 14),(.un .not (.t 13)),none,[]⟩])
 (.cond (.t 14) .ret .skip))))))))) }
noncomputable def f185 : AFn := { np := 5, nt := 148, res := [], body :=
 (.seq (.reg [⟨(some 10),(.mv (.c (.b true))),none,[]⟩])
 (.seq (.reg [⟨(some 11),(.mv (.c (.b true))),none,[]⟩])
 (.blk 0 (.loop (.blk 1 (.seq (.reg [⟨(some 21),(.mv (.t 2)),none,[]⟩,⟨(some 22),(.mv (.t 1)),none,[]⟩,⟨(some 23),(.bi .sub (.t 21) (.t 22)),none,[]⟩,⟨(some 12),(.mv (.t 23)),none,[]⟩])
 (.seq (.seq (.reg [⟨(some 24),(.mv (.t 12)),none,[]⟩,⟨(some 25),(.bi .leq (.t 24) (.c (.i .i64 12))),none,[]⟩])
 (.cond (.t 25) (.seq (.reg [⟨(some 26),(.mv (.t 0)),none,[]⟩,⟨(some 27),(.mv (.t 1)),none,[]⟩,⟨(some 28),(.mv (.t 2)),none,[]⟩,⟨(some 29),(.mv (.t 4)),none,[]⟩,⟨(some 30),(.call 208 [(.t 26),(.t 27),(.t 28),(.t 29)]),none,[]⟩])
 .ret) .skip))
 (.seq (.seq (.reg [⟨(some 31),(.mv (.t 3)),none,[]⟩,⟨(some 32),(.bi .eql (.t 31) (.c (.i .i64 0))),none,[]⟩])
 (.cond (.t 32) (.seq (.reg [⟨(some 33),(.mv (.t 0)),none,[]⟩,⟨(some 34),(.mv (.t 1)),none,[]⟩,⟨(some 35),(.mv (.t 2)),none,[]⟩,⟨(some 36),(.mv (.t 4)),none,[]⟩,⟨(some 37),(.call 209 [(.t 33),(.t 34),(.t 35),(.t 36)]),none,[]⟩])
 .ret) .skip))
 (.seq (.seq (.reg [⟨(some 38),(.mv (.t 10)),none,[]⟩,⟨(some 39),(.un .not (.t 38)),none,[]⟩])
 (.cond (.t 39) (.seq (.reg [⟨(some 40),(.mv (.t 0)),none,[]⟩,⟨(some 41),(.mv (.t 1)),none,[]⟩,⟨(some 42),(.mv (.t 2)),none,[]⟩,⟨(some 43),(.mv (.t 4)),none,[]⟩,⟨(some 44),(.call 210 [(.t 40),(.t 41),(.t 42),(.t 43)]),none,[]⟩])
 (.reg [⟨(some 45),(.mv (.t 3)),none,[]⟩,⟨(some 46),(.bi .sub (.t 45) (.c (.i .i64 1))),none,[]⟩,⟨(some 3),(.mv (.t 46)),none,[]⟩])) .skip))
 (.seq (.reg [⟨(some 48),(.mv (.t 0)),none,[]⟩,⟨(some 49),(.mv (.t 1)),none,[]⟩,⟨(some 50),(.mv (.t 2)),none,[]⟩,⟨(some 51),(.mv (.t 4)),none,[]⟩,⟨(some 52),(.call 211 [(.t 48),(.t 49),(.t 50),(.t 51)]),none,[]⟩,⟨(some 47),(.mv (.t 52)),none,[]⟩,⟨(some 53),(.ex (.t 47) 0),none,[]⟩,⟨(some 54),(.ex (.t 47) 1),none,[]⟩,⟨(some 13),(.mv (.t 53)),none,[]⟩,⟨(some 14),(.mv (.t 54)),none,[]⟩])
 (.seq (.seq (.reg [⟨(some 55),(.mv (.t 14)),none,[]⟩,⟨(some 56),(.bi .eql (.t 55) (.c (.i .i64 2))),none,[]⟩])
 (.cond (.t 56) (.seq (.reg [⟨(some 57),(.mv (.t 0)),none,[]⟩,⟨(some 58),(.mv (.t 1)),none,[]⟩,⟨(some 59),(.mv (.t 2)),none,[]⟩,⟨(some 60),(.mv (.t 4)),none,[]⟩,⟨(some 61),(.call 212 [(.t 57),(.t 58),(.t 59),(.t 60)]),none,[]⟩])
 (.seq (.reg [⟨(some 62),(.mv (.t 2)),none,[]⟩,⟨(some 63),(.bi .sub (.t 62) (.c (.i .i64 1))),none,[]⟩,⟨(some 64),(.mv (.t 13)),none,[]⟩,⟨(some 65),(.mv (.t 1)),none,[]⟩,⟨(some 66),(.bi .sub (.t 64) (.t 65)),none,[]⟩,⟨(some 67),(.bi .sub (.t 63) (.t 66)),none,[]⟩,⟨(some 13),(.mv (.t 67)),none,[]⟩])
 (.reg [⟨(some 14),(.mv (.c (.i .i64 1))),none,[]⟩]))) .skip))
 (.seq (.seq (.reg [⟨(some 68),(.mv (.t 10)),none,[]⟩,⟨(some 69),(.mv (.t 68)),none,[]⟩,⟨(some 70),(.mv (.t 11)),(some (69,true)),[]⟩,⟨(some 71),(.pk (.t 69) (.t 70) (.c (.b false))),none,[]⟩,⟨(some 72),(.mv (.t 71)),none,[]⟩,⟨(some 73),(.mv (.t 14)),(some (72,true)),[]⟩,⟨(some 74),(.bi .eql (.t 73) (.c (.i .i64 1))),(some (72,true)),[]⟩,⟨(some 75),(.pk (.t 72) (.t 74) (.c (.b false))),none,[]⟩])
 (.cond (.t 75) (.seq (.reg [⟨(some 76),(.mv (.t 0)),none,[]⟩,⟨(some 77),(.mv (.t 1)),none,[]⟩,⟨(some 78),(.mv (.t 2)),none,[]⟩,⟨(some 79),(.mv (.t 4)),none,[]⟩,⟨(some 80),(.call 213 [(.t 76),(.t 77),(.t 78),(.t 79)]),none,[]⟩])
 (.cond (.t 80) .ret .skip)) .skip))
 (.seq (.seq (.drw [⟨(some 81),(.mv (.t 1)),none,[]⟩,⟨(some 82),(.bi .gtr (.t 81) (.c (.i .i64 0))),none,[]⟩,⟨(some 83),(.mv (.t 82)),none,[]⟩,⟨(some 84),(.mv (.t 4)),(some (83,true)),[]⟩,⟨(some 85),(.mv (.t 0)),(some (83,true)),[]⟩,⟨(some 86),(.mv (.t 1)),(some (83,true)),[]⟩,⟨(some 87),(.bi .sub (.t 86) (.c (.i .i64 1))),(some (83,true)),[]⟩,⟨(some 88),(.ias 1 (.t 85) (.t 87)),(some (83,true)),[]⟩,⟨(some 89),(.ld (.t 88)),(some (83,true)),[]⟩,⟨(some 90),(.mv (.t 0)),(some (83,true)),[]⟩,⟨(some 91),(.mv (.t 13)),(some (83,true)),[]⟩,⟨(some 92),(.ias 1 (.t 90) (.t 91)),(some (83,true)),[]⟩,⟨(some 93),(.ld (.t 92)),(some (83,true)),[]⟩,⟨(some 94),(.cv (.t 84) [(.t 89),(.t 93)]),(some (83,true)),[]⟩,⟨(some 95),(.bi .lss (.t 94) (.c (.i .i64 0))),(some (83,true)),[]⟩,⟨(some 96),(.un .not (.t 95)),(some (83,true)),[]⟩,⟨(some 97),(.pk (.t 83) (.t 96) (.c (.b false))),none,[]⟩])
 (.cond (.t 97) (.seq (.reg [⟨(some 98),(.mv (.t 0)),none,[]⟩,⟨(some 99),(.mv (.t 1)),none,[]⟩,⟨(some 100),(.mv (.t 2)),none,[]⟩,⟨(some 101),(.mv (.t 13)),none,[]⟩,⟨(some 102),(.mv (.t 4)),none,[]⟩,⟨(some 103),(.call 214 [(.t 98),(.t 99),(.t 100),(.t 101),(.t 102)]),none,[]⟩,⟨(some 15),(.mv (.t 103)),none,[]⟩])
 (.seq (.reg [⟨(some 104),(.mv (.t 15)),none,[]⟩,⟨(some 1),(.mv (.t 104)),none,[]⟩])
 (.exit 1))) .skip))
 (.seq (.reg [⟨(some 106),(.mv (.t 0)),none,[]⟩,⟨(some 107),(.mv (.t 1)),none,[]⟩,⟨(some 108),(.mv (.t 2)),none,[]⟩,⟨(some 109),(.mv (.t 13)),none,[]⟩,⟨(some 110),(.mv (.t 4)),none,[]⟩,⟨(some 111),(.call 215 [(.t 106),(.t 107),(.t 108),(.t 109),(.t 110)]),none,[]⟩,⟨(some 105),(.mv (.t 111)),none,[]⟩,⟨(some 112),(.ex (.t 105) 0),none,[]⟩,⟨(some 113),(.ex (.t 105) 1),none,[]⟩,⟨(some 16),(.mv (.t 112)),none,[]⟩,⟨(some 17),(.mv (.t 113)),none,[]⟩])
 (.seq (.reg [⟨(some 114),(.mv (.t 17)),none,[]⟩,⟨(some 11),(.mv (.t 114)),none,[]⟩])
 (.seq (.reg [⟨(some 115),(.mv (.t 16)),none,[]⟩,⟨(some 116),(.mv (.t 1)),none,[]⟩,⟨(some 117),(.bi .sub (.t 115) (.t 116)),none,[]⟩,⟨(some 118),(.mv (.t 2)),none,[]⟩,⟨(some 119),(.mv (.t 16)),none,[]⟩,⟨(some 120),(.bi .sub (.t 118) (.t 119)),none,[]⟩,⟨(some 18),(.mv (.t 117)),none,[]⟩,⟨(some 19),(.mv (.t 120)),none,[]⟩])
 (.seq (.reg [⟨(some 121),(.mv (.t 12)),none,[]⟩,⟨(some 122),(.bi .quo (.t 121) (.c (.i .i64 8))),none,[]⟩,⟨(some 20),(.mv (.t 122)),none,[]⟩])
 (.seq (.reg [⟨(some 123),(.mv (.t 18)),none,[]⟩,⟨(some 124),(.mv (.t 19)),none,[]⟩,⟨(some 125),(.bi .lss (.t 123) (.t 124)),none,[]⟩])
 (.cond (.t 125) (.seq (.reg [⟨(some 126),(.mv (.t 18)),none,[]⟩,⟨(some 127),(.mv (.t 20)),none,[]⟩,⟨(some 128),(.bi .geq (.t 126) (.t 127)),none,[]⟩,⟨(some 10),(.mv (.t 128)),none,[]⟩])
 (.seq (.reg [⟨(some 129),(.mv (.t 0)),none,[]⟩,⟨(some 130),(.mv (.t 1)),none,[]⟩,⟨(some 131),(.mv (.t 16)),none,[]⟩,⟨(some 132),(.mv (.t 3)),none,[]⟩,⟨(some 133),(.mv (.t 4)),none,[]⟩,⟨(some 134),(.call 185 [(.t 129),(.t 130),(.t 131),(.t 132),(.t 133)]),none,[]⟩])
 (.reg [⟨(some 135),(.mv (.t 16)),none,[]⟩,⟨(some 136),(.bi .add (.t 135) (.c (.i .i64 1))),none,[]⟩,⟨(some 1),(.mv (.t 136)),none,[]⟩]))) (.seq (.reg [⟨(some 137),(.mv (.t 19)),none,[]⟩,⟨(some 138),(.mv (.t 20)),none,[]⟩,⟨(some 139),(.bi .geq (.t 137) (.t 138)),none,[]⟩,⟨(some 10),(.mv (.t 139)),none,[]⟩])
 (.seq (.reg [⟨(some 140),(.mv (.t 0)),none,[]⟩,⟨(some 141),(.mv (.t 16)),none,[]⟩,⟨(some 142),(.bi .add (.t 141) (.c (.i .i64 1))),none,[]⟩,⟨(some 143),(.mv (.t 2)),none,[]⟩,⟨(some 144),(.mv (.t 3)),none,[]⟩,⟨(some 145),(.mv (.t 4)),none,[]⟩,⟨(some 146),(.call 185 [(.t 140),(.t 142),(.t 143),(.t 144),(.t 145)]),none,[]⟩])
 (.reg [⟨(some 147),(.mv (.t 16)),none,[]⟩,⟨(some 2),(.mv (.t 147)),none,[]⟩])))))))))))))))))))))) }
noncomputable def f186 : AFn := { np := 1, nt := 8, res := [.t 2], body :=
 (.seq (.reg [⟨(some 2),(.mv (.c (.i .i64 0))),none,[]⟩])
 (.seq (.cond (.c (.b false)) (.seq (.reg [⟨(some 3),(.mv (.t 0)),none,[]⟩,⟨(some 4),(.cvi .u32 (.t 3)),none,[]⟩,⟨(some 5),(.call 216 [(.t 4)]),none,[]⟩,⟨(some 2),(.mv (.t 5)),none,[]⟩])
 .ret) .skip)
 (.seq (.reg [⟨(some 6),(.mv (.t 0)),none,[]⟩,⟨(some 7),(.call 217 [(.t 6)]),none,[]⟩,⟨(some 2),(.mv (.t 7)),none,[]⟩])
 .ret))) }
noncomputable def f188 : AFn := { np := 2, nt := 54, res := [.t 4,.t 5], body :=
 (.seq (.reg [⟨(some 4),(.mv (.c (.i .i64 0))),none,[]⟩,⟨(some 5),(.mv (.c (.b false))),none,[]⟩])
 (.seq (.reg [⟨(some 10),(.mv (.t 0)),none,[]⟩,⟨(some 11),(.lns false (.t 10)),none,[]⟩,⟨(some 6),(.mv (.t 11)),none,[]⟩])
 (.seq (.reg [⟨(some 12),(.mv (.t 6)),none,[]⟩,⟨(some 7),(.mv (.c (.i .i64 0))),none,[]⟩,⟨(some 8),(.mv (.t 12)),none,[]⟩])
 (.seq (.blk 0 (.loop (.seq (.seq (.reg [⟨(some 13),(.mv (.t 7)),none,[]⟩,⟨(some 14),(.mv (.t 8)),none,[]⟩,⟨(some 15),(.bi .lss (.t 13) (.t 14)),none,[]⟩])
 (.cond (.t 15) .skip (.exit 0)))
 (.blk 1 (.seq (.reg [⟨(some 16),(.mv (.t 7)),none,[]⟩,⟨(some 17),(.mv (.t 8)),none,[]⟩,⟨(some 18),(.bi .add (.t 16) (.t 17)),none,[]⟩,⟨(some 19),(.cvi .u64 (.t 18)),none,[]⟩,⟨(some 20),(.bi .shr (.t 19) (.c (.i .u64 1))),none,[]⟩,⟨(some 21),(.cvi .i64 (.t 20)),none,[]⟩,⟨(some 9),(.mv (.t 21)),none,[]⟩])
 (.seq (.reg [⟨(some 22),(.mv (.t 0)),none,[]⟩,⟨(some 23),(.mv (.t 9)),none,[]⟩,⟨(some 24),(.ias 1 (.t 22) (.t 23)),none,[]⟩,⟨(some 25),(.ld (.t 24)),none,[]⟩,⟨(some 26),(.mv (.t 1)),none,[]⟩,⟨(some 27),(.call 218 [(.t 25),(.t 26)]),none,[]⟩])
 (.cond (.t 27) (.reg [⟨(some 28),(.mv (.t 9)),none,[]⟩,⟨(some 29),(.bi .add (.t 28) (.c (.i .i64 1))),none,[]⟩,⟨(some 7),(.mv (.t 29)),none,[]⟩]) (.reg [⟨(some 30),(.mv (.t 9)),none,[]⟩,⟨(some 8),(.mv (.t 30)),none,[]⟩]))))))))
 (.seq (.reg [⟨(some 31),(.mv (.t 7)),none,[]⟩,⟨(some 32),(.mv (.t 7)),none,[]⟩,⟨(some 33),(.mv (.t 6)),none,[]⟩,⟨(some 34),(.bi .lss (.t 32) (.t 33)),none,[]⟩,⟨(some 35),(.mv (.t 34)),none,[]⟩,⟨(some 36),(.mv (.t 0)),(some (35,true)),[]⟩,⟨(some 37),(.mv (.t 7)),(some (35,true)),[]⟩,⟨(some 38),(.ias 1 (.t 36) (.t 37)),(some (35,true)),[]⟩,⟨(some 39),(.ld (.t 38)),(some (35,true)),[]⟩,⟨(some 40),(.mv (.t 1)),(some (35,true)),[]⟩,⟨(some 41),(.bi .eql (.t 39) (.t 40)),(some (35,true)),[]⟩,⟨(some 42),(.mv (.t 41)),(some (35,true)),[]⟩,⟨(some 43),(.mv (.t 0)),(some (42,false)),[]⟩,⟨(some 44),(.mv (.t 7)),(some (42,false)),[]⟩,⟨(some 45),(.ias 1 (.t 43) (.t 44)),(some (42,false)),[]⟩,⟨(some 46),(.ld (.t 45)),(some (42,false)),[]⟩,⟨(some 47),(.call 219 [(.t 46)]),(some (42,false)),[]⟩,⟨(some 48),(.mv (.t 47)),(some (42,false)),[]⟩,⟨(some 49),(.mv (.t 1)),(some (48,true)),[]⟩,⟨(some 50),(.call 219 [(.t 49)]),(some (48,true)),[]⟩,⟨(some 51),(.pk (.t 48) (.t 50) (.c (.b false))),(some (42,false)),[]⟩,⟨(some 52),(.pk (.t 42) (.c (.b true)) (.t 51)),(some (35,true)),[]⟩,⟨(some 53),(.pk (.t 35) (.t 52) (.c (.b false))),none,[]⟩,⟨(some 4),(.mv (.t 31)),none,[]⟩,⟨(some 5),(.mv (.t 53)),none,[]⟩])
 .ret))))) }
noncomputable def f189 : AFn := { np := 3, nt := 95, res := [.t 6], body :=
 (.seq (.reg [⟨(some 6),(.mv (.c .nsl)),none,[]⟩])
 (.seq (.reg [⟨(some 10),(.mv (.t 0)),none,[]⟩,⟨(some 11),(.mv (.t 1)),none,[]⟩,⟨(some 12),(.sll 1 (.t 10) (some (.t 11)) none none),none,[]⟩])
 (.seq (.reg [⟨(some 13),(.mv (.t 2)),none,[]⟩,⟨(some 14),(.lns false (.t 13)),none,[]⟩,⟨(some 7),(.mv (.t 14)),none,[]⟩])
 (.seq (.seq (.reg [⟨(some 15),(.mv (.t 7)),none,[]⟩,⟨(some 16),(.bi .eql (.t 15) (.c (.i .i64 0))),none,[]⟩])
 (.cond (.t 16) (.seq (.reg [⟨(some 17),(.mv (.t 0)),none,[]⟩,⟨(some 6),(.mv (.t 17)),none,[]⟩])
 .ret) .skip))
 (.seq (.reg [⟨(some 18),(.mv (.t 0)),none,[]⟩,⟨(some 19),(.lns false (.t 18)),none,[]⟩,⟨(some 8),(.mv (.t 19)),none,[]⟩])
 (.seq (.seq (.reg [⟨(some 20),(.mv (.t 1)),none,[]⟩,⟨(some 21),(.mv (.t 8)),none,[]⟩,⟨(some 22),(.bi .eql (.t 20) (.t 21)),none,[]⟩])
 (.cond (.t 22) (.seq (.reg [⟨(some 23),(.mv (.t 0)),none,[]⟩,⟨(some 24),(.mv (.t 2)),none,[]⟩,⟨(some 25),(.ap 1 (.t 23) (.t 24)),none,[]⟩,⟨(some 6),(.mv (.t 25)),none,[]⟩])
 .ret) .skip))
 (.seq (.seq (.reg [⟨(some 26),(.mv (.t 8)),none,[]⟩,⟨(some 27),(.mv (.t 7)),none,[]⟩,⟨(some 28),(.bi .add (.t 26) (.t 27)),none,[]⟩,⟨(some 29),(.mv (.t 0)),none,[]⟩,⟨(some 30),(.cp (.t 29)),none,[]⟩,⟨(some 31),(.bi .gtr (.t 28) (.t 30)),none,[]⟩])
 (.cond (.t 31) (.seq (.reg [⟨(some 32),(.mv (.t 0)),none,[]⟩,⟨(some 33),(.mv (.t 1)),none,[]⟩,⟨(some 34),(.sll 1 (.t 32) none (some (.t 33)) none),none,[]⟩,⟨(some 35),(.mv (.t 8)),none,[]⟩,⟨(some 36),(.mv (.t 7)),none,[]⟩,⟨(some 37),(.bi .add (.t 35) (.t 36)),none,[]⟩,⟨(some 38),(.mv (.t 1)),none,[]⟩,⟨(some 39),(.bi .sub (.t 37) (.t 38)),none,[]⟩,⟨(some 40),(.apz 1 8 [(.i .u64 0)] (.t 34) (.t 39)),none,[]⟩,⟨(some 9),(.mv (.t 40)),none,[]⟩])
 (.seq (.reg [⟨(some 41),(.mv (.t 9)),none,[]⟩,⟨(some 42),(.mv (.t 1)),none,[]⟩,⟨(some 43),(.sll 1 (.t 41) (some (.t 42)) none none),none,[]⟩,⟨(some 44),(.mv (.t 2)),none,[]⟩,⟨(some 45),(.cpy 1 (.t 43) (.t 44)),none,[]⟩])
 (.seq (.drw [⟨(some 46),(.mv (.t 9)),none,[]⟩,⟨(some 47),(.mv (.t 1)),none,[]⟩,⟨(some 48),(.mv (.t 7)),none,[]⟩,⟨(some 49),(.bi .add (.t 47) (.t 48)),none,[]⟩,⟨(some 50),(.sll 1 (.t 46) (some (.t 49)) none none),none,[]⟩,⟨(some 51),(.mv (.t 0)),none,[]⟩,⟨(some 52),(.mv (.t 1)),none,[]⟩,⟨(some 53),(.sll 1 (.t 51) (some (.t 52)) none none),none,[]⟩,⟨(some 54),(.cpy 1 (.t 50) (.t 53)),none,[]⟩])
 (.seq (.reg [⟨(some 55),(.mv (.t 9)),none,[]⟩,⟨(some 6),(.mv (.t 55)),none,[]⟩])
 .ret)))) .skip))
 (.seq (.reg [⟨(some 56),(.mv (.t 0)),none,[]⟩,⟨(some 57),(.mv (.t 8)),none,[]⟩,⟨(some 58),(.mv (.t 7)),none,[]⟩,⟨(some 59),(.bi .add (.t 57) (.t 58)),none,[]⟩,⟨(some 60),(.sll 1 (.t 56) none (some (.t 59)) none),none,[]⟩,⟨(some 0),(.mv (.t 60)),none,[]⟩])
 (.seq (.seq (.reg [⟨(some 61),(.mv (.t 2)),none,[]⟩,⟨(some 62),(.mv (.t 0)),none,[]⟩,⟨(some 63),(.mv (.t 1)),none,[]⟩,⟨(some 64),(.mv (.t 7)),none,[]⟩,⟨(some 65),(.bi .add (.t 63) (.t 64)),none,[]⟩,⟨(some 66),(.sll 1 (.t 62) (some (.t 65)) none none),none,[]⟩,⟨(some 67),(.call 220 [(.t 61),(.t 66)]),none,[]⟩,⟨(some 68),(.un .not (.t 67)),none,[]⟩])
 (.cond (.t 68) (.seq (.drw [⟨(some 69),(.mv (.t 0)),none,[]⟩,⟨(some 70),(.mv (.t 1)),none,[]⟩,⟨(some 71),(.mv (.t 7)),none,[]⟩,⟨(some 72),(.bi .add (.t 70) (.t 71)),none,[]⟩,⟨(some 73),(.sll 1 (.t 69) (some (.t 72)) none none),none,[]⟩,⟨(some 74),(.mv (.t 0)),none,[]⟩,⟨(some 75),(.mv (.t 1)),none,[]⟩,⟨(some 76),(.sll 1 (.t 74) (some (.t 75)) none none),none,[]⟩,⟨(some 77),(.cpy 1 (.t 73) (.t 76)),none,[]⟩])
 (.seq (.reg [⟨(some 78),(.mv (.t 0)),none,[]⟩,⟨(some 79),(.mv (.t 1)),none,[]⟩,⟨(some 80),(.sll 1 (.t 78) (some (.t 79)) none none),none,[]⟩,⟨(some 81),(.mv (.t 2)),none,[]⟩,⟨(some 82),(.cpy 1 (.t 80) (.t 81)),none,[]⟩])
 (.seq (.reg [⟨(some 83),(.mv (.t 0)),none,[]⟩,⟨(some 6),(.mv (.t 83)),none,[]⟩])
 .ret))) .skip))
 (.seq (.reg [⟨(some 84),(.mv (.t 0)),none,[]⟩,⟨(some 85),(.mv (.t 8)),none,[]⟩,⟨(some 86),(.sll 1 (.t 84) (some (.t 85)) none none),none,[]⟩,⟨(some 87),(.mv (.t 2)),none,[]⟩,⟨(some 88),(.cpy 1 (.t 86) (.t 87)),none,[]⟩])
 (.seq (.reg [⟨(some 89),(.mv (.t 0)),none,[]⟩,⟨(some 90),(.mv (.t 1)),none,[]⟩,⟨(some 91),(.sll 1 (.t 89) (some (.t 90)) none none),none,[]⟩,⟨(some 92),(.mv (.t 7)),none,[]⟩,⟨(some 93),(.call 221 [(.t 91),(.t 92)]),none,[]⟩])
 (.seq (.reg [⟨(some 94),(.mv (.t 0)),none,[]⟩,⟨(some 6),(.mv (.t 94)),none,[]⟩])
 .ret)))))))))))) }
noncomputable def f192 : AFn := { np := 3, nt := 22, res := [.t 6,.t 7], body :=
 (.seq (.reg [⟨(some 6),(.mv (.c .np)),none,[]⟩,⟨(some 7),(.mv (.c (.b false))),none,[]⟩])
 (.seq (.seq (.reg [⟨(some 8),(.mv (.t 0)),none,[]⟩,⟨(some 9),(.mv (.t 1)),none,[]⟩,⟨(some 10),(.call 144 [(.t 8),(.t 9)]),none,[]⟩,⟨(some 11),(.un .not (.t 10)),none,[]⟩])
 (.cond (.t 11) (.seq (.reg [⟨(some 6),(.mv (.c .np)),none,[]⟩,⟨(some 7),(.mv (.c (.b false))),none,[]⟩])
 .ret) .skip))
 (.seq (.reg [⟨(some 12),(.mv (.t 0)),none,[]⟩,⟨(some 13),(.nc (.t 12)),none,[]⟩,⟨(some 14),(.fa (.t 13) 1),none,[]⟩,⟨(some 15),(.ld (.t 14)),none,[]⟩,⟨(some 16),(.mv (.t 1)),none,[]⟩,⟨(some 17),(.mv (.t 2)),none,[]⟩,⟨(some 18),(.bl [(.i .i64 0),(.i .u64 0)] [(0,1,(.t 16)),(1,1,(.t 17))]),none,[]⟩,⟨(some 19),(.call 197 [(.t 15),(.t 18)]),none,[]⟩,⟨(some 20),(.ex (.t 19) 0),none,[]⟩,⟨(some 21),(.ex (.t 19) 1),none,[]⟩,⟨(some 6),(.mv (.t 20)),none,[]⟩,⟨(some 7),(.mv (.t 21)),none,[]⟩])
 .ret))) }
noncomputable def f193 : AFn := { np := 3, nt := 16, res := [.t 6], body :=
 (.seq (.reg [⟨(some 6),(.mv (.c .nsl)),none,[]⟩])
 (.seq (.seq (.reg [⟨(some 7),(.mv (.t 0)),none,[]⟩,⟨(some 8),(.eq false .ptr (.t 7) (.c .np)),none,[]⟩])
 (.cond (.t 8) (.seq (.reg [⟨(some 6),(.mv (.c .nsl)),none,[]⟩])
 .ret) .skip))
 (.seq (.reg [⟨(some 9),(.mv (.t 0)),none,[]⟩,⟨(some 10),(.nc (.t 9)),none,[]⟩,⟨(some 11),(.fa (.t 10) 1),none,[]⟩,⟨(some 12),(.ld (.t 11)),none,[]⟩,⟨(some 13),(.mv (.t 1)),none,[]⟩,⟨(some 14),(.mv (.t 2)),none,[]⟩,⟨(some 15),(.call 223 [(.t 12),(.t 13),(.t 14)]),none,[]⟩,⟨(some 6),(.mv (.t 15)),none,[]⟩])
 .ret))) }
noncomputable def f194 : AFn := { np := 2, nt := 51, res := [.t 4,.t 5], body :=
 (.seq (.reg [⟨(some 4),(.mv (.c (.i .u64 0))),none,[]⟩,⟨(some 5),(.mv (.c (.i .u64 0))),none,[]⟩])
 (.seq (.reg [⟨(some 14),(.mv (.t 0)),none,[]⟩,⟨(some 15),(.bi .and (.t 14) (.c (.i .u64 4294967295))),none,[]⟩,⟨(some 6),(.mv (.t 15)),none,[]⟩])
 (.seq (.reg [⟨(some 16),(.mv (.t 0)),none,[]⟩,⟨(some 17),(.bi .shr (.t 16) (.c (.i .u64 32))),none,[]⟩,⟨(some 7),(.mv (.t 17)),none,[]⟩])
 (.seq (.reg [⟨(some 18),(.mv (.t 1)),none,[]⟩,⟨(some 19),(.bi .and (.t 18) (.c (.i .u64 4294967295))),none,[]⟩,⟨(some 8),(.mv (.t 19)),none,[]⟩])
 (.seq (.reg [⟨(some 20),(.mv (.t 1)),none,[]⟩,⟨(some 21),(.bi .shr (.t 20) (.c (.i .u64 32))),none,[]⟩,⟨(some 9),(.mv (.t 21)),none,[]⟩])
 (.seq (.reg [⟨(some 22),(.mv (.t 6)),none,[]⟩,⟨(some 23),(.mv (.t 8)),none,[]⟩,⟨(some 24),(.bi .mul (.t 22) (.t 23)),none,[]⟩,⟨(some 10),(.mv (.t 24)),none,[]⟩])
 (.seq (.reg [⟨(some 25),(.mv (.t 7)),none,[]⟩,⟨(some 26),(.mv (.t 8)),none,[]⟩,⟨(some 27),(.bi .mul (.t 25) (.t 26)),none,[]⟩,⟨(some 28),(.mv (.t 10)),none,[]⟩,⟨(some 29),(.bi .shr (.t 28) (.c (.i .u64 32))),none,[]⟩,⟨(some 30),(.bi .add (.t 27) (.t 29)),none,[]⟩,⟨(some 11),(.mv (.t 30)),none,[]⟩])
 (.seq (.reg [⟨(some 31),(.mv (.t 11)),none,[]⟩,⟨(some 32),(.bi .and (.t 31) (.c (.i .u64 4294967295))),none,[]⟩,⟨(some 12),(.mv (.t 32)),none,[]⟩])
 (.seq (.reg [⟨(some 33),(.mv (.t 11)),none,[]⟩,⟨(some 34),(.bi .shr (.t 33) (.c (.i .u64 32))),none,[]⟩,⟨(some 13),(.mv (.t 34)),none,[]⟩])
 (.seq (.reg [⟨(some 35),(.mv (.t 12)),none,[]⟩,⟨(some 36),(.mv (.t 6)),none,[]⟩,⟨(some 37),(.mv (.t 9)),none,[]⟩,⟨(some 38),(.bi .mul (.t 36) (.t 37)),none,[]⟩,⟨(some 39),(.bi .add (.t 35) (.t 38)),none,[]⟩,⟨(some 12),(.mv (.t 39)),none,[]⟩])
 (.seq (.reg [⟨(some 40),(.mv (.t 7)),none,[]⟩,⟨(some 41),(.mv (.t 9)),none,[]⟩,⟨(some 42),(.bi .mul (.t 40) (.t 41)),none,[]⟩,⟨(some 43),(.mv (.t 13)),none,[]⟩,⟨(some 44),(.bi .add (.t 42) (.t 43)),none,[]⟩,⟨(some 45),(.mv (.t 12)),none,[]⟩,⟨(some 46),(.bi .shr (.t 45) (.c (.i .u64 32))),none,[]⟩,⟨(some 47),(.bi .add (.t 44) (.t 46)),none,[]⟩,⟨(some 4),(.mv (.t 47)),none,[]⟩])
 (.seq (.reg [⟨(some 48),(.mv (.t 0)),none,[]⟩,⟨(some 49),(.mv (.t 1)),none,[]⟩,⟨(some 50),(.bi .mul (.t 48) (.t 49)),none,[]⟩,⟨(some 5),(.mv (.t 50)),none,[]⟩])
 .ret)))))))))))) }
noncomputable def f197 : AFn := { np := 2, nt := 24, res := [.t 4,.t 5], body :=
 (.seq (.reg [⟨(some 3),(.bx (.t 1)),none,[]⟩,⟨(some 4),(.mv (.c .np)),none,[]⟩,⟨(some 5),(.mv (.c (.b false))),none,[]⟩])
 (.seq (.reg [⟨(some 8),(.mv (.t 0)),none,[]⟩,⟨(some 9),(.ldn (.t 3) 2),none,[]⟩,⟨(some 10),(.call 206 [(.t 8),(.t 9)]),none,[]⟩,⟨(some 7),(.mv (.t 10)),none,[]⟩,⟨(some 11),(.ex (.t 7) 0),none,[]⟩,⟨(some 12),(.ex (.t 7) 1),none,[]⟩,⟨(some 6),(.mv (.t 11)),none,[]⟩,⟨(some 5),(.mv (.t 12)),none,[]⟩])
 (.seq (.seq (.reg [⟨(some 13),(.mv (.t 5)),none,[]⟩])
 (.cond (.t 13) (.reg [⟨(some 14),(.mv (.t 0)),none,[]⟩,⟨(some 15),(.nc (.t 14)),none,[]⟩,⟨(some 16),(.fa (.t 15) 2),none,[]⟩,⟨(some 17),(.ld (.t 16)),none,[]⟩,⟨(some 18),(.mv (.t 6)),none,[]⟩,⟨(some 19),(.ias 4 (.t 17) (.t 18)),none,[]⟩,⟨(some 20),(.fa (.t 19) 3),none,[]⟩,⟨(some 21),(.ld (.t 20)),none,[]⟩,⟨(some 4),(.mv (.t 21)),none,[]⟩]) .skip))
 (.seq (.reg [⟨(some 22),(.mv (.t 4)),none,[]⟩,⟨(some 23),(.mv (.t 5)),none,[]⟩,⟨(some 4),(.mv (.t 22)),none,[]⟩,⟨(some 5),(.mv (.t 23)),none,[]⟩])
 .ret)))) }
noncomputable def f198 : AFn := { np := 1, nt := 10, res := [.t 2], body :=
 (.seq (.reg [⟨(some 2),(.mv (.c (.i .i64 0))),none,[]⟩])
 (.seq (.seq (.reg [⟨(some 3),(.mv (.t 0)),none,[]⟩,⟨(some 4),(.eq false .ptr (.t 3) (.c .np)),none,[]⟩])
 (.cond (.t 4) (.seq (.reg [⟨(some 2),(.mv (.c (.i .i64 0))),none,[]⟩])
 .ret) .skip))
 (.seq (.reg [⟨(some 5),(.mv (.t 0)),none,[]⟩,⟨(some 6),(.nc (.t 5)),none,[]⟩,⟨(some 7),(.fa (.t 6) 0),none,[]⟩,⟨(some 8),(.ld (.t 7)),none,[]⟩,⟨(some 9),(.lns false (.t 8)),none,[]⟩,⟨(some 2),(.mv (.t 9)),none,[]⟩])
 .ret))) }
noncomputable def f199 : AFn := { np := 2, nt := 38, res := [.t 4,.t 5], body :=
 (.seq (.reg [⟨(some 4),(.mv (.c .np)),none,[]⟩,⟨(some 5),(.mv (.c (.i .i64 0))),none,[]⟩])
 (.seq (.blk 0 (.seq (.reg [⟨(some 9),(.mv (.t 0)),none,[]⟩,⟨(some 10),(.bi .lss (.t 9) (.c (.i .i64 0))),none,[]⟩,⟨(some 11),(.mv (.t 10)),none,[]⟩,⟨(some 12),(.mv (.t 0)),(some (11,false)),[]⟩,⟨(some 13),(.bi .gtr (.t 12) (.c (.i .i64 1073741824))),(some (11,false)),[]⟩,⟨(some 14),(.pk (.t 11) (.c (.b true)) (.t 13)),none,[]⟩,⟨(some 15),(.mv (.t 14)),none,[]⟩,⟨(some 16),(.mv (.t 1)),(some (15,false)),[]⟩,⟨(some 17),(.bi .lss (.t 16) (.c (.i .i64 0))),(some (15,false)),[]⟩,⟨(some 18),(.pk (.t 15) (.c (.b true)) (.t 17)),none,[]⟩,⟨(some 19),(.mv (.t 18)),none,[]⟩,⟨(some 20),(.mv (.t 1)),(some (19,false)),[]⟩,⟨(some 21),(.bi .gtr (.t 20) (.c (.i .i64 1073741824))),(some (19,false)),[]⟩,⟨(some 22),(.pk (.t 19) (.c (.b true)) (.t 21)),none,[]⟩,⟨(some 8),(.mv (.t 22)),none,[]⟩])
 (.cond (.t 8) (.seq (.reg [⟨(some 4),(.mv (.c .np)),none,[]⟩,⟨(some 5),(.mv (.c (.i .i64 1))),none,[]⟩])
 .ret) (.seq (.reg [⟨(some 24),(.mv (.t 0)),none,[]⟩,⟨(some 25),(.mv (.t 1)),none,[]⟩,⟨(some 26),(.bi .gtr (.t 24) (.t 25)),none,[]⟩,⟨(some 23),(.mv (.t 26)),none,[]⟩])
 (.cond (.t 23) (.seq (.reg [⟨(some 4),(.mv (.c .np)),none,[]⟩,⟨(some 5),(.mv (.c (.i .i64 3))),none,[]⟩])
 .ret) .skip)))))
 (.seq (.reg [⟨(some 28),(.mv (.t 0)),none,[]⟩,⟨(some 29),(.call 224 [(.t 28)]),none,[]⟩,⟨(some 27),(.mv (.t 29)),none,[]⟩,⟨(some 30),(.ex (.t 27) 0),none,[]⟩,⟨(some 31),(.ex (.t 27) 1),none,[]⟩,⟨(some 6),(.mv (.t 30)),none,[]⟩,⟨(some 7),(.mv (.t 31)),none,[]⟩])
 (.seq (.reg [⟨(some 32),(.mv (.t 0)),none,[]⟩,⟨(some 33),(.mks 1 1 [(.i .u8 0)] (.t 32) (.t 32)),none,[]⟩,⟨(some 34),(.mv (.t 6)),none,[]⟩,⟨(some 35),(.bl [.nsl,.np] [(0,1,(.t 33)),(1,1,(.t 34))]),none,[]⟩,⟨(some 36),(.bx (.t 35)),none,[]⟩,⟨(some 37),(.mv (.t 7)),none,[]⟩,⟨(some 4),(.mv (.t 36)),none,[]⟩,⟨(some 5),(.mv (.t 37)),none,[]⟩])
 .ret)))) }
noncomputable def f200 : AFn := { np := 3, nt := 63, res := [.t 6], body :=
 (.seq (.reg [⟨(some 4),(.bx (.t 1)),none,[]⟩,⟨(some 6),(.mv (.c (.i .i64 0))),none,[]⟩])
 (.seq (.reg [⟨(some 10),(.mv (.t 0)),none,[]⟩,⟨(some 11),(.ldn (.t 4) 2),none,[]⟩,⟨(some 12),(.call 206 [(.t 10),(.t 11)]),none,[]⟩,⟨(some 9),(.mv (.t 12)),none,[]⟩,⟨(some 13),(.ex (.t 9) 0),none,[]⟩,⟨(some 14),(.ex (.t 9) 1),none,[]⟩,⟨(some 7),(.mv (.t 13)),none,[]⟩,⟨(some 8),(.mv (.t 14)),none,[]⟩])
 (.seq (.blk 0 (.seq (.reg [⟨(some 16),(.mv (.t 8)),none,[]⟩,⟨(some 15),(.mv (.t 16)),none,[]⟩])
 (.cond (.t 15) (.seq (.reg [⟨(some 6),(.mv (.c (.i .i64 6))),none,[]⟩])
 .ret) (.seq (.drw [⟨(some 18),(.mv (.t 0)),none,[]⟩,⟨(some 19),(.eq false .ptr (.t 18) (.c .np)),none,[]⟩,⟨(some 20),(.mv (.t 19)),none,[]⟩,⟨(some 21),(.mv (.t 0)),(some (20,false)),[]⟩,⟨(some 22),(.nc (.t 21)),(some (20,false)),[]⟩,⟨(some 23),(.fa (.t 22) 1),(some (20,false)),[]⟩,⟨(some 24),(.ld (.t 23)),(some (20,false)),[]⟩,⟨(some 25),(.mv (.t 0)),(some (20,false)),[]⟩,⟨(some 26),(.nc (.t 25)),(some (20,false)),[]⟩,⟨(some 27),(.fa (.t 26) 0),(some (20,false)),[]⟩,⟨(some 28),(.ld (.t 27)),(some (20,false)),[]⟩,⟨(some 29),(.bi .geq (.t 24) (.t 28)),(some (20,false)),[]⟩,⟨(some 30),(.pk (.t 20) (.c (.b true)) (.t 29)),none,[]⟩,⟨(some 17),(.mv (.t 30)),none,[]⟩])
 (.cond (.t 17) (.seq (.reg [⟨(some 6),(.mv (.c (.i .i64 4))),none,[]⟩])
 .ret) .skip)))))
 (.seq (.seq (.drw [⟨(some 31),(.mv (.t 0)),none,[]⟩,⟨(some 32),(.nc (.t 31)),none,[]⟩,⟨(some 33),(.fa (.t 32) 1),none,[]⟩,⟨(some 34),(.ld (.t 33)),none,[]⟩,⟨(some 35),(.bi .add (.t 34) (.c (.i .i64 1))),none,[]⟩,⟨(some 36),(.bi .mul (.c (.i .i64 2)) (.t 35)),none,[]⟩,⟨(some 37),(.mv (.t 0)),none,[]⟩,⟨(some 38),(.nc (.t 37)),none,[]⟩,⟨(some 39),(.fa (.t 38) 2),none,[]⟩,⟨(some 40),(.ld (.t 39)),none,[]⟩,⟨(some 41),(.lns false (.t 40)),none,[]⟩,⟨(some 42),(.bi .gtr (.t 36) (.t 41)),none,[]⟩])
 (.cond (.t 42) (.reg [⟨(some 43),(.mv (.t 0)),none,[]⟩,⟨(some 44),(.call 225 [(.t 43)]),none,[]⟩]) .skip))
 (.seq (.drw [⟨(some 45),(.mv (.t 0)),none,[]⟩,⟨(some 46),(.nc (.t 45)),none,[]⟩,⟨(some 47),(.fa (.t 46) 2),none,[]⟩,⟨(some 48),(.ld (.t 47)),none,[]⟩,⟨(some 49),(.mv (.t 0)),none,[]⟩,⟨(some 50),(.ldn (.t 4) 2),none,[]⟩,⟨(some 52),(.ldn (.t 4) 2),none,[]⟩,⟨(some 53),(.mv (.t 2)),none,[]⟩,⟨(some 54),(.bl [(.b false),(.i .i64 0),(.i .u64 0),.np] [(0,1,(.c (.b true))),(1,2,(.t 52)),(3,1,(.t 53))]),none,[]⟩,⟨(some 51),(.call 207 [(.t 49),(.t 50)]),none,[(48,(.ld (.t 47)),none),(52,(.ldn (.t 4) 2),none)]⟩,⟨(some 55),(.ias 4 (.t 48) (.t 51)),none,[]⟩,⟨none,(.st (.t 55) (.t 54) 4),none,[]⟩])
 (.seq (.reg [⟨(some 56),(.mv (.t 0)),none,[]⟩,⟨(some 57),(.nc (.t 56)),none,[]⟩,⟨(some 58),(.fa (.t 57) 1),none,[]⟩,⟨(some 59),(.ld (.t 58)),none,[]⟩,⟨(some 60),(.bi .add (.t 59) (.c (.i .i64 1))),none,[]⟩,⟨(some 61),(.nc (.t 56)),none,[]⟩,⟨(some 62),(.fa (.t 61) 1),none,[]⟩,⟨none,(.st (.t 62) (.t 60) 1),none,[]⟩])
 (.seq (.reg [⟨(some 6),(.mv (.c (.i .i64 0))),none,[]⟩])
 .ret))))))) }
noncomputable def f201 : AFn := { np := 1, nt := 10, res := [.t 2], body :=
 (.seq (.reg [⟨(some 2),(.mv (.c .nsl)),none,[]⟩])
 (.seq (.seq (.reg [⟨(some 3),(.mv (.t 0)),none,[]⟩,⟨(some 4),(.eq false .ptr (.t 3) (.c .np)),none,[]⟩])
 (.cond (.t 4) (.seq (.reg [⟨(some 2),(.mv (.c .nsl)),none,[]⟩])
 .ret) .skip))
 (.seq (.reg [⟨(some 5),(.mv (.t 0)),none,[]⟩,⟨(some 6),(.nc (.t 5)),none,[]⟩,⟨(some 7),(.fa (.t 6) 1),none,[]⟩,⟨(some 8),(.ld (.t 7)),none,[]⟩,⟨(some 9),(.call 226 [(.t 8)]),none,[]⟩,⟨(some 2),(.mv (.t 9)),none,[]⟩])
 .ret))) }
noncomputable def f202 : AFn := { np := 3, nt := 91, res := [.t 6,.t 7], body :=
 (.seq (.reg [⟨(some 4),(.bx (.t 1)),none,[]⟩,⟨(some 6),(.mv (.c (.i .i64 0))),none,[]⟩,⟨(some 7),(.mv (.c (.i .i64 0))),none,[]⟩])
 (.seq (.seq (.reg [⟨(some 10),(.mv (.t 0)),none,[]⟩,⟨(some 11),(.ld (.t 4)),none,[]⟩,⟨(some 12),(.mv (.t 2)),none,[]⟩,⟨(some 13),(.call 227 [(.t 10),(.t 11),(.t 12)]),none,[]⟩,⟨(some 14),(.un .not (.t 13)),none,[]⟩])
 (.cond (.t 14) (.seq (.reg [⟨(some 6),(.mv (.c (.i .i64 0))),none,[]⟩,⟨(some 7),(.mv (.c (.i .i64 1))),none,[]⟩])
 .ret) .skip))
 (.seq (.seq (.reg [⟨(some 15),(.mv (.t 0)),none,[]⟩,⟨(some 16),(.ld (.t 4)),none,[]⟩,⟨(some 17),(.mv (.t 2)),none,[]⟩,⟨(some 18),(.call 228 [(.t 15),(.t 16),(.t 17)]),none,[]⟩,⟨(some 6),(.mv (.t 18)),none,[]⟩])
 (.seq (.reg [⟨(some 19),(.mv (.t 6)),none,[]⟩,⟨(some 20),(.bi .eql (.t 19) (.c (.i .i64 0))),none,[]⟩])
 (.cond (.t 20) (.seq (.reg [⟨(some 6),(.mv (.c (.i .i64 0))),none,[]⟩,⟨(some 7),(.mv (.c (.i .i64 0))),none,[]⟩])
 .ret) .skip)))
 (.seq (.reg [⟨(some 21),(.mv (.t 0)),none,[]⟩,⟨(some 22),(.nc (.t 21)),none,[]⟩,⟨(some 23),(.fa (.t 22) 1),none,[]⟩,⟨(some 24),(.ld (.t 23)),none,[]⟩,⟨(some 25),(.mkf 229 [] [(.t 4)]),none,[]⟩,⟨(some 26),(.call 222 [(.t 24),(.t 25)]),none,[]⟩,⟨(some 8),(.mv (.t 26)),none,[]⟩])
 (.seq (.seq (.reg [⟨(some 27),(.mv (.t 8)),none,[]⟩,⟨(some 28),(.bi .lss (.t 27) (.c (.i .i64 0))),none,[]⟩])
 (.cond (.t 28) (.reg [⟨(some 29),(.mv (.t 0)),none,[]⟩,⟨(some 30),(.nc (.t 29)),none,[]⟩,⟨(some 31),(.fa (.t 30) 1),none,[]⟩,⟨(some 32),(.ld (.t 31)),none,[]⟩,⟨(some 33),(.lns false (.t 32)),none,[]⟩,⟨(some 8),(.mv (.t 33)),none,[]⟩]) .skip))
 (.seq (.reg [⟨(some 34),(.mv (.t 8)),none,[]⟩,⟨(some 9),(.mv (.t 34)),none,[]⟩])
 (.seq (.blk 0 (.loop (.seq (.seq (.reg [⟨(some 35),(.mv (.t 9)),none,[]⟩,⟨(some 36),(.mv (.t 0)),none,[]⟩,⟨(some 37),(.nc (.t 36)),none,[]⟩,⟨(some 38),(.fa (.t 37) 1),none,[]⟩,⟨(some 39),(.ld (.t 38)),none,[]⟩,⟨(some 40),(.lns false (.t 39)),none,[]⟩,⟨(some 41),(.bi .lss (.t 35) (.t 40)),none,[]⟩,⟨(some 42),(.mv (.t 41)),none,[]⟩,⟨(some 43),(.mv (.t 0)),(some (42,true)),[]⟩,⟨(some 44),(.nc (.t 43)),(some (42,true)),[]⟩,⟨(some 45),(.fa (.t 44) 1),(some (42,true)),[]⟩,⟨(some 46),(.ld (.t 45)),(some (42,true)),[]⟩,⟨(some 47),(.mv (.t 9)),(some (42,true)),[]⟩,⟨(some 48),(.ias 2 (.t 46) (.t 47)),(some (42,true)),[]⟩,⟨(some 49),(.fa (.t 48) 0),(some (42,true)),[]⟩,⟨(some 50),(.ld (.t 49)),(some (42,true)),[]⟩,⟨(some 51),(.mv (.t 2)),(some (42,true)),[]⟩,⟨(some 52),(.bi .leq (.t 50) (.t 51)),(some (42,true)),[]⟩,⟨(some 53),(.pk (.t 42) (.t 52) (.c (.b false))),none,[]⟩])
 (.cond (.t 53) .skip (.exit 0)))
 (.blk 1 (.seq (.drw [⟨(some 54),(.ld (.t 4)),none,[]⟩,⟨(some 55),(.mv (.t 0)),none,[]⟩,⟨(some 56),(.nc (.t 55)),none,[]⟩,⟨(some 57),(.fa (.t 56) 1),none,[]⟩,⟨(some 58),(.ld (.t 57)),none,[]⟩,⟨(some 59),(.mv (.t 9)),none,[]⟩,⟨(some 60),(.ias 2 (.t 58) (.t 59)),none,[]⟩,⟨(some 61),(.fa (.t 60) 0),none,[]⟩,⟨(some 62),(.ld (.t 61)),none,[]⟩,⟨(some 63),(.mn [(.t 54),(.t 62)]),none,[]⟩,⟨(some 64),(.mv (.t 2)),none,[]⟩,⟨(some 65),(.mv (.t 0)),none,[]⟩,⟨(some 66),(.nc (.t 65)),none,[]⟩,⟨(some 67),(.fa (.t 66) 1),none,[]⟩,⟨(some 68),(.ld (.t 67)),none,[]⟩,⟨(some 69),(.mv (.t 9)),none,[]⟩,⟨(some 70),(.ias 2 (.t 68) (.t 69)),none,[]⟩,⟨(some 71),(.fa (.t 70) 1),none,[]⟩,⟨(some 72),(.ld (.t 71)),none,[]⟩,⟨(some 73),(.mx [(.t 64),(.t 72)]),none,[]⟩,⟨none,(.st (.t 4) (.t 63) 1),none,[(68,(.ld (.t 67)),none),(72,(.ld (.t 71)),none)]⟩,⟨(some 2),(.mv (.t 73)),none,[]⟩])
 (.reg [⟨(some 74),(.mv (.t 9)),none,[]⟩,⟨(some 75),(.bi .add (.t 74) (.c (.i .i64 1))),none,[]⟩,⟨(some 9),(.mv (.t 75)),none,[]⟩]))))))
 (.seq (.drw [⟨(some 76),(.mv (.t 0)),none,[]⟩,⟨(some 77),(.mv (.t 0)),none,[]⟩,⟨(some 78),(.nc (.t 77)),none,[]⟩,⟨(some 79),(.fa (.t 78) 1),none,[]⟩,⟨(some 80),(.ld (.t 79)),none,[]⟩,⟨(some 81),(.mv (.t 8)),none,[]⟩,⟨(some 82),(.mv (.t 9)),none,[]⟩,⟨(some 83),(.ld (.t 4)),none,[]⟩,⟨(some 84),(.mv (.t 2)),none,[]⟩,⟨(some 85),(.bl [(.i .i64 0),(.i .i64 0)] [(0,1,(.t 83)),(1,1,(.t 84))]),none,[]⟩,⟨(some 86),(.bs 1 [(.i .i64 0),(.i .i64 0)] [(0,2,(.t 85))]),none,[]⟩,⟨(some 87),(.call 230 [(.t 80),(.t 81),(.t 82),(.t 86)]),none,[]⟩,⟨(some 88),(.nc (.t 76)),none,[]⟩,⟨(some 89),(.fa (.t 88) 1),none,[]⟩,⟨none,(.st (.t 89) (.t 87) 1),none,[]⟩])
 (.seq (.reg [⟨(some 90),(.mv (.t 6)),none,[]⟩,⟨(some 6),(.mv (.t 90)),none,[]⟩,⟨(some 7),(.mv (.c (.i .i64 0))),none,[]⟩])
 .ret))))))))) }
noncomputable def f203 : AFn := { np := 1, nt := 14, res := [.t 2], body :=
 (.seq (.reg [⟨(some 2),(.mv (.c (.b false))),none,[]⟩])
 (.seq (.drw [⟨(some 3),(.mv (.t 0)),none,[]⟩,⟨(some 4),(.eq true .ptr (.t 3) (.c .np)),none,[]⟩,⟨(some 5),(.mv (.t 4)),none,[]⟩,⟨(some 6),(.mv (.t 0)),(some (5,true)),[]⟩,⟨(some 8),(.mv (.t 0)),(some (5,true)),[]⟩,⟨(some 9),(.nc (.t 8)),(some (5,true)),[]⟩,⟨(some 10),(.fa (.t 9) 0),(some (5,true)),[]⟩,⟨(some 11),(.ld (.t 10)),(some (5,true)),[]⟩,⟨(some 7),(.call 231 [(.t 6)]),(some (5,true)),[(11,(.ld (.t 10)),(some (5,true)))]⟩,⟨(some 12),(.bi .eql (.t 7) (.t 11)),(some (5,true)),[]⟩,⟨(some 13),(.pk (.t 5) (.t 12) (.c (.b false))),none,[]⟩,⟨(some 2),(.mv (.t 13)),none,[]⟩])
 .ret)) }
noncomputable def f204 : AFn := { np := 3, nt := 33, res := [.t 6], body :=
 (.seq (.reg [⟨(some 6),(.mv (.c .nsl)),none,[]⟩])
 (.seq (.reg [⟨(some 8),(.mv (.t 0)),none,[]⟩,⟨(some 9),(.mv (.t 1)),none,[]⟩,⟨(some 10),(.mv (.t 2)),none,[]⟩,⟨(some 11),(.mv (.t 0)),none,[]⟩,⟨(some 12),(.lns false (.t 11)),none,[]⟩,⟨(some 13),(.sll 1 (.t 8) (some (.t 9)) (some (.t 10)) (some (.t 12))),none,[]⟩])
 (.seq (.seq (.reg [⟨(some 14),(.mv (.t 1)),none,[]⟩,⟨(some 15),(.mv (.t 2)),none,[]⟩,⟨(some 16),(.bi .eql (.t 14) (.t 15)),none,[]⟩])
 (.cond (.t 16) (.seq (.reg [⟨(some 17),(.mv (.t 0)),none,[]⟩,⟨(some 6),(.mv (.t 17)),none,[]⟩])
 .ret) .skip))
 (.seq (.reg [⟨(some 18),(.mv (.t 0)),none,[]⟩,⟨(some 19),(.lns false (.t 18)),none,[]⟩,⟨(some 7),(.mv (.t 19)),none,[]⟩])
 (.seq (.drw [⟨(some 20),(.mv (.t 0)),none,[]⟩,⟨(some 21),(.mv (.t 1)),none,[]⟩,⟨(some 22),(.sll 1 (.t 20) none (some (.t 21)) none),none,[]⟩,⟨(some 23),(.mv (.t 0)),none,[]⟩,⟨(some 24),(.mv (.t 2)),none,[]⟩,⟨(some 25),(.sll 1 (.t 23) (some (.t 24)) none none),none,[]⟩,⟨(some 26),(.ap 1 (.t 22) (.t 25)),none,[]⟩,⟨(some 0),(.mv (.t 26)),none,[]⟩])
 (.seq (.reg [⟨(some 27),(.mv (.t 0)),none,[]⟩,⟨(some 28),(.mv (.t 0)),none,[]⟩,⟨(some 29),(.lns false (.t 28)),none,[]⟩,⟨(some 30),(.mv (.t 7)),none,[]⟩,⟨(some 31),(.sll 1 (.t 27) (some (.t 29)) (some (.t 30)) none),none,[]⟩,⟨none,(.cls [(.i .u64 0)] (.t 31)),none,[]⟩])
 (.seq (.reg [⟨(some 32),(.mv (.t 0)),none,[]⟩,⟨(some 6),(.mv (.t 32)),none,[]⟩])
 .ret))))))) }
noncomputable def f206 : AFn := { np := 2, nt := 29, res := [.t 4,.t 5], body :=
 (.seq (.reg [⟨(some 3),(.bx (.t 1)),none,[]⟩,⟨(some 4),(.mv (.c (.i .i64 0))),none,[]⟩,⟨(some 5),(.mv (.c (.b false))),none,[]⟩])
 (.seq (.seq (.reg [⟨(some 7),(.mv (.t 0)),none,[]⟩,⟨(some 8),(.eq false .ptr (.t 7) (.c .np)),none,[]⟩,⟨(some 9),(.mv (.t 8)),none,[]⟩,⟨(some 10),(.mv (.t 0)),(some (9,false)),[]⟩,⟨(some 11),(.nc (.t 10)),(some (9,false)),[]⟩,⟨(some 12),(.fa (.t 11) 2),(some (9,false)),[]⟩,⟨(some 13),(.ld (.t 12)),(some (9,false)),[]⟩,⟨(some 14),(.lns false (.t 13)),(some (9,false)),[]⟩,⟨(some 15),(.bi .eql (.t 14) (.c (.i .i64 0))),(some (9,false)),[]⟩,⟨(some 16),(.pk (.t 9) (.c (.b true)) (.t 15)),none,[]⟩])
 (.cond (.t 16) (.seq (.reg [⟨(some 4),(.mv (.c (.i .i64 0))),none,[]⟩,⟨(some 5),(.mv (.c (.b false))),none,[]⟩])
 .ret) .skip))
 (.seq (.reg [⟨(some 17),(.mv (.t 0)),none,[]⟩,⟨(some 18),(.ldn (.t 3) 2),none,[]⟩,⟨(some 19),(.call 207 [(.t 17),(.t 18)]),none,[]⟩,⟨(some 6),(.mv (.t 19)),none,[]⟩])
 (.seq (.drw [⟨(some 20),(.mv (.t 6)),none,[]⟩,⟨(some 21),(.mv (.t 0)),none,[]⟩,⟨(some 22),(.nc (.t 21)),none,[]⟩,⟨(some 23),(.fa (.t 22) 2),none,[]⟩,⟨(some 24),(.ld (.t 23)),none,[]⟩,⟨(some 25),(.mv (.t 6)),none,[]⟩,⟨(some 26),(.ias 4 (.t 24) (.t 25)),none,[]⟩,⟨(some 27),(.fa (.t 26) 0),none,[]⟩,⟨(some 28),(.ld (.t 27)),none,[]⟩,⟨(some 4),(.mv (.t 20)),none,[]⟩,⟨(some 5),(.mv (.t 28)),none,[]⟩])
 .ret)))) }
noncomputable def f207 : AFn := { np := 2, nt := 38, res := [.t 4], body :=
 (.seq (.reg [⟨(some 3),(.bx (.t 1)),none,[]⟩,⟨(some 4),(.mv (.c (.i .i64 0))),none,[]⟩])
 (.seq (.reg [⟨(some 6),(.mv (.t 0)),none,[]⟩,⟨(some 7),(.ldn (.t 3) 2),none,[]⟩,⟨(some 8),(.call 240 [(.t 6),(.t 7)]),none,[]⟩,⟨(some 5),(.mv (.t 8)),none,[]⟩])
 (.seq (.blk 0 (.loop (.seq (.seq (.drw [⟨(some 9),(.mv (.t 0)),none,[]⟩,⟨(some 10),(.nc (.t 9)),none,[]⟩,⟨(some 11),(.fa (.t 10) 2),none,[]⟩,⟨(some 12),(.ld (.t 11)),none,[]⟩,⟨(some 13),(.mv (.t 5)),none,[]⟩,⟨(some 14),(.ias 4 (.t 12) (.t 13)),none,[]⟩,⟨(some 15),(.fa (.t 14) 0),none,[]⟩,⟨(some 16),(.ld (.t 15)),none,[]⟩,⟨(some 17),(.mv (.t 16)),none,[]⟩,⟨(some 18),(.mv (.t 0)),(some (17,true)),[]⟩,⟨(some 19),(.nc (.t 18)),(some (17,true)),[]⟩,⟨(some 20),(.fa (.t 19) 2),(some (17,true)),[]⟩,⟨(some 21),(.ld (.t 20)),(some (17,true)),[]⟩,⟨(some 22),(.mv (.t 5)),(some (17,true)),[]⟩,⟨(some 23),(.ias 4 (.t 21) (.t 22)),(some (17,true)),[]⟩,⟨(some 24),(.fa (.t 23) 1),(some (17,true)),[]⟩,⟨(some 25),(.ldn (.t 24) 2),(some (17,true)),[]⟩,⟨(some 26),(.ldn (.t 3) 2),(some (17,true)),[]⟩,⟨(some 27),(.eq true (.st [(0,1,false,.int),(1,1,false,.int)]) (.t 25) (.t 26)),(some (17,true)),[]⟩,⟨(some 28),(.pk (.t 17) (.t 27) (.c (.b false))),none,[]⟩])
 (.cond (.t 28) .skip (.exit 0)))
 (.blk 1 (.reg [⟨(some 29),(.mv (.t 5)),none,[]⟩,⟨(some 30),(.bi .add (.t 29) (.c (.i .i64 1))),none,[]⟩,⟨(some 31),(.mv (.t 0)),none,[]⟩,⟨(some 32),(.nc (.t 31)),none,[]⟩,⟨(some 33),(.fa (.t 32) 2),none,[]⟩,⟨(some 34),(.ld (.t 33)),none,[]⟩,⟨(some 35),(.lns false (.t 34)),none,[]⟩,⟨(some 36),(.bi .rem (.t 30) (.t 35)),none,[]⟩,⟨(some 5),(.mv (.t 36)),none,[]⟩])))))
 (.seq (.reg [⟨(some 37),(.mv (.t 5)),none,[]⟩,⟨(some 4),(.mv (.t 37)),none,[]⟩])
 .ret)))) }
noncomputable def f208 : AFn := { np := 4, nt := 53, res := [], body :=
 (.seq (.reg [⟨(some 10),(.mv (.t 1)),none,[]⟩,⟨(some 11),(.bi .add (.t 10) (.c (.i .i64 1))),none,[]⟩,⟨(some 8),(.mv (.t 11)),none,[]⟩])
 (.blk 0 (.loop (.seq (.seq (.reg [⟨(some 12),(.mv (.t 8)),none,[]⟩,⟨(some 13),(.mv (.t 2)),none,[]⟩,⟨(some 14),(.bi .lss (.t 12) (.t 13)),none,[]⟩])
 (.cond (.t 14) .skip (.exit 0)))
 (.seq (.blk 1 (.seq (.reg [⟨(some 17),(.mv (.t 8)),none,[]⟩,⟨(some 9),(.mv (.t 17)),none,[]⟩])
 (.blk 2 (.loop (.seq (.seq (.drw [⟨(some 18),(.mv (.t 9)),none,[]⟩,⟨(some 19),(.mv (.t 1)),none,[]⟩,⟨(some 20),(.bi .gtr (.t 18) (.t 19)),none,[]⟩,⟨(some 21),(.mv (.t 20)),none,[]⟩,⟨(some 22),(.mv (.t 3)),(some (21,true)),[]⟩,⟨(some 23),(.mv (.t 0)),(some (21,true)),[]⟩,⟨(some 24),(.mv (.t 9)),(some (21,true)),[]⟩,⟨(some 25),(.ias 1 (.t 23) (.t 24)),(some (21,true)),[]⟩,⟨(some 26),(.ld (.t 25)),(some (21,true)),[]⟩,⟨(some 27),(.mv (.t 0)),(some (21,true)),[]⟩,⟨(some 28),(.mv (.t 9)),(some (21,true)),[]⟩,⟨(some 29),(.bi .sub (.t 28) (.c (.i .i64 1))),(some (21,true)),[]⟩,⟨(some 30),(.ias 1 (.t 27) (.t 29)),(some (21,true)),[]⟩,⟨(some 31),(.ld (.t 30)),(some (21,true)),[]⟩,⟨(some 32),(.cv (.t 22) [(.t 26),(.t 31)]),(some (21,true)),[]⟩,⟨(some 33),(.bi .lss (.t 32) (.c (.i .i64 0))),(some (21,true)),[]⟩,⟨(some 34),(.pk (.t 21) (.t 33) (.c (.b false))),none,[]⟩])
 (.cond (.t 34) .skip (.exit 2)))
 (.seq (.blk 3 (.drw [⟨(some 37),(.mv (.t 0)),none,[]⟩,⟨(some 38),(.mv (.t 9)),none,[]⟩,⟨(some 39),(.mv (.t 0)),none,[]⟩,⟨(some 40),(.mv (.t 9)),none,[]⟩,⟨(some 41),(.bi .sub (.t 40) (.c (.i .i64 1))),none,[]⟩,⟨(some 42),(.mv (.t 0)),none,[]⟩,⟨(some 43),(.mv (.t 9)),none,[]⟩,⟨(some 44),(.bi .sub (.t 43) (.c (.i .i64 1))),none,[]⟩,⟨(some 45),(.ias 1 (.t 42) (.t 44)),none,[]⟩,⟨(some 46),(.ld (.t 45)),none,[]⟩,⟨(some 47),(.mv (.t 0)),none,[]⟩,⟨(some 48),(.mv (.t 9)),none,[]⟩,⟨(some 49),(.ias 1 (.t 47) (.t 48)),none,[]⟩,⟨(some 50),(.ld (.t 49)),none,[]⟩,⟨(some 51),(.ias 1 (.t 37) (.t 38)),none,[]⟩,⟨none,(.st (.t 51) (.t 46) 1),none,[]⟩,⟨(some 52),(.ias 1 (.t 39) (.t 41)),none,[]⟩,⟨none,(.st (.t 52) (.t 50) 1),none,[]⟩]))
 (.reg [⟨(some 35),(.mv (.t 9)),none,[]⟩,⟨(some 36),(.bi .sub (.t 35) (.c (.i .i64 1))),none,[]⟩,⟨(some 9),(.mv (.t 36)),none,[]⟩])))))))
 (.reg [⟨(some 15),(.mv (.t 8)),none,[]⟩,⟨(some 16),(.bi .add (.t 15) (.c (.i .i64 1))),none,[]⟩,⟨(some 8),(.mv (.t 16)),none,[]⟩])))))) }
end Go.Ev.Q
