/-
  The two checks of frames: at a frame of whatever fields both tell the same number. Conditions: none.
-/
import Derived.Test.YtnkfegnbddmebaaGreatXsT
namespace Go.Ev.Q
open Go Go.Ev

noncomputable def aFrame : AV := .agg [.x 10, .x 11, .x 12, .x 13, .x 14, .x 15, .x 16, .x 17, .x 18, .x 19]

noncomputable def frameFacts (k1 k2 s0 s7 d0 d7 p0 p7 mm o0 oM t0 tM l0 lM n0 nM e1 e7 su nl z : Bool) : Facts := {
  len := [(19, .x 20)],
  bin := [(.lss, .x 10, .i .i64 1, .b k1),
    (.geq, .x 10, .i .i64 1, .b (!k1)),
    (.gtr, .x 10, .i .i64 12, .b k2),
    (.leq, .x 10, .i .i64 12, .b (!k2)),
    (.lss, .x 11, .i .i64 0, .b s0),
    (.geq, .x 11, .i .i64 0, .b (!s0)),
    (.gtr, .x 11, .i .i64 7, .b s7),
    (.leq, .x 11, .i .i64 7, .b (!s7)),
    (.lss, .x 12, .i .i64 0, .b d0),
    (.geq, .x 12, .i .i64 0, .b (!d0)),
    (.gtr, .x 12, .i .i64 7, .b d7),
    (.leq, .x 12, .i .i64 7, .b (!d7)),
    (.lss, .x 13, .i .i64 0, .b p0),
    (.geq, .x 13, .i .i64 0, .b (!p0)),
    (.gtr, .x 13, .i .i64 7, .b p7),
    (.leq, .x 13, .i .i64 7, .b (!p7)),
    (.gtr, .x 14, .i .u64 1152921504606846976, .b mm),
    (.leq, .x 14, .i .u64 1152921504606846976, .b (!mm)),
    (.lss, .x 15, .i .i64 0, .b o0),
    (.geq, .x 15, .i .i64 0, .b (!o0)),
    (.gtr, .x 15, .i .i64 1073741824, .b oM),
    (.leq, .x 15, .i .i64 1073741824, .b (!oM)),
    (.lss, .x 17, .i .i64 0, .b t0),
    (.geq, .x 17, .i .i64 0, .b (!t0)),
    (.gtr, .x 17, .i .i64 1073741824, .b tM),
    (.leq, .x 17, .i .i64 1073741824, .b (!tM)),
    (.lss, .x 16, .i .i64 0, .b l0),
    (.geq, .x 16, .i .i64 0, .b (!l0)),
    (.gtr, .x 16, .i .i64 1500, .b lM),
    (.leq, .x 16, .i .i64 1500, .b (!lM)),
    (.lss, .x 18, .i .i64 0, .b n0),
    (.geq, .x 18, .i .i64 0, .b (!n0)),
    (.gtr, .x 18, .i .i64 1073741824, .b nM),
    (.leq, .x 18, .i .i64 1073741824, .b (!nM)),
    (.eql, .x 10, .i .i64 1, .b e1),
    (.neq, .x 10, .i .i64 1, .b (!e1)),
    (.eql, .x 10, .i .i64 7, .b e7),
    (.neq, .x 10, .i .i64 7, .b (!e7)),
    (.add, .x 15, .x 16, .x 21),
    (.gtr, .x 21, .x 17, .b su),
    (.leq, .x 21, .x 17, .b (!su)),
    (.neq, .x 20, .x 16, .b nl),
    (.neq, .x 20, .i .i64 0, .b z),
    (.gtr, .x 20, .i .i64 0, .b z)] }

/-- may the frame be? -/
noncomputable def okF (k1 k2 s0 s7 d0 d7 p0 p7 mm o0 oM t0 tM l0 lM n0 nM e1 e7 su nl z : Bool) : Bool :=
  and (!k1) (and (!k2) (and (!s0) (and (!s7) (and (!d0) (and (!d7) (and (!p0) (and (!p7) (and (!mm) (and (!o0) (and (!oM) (and (!t0) (and (!tM) (and (!l0) (and (!lM) (and (!n0) (and (!nM) (and (!(and (or e1 e7) su)) (!(iff e1 nl z)))))))))))))))))))

noncomputable def isC (b : Bool) (r : Option (AV × AH)) : Bool := Option.rec (motive := fun _ => Bool) false (fun p => veq p.1 (.i .i64 (Bool.rec 1 0 b))) r

/-- the reference's -/
theorem ref_run (k1 k2 s0 s7 d0 d7 p0 p7 mm o0 oM t0 tM l0 lM n0 nM e1 e7 su nl z : Bool) : isC (okF k1 k2 s0 s7 d0 d7 p0 p7 mm o0 oM t0 tM l0 lM n0 nM e1 e7 su nl z) (evCall (frameFacts k1 k2 s0 s7 d0 d7 p0 p7 mm o0 oM t0 tM l0 lM n0 nM e1 e7 su nl z) ft.get 1000 17 [aFrame] nothing) = true := by
  cases k1 with
  | true => kernel_rfl
  | false =>
    cases k2 with
    | true => kernel_rfl
    | false =>
      cases s0 with
      | true => kernel_rfl
      | false =>
        cases s7 with
        | true => kernel_rfl
        | false =>
          cases d0 with
          | true => kernel_rfl
          | false =>
            cases d7 with
            | true => kernel_rfl
            | false =>
              cases p0 with
              | true => kernel_rfl
              | false =>
                cases p7 with
                | true => kernel_rfl
                | false =>
                  cases mm with
                  | true => kernel_rfl
                  | false =>
                    cases o0 with
                    | true => kernel_rfl
                    | false =>
                      cases oM with
                      | true => kernel_rfl
                      | false =>
                        cases t0 with
                        | true => kernel_rfl
                        | false =>
                          cases tM with
                          | true => kernel_rfl
                          | false =>
                            cases l0 with
                            | true => kernel_rfl
                            | false =>
                              cases lM with
                              | true => kernel_rfl
                              | false =>
                                cases n0 with
                                | true => kernel_rfl
                                | false =>
                                  cases nM with
                                  | true => kernel_rfl
                                  | false =>
                                    cases e1 with
                                    | true =>
                                      cases su with
                                      | true => kernel_rfl
                                      | false =>
                                        cases nl with
                                        | true => kernel_rfl
                                        | false => kernel_rfl
                                    | false =>
                                      cases e7 with
                                      | true =>
                                        cases su with
                                        | true => kernel_rfl
                                        | false =>
                                          cases z with
                                          | true => kernel_rfl
                                          | false => kernel_rfl
                                      | false =>
                                        cases z with
                                        | true => kernel_rfl
                                        | false => kernel_rfl

/-- the program's -/
theorem wire_run (k1 k2 s0 s7 d0 d7 p0 p7 mm o0 oM t0 tM l0 lM n0 nM e1 e7 su nl z : Bool) : isC (okF k1 k2 s0 s7 d0 d7 p0 p7 mm o0 oM t0 tM l0 lM n0 nM e1 e7 su nl z) (evCall (frameFacts k1 k2 s0 s7 d0 d7 p0 p7 mm o0 oM t0 tM l0 lM n0 nM e1 e7 su nl z) ft.get 1000 57 [aFrame] nothing) = true := by
  cases e1 with
  | true =>
    cases k1 with
    | true => kernel_rfl
    | false =>
      cases k2 with
      | true => kernel_rfl
      | false =>
        cases s0 with
        | true => kernel_rfl
        | false =>
          cases s7 with
          | true => kernel_rfl
          | false =>
            cases d0 with
            | true => kernel_rfl
            | false =>
              cases d7 with
              | true => kernel_rfl
              | false =>
                cases p0 with
                | true => kernel_rfl
                | false =>
                  cases p7 with
                  | true => kernel_rfl
                  | false =>
                    cases mm with
                    | true => kernel_rfl
                    | false =>
                      cases o0 with
                      | true => kernel_rfl
                      | false =>
                        cases oM with
                        | true => kernel_rfl
                        | false =>
                          cases t0 with
                          | true => kernel_rfl
                          | false =>
                            cases tM with
                            | true => kernel_rfl
                            | false =>
                              cases l0 with
                              | true => kernel_rfl
                              | false =>
                                cases lM with
                                | true => kernel_rfl
                                | false =>
                                  cases n0 with
                                  | true => kernel_rfl
                                  | false =>
                                    cases nM with
                                    | true => kernel_rfl
                                    | false =>
                                      cases su with
                                      | true => kernel_rfl
                                      | false =>
                                        cases nl with
                                        | true => kernel_rfl
                                        | false => kernel_rfl
  | false =>
    cases k1 with
    | true => kernel_rfl
    | false =>
      cases k2 with
      | true => kernel_rfl
      | false =>
        cases s0 with
        | true => kernel_rfl
        | false =>
          cases s7 with
          | true => kernel_rfl
          | false =>
            cases d0 with
            | true => kernel_rfl
            | false =>
              cases d7 with
              | true => kernel_rfl
              | false =>
                cases p0 with
                | true => kernel_rfl
                | false =>
                  cases p7 with
                  | true => kernel_rfl
                  | false =>
                    cases mm with
                    | true => kernel_rfl
                    | false =>
                      cases o0 with
                      | true => kernel_rfl
                      | false =>
                        cases oM with
                        | true => kernel_rfl
                        | false =>
                          cases t0 with
                          | true => kernel_rfl
                          | false =>
                            cases tM with
                            | true => kernel_rfl
                            | false =>
                              cases l0 with
                              | true => kernel_rfl
                              | false =>
                                cases lM with
                                | true => kernel_rfl
                                | false =>
                                  cases n0 with
                                  | true => kernel_rfl
                                  | false =>
                                    cases nM with
                                    | true => kernel_rfl
                                    | false =>
                                      cases e7 with
                                      | true =>
                                        cases su with
                                        | true => kernel_rfl
                                        | false =>
                                          cases z with
                                          | true => kernel_rfl
                                          | false => kernel_rfl
                                      | false =>
                                        cases z with
                                        | true => kernel_rfl
                                        | false => kernel_rfl
end Go.Ev.Q
