/- What functions of the program compute, as small pure programs, shown against plain Lean functions: no condition. -/
import Derived.KernelRfl
import Derived.Test.YtfefmdhhbidfbaaGreatPl2
/- Functions of the program, as small pure programs (printed by a program of ours). -/
namespace Go.Mw
noncomputable section
def spec_ClosestPins_b1 : L := .seq (.seq (.seq (.rg [⟨[], .bin .lss, [.v 2, .v 1], 1⟩]) (.ite (.v 6) (.skip) (.seq (.tup [.v 0, .v 1, .v 3, .v 4, .v 5]) (.exit 2)))) (.seq (.block 3 (.seq (.seq (.rg [⟨[], .idx [.sc, .sc], [.v 5, .v 1], 2⟩, ⟨[], .idx [.sc, .sc], [.v 5, .v 2], 2⟩, ⟨[], .bin .eql, [.v 7, .v 9], 1⟩]) (.ite (.v 11) (.seq (.rg [⟨[], .idx [.sc, .sc], [.v 5, .v 1], 2⟩, ⟨[], .idx [.sc, .sc], [.v 5, .v 2], 2⟩, ⟨[], .call F_GapAround 0 1, [.v 13, .v 15, .v 3], 1⟩, ⟨[], .mn, [.v 0, .v 16], 1⟩]) (.tup [.v 17, .v 1, .v 2, .v 3, .v 4, .v 5])) (.seq (.skip) (.tup [.v 0, .v 1, .v 2, .v 3, .v 4, .v 5])))) (.tup [.v 0, .v 1, .v 2, .v 3, .v 4, .v 5]))) (.rg [⟨[], .bin .add, [.v 2, .k (.int .i64 1)], 1⟩]))) (.tup [.v 0, .v 1, .v 6, .v 3, .v 4, .v 5])
theorem spec_ClosestPins_b1_sh (Q : QT) (x0 x1 x2 x3 x4 x5 : V) : shL spec_ClosestPins_b1 Q [x0, x1, x2, x3, x4, x5] = (
  P1 (.bin .lss) [x2, x1] fun v0 =>
  ifB v0 (
    P2 (.idx [.sc, .sc]) [x5, x1] fun v1 _ =>
    P2 (.idx [.sc, .sc]) [x5, x2] fun v3 _ =>
    P1 (.bin .eql) [v1, v3] fun v5 =>
    ifB v5 (
      P2 (.idx [.sc, .sc]) [x5, x1] fun _ v7 =>
      P2 (.idx [.sc, .sc]) [x5, x2] fun _ v9 =>
      P1 (.call F_GapAround 0 1) [v7, v9, x3] fun v10 =>
      P1 (.mn) [x0, v10] fun v11 =>
      P1 (.bin .add) [x2, .int .i64 1] fun v12 =>
      Q .normal [v11, x1, v12, x3, x4, x5]) (
      P1 (.bin .add) [x2, .int .i64 1] fun v13 =>
      Q .normal [x0, x1, v13, x3, x4, x5])) (
    Q (.exit 2) [x0, x1, x3, x4, x5])) := by kernel_rfl

def spec_ClosestPins_r2 : L := .tup [.v 0, .v 1, .v 2, .v 3, .v 4]
theorem spec_ClosestPins_r2_sh (Q : QT) (x0 x1 x2 x3 x4 : V) : shL spec_ClosestPins_r2 Q [x0, x1, x2, x3, x4] = (
  Q .normal [x0, x1, x2, x3, x4]) := by kernel_rfl

def spec_ClosestPins_r3 : L := .rg [⟨[], .bin .add, [.v 1, .k (.int .i64 1)], 1⟩]
theorem spec_ClosestPins_r3_sh (Q : QT) (x0 x1 x2 x3 x4 : V) : shL spec_ClosestPins_r3 Q [x0, x1, x2, x3, x4] = (
  P1 (.bin .add) [x1, .int .i64 1] fun v0 =>
  Q .normal [x0, x1, x2, x3, x4, v0]) := by kernel_rfl

def spec_ClosestPins_r4 : L := .tup [.v 0, .v 5, .v 2, .v 3, .v 4]
theorem spec_ClosestPins_r4_sh (Q : QT) (x0 x1 x2 x3 x4 x5 : V) : shL spec_ClosestPins_r4 Q [x0, x1, x2, x3, x4, x5] = (
  Q .normal [x0, x5, x2, x3, x4]) := by kernel_rfl

def spec_ClosestPins_b0 : L := .seq (.seq (.seq (.rg [⟨[], .len, [.v 4], 1⟩, ⟨[], .bin .lss, [.v 1, .v 5], 1⟩]) (.ite (.v 6) (.skip) (.seq (.tup [.v 0]) (.exit 0)))) (.seq (.block 1 (.seq (.seq (.rg []) (.block 2 (.seq (.tup [.v 0, .v 1, .k (.int .i64 0), .v 2, .v 3, .v 4]) (.loop (spec_ClosestPins_b1))))) (spec_ClosestPins_r2))) (spec_ClosestPins_r3))) (spec_ClosestPins_r4)
theorem spec_ClosestPins_b0_sh (Q : QT) (x0 x1 x2 x3 x4 : V) : shL spec_ClosestPins_b0 Q [x0, x1, x2, x3, x4] = (
  P1 (.len) [x4] fun v0 =>
  P1 (.bin .lss) [x1, v0] fun v1 =>
  ifB v1 (
    shL (.loop spec_ClosestPins_b1) (qB 2 (qS (shL spec_ClosestPins_r2 (qB 1 (qS (shL spec_ClosestPins_r3 (qS (shL spec_ClosestPins_r4 Q) Q)) (qS (shL spec_ClosestPins_r4 Q) Q)))) (qB 1 (qS (shL spec_ClosestPins_r3 (qS (shL spec_ClosestPins_r4 Q) Q)) (qS (shL spec_ClosestPins_r4 Q) Q))))) [x0, x1, .int .i64 0, x2, x3, x4]) (
    Q (.exit 0) [x0])) := by kernel_rfl

def spec_ClosestPins_r5 : L := .seq (.rg []) (.ret [.v 0])
theorem spec_ClosestPins_r5_sh (Q : QT) (x0 : V) : shL spec_ClosestPins_r5 Q [x0] = (
  Q .ret [x0]) := by kernel_rfl

def spec_ClosestPins_L : L := .seq (.rg []) (.seq (.seq (.rg [⟨[], .call F_CylinderOk 0 1, [.v 0, .v 1, .v 2], 1⟩, ⟨[], .un .not, [.v 3], 1⟩]) (.ite (.v 4) (.seq (.rg []) (.ret [.k (.int .i64 (-1))])) (.skip))) (.seq (.rg []) (.seq (.seq (.rg []) (.block 0 (.seq (.tup [.v 0, .k (.int .i64 0), .v 0, .v 1, .v 2]) (.loop (spec_ClosestPins_b0))))) (spec_ClosestPins_r5))))
theorem spec_ClosestPins_L_sh (Q : QT) (x0 x1 x2 : V) : shL spec_ClosestPins_L Q [x0, x1, x2] = (
  P1 (.call F_CylinderOk 0 1) [x0, x1, x2] fun v0 =>
  P1 (.un .not) [v0] fun v1 =>
  ifB v1 (
    Q .ret [.int .i64 (-1)]) (
    shL (.loop spec_ClosestPins_b0) (qB 0 (qS (shL spec_ClosestPins_r5 Q) Q)) [x0, .int .i64 0, x0, x1, x2])) := by kernel_rfl
def spec_ClosestPins_S : Sig := ⟨[.val true [.sc, .sc, .sl [.sc, .sc]]], [(false, [.sc])], F_ClosestPins⟩
def spec_ClosestPins_hs : List NF := [⟨[(3, .sc false [.sc])], [], [], 64⟩, ⟨[(1, .ptr 64 0), (3, .sc false [.sc]), (4, .sc false [.sc])], [], [(64, [.sc, .sc, .ro [.sc, .sc]])], 65⟩, ⟨[(1, .ptr 64 0), (3, .sc false [.sc]), (4, .sc false [.sc])], [], [(64, [.sc, .sc, .ro [.sc, .sc]])], 65⟩, ⟨[(1, .ptr 64 0), (3, .sc false [.sc]), (4, .sc false [.sc])], [], [(64, [.sc, .sc, .ro [.sc, .sc]])], 65⟩, ⟨[(1, .ptr 64 0), (3, .sc false [.sc]), (4, .sc false [.sc]), (5, .sc false [.sc])], [], [(64, [.sc, .sc, .ro [.sc, .sc]])], 65⟩, ⟨[(1, .ptr 64 0), (3, .sc false [.sc]), (4, .sc false [.sc]), (5, .sc false [.sc])], [], [(64, [.sc, .sc, .ro [.sc, .sc]])], 65⟩, ⟨[(1, .ptr 64 0), (3, .sc false [.sc]), (4, .sc false [.sc]), (5, .sc false [.sc])], [], [(64, [.sc, .sc, .ro [.sc, .sc]])], 65⟩]

def spec_l39Bool_L : L := .seq (.rg []) (.seq (.seq (.rg []) (.ite (.v 0) (.seq (.rg []) (.ret [.k (.int .i64 1)])) (.skip))) (.seq (.rg []) (.ret [.k (.int .i64 0)])))
theorem spec_l39Bool_L_sh (Q : QT) (x0 : V) : shL spec_l39Bool_L Q [x0] = (
  ifB x0 (
    Q .ret [.int .i64 1]) (
    Q .ret [.int .i64 0])) := by kernel_rfl
def spec_l39Bool_S : Sig := ⟨[.val false [.sc]], [(false, [.sc])], F_l39Bool⟩
def spec_l39Bool_hs : List NF := []

def spec_DoAct_r0 : L := .seq (.rg []) (.seq (.seq (.rg []) (.block 0 (.seq (.seq (.rg [⟨[], .bin .eql, [.v 10, .k (.int .i64 1)], 1⟩]) (.ite (.v 28) (.seq (.rg [⟨[], .call F_PutPin 0 11, [.v 0, .v 1, .v 2, .v 3, .v 4, .v 5, .v 6, .v 7, .v 8, .v 9, .v 11, .v 12], 11⟩]) (.tup [.v 39, .v 31, .v 32, .v 33, .k (.int .i64 0), .k (.int .i64 0), .k (.int .i64 0), .k (.int .i64 0), .k (.int .i64 0), .k (.int .i64 0), .k (.int .i64 0), .v 29, .v 30, .v 34, .v 35, .v 36, .v 37, .v 38])) (.seq (.seq (.rg [⟨[], .bin .eql, [.v 10, .k (.int .i64 2)], 1⟩]) (.ite (.v 29) (.seq (.rg [⟨[], .call F_RemovePin 0 11, [.v 0, .v 1, .v 2, .v 3, .v 4, .v 5, .v 6, .v 7, .v 8, .v 9, .v 11], 11⟩]) (.tup [.v 40, .v 32, .v 33, .v 34, .k (.int .i64 0), .k (.int .i64 0), .k (.int .i64 0), .k (.int .i64 0), .k (.int .i64 0), .k (.int .i64 0), .k (.int .i64 0), .v 30, .v 31, .v 35, .v 36, .v 37, .v 38, .v 39])) (.seq (.seq (.rg [⟨[], .bin .eql, [.v 10, .k (.int .i64 5)], 1⟩]) (.ite (.v 30) (.seq (.rg [⟨[], .call F_PlayOnce 0 11, [.v 0, .v 1, .v 2, .v 3, .v 4, .v 5, .v 6, .v 7, .v 8, .v 9], 11⟩]) (.tup [.v 41, .v 33, .v 34, .v 35, .k (.int .i64 0), .k (.int .i64 0), .k (.int .i64 0), .k (.int .i64 0), .k (.int .i64 0), .k (.int .i64 0), .k (.int .i64 0), .v 31, .v 32, .v 36, .v 37, .v 38, .v 39, .v 40])) (.seq (.seq (.rg [⟨[], .bin .eql, [.v 10, .k (.int .i64 3)], 1⟩]) (.ite (.v 31) (.seq (.rg [⟨[], .call F_TakeBack 0 5, [.v 0, .v 1, .v 2, .v 3], 5⟩]) (.tup [.v 36, .v 34, .v 35, .v 17, .k (.int .i64 0), .k (.int .i64 0), .k (.int .i64 0), .k (.int .i64 0), .k (.int .i64 0), .k (.int .i64 0), .k (.int .i64 0), .v 32, .v 33, .v 18, .v 19, .v 20, .v 21, .v 22])) (.seq (.seq (.rg [⟨[], .bin .eql, [.v 10, .k (.int .i64 4)], 1⟩]) (.ite (.v 32) (.seq (.rg [⟨[], .call F_Crank 0 11, [.v 0, .v 1, .v 2, .v 3, .v 4, .v 5, .v 6, .v 7, .v 8, .v 9, .v 11], 11⟩]) (.seq (.rg []) (.ret [.v 33, .v 34, .v 35, .v 36, .v 37, .v 38, .v 39, .v 40, .v 41, .v 42, .v 43]))) (.seq (.rg [⟨[], .bin .eql, [.v 10, .k (.int .i64 6)], 1⟩]) (.ite (.v 33) (.seq (.rg [⟨[], .call F_ClosestPins 0 1, [.v 0, .v 1, .v 2], 1⟩]) (.ret [.v 13, .v 14, .v 15, .v 16, .v 17, .v 18, .v 19, .v 20, .v 21, .v 22, .v 34])) (.skip))))) (.tup [.k (.bool false), .v 15, .v 16, .v 17, .k (.int .i64 0), .k (.int .i64 0), .k (.int .i64 0), .k (.int .i64 0), .k (.int .i64 0), .k (.int .i64 0), .k (.int .i64 0), .v 13, .v 14, .v 18, .v 19, .v 20, .v 21, .v 22])))) (.tup [.v 0, .v 1, .v 2, .v 3, .v 4, .v 5, .v 6, .v 7, .v 8, .v 9, .v 10, .v 11, .v 12, .v 13, .v 14, .v 15, .v 16, .v 17])))) (.tup [.v 0, .v 1, .v 2, .v 3, .v 4, .v 5, .v 6, .v 7, .v 8, .v 9, .v 10, .v 11, .v 12, .v 13, .v 14, .v 15, .v 16, .v 17])))) (.tup [.v 0, .v 1, .v 2, .v 3, .v 4, .v 5, .v 6, .v 7, .v 8, .v 9, .v 10, .v 11, .v 12, .v 13, .v 14, .v 15, .v 16, .v 17])))) (.tup [.v 0, .v 1, .v 2, .v 3, .v 4, .v 5, .v 6, .v 7, .v 8, .v 9, .v 10, .v 11, .v 12, .v 13, .v 14, .v 15, .v 16, .v 17])))) (.seq (.rg [⟨[], .call F_l39Bool 0 1, [.v 0], 1⟩]) (.ret [.v 11, .v 12, .v 1, .v 2, .v 3, .v 13, .v 14, .v 15, .v 16, .v 17, .v 18])))
theorem spec_DoAct_r0_sh (Q : QT) (x0 x1 x2 x3 x4 x5 x6 x7 x8 x9 x10 x11 x12 x13 x14 x15 x16 x17 x18 x19 x20 x21 x22 x23 x24 x25 x26 x27 : V) : shL spec_DoAct_r0 Q [x0, x1, x2, x3, x4, x5, x6, x7, x8, x9, x10, x11, x12, x13, x14, x15, x16, x17, x18, x19, x20, x21, x22, x23, x24, x25, x26, x27] = (
  P1 (.bin .eql) [x10, .int .i64 1] fun v0 =>
  ifB v0 (
    P11 (.call F_PutPin 0 11) [x0, x1, x2, x3, x4, x5, x6, x7, x8, x9, x11, x12] fun v1 v2 v3 v4 v5 v6 v7 v8 v9 v10 v11 =>
    P1 (.call F_l39Bool 0 1) [v11] fun v12 =>
    Q .ret [v1, v2, v3, v4, v5, v6, v7, v8, v9, v10, v12]) (
    P1 (.bin .eql) [x10, .int .i64 2] fun v13 =>
    ifB v13 (
      P11 (.call F_RemovePin 0 11) [x0, x1, x2, x3, x4, x5, x6, x7, x8, x9, x11] fun v14 v15 v16 v17 v18 v19 v20 v21 v22 v23 v24 =>
      P1 (.call F_l39Bool 0 1) [v24] fun v25 =>
      Q .ret [v14, v15, v16, v17, v18, v19, v20, v21, v22, v23, v25]) (
      P1 (.bin .eql) [x10, .int .i64 5] fun v26 =>
      ifB v26 (
        P11 (.call F_PlayOnce 0 11) [x0, x1, x2, x3, x4, x5, x6, x7, x8, x9] fun v27 v28 v29 v30 v31 v32 v33 v34 v35 v36 v37 =>
        P1 (.call F_l39Bool 0 1) [v37] fun v38 =>
        Q .ret [v27, v28, v29, v30, v31, v32, v33, v34, v35, v36, v38]) (
        P1 (.bin .eql) [x10, .int .i64 3] fun v39 =>
        ifB v39 (
          P5 (.call F_TakeBack 0 5) [x0, x1, x2, x3] fun v40 v41 v42 v43 v44 =>
          P1 (.call F_l39Bool 0 1) [v44] fun v45 =>
          Q .ret [v40, v41, v42, v43, x17, x18, x19, x20, x21, x22, v45]) (
          P1 (.bin .eql) [x10, .int .i64 4] fun v46 =>
          ifB v46 (
            P11 (.call F_Crank 0 11) [x0, x1, x2, x3, x4, x5, x6, x7, x8, x9, x11] fun v47 v48 v49 v50 v51 v52 v53 v54 v55 v56 v57 =>
            Q .ret [v47, v48, v49, v50, v51, v52, v53, v54, v55, v56, v57]) (
            P1 (.bin .eql) [x10, .int .i64 6] fun v58 =>
            ifB v58 (
              P1 (.call F_ClosestPins 0 1) [x0, x1, x2] fun v59 =>
              Q .ret [x13, x14, x15, x16, x17, x18, x19, x20, x21, x22, v59]) (
              P1 (.call F_l39Bool 0 1) [.bool false] fun v60 =>
              Q .ret [x13, x14, x15, x16, x17, x18, x19, x20, x21, x22, v60]))))))) := by kernel_rfl

def spec_DoAct_L : L := .seq (.rg []) (.seq (.rg [⟨[], .call F_l38Copy 0 10, [.v 0, .v 1, .v 2, .v 3, .v 4, .v 5, .v 6, .v 7, .v 8, .v 9], 10⟩]) (.seq (.seq (.rg [⟨[], .call F_WorkshopOk 0 1, [.v 0, .v 1, .v 2, .v 3, .v 4, .v 5, .v 6, .v 7, .v 8, .v 9], 1⟩, ⟨[], .un .not, [.v 23], 1⟩, ⟨[(.v 24, false)], .call F_ActOk 0 1, [.v 10, .v 11, .v 12], 1⟩, ⟨[(.v 24, false)], .un .not, [.v 25], 1⟩, ⟨[], .pick, [.v 24, .k (.bool true), .v 26], 1⟩]) (.ite (.v 27) (.seq (.rg []) (.ret [.v 13, .v 14, .v 15, .v 16, .v 17, .v 18, .v 19, .v 20, .v 21, .v 22, .k (.int .i64 (-1))])) (.skip))) (spec_DoAct_r0)))
theorem spec_DoAct_L_sh (Q : QT) (x0 x1 x2 x3 x4 x5 x6 x7 x8 x9 x10 x11 x12 : V) : shL spec_DoAct_L Q [x0, x1, x2, x3, x4, x5, x6, x7, x8, x9, x10, x11, x12] = (
  P10 (.call F_l38Copy 0 10) [x0, x1, x2, x3, x4, x5, x6, x7, x8, x9] fun v0 v1 v2 v3 v4 v5 v6 v7 v8 v9 =>
  P1 (.call F_WorkshopOk 0 1) [x0, x1, x2, x3, x4, x5, x6, x7, x8, x9] fun v10 =>
  P1 (.un .not) [v10] fun v11 =>
  ifB v11 (
    Q .ret [v0, v1, v2, v3, v4, v5, v6, v7, v8, v9, .int .i64 (-1)]) (
    P1 (.call F_ActOk 0 1) [x10, x11, x12] fun v12 =>
    P1 (.un .not) [v12] fun v13 =>
    ifB v13 (
      Q .ret [v0, v1, v2, v3, v4, v5, v6, v7, v8, v9, .int .i64 (-1)]) (
      shL spec_DoAct_r0 Q [x0, x1, x2, x3, x4, x5, x6, x7, x8, x9, x10, x11, x12, v0, v1, v2, v3, v4, v5, v6, v7, v8, v9, v10, .bool false, v12, v13, .bool false]))) := by kernel_rfl
def spec_DoAct_S : Sig := ⟨[.val true [.sc, .sc, .sl [.sc, .sc], .sl [.sl [.sc, .sc]], .sl [.sc], .sc, .sc, .sc, .sc, .sc], .val true [.sc, .sc, .sc]], [(true, [.sc, .sc, .sl [.sc, .sc], .sl [.sl [.sc, .sc]], .sl [.sc], .sc, .sc, .sc, .sc, .sc]), (false, [.sc])], F_DoAct⟩
def spec_DoAct_hs : List NF := [⟨[(4, .ptr 64 0), (6, .ptr 65 0), (7, .sc false [.sc])], [(66, true, [.sc, .sc]), (67, true, [.sl [.sc, .sc]]), (68, true, [.sc])], [(64, [.sc, .sc, .nil, .nil, .nil, .sc, .sc, .sc, .sc, .sc]), (65, [.sc, .sc, .own 66, .own 67, .own 68, .sc, .sc, .sc, .sc, .sc])], 69⟩, ⟨[(4, .ptr 64 0), (6, .ptr 65 0), (7, .sc false [.sc])], [(66, true, [.sc, .sc]), (67, true, [.sl [.sc, .sc]]), (68, true, [.sc])], [(64, [.sc, .sc, .nil, .nil, .nil, .sc, .sc, .sc, .sc, .sc]), (65, [.sc, .sc, .own 66, .own 67, .own 68, .sc, .sc, .sc, .sc, .sc])], 69⟩, ⟨[(4, .ptr 64 0), (6, .ptr 65 0), (7, .sc false [.sc])], [(66, true, [.sc, .sc]), (67, true, [.sl [.sc, .sc]]), (68, true, [.sc])], [(64, [.sc, .sc, .nil, .nil, .nil, .sc, .sc, .sc, .sc, .sc]), (65, [.sc, .sc, .own 66, .own 67, .own 68, .sc, .sc, .sc, .sc, .sc])], 69⟩, ⟨[(4, .ptr 64 0), (6, .ptr 65 0), (7, .sc false [.sc])], [(66, true, [.sc, .sc]), (67, true, [.sl [.sc, .sc]]), (68, true, [.sc])], [(64, [.sc, .sc, .nil, .nil, .nil, .sc, .sc, .sc, .sc, .sc]), (65, [.sc, .sc, .own 66, .own 67, .own 68, .sc, .sc, .sc, .sc, .sc])], 69⟩, ⟨[(4, .ptr 64 0), (6, .ptr 65 0), (7, .sc false [.sc])], [(66, true, [.sc, .sc]), (67, true, [.sl [.sc, .sc]]), (68, true, [.sc])], [(64, [.sc, .sc, .nil, .nil, .nil, .sc, .sc, .sc, .sc, .sc]), (65, [.sc, .sc, .own 66, .own 67, .own 68, .sc, .sc, .sc, .sc, .sc])], 69⟩]

def impl_numberOf_L : L := .seq (.rg []) (.seq (.seq (.rg []) (.ite (.v 0) (.seq (.rg []) (.ret [.k (.int .i64 1)])) (.skip))) (.seq (.rg []) (.ret [.k (.int .i64 0)])))
theorem impl_numberOf_L_sh (Q : QT) (x0 : V) : shL impl_numberOf_L Q [x0] = (
  ifB x0 (
    Q .ret [.int .i64 1]) (
    Q .ret [.int .i64 0])) := by kernel_rfl
def impl_numberOf_S : Sig := ⟨[.val false [.sc]], [(false, [.sc])], F_numberOf⟩
def impl_numberOf_hs : List NF := []

def impl_ClosestPins_b1 : L := .seq (.seq (.rg [⟨[], .bin .lss, [.v 6, .v 5], 1⟩]) (.seq (.ite (.v 12) (.skip) (.seq (.tup [.v 0, .v 1, .v 2, .v 3, .v 7, .v 8, .v 9]) (.exit 2))) (.seq (.block 3 (.seq (.seq (.rg [⟨[], .idx [.sc, .sc], [.v 4, .v 6], 2⟩]) (.seq (.rg [⟨[], .bin .eql, [.v 10, .v 13], 1⟩]) (.ite (.v 15) (.seq (.rg [⟨[], .call F_GapAround 0 1, [.v 11, .v 14, .v 7], 1⟩, ⟨[], .mn, [.v 0, .v 16], 1⟩]) (.tup [.v 17, .v 1, .v 2, .v 3, .v 4, .v 5, .v 6, .v 7, .v 8, .v 9, .v 10, .v 11])) (.seq (.skip) (.tup [.v 0, .v 1, .v 2, .v 3, .v 4, .v 5, .v 6, .v 7, .v 8, .v 9, .v 10, .v 11]))))) (.tup [.v 0, .v 1, .v 2, .v 3, .v 4, .v 5, .v 6, .v 7, .v 8, .v 9, .v 10, .v 11]))) (.rg [⟨[], .bin .add, [.v 6, .k (.int .i64 1)], 1⟩])))) (.tup [.v 0, .v 1, .v 2, .v 3, .v 4, .v 5, .v 12, .v 7, .v 8, .v 9, .v 10, .v 11])
theorem impl_ClosestPins_b1_sh (Q : QT) (x0 x1 x2 x3 x4 x5 x6 x7 x8 x9 x10 x11 : V) : shL impl_ClosestPins_b1 Q [x0, x1, x2, x3, x4, x5, x6, x7, x8, x9, x10, x11] = (
  P1 (.bin .lss) [x6, x5] fun v0 =>
  ifB v0 (
    P2 (.idx [.sc, .sc]) [x4, x6] fun v1 v2 =>
    P1 (.bin .eql) [x10, v1] fun v3 =>
    ifB v3 (
      P1 (.call F_GapAround 0 1) [x11, v2, x7] fun v4 =>
      P1 (.mn) [x0, v4] fun v5 =>
      P1 (.bin .add) [x6, .int .i64 1] fun v6 =>
      Q .normal [v5, x1, x2, x3, x4, x5, v6, x7, x8, x9, x10, x11]) (
      P1 (.bin .add) [x6, .int .i64 1] fun v7 =>
      Q .normal [x0, x1, x2, x3, x4, x5, v7, x7, x8, x9, x10, x11])) (
    Q (.exit 2) [x0, x1, x2, x3, x7, x8, x9])) := by kernel_rfl

def impl_ClosestPins_r2 : L := .tup [.v 0, .v 1, .v 2, .v 3, .v 4, .v 5, .v 6]
theorem impl_ClosestPins_r2_sh (Q : QT) (x0 x1 x2 x3 x4 x5 x6 : V) : shL impl_ClosestPins_r2 Q [x0, x1, x2, x3, x4, x5, x6] = (
  Q .normal [x0, x1, x2, x3, x4, x5, x6]) := by kernel_rfl

def impl_ClosestPins_r3 : L := .rg [⟨[], .bin .add, [.v 3, .k (.int .i64 1)], 1⟩]
theorem impl_ClosestPins_r3_sh (Q : QT) (x0 x1 x2 x3 x4 x5 x6 : V) : shL impl_ClosestPins_r3 Q [x0, x1, x2, x3, x4, x5, x6] = (
  P1 (.bin .add) [x3, .int .i64 1] fun v0 =>
  Q .normal [x0, x1, x2, x3, x4, x5, x6, v0]) := by kernel_rfl

def impl_ClosestPins_r4 : L := .tup [.v 0, .v 1, .v 2, .v 7, .v 4, .v 5, .v 6]
theorem impl_ClosestPins_r4_sh (Q : QT) (x0 x1 x2 x3 x4 x5 x6 x7 : V) : shL impl_ClosestPins_r4 Q [x0, x1, x2, x3, x4, x5, x6, x7] = (
  Q .normal [x0, x1, x2, x7, x4, x5, x6]) := by kernel_rfl

def impl_ClosestPins_b0 : L := .seq (.seq (.rg [⟨[], .bin .lss, [.v 3, .v 2], 1⟩]) (.seq (.ite (.v 7) (.skip) (.seq (.tup [.v 0]) (.exit 0))) (.seq (.block 1 (.seq (.seq (.rg [⟨[], .idx [.sc, .sc], [.v 1, .v 3], 2⟩]) (.seq (.rg [⟨[], .lsub [.sc, .sc], [.v 6, .k (.int .i64 0), .v 3], 1⟩, ⟨[], .len, [.v 10], 1⟩]) (.block 2 (.seq (.tup [.v 0, .v 1, .v 2, .v 3, .v 10, .v 11, .k (.int .i64 0), .v 4, .v 5, .v 6, .v 8, .v 9]) (.loop (impl_ClosestPins_b1)))))) (impl_ClosestPins_r2))) (impl_ClosestPins_r3)))) (impl_ClosestPins_r4)
theorem impl_ClosestPins_b0_sh (Q : QT) (x0 x1 x2 x3 x4 x5 x6 : V) : shL impl_ClosestPins_b0 Q [x0, x1, x2, x3, x4, x5, x6] = (
  P1 (.bin .lss) [x3, x2] fun v0 =>
  ifB v0 (
    P2 (.idx [.sc, .sc]) [x1, x3] fun v1 v2 =>
    P1 (.lsub [.sc, .sc]) [x6, .int .i64 0, x3] fun v3 =>
    P1 (.len) [v3] fun v4 =>
    shL (.loop impl_ClosestPins_b1) (qB 2 (qS (shL impl_ClosestPins_r2 (qB 1 (qS (shL impl_ClosestPins_r3 (qS (shL impl_ClosestPins_r4 Q) Q)) (qS (shL impl_ClosestPins_r4 Q) Q)))) (qB 1 (qS (shL impl_ClosestPins_r3 (qS (shL impl_ClosestPins_r4 Q) Q)) (qS (shL impl_ClosestPins_r4 Q) Q))))) [x0, x1, x2, x3, v3, v4, .int .i64 0, x4, x5, x6, v1, v2]) (
    Q (.exit 0) [x0])) := by kernel_rfl

def impl_ClosestPins_r5 : L := .seq (.rg []) (.ret [.v 0])
theorem impl_ClosestPins_r5_sh (Q : QT) (x0 : V) : shL impl_ClosestPins_r5 Q [x0] = (
  Q .ret [x0]) := by kernel_rfl

def impl_ClosestPins_L : L := .seq (.rg []) (.seq (.seq (.rg [⟨[], .call F_CylinderOk 0 1, [.v 0, .v 1, .v 2], 1⟩, ⟨[], .un .not, [.v 3], 1⟩]) (.ite (.v 4) (.seq (.rg []) (.ret [.k (.int .i64 (-1))])) (.skip))) (.seq (.rg []) (.seq (.seq (.rg [⟨[], .len, [.v 2], 1⟩]) (.block 0 (.seq (.tup [.v 0, .v 2, .v 5, .k (.int .i64 0), .v 0, .v 1, .v 2]) (.loop (impl_ClosestPins_b0))))) (impl_ClosestPins_r5))))
theorem impl_ClosestPins_L_sh (Q : QT) (x0 x1 x2 : V) : shL impl_ClosestPins_L Q [x0, x1, x2] = (
  P1 (.call F_CylinderOk 0 1) [x0, x1, x2] fun v0 =>
  P1 (.un .not) [v0] fun v1 =>
  ifB v1 (
    Q .ret [.int .i64 (-1)]) (
    P1 (.len) [x2] fun v2 =>
    shL (.loop impl_ClosestPins_b0) (qB 0 (qS (shL impl_ClosestPins_r5 Q) Q)) [x0, x2, v2, .int .i64 0, x0, x1, x2])) := by kernel_rfl
def impl_ClosestPins_S : Sig := ⟨[.val true [.sc, .sc, .sl [.sc, .sc]]], [(false, [.sc])], F_ClosestPins⟩
def impl_ClosestPins_hs : List NF := [⟨[(3, .sc false [.sc])], [], [], 64⟩, ⟨[(1, .ptr 64 0), (3, .sc false [.sc]), (14, .sc false [.ro [.sc, .sc]]), (15, .sc false [.sc]), (16, .sc false [.sc])], [], [(64, [.sc, .sc, .ro [.sc, .sc]])], 65⟩, ⟨[(1, .ptr 64 0), (3, .sc false [.sc]), (14, .sc false [.ro [.sc, .sc]]), (15, .sc false [.sc]), (16, .sc false [.sc])], [], [(64, [.sc, .sc, .ro [.sc, .sc]])], 65⟩, ⟨[(1, .ptr 64 0), (3, .sc false [.sc]), (14, .sc false [.ro [.sc, .sc]]), (15, .sc false [.sc]), (16, .sc false [.sc])], [], [(64, [.sc, .sc, .ro [.sc, .sc]])], 65⟩, ⟨[(1, .ptr 64 0), (3, .sc false [.sc]), (5, .ptr 65 0), (14, .sc false [.ro [.sc, .sc]]), (15, .sc false [.sc]), (16, .sc false [.sc]), (24, .sc false [.ro [.sc, .sc]]), (25, .sc false [.sc]), (26, .sc false [.sc])], [], [(64, [.sc, .sc, .ro [.sc, .sc]]), (65, [.sc, .sc])], 66⟩, ⟨[(1, .ptr 64 0), (3, .sc false [.sc]), (5, .ptr 65 0), (14, .sc false [.ro [.sc, .sc]]), (15, .sc false [.sc]), (16, .sc false [.sc]), (24, .sc false [.ro [.sc, .sc]]), (25, .sc false [.sc]), (26, .sc false [.sc])], [], [(64, [.sc, .sc, .ro [.sc, .sc]]), (65, [.sc, .sc])], 66⟩, ⟨[(1, .ptr 64 0), (3, .sc false [.sc]), (5, .ptr 65 0), (14, .sc false [.ro [.sc, .sc]]), (15, .sc false [.sc]), (16, .sc false [.sc]), (24, .sc false [.ro [.sc, .sc]]), (25, .sc false [.sc]), (26, .sc false [.sc])], [], [(64, [.sc, .sc, .ro [.sc, .sc]]), (65, [.sc, .sc])], 66⟩]

def impl_DoAct_r0 : L := .seq (.seq (.rg []) (.block 0 (.seq (.seq (.rg [⟨[], .bin .eql, [.v 10, .k (.int .i64 1)], 1⟩]) (.ite (.v 18) (.seq (.rg [⟨[], .call F_PutPin 0 11, [.v 0, .v 1, .v 2, .v 3, .v 4, .v 5, .v 6, .v 7, .v 8, .v 9, .v 11, .v 12], 11⟩]) (.seq (.rg [⟨[], .call F_numberOf 0 1, [.v 29], 1⟩]) (.ret [.v 19, .v 20, .v 21, .v 22, .v 23, .v 24, .v 25, .v 26, .v 27, .v 28, .v 30]))) (.seq (.rg [⟨[], .bin .eql, [.v 10, .k (.int .i64 2)], 1⟩]) (.ite (.v 19) (.seq (.rg [⟨[], .call F_RemovePin 0 11, [.v 0, .v 1, .v 2, .v 3, .v 4, .v 5, .v 6, .v 7, .v 8, .v 9, .v 11], 11⟩]) (.seq (.rg [⟨[], .call F_numberOf 0 1, [.v 30], 1⟩]) (.ret [.v 20, .v 21, .v 22, .v 23, .v 24, .v 25, .v 26, .v 27, .v 28, .v 29, .v 31]))) (.seq (.rg [⟨[], .bin .eql, [.v 10, .k (.int .i64 3)], 1⟩]) (.ite (.v 20) (.seq (.rg [⟨[], .call F_TakeBack 0 5, [.v 0, .v 1, .v 2, .v 3], 5⟩]) (.seq (.rg [⟨[], .call F_withBench 0 11, [.v 0, .v 1, .v 2, .v 3, .v 4, .v 5, .v 6, .v 7, .v 8, .v 9, .v 21, .v 22, .v 23, .v 24, .k (.int .i64 0), .v 25], 11⟩]) (.seq (.rg [⟨[], .call F_numberOf 0 1, [.v 36], 1⟩]) (.ret [.v 26, .v 27, .v 28, .v 29, .v 30, .v 31, .v 32, .v 33, .v 34, .v 35, .v 37])))) (.seq (.rg [⟨[], .bin .eql, [.v 10, .k (.int .i64 4)], 1⟩]) (.ite (.v 21) (.seq (.rg [⟨[], .call F_Crank 0 11, [.v 0, .v 1, .v 2, .v 3, .v 4, .v 5, .v 6, .v 7, .v 8, .v 9, .v 11], 11⟩]) (.ret [.v 22, .v 23, .v 24, .v 25, .v 26, .v 27, .v 28, .v 29, .v 30, .v 31, .v 32])) (.seq (.rg [⟨[], .bin .eql, [.v 10, .k (.int .i64 5)], 1⟩]) (.ite (.v 22) (.seq (.rg [⟨[], .call F_PlayOnce 0 11, [.v 0, .v 1, .v 2, .v 3, .v 4, .v 5, .v 6, .v 7, .v 8, .v 9], 11⟩]) (.seq (.rg [⟨[], .call F_numberOf 0 1, [.v 33], 1⟩]) (.ret [.v 23, .v 24, .v 25, .v 26, .v 27, .v 28, .v 29, .v 30, .v 31, .v 32, .v 34]))) (.skip))))))))))) (.tup [.v 0, .v 1, .v 2, .v 3, .v 4, .v 5, .v 6, .v 7, .v 8, .v 9, .k (.int .i64 0), .k (.int .i64 0), .k (.int .i64 0), .k (.int .i64 0), .k (.int .i64 0), .k (.int .i64 0), .k (.int .i64 0)])))) (.seq (.rg [⟨[], .call F_copyWorkshop 0 10, [.v 0, .v 1, .v 2, .v 3, .v 4, .v 5, .v 6, .v 7, .v 8, .v 9], 10⟩, ⟨[], .call F_ClosestPins 0 1, [.v 0, .v 1, .v 2], 1⟩]) (.ret [.v 17, .v 18, .v 19, .v 20, .v 21, .v 22, .v 23, .v 24, .v 25, .v 26, .v 27]))
theorem impl_DoAct_r0_sh (Q : QT) (x0 x1 x2 x3 x4 x5 x6 x7 x8 x9 x10 x11 x12 x13 x14 x15 x16 x17 : V) : shL impl_DoAct_r0 Q [x0, x1, x2, x3, x4, x5, x6, x7, x8, x9, x10, x11, x12, x13, x14, x15, x16, x17] = (
  P1 (.bin .eql) [x10, .int .i64 1] fun v0 =>
  ifB v0 (
    P11 (.call F_PutPin 0 11) [x0, x1, x2, x3, x4, x5, x6, x7, x8, x9, x11, x12] fun v1 v2 v3 v4 v5 v6 v7 v8 v9 v10 v11 =>
    P1 (.call F_numberOf 0 1) [v11] fun v12 =>
    Q .ret [v1, v2, v3, v4, v5, v6, v7, v8, v9, v10, v12]) (
    P1 (.bin .eql) [x10, .int .i64 2] fun v13 =>
    ifB v13 (
      P11 (.call F_RemovePin 0 11) [x0, x1, x2, x3, x4, x5, x6, x7, x8, x9, x11] fun v14 v15 v16 v17 v18 v19 v20 v21 v22 v23 v24 =>
      P1 (.call F_numberOf 0 1) [v24] fun v25 =>
      Q .ret [v14, v15, v16, v17, v18, v19, v20, v21, v22, v23, v25]) (
      P1 (.bin .eql) [x10, .int .i64 3] fun v26 =>
      ifB v26 (
        P5 (.call F_TakeBack 0 5) [x0, x1, x2, x3] fun v27 v28 v29 v30 v31 =>
        P11 (.call F_withBench 0 11) [x0, x1, x2, x3, x4, x5, x6, x7, x8, x9, v27, v28, v29, v30, .int .i64 0, v31] fun v32 v33 v34 v35 v36 v37 v38 v39 v40 v41 v42 =>
        P1 (.call F_numberOf 0 1) [v42] fun v43 =>
        Q .ret [v32, v33, v34, v35, v36, v37, v38, v39, v40, v41, v43]) (
        P1 (.bin .eql) [x10, .int .i64 4] fun v44 =>
        ifB v44 (
          P11 (.call F_Crank 0 11) [x0, x1, x2, x3, x4, x5, x6, x7, x8, x9, x11] fun v45 v46 v47 v48 v49 v50 v51 v52 v53 v54 v55 =>
          Q .ret [v45, v46, v47, v48, v49, v50, v51, v52, v53, v54, v55]) (
          P1 (.bin .eql) [x10, .int .i64 5] fun v56 =>
          ifB v56 (
            P11 (.call F_PlayOnce 0 11) [x0, x1, x2, x3, x4, x5, x6, x7, x8, x9] fun v57 v58 v59 v60 v61 v62 v63 v64 v65 v66 v67 =>
            P1 (.call F_numberOf 0 1) [v67] fun v68 =>
            Q .ret [v57, v58, v59, v60, v61, v62, v63, v64, v65, v66, v68]) (
            P10 (.call F_copyWorkshop 0 10) [x0, x1, x2, x3, x4, x5, x6, x7, x8, x9] fun v69 v70 v71 v72 v73 v74 v75 v76 v77 v78 =>
            P1 (.call F_ClosestPins 0 1) [x0, x1, x2] fun v79 =>
            Q .ret [v69, v70, v71, v72, v73, v74, v75, v76, v77, v78, v79])))))) := by kernel_rfl

def impl_DoAct_L : L := .seq (.rg []) (.seq (.seq (.rg [⟨[], .call F_WorkshopOk 0 1, [.v 0, .v 1, .v 2, .v 3, .v 4, .v 5, .v 6, .v 7, .v 8, .v 9], 1⟩, ⟨[], .un .not, [.v 13], 1⟩, ⟨[(.v 14, false)], .call F_ActOk 0 1, [.v 10, .v 11, .v 12], 1⟩, ⟨[(.v 14, false)], .un .not, [.v 15], 1⟩, ⟨[], .pick, [.v 14, .k (.bool true), .v 16], 1⟩]) (.ite (.v 17) (.seq (.rg [⟨[], .call F_copyWorkshop 0 10, [.v 0, .v 1, .v 2, .v 3, .v 4, .v 5, .v 6, .v 7, .v 8, .v 9], 10⟩]) (.ret [.v 18, .v 19, .v 20, .v 21, .v 22, .v 23, .v 24, .v 25, .v 26, .v 27, .k (.int .i64 (-1))])) (.skip))) (impl_DoAct_r0))
theorem impl_DoAct_L_sh (Q : QT) (x0 x1 x2 x3 x4 x5 x6 x7 x8 x9 x10 x11 x12 : V) : shL impl_DoAct_L Q [x0, x1, x2, x3, x4, x5, x6, x7, x8, x9, x10, x11, x12] = (
  P1 (.call F_WorkshopOk 0 1) [x0, x1, x2, x3, x4, x5, x6, x7, x8, x9] fun v0 =>
  P1 (.un .not) [v0] fun v1 =>
  ifB v1 (
    P10 (.call F_copyWorkshop 0 10) [x0, x1, x2, x3, x4, x5, x6, x7, x8, x9] fun v2 v3 v4 v5 v6 v7 v8 v9 v10 v11 =>
    Q .ret [v2, v3, v4, v5, v6, v7, v8, v9, v10, v11, .int .i64 (-1)]) (
    P1 (.call F_ActOk 0 1) [x10, x11, x12] fun v12 =>
    P1 (.un .not) [v12] fun v13 =>
    ifB v13 (
      P10 (.call F_copyWorkshop 0 10) [x0, x1, x2, x3, x4, x5, x6, x7, x8, x9] fun v14 v15 v16 v17 v18 v19 v20 v21 v22 v23 =>
      Q .ret [v14, v15, v16, v17, v18, v19, v20, v21, v22, v23, .int .i64 (-1)]) (
      shL impl_DoAct_r0 Q [x0, x1, x2, x3, x4, x5, x6, x7, x8, x9, x10, x11, x12, v0, .bool false, v12, v13, .bool false]))) := by kernel_rfl
def impl_DoAct_S : Sig := ⟨[.val true [.sc, .sc, .sl [.sc, .sc], .sl [.sl [.sc, .sc]], .sl [.sc], .sc, .sc, .sc, .sc, .sc], .val true [.sc, .sc, .sc]], [(true, [.sc, .sc, .sl [.sc, .sc], .sl [.sl [.sc, .sc]], .sl [.sc], .sc, .sc, .sc, .sc, .sc]), (false, [.sc])], F_DoAct⟩
def impl_DoAct_hs : List NF := [⟨[(2, .ptr 64 0), (4, .ptr 65 0)], [], [(64, [.sc, .sc, .ro [.sc, .sc], .ro [.sl [.sc, .sc]], .ro [.sc], .sc, .sc, .sc, .sc, .sc]), (65, [.sc, .sc, .nil, .nil, .nil, .sc, .sc, .sc, .sc, .sc])], 66⟩]

def laws_FnExactDoAct_r1 : L := .seq (.rg []) (.seq (.rg [⟨[], .callN F_markWorkshop 3 1, [.v 52, .v 53, .v 54, .v 55, .v 56, .v 57, .v 58, .v 59, .v 60, .v 61, .k (.int .i64 1), .v 54, .v 55, .v 56], 4⟩]) (.seq (.rg []) (.seq (.rg [⟨[], .call F_heldWorkshop 0 1, [.v 52, .v 53, .v 90, .v 91, .v 92, .v 57, .v 58, .v 59, .v 60, .v 61, .k (.int .i64 1)], 1⟩]) (.seq (.seq (.rg [⟨[], .bin .lss, [.v 93, .k (.int .i64 0)], 1⟩]) (.ite (.v 94) (.seq (.rg []) (.ret [.k (.bool false)])) (.skip))) (.seq (.seq (.rg [⟨[], .bin .neq, [.v 93, .v 89], 1⟩]) (.ite (.v 95) (.seq (.rg []) (.ret [.k (.bool false)])) (.skip))) (.seq (.rg [⟨[], .call F_toWorkshop 0 10, [.v 0, .v 1, .v 2, .v 3, .v 4, .v 5, .v 6, .v 7, .v 8, .v 9], 10⟩, ⟨[], .call F_toAct 0 3, [.v 10, .v 11, .v 12], 3⟩, ⟨[], .call F_DoAct 0 11, [.v 96, .v 97, .v 98, .v 99, .v 100, .v 101, .v 102, .v 103, .v 104, .v 105, .v 106, .v 107, .v 108], 11⟩]) (.seq (.seq (.rg [⟨[], .call F_eqWorkshop 0 1, [.v 109, .v 110, .v 111, .v 112, .v 113, .v 114, .v 115, .v 116, .v 117, .v 118, .v 28, .v 29, .v 30, .v 31, .v 32, .v 33, .v 34, .v 35, .v 36, .v 37], 1⟩, ⟨[], .un .not, [.v 120], 1⟩, ⟨[(.v 121, false)], .bin .neq, [.v 119, .v 38], 1⟩, ⟨[], .pick, [.v 121, .k (.bool true), .v 122], 1⟩]) (.ite (.v 123) (.seq (.rg []) (.ret [.k (.bool false)])) (.skip))) (.seq (.rg []) (.seq (.rg [⟨[], .call F_heldWorkshop 0 1, [.v 52, .v 53, .v 90, .v 91, .v 92, .v 57, .v 58, .v 59, .v 60, .v 61, .k (.int .i64 1)], 1⟩]) (.seq (.seq (.rg [⟨[], .bin .lss, [.v 124, .k (.int .i64 0)], 1⟩]) (.ite (.v 125) (.seq (.rg []) (.ret [.k (.bool false)])) (.skip))) (.seq (.seq (.rg [⟨[], .bin .neq, [.v 124, .v 89], 1⟩]) (.ite (.v 126) (.seq (.rg []) (.ret [.k (.bool false)])) (.skip))) (.seq (.rg []) (.ret [.k (.bool true)])))))))))))))
theorem laws_FnExactDoAct_r1_sh (Q : QT) (x0 x1 x2 x3 x4 x5 x6 x7 x8 x9 x10 x11 x12 x13 x14 x15 x16 x17 x18 x19 x20 x21 x22 x23 x24 x25 x26 x27 x28 x29 x30 x31 x32 x33 x34 x35 x36 x37 x38 x39 x40 x41 x42 x43 x44 x45 x46 x47 x48 x49 x50 x51 x52 x53 x54 x55 x56 x57 x58 x59 x60 x61 x62 x63 x64 x65 x66 x67 x68 x69 x70 x71 x72 x73 x74 x75 x76 x77 x78 x79 x80 x81 x82 x83 x84 x85 x86 x87 x88 : V) : shL laws_FnExactDoAct_r1 Q [x0, x1, x2, x3, x4, x5, x6, x7, x8, x9, x10, x11, x12, x13, x14, x15, x16, x17, x18, x19, x20, x21, x22, x23, x24, x25, x26, x27, x28, x29, x30, x31, x32, x33, x34, x35, x36, x37, x38, x39, x40, x41, x42, x43, x44, x45, x46, x47, x48, x49, x50, x51, x52, x53, x54, x55, x56, x57, x58, x59, x60, x61, x62, x63, x64, x65, x66, x67, x68, x69, x70, x71, x72, x73, x74, x75, x76, x77, x78, x79, x80, x81, x82, x83, x84, x85, x86, x87, x88] = (
  P4 (.callN F_markWorkshop 3 1) [x52, x53, x54, x55, x56, x57, x58, x59, x60, x61, .int .i64 1, x54, x55, x56] fun v0 v1 v2 v3 =>
  P1 (.call F_heldWorkshop 0 1) [x52, x53, v1, v2, v3, x57, x58, x59, x60, x61, .int .i64 1] fun v4 =>
  P1 (.bin .lss) [v4, .int .i64 0] fun v5 =>
  ifB v5 (
    Q .ret [.bool false]) (
    P1 (.bin .neq) [v4, v0] fun v6 =>
    ifB v6 (
      Q .ret [.bool false]) (
      P10 (.call F_toWorkshop 0 10) [x0, x1, x2, x3, x4, x5, x6, x7, x8, x9] fun v7 v8 v9 v10 v11 v12 v13 v14 v15 v16 =>
      P3 (.call F_toAct 0 3) [x10, x11, x12] fun v17 v18 v19 =>
      P11 (.call F_DoAct 0 11) [v7, v8, v9, v10, v11, v12, v13, v14, v15, v16, v17, v18, v19] fun v20 v21 v22 v23 v24 v25 v26 v27 v28 v29 v30 =>
      P1 (.call F_eqWorkshop 0 1) [v20, v21, v22, v23, v24, v25, v26, v27, v28, v29, x28, x29, x30, x31, x32, x33, x34, x35, x36, x37] fun v31 =>
      P1 (.un .not) [v31] fun v32 =>
      ifB v32 (
        Q .ret [.bool false]) (
        P1 (.bin .neq) [v30, x38] fun v33 =>
        ifB v33 (
          Q .ret [.bool false]) (
          P1 (.call F_heldWorkshop 0 1) [x52, x53, v1, v2, v3, x57, x58, x59, x60, x61, .int .i64 1] fun v34 =>
          P1 (.bin .lss) [v34, .int .i64 0] fun v35 =>
          ifB v35 (
            Q .ret [.bool false]) (
            P1 (.bin .neq) [v34, v0] fun v36 =>
            ifB v36 (
              Q .ret [.bool false]) (
              Q .ret [.bool true]))))))) := by kernel_rfl

def laws_FnExactDoAct_r0 : L := .seq (.seq (.rg [⟨[], .call F_toWorkshop 0 10, [.v 0, .v 1, .v 2, .v 3, .v 4, .v 5, .v 6, .v 7, .v 8, .v 9], 10⟩, ⟨[], .call F_eqWorkshop 0 1, [.v 39, .v 40, .v 41, .v 42, .v 43, .v 44, .v 45, .v 46, .v 47, .v 48, .v 67, .v 68, .v 69, .v 70, .v 71, .v 72, .v 73, .v 74, .v 75, .v 76], 1⟩, ⟨[], .un .not, [.v 77], 1⟩]) (.ite (.v 78) (.seq (.rg []) (.ret [.k (.bool false)])) (.skip))) (.seq (.rg []) (.seq (.rg [⟨[], .callN F_markWorkshop 3 1, [.v 39, .v 40, .v 41, .v 42, .v 43, .v 44, .v 45, .v 46, .v 47, .v 48, .k (.int .i64 1), .v 41, .v 42, .v 43], 4⟩]) (.seq (.seq (.rg [⟨[], .bin .lss, [.v 79, .k (.int .i64 0)], 1⟩, ⟨[(.v 83, false)], .call F_eqWorkshop 0 1, [.v 52, .v 53, .v 54, .v 55, .v 56, .v 57, .v 58, .v 59, .v 60, .v 61, .v 28, .v 29, .v 30, .v 31, .v 32, .v 33, .v 34, .v 35, .v 36, .v 37], 1⟩, ⟨[(.v 83, false)], .un .not, [.v 84], 1⟩, ⟨[], .pick, [.v 83, .k (.bool true), .v 85], 1⟩, ⟨[(.v 86, false)], .bin .neq, [.v 62, .v 38], 1⟩, ⟨[], .pick, [.v 86, .k (.bool true), .v 87], 1⟩]) (.ite (.v 88) (.seq (.rg []) (.ret [.k (.bool false)])) (.skip))) (laws_FnExactDoAct_r1))))
theorem laws_FnExactDoAct_r0_sh (Q : QT) (x0 x1 x2 x3 x4 x5 x6 x7 x8 x9 x10 x11 x12 x13 x14 x15 x16 x17 x18 x19 x20 x21 x22 x23 x24 x25 x26 x27 x28 x29 x30 x31 x32 x33 x34 x35 x36 x37 x38 x39 x40 x41 x42 x43 x44 x45 x46 x47 x48 x49 x50 x51 x52 x53 x54 x55 x56 x57 x58 x59 x60 x61 x62 x63 x64 x65 x66 : V) : shL laws_FnExactDoAct_r0 Q [x0, x1, x2, x3, x4, x5, x6, x7, x8, x9, x10, x11, x12, x13, x14, x15, x16, x17, x18, x19, x20, x21, x22, x23, x24, x25, x26, x27, x28, x29, x30, x31, x32, x33, x34, x35, x36, x37, x38, x39, x40, x41, x42, x43, x44, x45, x46, x47, x48, x49, x50, x51, x52, x53, x54, x55, x56, x57, x58, x59, x60, x61, x62, x63, x64, x65, x66] = (
  P10 (.call F_toWorkshop 0 10) [x0, x1, x2, x3, x4, x5, x6, x7, x8, x9] fun v0 v1 v2 v3 v4 v5 v6 v7 v8 v9 =>
  P1 (.call F_eqWorkshop 0 1) [x39, x40, x41, x42, x43, x44, x45, x46, x47, x48, v0, v1, v2, v3, v4, v5, v6, v7, v8, v9] fun v10 =>
  P1 (.un .not) [v10] fun v11 =>
  ifB v11 (
    Q .ret [.bool false]) (
    P4 (.callN F_markWorkshop 3 1) [x39, x40, x41, x42, x43, x44, x45, x46, x47, x48, .int .i64 1, x41, x42, x43] fun v12 v13 v14 v15 =>
    P1 (.bin .lss) [v12, .int .i64 0] fun v16 =>
    ifB v16 (
      Q .ret [.bool false]) (
      P1 (.call F_eqWorkshop 0 1) [x52, x53, x54, x55, x56, x57, x58, x59, x60, x61, x28, x29, x30, x31, x32, x33, x34, x35, x36, x37] fun v17 =>
      P1 (.un .not) [v17] fun v18 =>
      ifB v18 (
        Q .ret [.bool false]) (
        P1 (.bin .neq) [x62, x38] fun v19 =>
        ifB v19 (
          Q .ret [.bool false]) (
          shL laws_FnExactDoAct_r1 Q [x0, x1, x2, x3, x4, x5, x6, x7, x8, x9, x10, x11, x12, x13, x14, x15, x16, x17, x18, x19, x20, x21, x22, x23, x24, x25, x26, x27, x28, x29, x30, x31, x32, x33, x34, x35, x36, x37, x38, x39, x40, x41, x42, x43, x44, x45, x46, x47, x48, x49, x50, x51, x52, x53, x54, x55, x56, x57, x58, x59, x60, x61, x62, x63, x64, x65, x66, v0, v1, v2, v3, v4, v5, v6, v7, v8, v9, v10, .bool false, v12, v13, v14, v15, .bool false, v17, v18, .bool false, v19, .bool false]))))) := by kernel_rfl

def laws_FnExactDoAct_L : L := .seq (.rg []) (.seq (.rg []) (.seq (.rg [⟨[], .call F_szWorkshop 0 1, [.v 0, .v 1, .v 2, .v 3, .v 4, .v 5, .v 6, .v 7, .v 8, .v 9, .k (.int .i64 1048576)], 1⟩]) (.seq (.seq (.rg [⟨[], .bin .lss, [.v 13, .k (.int .i64 0)], 1⟩]) (.ite (.v 14) (.seq (.rg []) (.ret [.k (.bool true)])) (.skip))) (.seq (.rg [⟨[], .call F_toWorkshop 0 10, [.v 0, .v 1, .v 2, .v 3, .v 4, .v 5, .v 6, .v 7, .v 8, .v 9], 10⟩, ⟨[], .call F_toAct 0 3, [.v 10, .v 11, .v 12], 3⟩, ⟨[], .call F_DoAct 0 11, [.v 15, .v 16, .v 17, .v 18, .v 19, .v 20, .v 21, .v 22, .v 23, .v 24, .v 25, .v 26, .v 27], 11⟩]) (.seq (.rg [⟨[], .call F_toWorkshop 0 10, [.v 0, .v 1, .v 2, .v 3, .v 4, .v 5, .v 6, .v 7, .v 8, .v 9], 10⟩]) (.seq (.rg [⟨[], .call F_toAct 0 3, [.v 10, .v 11, .v 12], 3⟩, ⟨[], .call F_DoAct 0 11, [.v 39, .v 40, .v 41, .v 42, .v 43, .v 44, .v 45, .v 46, .v 47, .v 48, .v 49, .v 50, .v 51], 11⟩]) (.seq (.seq (.rg [⟨[], .call F_eqWorkshop 0 1, [.v 52, .v 53, .v 54, .v 55, .v 56, .v 57, .v 58, .v 59, .v 60, .v 61, .v 28, .v 29, .v 30, .v 31, .v 32, .v 33, .v 34, .v 35, .v 36, .v 37], 1⟩, ⟨[], .un .not, [.v 63], 1⟩, ⟨[(.v 64, false)], .bin .neq, [.v 62, .v 38], 1⟩, ⟨[], .pick, [.v 64, .k (.bool true), .v 65], 1⟩]) (.ite (.v 66) (.seq (.rg []) (.ret [.k (.bool false)])) (.skip))) (laws_FnExactDoAct_r0))))))))
theorem laws_FnExactDoAct_L_sh (Q : QT) (x0 x1 x2 x3 x4 x5 x6 x7 x8 x9 x10 x11 x12 : V) : shL laws_FnExactDoAct_L Q [x0, x1, x2, x3, x4, x5, x6, x7, x8, x9, x10, x11, x12] = (
  P1 (.call F_szWorkshop 0 1) [x0, x1, x2, x3, x4, x5, x6, x7, x8, x9, .int .i64 1048576] fun v0 =>
  P1 (.bin .lss) [v0, .int .i64 0] fun v1 =>
  ifB v1 (
    Q .ret [.bool true]) (
    P10 (.call F_toWorkshop 0 10) [x0, x1, x2, x3, x4, x5, x6, x7, x8, x9] fun v2 v3 v4 v5 v6 v7 v8 v9 v10 v11 =>
    P3 (.call F_toAct 0 3) [x10, x11, x12] fun v12 v13 v14 =>
    P11 (.call F_DoAct 0 11) [v2, v3, v4, v5, v6, v7, v8, v9, v10, v11, v12, v13, v14] fun v15 v16 v17 v18 v19 v20 v21 v22 v23 v24 v25 =>
    P10 (.call F_toWorkshop 0 10) [x0, x1, x2, x3, x4, x5, x6, x7, x8, x9] fun v26 v27 v28 v29 v30 v31 v32 v33 v34 v35 =>
    P3 (.call F_toAct 0 3) [x10, x11, x12] fun v36 v37 v38 =>
    P11 (.call F_DoAct 0 11) [v26, v27, v28, v29, v30, v31, v32, v33, v34, v35, v36, v37, v38] fun v39 v40 v41 v42 v43 v44 v45 v46 v47 v48 v49 =>
    P1 (.call F_eqWorkshop 0 1) [v39, v40, v41, v42, v43, v44, v45, v46, v47, v48, v15, v16, v17, v18, v19, v20, v21, v22, v23, v24] fun v50 =>
    P1 (.un .not) [v50] fun v51 =>
    ifB v51 (
      Q .ret [.bool false]) (
      P1 (.bin .neq) [v49, v25] fun v52 =>
      ifB v52 (
        Q .ret [.bool false]) (
        shL laws_FnExactDoAct_r0 Q [x0, x1, x2, x3, x4, x5, x6, x7, x8, x9, x10, x11, x12, v0, .bool false, v2, v3, v4, v5, v6, v7, v8, v9, v10, v11, v12, v13, v14, v15, v16, v17, v18, v19, v20, v21, v22, v23, v24, v25, v26, v27, v28, v29, v30, v31, v32, v33, v34, v35, v36, v37, v38, v39, v40, v41, v42, v43, v44, v45, v46, v47, v48, v49, v50, .bool false, v52, .bool false])))) := by kernel_rfl
def laws_FnExactDoAct_S : Sig := ⟨[.val true [.sc, .sc, .sl [.sc, .sc], .sl [.sl [.sc, .sc]], .sl [.sc], .sc, .sc, .sc, .sc, .sc], .val true [.sc, .sc, .sc]], [(false, [.sc])], F_FnExactDoAct⟩
def laws_FnExactDoAct_hs : List NF := []

def laws_szActS_L : L := .seq (.rg []) (.seq (.rg [⟨[], .len, [.v 0], 1⟩, ⟨[], .bin .sub, [.v 1, .v 2], 1⟩]) (.seq (.seq (.rg [⟨[], .bin .lss, [.v 3, .k (.int .i64 0)], 1⟩]) (.ite (.v 4) (.seq (.rg []) (.ret [.k (.int .i64 (-1))])) (.skip))) (.seq (.rg []) (.ret [.v 3]))))
theorem laws_szActS_L_sh (Q : QT) (x0 x1 : V) : shL laws_szActS_L Q [x0, x1] = (
  P1 (.len) [x0] fun v0 =>
  P1 (.bin .sub) [x1, v0] fun v1 =>
  P1 (.bin .lss) [v1, .int .i64 0] fun v2 =>
  ifB v2 (
    Q .ret [.int .i64 (-1)]) (
    Q .ret [v1])) := by kernel_rfl
def laws_szActS_S : Sig := ⟨[.val false [.sl [.sc, .sc, .sc]], .val false [.sc]], [(false, [.sc])], F_szActS⟩
def laws_szActS_hs : List NF := []

def laws_toActS_b0 : L := .seq (.seq (.seq (.rg [⟨[], .len, [.v 0], 1⟩, ⟨[], .bin .lss, [.v 1, .v 3], 1⟩]) (.ite (.v 4) (.skip) (.seq (.tup [.v 2]) (.exit 0)))) (.seq (.block 1 (.seq (.rg [⟨[], .idx [.sc, .sc, .sc], [.v 0, .v 1], 3⟩, ⟨[], .call F_toAct 0 3, [.v 5, .v 6, .v 7], 3⟩, ⟨[], .idx [.sc, .sc, .sc], [.v 2, .v 1], 3⟩, ⟨[], .set [.sc, .sc, .sc] 0, [.v 2, .v 1, .v 8, .v 9, .v 10], 1⟩]) (.tup [.v 0, .v 1, .v 14]))) (.rg [⟨[], .bin .add, [.v 1, .k (.int .i64 1)], 1⟩]))) (.tup [.v 0, .v 3, .v 2])
theorem laws_toActS_b0_sh (Q : QT) (x0 x1 x2 : V) : shL laws_toActS_b0 Q [x0, x1, x2] = (
  P1 (.len) [x0] fun v0 =>
  P1 (.bin .lss) [x1, v0] fun v1 =>
  ifB v1 (
    P3 (.idx [.sc, .sc, .sc]) [x0, x1] fun v2 v3 v4 =>
    P3 (.call F_toAct 0 3) [v2, v3, v4] fun v5 v6 v7 =>
    P3 (.idx [.sc, .sc, .sc]) [x2, x1] fun _ _ _ =>
    P1 (.set [.sc, .sc, .sc] 0) [x2, x1, v5, v6, v7] fun v11 =>
    P1 (.bin .add) [x1, .int .i64 1] fun v12 =>
    Q .normal [x0, v12, v11]) (
    Q (.exit 0) [x2])) := by kernel_rfl

def laws_toActS_r1 : L := .seq (.rg []) (.ret [.v 0])
theorem laws_toActS_r1_sh (Q : QT) (x0 : V) : shL laws_toActS_r1 Q [x0] = (
  Q .ret [x0]) := by kernel_rfl

def laws_toActS_L : L := .seq (.rg []) (.seq (.rg [⟨[], .len, [.v 0], 1⟩, ⟨[], .mk [.sc, .sc, .sc] (.agg [.int .i64 0, .int .i64 0, .int .i64 0]) 24, [.v 1, .v 1], 1⟩]) (.seq (.seq (.rg []) (.block 0 (.seq (.tup [.v 0, .k (.int .i64 0), .v 2]) (.loop (laws_toActS_b0))))) (laws_toActS_r1)))
theorem laws_toActS_L_sh (Q : QT) (x0 : V) : shL laws_toActS_L Q [x0] = (
  P1 (.len) [x0] fun v0 =>
  P1 (.mk [.sc, .sc, .sc] (.agg [.int .i64 0, .int .i64 0, .int .i64 0]) 24) [v0, v0] fun v1 =>
  shL (.loop laws_toActS_b0) (qB 0 (qS (shL laws_toActS_r1 Q) Q)) [x0, .int .i64 0, v1]) := by kernel_rfl
def laws_toActS_S : Sig := ⟨[.val false [.sl [.sc, .sc, .sc]]], [(false, [.sl [.sc, .sc, .sc]])], F_toActS⟩
def laws_toActS_hs : List NF := [⟨[(3, .sc false [.own 64])], [(64, true, [.sc, .sc, .sc])], [], 65⟩, ⟨[(0, .sc false [.ro [.sc, .sc, .sc]]), (3, .sc false [.own 64]), (4, .sc false [.sc])], [(64, true, [.sc, .sc, .sc])], [], 65⟩, ⟨[(0, .sc false [.ro [.sc, .sc, .sc]]), (3, .sc false [.own 64]), (4, .sc false [.sc])], [(64, true, [.sc, .sc, .sc])], [], 65⟩]

def spec_RunActs_b0 : L := .seq (.seq (.seq (.rg [⟨[], .len, [.v 0], 1⟩, ⟨[], .bin .lss, [.v 1, .v 20], 1⟩]) (.ite (.v 21) (.skip) (.seq (.tup [.v 2, .v 3, .v 4, .v 5, .v 6, .v 7, .v 8, .v 9, .v 10, .v 11, .v 12, .v 13, .v 14, .v 15, .v 16, .v 17, .v 18, .v 19]) (.exit 0)))) (.seq (.block 1 (.seq (.seq (.rg [⟨[], .idx [.sc, .sc, .sc], [.v 0, .v 1], 3⟩, ⟨[], .call F_DoAct 0 11, [.v 13, .v 14, .v 3, .v 4, .v 5, .v 15, .v 16, .v 17, .v 18, .v 19, .v 22, .v 23, .v 24], 11⟩]) (.seq (.rg []) (.rg [⟨[], .lst [.sc] false 1, [.v 35], 1⟩, ⟨[], .app [.sc] 8, [.v 2, .v 36], 1⟩]))) (.tup [.v 0, .v 1, .v 37, .v 27, .v 28, .v 29, .v 6, .v 7, .v 8, .v 9, .v 10, .v 11, .v 12, .v 25, .v 26, .v 30, .v 31, .v 32, .v 33, .v 34]))) (.rg [⟨[], .bin .add, [.v 1, .k (.int .i64 1)], 1⟩]))) (.tup [.v 0, .v 20, .v 2, .v 3, .v 4, .v 5, .v 6, .v 7, .v 8, .v 9, .v 10, .v 11, .v 12, .v 13, .v 14, .v 15, .v 16, .v 17, .v 18, .v 19])
theorem spec_RunActs_b0_sh (Q : QT) (x0 x1 x2 x3 x4 x5 x6 x7 x8 x9 x10 x11 x12 x13 x14 x15 x16 x17 x18 x19 : V) : shL spec_RunActs_b0 Q [x0, x1, x2, x3, x4, x5, x6, x7, x8, x9, x10, x11, x12, x13, x14, x15, x16, x17, x18, x19] = (
  P1 (.len) [x0] fun v0 =>
  P1 (.bin .lss) [x1, v0] fun v1 =>
  ifB v1 (
    P3 (.idx [.sc, .sc, .sc]) [x0, x1] fun v2 v3 v4 =>
    P11 (.call F_DoAct 0 11) [x13, x14, x3, x4, x5, x15, x16, x17, x18, x19, v2, v3, v4] fun v5 v6 v7 v8 v9 v10 v11 v12 v13 v14 v15 =>
    P1 (.lst [.sc] false 1) [v15] fun v16 =>
    P1 (.app [.sc] 8) [x2, v16] fun v17 =>
    P1 (.bin .add) [x1, .int .i64 1] fun v18 =>
    Q .normal [x0, v18, v17, v7, v8, v9, x6, x7, x8, x9, x10, x11, x12, v5, v6, v10, v11, v12, v13, v14]) (
    Q (.exit 0) [x2, x3, x4, x5, x6, x7, x8, x9, x10, x11, x12, x13, x14, x15, x16, x17, x18, x19])) := by kernel_rfl

def spec_RunActs_r1 : L := .seq (.rg []) (.ret [.v 11, .v 12, .v 1, .v 2, .v 3, .v 13, .v 14, .v 15, .v 16, .v 17, .v 0])
theorem spec_RunActs_r1_sh (Q : QT) (x0 x1 x2 x3 x4 x5 x6 x7 x8 x9 x10 x11 x12 x13 x14 x15 x16 x17 : V) : shL spec_RunActs_r1 Q [x0, x1, x2, x3, x4, x5, x6, x7, x8, x9, x10, x11, x12, x13, x14, x15, x16, x17] = (
  Q .ret [x11, x12, x1, x2, x3, x13, x14, x15, x16, x17, x0]) := by kernel_rfl

def spec_RunActs_L : L := .seq (.rg []) (.seq (.rg [⟨[], .call F_l38Copy 0 10, [.v 0, .v 1, .v 2, .v 3, .v 4, .v 5, .v 6, .v 7, .v 8, .v 9], 10⟩]) (.seq (.rg [⟨[], .lst [.sc] false 0, [], 1⟩]) (.seq (.seq (.rg [⟨[], .call F_WorkshopOk 0 1, [.v 0, .v 1, .v 2, .v 3, .v 4, .v 5, .v 6, .v 7, .v 8, .v 9], 1⟩, ⟨[], .un .not, [.v 22], 1⟩, ⟨[(.v 23, false)], .len, [.v 10], 1⟩, ⟨[(.v 23, false)], .bin .gtr, [.v 24, .k (.int .i64 40)], 1⟩, ⟨[], .pick, [.v 23, .k (.bool true), .v 25], 1⟩]) (.ite (.v 26) (.seq (.rg []) (.ret [.v 11, .v 12, .v 13, .v 14, .v 15, .v 16, .v 17, .v 18, .v 19, .v 20, .v 21])) (.skip))) (.seq (.seq (.rg []) (.block 0 (.seq (.tup [.v 10, .k (.int .i64 0), .v 21, .v 13, .v 14, .v 15, .k (.int .i64 0), .k (.int .i64 0), .k (.int .i64 0), .k (.int .i64 0), .k (.int .i64 0), .k (.int .i64 0), .k (.int .i64 0), .v 11, .v 12, .v 16, .v 17, .v 18, .v 19, .v 20]) (.loop (spec_RunActs_b0))))) (spec_RunActs_r1)))))
theorem spec_RunActs_L_sh (Q : QT) (x0 x1 x2 x3 x4 x5 x6 x7 x8 x9 x10 : V) : shL spec_RunActs_L Q [x0, x1, x2, x3, x4, x5, x6, x7, x8, x9, x10] = (
  P10 (.call F_l38Copy 0 10) [x0, x1, x2, x3, x4, x5, x6, x7, x8, x9] fun v0 v1 v2 v3 v4 v5 v6 v7 v8 v9 =>
  P1 (.lst [.sc] false 0) [] fun v10 =>
  P1 (.call F_WorkshopOk 0 1) [x0, x1, x2, x3, x4, x5, x6, x7, x8, x9] fun v11 =>
  P1 (.un .not) [v11] fun v12 =>
  ifB v12 (
    Q .ret [v0, v1, v2, v3, v4, v5, v6, v7, v8, v9, v10]) (
    P1 (.len) [x10] fun v13 =>
    P1 (.bin .gtr) [v13, .int .i64 40] fun v14 =>
    ifB v14 (
      Q .ret [v0, v1, v2, v3, v4, v5, v6, v7, v8, v9, v10]) (
      shL (.loop spec_RunActs_b0) (qB 0 (qS (shL spec_RunActs_r1 Q) Q)) [x10, .int .i64 0, v10, v2, v3, v4, .int .i64 0, .int .i64 0, .int .i64 0, .int .i64 0, .int .i64 0, .int .i64 0, .int .i64 0, v0, v1, v5, v6, v7, v8, v9]))) := by kernel_rfl
def spec_RunActs_S : Sig := ⟨[.val true [.sc, .sc, .sl [.sc, .sc], .sl [.sl [.sc, .sc]], .sl [.sc], .sc, .sc, .sc, .sc, .sc], .val false [.sl [.sc, .sc, .sc]]], [(true, [.sc, .sc, .sl [.sc, .sc], .sl [.sl [.sc, .sc]], .sl [.sc], .sc, .sc, .sc, .sc, .sc]), (false, [.sl [.sc]])], F_RunActs⟩
def spec_RunActs_hs : List NF := [⟨[(4, .ptr 64 0), (6, .ptr 65 0), (7, .sc false [.own 66])], [(66, true, [.sc]), (67, true, [.sc, .sc]), (68, true, [.sl [.sc, .sc]]), (69, true, [.sc])], [(64, [.sc, .sc, .nil, .nil, .nil, .sc, .sc, .sc, .sc, .sc]), (65, [.sc, .sc, .own 67, .own 68, .own 69, .sc, .sc, .sc, .sc, .sc])], 70⟩, ⟨[(1, .sc false [.ro [.sc, .sc, .sc]]), (4, .ptr 64 0), (6, .ptr 65 0), (7, .sc false [.own 66]), (8, .sc false [.sc])], [(66, true, [.sc]), (67, true, [.sc, .sc]), (68, true, [.sl [.sc, .sc]]), (69, true, [.sc])], [(64, [.sc, .sc, .nil, .nil, .nil, .sc, .sc, .sc, .sc, .sc]), (65, [.sc, .sc, .own 67, .own 68, .own 69, .sc, .sc, .sc, .sc, .sc])], 70⟩, ⟨[(1, .sc false [.ro [.sc, .sc, .sc]]), (4, .ptr 64 0), (6, .ptr 65 0), (7, .sc false [.own 66]), (8, .sc false [.sc])], [(66, true, [.sc]), (67, true, [.sc, .sc]), (68, true, [.sl [.sc, .sc]]), (69, true, [.sc])], [(64, [.sc, .sc, .nil, .nil, .nil, .sc, .sc, .sc, .sc, .sc]), (65, [.sc, .sc, .own 67, .own 68, .own 69, .sc, .sc, .sc, .sc, .sc])], 70⟩]

def spec_l39Ints_b0 : L := .seq (.seq (.seq (.rg [⟨[], .len, [.v 0], 1⟩, ⟨[], .bin .lss, [.v 2, .v 3], 1⟩]) (.ite (.v 4) (.skip) (.seq (.tup []) (.exit 0)))) (.seq (.block 1 (.seq (.seq (.rg [⟨[], .idx [.sc], [.v 0, .v 2], 1⟩, ⟨[], .idx [.sc], [.v 1, .v 2], 1⟩, ⟨[], .bin .neq, [.v 5, .v 6], 1⟩]) (.ite (.v 7) (.seq (.rg []) (.ret [.k (.bool false)])) (.skip))) (.tup [.v 0, .v 1, .v 2]))) (.rg [⟨[], .bin .add, [.v 2, .k (.int .i64 1)], 1⟩]))) (.tup [.v 0, .v 1, .v 3])
theorem spec_l39Ints_b0_sh (Q : QT) (x0 x1 x2 : V) : shL spec_l39Ints_b0 Q [x0, x1, x2] = (
  P1 (.len) [x0] fun v0 =>
  P1 (.bin .lss) [x2, v0] fun v1 =>
  ifB v1 (
    P1 (.idx [.sc]) [x0, x2] fun v2 =>
    P1 (.idx [.sc]) [x1, x2] fun v3 =>
    P1 (.bin .neq) [v2, v3] fun v4 =>
    ifB v4 (
      Q .ret [.bool false]) (
      P1 (.bin .add) [x2, .int .i64 1] fun v5 =>
      Q .normal [x0, x1, v5])) (
    Q (.exit 0) [])) := by kernel_rfl

def spec_l39Ints_r1 : L := .seq (.rg []) (.ret [.k (.bool true)])
theorem spec_l39Ints_r1_sh (Q : QT) : shL spec_l39Ints_r1 Q [] = (
  Q .ret [.bool true]) := by kernel_rfl

def spec_l39Ints_L : L := .seq (.rg []) (.seq (.seq (.rg [⟨[], .len, [.v 0], 1⟩, ⟨[], .len, [.v 1], 1⟩, ⟨[], .bin .neq, [.v 2, .v 3], 1⟩]) (.ite (.v 4) (.seq (.rg []) (.ret [.k (.bool false)])) (.skip))) (.seq (.seq (.rg []) (.block 0 (.seq (.tup [.v 0, .v 1, .k (.int .i64 0)]) (.loop (spec_l39Ints_b0))))) (spec_l39Ints_r1)))
theorem spec_l39Ints_L_sh (Q : QT) (x0 x1 : V) : shL spec_l39Ints_L Q [x0, x1] = (
  P1 (.len) [x0] fun v0 =>
  P1 (.len) [x1] fun v1 =>
  P1 (.bin .neq) [v0, v1] fun v2 =>
  ifB v2 (
    Q .ret [.bool false]) (
    shL (.loop spec_l39Ints_b0) (qB 0 (qS (shL spec_l39Ints_r1 Q) Q)) [x0, x1, .int .i64 0])) := by kernel_rfl
def spec_l39Ints_S : Sig := ⟨[.val false [.sl [.sc]], .val false [.sl [.sc]]], [(false, [.sc])], F_l39Ints⟩
def spec_l39Ints_hs : List NF := [⟨[], [], [], 64⟩, ⟨[(0, .sc false [.ro [.sc]]), (1, .sc false [.ro [.sc]]), (5, .sc false [.sc])], [], [], 64⟩, ⟨[(0, .sc false [.ro [.sc]]), (1, .sc false [.ro [.sc]]), (5, .sc false [.sc])], [], [], 64⟩]

def spec_IsReplay_L : L := .seq (.rg []) (.seq (.seq (.rg [⟨[], .call F_WorkshopOk 0 1, [.v 0, .v 1, .v 2, .v 3, .v 4, .v 5, .v 6, .v 7, .v 8, .v 9], 1⟩, ⟨[], .un .not, [.v 12], 1⟩, ⟨[(.v 13, false)], .len, [.v 10], 1⟩, ⟨[(.v 13, false)], .bin .gtr, [.v 14, .k (.int .i64 40)], 1⟩, ⟨[], .pick, [.v 13, .k (.bool true), .v 15], 1⟩]) (.ite (.v 16) (.seq (.rg []) (.ret [.k (.bool false)])) (.skip))) (.seq (.rg [⟨[], .call F_RunActs 0 11, [.v 0, .v 1, .v 2, .v 3, .v 4, .v 5, .v 6, .v 7, .v 8, .v 9, .v 10], 11⟩]) (.seq (.rg [⟨[], .call F_l39Ints 0 1, [.v 27, .v 11], 1⟩]) (.ret [.v 28]))))
theorem spec_IsReplay_L_sh (Q : QT) (x0 x1 x2 x3 x4 x5 x6 x7 x8 x9 x10 x11 : V) : shL spec_IsReplay_L Q [x0, x1, x2, x3, x4, x5, x6, x7, x8, x9, x10, x11] = (
  P1 (.call F_WorkshopOk 0 1) [x0, x1, x2, x3, x4, x5, x6, x7, x8, x9] fun v0 =>
  P1 (.un .not) [v0] fun v1 =>
  ifB v1 (
    Q .ret [.bool false]) (
    P1 (.len) [x10] fun v2 =>
    P1 (.bin .gtr) [v2, .int .i64 40] fun v3 =>
    ifB v3 (
      Q .ret [.bool false]) (
      P11 (.call F_RunActs 0 11) [x0, x1, x2, x3, x4, x5, x6, x7, x8, x9, x10] fun _ _ _ _ _ _ _ _ _ _ v14 =>
      P1 (.call F_l39Ints 0 1) [v14, x11] fun v15 =>
      Q .ret [v15]))) := by kernel_rfl
def spec_IsReplay_S : Sig := ⟨[.val true [.sc, .sc, .sl [.sc, .sc], .sl [.sl [.sc, .sc]], .sl [.sc], .sc, .sc, .sc, .sc, .sc], .val false [.sl [.sc, .sc, .sc]], .val false [.sl [.sc]]], [(false, [.sc])], F_IsReplay⟩
def spec_IsReplay_hs : List NF := []

def impl_RunActs_b0 : L := .seq (.seq (.rg [⟨[], .bin .lss, [.v 2, .v 1], 1⟩]) (.seq (.ite (.v 21) (.skip) (.seq (.tup [.v 3, .v 4, .v 5, .v 6, .v 7, .v 8, .v 9, .v 10, .v 11, .v 12, .v 13, .v 14, .v 15, .v 16, .v 17, .v 18, .v 19, .v 20]) (.exit 0))) (.seq (.block 1 (.seq (.seq (.rg [⟨[], .idx [.sc, .sc, .sc], [.v 0, .v 2], 3⟩]) (.seq (.rg [⟨[], .call F_DoAct 0 11, [.v 14, .v 15, .v 4, .v 5, .v 6, .v 16, .v 17, .v 18, .v 19, .v 20, .v 22, .v 23, .v 24], 11⟩]) (.seq (.rg []) (.rg [⟨[], .lst [.sc] false 1, [.v 35], 1⟩, ⟨[], .app [.sc] 8, [.v 3, .v 36], 1⟩])))) (.tup [.v 0, .v 1, .v 2, .v 37, .v 27, .v 28, .v 29, .v 7, .v 8, .v 9, .v 10, .v 11, .v 12, .v 13, .v 25, .v 26, .v 30, .v 31, .v 32, .v 33, .v 34]))) (.rg [⟨[], .bin .add, [.v 2, .k (.int .i64 1)], 1⟩])))) (.tup [.v 0, .v 1, .v 21, .v 3, .v 4, .v 5, .v 6, .v 7, .v 8, .v 9, .v 10, .v 11, .v 12, .v 13, .v 14, .v 15, .v 16, .v 17, .v 18, .v 19, .v 20])
theorem impl_RunActs_b0_sh (Q : QT) (x0 x1 x2 x3 x4 x5 x6 x7 x8 x9 x10 x11 x12 x13 x14 x15 x16 x17 x18 x19 x20 : V) : shL impl_RunActs_b0 Q [x0, x1, x2, x3, x4, x5, x6, x7, x8, x9, x10, x11, x12, x13, x14, x15, x16, x17, x18, x19, x20] = (
  P1 (.bin .lss) [x2, x1] fun v0 =>
  ifB v0 (
    P3 (.idx [.sc, .sc, .sc]) [x0, x2] fun v1 v2 v3 =>
    P11 (.call F_DoAct 0 11) [x14, x15, x4, x5, x6, x16, x17, x18, x19, x20, v1, v2, v3] fun v4 v5 v6 v7 v8 v9 v10 v11 v12 v13 v14 =>
    P1 (.lst [.sc] false 1) [v14] fun v15 =>
    P1 (.app [.sc] 8) [x3, v15] fun v16 =>
    P1 (.bin .add) [x2, .int .i64 1] fun v17 =>
    Q .normal [x0, x1, v17, v16, v6, v7, v8, x7, x8, x9, x10, x11, x12, x13, v4, v5, v9, v10, v11, v12, v13]) (
    Q (.exit 0) [x3, x4, x5, x6, x7, x8, x9, x10, x11, x12, x13, x14, x15, x16, x17, x18, x19, x20])) := by kernel_rfl

def impl_RunActs_r1 : L := .seq (.rg []) (.ret [.v 11, .v 12, .v 1, .v 2, .v 3, .v 13, .v 14, .v 15, .v 16, .v 17, .v 0])
theorem impl_RunActs_r1_sh (Q : QT) (x0 x1 x2 x3 x4 x5 x6 x7 x8 x9 x10 x11 x12 x13 x14 x15 x16 x17 : V) : shL impl_RunActs_r1 Q [x0, x1, x2, x3, x4, x5, x6, x7, x8, x9, x10, x11, x12, x13, x14, x15, x16, x17] = (
  Q .ret [x11, x12, x1, x2, x3, x13, x14, x15, x16, x17, x0]) := by kernel_rfl

def impl_RunActs_L : L := .seq (.rg []) (.seq (.rg [⟨[], .call F_copyWorkshop 0 10, [.v 0, .v 1, .v 2, .v 3, .v 4, .v 5, .v 6, .v 7, .v 8, .v 9], 10⟩]) (.seq (.seq (.rg [⟨[], .call F_WorkshopOk 0 1, [.v 0, .v 1, .v 2, .v 3, .v 4, .v 5, .v 6, .v 7, .v 8, .v 9], 1⟩, ⟨[], .un .not, [.v 21], 1⟩, ⟨[(.v 22, false)], .len, [.v 10], 1⟩, ⟨[(.v 22, false)], .bin .gtr, [.v 23, .k (.int .i64 40)], 1⟩, ⟨[], .pick, [.v 22, .k (.bool true), .v 24], 1⟩]) (.ite (.v 25) (.seq (.rg []) (.ret [.v 11, .v 12, .v 13, .v 14, .v 15, .v 16, .v 17, .v 18, .v 19, .v 20, .k (.list [.sc] [])])) (.skip))) (.seq (.rg [⟨[], .lst [.sc] false 0, [], 1⟩]) (.seq (.seq (.rg [⟨[], .len, [.v 10], 1⟩]) (.block 0 (.seq (.tup [.v 10, .v 27, .k (.int .i64 0), .v 26, .v 13, .v 14, .v 15, .k (.int .i64 0), .k (.int .i64 0), .k (.int .i64 0), .k (.int .i64 0), .k (.int .i64 0), .k (.int .i64 0), .k (.int .i64 0), .v 11, .v 12, .v 16, .v 17, .v 18, .v 19, .v 20]) (.loop (impl_RunActs_b0))))) (impl_RunActs_r1)))))
theorem impl_RunActs_L_sh (Q : QT) (x0 x1 x2 x3 x4 x5 x6 x7 x8 x9 x10 : V) : shL impl_RunActs_L Q [x0, x1, x2, x3, x4, x5, x6, x7, x8, x9, x10] = (
  P10 (.call F_copyWorkshop 0 10) [x0, x1, x2, x3, x4, x5, x6, x7, x8, x9] fun v0 v1 v2 v3 v4 v5 v6 v7 v8 v9 =>
  P1 (.call F_WorkshopOk 0 1) [x0, x1, x2, x3, x4, x5, x6, x7, x8, x9] fun v10 =>
  P1 (.un .not) [v10] fun v11 =>
  ifB v11 (
    Q .ret [v0, v1, v2, v3, v4, v5, v6, v7, v8, v9, .list [.sc] []]) (
    P1 (.len) [x10] fun v12 =>
    P1 (.bin .gtr) [v12, .int .i64 40] fun v13 =>
    ifB v13 (
      Q .ret [v0, v1, v2, v3, v4, v5, v6, v7, v8, v9, .list [.sc] []]) (
      P1 (.lst [.sc] false 0) [] fun v14 =>
      P1 (.len) [x10] fun v15 =>
      shL (.loop impl_RunActs_b0) (qB 0 (qS (shL impl_RunActs_r1 Q) Q)) [x10, v15, .int .i64 0, v14, v2, v3, v4, .int .i64 0, .int .i64 0, .int .i64 0, .int .i64 0, .int .i64 0, .int .i64 0, .int .i64 0, v0, v1, v5, v6, v7, v8, v9]))) := by kernel_rfl
def impl_RunActs_S : Sig := ⟨[.val true [.sc, .sc, .sl [.sc, .sc], .sl [.sl [.sc, .sc]], .sl [.sc], .sc, .sc, .sc, .sc, .sc], .val false [.sl [.sc, .sc, .sc]]], [(true, [.sc, .sc, .sl [.sc, .sc], .sl [.sl [.sc, .sc]], .sl [.sc], .sc, .sc, .sc, .sc, .sc]), (false, [.sl [.sc]])], F_RunActs⟩
def impl_RunActs_hs : List NF := [⟨[(4, .ptr 64 0), (6, .ptr 65 0), (7, .sc false [.own 66])], [(66, true, [.sc]), (67, true, [.sc, .sc]), (68, true, [.sl [.sc, .sc]]), (69, true, [.sc])], [(64, [.sc, .sc, .nil, .nil, .nil, .sc, .sc, .sc, .sc, .sc]), (65, [.sc, .sc, .own 67, .own 68, .own 69, .sc, .sc, .sc, .sc, .sc])], 70⟩, ⟨[(4, .ptr 64 0), (6, .ptr 65 0), (7, .sc false [.own 66]), (24, .sc false [.ro [.sc, .sc, .sc]]), (25, .sc false [.sc]), (26, .sc false [.sc])], [(66, true, [.sc]), (67, true, [.sc, .sc]), (68, true, [.sl [.sc, .sc]]), (69, true, [.sc])], [(64, [.sc, .sc, .nil, .nil, .nil, .sc, .sc, .sc, .sc, .sc]), (65, [.sc, .sc, .own 67, .own 68, .own 69, .sc, .sc, .sc, .sc, .sc])], 70⟩, ⟨[(4, .ptr 64 0), (6, .ptr 65 0), (7, .sc false [.own 66]), (24, .sc false [.ro [.sc, .sc, .sc]]), (25, .sc false [.sc]), (26, .sc false [.sc])], [(66, true, [.sc]), (67, true, [.sc, .sc]), (68, true, [.sl [.sc, .sc]]), (69, true, [.sc])], [(64, [.sc, .sc, .nil, .nil, .nil, .sc, .sc, .sc, .sc, .sc]), (65, [.sc, .sc, .own 67, .own 68, .own 69, .sc, .sc, .sc, .sc, .sc])], 70⟩]

def impl_sameInts_b0 : L := .seq (.seq (.rg [⟨[], .bin .lss, [.v 3, .v 2], 1⟩]) (.seq (.ite (.v 4) (.skip) (.seq (.tup []) (.exit 0))) (.seq (.block 1 (.seq (.seq (.rg [⟨[], .idx [.sc], [.v 1, .v 3], 1⟩]) (.seq (.rg [⟨[], .idx [.sc], [.v 0, .v 3], 1⟩, ⟨[], .bin .neq, [.v 5, .v 6], 1⟩]) (.ite (.v 7) (.seq (.rg []) (.ret [.k (.bool false)])) (.skip)))) (.tup [.v 0, .v 1, .v 2, .v 3]))) (.rg [⟨[], .bin .add, [.v 3, .k (.int .i64 1)], 1⟩])))) (.tup [.v 0, .v 1, .v 2, .v 4])
theorem impl_sameInts_b0_sh (Q : QT) (x0 x1 x2 x3 : V) : shL impl_sameInts_b0 Q [x0, x1, x2, x3] = (
  P1 (.bin .lss) [x3, x2] fun v0 =>
  ifB v0 (
    P1 (.idx [.sc]) [x1, x3] fun v1 =>
    P1 (.idx [.sc]) [x0, x3] fun v2 =>
    P1 (.bin .neq) [v1, v2] fun v3 =>
    ifB v3 (
      Q .ret [.bool false]) (
      P1 (.bin .add) [x3, .int .i64 1] fun v4 =>
      Q .normal [x0, x1, x2, v4])) (
    Q (.exit 0) [])) := by kernel_rfl

def impl_sameInts_r1 : L := .seq (.rg []) (.ret [.k (.bool true)])
theorem impl_sameInts_r1_sh (Q : QT) : shL impl_sameInts_r1 Q [] = (
  Q .ret [.bool true]) := by kernel_rfl

def impl_sameInts_L : L := .seq (.rg []) (.seq (.seq (.rg [⟨[], .len, [.v 0], 1⟩, ⟨[], .len, [.v 1], 1⟩, ⟨[], .bin .neq, [.v 2, .v 3], 1⟩]) (.ite (.v 4) (.seq (.rg []) (.ret [.k (.bool false)])) (.skip))) (.seq (.seq (.rg [⟨[], .len, [.v 0], 1⟩]) (.block 0 (.seq (.tup [.v 1, .v 0, .v 5, .k (.int .i64 0)]) (.loop (impl_sameInts_b0))))) (impl_sameInts_r1)))
theorem impl_sameInts_L_sh (Q : QT) (x0 x1 : V) : shL impl_sameInts_L Q [x0, x1] = (
  P1 (.len) [x0] fun v0 =>
  P1 (.len) [x1] fun v1 =>
  P1 (.bin .neq) [v0, v1] fun v2 =>
  ifB v2 (
    Q .ret [.bool false]) (
    P1 (.len) [x0] fun v3 =>
    shL (.loop impl_sameInts_b0) (qB 0 (qS (shL impl_sameInts_r1 Q) Q)) [x1, x0, v3, .int .i64 0])) := by kernel_rfl
def impl_sameInts_S : Sig := ⟨[.val false [.sl [.sc]], .val false [.sl [.sc]]], [(false, [.sc])], F_sameInts⟩
def impl_sameInts_hs : List NF := [⟨[], [], [], 64⟩, ⟨[(1, .sc false [.ro [.sc]]), (12, .sc false [.ro [.sc]]), (13, .sc false [.sc]), (14, .sc false [.sc])], [], [], 64⟩, ⟨[(1, .sc false [.ro [.sc]]), (12, .sc false [.ro [.sc]]), (13, .sc false [.sc]), (14, .sc false [.sc])], [], [], 64⟩]

def impl_IsReplay_L : L := .seq (.rg []) (.seq (.seq (.rg [⟨[], .call F_WorkshopOk 0 1, [.v 0, .v 1, .v 2, .v 3, .v 4, .v 5, .v 6, .v 7, .v 8, .v 9], 1⟩, ⟨[], .un .not, [.v 12], 1⟩, ⟨[(.v 13, false)], .len, [.v 10], 1⟩, ⟨[(.v 13, false)], .bin .gtr, [.v 14, .k (.int .i64 40)], 1⟩, ⟨[], .pick, [.v 13, .k (.bool true), .v 15], 1⟩]) (.ite (.v 16) (.seq (.rg []) (.ret [.k (.bool false)])) (.skip))) (.seq (.rg [⟨[], .call F_RunActs 0 11, [.v 0, .v 1, .v 2, .v 3, .v 4, .v 5, .v 6, .v 7, .v 8, .v 9, .v 10], 11⟩]) (.seq (.rg [⟨[], .call F_sameInts 0 1, [.v 27, .v 11], 1⟩]) (.ret [.v 28]))))
theorem impl_IsReplay_L_sh (Q : QT) (x0 x1 x2 x3 x4 x5 x6 x7 x8 x9 x10 x11 : V) : shL impl_IsReplay_L Q [x0, x1, x2, x3, x4, x5, x6, x7, x8, x9, x10, x11] = (
  P1 (.call F_WorkshopOk 0 1) [x0, x1, x2, x3, x4, x5, x6, x7, x8, x9] fun v0 =>
  P1 (.un .not) [v0] fun v1 =>
  ifB v1 (
    Q .ret [.bool false]) (
    P1 (.len) [x10] fun v2 =>
    P1 (.bin .gtr) [v2, .int .i64 40] fun v3 =>
    ifB v3 (
      Q .ret [.bool false]) (
      P11 (.call F_RunActs 0 11) [x0, x1, x2, x3, x4, x5, x6, x7, x8, x9, x10] fun _ _ _ _ _ _ _ _ _ _ v14 =>
      P1 (.call F_sameInts 0 1) [v14, x11] fun v15 =>
      Q .ret [v15]))) := by kernel_rfl
def impl_IsReplay_S : Sig := ⟨[.val true [.sc, .sc, .sl [.sc, .sc], .sl [.sl [.sc, .sc]], .sl [.sc], .sc, .sc, .sc, .sc, .sc], .val false [.sl [.sc, .sc, .sc]], .val false [.sl [.sc]]], [(false, [.sc])], F_IsReplay⟩
def impl_IsReplay_hs : List NF := []

def laws_eqAct_L : L := .seq (.rg []) (.seq (.seq (.rg [⟨[], .bin .neq, [.v 0, .v 3], 1⟩]) (.ite (.v 6) (.seq (.rg []) (.ret [.k (.bool false)])) (.skip))) (.seq (.seq (.rg [⟨[], .bin .neq, [.v 1, .v 4], 1⟩]) (.ite (.v 7) (.seq (.rg []) (.ret [.k (.bool false)])) (.skip))) (.seq (.seq (.rg [⟨[], .bin .neq, [.v 2, .v 5], 1⟩]) (.ite (.v 8) (.seq (.rg []) (.ret [.k (.bool false)])) (.skip))) (.seq (.rg []) (.ret [.k (.bool true)])))))
theorem laws_eqAct_L_sh (Q : QT) (x0 x1 x2 x3 x4 x5 : V) : shL laws_eqAct_L Q [x0, x1, x2, x3, x4, x5] = (
  P1 (.bin .neq) [x0, x3] fun v0 =>
  ifB v0 (
    Q .ret [.bool false]) (
    P1 (.bin .neq) [x1, x4] fun v1 =>
    ifB v1 (
      Q .ret [.bool false]) (
      P1 (.bin .neq) [x2, x5] fun v2 =>
      ifB v2 (
        Q .ret [.bool false]) (
        Q .ret [.bool true])))) := by kernel_rfl
def laws_eqAct_S : Sig := ⟨[.val true [.sc, .sc, .sc], .val true [.sc, .sc, .sc]], [(false, [.sc])], F_eqAct⟩
def laws_eqAct_hs : List NF := []

def laws_eqActS_b0 : L := .seq (.seq (.seq (.rg [⟨[], .len, [.v 0], 1⟩, ⟨[], .bin .lss, [.v 2, .v 3], 1⟩]) (.ite (.v 4) (.skip) (.seq (.tup []) (.exit 0)))) (.seq (.block 1 (.seq (.seq (.rg [⟨[], .idx [.sc, .sc, .sc], [.v 0, .v 2], 3⟩, ⟨[], .idx [.sc, .sc, .sc], [.v 1, .v 2], 3⟩, ⟨[], .call F_eqAct 0 1, [.v 5, .v 6, .v 7, .v 8, .v 9, .v 10], 1⟩, ⟨[], .un .not, [.v 11], 1⟩]) (.ite (.v 12) (.seq (.rg []) (.ret [.k (.bool false)])) (.skip))) (.tup [.v 0, .v 1, .v 2]))) (.rg [⟨[], .bin .add, [.v 2, .k (.int .i64 1)], 1⟩]))) (.tup [.v 0, .v 1, .v 3])
theorem laws_eqActS_b0_sh (Q : QT) (x0 x1 x2 : V) : shL laws_eqActS_b0 Q [x0, x1, x2] = (
  P1 (.len) [x0] fun v0 =>
  P1 (.bin .lss) [x2, v0] fun v1 =>
  ifB v1 (
    P3 (.idx [.sc, .sc, .sc]) [x0, x2] fun v2 v3 v4 =>
    P3 (.idx [.sc, .sc, .sc]) [x1, x2] fun v5 v6 v7 =>
    P1 (.call F_eqAct 0 1) [v2, v3, v4, v5, v6, v7] fun v8 =>
    P1 (.un .not) [v8] fun v9 =>
    ifB v9 (
      Q .ret [.bool false]) (
      P1 (.bin .add) [x2, .int .i64 1] fun v10 =>
      Q .normal [x0, x1, v10])) (
    Q (.exit 0) [])) := by kernel_rfl

def laws_eqActS_r1 : L := .seq (.rg []) (.ret [.k (.bool true)])
theorem laws_eqActS_r1_sh (Q : QT) : shL laws_eqActS_r1 Q [] = (
  Q .ret [.bool true]) := by kernel_rfl

def laws_eqActS_L : L := .seq (.rg []) (.seq (.seq (.rg [⟨[], .len, [.v 0], 1⟩, ⟨[], .len, [.v 1], 1⟩, ⟨[], .bin .neq, [.v 2, .v 3], 1⟩]) (.ite (.v 4) (.seq (.rg []) (.ret [.k (.bool false)])) (.skip))) (.seq (.seq (.rg []) (.block 0 (.seq (.tup [.v 0, .v 1, .k (.int .i64 0)]) (.loop (laws_eqActS_b0))))) (laws_eqActS_r1)))
theorem laws_eqActS_L_sh (Q : QT) (x0 x1 : V) : shL laws_eqActS_L Q [x0, x1] = (
  P1 (.len) [x0] fun v0 =>
  P1 (.len) [x1] fun v1 =>
  P1 (.bin .neq) [v0, v1] fun v2 =>
  ifB v2 (
    Q .ret [.bool false]) (
    shL (.loop laws_eqActS_b0) (qB 0 (qS (shL laws_eqActS_r1 Q) Q)) [x0, x1, .int .i64 0])) := by kernel_rfl
def laws_eqActS_S : Sig := ⟨[.val false [.sl [.sc, .sc, .sc]], .val false [.sl [.sc, .sc, .sc]]], [(false, [.sc])], F_eqActS⟩
def laws_eqActS_hs : List NF := [⟨[], [], [], 64⟩, ⟨[(0, .sc false [.ro [.sc, .sc, .sc]]), (1, .sc false [.ro [.sc, .sc, .sc]]), (5, .sc false [.sc])], [], [], 64⟩, ⟨[(0, .sc false [.ro [.sc, .sc, .sc]]), (1, .sc false [.ro [.sc, .sc, .sc]]), (5, .sc false [.sc])], [], [], 64⟩]

def laws_FnExactIsReplay_L : L := .seq (.rg []) (.seq (.seq (.rg [⟨[], .len, [.v 11], 1⟩, ⟨[], .bin .gtr, [.v 12, .k (.int .i64 1048576)], 1⟩]) (.ite (.v 13) (.seq (.rg []) (.ret [.k (.bool true)])) (.skip))) (.seq (.rg []) (.seq (.rg [⟨[], .call F_szWorkshop 0 1, [.v 0, .v 1, .v 2, .v 3, .v 4, .v 5, .v 6, .v 7, .v 8, .v 9, .k (.int .i64 1048576)], 1⟩]) (.seq (.seq (.rg [⟨[], .bin .lss, [.v 14, .k (.int .i64 0)], 1⟩]) (.ite (.v 15) (.seq (.rg []) (.ret [.k (.bool true)])) (.skip))) (.seq (.rg [⟨[], .call F_szActS 0 1, [.v 10, .v 14], 1⟩]) (.seq (.seq (.rg [⟨[], .bin .lss, [.v 16, .k (.int .i64 0)], 1⟩]) (.ite (.v 17) (.seq (.rg []) (.ret [.k (.bool true)])) (.skip))) (.seq (.rg [⟨[], .call F_toWorkshop 0 10, [.v 0, .v 1, .v 2, .v 3, .v 4, .v 5, .v 6, .v 7, .v 8, .v 9], 10⟩, ⟨[], .call F_toActS 0 1, [.v 10], 1⟩, ⟨[], .call F_toIntS 0 1, [.v 11], 1⟩, ⟨[], .call F_IsReplay 0 1, [.v 18, .v 19, .v 20, .v 21, .v 22, .v 23, .v 24, .v 25, .v 26, .v 27, .v 28, .v 29], 1⟩]) (.seq (.rg [⟨[], .call F_toWorkshop 0 10, [.v 0, .v 1, .v 2, .v 3, .v 4, .v 5, .v 6, .v 7, .v 8, .v 9], 10⟩]) (.seq (.rg [⟨[], .call F_toActS 0 1, [.v 10], 1⟩]) (.seq (.rg [⟨[], .call F_toIntS 0 1, [.v 11], 1⟩]) (.seq (.rg [⟨[], .call F_IsReplay 0 1, [.v 31, .v 32, .v 33, .v 34, .v 35, .v 36, .v 37, .v 38, .v 39, .v 40, .v 41, .v 42], 1⟩]) (.seq (.seq (.rg [⟨[], .binb .neq, [.v 43, .v 30], 1⟩]) (.ite (.v 44) (.seq (.rg []) (.ret [.k (.bool false)])) (.skip))) (.seq (.seq (.rg [⟨[], .call F_toWorkshop 0 10, [.v 0, .v 1, .v 2, .v 3, .v 4, .v 5, .v 6, .v 7, .v 8, .v 9], 10⟩, ⟨[], .call F_eqWorkshop 0 1, [.v 31, .v 32, .v 33, .v 34, .v 35, .v 36, .v 37, .v 38, .v 39, .v 40, .v 45, .v 46, .v 47, .v 48, .v 49, .v 50, .v 51, .v 52, .v 53, .v 54], 1⟩, ⟨[], .un .not, [.v 55], 1⟩]) (.ite (.v 56) (.seq (.rg []) (.ret [.k (.bool false)])) (.skip))) (.seq (.seq (.rg [⟨[], .call F_toActS 0 1, [.v 10], 1⟩, ⟨[], .call F_eqActS 0 1, [.v 41, .v 57], 1⟩, ⟨[], .un .not, [.v 58], 1⟩]) (.ite (.v 59) (.seq (.rg []) (.ret [.k (.bool false)])) (.skip))) (.seq (.seq (.rg [⟨[], .call F_toIntS 0 1, [.v 11], 1⟩, ⟨[], .call F_eqIntS 0 1, [.v 42, .v 60], 1⟩, ⟨[], .un .not, [.v 61], 1⟩]) (.ite (.v 62) (.seq (.rg []) (.ret [.k (.bool false)])) (.skip))) (.seq (.rg []) (.ret [.k (.bool true)])))))))))))))))))
theorem laws_FnExactIsReplay_L_sh (Q : QT) (x0 x1 x2 x3 x4 x5 x6 x7 x8 x9 x10 x11 : V) : shL laws_FnExactIsReplay_L Q [x0, x1, x2, x3, x4, x5, x6, x7, x8, x9, x10, x11] = (
  P1 (.len) [x11] fun v0 =>
  P1 (.bin .gtr) [v0, .int .i64 1048576] fun v1 =>
  ifB v1 (
    Q .ret [.bool true]) (
    P1 (.call F_szWorkshop 0 1) [x0, x1, x2, x3, x4, x5, x6, x7, x8, x9, .int .i64 1048576] fun v2 =>
    P1 (.bin .lss) [v2, .int .i64 0] fun v3 =>
    ifB v3 (
      Q .ret [.bool true]) (
      P1 (.call F_szActS 0 1) [x10, v2] fun v4 =>
      P1 (.bin .lss) [v4, .int .i64 0] fun v5 =>
      ifB v5 (
        Q .ret [.bool true]) (
        P10 (.call F_toWorkshop 0 10) [x0, x1, x2, x3, x4, x5, x6, x7, x8, x9] fun v6 v7 v8 v9 v10 v11 v12 v13 v14 v15 =>
        P1 (.call F_toActS 0 1) [x10] fun v16 =>
        P1 (.call F_toIntS 0 1) [x11] fun v17 =>
        P1 (.call F_IsReplay 0 1) [v6, v7, v8, v9, v10, v11, v12, v13, v14, v15, v16, v17] fun v18 =>
        P10 (.call F_toWorkshop 0 10) [x0, x1, x2, x3, x4, x5, x6, x7, x8, x9] fun v19 v20 v21 v22 v23 v24 v25 v26 v27 v28 =>
        P1 (.call F_toActS 0 1) [x10] fun v29 =>
        P1 (.call F_toIntS 0 1) [x11] fun v30 =>
        P1 (.call F_IsReplay 0 1) [v19, v20, v21, v22, v23, v24, v25, v26, v27, v28, v29, v30] fun v31 =>
        P1 (.binb .neq) [v31, v18] fun v32 =>
        ifB v32 (
          Q .ret [.bool false]) (
          P10 (.call F_toWorkshop 0 10) [x0, x1, x2, x3, x4, x5, x6, x7, x8, x9] fun v33 v34 v35 v36 v37 v38 v39 v40 v41 v42 =>
          P1 (.call F_eqWorkshop 0 1) [v19, v20, v21, v22, v23, v24, v25, v26, v27, v28, v33, v34, v35, v36, v37, v38, v39, v40, v41, v42] fun v43 =>
          P1 (.un .not) [v43] fun v44 =>
          ifB v44 (
            Q .ret [.bool false]) (
            P1 (.call F_toActS 0 1) [x10] fun v45 =>
            P1 (.call F_eqActS 0 1) [v29, v45] fun v46 =>
            P1 (.un .not) [v46] fun v47 =>
            ifB v47 (
              Q .ret [.bool false]) (
              P1 (.call F_toIntS 0 1) [x11] fun v48 =>
              P1 (.call F_eqIntS 0 1) [v30, v48] fun v49 =>
              P1 (.un .not) [v49] fun v50 =>
              ifB v50 (
                Q .ret [.bool false]) (
                Q .ret [.bool true])))))))) := by kernel_rfl
def laws_FnExactIsReplay_S : Sig := ⟨[.val true [.sc, .sc, .sl [.sc, .sc], .sl [.sl [.sc, .sc]], .sl [.sc], .sc, .sc, .sc, .sc, .sc], .val false [.sl [.sc, .sc, .sc]], .val false [.sl [.sc]]], [(false, [.sc])], F_FnExactIsReplay⟩
def laws_FnExactIsReplay_hs : List NF := []

def laws_markActS_b0 : L := .seq (.seq (.seq (.rg [⟨[], .len, [.v 2], 1⟩, ⟨[], .bin .lss, [.v 1, .v 3], 1⟩]) (.ite (.v 4) (.skip) (.seq (.tup [.v 0, .v 2]) (.exit 0)))) (.seq (.block 1 (.seq (.seq (.rg [⟨[], .idx [.sc, .sc, .sc], [.v 2, .v 1], 3⟩, ⟨[], .set [.sc, .sc, .sc] 0, [.v 2, .v 1, .v 0], 1⟩]) (.seq (.rg [⟨[], .bin .add, [.v 0, .k (.int .i64 1)], 1⟩]) (.seq (.rg [⟨[], .idx [.sc, .sc, .sc], [.v 8, .v 1], 3⟩, ⟨[], .set [.sc, .sc, .sc] 1, [.v 8, .v 1, .v 9], 1⟩]) (.seq (.rg [⟨[], .bin .add, [.v 9, .k (.int .i64 1)], 1⟩]) (.seq (.rg [⟨[], .idx [.sc, .sc, .sc], [.v 13, .v 1], 3⟩, ⟨[], .set [.sc, .sc, .sc] 2, [.v 13, .v 1, .v 14], 1⟩]) (.rg [⟨[], .bin .add, [.v 14, .k (.int .i64 1)], 1⟩])))))) (.tup [.v 19, .v 1, .v 18]))) (.rg [⟨[], .bin .add, [.v 1, .k (.int .i64 1)], 1⟩]))) (.tup [.v 0, .v 3, .v 2])
theorem laws_markActS_b0_sh (Q : QT) (x0 x1 x2 : V) : shL laws_markActS_b0 Q [x0, x1, x2] = (
  P1 (.len) [x2] fun v0 =>
  P1 (.bin .lss) [x1, v0] fun v1 =>
  ifB v1 (
    P3 (.idx [.sc, .sc, .sc]) [x2, x1] fun _ _ _ =>
    P1 (.set [.sc, .sc, .sc] 0) [x2, x1, x0] fun v5 =>
    P1 (.bin .add) [x0, .int .i64 1] fun v6 =>
    P3 (.idx [.sc, .sc, .sc]) [v5, x1] fun _ _ _ =>
    P1 (.set [.sc, .sc, .sc] 1) [v5, x1, v6] fun v10 =>
    P1 (.bin .add) [v6, .int .i64 1] fun v11 =>
    P3 (.idx [.sc, .sc, .sc]) [v10, x1] fun _ _ _ =>
    P1 (.set [.sc, .sc, .sc] 2) [v10, x1, v11] fun v15 =>
    P1 (.bin .add) [v11, .int .i64 1] fun v16 =>
    P1 (.bin .add) [x1, .int .i64 1] fun v17 =>
    Q .normal [v16, v17, v15]) (
    Q (.exit 0) [x0, x2])) := by kernel_rfl

def laws_markActS_r1 : L := .seq (.rg []) (.ret [.v 0, .v 1])
theorem laws_markActS_r1_sh (Q : QT) (x0 x1 : V) : shL laws_markActS_r1 Q [x0, x1] = (
  Q .ret [x0, x1]) := by kernel_rfl

def laws_markActS_L : L := .seq (.rg []) (.seq (.seq (.rg []) (.block 0 (.seq (.tup [.v 1, .k (.int .i64 0), .v 0]) (.loop (laws_markActS_b0))))) (laws_markActS_r1))
theorem laws_markActS_L_sh (Q : QT) (x0 x1 : V) : shL laws_markActS_L Q [x0, x1] = (
  shL (.loop laws_markActS_b0) (qB 0 (qS (shL laws_markActS_r1 Q) Q)) [x1, .int .i64 0, x0]) := by kernel_rfl
def laws_markActS_S : Sig := ⟨[.io false [.sl [.sc, .sc, .sc]], .val false [.sc]], [(false, [.sc])], F_markActS⟩
def laws_markActS_hs : List NF := [⟨[(1, .sc false [.sc])], [(0, false, [.sc, .sc, .sc])], [], 64⟩, ⟨[(0, .sc false [.own 0]), (1, .sc false [.sc]), (5, .sc false [.sc])], [(0, false, [.sc, .sc, .sc])], [], 64⟩, ⟨[(0, .sc false [.own 0]), (1, .sc false [.sc]), (5, .sc false [.sc])], [(0, false, [.sc, .sc, .sc])], [], 64⟩]

def laws_FnExactRunActs_r1 : L := .seq (.rg []) (.seq (.rg [⟨[], .callN F_markWorkshop 3 1, [.v 48, .v 49, .v 50, .v 51, .v 52, .v 53, .v 54, .v 55, .v 56, .v 57, .k (.int .i64 1), .v 50, .v 51, .v 52], 4⟩]) (.seq (.rg [⟨[], .call F_markIntS 1 1, [.v 58, .v 92, .v 58], 2⟩]) (.seq (.rg []) (.seq (.rg [⟨[], .call F_heldWorkshop 0 1, [.v 48, .v 49, .v 93, .v 94, .v 95, .v 53, .v 54, .v 55, .v 56, .v 57, .k (.int .i64 1)], 1⟩]) (.seq (.seq (.rg [⟨[], .bin .lss, [.v 98, .k (.int .i64 0)], 1⟩]) (.ite (.v 99) (.seq (.rg []) (.ret [.k (.bool false)])) (.skip))) (.seq (.rg [⟨[], .call F_heldIntS 0 1, [.v 97, .v 98], 1⟩]) (.seq (.seq (.rg [⟨[], .bin .lss, [.v 100, .k (.int .i64 0)], 1⟩]) (.ite (.v 101) (.seq (.rg []) (.ret [.k (.bool false)])) (.skip))) (.seq (.seq (.rg [⟨[], .bin .neq, [.v 100, .v 96], 1⟩]) (.ite (.v 102) (.seq (.rg []) (.ret [.k (.bool false)])) (.skip))) (.seq (.rg [⟨[], .call F_toWorkshop 0 10, [.v 0, .v 1, .v 2, .v 3, .v 4, .v 5, .v 6, .v 7, .v 8, .v 9], 10⟩, ⟨[], .call F_toActS 0 1, [.v 10], 1⟩, ⟨[], .call F_RunActs 0 11, [.v 103, .v 104, .v 105, .v 106, .v 107, .v 108, .v 109, .v 110, .v 111, .v 112, .v 113], 11⟩]) (.seq (.seq (.rg [⟨[], .call F_eqWorkshop 0 1, [.v 114, .v 115, .v 116, .v 117, .v 118, .v 119, .v 120, .v 121, .v 122, .v 123, .v 26, .v 27, .v 28, .v 29, .v 30, .v 31, .v 32, .v 33, .v 34, .v 35], 1⟩, ⟨[], .un .not, [.v 125], 1⟩, ⟨[(.v 126, false)], .call F_eqIntS 0 1, [.v 124, .v 36], 1⟩, ⟨[(.v 126, false)], .un .not, [.v 127], 1⟩, ⟨[], .pick, [.v 126, .k (.bool true), .v 128], 1⟩]) (.ite (.v 129) (.seq (.rg []) (.ret [.k (.bool false)])) (.skip))) (.seq (.rg []) (.seq (.rg [⟨[], .call F_heldWorkshop 0 1, [.v 48, .v 49, .v 93, .v 94, .v 95, .v 53, .v 54, .v 55, .v 56, .v 57, .k (.int .i64 1)], 1⟩]) (.seq (.seq (.rg [⟨[], .bin .lss, [.v 130, .k (.int .i64 0)], 1⟩]) (.ite (.v 131) (.seq (.rg []) (.ret [.k (.bool false)])) (.skip))) (.seq (.rg [⟨[], .call F_heldIntS 0 1, [.v 97, .v 130], 1⟩]) (.seq (.seq (.rg [⟨[], .bin .lss, [.v 132, .k (.int .i64 0)], 1⟩]) (.ite (.v 133) (.seq (.rg []) (.ret [.k (.bool false)])) (.skip))) (.seq (.seq (.rg [⟨[], .bin .neq, [.v 132, .v 96], 1⟩]) (.ite (.v 134) (.seq (.rg []) (.ret [.k (.bool false)])) (.skip))) (.seq (.rg []) (.ret [.k (.bool true)]))))))))))))))))))
theorem laws_FnExactRunActs_r1_sh (Q : QT) (x0 x1 x2 x3 x4 x5 x6 x7 x8 x9 x10 x11 x12 x13 x14 x15 x16 x17 x18 x19 x20 x21 x22 x23 x24 x25 x26 x27 x28 x29 x30 x31 x32 x33 x34 x35 x36 x37 x38 x39 x40 x41 x42 x43 x44 x45 x46 x47 x48 x49 x50 x51 x52 x53 x54 x55 x56 x57 x58 x59 x60 x61 x62 x63 x64 x65 x66 x67 x68 x69 x70 x71 x72 x73 x74 x75 x76 x77 x78 x79 x80 x81 x82 x83 x84 x85 x86 x87 x88 x89 x90 x91 : V) : shL laws_FnExactRunActs_r1 Q [x0, x1, x2, x3, x4, x5, x6, x7, x8, x9, x10, x11, x12, x13, x14, x15, x16, x17, x18, x19, x20, x21, x22, x23, x24, x25, x26, x27, x28, x29, x30, x31, x32, x33, x34, x35, x36, x37, x38, x39, x40, x41, x42, x43, x44, x45, x46, x47, x48, x49, x50, x51, x52, x53, x54, x55, x56, x57, x58, x59, x60, x61, x62, x63, x64, x65, x66, x67, x68, x69, x70, x71, x72, x73, x74, x75, x76, x77, x78, x79, x80, x81, x82, x83, x84, x85, x86, x87, x88, x89, x90, x91] = (
  P4 (.callN F_markWorkshop 3 1) [x48, x49, x50, x51, x52, x53, x54, x55, x56, x57, .int .i64 1, x50, x51, x52] fun v0 v1 v2 v3 =>
  P2 (.call F_markIntS 1 1) [x58, v0, x58] fun v4 v5 =>
  P1 (.call F_heldWorkshop 0 1) [x48, x49, v1, v2, v3, x53, x54, x55, x56, x57, .int .i64 1] fun v6 =>
  P1 (.bin .lss) [v6, .int .i64 0] fun v7 =>
  ifB v7 (
    Q .ret [.bool false]) (
    P1 (.call F_heldIntS 0 1) [v5, v6] fun v8 =>
    P1 (.bin .lss) [v8, .int .i64 0] fun v9 =>
    ifB v9 (
      Q .ret [.bool false]) (
      P1 (.bin .neq) [v8, v4] fun v10 =>
      ifB v10 (
        Q .ret [.bool false]) (
        P10 (.call F_toWorkshop 0 10) [x0, x1, x2, x3, x4, x5, x6, x7, x8, x9] fun v11 v12 v13 v14 v15 v16 v17 v18 v19 v20 =>
        P1 (.call F_toActS 0 1) [x10] fun v21 =>
        P11 (.call F_RunActs 0 11) [v11, v12, v13, v14, v15, v16, v17, v18, v19, v20, v21] fun v22 v23 v24 v25 v26 v27 v28 v29 v30 v31 v32 =>
        P1 (.call F_eqWorkshop 0 1) [v22, v23, v24, v25, v26, v27, v28, v29, v30, v31, x26, x27, x28, x29, x30, x31, x32, x33, x34, x35] fun v33 =>
        P1 (.un .not) [v33] fun v34 =>
        ifB v34 (
          Q .ret [.bool false]) (
          P1 (.call F_eqIntS 0 1) [v32, x36] fun v35 =>
          P1 (.un .not) [v35] fun v36 =>
          ifB v36 (
            Q .ret [.bool false]) (
            P1 (.call F_heldWorkshop 0 1) [x48, x49, v1, v2, v3, x53, x54, x55, x56, x57, .int .i64 1] fun v37 =>
            P1 (.bin .lss) [v37, .int .i64 0] fun v38 =>
            ifB v38 (
              Q .ret [.bool false]) (
              P1 (.call F_heldIntS 0 1) [v5, v37] fun v39 =>
              P1 (.bin .lss) [v39, .int .i64 0] fun v40 =>
              ifB v40 (
                Q .ret [.bool false]) (
                P1 (.bin .neq) [v39, v4] fun v41 =>
                ifB v41 (
                  Q .ret [.bool false]) (
                  Q .ret [.bool true]))))))))) := by kernel_rfl

def laws_FnExactRunActs_r0 : L := .seq (.seq (.rg [⟨[], .call F_toWorkshop 0 10, [.v 0, .v 1, .v 2, .v 3, .v 4, .v 5, .v 6, .v 7, .v 8, .v 9], 10⟩, ⟨[], .call F_eqWorkshop 0 1, [.v 37, .v 38, .v 39, .v 40, .v 41, .v 42, .v 43, .v 44, .v 45, .v 46, .v 64, .v 65, .v 66, .v 67, .v 68, .v 69, .v 70, .v 71, .v 72, .v 73], 1⟩, ⟨[], .un .not, [.v 74], 1⟩]) (.ite (.v 75) (.seq (.rg []) (.ret [.k (.bool false)])) (.skip))) (.seq (.seq (.rg [⟨[], .call F_toActS 0 1, [.v 10], 1⟩, ⟨[], .call F_eqActS 0 1, [.v 47, .v 76], 1⟩, ⟨[], .un .not, [.v 77], 1⟩]) (.ite (.v 78) (.seq (.rg []) (.ret [.k (.bool false)])) (.skip))) (.seq (.rg []) (.seq (.rg [⟨[], .callN F_markWorkshop 3 1, [.v 37, .v 38, .v 39, .v 40, .v 41, .v 42, .v 43, .v 44, .v 45, .v 46, .k (.int .i64 1), .v 39, .v 40, .v 41], 4⟩]) (.seq (.rg [⟨[], .call F_markActS 1 1, [.v 47, .v 79, .v 47], 2⟩]) (.seq (.seq (.rg [⟨[], .bin .lss, [.v 83, .k (.int .i64 0)], 1⟩, ⟨[(.v 85, false)], .call F_eqWorkshop 0 1, [.v 48, .v 49, .v 50, .v 51, .v 52, .v 53, .v 54, .v 55, .v 56, .v 57, .v 26, .v 27, .v 28, .v 29, .v 30, .v 31, .v 32, .v 33, .v 34, .v 35], 1⟩, ⟨[(.v 85, false)], .un .not, [.v 86], 1⟩, ⟨[], .pick, [.v 85, .k (.bool true), .v 87], 1⟩, ⟨[(.v 88, false)], .call F_eqIntS 0 1, [.v 58, .v 36], 1⟩, ⟨[(.v 88, false)], .un .not, [.v 89], 1⟩, ⟨[], .pick, [.v 88, .k (.bool true), .v 90], 1⟩]) (.ite (.v 91) (.seq (.rg []) (.ret [.k (.bool false)])) (.skip))) (laws_FnExactRunActs_r1))))))
theorem laws_FnExactRunActs_r0_sh (Q : QT) (x0 x1 x2 x3 x4 x5 x6 x7 x8 x9 x10 x11 x12 x13 x14 x15 x16 x17 x18 x19 x20 x21 x22 x23 x24 x25 x26 x27 x28 x29 x30 x31 x32 x33 x34 x35 x36 x37 x38 x39 x40 x41 x42 x43 x44 x45 x46 x47 x48 x49 x50 x51 x52 x53 x54 x55 x56 x57 x58 x59 x60 x61 x62 x63 : V) : shL laws_FnExactRunActs_r0 Q [x0, x1, x2, x3, x4, x5, x6, x7, x8, x9, x10, x11, x12, x13, x14, x15, x16, x17, x18, x19, x20, x21, x22, x23, x24, x25, x26, x27, x28, x29, x30, x31, x32, x33, x34, x35, x36, x37, x38, x39, x40, x41, x42, x43, x44, x45, x46, x47, x48, x49, x50, x51, x52, x53, x54, x55, x56, x57, x58, x59, x60, x61, x62, x63] = (
  P10 (.call F_toWorkshop 0 10) [x0, x1, x2, x3, x4, x5, x6, x7, x8, x9] fun v0 v1 v2 v3 v4 v5 v6 v7 v8 v9 =>
  P1 (.call F_eqWorkshop 0 1) [x37, x38, x39, x40, x41, x42, x43, x44, x45, x46, v0, v1, v2, v3, v4, v5, v6, v7, v8, v9] fun v10 =>
  P1 (.un .not) [v10] fun v11 =>
  ifB v11 (
    Q .ret [.bool false]) (
    P1 (.call F_toActS 0 1) [x10] fun v12 =>
    P1 (.call F_eqActS 0 1) [x47, v12] fun v13 =>
    P1 (.un .not) [v13] fun v14 =>
    ifB v14 (
      Q .ret [.bool false]) (
      P4 (.callN F_markWorkshop 3 1) [x37, x38, x39, x40, x41, x42, x43, x44, x45, x46, .int .i64 1, x39, x40, x41] fun v15 v16 v17 v18 =>
      P2 (.call F_markActS 1 1) [x47, v15, x47] fun v19 v20 =>
      P1 (.bin .lss) [v19, .int .i64 0] fun v21 =>
      ifB v21 (
        Q .ret [.bool false]) (
        P1 (.call F_eqWorkshop 0 1) [x48, x49, x50, x51, x52, x53, x54, x55, x56, x57, x26, x27, x28, x29, x30, x31, x32, x33, x34, x35] fun v22 =>
        P1 (.un .not) [v22] fun v23 =>
        ifB v23 (
          Q .ret [.bool false]) (
          P1 (.call F_eqIntS 0 1) [x58, x36] fun v24 =>
          P1 (.un .not) [v24] fun v25 =>
          ifB v25 (
            Q .ret [.bool false]) (
            shL laws_FnExactRunActs_r1 Q [x0, x1, x2, x3, x4, x5, x6, x7, x8, x9, x10, x11, x12, x13, x14, x15, x16, x17, x18, x19, x20, x21, x22, x23, x24, x25, x26, x27, x28, x29, x30, x31, x32, x33, x34, x35, x36, x37, x38, x39, x40, x41, x42, x43, x44, x45, x46, x47, x48, x49, x50, x51, x52, x53, x54, x55, x56, x57, x58, x59, x60, x61, x62, x63, v0, v1, v2, v3, v4, v5, v6, v7, v8, v9, v10, .bool false, v12, v13, .bool false, v15, v16, v17, v18, v19, v20, .bool false, v22, v23, .bool false, v24, v25, .bool false])))))) := by kernel_rfl

def laws_FnExactRunActs_L : L := .seq (.rg []) (.seq (.rg []) (.seq (.rg [⟨[], .call F_szWorkshop 0 1, [.v 0, .v 1, .v 2, .v 3, .v 4, .v 5, .v 6, .v 7, .v 8, .v 9, .k (.int .i64 1048576)], 1⟩]) (.seq (.seq (.rg [⟨[], .bin .lss, [.v 11, .k (.int .i64 0)], 1⟩]) (.ite (.v 12) (.seq (.rg []) (.ret [.k (.bool true)])) (.skip))) (.seq (.rg [⟨[], .call F_szActS 0 1, [.v 10, .v 11], 1⟩]) (.seq (.seq (.rg [⟨[], .bin .lss, [.v 13, .k (.int .i64 0)], 1⟩]) (.ite (.v 14) (.seq (.rg []) (.ret [.k (.bool true)])) (.skip))) (.seq (.rg [⟨[], .call F_toWorkshop 0 10, [.v 0, .v 1, .v 2, .v 3, .v 4, .v 5, .v 6, .v 7, .v 8, .v 9], 10⟩, ⟨[], .call F_toActS 0 1, [.v 10], 1⟩, ⟨[], .call F_RunActs 0 11, [.v 15, .v 16, .v 17, .v 18, .v 19, .v 20, .v 21, .v 22, .v 23, .v 24, .v 25], 11⟩]) (.seq (.rg [⟨[], .call F_toWorkshop 0 10, [.v 0, .v 1, .v 2, .v 3, .v 4, .v 5, .v 6, .v 7, .v 8, .v 9], 10⟩]) (.seq (.rg [⟨[], .call F_toActS 0 1, [.v 10], 1⟩]) (.seq (.rg [⟨[], .call F_RunActs 0 11, [.v 37, .v 38, .v 39, .v 40, .v 41, .v 42, .v 43, .v 44, .v 45, .v 46, .v 47], 11⟩]) (.seq (.seq (.rg [⟨[], .call F_eqWorkshop 0 1, [.v 48, .v 49, .v 50, .v 51, .v 52, .v 53, .v 54, .v 55, .v 56, .v 57, .v 26, .v 27, .v 28, .v 29, .v 30, .v 31, .v 32, .v 33, .v 34, .v 35], 1⟩, ⟨[], .un .not, [.v 59], 1⟩, ⟨[(.v 60, false)], .call F_eqIntS 0 1, [.v 58, .v 36], 1⟩, ⟨[(.v 60, false)], .un .not, [.v 61], 1⟩, ⟨[], .pick, [.v 60, .k (.bool true), .v 62], 1⟩]) (.ite (.v 63) (.seq (.rg []) (.ret [.k (.bool false)])) (.skip))) (laws_FnExactRunActs_r0)))))))))))
theorem laws_FnExactRunActs_L_sh (Q : QT) (x0 x1 x2 x3 x4 x5 x6 x7 x8 x9 x10 : V) : shL laws_FnExactRunActs_L Q [x0, x1, x2, x3, x4, x5, x6, x7, x8, x9, x10] = (
  P1 (.call F_szWorkshop 0 1) [x0, x1, x2, x3, x4, x5, x6, x7, x8, x9, .int .i64 1048576] fun v0 =>
  P1 (.bin .lss) [v0, .int .i64 0] fun v1 =>
  ifB v1 (
    Q .ret [.bool true]) (
    P1 (.call F_szActS 0 1) [x10, v0] fun v2 =>
    P1 (.bin .lss) [v2, .int .i64 0] fun v3 =>
    ifB v3 (
      Q .ret [.bool true]) (
      P10 (.call F_toWorkshop 0 10) [x0, x1, x2, x3, x4, x5, x6, x7, x8, x9] fun v4 v5 v6 v7 v8 v9 v10 v11 v12 v13 =>
      P1 (.call F_toActS 0 1) [x10] fun v14 =>
      P11 (.call F_RunActs 0 11) [v4, v5, v6, v7, v8, v9, v10, v11, v12, v13, v14] fun v15 v16 v17 v18 v19 v20 v21 v22 v23 v24 v25 =>
      P10 (.call F_toWorkshop 0 10) [x0, x1, x2, x3, x4, x5, x6, x7, x8, x9] fun v26 v27 v28 v29 v30 v31 v32 v33 v34 v35 =>
      P1 (.call F_toActS 0 1) [x10] fun v36 =>
      P11 (.call F_RunActs 0 11) [v26, v27, v28, v29, v30, v31, v32, v33, v34, v35, v36] fun v37 v38 v39 v40 v41 v42 v43 v44 v45 v46 v47 =>
      P1 (.call F_eqWorkshop 0 1) [v37, v38, v39, v40, v41, v42, v43, v44, v45, v46, v15, v16, v17, v18, v19, v20, v21, v22, v23, v24] fun v48 =>
      P1 (.un .not) [v48] fun v49 =>
      ifB v49 (
        Q .ret [.bool false]) (
        P1 (.call F_eqIntS 0 1) [v47, v25] fun v50 =>
        P1 (.un .not) [v50] fun v51 =>
        ifB v51 (
          Q .ret [.bool false]) (
          shL laws_FnExactRunActs_r0 Q [x0, x1, x2, x3, x4, x5, x6, x7, x8, x9, x10, v0, .bool false, v2, .bool false, v4, v5, v6, v7, v8, v9, v10, v11, v12, v13, v14, v15, v16, v17, v18, v19, v20, v21, v22, v23, v24, v25, v26, v27, v28, v29, v30, v31, v32, v33, v34, v35, v36, v37, v38, v39, v40, v41, v42, v43, v44, v45, v46, v47, v48, .bool false, v50, v51, .bool false]))))) := by kernel_rfl
def laws_FnExactRunActs_S : Sig := ⟨[.val true [.sc, .sc, .sl [.sc, .sc], .sl [.sl [.sc, .sc]], .sl [.sc], .sc, .sc, .sc, .sc, .sc], .val false [.sl [.sc, .sc, .sc]]], [(false, [.sc])], F_FnExactRunActs⟩
def laws_FnExactRunActs_hs : List NF := []

end
end Go.Mw

/- Acts: memory. -/
namespace Go.Mw
theorem laws_szActS_ok : ∀ ds outs, F_szActS ds = some outs → shL laws_szActS_L (qRet outs) ds := F_szActS_elim fun l n hp => by
  rw [laws_szActS_L_sh]
  simp (disch := omega) [wrap_id]
  grind

theorem laws_toActS_ok : ∀ ds outs, F_toActS ds = some outs → shL laws_toActS_L (qRet outs) ds := F_toActS_elim fun l hp => by
  rw [laws_toActS_L_sh]
  simp
  refine ⟨by omega, ?_⟩
  refine loop_upto l.length (fun k => [vL I3 v3 l, .int .i64 k, vL I3 v3 (l.take k ++ List.replicate (l.length - k) ⟨0, 0, 0⟩)]) (by intro i j _ _ h; simp at h; omega) (fun _ => True) (by simp) trivial ?_
  intro k hk _
  rw [laws_toActS_b0_sh]
  simp
  refine ⟨fun h => ?_, fun h => ?_⟩
  · rw [fill_get h (by omega)]
    simp (disch := omega) [h, fill_set h, wrap_id]
  · obtain rfl : k = l.length := by omega
    simp [laws_toActS_r1_sh]

theorem laws_eqActS_ok : ∀ ds outs, F_eqActS ds = some outs → shL laws_eqActS_L (qRet outs) ds := F_eqActS_elim fun l m hp => by
  rw [laws_eqActS_L_sh]
  simp
  refine ⟨fun h => ?_, fun hl => ?_⟩
  · rintro rfl; omega
  refine loop_upto l.length (fun k => [vL I3 v3 l, vL I3 v3 m, .int .i64 k]) (by intro i j _ _ h; simp at h; omega) (fun k => l.take k = m.take k) (by simp) (by simp) ?_
  intro k hk hP
  rw [laws_eqActS_b0_sh]
  simp
  refine ⟨fun h => ?_, fun h => ?_⟩
  · have h2 : k < m.length := by omega
    simp (disch := omega) [h, h2, wrap_id]
    refine ⟨fun hne he => ?_, fun h3 => ?_⟩
    · subst he; exact hne rfl
    · rw [take_succ_get h, take_succ_get h2, hP, h3]
  · obtain rfl : k = l.length := by omega
    rw [List.take_length, List.take_of_length_le (by omega)] at hP
    simp [laws_eqActS_r1_sh, hP]

theorem laws_markActS_ok : ∀ ds outs, F_markActS ds = some outs → shL laws_markActS_L (qRet outs) ds := F_markActS_elim fun l k hp => by
  rw [laws_markActS_L_sh]
  refine loop_upto l.length (fun i => [.int .i64 (k + 3 * i), .int .i64 i, vL I3 v3 ((markL3 l.length k).take i ++ l.drop i)]) (by intro i j _ _ h; simp at h; omega) (fun _ => True) (by simp) trivial ?_
  intro i hi _
  have hml : (markL3 l.length k).length = l.length := markL3_len
  rw [laws_markActS_b0_sh]
  simp
  have e0 : ((min i l.length : Nat) : Int) + ((l.length - i : Nat) : Int) = l.length := by omega
  simp only [e0]
  refine ⟨fun h => ?_, fun h => ?_⟩
  · replace h : i < l.length := by omega
    rw [mark_get hml h]
    have hs := mark_set hml h
    have hg : (markL3 l.length k)[i]'(by omega) = ⟨k + 3 * (i : Int), k + 3 * (i : Int) + 1, k + 3 * (i : Int) + 2⟩ := by simp [markL3]
    rw [hg] at hs
    simp (disch := omega) [h, wrap_id, hs, fun x => mark_set_get (x := x) hml h]
    refine ⟨by omega, ?_⟩
    rw [show k + 3 * (i : Int) + 1 + 1 = k + 3 * (i : Int) + 2 by omega]
    exact hs
  · obtain rfl : i = l.length := by omega
    have e1 : List.take l.length (markL3 l.length k) = markL3 l.length k := List.take_of_length_le (by simp)
    simp [laws_markActS_r1_sh, e1]

end Go.Mw

/- Acts. -/
namespace Go.Mw
theorem cmRow_succ {c : Cyl} {i k : Nat} {b : Int} (hi : i < c.p.length) (hk : k < c.p.length) : cmRow c i (k + 1) b = if c.p[i].a = c.p[k].a then min (cmRow c i k b) (gap c.p[i].b c.p[k].b c.s) else cmRow c i k b := by
  simp [cmRow, List.getElem?_eq_getElem hi, List.getElem?_eq_getElem hk]
theorem spec_ClosestPins_ok : ∀ ds outs, F_ClosestPins ds = some outs → shL spec_ClosestPins_L (qRet outs) ds := F_ClosestPins_elim fun x hp => by
  rw [spec_ClosestPins_L_sh]
  simp only [p_CylinderOk (x_p := x.p) hp, Cyl.eta]
  cases h : cylOk x with
  | false => simp [h, closest]
  | true =>
    have hb := cylOk_bounds h
    simp
    refine loop_upto x.p.length (fun i => [.int .i64 (cmTo x i), .int .i64 i, .int .i64 x.s, .int .i64 x.t, vL I2 v2 x.p]) (by intro i j _ _ h; simp at h; omega) (fun _ => True) (by simp [cmTo]) trivial ?_
    intro i hi _
    rw [spec_ClosestPins_b0_sh]
    simp only [P1_len, P1_lss, ifB_bool, decide_eq_true_eq, decide_eq_false_iff_not]
    refine ⟨fun h1 => ?_, fun h1 => ?_⟩
    · have hi2 : i < x.p.length := by omega
      refine loop_upto i (fun k => [.int .i64 (cmRow x i k (cmTo x i)), .int .i64 i, .int .i64 k, .int .i64 x.s, .int .i64 x.t, vL I2 v2 x.p]) (by intro i j _ _ h; simp at h; omega) (fun _ => True) (by simp [cmRow]) trivial ?_
      intro k hk _
      rw [spec_ClosestPins_b1_sh]
      simp only [P1_lss, ifB_bool, decide_eq_true_eq, decide_eq_false_iff_not]
      refine ⟨fun h2 => ?_, fun h2 => ?_⟩
      · have hk2 : k < x.p.length := by omega
        have hk3 : k < i := by omega
        have w1 : IntKind.i64.wrap ((k : Int) + 1) = (k : Int) + 1 := wrap_id (by omega) (by omega)
        by_cases e : x.p[i].a = x.p[k].a <;> simp [hi2, hk2, hk3, e, w1, cmRow_succ]
      · obtain rfl : k = i := by omega
        have w1 : IntKind.i64.wrap ((k : Int) + 1) = (k : Int) + 1 := wrap_id (by omega) (by omega)
        simp [spec_ClosestPins_r2_sh, spec_ClosestPins_r3_sh, spec_ClosestPins_r4_sh, w1, hi2, cmTo]
    · obtain rfl : i = x.p.length := by omega
      simp [spec_ClosestPins_r5_sh, closest, h]
theorem impl_ClosestPins_ok : ∀ ds outs, F_ClosestPins ds = some outs → shL impl_ClosestPins_L (qRet outs) ds := F_ClosestPins_elim fun x hp => by
  rw [impl_ClosestPins_L_sh]
  simp only [p_CylinderOk (x_p := x.p) hp, Cyl.eta]
  cases h : cylOk x with
  | false => simp [h, closest]
  | true =>
    have hb := cylOk_bounds h
    simp
    refine loop_upto x.p.length (fun i => [.int .i64 (cmTo x i), vL I2 v2 x.p, .int .i64 x.p.length, .int .i64 i, .int .i64 x.s, .int .i64 x.t, vL I2 v2 x.p]) (by intro i j _ _ h; simp at h; omega) (fun _ => True) (by simp [cmTo]) trivial ?_
    intro i hi _
    rw [impl_ClosestPins_b0_sh]
    simp only [P1_lss, ifB_bool, decide_eq_true_eq, decide_eq_false_iff_not]
    refine ⟨fun h1 => ?_, fun h1 => ?_⟩
    · have hi2 : i < x.p.length := by omega
      have e2 : (i : Int).toNat = i := by omega
      have hlen : (x.p.take i).length = i := by rw [List.length_take]; omega
      simp only [P2_idxI, e2, List.getElem?_eq_getElem hi2, Option.some.injEq, exists_eq_left', P1_lsub2_2, Int.toNat_zero, List.drop_zero, P1_len, hlen]
      refine ⟨by omega, ⟨by omega, by omega, by omega⟩, ?_⟩
      refine loop_upto i (fun k => [.int .i64 (cmRow x i k (cmTo x i)), vL I2 v2 x.p, .int .i64 x.p.length, .int .i64 i, vL I2 v2 (x.p.take i), .int .i64 i, .int .i64 k, .int .i64 x.s, .int .i64 x.t, vL I2 v2 x.p, .int .i64 x.p[i].a, .int .i64 x.p[i].b]) (by intro i j _ _ h; simp at h; omega) (fun _ => True) (by simp [cmRow]) trivial ?_
      intro k hk _
      rw [impl_ClosestPins_b1_sh]
      simp only [P1_lss, ifB_bool, decide_eq_true_eq, decide_eq_false_iff_not]
      refine ⟨fun h2 => ?_, fun h2 => ?_⟩
      · have hk2 : k < x.p.length := by omega
        have hk3 : k < i := by omega
        have w1 : IntKind.i64.wrap ((k : Int) + 1) = (k : Int) + 1 := wrap_id (by omega) (by omega)
        by_cases e : x.p[i].a = x.p[k].a <;> simp [hi2, hk2, hk3, e, w1, cmRow_succ]
      · obtain rfl : k = i := by omega
        have w1 : IntKind.i64.wrap ((k : Int) + 1) = (k : Int) + 1 := wrap_id (by omega) (by omega)
        simp [impl_ClosestPins_r2_sh, impl_ClosestPins_r3_sh, impl_ClosestPins_r4_sh, w1, hi2, cmTo]
    · obtain rfl : i = x.p.length := by omega
      simp [impl_ClosestPins_r5_sh, closest, h]
theorem impl_numberOf_ok : ∀ ds outs, F_numberOf ds = some outs → shL impl_numberOf_L (qRet outs) ds := F_numberOf_elim fun n => by
  rw [impl_numberOf_L_sh]; cases n <;> simp [num]
theorem spec_l39Bool_ok : ∀ ds outs, F_l39Bool ds = some outs → shL spec_l39Bool_L (qRet outs) ds := F_numberOf_elim fun n => by
  rw [spec_l39Bool_L_sh]; cases n <;> simp [num]
theorem back_ok {x : Shop} (h : shopOk x = true) (ht : takeOk x.bench = true) : shopOk (withB x (takeBack x.bench) 0) = true := by
  have hs := (shopOk_iff x).1 h
  have hb := (benchOk_iff _).1 hs.1
  have ho : x.o ≠ [] := by simp [takeOk] at ht; exact ht.2
  have hl : 0 < x.o.length := List.length_pos_iff.2 ho
  have hlast : x.o.length - 1 < x.o.length := by omega
  have e : takeBack x.bench = ⟨x.s, x.t, x.o[x.o.length - 1], x.o.take (x.o.length - 1)⟩ := by
    simp only [takeBack, ht, if_true]
    simp [Shop.bench, List.getElem?_eq_getElem hlast]
  have e2 : withB x (takeBack x.bench) 0 = ⟨x.s, x.t, x.o[x.o.length - 1], x.o.take (x.o.length - 1), x.c, x.u, x.m, x.f, x.y - 0, x.d⟩ := by unfold withB; rw [e]
  rw [e2, shopOk_iff]
  refine ⟨?_, hs.2.1, hs.2.2.1, hs.2.2.2.1, by simpa using hs.2.2.2.2.1, hs.2.2.2.2.2⟩
  rw [benchOk_iff]
  have h30 := hb.2.1
  simp only [Shop.bench] at h30 ⊢
  exact ⟨hb.2.2 _ (List.getElem_mem hlast), by rw [List.length_take]; omega, fun p hp => hb.2.2 p (List.mem_of_mem_take hp)⟩
theorem backOk_eq {x : Shop} (h : shopOk x = true) : backOk x = takeOk x.bench := by
  unfold backOk benchFits
  cases ht : takeOk x.bench with
  | false => simp
  | true => simp [h, back_ok h ht]
theorem backW_eq {x : Shop} (h : shopOk x = true) : backW x = withB x (takeBack x.bench) 0 := by
  unfold backW withBench benchFits
  cases ht : takeOk x.bench with
  | false =>
    have e : takeBack x.bench = x.bench := by simp [takeBack, ht]
    simp only [Bool.false_and, Bool.false_eq_true, if_false]
    unfold withB
    rw [e]
    simp [Shop.bench]
  | true => simp [h, back_ok h ht]
theorem act_kinds {y : T3} (h : actOk y = true) : y.a = 1 ∨ y.a = 2 ∨ y.a = 3 ∨ y.a = 4 ∨ y.a = 5 ∨ y.a = 6 := by
  unfold actOk at h
  by_cases h1 : y.a = 1 <;> by_cases h2 : y.a = 2 <;> by_cases h3 : y.a = 3 <;> by_cases h4 : y.a = 4 <;> by_cases h5 : y.a = 5 <;> by_cases h6 : y.a = 6 <;> simp_all
theorem spec_DoAct_ok : ∀ ds outs, F_DoAct ds = some outs → shL spec_DoAct_L (qRet outs) ds := F_DoAct_elim fun x y hp => by
  have hb : x.p.length ≤ 1048576 ∧ fitLL x.o := ⟨hp.1, hp.2.1⟩
  have e0 : (⟨x.s, x.t, x.p, x.o⟩ : Bench) = x.bench := rfl
  have e1 : (⟨x.s, x.t, x.p⟩ : Cyl) = x.bench.cyl := rfl
  have e2 : (⟨y.a, y.b, y.c⟩ : T3) = y := rfl
  rw [spec_DoAct_L_sh, p_l38Copy (x_p := x.p) (x_o := x.o) (x_c := x.c) hp]
  simp only [p_WorkshopOk (x_p := x.p) (x_o := x.o) (x_c := x.c) hp]
  cases h : shopOk x with
  | false => simp [h, actW, actN, canAct]
  | true =>
    cases h2 : actOk y with
    | false => simp [h, h2, actW, actN, canAct]
    | true =>
      have hk := act_kinds h2
      have hc : canAct x y = true := by simp [canAct, h, h2]
      have hbo := backOk_eq h
      have hbw := backW_eq h
      simp only [h, P1_not, ifB_bool, p_ActOk, e2, h2, spec_DoAct_r0_sh]
      simp only [p_PutPin (x_p := x.p) (x_o := x.o) (x_c := x.c) hp, p_RemovePin (x_p := x.p) (x_o := x.o) (x_c := x.c) hp, p_PlayOnce (x_p := x.p) (x_o := x.o) (x_c := x.c) hp, p_TakeBack (x_p := x.p) (x_o := x.o) hb, p_Crank (x_p := x.p) (x_o := x.o) (x_c := x.c) hp, p_ClosestPins (x_p := x.p) hp.1, e0, e1]
      rcases hk with e | e | e | e | e | e
      · simp [e, actW, actN, hc, putW, putOk]
      · simp [e, actW, actN, hc, removeW, removeOk]
      · simp [e, actW, actN, hc, hbo, hbw, withB]
      · simp [e, actW, actN, hc, h]
      · simp [e, actW, actN, hc]
      · simp [e, actW, actN, hc]
theorem impl_DoAct_ok : ∀ ds outs, F_DoAct ds = some outs → shL impl_DoAct_L (qRet outs) ds := F_DoAct_elim fun x y hp => by
  have hb : x.p.length ≤ 1048576 ∧ fitLL x.o := ⟨hp.1, hp.2.1⟩
  have e0 : (⟨x.s, x.t, x.p, x.o⟩ : Bench) = x.bench := rfl
  have e1 : (⟨x.s, x.t, x.p⟩ : Cyl) = x.bench.cyl := rfl
  have e2 : (⟨y.a, y.b, y.c⟩ : T3) = y := rfl
  rw [impl_DoAct_L_sh]
  simp only [p_WorkshopOk (x_p := x.p) (x_o := x.o) (x_c := x.c) hp, p_copyWorkshop (x_p := x.p) (x_o := x.o) (x_c := x.c) hp]
  cases h : shopOk x with
  | false => simp [h, actW, actN, canAct]
  | true =>
    cases h2 : actOk y with
    | false => simp [h, h2, actW, actN, canAct]
    | true =>
      have hk := act_kinds h2
      have hc : canAct x y = true := by simp [canAct, h, h2]
      have hs : bSmall (takeBack x.bench) := by
        cases ht : takeOk x.bench with
        | false => have e : takeBack x.bench = x.bench := by simp [takeBack, ht]
                   rw [e]; exact bSmall_of_ok ((shopOk_iff x).1 h).1
        | true =>
          have := sSmall_of_ok (back_ok h ht)
          exact ⟨this.1.1, this.1.2.1, this.2⟩
      simp only [h, P1_not, ifB_bool, p_ActOk, e2, h2, impl_DoAct_r0_sh]
      simp only [p_PutPin (x_p := x.p) (x_o := x.o) (x_c := x.c) hp, p_RemovePin (x_p := x.p) (x_o := x.o) (x_c := x.c) hp, p_PlayOnce (x_p := x.p) (x_o := x.o) (x_c := x.c) hp, p_TakeBack (x_p := x.p) (x_o := x.o) hb, p_Crank (x_p := x.p) (x_o := x.o) (x_c := x.c) hp, p_ClosestPins (x_p := x.p) hp.1, p_copyWorkshop (x_p := x.p) (x_o := x.o) (x_c := x.c) hp, e0, e1]
      rcases hk with e | e | e | e | e | e
      · simp [e, actW, actN, hc, putW, putOk]
      · simp [e, actW, actN, hc, removeW, removeOk]
      · have eW : backW x = withBench x (takeBack x.bench) 0 (takeOk x.bench) := rfl
        have eO : backOk x = benchFits x (takeBack x.bench) 0 (takeOk x.bench) := rfl
        simp only [actW, actN, hc, e, eW, eO]
        generalize takeBack x.bench = B at *
        have hq := fun (nr_ : Nat) (n : Bool) kk_ => p_withBench (x_s := x.s) (x_t := x.t) (x_p := x.p) (x_o := x.o) (x_c := x.c) (x_u := x.u) (x_m := x.m) (x_f := x.f) (x_y := x.y) (x_d := x.d) (y_s := B.s) (y_t := B.t) (y_p := B.p) (y_o := B.o) (k := 0) (n := n) (nr_ := nr_) (kk_ := kk_) ⟨hp.1, hp.2.1, hp.2.2, hs.1, hs.2.1, by omega, by omega⟩
        simp [hq]
      · simp [e, actW, actN, hc, h]
      · simp [e, actW, actN, hc]
      · simp [e, actW, actN, hc]
end Go.Mw

/- Runs of acts; the laws. -/
namespace Go.Mw
theorem actW_small {x : Shop} {y : T3} (h : sSmall x) : sSmall (actW x y) := by
  unfold actW
  split
  · split
    · exact withBench_small h
    · split
      · exact withBench_small h
      · split
        · exact withBench_small h
        · split
          · exact crank_small h
          · split
            · exact playOnce_small h
            · exact h
  · exact h
theorem run_small {x : Shop} {l : List T3} (h : sSmall x) : ∀ k, sSmall (runTo x l k).1
  | 0 => h
  | k + 1 => by
    have ih := run_small (l := l) h k
    unfold runTo
    split
    · exact actW_small ih
    · exact ih
theorem run_len {x : Shop} {l : List T3} : ∀ k, (runTo x l k).2.length ≤ k
  | 0 => by simp [runTo]
  | k + 1 => by
    have ih := run_len (x := x) (l := l) k
    unfold runTo
    split
    · simp; omega
    · omega
theorem run_succ {x : Shop} {l : List T3} {k : Nat} (h : k < l.length) : runTo x l (k + 1) = (actW (runTo x l k).1 l[k], (runTo x l k).2 ++ [actN (runTo x l k).1 l[k]]) := by
  simp [runTo, List.getElem?_eq_getElem h]
theorem spec_RunActs_ok : ∀ ds outs, F_RunActs ds = some outs → shL spec_RunActs_L (qRet outs) ds := F_RunActs_elim fun x l hp => by
  have hf : x.p.length ≤ 1048576 ∧ fitLL x.o ∧ x.c.length ≤ 1048576 := ⟨hp.1, hp.2.1, hp.2.2.1⟩
  rw [spec_RunActs_L_sh, p_l38Copy (x_p := x.p) (x_o := x.o) (x_c := x.c) hf]
  simp only [p_WorkshopOk (x_p := x.p) (x_o := x.o) (x_c := x.c) hf]
  cases h : shopOk x with
  | false => simp [h, runW, runN', actsOk]
  | true =>
    by_cases hl : l.length ≤ 40
    · have hc : actsOk x l = true := by simp [actsOk, h, hl]
      have hl2 : ¬ 40 < (l.length : Int) := by omega
      simp only [h, P1_lst0, P1_not, P1_len, P1_gtr, ifB_bool, decide_eq_true_eq, decide_eq_false_iff_not]
      refine ⟨fun h => absurd h (by simp), fun _ => ⟨fun h => absurd h hl2, fun _ => ?_⟩⟩
      refine loop_upto l.length (fun k => [vL I3 v3 l, .int .i64 k, vL I1 v1 (runTo x l k).2, vL I2 v2 (runTo x l k).1.p, vL IL2 vLL2 (runTo x l k).1.o, vL I1 v1 (runTo x l k).1.c, .int .i64 0, .int .i64 0, .int .i64 0, .int .i64 0, .int .i64 0, .int .i64 0, .int .i64 0, .int .i64 (runTo x l k).1.s, .int .i64 (runTo x l k).1.t, .int .i64 (runTo x l k).1.u, .int .i64 (runTo x l k).1.m, .int .i64 (runTo x l k).1.f, .int .i64 (runTo x l k).1.y, .int .i64 (runTo x l k).1.d]) (by intro i j _ _ h; simp at h; omega) (fun _ => True) (by simp [runTo]) trivial ?_
      intro k hk _
      have hs := (run_small (l := l) (sSmall_of_ok h) k).1
      have hn := run_len (x := x) (l := l) k
      have hsucc := fun hk2 : k < l.length => run_succ (x := x) hk2
      generalize hW : runTo x l k = W at *
      rw [spec_RunActs_b0_sh]
      simp only [P1_len, P1_lss, ifB_bool, decide_eq_true_eq, decide_eq_false_iff_not]
      refine ⟨fun h1 => ?_, fun h1 => ?_⟩
      · have hk2 : k < l.length := by omega
        have e2 : (k : Int).toNat = k := by omega
        have w1 : IntKind.i64.wrap ((k : Int) + 1) = (k : Int) + 1 := wrap_id (by omega) (by omega)
        have e3 : (⟨l[k].a, l[k].b, l[k].c⟩ : T3) = l[k] := rfl
        simp only [P3_idxI, e2, List.getElem?_eq_getElem hk2, Option.some.injEq, exists_eq_left', p_DoAct (x_p := W.1.p) (x_o := W.1.o) (x_c := W.1.c) hs, e3]
        simp [hk2, w1, hsucc hk2]
        omega
      · obtain rfl : k = l.length := by omega
        subst hW
        simp [spec_RunActs_r1_sh, runW, runN', hc]
    · have hc : actsOk x l = false := by simp [actsOk, h]; omega
      have hl2 : 40 < (l.length : Int) := by omega
      simp [h, hl2, runW, runN', hc]
theorem impl_RunActs_ok : ∀ ds outs, F_RunActs ds = some outs → shL impl_RunActs_L (qRet outs) ds := F_RunActs_elim fun x l hp => by
  have hf : x.p.length ≤ 1048576 ∧ fitLL x.o ∧ x.c.length ≤ 1048576 := ⟨hp.1, hp.2.1, hp.2.2.1⟩
  rw [impl_RunActs_L_sh, p_copyWorkshop (x_p := x.p) (x_o := x.o) (x_c := x.c) hf]
  simp only [p_WorkshopOk (x_p := x.p) (x_o := x.o) (x_c := x.c) hf]
  cases h : shopOk x with
  | false => simp [h, runW, runN', actsOk]
  | true =>
    by_cases hl : l.length ≤ 40
    · have hc : actsOk x l = true := by simp [actsOk, h, hl]
      have hl2 : ¬ 40 < (l.length : Int) := by omega
      simp only [h, P1_lst0, P1_not, P1_len, P1_gtr, ifB_bool, decide_eq_true_eq, decide_eq_false_iff_not]
      refine ⟨fun h => absurd h (by simp), fun _ => ⟨fun h => absurd h hl2, fun _ => ?_⟩⟩
      refine loop_upto l.length (fun k => [vL I3 v3 l, .int .i64 l.length, .int .i64 k, vL I1 v1 (runTo x l k).2, vL I2 v2 (runTo x l k).1.p, vL IL2 vLL2 (runTo x l k).1.o, vL I1 v1 (runTo x l k).1.c, .int .i64 0, .int .i64 0, .int .i64 0, .int .i64 0, .int .i64 0, .int .i64 0, .int .i64 0, .int .i64 (runTo x l k).1.s, .int .i64 (runTo x l k).1.t, .int .i64 (runTo x l k).1.u, .int .i64 (runTo x l k).1.m, .int .i64 (runTo x l k).1.f, .int .i64 (runTo x l k).1.y, .int .i64 (runTo x l k).1.d]) (by intro i j _ _ h; simp at h; omega) (fun _ => True) (by simp [runTo]) trivial ?_
      intro k hk _
      have hs := (run_small (l := l) (sSmall_of_ok h) k).1
      have hn := run_len (x := x) (l := l) k
      have hsucc := fun hk2 : k < l.length => run_succ (x := x) hk2
      generalize hW : runTo x l k = W at *
      rw [impl_RunActs_b0_sh]
      simp only [P1_lss, ifB_bool, decide_eq_true_eq, decide_eq_false_iff_not]
      refine ⟨fun h1 => ?_, fun h1 => ?_⟩
      · have hk2 : k < l.length := by omega
        have e2 : (k : Int).toNat = k := by omega
        have w1 : IntKind.i64.wrap ((k : Int) + 1) = (k : Int) + 1 := wrap_id (by omega) (by omega)
        have e3 : (⟨l[k].a, l[k].b, l[k].c⟩ : T3) = l[k] := rfl
        simp only [P3_idxI, e2, List.getElem?_eq_getElem hk2, Option.some.injEq, exists_eq_left', p_DoAct (x_p := W.1.p) (x_o := W.1.o) (x_c := W.1.c) hs, e3]
        simp [hk2, w1, hsucc hk2]
        omega
      · obtain rfl : k = l.length := by omega
        subst hW
        simp [impl_RunActs_r1_sh, runW, runN', hc]
    · have hc : actsOk x l = false := by simp [actsOk, h]; omega
      have hl2 : 40 < (l.length : Int) := by omega
      simp [h, hl2, runW, runN', hc]
theorem laws_FnExactDoAct_ok : ∀ ds outs, F_FnExactDoAct ds = some outs → shL laws_FnExactDoAct_L (qRet outs) ds := F_FnExactDoAct_elim fun x y hp => by
  rw [laws_FnExactDoAct_L_sh]
  have hw : x.o.length ≤ 9223372036854775807 ∧ ∀ y ∈ x.o, y.length ≤ 9223372036854775807 := ⟨hp.2.2.2.1.1, fun y hy => (hp.2.2.2.1.2 y hy).1⟩
  rw [p_szWorkshop (x_p := x.p) (x_o := x.o) (x_c := x.c) ⟨hp.2.2.1.1, hw.1, hw.2, hp.2.2.2.2.1.1, by omega, by omega⟩]
  by_cases h : (x.p.length : Int) + tot2 x.o + x.c.length ≤ 1048576
  · have hx := sSmall_of_tot h
    have hs : sSmall (actW x y) := actW_small hx
    have h3 : ¬ (1048576 - (x.p.length : Int) - tot2 x.o - x.c.length < 0) := by omega
    have hf : x.p.length ≤ 1048576 ∧ fitLL x.o ∧ x.c.length ≤ 1048576 := hx.1
    have e2 : (⟨y.a, y.b, y.c⟩ : T3) = y := rfl
    rw [if_pos h]
    simp only [P1_lss, ifB_bool, decide_eq_true_eq, decide_eq_false_iff_not, laws_FnExactDoAct_r0_sh, laws_FnExactDoAct_r1_sh, p_toWorkshop (x_p := x.p) (x_o := x.o) (x_c := x.c) hf, p_DoAct (x_p := x.p) (x_o := x.o) (x_c := x.c) hf, p_toAct, e2]
    refine ⟨fun h4 => absurd h4 h3, fun _ => ?_⟩
    obtain ⟨⟨x1, x2, x3⟩, x4⟩ := hx
    clear h3 h hw hp
    generalize actW x y = B at *
    obtain ⟨⟨b1, b2, b3⟩, b4⟩ := hs
    have b5 := fit_mark (1 + 2 * (B.p.length : Int)) b2
    have b6 : (0 : Int) ≤ 1 + 2 * (B.p.length : Int) + 2 * sum2 B.o + B.c.length := by omega
    have x6 : (0 : Int) ≤ 1 + 2 * (x.p.length : Int) + 2 * sum2 x.o + x.c.length := by omega
    simp [p_eqWorkshop, b1, b2, b3, x1, x2, x3, p_markWorkshop, p_heldWorkshop, b4, b5, b6, x4, x6, sum2_mark, markLL2_idem]
  · rw [if_neg h]; simp
end Go.Mw

/- Replays; the laws on runs. -/
namespace Go.Mw
theorem impl_sameInts_ok : ∀ ds outs, F_sameInts ds = some outs → shL impl_sameInts_L (qRet outs) ds := F_sameInts_elim fun l m hp => by
  rw [impl_sameInts_L_sh]
  simp
  refine ⟨fun h => ?_, fun hl => ?_⟩
  · rintro rfl; omega
  refine loop_upto l.length (fun k => [vL I1 v1 m, vL I1 v1 l, .int .i64 l.length, .int .i64 k]) (by intro i j _ _ h; simp at h; omega) (fun k => l.take k = m.take k) (by simp) (by simp) ?_
  intro k hk hP
  rw [impl_sameInts_b0_sh]
  simp
  refine ⟨fun h => ?_, fun h => ?_⟩
  · have h2 : k < m.length := by omega
    simp (disch := omega) [h, h2, wrap_id]
    refine ⟨fun hne he => ?_, fun h3 => ?_⟩
    · subst he; exact hne rfl
    · rw [take_succ_get h, take_succ_get h2, hP, h3]
  · obtain rfl : k = l.length := by omega
    rw [List.take_length, List.take_of_length_le (by omega)] at hP
    simp [impl_sameInts_r1_sh, hP]
theorem spec_l39Ints_ok : ∀ ds outs, F_l39Ints ds = some outs → shL spec_l39Ints_L (qRet outs) ds := F_sameInts_elim fun l m hp => by
  rw [spec_l39Ints_L_sh]
  simp
  refine ⟨fun h => ?_, fun hl => ?_⟩
  · rintro rfl; omega
  refine loop_upto l.length (fun k => [vL I1 v1 l, vL I1 v1 m, .int .i64 k]) (by intro i j _ _ h; simp at h; omega) (fun k => l.take k = m.take k) (by simp) (by simp) ?_
  intro k hk hP
  rw [spec_l39Ints_b0_sh]
  simp
  refine ⟨fun h => ?_, fun h => ?_⟩
  · have h2 : k < m.length := by omega
    simp (disch := omega) [h, h2, wrap_id]
    refine ⟨fun hne he => ?_, fun h3 => ?_⟩
    · subst he; exact hne rfl
    · rw [take_succ_get h, take_succ_get h2, hP, h3]
  · obtain rfl : k = l.length := by omega
    rw [List.take_length, List.take_of_length_le (by omega)] at hP
    simp [spec_l39Ints_r1_sh, hP]
theorem runN_len {x : Shop} {l : List T3} : (runN' x l).length ≤ 40 := by
  unfold runN'
  split
  · rename_i h
    simp only [actsOk, Bool.and_eq_true, decide_eq_true_eq] at h
    have := run_len (x := x) (l := l) l.length
    omega
  · simp
theorem runW_small {x : Shop} {l : List T3} (h : sSmall x) : sSmall (runW x l) := by
  unfold runW
  split
  · exact run_small h _
  · exact h
theorem spec_IsReplay_ok : ∀ ds outs, F_IsReplay ds = some outs → shL spec_IsReplay_L (qRet outs) ds := F_IsReplay_elim fun x l m hp => by
  have hf : x.p.length ≤ 1048576 ∧ fitLL x.o ∧ x.c.length ≤ 1048576 := ⟨hp.1, hp.2.1, hp.2.2.1⟩
  have hr : x.p.length ≤ 1048576 ∧ fitLL x.o ∧ x.c.length ≤ 1048576 ∧ l.length ≤ 1048576 := ⟨hp.1, hp.2.1, hp.2.2.1, hp.2.2.2.1⟩
  have hn : (runN' x l).length ≤ 1048576 ∧ m.length ≤ 1048576 := ⟨by have := runN_len (x := x) (l := l); omega, hp.2.2.2.2⟩
  rw [spec_IsReplay_L_sh]
  simp only [p_WorkshopOk (x_p := x.p) (x_o := x.o) (x_c := x.c) hf, p_RunActs (x_p := x.p) (x_o := x.o) (x_c := x.c) hr]
  have hq := fun (nr_ : Nat) kk_ => p_sameInts (l := runN' x l) (m := m) (nr_ := nr_) (kk_ := kk_) hn
  cases h : shopOk x with
  | false => simp [h, actsOk]
  | true =>
    by_cases hl : l.length ≤ 40
    · have hl2 : ¬ 40 < (l.length : Int) := by omega
      have hl3 : ¬ 40 < l.length := by omega
      simp [h, hl, hl2, hl3, actsOk, hq]
    · have hl2 : 40 < (l.length : Int) := by omega
      have hl3 : 40 < l.length := by omega
      simp [h, hl, hl2, hl3, actsOk]
theorem impl_IsReplay_ok : ∀ ds outs, F_IsReplay ds = some outs → shL impl_IsReplay_L (qRet outs) ds := F_IsReplay_elim fun x l m hp => by
  have hf : x.p.length ≤ 1048576 ∧ fitLL x.o ∧ x.c.length ≤ 1048576 := ⟨hp.1, hp.2.1, hp.2.2.1⟩
  have hr : x.p.length ≤ 1048576 ∧ fitLL x.o ∧ x.c.length ≤ 1048576 ∧ l.length ≤ 1048576 := ⟨hp.1, hp.2.1, hp.2.2.1, hp.2.2.2.1⟩
  have hn : (runN' x l).length ≤ 1048576 ∧ m.length ≤ 1048576 := ⟨by have := runN_len (x := x) (l := l); omega, hp.2.2.2.2⟩
  rw [impl_IsReplay_L_sh]
  simp only [p_WorkshopOk (x_p := x.p) (x_o := x.o) (x_c := x.c) hf, p_RunActs (x_p := x.p) (x_o := x.o) (x_c := x.c) hr]
  have hq := fun (nr_ : Nat) kk_ => p_sameInts (l := runN' x l) (m := m) (nr_ := nr_) (kk_ := kk_) hn
  cases h : shopOk x with
  | false => simp [h, actsOk]
  | true =>
    by_cases hl : l.length ≤ 40
    · have hl2 : ¬ 40 < (l.length : Int) := by omega
      have hl3 : ¬ 40 < l.length := by omega
      simp [h, hl, hl2, hl3, actsOk, hq]
    · have hl2 : 40 < (l.length : Int) := by omega
      have hl3 : 40 < l.length := by omega
      simp [h, hl, hl2, hl3, actsOk]
theorem laws_FnExactIsReplay_ok : ∀ ds outs, F_FnExactIsReplay ds = some outs → shL laws_FnExactIsReplay_L (qRet outs) ds := F_FnExactIsReplay_elim fun x l m hp => by
  rw [laws_FnExactIsReplay_L_sh]
  have hw : x.o.length ≤ 9223372036854775807 ∧ ∀ y ∈ x.o, y.length ≤ 9223372036854775807 := ⟨hp.2.2.2.1.1, fun y hy => (hp.2.2.2.1.2 y hy).1⟩
  have hl0 : l.length ≤ 9223372036854775807 := hp.2.2.2.2.2.2.2.2.2.2.1.1
  simp only [p_szWorkshop (x_p := x.p) (x_o := x.o) (x_c := x.c) (n := 1048576) ⟨hp.2.2.1.1, hw.1, hw.2, hp.2.2.2.2.1.1, by omega, by omega⟩]
  by_cases hm : m.length ≤ 1048576
  · have hm2 : ¬ 1048576 < (m.length : Int) := by omega
    by_cases h : (x.p.length : Int) + tot2 x.o + x.c.length ≤ 1048576
    · have hx := sSmall_of_tot h
      have h3 : ¬ (1048576 - (x.p.length : Int) - tot2 x.o - x.c.length < 0) := by omega
      have hf : x.p.length ≤ 1048576 ∧ fitLL x.o ∧ x.c.length ≤ 1048576 := hx.1
      have h0 : 0 ≤ tot2 x.o := by rw [tot2_eq]; omega
      rw [if_pos h]
      generalize hN : 1048576 - (x.p.length : Int) - tot2 x.o - x.c.length = N at *
      have hsz := fun (nr_ : Nat) kk_ => p_szActS (l := l) (n := N) (nr_ := nr_) (kk_ := kk_) ⟨hl0, by omega, by omega⟩
      by_cases h5 : (l.length : Int) ≤ N
      · have hl : l.length ≤ 1048576 := by omega
        have h6 : ¬ (N - (l.length : Int) < 0) := by omega
        have hr : x.p.length ≤ 1048576 ∧ fitLL x.o ∧ x.c.length ≤ 1048576 ∧ l.length ≤ 1048576 ∧ m.length ≤ 1048576 := ⟨hf.1, hf.2.1, hf.2.2, hl, hm⟩
        simp only [P1_len, P1_gtr, P1_lss, ifB_bool, decide_eq_true_eq, decide_eq_false_iff_not, hsz, if_pos h5, p_toWorkshop (x_p := x.p) (x_o := x.o) (x_c := x.c) hf, p_toActS hl, p_toIntS hm, p_IsReplay (x_p := x.p) (x_o := x.o) (x_c := x.c) hr]
        refine ⟨fun h9 => absurd h9 hm2, fun _ => ⟨fun h9 => absurd h9 h3, fun _ => ⟨fun h9 => absurd h9 h6, fun _ => ?_⟩⟩⟩
        obtain ⟨x1, x2, x3⟩ := hf
        simp [p_eqWorkshop, x1, x2, x3, p_eqActS, hl, p_eqIntS, hm]
      · simp only [P1_len, P1_gtr, P1_lss, ifB_bool, decide_eq_true_eq, decide_eq_false_iff_not, hsz, if_neg h5]
        refine ⟨fun h9 => absurd h9 hm2, fun _ => ⟨fun h9 => absurd h9 h3, fun _ => ?_⟩⟩
        simp
    · rw [if_neg h]
      simp [hm2]
  · have hm2 : 1048576 < (m.length : Int) := by omega
    simp [hm2]
end Go.Mw

/- The law on runs of acts. -/
namespace Go.Mw
theorem laws_eqAct_ok : ∀ ds outs, F_eqAct ds = some outs → shL laws_eqAct_L (qRet outs) ds := F_eqAct_elim fun x y => by
  rw [laws_eqAct_L_sh]
  cases x; cases y
  simp
  grind
def sTiny (w : Shop) : Prop := 1 + 2 * (w.p.length : Int) + 2 * sum2 w.o + w.c.length ≤ 1099511627776
theorem tiny_of_ok {w : Shop} (h : shopOk w = true) : sTiny w := by
  have h := (shopOk_iff w).1 h
  have h1 := benchOk_len h.1
  have h2 := combOk_len h.2.1
  have h3 := ((benchOk_iff _).1 h.1).2.1
  have h4 := sum2_le h3 h1.2
  simp only [Shop.bench] at h1 h4
  unfold sTiny; omega
theorem withBench_tiny {x : Shop} {b : Bench} {k : Int} {ok : Bool} (h : sTiny x) : sTiny (withBench x b k ok) := by
  unfold withBench
  cases h2 : benchFits x b k ok with
  | false => simpa using h
  | true => simp [benchFits] at h2; simpa using tiny_of_ok h2.2.2
theorem actW_tiny {x : Shop} {y : T3} (h : sTiny x) : sTiny (actW x y) := by
  unfold actW
  split
  · split
    · exact withBench_tiny h
    · split
      · exact withBench_tiny h
      · split
        · exact withBench_tiny h
        · split
          · unfold crank; split
            · exact h
            · exact h
          · split
            · unfold playOnce; split
              · exact h
              · exact h
            · exact h
  · exact h
theorem run_tiny {x : Shop} {l : List T3} (h : sTiny x) : ∀ k, sTiny (runTo x l k).1
  | 0 => h
  | k + 1 => by
    have ih := run_tiny (l := l) h k
    unfold runTo
    split
    · exact actW_tiny ih
    · exact ih
theorem runW_tiny {x : Shop} {l : List T3} (h : sTiny x) : sTiny (runW x l) := by
  unfold runW
  split
  · exact run_tiny h _
  · exact h
theorem laws_FnExactRunActs_ok : ∀ ds outs, F_FnExactRunActs ds = some outs → shL laws_FnExactRunActs_L (qRet outs) ds := F_FnExactRunActs_elim fun x l hp => by
  rw [laws_FnExactRunActs_L_sh]
  have hw : x.o.length ≤ 9223372036854775807 ∧ ∀ y ∈ x.o, y.length ≤ 9223372036854775807 := ⟨hp.2.2.2.1.1, fun y hy => (hp.2.2.2.1.2 y hy).1⟩
  have hl0 : l.length ≤ 9223372036854775807 := hp.2.2.2.2.2.2.2.2.2.2.1
  rw [p_szWorkshop (x_p := x.p) (x_o := x.o) (x_c := x.c) (n := 1048576) ⟨hp.2.2.1.1, hw.1, hw.2, hp.2.2.2.2.1.1, by omega, by omega⟩]
  by_cases h : (x.p.length : Int) + tot2 x.o + x.c.length ≤ 1048576
  · have hx := sSmall_of_tot h
    have h3 : ¬ (1048576 - (x.p.length : Int) - tot2 x.o - x.c.length < 0) := by omega
    have hf : x.p.length ≤ 1048576 ∧ fitLL x.o ∧ x.c.length ≤ 1048576 := hx.1
    have h0 : 0 ≤ tot2 x.o := by rw [tot2_eq]; omega
    have hs2 : 2 * (x.p.length : Int) + 2 * sum2 x.o + x.c.length ≤ 2 * 1048576 := by have := tot2_eq x.o; omega
    rw [if_pos h]
    generalize hN : 1048576 - (x.p.length : Int) - tot2 x.o - x.c.length = N at *
    have hsz := fun (nr_ : Nat) kk_ => p_szActS (l := l) (n := N) (nr_ := nr_) (kk_ := kk_) ⟨hl0, by omega, by omega⟩
    by_cases h5 : (l.length : Int) ≤ N
    · have hl : l.length ≤ 1048576 := by omega
      have h6 : ¬ (N - (l.length : Int) < 0) := by omega
      have hr : x.p.length ≤ 1048576 ∧ fitLL x.o ∧ x.c.length ≤ 1048576 ∧ l.length ≤ 1048576 := ⟨hf.1, hf.2.1, hf.2.2, hl⟩
      have hs : sSmall (runW x l) := runW_small hx
      have hn := runN_len (x := x) (l := l)
      have ht : sTiny (runW x l) := runW_tiny (by unfold sTiny; omega)
      simp only [P1_lss, ifB_bool, decide_eq_true_eq, decide_eq_false_iff_not, hsz, if_pos h5, laws_FnExactRunActs_r0_sh, laws_FnExactRunActs_r1_sh, p_toWorkshop (x_p := x.p) (x_o := x.o) (x_c := x.c) hf, p_toActS hl, p_RunActs (x_p := x.p) (x_o := x.o) (x_c := x.c) hr]
      refine ⟨fun h9 => absurd h9 h3, fun _ => ⟨fun h9 => absurd h9 h6, fun _ => ?_⟩⟩
      obtain ⟨⟨x1, x2, x3⟩, x4⟩ := hx
      clear h3 h hw hp hN h6 hsz
      generalize runW x l = B at *
      generalize runN' x l = R at *
      obtain ⟨⟨b1, b2, b3⟩, b4⟩ := hs
      have b5 := fit_mark (1 + 2 * (B.p.length : Int)) b2
      have b6 : (0 : Int) ≤ 1 + 2 * (B.p.length : Int) + 2 * sum2 B.o + B.c.length := by omega
      have x6 : (0 : Int) ≤ 1 + 2 * (x.p.length : Int) + 2 * sum2 x.o + x.c.length := by omega
      have x7 : 1 + 2 * (x.p.length : Int) + 2 * sum2 x.o + x.c.length ≤ 1099511627776 := by omega
      have b7 : 1 + 2 * (B.p.length : Int) + 2 * sum2 B.o + B.c.length ≤ 1099511627776 := ht
      have l4 : l.length ≤ 4194304 := by omega
      have r1 : R.length ≤ 1048576 := by omega
      have r4 : R.length ≤ 4194304 := by omega
      have l7 : (0 : Int) ≤ 1 + 2 * (x.p.length : Int) + 2 * sum2 x.o + x.c.length + 3 * l.length := by omega
      have r7 : (0 : Int) ≤ 1 + 2 * (B.p.length : Int) + 2 * sum2 B.o + B.c.length + R.length := by omega
      simp [p_eqWorkshop, b1, b2, b3, x1, x2, x3, p_markWorkshop, p_heldWorkshop, b4, b5, b6, x4, x6, sum2_mark, markLL2_idem, p_eqActS, hl, p_eqIntS, r1, p_markActS, l4, x7, p_markIntS, r4, b7, p_heldIntS, l7, r7]
    · simp only [P1_lss, ifB_bool, decide_eq_true_eq, decide_eq_false_iff_not, hsz, if_neg h5]
      refine ⟨fun h9 => absurd h9 h3, fun _ => ?_⟩
      simp
  · rw [if_neg h]
    simp
end Go.Mw

