/- What functions of the program compute, as small pure programs, shown against plain Lean functions: no condition. -/
import Derived.KernelRfl
import Derived.Test.YtafmiopgajbneaaPl1
/- Functions of the program, as small pure programs (printed by a program of ours). -/
namespace Go.Mw
noncomputable section
def spec_l38Copy_L : L := .seq (.rg []) (.seq (.rg [⟨[], .call F_l37Copy 0 4, [.v 0, .v 1, .v 2, .v 3], 4⟩, ⟨[], .lst [.sc] false 0, [], 1⟩, ⟨[], .app [.sc] 8, [.v 14, .v 4], 1⟩]) (.ret [.v 10, .v 11, .v 12, .v 13, .v 15, .v 5, .v 6, .v 7, .v 8, .v 9]))
theorem spec_l38Copy_L_sh (Q : QT) (x0 x1 x2 x3 x4 x5 x6 x7 x8 x9 : V) : shL spec_l38Copy_L Q [x0, x1, x2, x3, x4, x5, x6, x7, x8, x9] = (
  P4 (.call F_l37Copy 0 4) [x0, x1, x2, x3] fun v0 v1 v2 v3 =>
  P1 (.lst [.sc] false 0) [] fun v4 =>
  P1 (.app [.sc] 8) [v4, x4] fun v5 =>
  Q .ret [v0, v1, v2, v3, v5, x5, x6, x7, x8, x9]) := by kernel_rfl
def spec_l38Copy_S : Sig := ⟨[.val true [.sc, .sc, .sl [.sc, .sc], .sl [.sl [.sc, .sc]], .sl [.sc], .sc, .sc, .sc, .sc, .sc]], [(true, [.sc, .sc, .sl [.sc, .sc], .sl [.sl [.sc, .sc]], .sl [.sc], .sc, .sc, .sc, .sc, .sc])], F_l38Copy⟩
def spec_l38Copy_hs : List NF := []

def spec_Wind_L : L := .seq (.rg []) (.seq (.seq (.rg [⟨[], .call F_SpringOk 0 1, [.v 0, .v 1, .v 2], 1⟩, ⟨[], .un .not, [.v 4], 1⟩, ⟨[(.v 5, false)], .call F_l01In 0 1, [.v 3, .k (.int .i64 0), .k (.int .i64 100)], 1⟩, ⟨[(.v 5, false)], .un .not, [.v 6], 1⟩, ⟨[], .pick, [.v 5, .k (.bool true), .v 7], 1⟩]) (.ite (.v 8) (.seq (.rg []) (.ret [.v 0, .v 1, .v 2, .k (.int .i64 (-1))])) (.skip))) (.seq (.rg [⟨[], .bin .sub, [.v 1, .v 0], 1⟩, ⟨[], .mn, [.v 3, .v 9], 1⟩]) (.seq (.rg [⟨[], .bin .add, [.v 0, .v 10], 1⟩]) (.seq (.rg []) (.ret [.v 11, .v 1, .v 2, .v 10])))))
theorem spec_Wind_L_sh (Q : QT) (x0 x1 x2 x3 : V) : shL spec_Wind_L Q [x0, x1, x2, x3] = (
  P1 (.call F_SpringOk 0 1) [x0, x1, x2] fun v0 =>
  P1 (.un .not) [v0] fun v1 =>
  ifB v1 (
    Q .ret [x0, x1, x2, .int .i64 (-1)]) (
    P1 (.call F_l01In 0 1) [x3, .int .i64 0, .int .i64 100] fun v2 =>
    P1 (.un .not) [v2] fun v3 =>
    ifB v3 (
      Q .ret [x0, x1, x2, .int .i64 (-1)]) (
      P1 (.bin .sub) [x1, x0] fun v4 =>
      P1 (.mn) [x3, v4] fun v5 =>
      P1 (.bin .add) [x0, v5] fun v6 =>
      Q .ret [v6, x1, x2, v5]))) := by kernel_rfl
def spec_Wind_S : Sig := ⟨[.val true [.sc, .sc, .sc], .val false [.sc]], [(true, [.sc, .sc, .sc]), (false, [.sc])], F_Wind⟩
def spec_Wind_hs : List NF := []

def spec_Crank_L : L := .seq (.rg []) (.seq (.rg [⟨[], .call F_l38Copy 0 10, [.v 0, .v 1, .v 2, .v 3, .v 4, .v 5, .v 6, .v 7, .v 8, .v 9], 10⟩]) (.seq (.seq (.rg [⟨[], .call F_WorkshopOk 0 1, [.v 0, .v 1, .v 2, .v 3, .v 4, .v 5, .v 6, .v 7, .v 8, .v 9], 1⟩, ⟨[], .un .not, [.v 21], 1⟩]) (.ite (.v 22) (.seq (.rg []) (.ret [.v 11, .v 12, .v 13, .v 14, .v 15, .v 16, .v 17, .v 18, .v 19, .v 20, .k (.int .i64 (-1))])) (.skip))) (.seq (.rg [⟨[], .call F_Wind 0 4, [.v 5, .v 6, .v 7, .v 10], 4⟩]) (.seq (.rg []) (.seq (.rg []) (.ret [.v 11, .v 12, .v 13, .v 14, .v 15, .v 23, .v 24, .v 25, .v 19, .v 20, .v 26]))))))
theorem spec_Crank_L_sh (Q : QT) (x0 x1 x2 x3 x4 x5 x6 x7 x8 x9 x10 : V) : shL spec_Crank_L Q [x0, x1, x2, x3, x4, x5, x6, x7, x8, x9, x10] = (
  P10 (.call F_l38Copy 0 10) [x0, x1, x2, x3, x4, x5, x6, x7, x8, x9] fun v0 v1 v2 v3 v4 v5 v6 v7 v8 v9 =>
  P1 (.call F_WorkshopOk 0 1) [x0, x1, x2, x3, x4, x5, x6, x7, x8, x9] fun v10 =>
  P1 (.un .not) [v10] fun v11 =>
  ifB v11 (
    Q .ret [v0, v1, v2, v3, v4, v5, v6, v7, v8, v9, .int .i64 (-1)]) (
    P4 (.call F_Wind 0 4) [x5, x6, x7, x10] fun v12 v13 v14 v15 =>
    Q .ret [v0, v1, v2, v3, v4, v12, v13, v14, v8, v9, v15])) := by kernel_rfl
def spec_Crank_S : Sig := ⟨[.val true [.sc, .sc, .sl [.sc, .sc], .sl [.sl [.sc, .sc]], .sl [.sc], .sc, .sc, .sc, .sc, .sc], .val false [.sc]], [(true, [.sc, .sc, .sl [.sc, .sc], .sl [.sl [.sc, .sc]], .sl [.sc], .sc, .sc, .sc, .sc, .sc]), (false, [.sc])], F_Crank⟩
def spec_Crank_hs : List NF := []

def impl_copyWorkshop_L : L := .seq (.rg []) (.seq (.rg [⟨[], .call F_copyBench 0 4, [.v 0, .v 1, .v 2, .v 3], 4⟩]) (.seq (.rg [⟨[], .call F_copyInts 0 1, [.v 4], 1⟩]) (.seq (.rg []) (.ret [.v 10, .v 11, .v 12, .v 13, .v 14, .v 5, .v 6, .v 7, .v 8, .v 9]))))
theorem impl_copyWorkshop_L_sh (Q : QT) (x0 x1 x2 x3 x4 x5 x6 x7 x8 x9 : V) : shL impl_copyWorkshop_L Q [x0, x1, x2, x3, x4, x5, x6, x7, x8, x9] = (
  P4 (.call F_copyBench 0 4) [x0, x1, x2, x3] fun v0 v1 v2 v3 =>
  P1 (.call F_copyInts 0 1) [x4] fun v4 =>
  Q .ret [v0, v1, v2, v3, v4, x5, x6, x7, x8, x9]) := by kernel_rfl
def impl_copyWorkshop_S : Sig := ⟨[.val true [.sc, .sc, .sl [.sc, .sc], .sl [.sl [.sc, .sc]], .sl [.sc], .sc, .sc, .sc, .sc, .sc]], [(true, [.sc, .sc, .sl [.sc, .sc], .sl [.sl [.sc, .sc]], .sl [.sc], .sc, .sc, .sc, .sc, .sc])], F_copyWorkshop⟩
def impl_copyWorkshop_hs : List NF := []

def impl_Wind_L : L := .seq (.rg []) (.seq (.seq (.rg [⟨[], .call F_SpringOk 0 1, [.v 0, .v 1, .v 2], 1⟩, ⟨[], .un .not, [.v 4], 1⟩, ⟨[(.v 5, false)], .call F_within 0 1, [.v 3, .k (.int .i64 0), .k (.int .i64 100)], 1⟩, ⟨[(.v 5, false)], .un .not, [.v 6], 1⟩, ⟨[], .pick, [.v 5, .k (.bool true), .v 7], 1⟩]) (.ite (.v 8) (.seq (.rg []) (.ret [.v 0, .v 1, .v 2, .k (.int .i64 (-1))])) (.skip))) (.seq (.rg [⟨[], .bin .sub, [.v 1, .v 0], 1⟩, ⟨[], .mn, [.v 3, .v 9], 1⟩]) (.seq (.rg [⟨[], .bin .add, [.v 0, .v 10], 1⟩]) (.seq (.rg []) (.ret [.v 11, .v 1, .v 2, .v 10])))))
theorem impl_Wind_L_sh (Q : QT) (x0 x1 x2 x3 : V) : shL impl_Wind_L Q [x0, x1, x2, x3] = (
  P1 (.call F_SpringOk 0 1) [x0, x1, x2] fun v0 =>
  P1 (.un .not) [v0] fun v1 =>
  ifB v1 (
    Q .ret [x0, x1, x2, .int .i64 (-1)]) (
    P1 (.call F_within 0 1) [x3, .int .i64 0, .int .i64 100] fun v2 =>
    P1 (.un .not) [v2] fun v3 =>
    ifB v3 (
      Q .ret [x0, x1, x2, .int .i64 (-1)]) (
      P1 (.bin .sub) [x1, x0] fun v4 =>
      P1 (.mn) [x3, v4] fun v5 =>
      P1 (.bin .add) [x0, v5] fun v6 =>
      Q .ret [v6, x1, x2, v5]))) := by kernel_rfl
def impl_Wind_S : Sig := ⟨[.val true [.sc, .sc, .sc], .val false [.sc]], [(true, [.sc, .sc, .sc]), (false, [.sc])], F_Wind⟩
def impl_Wind_hs : List NF := []

def impl_Crank_L : L := .seq (.rg []) (.seq (.rg [⟨[], .call F_copyWorkshop 0 10, [.v 0, .v 1, .v 2, .v 3, .v 4, .v 5, .v 6, .v 7, .v 8, .v 9], 10⟩]) (.seq (.rg [⟨[], .call F_Wind 0 4, [.v 5, .v 6, .v 7, .v 10], 4⟩]) (.seq (.seq (.rg [⟨[], .call F_WorkshopOk 0 1, [.v 0, .v 1, .v 2, .v 3, .v 4, .v 5, .v 6, .v 7, .v 8, .v 9], 1⟩, ⟨[], .un .not, [.v 25], 1⟩, ⟨[(.v 26, false)], .bin .lss, [.v 24, .k (.int .i64 0)], 1⟩, ⟨[], .pick, [.v 26, .k (.bool true), .v 27], 1⟩]) (.ite (.v 28) (.seq (.rg []) (.ret [.v 11, .v 12, .v 13, .v 14, .v 15, .v 16, .v 17, .v 18, .v 19, .v 20, .k (.int .i64 (-1))])) (.skip))) (.seq (.rg []) (.seq (.rg []) (.ret [.v 11, .v 12, .v 13, .v 14, .v 15, .v 21, .v 22, .v 23, .v 19, .v 20, .v 24]))))))
theorem impl_Crank_L_sh (Q : QT) (x0 x1 x2 x3 x4 x5 x6 x7 x8 x9 x10 : V) : shL impl_Crank_L Q [x0, x1, x2, x3, x4, x5, x6, x7, x8, x9, x10] = (
  P10 (.call F_copyWorkshop 0 10) [x0, x1, x2, x3, x4, x5, x6, x7, x8, x9] fun v0 v1 v2 v3 v4 v5 v6 v7 v8 v9 =>
  P4 (.call F_Wind 0 4) [x5, x6, x7, x10] fun v10 v11 v12 v13 =>
  P1 (.call F_WorkshopOk 0 1) [x0, x1, x2, x3, x4, x5, x6, x7, x8, x9] fun v14 =>
  P1 (.un .not) [v14] fun v15 =>
  ifB v15 (
    Q .ret [v0, v1, v2, v3, v4, v5, v6, v7, v8, v9, .int .i64 (-1)]) (
    P1 (.bin .lss) [v13, .int .i64 0] fun v16 =>
    ifB v16 (
      Q .ret [v0, v1, v2, v3, v4, v5, v6, v7, v8, v9, .int .i64 (-1)]) (
      Q .ret [v0, v1, v2, v3, v4, v10, v11, v12, v8, v9, v13]))) := by kernel_rfl
def impl_Crank_S : Sig := ⟨[.val true [.sc, .sc, .sl [.sc, .sc], .sl [.sl [.sc, .sc]], .sl [.sc], .sc, .sc, .sc, .sc, .sc], .val false [.sc]], [(true, [.sc, .sc, .sl [.sc, .sc], .sl [.sl [.sc, .sc]], .sl [.sc], .sc, .sc, .sc, .sc, .sc]), (false, [.sc])], F_Crank⟩
def impl_Crank_hs : List NF := []

def spec_RemovePin_L : L := .seq (.rg []) (.seq (.rg [⟨[], .call F_l38Copy 0 10, [.v 0, .v 1, .v 2, .v 3, .v 4, .v 5, .v 6, .v 7, .v 8, .v 9], 10⟩]) (.seq (.rg [⟨[], .call F_TakePin 0 5, [.v 0, .v 1, .v 2, .v 3, .v 10], 5⟩]) (.seq (.rg []) (.seq (.seq (.rg [⟨[], .call F_WorkshopOk 0 1, [.v 0, .v 1, .v 2, .v 3, .v 4, .v 5, .v 6, .v 7, .v 8, .v 9], 1⟩, ⟨[], .un .not, [.v 26], 1⟩, ⟨[(.v 27, false)], .un .not, [.v 25], 1⟩, ⟨[], .pick, [.v 27, .k (.bool true), .v 28], 1⟩, ⟨[(.v 29, false)], .call F_WorkshopOk 0 1, [.v 21, .v 22, .v 23, .v 24, .v 15, .v 16, .v 17, .v 18, .v 19, .v 20], 1⟩, ⟨[(.v 29, false)], .un .not, [.v 30], 1⟩, ⟨[], .pick, [.v 29, .k (.bool true), .v 31], 1⟩]) (.ite (.v 32) (.seq (.rg [⟨[], .call F_l38Copy 0 10, [.v 0, .v 1, .v 2, .v 3, .v 4, .v 5, .v 6, .v 7, .v 8, .v 9], 10⟩]) (.ret [.v 33, .v 34, .v 35, .v 36, .v 37, .v 38, .v 39, .v 40, .v 41, .v 42, .k (.bool false)])) (.skip))) (.seq (.rg []) (.ret [.v 21, .v 22, .v 23, .v 24, .v 15, .v 16, .v 17, .v 18, .v 19, .v 20, .k (.bool true)]))))))
theorem spec_RemovePin_L_sh (Q : QT) (x0 x1 x2 x3 x4 x5 x6 x7 x8 x9 x10 : V) : shL spec_RemovePin_L Q [x0, x1, x2, x3, x4, x5, x6, x7, x8, x9, x10] = (
  P10 (.call F_l38Copy 0 10) [x0, x1, x2, x3, x4, x5, x6, x7, x8, x9] fun _ _ _ _ v4 v5 v6 v7 v8 v9 =>
  P5 (.call F_TakePin 0 5) [x0, x1, x2, x3, x10] fun v10 v11 v12 v13 v14 =>
  P1 (.call F_WorkshopOk 0 1) [x0, x1, x2, x3, x4, x5, x6, x7, x8, x9] fun v15 =>
  P1 (.un .not) [v15] fun v16 =>
  ifB v16 (
    P10 (.call F_l38Copy 0 10) [x0, x1, x2, x3, x4, x5, x6, x7, x8, x9] fun v17 v18 v19 v20 v21 v22 v23 v24 v25 v26 =>
    Q .ret [v17, v18, v19, v20, v21, v22, v23, v24, v25, v26, .bool false]) (
    P1 (.un .not) [v14] fun v27 =>
    ifB v27 (
      P10 (.call F_l38Copy 0 10) [x0, x1, x2, x3, x4, x5, x6, x7, x8, x9] fun v28 v29 v30 v31 v32 v33 v34 v35 v36 v37 =>
      Q .ret [v28, v29, v30, v31, v32, v33, v34, v35, v36, v37, .bool false]) (
      P1 (.call F_WorkshopOk 0 1) [v10, v11, v12, v13, v4, v5, v6, v7, v8, v9] fun v38 =>
      P1 (.un .not) [v38] fun v39 =>
      ifB v39 (
        P10 (.call F_l38Copy 0 10) [x0, x1, x2, x3, x4, x5, x6, x7, x8, x9] fun v40 v41 v42 v43 v44 v45 v46 v47 v48 v49 =>
        Q .ret [v40, v41, v42, v43, v44, v45, v46, v47, v48, v49, .bool false]) (
        Q .ret [v10, v11, v12, v13, v4, v5, v6, v7, v8, v9, .bool true])))) := by kernel_rfl
def spec_RemovePin_S : Sig := ⟨[.val true [.sc, .sc, .sl [.sc, .sc], .sl [.sl [.sc, .sc]], .sl [.sc], .sc, .sc, .sc, .sc, .sc], .val false [.sc]], [(true, [.sc, .sc, .sl [.sc, .sc], .sl [.sl [.sc, .sc]], .sl [.sc], .sc, .sc, .sc, .sc, .sc]), (false, [.sc])], F_RemovePin⟩
def spec_RemovePin_hs : List NF := []

def impl_withBench_L : L := .seq (.rg []) (.seq (.rg [⟨[], .call F_copyWorkshop 0 10, [.v 0, .v 1, .v 2, .v 3, .v 4, .v 5, .v 6, .v 7, .v 8, .v 9], 10⟩]) (.seq (.rg []) (.seq (.rg [⟨[], .bin .sub, [.v 24, .v 14], 1⟩]) (.seq (.seq (.rg [⟨[], .un .not, [.v 15], 1⟩, ⟨[(.v 27, false)], .call F_WorkshopOk 0 1, [.v 0, .v 1, .v 2, .v 3, .v 4, .v 5, .v 6, .v 7, .v 8, .v 9], 1⟩, ⟨[(.v 27, false)], .un .not, [.v 28], 1⟩, ⟨[], .pick, [.v 27, .k (.bool true), .v 29], 1⟩, ⟨[(.v 30, false)], .call F_WorkshopOk 0 1, [.v 10, .v 11, .v 12, .v 13, .v 20, .v 21, .v 22, .v 23, .v 26, .v 25], 1⟩, ⟨[(.v 30, false)], .un .not, [.v 31], 1⟩, ⟨[], .pick, [.v 30, .k (.bool true), .v 32], 1⟩]) (.ite (.v 33) (.seq (.rg [⟨[], .call F_copyWorkshop 0 10, [.v 0, .v 1, .v 2, .v 3, .v 4, .v 5, .v 6, .v 7, .v 8, .v 9], 10⟩]) (.ret [.v 34, .v 35, .v 36, .v 37, .v 38, .v 39, .v 40, .v 41, .v 42, .v 43, .k (.bool false)])) (.skip))) (.seq (.rg []) (.ret [.v 10, .v 11, .v 12, .v 13, .v 20, .v 21, .v 22, .v 23, .v 26, .v 25, .k (.bool true)]))))))
theorem impl_withBench_L_sh (Q : QT) (x0 x1 x2 x3 x4 x5 x6 x7 x8 x9 x10 x11 x12 x13 x14 x15 : V) : shL impl_withBench_L Q [x0, x1, x2, x3, x4, x5, x6, x7, x8, x9, x10, x11, x12, x13, x14, x15] = (
  P10 (.call F_copyWorkshop 0 10) [x0, x1, x2, x3, x4, x5, x6, x7, x8, x9] fun _ _ _ _ v4 v5 v6 v7 v8 v9 =>
  P1 (.bin .sub) [v8, x14] fun v10 =>
  P1 (.un .not) [x15] fun v11 =>
  ifB v11 (
    P10 (.call F_copyWorkshop 0 10) [x0, x1, x2, x3, x4, x5, x6, x7, x8, x9] fun v12 v13 v14 v15 v16 v17 v18 v19 v20 v21 =>
    Q .ret [v12, v13, v14, v15, v16, v17, v18, v19, v20, v21, .bool false]) (
    P1 (.call F_WorkshopOk 0 1) [x0, x1, x2, x3, x4, x5, x6, x7, x8, x9] fun v22 =>
    P1 (.un .not) [v22] fun v23 =>
    ifB v23 (
      P10 (.call F_copyWorkshop 0 10) [x0, x1, x2, x3, x4, x5, x6, x7, x8, x9] fun v24 v25 v26 v27 v28 v29 v30 v31 v32 v33 =>
      Q .ret [v24, v25, v26, v27, v28, v29, v30, v31, v32, v33, .bool false]) (
      P1 (.call F_WorkshopOk 0 1) [x10, x11, x12, x13, v4, v5, v6, v7, v10, v9] fun v34 =>
      P1 (.un .not) [v34] fun v35 =>
      ifB v35 (
        P10 (.call F_copyWorkshop 0 10) [x0, x1, x2, x3, x4, x5, x6, x7, x8, x9] fun v36 v37 v38 v39 v40 v41 v42 v43 v44 v45 =>
        Q .ret [v36, v37, v38, v39, v40, v41, v42, v43, v44, v45, .bool false]) (
        Q .ret [x10, x11, x12, x13, v4, v5, v6, v7, v10, v9, .bool true])))) := by kernel_rfl
def impl_withBench_S : Sig := ⟨[.val true [.sc, .sc, .sl [.sc, .sc], .sl [.sl [.sc, .sc]], .sl [.sc], .sc, .sc, .sc, .sc, .sc], .tk true [.sc, .sc, .sl [.sc, .sc], .sl [.sl [.sc, .sc]]], .val false [.sc], .val false [.sc]], [(true, [.sc, .sc, .sl [.sc, .sc], .sl [.sl [.sc, .sc]], .sl [.sc], .sc, .sc, .sc, .sc, .sc]), (false, [.sc])], F_withBench⟩
def impl_withBench_hs : List NF := []

def impl_RemovePin_L : L := .seq (.rg []) (.seq (.rg [⟨[], .call F_TakePin 0 5, [.v 0, .v 1, .v 2, .v 3, .v 10], 5⟩]) (.seq (.rg [⟨[], .call F_withBench 0 11, [.v 0, .v 1, .v 2, .v 3, .v 4, .v 5, .v 6, .v 7, .v 8, .v 9, .v 11, .v 12, .v 13, .v 14, .k (.int .i64 0), .v 15], 11⟩]) (.ret [.v 16, .v 17, .v 18, .v 19, .v 20, .v 21, .v 22, .v 23, .v 24, .v 25, .v 26])))
theorem impl_RemovePin_L_sh (Q : QT) (x0 x1 x2 x3 x4 x5 x6 x7 x8 x9 x10 : V) : shL impl_RemovePin_L Q [x0, x1, x2, x3, x4, x5, x6, x7, x8, x9, x10] = (
  P5 (.call F_TakePin 0 5) [x0, x1, x2, x3, x10] fun v0 v1 v2 v3 v4 =>
  P11 (.call F_withBench 0 11) [x0, x1, x2, x3, x4, x5, x6, x7, x8, x9, v0, v1, v2, v3, .int .i64 0, v4] fun v5 v6 v7 v8 v9 v10 v11 v12 v13 v14 v15 =>
  Q .ret [v5, v6, v7, v8, v9, v10, v11, v12, v13, v14, v15]) := by kernel_rfl
def impl_RemovePin_S : Sig := ⟨[.val true [.sc, .sc, .sl [.sc, .sc], .sl [.sl [.sc, .sc]], .sl [.sc], .sc, .sc, .sc, .sc, .sc], .val false [.sc]], [(true, [.sc, .sc, .sl [.sc, .sc], .sl [.sl [.sc, .sc]], .sl [.sc], .sc, .sc, .sc, .sc, .sc]), (false, [.sc])], F_RemovePin⟩
def impl_RemovePin_hs : List NF := []

def spec_GapAround_L : L := .seq (.rg []) (.seq (.seq (.rg [⟨[], .call F_l01In 0 1, [.v 2, .k (.int .i64 1), .k (.int .i64 1000)], 1⟩, ⟨[], .un .not, [.v 3], 1⟩, ⟨[(.v 4, false)], .bin .sub, [.v 2, .k (.int .i64 1)], 1⟩, ⟨[(.v 4, false)], .call F_l01In 0 1, [.v 0, .k (.int .i64 0), .v 5], 1⟩, ⟨[(.v 4, false)], .un .not, [.v 6], 1⟩, ⟨[], .pick, [.v 4, .k (.bool true), .v 7], 1⟩, ⟨[(.v 8, false)], .bin .sub, [.v 2, .k (.int .i64 1)], 1⟩, ⟨[(.v 8, false)], .call F_l01In 0 1, [.v 1, .k (.int .i64 0), .v 9], 1⟩, ⟨[(.v 8, false)], .un .not, [.v 10], 1⟩, ⟨[], .pick, [.v 8, .k (.bool true), .v 11], 1⟩]) (.ite (.v 12) (.seq (.rg []) (.ret [.k (.int .i64 (-1))])) (.skip))) (.seq (.rg [⟨[], .bin .sub, [.v 0, .v 1], 1⟩, ⟨[], .bin .sub, [.v 1, .v 0], 1⟩, ⟨[], .mx, [.v 13, .v 14], 1⟩]) (.seq (.rg [⟨[], .bin .sub, [.v 2, .v 15], 1⟩, ⟨[], .mn, [.v 15, .v 16], 1⟩]) (.ret [.v 17]))))
theorem spec_GapAround_L_sh (Q : QT) (x0 x1 x2 : V) : shL spec_GapAround_L Q [x0, x1, x2] = (
  P1 (.call F_l01In 0 1) [x2, .int .i64 1, .int .i64 1000] fun v0 =>
  P1 (.un .not) [v0] fun v1 =>
  ifB v1 (
    Q .ret [.int .i64 (-1)]) (
    P1 (.bin .sub) [x2, .int .i64 1] fun v2 =>
    P1 (.call F_l01In 0 1) [x0, .int .i64 0, v2] fun v3 =>
    P1 (.un .not) [v3] fun v4 =>
    ifB v4 (
      Q .ret [.int .i64 (-1)]) (
      P1 (.bin .sub) [x2, .int .i64 1] fun v5 =>
      P1 (.call F_l01In 0 1) [x1, .int .i64 0, v5] fun v6 =>
      P1 (.un .not) [v6] fun v7 =>
      ifB v7 (
        Q .ret [.int .i64 (-1)]) (
        P1 (.bin .sub) [x0, x1] fun v8 =>
        P1 (.bin .sub) [x1, x0] fun v9 =>
        P1 (.mx) [v8, v9] fun v10 =>
        P1 (.bin .sub) [x2, v10] fun v11 =>
        P1 (.mn) [v10, v11] fun v12 =>
        Q .ret [v12])))) := by kernel_rfl
def spec_GapAround_S : Sig := ⟨[.val false [.sc], .val false [.sc], .val false [.sc]], [(false, [.sc])], F_GapAround⟩
def spec_GapAround_hs : List NF := []

def spec_TooClose_b1 : L := .seq (.seq (.seq (.rg [⟨[], .len, [.v 6], 1⟩, ⟨[], .bin .lss, [.v 2, .v 7], 1⟩]) (.ite (.v 8) (.skip) (.seq (.tup [.v 0, .v 1, .v 3, .v 4, .v 5, .v 6]) (.exit 2)))) (.seq (.block 3 (.seq (.seq (.rg [⟨[], .idx [.sc, .sc], [.v 6, .v 1], 2⟩, ⟨[], .idx [.sc, .sc], [.v 6, .v 2], 2⟩, ⟨[], .bin .eql, [.v 9, .v 11], 1⟩, ⟨[(.v 13, true)], .idx [.sc, .sc], [.v 6, .v 1], 2⟩, ⟨[(.v 13, true)], .idx [.sc, .sc], [.v 6, .v 2], 2⟩, ⟨[(.v 13, true)], .call F_GapAround 0 1, [.v 15, .v 17, .v 4], 1⟩, ⟨[(.v 13, true)], .bin .lss, [.v 18, .v 0], 1⟩, ⟨[], .pick, [.v 13, .v 19, .k (.bool false)], 1⟩]) (.ite (.v 20) (.seq (.rg [⟨[], .lst [.sc] false 2, [.v 1, .v 2], 1⟩, ⟨[], .lst [.sl [.sc]] false 1, [.v 21], 1⟩, ⟨[], .app [.sl [.sc]] 24, [.v 3, .v 22], 1⟩]) (.tup [.v 0, .v 1, .v 2, .v 23, .v 4, .v 5, .v 6])) (.seq (.skip) (.tup [.v 0, .v 1, .v 2, .v 3, .v 4, .v 5, .v 6])))) (.tup [.v 0, .v 1, .v 2, .v 3, .v 4, .v 5, .v 6]))) (.rg [⟨[], .bin .add, [.v 2, .k (.int .i64 1)], 1⟩]))) (.tup [.v 0, .v 1, .v 7, .v 3, .v 4, .v 5, .v 6])
theorem spec_TooClose_b1_sh (Q : QT) (x0 x1 x2 x3 x4 x5 x6 : V) : shL spec_TooClose_b1 Q [x0, x1, x2, x3, x4, x5, x6] = (
  P1 (.len) [x6] fun v0 =>
  P1 (.bin .lss) [x2, v0] fun v1 =>
  ifB v1 (
    P2 (.idx [.sc, .sc]) [x6, x1] fun v2 _ =>
    P2 (.idx [.sc, .sc]) [x6, x2] fun v4 _ =>
    P1 (.bin .eql) [v2, v4] fun v6 =>
    ifB v6 (
      P2 (.idx [.sc, .sc]) [x6, x1] fun _ v8 =>
      P2 (.idx [.sc, .sc]) [x6, x2] fun _ v10 =>
      P1 (.call F_GapAround 0 1) [v8, v10, x4] fun v11 =>
      P1 (.bin .lss) [v11, x0] fun v12 =>
      ifB v12 (
        P1 (.lst [.sc] false 2) [x1, x2] fun v13 =>
        P1 (.lst [.sl [.sc]] false 1) [v13] fun v14 =>
        P1 (.app [.sl [.sc]] 24) [x3, v14] fun v15 =>
        P1 (.bin .add) [x2, .int .i64 1] fun v16 =>
        Q .normal [x0, x1, v16, v15, x4, x5, x6]) (
        P1 (.bin .add) [x2, .int .i64 1] fun v17 =>
        Q .normal [x0, x1, v17, x3, x4, x5, x6])) (
      P1 (.bin .add) [x2, .int .i64 1] fun v18 =>
      Q .normal [x0, x1, v18, x3, x4, x5, x6])) (
    Q (.exit 2) [x0, x1, x3, x4, x5, x6])) := by kernel_rfl

def spec_TooClose_r2 : L := .tup [.v 0, .v 1, .v 2, .v 3, .v 4, .v 5]
theorem spec_TooClose_r2_sh (Q : QT) (x0 x1 x2 x3 x4 x5 : V) : shL spec_TooClose_r2 Q [x0, x1, x2, x3, x4, x5] = (
  Q .normal [x0, x1, x2, x3, x4, x5]) := by kernel_rfl

def spec_TooClose_r3 : L := .rg [⟨[], .bin .add, [.v 1, .k (.int .i64 1)], 1⟩]
theorem spec_TooClose_r3_sh (Q : QT) (x0 x1 x2 x3 x4 x5 : V) : shL spec_TooClose_r3 Q [x0, x1, x2, x3, x4, x5] = (
  P1 (.bin .add) [x1, .int .i64 1] fun v0 =>
  Q .normal [x0, x1, x2, x3, x4, x5, v0]) := by kernel_rfl

def spec_TooClose_r4 : L := .tup [.v 0, .v 6, .v 2, .v 3, .v 4, .v 5]
theorem spec_TooClose_r4_sh (Q : QT) (x0 x1 x2 x3 x4 x5 x6 : V) : shL spec_TooClose_r4 Q [x0, x1, x2, x3, x4, x5, x6] = (
  Q .normal [x0, x6, x2, x3, x4, x5]) := by kernel_rfl

def spec_TooClose_b0 : L := .seq (.seq (.seq (.rg [⟨[], .len, [.v 5], 1⟩, ⟨[], .bin .lss, [.v 1, .v 6], 1⟩]) (.ite (.v 7) (.skip) (.seq (.tup [.v 2]) (.exit 0)))) (.seq (.block 1 (.seq (.seq (.rg [⟨[], .bin .add, [.v 1, .k (.int .i64 1)], 1⟩]) (.block 2 (.seq (.tup [.v 0, .v 1, .v 8, .v 2, .v 3, .v 4, .v 5]) (.loop (spec_TooClose_b1))))) (spec_TooClose_r2))) (spec_TooClose_r3))) (spec_TooClose_r4)
theorem spec_TooClose_b0_sh (Q : QT) (x0 x1 x2 x3 x4 x5 : V) : shL spec_TooClose_b0 Q [x0, x1, x2, x3, x4, x5] = (
  P1 (.len) [x5] fun v0 =>
  P1 (.bin .lss) [x1, v0] fun v1 =>
  ifB v1 (
    P1 (.bin .add) [x1, .int .i64 1] fun v2 =>
    shL (.loop spec_TooClose_b1) (qB 2 (qS (shL spec_TooClose_r2 (qB 1 (qS (shL spec_TooClose_r3 (qS (shL spec_TooClose_r4 Q) Q)) (qS (shL spec_TooClose_r4 Q) Q)))) (qB 1 (qS (shL spec_TooClose_r3 (qS (shL spec_TooClose_r4 Q) Q)) (qS (shL spec_TooClose_r4 Q) Q))))) [x0, x1, v2, x2, x3, x4, x5]) (
    Q (.exit 0) [x2])) := by kernel_rfl

def spec_TooClose_r5 : L := .seq (.rg []) (.ret [.v 0])
theorem spec_TooClose_r5_sh (Q : QT) (x0 : V) : shL spec_TooClose_r5 Q [x0] = (
  Q .ret [x0]) := by kernel_rfl

def spec_TooClose_L : L := .seq (.rg []) (.seq (.rg [⟨[], .lst [.sl [.sc]] false 0, [], 1⟩]) (.seq (.seq (.rg [⟨[], .call F_CylinderOk 0 1, [.v 0, .v 1, .v 2], 1⟩, ⟨[], .un .not, [.v 5], 1⟩, ⟨[(.v 6, false)], .call F_l01In 0 1, [.v 3, .k (.int .i64 1), .k (.int .i64 96)], 1⟩, ⟨[(.v 6, false)], .un .not, [.v 7], 1⟩, ⟨[], .pick, [.v 6, .k (.bool true), .v 8], 1⟩]) (.ite (.v 9) (.seq (.rg []) (.ret [.v 4])) (.skip))) (.seq (.seq (.rg []) (.block 0 (.seq (.tup [.v 3, .k (.int .i64 0), .v 4, .v 0, .v 1, .v 2]) (.loop (spec_TooClose_b0))))) (spec_TooClose_r5))))
theorem spec_TooClose_L_sh (Q : QT) (x0 x1 x2 x3 : V) : shL spec_TooClose_L Q [x0, x1, x2, x3] = (
  P1 (.lst [.sl [.sc]] false 0) [] fun v0 =>
  P1 (.call F_CylinderOk 0 1) [x0, x1, x2] fun v1 =>
  P1 (.un .not) [v1] fun v2 =>
  ifB v2 (
    Q .ret [v0]) (
    P1 (.call F_l01In 0 1) [x3, .int .i64 1, .int .i64 96] fun v3 =>
    P1 (.un .not) [v3] fun v4 =>
    ifB v4 (
      Q .ret [v0]) (
      shL (.loop spec_TooClose_b0) (qB 0 (qS (shL spec_TooClose_r5 Q) Q)) [x3, .int .i64 0, v0, x0, x1, x2]))) := by kernel_rfl
def spec_TooClose_S : Sig := ⟨[.val true [.sc, .sc, .sl [.sc, .sc]], .val false [.sc]], [(false, [.sl [.sl [.sc]]])], F_TooClose⟩
def spec_TooClose_hs : List NF := [⟨[(5, .sc false [.own 64])], [(64, true, [.sl [.sc]])], [], 65⟩, ⟨[(1, .sc false [.sc]), (2, .ptr 64 0), (5, .sc false [.own 65]), (6, .sc false [.sc])], [(65, true, [.sl [.sc]])], [(64, [.sc, .sc, .ro [.sc, .sc]])], 66⟩, ⟨[(1, .sc false [.sc]), (2, .ptr 64 0), (5, .sc false [.own 65]), (6, .sc false [.sc])], [(65, true, [.sl [.sc]])], [(64, [.sc, .sc, .ro [.sc, .sc]])], 66⟩, ⟨[(1, .sc false [.sc]), (2, .ptr 64 0), (5, .sc false [.own 65]), (6, .sc false [.sc])], [(65, true, [.sl [.sc]])], [(64, [.sc, .sc, .ro [.sc, .sc]])], 66⟩, ⟨[(1, .sc false [.sc]), (2, .ptr 64 0), (5, .sc false [.own 65]), (6, .sc false [.sc]), (7, .sc false [.sc])], [(65, true, [.sl [.sc]])], [(64, [.sc, .sc, .ro [.sc, .sc]])], 66⟩, ⟨[(1, .sc false [.sc]), (2, .ptr 64 0), (5, .sc false [.own 65]), (6, .sc false [.sc]), (7, .sc false [.sc])], [(65, true, [.sl [.sc]])], [(64, [.sc, .sc, .ro [.sc, .sc]])], 66⟩, ⟨[(1, .sc false [.sc]), (2, .ptr 64 0), (5, .sc false [.own 65]), (6, .sc false [.sc]), (7, .sc false [.sc])], [(65, true, [.sl [.sc]])], [(64, [.sc, .sc, .ro [.sc, .sc]])], 66⟩]

def spec_IsPlayable_L : L := .seq (.rg []) (.seq (.rg [⟨[], .call F_CylinderOk 0 1, [.v 0, .v 1, .v 2], 1⟩, ⟨[(.v 4, true)], .call F_l01In 0 1, [.v 3, .k (.int .i64 1), .k (.int .i64 96)], 1⟩, ⟨[], .pick, [.v 4, .v 5, .k (.bool false)], 1⟩, ⟨[(.v 6, true)], .call F_TooClose 0 1, [.v 0, .v 1, .v 2, .v 3], 1⟩, ⟨[(.v 6, true)], .len, [.v 7], 1⟩, ⟨[(.v 6, true)], .bin .eql, [.v 8, .k (.int .i64 0)], 1⟩, ⟨[], .pick, [.v 6, .v 9, .k (.bool false)], 1⟩]) (.ret [.v 10]))
theorem spec_IsPlayable_L_sh (Q : QT) (x0 x1 x2 x3 : V) : shL spec_IsPlayable_L Q [x0, x1, x2, x3] = (
  P1 (.call F_CylinderOk 0 1) [x0, x1, x2] fun v0 =>
  ifB v0 (
    P1 (.call F_l01In 0 1) [x3, .int .i64 1, .int .i64 96] fun v1 =>
    ifB v1 (
      P1 (.call F_TooClose 0 1) [x0, x1, x2, x3] fun v2 =>
      P1 (.len) [v2] fun v3 =>
      P1 (.bin .eql) [v3, .int .i64 0] fun v4 =>
      Q .ret [v4]) (
      Q .ret [.bool false])) (
    Q .ret [.bool false])) := by kernel_rfl
def spec_IsPlayable_S : Sig := ⟨[.val true [.sc, .sc, .sl [.sc, .sc]], .val false [.sc]], [(false, [.sc])], F_IsPlayable⟩
def spec_IsPlayable_hs : List NF := []

def spec_PlayOnce_r0 : L := .seq (.rg [⟨[], .bin .sub, [.v 5, .k (.int .i64 1)], 1⟩]) (.seq (.rg [⟨[], .len, [.v 2], 1⟩, ⟨[], .bin .add, [.v 9, .v 28], 1⟩]) (.seq (.seq (.rg [⟨[], .call F_WorkshopOk 0 1, [.v 10, .v 11, .v 12, .v 13, .v 14, .v 27, .v 16, .v 17, .v 18, .v 29], 1⟩, ⟨[], .un .not, [.v 30], 1⟩]) (.ite (.v 31) (.seq (.rg [⟨[], .call F_l38Copy 0 10, [.v 0, .v 1, .v 2, .v 3, .v 4, .v 5, .v 6, .v 7, .v 8, .v 9], 10⟩]) (.ret [.v 32, .v 33, .v 34, .v 35, .v 36, .v 37, .v 38, .v 39, .v 40, .v 41, .k (.bool false)])) (.skip))) (.seq (.rg []) (.ret [.v 10, .v 11, .v 12, .v 13, .v 14, .v 27, .v 16, .v 17, .v 18, .v 29, .k (.bool true)]))))
theorem spec_PlayOnce_r0_sh (Q : QT) (x0 x1 x2 x3 x4 x5 x6 x7 x8 x9 x10 x11 x12 x13 x14 x15 x16 x17 x18 x19 x20 x21 x22 x23 x24 x25 x26 : V) : shL spec_PlayOnce_r0 Q [x0, x1, x2, x3, x4, x5, x6, x7, x8, x9, x10, x11, x12, x13, x14, x15, x16, x17, x18, x19, x20, x21, x22, x23, x24, x25, x26] = (
  P1 (.bin .sub) [x5, .int .i64 1] fun v0 =>
  P1 (.len) [x2] fun v1 =>
  P1 (.bin .add) [x9, v1] fun v2 =>
  P1 (.call F_WorkshopOk 0 1) [x10, x11, x12, x13, x14, v0, x16, x17, x18, v2] fun v3 =>
  P1 (.un .not) [v3] fun v4 =>
  ifB v4 (
    P10 (.call F_l38Copy 0 10) [x0, x1, x2, x3, x4, x5, x6, x7, x8, x9] fun v5 v6 v7 v8 v9 v10 v11 v12 v13 v14 =>
    Q .ret [v5, v6, v7, v8, v9, v10, v11, v12, v13, v14, .bool false]) (
    Q .ret [x10, x11, x12, x13, x14, v0, x16, x17, x18, v2, .bool true])) := by kernel_rfl

def spec_PlayOnce_L : L := .seq (.rg []) (.seq (.rg [⟨[], .call F_l38Copy 0 10, [.v 0, .v 1, .v 2, .v 3, .v 4, .v 5, .v 6, .v 7, .v 8, .v 9], 10⟩]) (.seq (.seq (.rg [⟨[], .call F_WorkshopOk 0 1, [.v 0, .v 1, .v 2, .v 3, .v 4, .v 5, .v 6, .v 7, .v 8, .v 9], 1⟩, ⟨[], .un .not, [.v 20], 1⟩, ⟨[(.v 21, false)], .bin .eql, [.v 5, .k (.int .i64 0)], 1⟩, ⟨[], .pick, [.v 21, .k (.bool true), .v 22], 1⟩, ⟨[(.v 23, false)], .call F_IsPlayable 0 1, [.v 0, .v 1, .v 2, .k (.int .i64 2)], 1⟩, ⟨[(.v 23, false)], .un .not, [.v 24], 1⟩, ⟨[], .pick, [.v 23, .k (.bool true), .v 25], 1⟩]) (.ite (.v 26) (.seq (.rg []) (.ret [.v 10, .v 11, .v 12, .v 13, .v 14, .v 15, .v 16, .v 17, .v 18, .v 19, .k (.bool false)])) (.skip))) (spec_PlayOnce_r0)))
theorem spec_PlayOnce_L_sh (Q : QT) (x0 x1 x2 x3 x4 x5 x6 x7 x8 x9 : V) : shL spec_PlayOnce_L Q [x0, x1, x2, x3, x4, x5, x6, x7, x8, x9] = (
  P10 (.call F_l38Copy 0 10) [x0, x1, x2, x3, x4, x5, x6, x7, x8, x9] fun v0 v1 v2 v3 v4 v5 v6 v7 v8 v9 =>
  P1 (.call F_WorkshopOk 0 1) [x0, x1, x2, x3, x4, x5, x6, x7, x8, x9] fun v10 =>
  P1 (.un .not) [v10] fun v11 =>
  ifB v11 (
    Q .ret [v0, v1, v2, v3, v4, v5, v6, v7, v8, v9, .bool false]) (
    P1 (.bin .eql) [x5, .int .i64 0] fun v12 =>
    ifB v12 (
      Q .ret [v0, v1, v2, v3, v4, v5, v6, v7, v8, v9, .bool false]) (
      P1 (.call F_IsPlayable 0 1) [x0, x1, x2, .int .i64 2] fun v13 =>
      P1 (.un .not) [v13] fun v14 =>
      ifB v14 (
        Q .ret [v0, v1, v2, v3, v4, v5, v6, v7, v8, v9, .bool false]) (
        shL spec_PlayOnce_r0 Q [x0, x1, x2, x3, x4, x5, x6, x7, x8, x9, v0, v1, v2, v3, v4, v5, v6, v7, v8, v9, v10, .bool false, v12, .bool false, v13, v14, .bool false])))) := by kernel_rfl
def spec_PlayOnce_S : Sig := ⟨[.val true [.sc, .sc, .sl [.sc, .sc], .sl [.sl [.sc, .sc]], .sl [.sc], .sc, .sc, .sc, .sc, .sc]], [(true, [.sc, .sc, .sl [.sc, .sc], .sl [.sl [.sc, .sc]], .sl [.sc], .sc, .sc, .sc, .sc, .sc]), (false, [.sc])], F_PlayOnce⟩
def spec_PlayOnce_hs : List NF := []

def impl_GapAround_L : L := .seq (.rg []) (.seq (.seq (.rg [⟨[], .call F_within 0 1, [.v 2, .k (.int .i64 1), .k (.int .i64 1000)], 1⟩, ⟨[], .un .not, [.v 3], 1⟩, ⟨[(.v 4, false)], .bin .sub, [.v 2, .k (.int .i64 1)], 1⟩, ⟨[(.v 4, false)], .call F_within 0 1, [.v 0, .k (.int .i64 0), .v 5], 1⟩, ⟨[(.v 4, false)], .un .not, [.v 6], 1⟩, ⟨[], .pick, [.v 4, .k (.bool true), .v 7], 1⟩, ⟨[(.v 8, false)], .bin .sub, [.v 2, .k (.int .i64 1)], 1⟩, ⟨[(.v 8, false)], .call F_within 0 1, [.v 1, .k (.int .i64 0), .v 9], 1⟩, ⟨[(.v 8, false)], .un .not, [.v 10], 1⟩, ⟨[], .pick, [.v 8, .k (.bool true), .v 11], 1⟩]) (.ite (.v 12) (.seq (.rg []) (.ret [.k (.int .i64 (-1))])) (.skip))) (.seq (.rg [⟨[], .bin .sub, [.v 0, .v 1], 1⟩, ⟨[], .call F_magnitude 0 1, [.v 13], 1⟩]) (.seq (.rg [⟨[], .bin .sub, [.v 2, .v 14], 1⟩, ⟨[], .mn, [.v 14, .v 15], 1⟩]) (.ret [.v 16]))))
theorem impl_GapAround_L_sh (Q : QT) (x0 x1 x2 : V) : shL impl_GapAround_L Q [x0, x1, x2] = (
  P1 (.call F_within 0 1) [x2, .int .i64 1, .int .i64 1000] fun v0 =>
  P1 (.un .not) [v0] fun v1 =>
  ifB v1 (
    Q .ret [.int .i64 (-1)]) (
    P1 (.bin .sub) [x2, .int .i64 1] fun v2 =>
    P1 (.call F_within 0 1) [x0, .int .i64 0, v2] fun v3 =>
    P1 (.un .not) [v3] fun v4 =>
    ifB v4 (
      Q .ret [.int .i64 (-1)]) (
      P1 (.bin .sub) [x2, .int .i64 1] fun v5 =>
      P1 (.call F_within 0 1) [x1, .int .i64 0, v5] fun v6 =>
      P1 (.un .not) [v6] fun v7 =>
      ifB v7 (
        Q .ret [.int .i64 (-1)]) (
        P1 (.bin .sub) [x0, x1] fun v8 =>
        P1 (.call F_magnitude 0 1) [v8] fun v9 =>
        P1 (.bin .sub) [x2, v9] fun v10 =>
        P1 (.mn) [v9, v10] fun v11 =>
        Q .ret [v11])))) := by kernel_rfl
def impl_GapAround_S : Sig := ⟨[.val false [.sc], .val false [.sc], .val false [.sc]], [(false, [.sc])], F_GapAround⟩
def impl_GapAround_hs : List NF := []

def impl_TooClose_b1 : L := .seq (.seq (.seq (.rg [⟨[], .len, [.v 9], 1⟩, ⟨[], .bin .lss, [.v 2, .v 12], 1⟩]) (.ite (.v 13) (.skip) (.seq (.tup [.v 0, .v 3, .v 4, .v 5, .v 6, .v 7, .v 8, .v 9]) (.exit 2)))) (.seq (.block 3 (.seq (.seq (.rg [⟨[], .idx [.sc, .sc], [.v 9, .v 2], 2⟩]) (.seq (.rg [⟨[], .bin .eql, [.v 10, .v 14], 1⟩, ⟨[(.v 16, true)], .call F_GapAround 0 1, [.v 11, .v 15, .v 7], 1⟩, ⟨[(.v 16, true)], .bin .lss, [.v 17, .v 0], 1⟩, ⟨[], .pick, [.v 16, .v 18, .k (.bool false)], 1⟩]) (.ite (.v 19) (.seq (.rg [⟨[], .lst [.sc] false 2, [.v 1, .v 2], 1⟩, ⟨[], .lst [.sl [.sc]] false 1, [.v 20], 1⟩, ⟨[], .app [.sl [.sc]] 24, [.v 6, .v 21], 1⟩]) (.tup [.v 0, .v 1, .v 2, .v 3, .v 4, .v 5, .v 22, .v 7, .v 8, .v 9, .v 10, .v 11])) (.seq (.skip) (.tup [.v 0, .v 1, .v 2, .v 3, .v 4, .v 5, .v 6, .v 7, .v 8, .v 9, .v 10, .v 11]))))) (.tup [.v 0, .v 1, .v 2, .v 3, .v 4, .v 5, .v 6, .v 7, .v 8, .v 9, .v 10, .v 11]))) (.rg [⟨[], .bin .add, [.v 2, .k (.int .i64 1)], 1⟩]))) (.tup [.v 0, .v 1, .v 12, .v 3, .v 4, .v 5, .v 6, .v 7, .v 8, .v 9, .v 10, .v 11])
theorem impl_TooClose_b1_sh (Q : QT) (x0 x1 x2 x3 x4 x5 x6 x7 x8 x9 x10 x11 : V) : shL impl_TooClose_b1 Q [x0, x1, x2, x3, x4, x5, x6, x7, x8, x9, x10, x11] = (
  P1 (.len) [x9] fun v0 =>
  P1 (.bin .lss) [x2, v0] fun v1 =>
  ifB v1 (
    P2 (.idx [.sc, .sc]) [x9, x2] fun v2 v3 =>
    P1 (.bin .eql) [x10, v2] fun v4 =>
    ifB v4 (
      P1 (.call F_GapAround 0 1) [x11, v3, x7] fun v5 =>
      P1 (.bin .lss) [v5, x0] fun v6 =>
      ifB v6 (
        P1 (.lst [.sc] false 2) [x1, x2] fun v7 =>
        P1 (.lst [.sl [.sc]] false 1) [v7] fun v8 =>
        P1 (.app [.sl [.sc]] 24) [x6, v8] fun v9 =>
        P1 (.bin .add) [x2, .int .i64 1] fun v10 =>
        Q .normal [x0, x1, v10, x3, x4, x5, v9, x7, x8, x9, x10, x11]) (
        P1 (.bin .add) [x2, .int .i64 1] fun v11 =>
        Q .normal [x0, x1, v11, x3, x4, x5, x6, x7, x8, x9, x10, x11])) (
      P1 (.bin .add) [x2, .int .i64 1] fun v12 =>
      Q .normal [x0, x1, v12, x3, x4, x5, x6, x7, x8, x9, x10, x11])) (
    Q (.exit 2) [x0, x3, x4, x5, x6, x7, x8, x9])) := by kernel_rfl

def impl_TooClose_r2 : L := .tup [.v 0, .v 1, .v 2, .v 3, .v 4, .v 5, .v 6, .v 7]
theorem impl_TooClose_r2_sh (Q : QT) (x0 x1 x2 x3 x4 x5 x6 x7 : V) : shL impl_TooClose_r2 Q [x0, x1, x2, x3, x4, x5, x6, x7] = (
  Q .normal [x0, x1, x2, x3, x4, x5, x6, x7]) := by kernel_rfl

def impl_TooClose_r3 : L := .rg [⟨[], .bin .add, [.v 3, .k (.int .i64 1)], 1⟩]
theorem impl_TooClose_r3_sh (Q : QT) (x0 x1 x2 x3 x4 x5 x6 x7 : V) : shL impl_TooClose_r3 Q [x0, x1, x2, x3, x4, x5, x6, x7] = (
  P1 (.bin .add) [x3, .int .i64 1] fun v0 =>
  Q .normal [x0, x1, x2, x3, x4, x5, x6, x7, v0]) := by kernel_rfl

def impl_TooClose_r4 : L := .tup [.v 0, .v 1, .v 2, .v 8, .v 4, .v 5, .v 6, .v 7]
theorem impl_TooClose_r4_sh (Q : QT) (x0 x1 x2 x3 x4 x5 x6 x7 x8 : V) : shL impl_TooClose_r4 Q [x0, x1, x2, x3, x4, x5, x6, x7, x8] = (
  Q .normal [x0, x1, x2, x8, x4, x5, x6, x7]) := by kernel_rfl

def impl_TooClose_b0 : L := .seq (.seq (.rg [⟨[], .bin .lss, [.v 3, .v 2], 1⟩]) (.seq (.ite (.v 8) (.skip) (.seq (.tup [.v 4]) (.exit 0))) (.seq (.block 1 (.seq (.seq (.rg [⟨[], .idx [.sc, .sc], [.v 1, .v 3], 2⟩]) (.seq (.rg [⟨[], .bin .add, [.v 3, .k (.int .i64 1)], 1⟩]) (.block 2 (.seq (.tup [.v 0, .v 3, .v 11, .v 1, .v 2, .v 3, .v 4, .v 5, .v 6, .v 7, .v 9, .v 10]) (.loop (impl_TooClose_b1)))))) (impl_TooClose_r2))) (impl_TooClose_r3)))) (impl_TooClose_r4)
theorem impl_TooClose_b0_sh (Q : QT) (x0 x1 x2 x3 x4 x5 x6 x7 : V) : shL impl_TooClose_b0 Q [x0, x1, x2, x3, x4, x5, x6, x7] = (
  P1 (.bin .lss) [x3, x2] fun v0 =>
  ifB v0 (
    P2 (.idx [.sc, .sc]) [x1, x3] fun v1 v2 =>
    P1 (.bin .add) [x3, .int .i64 1] fun v3 =>
    shL (.loop impl_TooClose_b1) (qB 2 (qS (shL impl_TooClose_r2 (qB 1 (qS (shL impl_TooClose_r3 (qS (shL impl_TooClose_r4 Q) Q)) (qS (shL impl_TooClose_r4 Q) Q)))) (qB 1 (qS (shL impl_TooClose_r3 (qS (shL impl_TooClose_r4 Q) Q)) (qS (shL impl_TooClose_r4 Q) Q))))) [x0, x3, v3, x1, x2, x3, x4, x5, x6, x7, v1, v2]) (
    Q (.exit 0) [x4])) := by kernel_rfl

def impl_TooClose_r5 : L := .seq (.rg []) (.ret [.v 0])
theorem impl_TooClose_r5_sh (Q : QT) (x0 : V) : shL impl_TooClose_r5 Q [x0] = (
  Q .ret [x0]) := by kernel_rfl

def impl_TooClose_L : L := .seq (.rg []) (.seq (.seq (.rg [⟨[], .call F_CylinderOk 0 1, [.v 0, .v 1, .v 2], 1⟩, ⟨[], .un .not, [.v 4], 1⟩, ⟨[(.v 5, false)], .call F_within 0 1, [.v 3, .k (.int .i64 1), .k (.int .i64 96)], 1⟩, ⟨[(.v 5, false)], .un .not, [.v 6], 1⟩, ⟨[], .pick, [.v 5, .k (.bool true), .v 7], 1⟩]) (.ite (.v 8) (.seq (.rg []) (.ret [.k (.list [.sl [.sc]] [])])) (.skip))) (.seq (.rg [⟨[], .lst [.sl [.sc]] false 0, [], 1⟩]) (.seq (.seq (.rg [⟨[], .len, [.v 2], 1⟩]) (.block 0 (.seq (.tup [.v 3, .v 2, .v 10, .k (.int .i64 0), .v 9, .v 0, .v 1, .v 2]) (.loop (impl_TooClose_b0))))) (impl_TooClose_r5))))
theorem impl_TooClose_L_sh (Q : QT) (x0 x1 x2 x3 : V) : shL impl_TooClose_L Q [x0, x1, x2, x3] = (
  P1 (.call F_CylinderOk 0 1) [x0, x1, x2] fun v0 =>
  P1 (.un .not) [v0] fun v1 =>
  ifB v1 (
    Q .ret [.list [.sl [.sc]] []]) (
    P1 (.call F_within 0 1) [x3, .int .i64 1, .int .i64 96] fun v2 =>
    P1 (.un .not) [v2] fun v3 =>
    ifB v3 (
      Q .ret [.list [.sl [.sc]] []]) (
      P1 (.lst [.sl [.sc]] false 0) [] fun v4 =>
      P1 (.len) [x2] fun v5 =>
      shL (.loop impl_TooClose_b0) (qB 0 (qS (shL impl_TooClose_r5 Q) Q)) [x3, x2, v5, .int .i64 0, v4, x0, x1, x2]))) := by kernel_rfl
def impl_TooClose_S : Sig := ⟨[.val true [.sc, .sc, .sl [.sc, .sc]], .val false [.sc]], [(false, [.sl [.sl [.sc]]])], F_TooClose⟩
def impl_TooClose_hs : List NF := [⟨[(5, .sc false [.own 64])], [(64, true, [.sl [.sc]])], [], 65⟩, ⟨[(1, .sc false [.sc]), (2, .ptr 64 0), (5, .sc false [.own 65]), (20, .sc false [.ro [.sc, .sc]]), (21, .sc false [.sc]), (22, .sc false [.sc])], [(65, true, [.sl [.sc]])], [(64, [.sc, .sc, .ro [.sc, .sc]])], 66⟩, ⟨[(1, .sc false [.sc]), (2, .ptr 64 0), (5, .sc false [.own 65]), (20, .sc false [.ro [.sc, .sc]]), (21, .sc false [.sc]), (22, .sc false [.sc])], [(65, true, [.sl [.sc]])], [(64, [.sc, .sc, .ro [.sc, .sc]])], 66⟩, ⟨[(1, .sc false [.sc]), (2, .ptr 64 0), (5, .sc false [.own 65]), (20, .sc false [.ro [.sc, .sc]]), (21, .sc false [.sc]), (22, .sc false [.sc])], [(65, true, [.sl [.sc]])], [(64, [.sc, .sc, .ro [.sc, .sc]])], 66⟩, ⟨[(1, .sc false [.sc]), (2, .ptr 64 0), (5, .sc false [.own 65]), (6, .sc false [.sc]), (7, .ptr 66 0), (8, .sc false [.sc]), (20, .sc false [.ro [.sc, .sc]]), (21, .sc false [.sc]), (22, .sc false [.sc])], [(65, true, [.sl [.sc]])], [(64, [.sc, .sc, .ro [.sc, .sc]]), (66, [.sc, .sc])], 67⟩, ⟨[(1, .sc false [.sc]), (2, .ptr 64 0), (5, .sc false [.own 65]), (6, .sc false [.sc]), (7, .ptr 66 0), (8, .sc false [.sc]), (20, .sc false [.ro [.sc, .sc]]), (21, .sc false [.sc]), (22, .sc false [.sc])], [(65, true, [.sl [.sc]])], [(64, [.sc, .sc, .ro [.sc, .sc]]), (66, [.sc, .sc])], 67⟩, ⟨[(1, .sc false [.sc]), (2, .ptr 64 0), (5, .sc false [.own 65]), (6, .sc false [.sc]), (7, .ptr 66 0), (8, .sc false [.sc]), (20, .sc false [.ro [.sc, .sc]]), (21, .sc false [.sc]), (22, .sc false [.sc])], [(65, true, [.sl [.sc]])], [(64, [.sc, .sc, .ro [.sc, .sc]]), (66, [.sc, .sc])], 67⟩]

def impl_IsPlayable_L : L := .seq (.rg []) (.seq (.rg [⟨[], .call F_CylinderOk 0 1, [.v 0, .v 1, .v 2], 1⟩, ⟨[(.v 4, true)], .call F_within 0 1, [.v 3, .k (.int .i64 1), .k (.int .i64 96)], 1⟩, ⟨[], .pick, [.v 4, .v 5, .k (.bool false)], 1⟩, ⟨[(.v 6, true)], .call F_TooClose 0 1, [.v 0, .v 1, .v 2, .v 3], 1⟩, ⟨[(.v 6, true)], .len, [.v 7], 1⟩, ⟨[(.v 6, true)], .bin .eql, [.v 8, .k (.int .i64 0)], 1⟩, ⟨[], .pick, [.v 6, .v 9, .k (.bool false)], 1⟩]) (.ret [.v 10]))
theorem impl_IsPlayable_L_sh (Q : QT) (x0 x1 x2 x3 : V) : shL impl_IsPlayable_L Q [x0, x1, x2, x3] = (
  P1 (.call F_CylinderOk 0 1) [x0, x1, x2] fun v0 =>
  ifB v0 (
    P1 (.call F_within 0 1) [x3, .int .i64 1, .int .i64 96] fun v1 =>
    ifB v1 (
      P1 (.call F_TooClose 0 1) [x0, x1, x2, x3] fun v2 =>
      P1 (.len) [v2] fun v3 =>
      P1 (.bin .eql) [v3, .int .i64 0] fun v4 =>
      Q .ret [v4]) (
      Q .ret [.bool false])) (
    Q .ret [.bool false])) := by kernel_rfl
def impl_IsPlayable_S : Sig := ⟨[.val true [.sc, .sc, .sl [.sc, .sc]], .val false [.sc]], [(false, [.sc])], F_IsPlayable⟩
def impl_IsPlayable_hs : List NF := []

def impl_PlayOnce_r0 : L := .seq (.rg [⟨[], .bin .sub, [.v 15, .k (.int .i64 1)], 1⟩]) (.seq (.rg [⟨[], .len, [.v 2], 1⟩, ⟨[], .bin .add, [.v 19, .v 28], 1⟩]) (.seq (.seq (.rg [⟨[], .call F_WorkshopOk 0 1, [.v 10, .v 11, .v 12, .v 13, .v 14, .v 27, .v 16, .v 17, .v 18, .v 29], 1⟩, ⟨[], .un .not, [.v 30], 1⟩]) (.ite (.v 31) (.seq (.rg [⟨[], .call F_copyWorkshop 0 10, [.v 0, .v 1, .v 2, .v 3, .v 4, .v 5, .v 6, .v 7, .v 8, .v 9], 10⟩]) (.ret [.v 32, .v 33, .v 34, .v 35, .v 36, .v 37, .v 38, .v 39, .v 40, .v 41, .k (.bool false)])) (.skip))) (.seq (.rg []) (.ret [.v 10, .v 11, .v 12, .v 13, .v 14, .v 27, .v 16, .v 17, .v 18, .v 29, .k (.bool true)]))))
theorem impl_PlayOnce_r0_sh (Q : QT) (x0 x1 x2 x3 x4 x5 x6 x7 x8 x9 x10 x11 x12 x13 x14 x15 x16 x17 x18 x19 x20 x21 x22 x23 x24 x25 x26 : V) : shL impl_PlayOnce_r0 Q [x0, x1, x2, x3, x4, x5, x6, x7, x8, x9, x10, x11, x12, x13, x14, x15, x16, x17, x18, x19, x20, x21, x22, x23, x24, x25, x26] = (
  P1 (.bin .sub) [x15, .int .i64 1] fun v0 =>
  P1 (.len) [x2] fun v1 =>
  P1 (.bin .add) [x19, v1] fun v2 =>
  P1 (.call F_WorkshopOk 0 1) [x10, x11, x12, x13, x14, v0, x16, x17, x18, v2] fun v3 =>
  P1 (.un .not) [v3] fun v4 =>
  ifB v4 (
    P10 (.call F_copyWorkshop 0 10) [x0, x1, x2, x3, x4, x5, x6, x7, x8, x9] fun v5 v6 v7 v8 v9 v10 v11 v12 v13 v14 =>
    Q .ret [v5, v6, v7, v8, v9, v10, v11, v12, v13, v14, .bool false]) (
    Q .ret [x10, x11, x12, x13, x14, v0, x16, x17, x18, v2, .bool true])) := by kernel_rfl

def impl_PlayOnce_L : L := .seq (.rg []) (.seq (.rg [⟨[], .call F_copyWorkshop 0 10, [.v 0, .v 1, .v 2, .v 3, .v 4, .v 5, .v 6, .v 7, .v 8, .v 9], 10⟩]) (.seq (.seq (.rg [⟨[], .call F_WorkshopOk 0 1, [.v 0, .v 1, .v 2, .v 3, .v 4, .v 5, .v 6, .v 7, .v 8, .v 9], 1⟩, ⟨[], .un .not, [.v 20], 1⟩, ⟨[(.v 21, false)], .bin .eql, [.v 5, .k (.int .i64 0)], 1⟩, ⟨[], .pick, [.v 21, .k (.bool true), .v 22], 1⟩, ⟨[(.v 23, false)], .call F_IsPlayable 0 1, [.v 0, .v 1, .v 2, .k (.int .i64 2)], 1⟩, ⟨[(.v 23, false)], .un .not, [.v 24], 1⟩, ⟨[], .pick, [.v 23, .k (.bool true), .v 25], 1⟩]) (.ite (.v 26) (.seq (.rg []) (.ret [.v 10, .v 11, .v 12, .v 13, .v 14, .v 15, .v 16, .v 17, .v 18, .v 19, .k (.bool false)])) (.skip))) (impl_PlayOnce_r0)))
theorem impl_PlayOnce_L_sh (Q : QT) (x0 x1 x2 x3 x4 x5 x6 x7 x8 x9 : V) : shL impl_PlayOnce_L Q [x0, x1, x2, x3, x4, x5, x6, x7, x8, x9] = (
  P10 (.call F_copyWorkshop 0 10) [x0, x1, x2, x3, x4, x5, x6, x7, x8, x9] fun v0 v1 v2 v3 v4 v5 v6 v7 v8 v9 =>
  P1 (.call F_WorkshopOk 0 1) [x0, x1, x2, x3, x4, x5, x6, x7, x8, x9] fun v10 =>
  P1 (.un .not) [v10] fun v11 =>
  ifB v11 (
    Q .ret [v0, v1, v2, v3, v4, v5, v6, v7, v8, v9, .bool false]) (
    P1 (.bin .eql) [x5, .int .i64 0] fun v12 =>
    ifB v12 (
      Q .ret [v0, v1, v2, v3, v4, v5, v6, v7, v8, v9, .bool false]) (
      P1 (.call F_IsPlayable 0 1) [x0, x1, x2, .int .i64 2] fun v13 =>
      P1 (.un .not) [v13] fun v14 =>
      ifB v14 (
        Q .ret [v0, v1, v2, v3, v4, v5, v6, v7, v8, v9, .bool false]) (
        shL impl_PlayOnce_r0 Q [x0, x1, x2, x3, x4, x5, x6, x7, x8, x9, v0, v1, v2, v3, v4, v5, v6, v7, v8, v9, v10, .bool false, v12, .bool false, v13, v14, .bool false])))) := by kernel_rfl
def impl_PlayOnce_S : Sig := ⟨[.val true [.sc, .sc, .sl [.sc, .sc], .sl [.sl [.sc, .sc]], .sl [.sc], .sc, .sc, .sc, .sc, .sc]], [(true, [.sc, .sc, .sl [.sc, .sc], .sl [.sl [.sc, .sc]], .sl [.sc], .sc, .sc, .sc, .sc, .sc]), (false, [.sc])], F_PlayOnce⟩
def impl_PlayOnce_hs : List NF := []

end
end Go.Mw

/- Crank, RemovePin, the gap. -/
namespace Go.Mw
theorem shopOk_iff (w : Shop) : shopOk w = true ↔ benchOk w.bench = true ∧ combOk w.c = true ∧ springOk w.spring = true ∧ w.t = w.c.length ∧ within w.y 0 1000000 = true ∧ within w.d 0 1000000 = true := by
  simp [shopOk, Shop.spring]
theorem combOk_len {l : List Int} (h : combOk l = true) : l.length ≤ 24 := by
  simp [combOk, within] at h; omega
/-- A workshop whose memory is within bounds. -/
def sFit (w : Shop) : Prop := w.p.length ≤ 1048576 ∧ fitLL w.o ∧ w.c.length ≤ 1048576
def sSmall (w : Shop) : Prop := sFit w ∧ 1 + 2 * (w.p.length : Int) + 2 * sum2 w.o ≤ 1099511627776
theorem sSmall_of_ok {w : Shop} (h : shopOk w = true) : sSmall w := by
  have h := (shopOk_iff w).1 h
  have h1 := bSmall_of_ok h.1
  have h2 := combOk_len h.2.1
  exact ⟨⟨h1.1, h1.2.1, by omega⟩, h1.2.2⟩

theorem spec_l38Copy_ok : ∀ ds outs, F_l38Copy ds = some outs → shL spec_l38Copy_L (qRet outs) ds := F_l38Copy_elim fun x hp => by
  rw [spec_l38Copy_L_sh, p_l37Copy (x_p := x.p) (x_o := x.o) ⟨hp.1, hp.2.1⟩]
  simp
  omega
theorem impl_copyWorkshop_ok : ∀ ds outs, F_copyWorkshop ds = some outs → shL impl_copyWorkshop_L (qRet outs) ds := F_copyWorkshop_elim fun x hp => by
  rw [impl_copyWorkshop_L_sh, p_copyBench (x_p := x.p) (x_o := x.o) ⟨hp.1, hp.2.1⟩]
  simp only [p_copyInts (l := x.c) (by omega)]
  simp
theorem spec_Wind_ok : ∀ ds outs, F_Wind ds = some outs → shL spec_Wind_L (qRet outs) ds := F_Wind_elim fun x n => by
  rw [spec_Wind_L_sh]
  cases h : springOk x with
  | false => simp [h, windTo, windBy, windOk]
  | true =>
    have hb : 1 ≤ x.b ∧ x.b ≤ 50 ∧ 0 ≤ x.a ∧ x.a ≤ x.b := by simp [springOk, within] at h; omega
    cases h2 : within n 0 100 with
    | false => simp [h, h2, windTo, windBy, windOk]
    | true =>
      have hw : IntKind.i64.wrap (x.b - x.a) = x.b - x.a := wrap_id (by omega) (by omega)
      have hn : 0 ≤ n ∧ n ≤ 100 := by simpa [within] using h2
      have hw2 : IntKind.i64.wrap (x.a + min n (x.b - x.a)) = x.a + min n (x.b - x.a) := wrap_id (by omega) (by omega)
      simp [h, h2, windTo, windBy, windOk, hw, hw2]
theorem impl_Wind_ok : ∀ ds outs, F_Wind ds = some outs → shL impl_Wind_L (qRet outs) ds := F_Wind_elim fun x n => by
  rw [impl_Wind_L_sh]
  cases h : springOk x with
  | false => simp [h, windTo, windBy, windOk]
  | true =>
    have hb : 1 ≤ x.b ∧ x.b ≤ 50 ∧ 0 ≤ x.a ∧ x.a ≤ x.b := by simp [springOk, within] at h; omega
    cases h2 : within n 0 100 with
    | false => simp [h, h2, windTo, windBy, windOk]
    | true =>
      have hw : IntKind.i64.wrap (x.b - x.a) = x.b - x.a := wrap_id (by omega) (by omega)
      have hn : 0 ≤ n ∧ n ≤ 100 := by simpa [within] using h2
      have hw2 : IntKind.i64.wrap (x.a + min n (x.b - x.a)) = x.a + min n (x.b - x.a) := wrap_id (by omega) (by omega)
      simp [h, h2, windTo, windBy, windOk, hw, hw2]
theorem spec_Crank_ok : ∀ ds outs, F_Crank ds = some outs → shL spec_Crank_L (qRet outs) ds := F_Crank_elim fun x n hp => by
  rw [spec_Crank_L_sh, p_l38Copy (x_p := x.p) (x_o := x.o) (x_c := x.c) hp]
  simp only [p_WorkshopOk (x_p := x.p) (x_o := x.o) (x_c := x.c) hp]
  cases h : shopOk x <;> simp [h, crank, Shop.spring]
theorem windBy_neg {x : T3} {n : Int} (h : windBy x n < 0) : windTo x n = x ∧ windBy x n = -1 := by
  unfold windBy windTo at *
  cases hw : windOk x n with
  | false => simp
  | true =>
    exfalso
    rw [hw] at h
    simp only [windOk, springOk, within, Bool.and_eq_true, decide_eq_true_eq] at hw
    simp at h
    omega
theorem impl_Crank_ok : ∀ ds outs, F_Crank ds = some outs → shL impl_Crank_L (qRet outs) ds := F_Crank_elim fun x n hp => by
  rw [impl_Crank_L_sh, p_copyWorkshop (x_p := x.p) (x_o := x.o) (x_c := x.c) hp]
  simp only [p_Wind, p_WorkshopOk (x_p := x.p) (x_o := x.o) (x_c := x.c) hp]
  cases h : shopOk x with
  | false => simp [h, crank]
  | true =>
    simp [h, crank, Shop.spring]
    intro hn
    have := windBy_neg hn
    simp [this.1, this.2]

theorem impl_withBench_ok : ∀ ds outs, F_withBench ds = some outs → shL impl_withBench_L (qRet outs) ds := F_withBench_elim fun x y k n hp => by
  have h1 : x.p.length ≤ 1048576 ∧ fitLL x.o ∧ x.c.length ≤ 1048576 := ⟨hp.1, hp.2.1, hp.2.2.1⟩
  have h2 : y.p.length ≤ 1048576 ∧ fitLL y.o ∧ x.c.length ≤ 1048576 := ⟨hp.2.2.2.1, hp.2.2.2.2.1, hp.2.2.1⟩
  rw [impl_withBench_L_sh]
  simp only [p_copyWorkshop (x_p := x.p) (x_o := x.o) (x_c := x.c) h1, P1_sub, P1_not, p_WorkshopOk (x_p := x.p) (x_o := x.o) (x_c := x.c) h1, p_WorkshopOk (x_p := y.p) (x_o := y.o) (x_c := x.c) h2]
  cases n with
  | false => simp [withBench, benchFits]
  | true =>
    cases h : shopOk x with
    | false => simp [h, withBench, benchFits]
    | true =>
      have hy := ((shopOk_iff x).1 h).2.2.2.2.1
      have hy : 0 ≤ x.y ∧ x.y ≤ 1000000 := by simpa [within] using hy
      have hw : IntKind.i64.wrap (x.y - k) = x.y - k := wrap_id (by omega) (by omega)
      have e : (⟨y.s, y.t, y.p, y.o, x.c, x.u, x.m, x.f, x.y - k, x.d⟩ : Shop) = withB x y k := rfl
      rw [hw, e]
      cases h3 : shopOk (withB x y k) <;> simp [h, h3, withBench, benchFits]
      simp [withB]
theorem takePin_small {b : Bench} {k : Int} (h : bSmall b) : bSmall (takePin b k) := stepTo_small h
end Go.Mw

/- RemovePin; the law. -/
namespace Go.Mw
theorem takePin_no {b : Bench} {k : Int} (h : canTake b k = false) : takePin b k = b := by
  unfold canTake at h; unfold takePin stepTo; rw [h]; simp
theorem spec_RemovePin_ok : ∀ ds outs, F_RemovePin ds = some outs → shL spec_RemovePin_L (qRet outs) ds := F_RemovePin_elim fun x k hp => by
  have hb : x.p.length ≤ 1048576 ∧ fitLL x.o := ⟨hp.1, hp.2.1⟩
  rw [spec_RemovePin_L_sh, p_l38Copy (x_p := x.p) (x_o := x.o) (x_c := x.c) hp]
  simp only [p_l38Copy (x_p := x.p) (x_o := x.o) (x_c := x.c) hp, p_TakePin (x_p := x.p) (x_o := x.o) hb, p_WorkshopOk (x_p := x.p) (x_o := x.o) (x_c := x.c) hp]
  have e0 : (⟨x.s, x.t, x.p, x.o⟩ : Bench) = x.bench := rfl
  have e1 : (pullOk x.bench.cyl k && stepOk x.bench (pulled x.bench k)) = canTake x.bench k := rfl
  simp only [e0, e1]
  cases h : shopOk x with
  | false => simp [h, withBench, benchFits]
  | true =>
    cases h2 : canTake x.bench k with
    | false => simp [h, withBench, benchFits]
    | true =>
      have hs := takePin_small (k := k) (bSmall_of_ok ((shopOk_iff x).1 h).1)
      have hf : (takePin x.bench k).p.length ≤ 1048576 ∧ fitLL (takePin x.bench k).o ∧ x.c.length ≤ 1048576 := ⟨hs.1, hs.2.1, hp.2.2⟩
      have e : (⟨(takePin x.bench k).s, (takePin x.bench k).t, (takePin x.bench k).p, (takePin x.bench k).o, x.c, x.u, x.m, x.f, x.y, x.d⟩ : Shop) = withB x (takePin x.bench k) 0 := by simp [withB]
      simp only [p_WorkshopOk (x_p := (takePin x.bench k).p) (x_o := (takePin x.bench k).o) (x_c := x.c) hf, e]
      cases h3 : shopOk (withB x (takePin x.bench k) 0) <;> simp [h, h3, withBench, benchFits]
      simp [withB]
theorem impl_RemovePin_ok : ∀ ds outs, F_RemovePin ds = some outs → shL impl_RemovePin_L (qRet outs) ds := F_RemovePin_elim fun x k hp => by
  have hb : x.p.length ≤ 1048576 ∧ fitLL x.o := ⟨hp.1, hp.2.1⟩
  rw [impl_RemovePin_L_sh, p_TakePin (x_p := x.p) (x_o := x.o) hb]
  have e0 : (⟨x.s, x.t, x.p, x.o⟩ : Bench) = x.bench := rfl
  have e1 : (pullOk x.bench.cyl k && stepOk x.bench (pulled x.bench k)) = canTake x.bench k := rfl
  simp only [e0, e1]
  have hf : (takePin x.bench k).p.length ≤ 1048576 ∧ fitLL (takePin x.bench k).o := by
    cases h2 : canTake x.bench k with
    | false => rw [takePin_no h2]; exact hb
    | true =>
      have : stepOk x.bench (pulled x.bench k) = true := by simp [canTake] at h2; exact h2.2
      have hs : benchOk x.bench = true := by simp [stepOk] at this; exact this.1
      have := takePin_small (k := k) (bSmall_of_ok hs)
      exact ⟨this.1, this.2.1⟩
  generalize takePin x.bench k = B at *
  rw [p_withBench (x_p := x.p) (x_o := x.o) (x_c := x.c) (y_p := B.p) (y_o := B.o) ⟨hp.1, hp.2.1, hp.2.2, hf.1, hf.2, by omega, by omega⟩]
  simp
theorem withBench_small {x : Shop} {b : Bench} {k : Int} {ok : Bool} (h : sSmall x) : sSmall (withBench x b k ok) := by
  unfold withBench
  cases h2 : benchFits x b k ok with
  | false => simpa using h
  | true => simp [benchFits] at h2; simpa using sSmall_of_ok h2.2.2
theorem crank_small {x : Shop} {n : Int} (h : sSmall x) : sSmall (crank x n) := by
  unfold crank
  split
  · exact h
  · exact h
end Go.Mw

/- The gap; pins that stand too close. -/
namespace Go.Mw
theorem within_iff {a b c : Int} : within a b c = true ↔ b ≤ a ∧ a ≤ c := by simp [within]
theorem spec_GapAround_ok : ∀ ds outs, F_GapAround ds = some outs → shL spec_GapAround_L (qRet outs) ds := F_GapAround_elim fun a b n => by
  rw [spec_GapAround_L_sh]
  cases h : within n 1 1000 with
  | false => simp [h, gap]
  | true =>
    have hn := within_iff.1 h
    have hw : IntKind.i64.wrap (n - 1) = n - 1 := wrap_id (by omega) (by omega)
    cases h2 : within a 0 (n - 1) with
    | false => simp [h, hw, h2, gap]
    | true =>
      cases h3 : within b 0 (n - 1) with
      | false => simp [h, hw, h2, h3, gap]
      | true =>
        have ha := within_iff.1 h2
        have hb := within_iff.1 h3
        have w1 : IntKind.i64.wrap (a - b) = a - b := wrap_id (by omega) (by omega)
        have w2 : IntKind.i64.wrap (b - a) = b - a := wrap_id (by omega) (by omega)
        have w3 : IntKind.i64.wrap (n - max (a - b) (b - a)) = n - max (a - b) (b - a) := wrap_id (by omega) (by omega)
        simp [h, hw, h2, h3, gap, w1, w2, w3]
theorem impl_GapAround_ok : ∀ ds outs, F_GapAround ds = some outs → shL impl_GapAround_L (qRet outs) ds := F_GapAround_elim fun a b n => by
  rw [impl_GapAround_L_sh]
  cases h : within n 1 1000 with
  | false => simp [h, gap]
  | true =>
    have hn := within_iff.1 h
    have hw : IntKind.i64.wrap (n - 1) = n - 1 := wrap_id (by omega) (by omega)
    cases h2 : within a 0 (n - 1) with
    | false => simp [h, hw, h2, gap]
    | true =>
      cases h3 : within b 0 (n - 1) with
      | false => simp [h, hw, h2, h3, gap]
      | true =>
        have ha := within_iff.1 h2
        have hb := within_iff.1 h3
        have w1 : IntKind.i64.wrap (a - b) = a - b := wrap_id (by omega) (by omega)
        have w3 : IntKind.i64.wrap (n - max (a - b) (b - a)) = n - max (a - b) (b - a) := wrap_id (by omega) (by omega)
        have e : mag (a - b) = max (a - b) (b - a) := by unfold mag; split <;> omega
        have hm : -9223372036854775807 ≤ a - b ∧ a - b ≤ 9223372036854775807 := by omega
        simp [h, hw, h2, h3, gap, w1, p_magnitude hm, e, w3]

theorem closeRow_len (c : Cyl) (r : Int) (i k : Nat) : (closeRow c r i k).length ≤ k := by
  induction k with
  | zero => simp [closeRow]
  | succ k ih => simp only [closeRow, List.length_append]; split <;> simp <;> omega
theorem closeTo_len (c : Cyl) (r : Int) (k : Nat) : (closeTo c r k).length ≤ k * c.p.length := by
  induction k with
  | zero => simp [closeTo]
  | succ k ih =>
    have := closeRow_len c r k c.p.length
    simp only [closeTo, List.length_append, Nat.add_mul]; omega
theorem closeRow_none (c : Cyl) (r : Int) (i k : Nat) (h : k ≤ i + 1) : closeRow c r i k = [] := by
  induction k with
  | zero => rfl
  | succ k ih => simp only [closeRow, ih (by omega)]; rw [if_neg (by omega)]; rfl
theorem closeRow_len2 (c : Cyl) (r : Int) (i k : Nat) : (closeTo c r i ++ closeRow c r i k).length ≤ i * c.p.length + k := by
  have h1 := closeTo_len c r i
  have h2 := closeRow_len c r i k
  simp only [List.length_append]; omega

theorem closeAt_eq {c : Cyl} {r : Int} {i j : Nat} (hi : i < c.p.length) (hj : j < c.p.length) : closeAt c r i j = decide (c.p[i].a = c.p[j].a ∧ gap c.p[i].b c.p[j].b c.s < r) := by
  simp [closeAt, List.getElem?_eq_getElem hi, List.getElem?_eq_getElem hj]
theorem spec_TooClose_ok : ∀ ds outs, F_TooClose ds = some outs → shL spec_TooClose_L (qRet outs) ds := F_TooClose_elim fun x r hp => by
  rw [spec_TooClose_L_sh]
  simp only [p_CylinderOk (x_p := x.p) hp]
  have hc : cylOk ⟨x.s, x.t, x.p⟩ = cylOk x := rfl
  simp only [hc]
  cases h : cylOk x with
  | false => simp [h, tooClose]; rfl
  | true =>
    cases h2 : within r 1 96 with
    | false => simp [h, h2, tooClose]; rfl
    | true =>
      have hb := cylOk_bounds h
      have hl := hb.2.2
      simp [h, h2]
      refine loop_upto x.p.length (fun i => [.int .i64 r, .int .i64 i, vL IL1 vLL1 (closeTo x r i), .int .i64 x.s, .int .i64 x.t, vL I2 v2 x.p]) (by intro i j _ _ h; simp at h; omega) (fun _ => True) (by simp [closeTo]; rfl) trivial ?_
      intro i hi _
      rw [spec_TooClose_b0_sh]
      simp
      refine ⟨fun hi2 => ?_, fun hi2 => ?_⟩
      · have hw : IntKind.i64.wrap ((i : Int) + 1) = i + 1 := wrap_id (by omega) (by omega)
        rw [hw]
        refine loop_upto (x.p.length - (i + 1)) (fun j => [.int .i64 r, .int .i64 i, .int .i64 ((i + 1 + j : Nat) : Int), vL IL1 vLL1 (closeTo x r i ++ closeRow x r i (i + 1 + j)), .int .i64 x.s, .int .i64 x.t, vL I2 v2 x.p]) (by intro a b _ _ h; simp at h; omega) (fun _ => True) (by simp [closeRow_none]) trivial ?_
        intro j hj _
        rw [spec_TooClose_b1_sh]
        generalize hm : i + 1 + j = m at *
        simp only [P1_len, P1_lss, ifB_bool, decide_eq_true_eq, decide_eq_false_iff_not]
        refine ⟨fun h3 => ?_, fun h3 => ?_⟩
        · have h4 : m < x.p.length := by omega
          have hw2 : IntKind.i64.wrap ((m : Int) + 1) = m + 1 := wrap_id (by omega) (by omega)
          have e2 : i + 1 + (j + 1) = m + 1 := by omega
          have hx := closeRow_len2 x r i m
          have hx2 : i * x.p.length + m ≤ 100 * 100 + 100 := by
            have := Nat.mul_le_mul (show i ≤ 100 by omega) hl
            omega
          have him : i < m := by omega
          have hj2 : j < x.p.length - (i + 1) := by omega
          have hrow : closeRow x r i (m + 1) = closeRow x r i m ++ (if x.p[i].a = x.p[m].a ∧ gap x.p[i].b x.p[m].b x.s < r then [[(i : Int), (m : Int)]] else []) := by
            simp [closeRow, him, closeAt_eq hi2 h4]
          have hx3 : (closeTo x r i).length + (closeRow x r i m).length ≤ 10100 := by
            simp only [List.length_append] at hx; omega
          simp only [e2, hrow]
          generalize closeRow x r i m = R at *
          clear hrow
          simp [hi2, h4, hw2, hj2]
          refine ⟨fun h5 => ⟨fun h6 => ?_, fun h6 => ?_⟩, fun h5 => ?_⟩
          · simp [h5, h6]; omega
          · exact fun _ => h6
          · exact fun h8 => absurd h8 h5
        · obtain rfl : m = x.p.length := by omega
          simp [spec_TooClose_r2_sh, spec_TooClose_r3_sh, spec_TooClose_r4_sh, hw, closeTo, hi2]
      · obtain rfl : i = x.p.length := by omega
        simp [spec_TooClose_r5_sh, tooClose, h, h2]
theorem impl_TooClose_ok : ∀ ds outs, F_TooClose ds = some outs → shL impl_TooClose_L (qRet outs) ds := F_TooClose_elim fun x r hp => by
  rw [impl_TooClose_L_sh]
  simp only [p_CylinderOk (x_p := x.p) hp]
  have hc : cylOk ⟨x.s, x.t, x.p⟩ = cylOk x := rfl
  simp only [hc]
  cases h : cylOk x with
  | false => simp [h, tooClose]; rfl
  | true =>
    cases h2 : within r 1 96 with
    | false => simp [h, h2, tooClose]; rfl
    | true =>
      have hb := cylOk_bounds h
      have hl := hb.2.2
      simp [h, h2]
      refine loop_upto x.p.length (fun i => [.int .i64 r, vL I2 v2 x.p, .int .i64 x.p.length, .int .i64 i, vL IL1 vLL1 (closeTo x r i), .int .i64 x.s, .int .i64 x.t, vL I2 v2 x.p]) (by intro i j _ _ h; simp at h; omega) (fun _ => True) (by simp [closeTo]; rfl) trivial ?_
      intro i hi _
      rw [impl_TooClose_b0_sh]
      simp
      refine ⟨fun hi2 => ?_, fun hi2 => ?_⟩
      · have hw : IntKind.i64.wrap ((i : Int) + 1) = i + 1 := wrap_id (by omega) (by omega)
        simp only [List.getElem?_eq_getElem hi2, Option.some.injEq, exists_eq_left', hw]
        refine loop_upto (x.p.length - (i + 1)) (fun j => [.int .i64 r, .int .i64 i, .int .i64 ((i + 1 + j : Nat) : Int), vL I2 v2 x.p, .int .i64 x.p.length, .int .i64 i, vL IL1 vLL1 (closeTo x r i ++ closeRow x r i (i + 1 + j)), .int .i64 x.s, .int .i64 x.t, vL I2 v2 x.p, .int .i64 x.p[i].a, .int .i64 x.p[i].b]) (by intro a b _ _ h; simp at h; omega) (fun _ => True) (by simp [closeRow_none]) trivial ?_
        intro j hj _
        rw [impl_TooClose_b1_sh]
        generalize hm : i + 1 + j = m at *
        simp only [P1_len, P1_lss, ifB_bool, decide_eq_true_eq, decide_eq_false_iff_not]
        refine ⟨fun h3 => ?_, fun h3 => ?_⟩
        · have h4 : m < x.p.length := by omega
          have hw2 : IntKind.i64.wrap ((m : Int) + 1) = m + 1 := wrap_id (by omega) (by omega)
          have e2 : i + 1 + (j + 1) = m + 1 := by omega
          have hx := closeRow_len2 x r i m
          have hx2 : i * x.p.length + m ≤ 100 * 100 + 100 := by
            have := Nat.mul_le_mul (show i ≤ 100 by omega) hl
            omega
          have him : i < m := by omega
          have hj2 : j < x.p.length - (i + 1) := by omega
          have hrow : closeRow x r i (m + 1) = closeRow x r i m ++ (if x.p[i].a = x.p[m].a ∧ gap x.p[i].b x.p[m].b x.s < r then [[(i : Int), (m : Int)]] else []) := by
            simp [closeRow, him, closeAt_eq hi2 h4]
          have hx3 : (closeTo x r i).length + (closeRow x r i m).length ≤ 10100 := by
            simp only [List.length_append] at hx; omega
          simp only [e2, hrow]
          generalize closeRow x r i m = R at *
          clear hrow
          simp [h4, hw2, hj2]
          refine ⟨fun h5 => ⟨fun h6 => ?_, fun h6 => ?_⟩, fun h5 => ?_⟩
          · simp [h5, h6]; omega
          · exact fun _ => h6
          · exact fun h8 => absurd h8 h5
        · obtain rfl : m = x.p.length := by omega
          simp [impl_TooClose_r2_sh, impl_TooClose_r3_sh, impl_TooClose_r4_sh, hw, closeTo, hi2]
      · obtain rfl : i = x.p.length := by omega
        simp [impl_TooClose_r5_sh, tooClose, h, h2]

theorem spec_IsPlayable_ok : ∀ ds outs, F_IsPlayable ds = some outs → shL spec_IsPlayable_L (qRet outs) ds := F_IsPlayable_elim fun x r hp => by
  rw [spec_IsPlayable_L_sh]
  simp only [p_CylinderOk (x_p := x.p) hp, p_TooClose (x_p := x.p) hp]
  have hc : cylOk ⟨x.s, x.t, x.p⟩ = cylOk x := rfl
  simp only [hc, playable]
  have e : ((tooClose x r).length : Int) = 0 ↔ tooClose x r = [] := by rw [← List.length_eq_zero_iff]; omega
  have e2 : (((tooClose x r).length : Int) == 0) = decide (tooClose x r = []) := by rw [← decide_eq_decide.2 e]; rfl
  cases h : cylOk x <;> cases h2 : within r 1 96 <;> simp [h2, e2]
theorem impl_IsPlayable_ok : ∀ ds outs, F_IsPlayable ds = some outs → shL impl_IsPlayable_L (qRet outs) ds := F_IsPlayable_elim fun x r hp => by
  rw [impl_IsPlayable_L_sh]
  simp only [p_CylinderOk (x_p := x.p) hp, p_TooClose (x_p := x.p) hp]
  have hc : cylOk ⟨x.s, x.t, x.p⟩ = cylOk x := rfl
  simp only [hc, playable]
  have e : ((tooClose x r).length : Int) = 0 ↔ tooClose x r = [] := by rw [← List.length_eq_zero_iff]; omega
  have e2 : (((tooClose x r).length : Int) == 0) = decide (tooClose x r = []) := by rw [← decide_eq_decide.2 e]; rfl
  cases h : cylOk x <;> cases h2 : within r 1 96 <;> simp [h2, e2]
theorem spec_PlayOnce_ok : ∀ ds outs, F_PlayOnce ds = some outs → shL spec_PlayOnce_L (qRet outs) ds := F_PlayOnce_elim fun x hp => by
  rw [spec_PlayOnce_L_sh]
  simp only [p_l38Copy (x_p := x.p) (x_o := x.o) (x_c := x.c) hp, p_WorkshopOk (x_p := x.p) (x_o := x.o) (x_c := x.c) hp, p_IsPlayable (x_p := x.p) hp.1, spec_PlayOnce_r0_sh]
  cases h : shopOk x with
  | false => simp [h, playOnce, canPlay]
  | true =>
    have hs := (shopOk_iff x).1 h
    have hu : 0 ≤ x.u ∧ x.u ≤ 50 := by have h9 := hs.2.2.1; simp only [Shop.spring, springOk, Bool.and_eq_true, within_iff] at h9; omega
    have hd := within_iff.1 hs.2.2.2.2.2
    by_cases h2 : x.u = 0
    · simp [h, h2, playOnce, canPlay]
    · cases h3 : playable ⟨x.s, x.t, x.p⟩ 2 with
      | false => simp [h, h2, h3, playOnce, canPlay]
      | true =>
        have hw : IntKind.i64.wrap (x.u - 1) = x.u - 1 := wrap_id (by omega) (by omega)
        have hw2 : IntKind.i64.wrap (x.d + x.p.length) = x.d + x.p.length := wrap_id (by omega) (by omega)
        have e : (⟨x.s, x.t, x.p, x.o, x.c, x.u - 1, x.m, x.f, x.y, x.d + x.p.length⟩ : Shop) = played x := rfl
        have hq := fun (nr_ : Nat) (kk_ : V → Prop) => p_WorkshopOk (x_s := x.s) (x_t := x.t) (x_p := x.p) (x_o := x.o) (x_c := x.c) (x_u := x.u - 1) (x_m := x.m) (x_f := x.f) (x_y := x.y) (x_d := x.d + x.p.length) (nr_ := nr_) (kk_ := kk_) hp
        rw [e] at hq
        simp only [P1_sub, P1_add, P1_len, hw, hw2, hq]
        cases h4 : shopOk (played x) <;> simp [h, h2, h3, h4, playOnce, canPlay]
        simp [played]
theorem impl_PlayOnce_ok : ∀ ds outs, F_PlayOnce ds = some outs → shL impl_PlayOnce_L (qRet outs) ds := F_PlayOnce_elim fun x hp => by
  rw [impl_PlayOnce_L_sh]
  simp only [p_copyWorkshop (x_p := x.p) (x_o := x.o) (x_c := x.c) hp, p_WorkshopOk (x_p := x.p) (x_o := x.o) (x_c := x.c) hp, p_IsPlayable (x_p := x.p) hp.1, impl_PlayOnce_r0_sh]
  cases h : shopOk x with
  | false => simp [h, playOnce, canPlay]
  | true =>
    have hs := (shopOk_iff x).1 h
    have hu : 0 ≤ x.u ∧ x.u ≤ 50 := by have h9 := hs.2.2.1; simp only [Shop.spring, springOk, Bool.and_eq_true, within_iff] at h9; omega
    have hd := within_iff.1 hs.2.2.2.2.2
    by_cases h2 : x.u = 0
    · simp [h, h2, playOnce, canPlay]
    · cases h3 : playable ⟨x.s, x.t, x.p⟩ 2 with
      | false => simp [h, h2, h3, playOnce, canPlay]
      | true =>
        have hw : IntKind.i64.wrap (x.u - 1) = x.u - 1 := wrap_id (by omega) (by omega)
        have hw2 : IntKind.i64.wrap (x.d + x.p.length) = x.d + x.p.length := wrap_id (by omega) (by omega)
        have e : (⟨x.s, x.t, x.p, x.o, x.c, x.u - 1, x.m, x.f, x.y, x.d + x.p.length⟩ : Shop) = played x := rfl
        have hq := fun (nr_ : Nat) (kk_ : V → Prop) => p_WorkshopOk (x_s := x.s) (x_t := x.t) (x_p := x.p) (x_o := x.o) (x_c := x.c) (x_u := x.u - 1) (x_m := x.m) (x_f := x.f) (x_y := x.y) (x_d := x.d + x.p.length) (nr_ := nr_) (kk_ := kk_) hp
        rw [e] at hq
        simp only [P1_sub, P1_add, P1_len, hw, hw2, hq]
        cases h4 : shopOk (played x) <;> simp [h, h2, h3, h4, playOnce, canPlay]
        simp [played]
theorem playOnce_small {x : Shop} (h : sSmall x) : sSmall (playOnce x) := by
  unfold playOnce
  split
  · exact h
  · exact h
end Go.Mw

/- What functions compute, in plain terms: draws; stops and sums. -/
namespace Go.Mw
/-- A bitwise operation of the machine. -/
def land (a b : Int) : Int := IntKind.i64.wrap (BitVec.ofInt IntKind.i64.bits a &&& BitVec.ofInt IntKind.i64.bits b).toNat
def lxor (a b : Int) : Int := IntKind.i64.wrap (BitVec.ofInt IntKind.i64.bits a ^^^ BitVec.ofInt IntKind.i64.bits b).toNat
@[simp] theorem P1_and {a b : Int} {k : V → Prop} : P1 (.bin .and) [.int .i64 a, .int .i64 b] k ↔ k (.int .i64 (land a b)) := P1_of (by simp [Prim.run, binV, binI, land]) k
@[simp] theorem P1_xor {a b : Int} {k : V → Prop} : P1 (.bin .xor) [.int .i64 a, .int .i64 b] k ↔ k (.int .i64 (lxor a b)) := P1_of (by simp [Prim.run, binV, binI, lxor]) k
theorem P1_shr {a b : Int} {κ' : IntKind} {k : V → Prop} (hb : 0 ≤ b) : P1 (.bin .shr) [.int .i64 a, .int κ' b] k ↔ k (.int .i64 (a.fdiv (2 ^ (min b.toNat IntKind.i64.bits)))) := P1_of (by simp [Prim.run, binV]; omega) k
/-- A cursor: its bytes, the place, the hash. -/
structure Cur where
  b : List UInt8
  i : Int
  h : Int
def E_big (l : List UInt8) : List V := [vL I1 vY l]
noncomputable def F_big : List V → Option (List V) := mkF E_big (fun l => l.length ≤ 9223372036854775807) (fun l => [.bool (decide (1048576 < l.length))])
theorem F_big_inj : ∀ x y, E_big x = E_big y → x = y := by
  rintro l l' h
  simpa [E_big] using h
theorem F_big_elim {P : List V → List V → Prop} (h : ∀ (l : List UInt8), (l.length ≤ 9223372036854775807) → P [vL I1 vY l] [.bool (decide (1048576 < l.length))]) : ∀ ds outs, F_big ds = some outs → P ds outs := by
  intro ds outs hh
  obtain ⟨l, rfl, hp, rfl⟩ := mkF_inv hh
  exact h l hp
theorem p_big {l : List UInt8} {nr_ : Nat} {kk_ : V → Prop} (hp : l.length ≤ 9223372036854775807) : P1 (.call F_big 0 nr_) [vL I1 vY l] kk_ ↔ kk_ (.bool (decide (1048576 < l.length))) :=
  P1_callF (by unfold F_big; exact mkF_eq F_big_inj (l) hp)

def seedTo (l : List UInt8) : Nat → Int
  | 0 => 33091 + l.length
  | k + 1 => land (IntKind.i64.wrap (IntKind.i64.wrap (IntKind.i64.wrap (seedTo l k * 131) + (match l[k]? with | some x => (x.toNat : Int) | none => 0)) + 7)) 1073741823
def seedOf (l : List UInt8) : Int := seedTo l (min l.length 4000)
def E_l01New (l : List UInt8) : List V := [vL I1 vY l]
noncomputable def F_l01New : List V → Option (List V) := mkF E_l01New (fun l => l.length ≤ 1048576) (fun l => [vL I1 vY l, .int .i64 0, .int .i64 (seedOf l)])
theorem F_l01New_inj : ∀ x y, E_l01New x = E_l01New y → x = y := by
  rintro l l' h
  simpa [E_l01New] using h
theorem F_l01New_elim {P : List V → List V → Prop} (h : ∀ (l : List UInt8), (l.length ≤ 1048576) → P [vL I1 vY l] [vL I1 vY l, .int .i64 0, .int .i64 (seedOf l)]) : ∀ ds outs, F_l01New ds = some outs → P ds outs := by
  intro ds outs hh
  obtain ⟨l, rfl, hp, rfl⟩ := mkF_inv hh
  exact h l hp
theorem p_l01New {l : List UInt8} {nr_ : Nat} {kk_ : V → V → V → Prop} (hp : l.length ≤ 1048576) : P3 (.call F_l01New 0 nr_) [vL I1 vY l] kk_ ↔ kk_ (vL I1 vY l) (.int .i64 0) (.int .i64 (seedOf l)) :=
  P3_callF (by unfold F_l01New; exact mkF_eq F_l01New_inj (l) hp)

def hNext (h : Int) : Int := IntKind.i64.wrap (IntKind.i64.wrap (h * 6364136223846793005) + 1442695040888963407)
def hByte (h : Int) : Int := land (lxor (h.fdiv (2 ^ 33)) (h.fdiv (2 ^ 45))) 255
def cByte (x : Cur) : Int := match x.b[x.i.toNat]? with | some y => land (IntKind.i64.wrap (hByte (hNext x.h) + y.toNat)) 255 | none => hByte (hNext x.h)
def cStep (x : Cur) : Cur := ⟨x.b, if x.i < x.b.length then x.i + 1 else x.i, hNext x.h⟩
def E_l01Byte (x : Cur) : List V := [vL I1 vY x.b, .int .i64 x.i, .int .i64 x.h]
noncomputable def F_l01Byte : List V → Option (List V) := mkF E_l01Byte (fun x => 0 ≤ x.i ∧ x.b.length ≤ 1048576) (fun x => [.int .i64 (cByte x), .int .i64 ((cStep x).i), .int .i64 ((cStep x).h)])
theorem F_l01Byte_inj : ∀ x y, E_l01Byte x = E_l01Byte y → x = y := by
  rintro ⟨xb, xi, xh⟩ ⟨xb', xi', xh'⟩ h
  simpa [E_l01Byte] using h
theorem F_l01Byte_elim {P : List V → List V → Prop} (h : ∀ (x : Cur), (0 ≤ x.i ∧ x.b.length ≤ 1048576) → P [vL I1 vY x.b, .int .i64 x.i, .int .i64 x.h] [.int .i64 (cByte x), .int .i64 ((cStep x).i), .int .i64 ((cStep x).h)]) : ∀ ds outs, F_l01Byte ds = some outs → P ds outs := by
  intro ds outs hh
  obtain ⟨x, rfl, hp, rfl⟩ := mkF_inv hh
  exact h x hp
theorem p_l01Byte {x_b : List UInt8} {x_i : Int} {x_h : Int} {nr_ : Nat} {kk_ : V → V → V → Prop} (hp : 0 ≤ (⟨x_b, x_i, x_h⟩ : Cur).i ∧ (⟨x_b, x_i, x_h⟩ : Cur).b.length ≤ 1048576) : P3 (.call F_l01Byte 0 nr_) [vL I1 vY x_b, .int .i64 x_i, .int .i64 x_h] kk_ ↔ kk_ (.int .i64 (cByte (⟨x_b, x_i, x_h⟩ : Cur))) (.int .i64 ((cStep (⟨x_b, x_i, x_h⟩ : Cur)).i)) (.int .i64 ((cStep (⟨x_b, x_i, x_h⟩ : Cur)).h)) :=
  P3_callF (by unfold F_l01Byte; exact mkF_eq F_l01Byte_inj ((⟨x_b, x_i, x_h⟩ : Cur)) hp)

def cBelow (x : Cur) (n : Int) : Int := if n ≤ 0 then 0 else if n ≤ 256 then (cByte x).tmod n else
  (cByte x * 16777216 + cByte (cStep x) * 65536 + cByte (cStep (cStep x)) * 256 + cByte (cStep (cStep (cStep x)))).tmod n
def cAfter (x : Cur) (n : Int) : Cur := if n ≤ 0 then x else if n ≤ 256 then cStep x else cStep (cStep (cStep (cStep x)))
def E_l01Below : Cur × Int → List V := fun (x, n) => [vL I1 vY x.b, .int .i64 x.i, .int .i64 x.h, .int .i64 n]
noncomputable def F_l01Below : List V → Option (List V) := mkF E_l01Below (fun (x, _) => 0 ≤ x.i ∧ x.b.length ≤ 1048576) (fun (x, n) => [.int .i64 (cBelow x n), .int .i64 ((cAfter x n).i), .int .i64 ((cAfter x n).h)])
theorem F_l01Below_inj : ∀ x y, E_l01Below x = E_l01Below y → x = y := by
  rintro ⟨⟨xb, xi, xh⟩, n⟩ ⟨⟨xb', xi', xh'⟩, n'⟩ h
  simpa [E_l01Below, and_assoc] using h
theorem F_l01Below_elim {P : List V → List V → Prop} (h : ∀ (x : Cur) (n : Int), (0 ≤ x.i ∧ x.b.length ≤ 1048576) → P [vL I1 vY x.b, .int .i64 x.i, .int .i64 x.h, .int .i64 n] [.int .i64 (cBelow x n), .int .i64 ((cAfter x n).i), .int .i64 ((cAfter x n).h)]) : ∀ ds outs, F_l01Below ds = some outs → P ds outs := by
  intro ds outs hh
  obtain ⟨⟨x, n⟩, rfl, hp, rfl⟩ := mkF_inv hh
  exact h x n hp
theorem p_l01Below {x_b : List UInt8} {x_i : Int} {x_h : Int} {n : Int} {nr_ : Nat} {kk_ : V → V → V → Prop} (hp : 0 ≤ (⟨x_b, x_i, x_h⟩ : Cur).i ∧ (⟨x_b, x_i, x_h⟩ : Cur).b.length ≤ 1048576) : P3 (.call F_l01Below 0 nr_) [vL I1 vY x_b, .int .i64 x_i, .int .i64 x_h, .int .i64 n] kk_ ↔ kk_ (.int .i64 (cBelow (⟨x_b, x_i, x_h⟩ : Cur) n)) (.int .i64 ((cAfter (⟨x_b, x_i, x_h⟩ : Cur) n).i)) (.int .i64 ((cAfter (⟨x_b, x_i, x_h⟩ : Cur) n).h)) :=
  P3_callF (by unfold F_l01Below; exact mkF_eq F_l01Below_inj ((⟨x_b, x_i, x_h⟩ : Cur), n) hp)


def putPin : List T2 → T2 → List T2
  | [], p => [p]
  | a :: r, p => if pinLess a p then a :: putPin r p else if a = p then a :: r else p :: a :: r
def putNew : List T2 → T2 → Bool
  | [], _ => true
  | a :: r, p => if pinLess a p then putNew r p else decide (a ≠ p)
def E_l06Put : List T2 × T2 → List V := fun (l, y) => [vL I2 v2 l, .int .i64 y.a, .int .i64 y.b]
noncomputable def F_l06Put : List V → Option (List V) := mkF E_l06Put (fun (l, _) => l.length ≤ 1048576) (fun (l, y) => [vL I2 v2 (putPin l y), .bool (putNew l y)])
theorem F_l06Put_inj : ∀ x y, E_l06Put x = E_l06Put y → x = y := by
  rintro ⟨l, ⟨ya, yb⟩⟩ ⟨l', ⟨ya', yb'⟩⟩ h
  simpa [E_l06Put, and_assoc] using h
theorem F_l06Put_elim {P : List V → List V → Prop} (h : ∀ (l : List T2) (y : T2), (l.length ≤ 1048576) → P [vL I2 v2 l, .int .i64 y.a, .int .i64 y.b] [vL I2 v2 (putPin l y), .bool (putNew l y)]) : ∀ ds outs, F_l06Put ds = some outs → P ds outs := by
  intro ds outs hh
  obtain ⟨⟨l, y⟩, rfl, hp, rfl⟩ := mkF_inv hh
  exact h l y hp
theorem p_l06Put {l : List T2} {y_a : Int} {y_b : Int} {nr_ : Nat} {kk_ : V → V → Prop} (hp : l.length ≤ 1048576) : P2 (.call F_l06Put 0 nr_) [vL I2 v2 l, .int .i64 y_a, .int .i64 y_b] kk_ ↔ kk_ (vL I2 v2 (putPin l (⟨y_a, y_b⟩ : T2))) (.bool (putNew l (⟨y_a, y_b⟩ : T2))) :=
  P2_callF (by unfold F_l06Put; exact mkF_eq F_l06Put_inj (l, (⟨y_a, y_b⟩ : T2)) hp)

def cylTo (s t : Int) (x : Cur) : Nat → List T2 × Cur
  | 0 => ([], x)
  | k + 1 => (putPin (cylTo s t x k).1 ⟨cBelow (cylTo s t x k).2 t, cBelow (cAfter (cylTo s t x k).2 t) s⟩, cAfter (cAfter (cylTo s t x k).2 t) s)
def cylS (x : Cur) : Int := 4 + cBelow x 21
def cylT (x : Cur) : Int := 1 + cBelow (cAfter x 21) 8
def cylX (x : Cur) : Cur := cAfter (cAfter (cAfter x 21) 8) 10
def cylN (x : Cur) : Int := cBelow (cAfter (cAfter x 21) 8) 10
def cylOf (x : Cur) : Cyl := ⟨cylS x, cylT x, (cylTo (cylS x) (cylT x) (cylX x) (cylN x).toNat).1⟩
def cylEnd (x : Cur) : Cur := (cylTo (cylS x) (cylT x) (cylX x) (cylN x).toNat).2
def E_l06Cylinder (x : Cur) : List V := [vL I1 vY x.b, .int .i64 x.i, .int .i64 x.h]
noncomputable def F_l06Cylinder : List V → Option (List V) := mkF E_l06Cylinder (fun x => 0 ≤ x.i ∧ x.b.length ≤ 1048576) (fun x => [.int .i64 (cylOf x).s, .int .i64 (cylOf x).t, vL I2 v2 (cylOf x).p, .int .i64 ((cylEnd x).i), .int .i64 ((cylEnd x).h)])
theorem F_l06Cylinder_inj : ∀ x y, E_l06Cylinder x = E_l06Cylinder y → x = y := by
  rintro ⟨xb, xi, xh⟩ ⟨xb', xi', xh'⟩ h
  simpa [E_l06Cylinder] using h
theorem F_l06Cylinder_elim {P : List V → List V → Prop} (h : ∀ (x : Cur), (0 ≤ x.i ∧ x.b.length ≤ 1048576) → P [vL I1 vY x.b, .int .i64 x.i, .int .i64 x.h] [.int .i64 (cylOf x).s, .int .i64 (cylOf x).t, vL I2 v2 (cylOf x).p, .int .i64 ((cylEnd x).i), .int .i64 ((cylEnd x).h)]) : ∀ ds outs, F_l06Cylinder ds = some outs → P ds outs := by
  intro ds outs hh
  obtain ⟨x, rfl, hp, rfl⟩ := mkF_inv hh
  exact h x hp
theorem p_l06Cylinder {x_b : List UInt8} {x_i : Int} {x_h : Int} {nr_ : Nat} {kk_ : V → V → V → V → V → Prop} (hp : 0 ≤ (⟨x_b, x_i, x_h⟩ : Cur).i ∧ (⟨x_b, x_i, x_h⟩ : Cur).b.length ≤ 1048576) : P5 (.call F_l06Cylinder 0 nr_) [vL I1 vY x_b, .int .i64 x_i, .int .i64 x_h] kk_ ↔ kk_ (.int .i64 (cylOf (⟨x_b, x_i, x_h⟩ : Cur)).s) (.int .i64 (cylOf (⟨x_b, x_i, x_h⟩ : Cur)).t) (vL I2 v2 (cylOf (⟨x_b, x_i, x_h⟩ : Cur)).p) (.int .i64 ((cylEnd (⟨x_b, x_i, x_h⟩ : Cur)).i)) (.int .i64 ((cylEnd (⟨x_b, x_i, x_h⟩ : Cur)).h)) :=
  P5_callF (by unfold F_l06Cylinder; exact mkF_eq F_l06Cylinder_inj ((⟨x_b, x_i, x_h⟩ : Cur)) hp)

def E_l01PickInt : Cur × List Int → List V := fun (x, l) => [vL I1 vY x.b, .int .i64 x.i, .int .i64 x.h, vL I1 v1 l]
noncomputable def F_l01PickInt : List V → Option (List V) := mkF E_l01PickInt (fun (x, l) => 0 ≤ x.i ∧ x.b.length ≤ 1048576 ∧ 1 ≤ l.length ∧ l.length ≤ 1048576) (fun (x, l) => [.int .i64 ((l[(cBelow x l.length).toNat]?.getD 0)), .int .i64 ((cAfter x l.length).i), .int .i64 ((cAfter x l.length).h)])
theorem F_l01PickInt_inj : ∀ x y, E_l01PickInt x = E_l01PickInt y → x = y := by
  rintro ⟨⟨xb, xi, xh⟩, l⟩ ⟨⟨xb', xi', xh'⟩, l'⟩ h
  simpa [E_l01PickInt, and_assoc] using h
theorem F_l01PickInt_elim {P : List V → List V → Prop} (h : ∀ (x : Cur) (l : List Int), (0 ≤ x.i ∧ x.b.length ≤ 1048576 ∧ 1 ≤ l.length ∧ l.length ≤ 1048576) → P [vL I1 vY x.b, .int .i64 x.i, .int .i64 x.h, vL I1 v1 l] [.int .i64 ((l[(cBelow x l.length).toNat]?.getD 0)), .int .i64 ((cAfter x l.length).i), .int .i64 ((cAfter x l.length).h)]) : ∀ ds outs, F_l01PickInt ds = some outs → P ds outs := by
  intro ds outs hh
  obtain ⟨⟨x, l⟩, rfl, hp, rfl⟩ := mkF_inv hh
  exact h x l hp
theorem p_l01PickInt {x_b : List UInt8} {x_i : Int} {x_h : Int} {l : List Int} {nr_ : Nat} {kk_ : V → V → V → Prop} (hp : 0 ≤ (⟨x_b, x_i, x_h⟩ : Cur).i ∧ (⟨x_b, x_i, x_h⟩ : Cur).b.length ≤ 1048576 ∧ 1 ≤ l.length ∧ l.length ≤ 1048576) : P3 (.call F_l01PickInt 0 nr_) [vL I1 vY x_b, .int .i64 x_i, .int .i64 x_h, vL I1 v1 l] kk_ ↔ kk_ (.int .i64 ((l[(cBelow (⟨x_b, x_i, x_h⟩ : Cur) l.length).toNat]?.getD 0))) (.int .i64 ((cAfter (⟨x_b, x_i, x_h⟩ : Cur) l.length).i)) (.int .i64 ((cAfter (⟨x_b, x_i, x_h⟩ : Cur) l.length).h)) :=
  P3_callF (by unfold F_l01PickInt; exact mkF_eq F_l01PickInt_inj ((⟨x_b, x_i, x_h⟩ : Cur), l) hp)

def cur0 (l : List UInt8) : Cur := ⟨l, 0, seedOf l⟩
def E_sameInts : List Int × List Int → List V := fun (l, m) => [vL I1 v1 l, vL I1 v1 m]
noncomputable def F_sameInts : List V → Option (List V) := mkF E_sameInts (fun (l, m) => l.length ≤ 1048576 ∧ m.length ≤ 1048576) (fun (l, m) => [.bool (decide (l = m))])
theorem F_sameInts_inj : ∀ x y, E_sameInts x = E_sameInts y → x = y := by
  rintro ⟨l, m⟩ ⟨l', m'⟩ h
  simpa [E_sameInts] using h
theorem F_sameInts_elim {P : List V → List V → Prop} (h : ∀ (l : List Int) (m : List Int), (l.length ≤ 1048576 ∧ m.length ≤ 1048576) → P [vL I1 v1 l, vL I1 v1 m] [.bool (decide (l = m))]) : ∀ ds outs, F_sameInts ds = some outs → P ds outs := by
  intro ds outs hh
  obtain ⟨⟨l, m⟩, rfl, hp, rfl⟩ := mkF_inv hh
  exact h l m hp
theorem p_sameInts {l : List Int} {m : List Int} {nr_ : Nat} {kk_ : V → Prop} (hp : l.length ≤ 1048576 ∧ m.length ≤ 1048576) : P1 (.call F_sameInts 0 nr_) [vL I1 v1 l, vL I1 v1 m] kk_ ↔ kk_ (.bool (decide (l = m))) :=
  P1_callF (by unfold F_sameInts; exact mkF_eq F_sameInts_inj (l, m) hp)

end Go.Mw

/- Functions of the program, as small pure programs (printed by a program of ours). -/
namespace Go.Mw
noncomputable section
def laws_big_L : L := .seq (.rg []) (.seq (.rg [⟨[], .len, [.v 0], 1⟩, ⟨[], .bin .gtr, [.v 1, .k (.int .i64 1048576)], 1⟩]) (.ret [.v 2]))
theorem laws_big_L_sh (Q : QT) (x0 : V) : shL laws_big_L Q [x0] = (
  P1 (.len) [x0] fun v0 =>
  P1 (.bin .gtr) [v0, .int .i64 1048576] fun v1 =>
  Q .ret [v1]) := by kernel_rfl
def laws_big_S : Sig := ⟨[.val false [.sl [.sc]]], [(false, [.sc])], F_big⟩
def laws_big_hs : List NF := []

def spec_l01New_b0 : L := .seq (.seq (.seq (.rg [⟨[], .len, [.v 0], 1⟩, ⟨[], .bin .lss, [.v 2, .v 3], 1⟩, ⟨[(.v 4, true)], .bin .lss, [.v 2, .k (.int .i64 4000)], 1⟩, ⟨[], .pick, [.v 4, .v 5, .k (.bool false)], 1⟩]) (.ite (.v 6) (.skip) (.seq (.tup [.v 0, .v 1]) (.exit 0)))) (.seq (.block 1 (.seq (.rg [⟨[], .bin .mul, [.v 1, .k (.int .i64 131)], 1⟩, ⟨[], .idx [.sc], [.v 0, .v 2], 1⟩, ⟨[], .conv .i64, [.v 8], 1⟩, ⟨[], .bin .add, [.v 7, .v 9], 1⟩, ⟨[], .bin .add, [.v 10, .k (.int .i64 7)], 1⟩, ⟨[], .bin .and, [.v 11, .k (.int .i64 1073741823)], 1⟩]) (.tup [.v 0, .v 12, .v 2]))) (.rg [⟨[], .bin .add, [.v 2, .k (.int .i64 1)], 1⟩]))) (.tup [.v 0, .v 1, .v 3])
theorem spec_l01New_b0_sh (Q : QT) (x0 x1 x2 : V) : shL spec_l01New_b0 Q [x0, x1, x2] = (
  P1 (.len) [x0] fun v0 =>
  P1 (.bin .lss) [x2, v0] fun v1 =>
  ifB v1 (
    P1 (.bin .lss) [x2, .int .i64 4000] fun v2 =>
    ifB v2 (
      P1 (.bin .mul) [x1, .int .i64 131] fun v3 =>
      P1 (.idx [.sc]) [x0, x2] fun v4 =>
      P1 (.conv .i64) [v4] fun v5 =>
      P1 (.bin .add) [v3, v5] fun v6 =>
      P1 (.bin .add) [v6, .int .i64 7] fun v7 =>
      P1 (.bin .and) [v7, .int .i64 1073741823] fun v8 =>
      P1 (.bin .add) [x2, .int .i64 1] fun v9 =>
      Q .normal [x0, v8, v9]) (
      Q (.exit 0) [x0, x1])) (
    Q (.exit 0) [x0, x1])) := by kernel_rfl

def spec_l01New_r1 : L := .seq (.rg []) (.ret [.v 0, .k (.int .i64 0), .v 1])
theorem spec_l01New_r1_sh (Q : QT) (x0 x1 : V) : shL spec_l01New_r1 Q [x0, x1] = (
  Q .ret [x0, .int .i64 0, x1]) := by kernel_rfl

def spec_l01New_L : L := .seq (.rg []) (.seq (.rg [⟨[], .len, [.v 0], 1⟩, ⟨[], .bin .add, [.k (.int .i64 33091), .v 1], 1⟩]) (.seq (.seq (.rg []) (.block 0 (.seq (.tup [.v 0, .v 2, .k (.int .i64 0)]) (.loop (spec_l01New_b0))))) (spec_l01New_r1)))
theorem spec_l01New_L_sh (Q : QT) (x0 : V) : shL spec_l01New_L Q [x0] = (
  P1 (.len) [x0] fun v0 =>
  P1 (.bin .add) [.int .i64 33091, v0] fun v1 =>
  shL (.loop spec_l01New_b0) (qB 0 (qS (shL spec_l01New_r1 Q) Q)) [x0, v1, .int .i64 0]) := by kernel_rfl
def spec_l01New_S : Sig := ⟨[.new [.sl [.sc], .sc, .sc], .val false [.sl [.sc]]], [], F_l01New⟩
def spec_l01New_hs : List NF := [⟨[(0, .sc false [.ro [.sc]]), (3, .sc false [.sc])], [], [], 64⟩, ⟨[(0, .sc false [.ro [.sc]]), (3, .sc false [.sc]), (4, .sc false [.sc])], [], [], 64⟩, ⟨[(0, .sc false [.ro [.sc]]), (3, .sc false [.sc]), (4, .sc false [.sc])], [], [], 64⟩]

def spec_l01Byte_L : L := .seq (.rg []) (.seq (.rg [⟨[], .bin .mul, [.v 2, .k (.int .i64 6364136223846793005)], 1⟩, ⟨[], .bin .add, [.v 3, .k (.int .i64 1442695040888963407)], 1⟩]) (.seq (.rg [⟨[], .bin .shr, [.v 4, .k (.int .u64 33)], 1⟩, ⟨[], .bin .shr, [.v 4, .k (.int .u64 45)], 1⟩, ⟨[], .bin .xor, [.v 5, .v 6], 1⟩, ⟨[], .bin .and, [.v 7, .k (.int .i64 255)], 1⟩]) (.seq (.seq (.rg [⟨[], .len, [.v 0], 1⟩, ⟨[], .bin .lss, [.v 1, .v 9], 1⟩]) (.ite (.v 10) (.seq (.seq (.rg [⟨[], .idx [.sc], [.v 0, .v 1], 1⟩, ⟨[], .conv .i64, [.v 11], 1⟩, ⟨[], .bin .add, [.v 8, .v 12], 1⟩, ⟨[], .bin .and, [.v 13, .k (.int .i64 255)], 1⟩]) (.rg [⟨[], .bin .add, [.v 1, .k (.int .i64 1)], 1⟩])) (.tup [.v 14, .v 0, .v 15, .v 4])) (.seq (.skip) (.tup [.v 8, .v 0, .v 1, .v 4])))) (.seq (.rg []) (.ret [.v 0, .v 2, .v 3])))))
theorem spec_l01Byte_L_sh (Q : QT) (x0 x1 x2 : V) : shL spec_l01Byte_L Q [x0, x1, x2] = (
  P1 (.bin .mul) [x2, .int .i64 6364136223846793005] fun v0 =>
  P1 (.bin .add) [v0, .int .i64 1442695040888963407] fun v1 =>
  P1 (.bin .shr) [v1, .int .u64 33] fun v2 =>
  P1 (.bin .shr) [v1, .int .u64 45] fun v3 =>
  P1 (.bin .xor) [v2, v3] fun v4 =>
  P1 (.bin .and) [v4, .int .i64 255] fun v5 =>
  P1 (.len) [x0] fun v6 =>
  P1 (.bin .lss) [x1, v6] fun v7 =>
  ifB v7 (
    P1 (.idx [.sc]) [x0, x1] fun v8 =>
    P1 (.conv .i64) [v8] fun v9 =>
    P1 (.bin .add) [v5, v9] fun v10 =>
    P1 (.bin .and) [v10, .int .i64 255] fun v11 =>
    P1 (.bin .add) [x1, .int .i64 1] fun v12 =>
    Q .ret [v11, v12, v1]) (
    Q .ret [v5, x1, v1])) := by kernel_rfl
def spec_l01Byte_S : Sig := ⟨[.ptr [.sl [.sc], .sc, .sc]], [(false, [.sc])], F_l01Byte⟩
def spec_l01Byte_hs : List NF := [⟨[(3, .sc false [.sc])], [], [(0, [.ro [.sc], .sc, .sc])], 64⟩]

def spec_l01Below_L : L := .seq (.rg []) (.seq (.seq (.rg [⟨[], .bin .leq, [.v 3, .k (.int .i64 0)], 1⟩]) (.ite (.v 4) (.seq (.rg []) (.ret [.k (.int .i64 0), .v 1, .v 2])) (.skip))) (.seq (.seq (.rg [⟨[], .bin .leq, [.v 3, .k (.int .i64 256)], 1⟩]) (.ite (.v 5) (.seq (.rg [⟨[], .call F_l01Byte 0 1, [.v 0, .v 1, .v 2], 3⟩, ⟨[], .bin .rem, [.v 6, .v 3], 1⟩]) (.ret [.v 9, .v 7, .v 8])) (.skip))) (.seq (.rg [⟨[], .call F_l01Byte 0 1, [.v 0, .v 1, .v 2], 3⟩]) (.seq (.rg [⟨[], .call F_l01Byte 0 1, [.v 0, .v 7, .v 8], 3⟩]) (.seq (.rg [⟨[], .call F_l01Byte 0 1, [.v 0, .v 10, .v 11], 3⟩]) (.seq (.rg [⟨[], .call F_l01Byte 0 1, [.v 0, .v 13, .v 14], 3⟩]) (.seq (.rg [⟨[], .bin .mul, [.v 6, .k (.int .i64 16777216)], 1⟩, ⟨[], .bin .mul, [.v 9, .k (.int .i64 65536)], 1⟩, ⟨[], .bin .add, [.v 18, .v 19], 1⟩, ⟨[], .bin .mul, [.v 12, .k (.int .i64 256)], 1⟩, ⟨[], .bin .add, [.v 20, .v 21], 1⟩, ⟨[], .bin .add, [.v 22, .v 15], 1⟩, ⟨[], .bin .rem, [.v 23, .v 3], 1⟩]) (.ret [.v 24, .v 16, .v 17]))))))))
theorem spec_l01Below_L_sh (Q : QT) (x0 x1 x2 x3 : V) : shL spec_l01Below_L Q [x0, x1, x2, x3] = (
  P1 (.bin .leq) [x3, .int .i64 0] fun v0 =>
  ifB v0 (
    Q .ret [.int .i64 0, x1, x2]) (
    P1 (.bin .leq) [x3, .int .i64 256] fun v1 =>
    ifB v1 (
      P3 (.call F_l01Byte 0 1) [x0, x1, x2] fun v2 v3 v4 =>
      P1 (.bin .rem) [v2, x3] fun v5 =>
      Q .ret [v5, v3, v4]) (
      P3 (.call F_l01Byte 0 1) [x0, x1, x2] fun v6 v7 v8 =>
      P3 (.call F_l01Byte 0 1) [x0, v7, v8] fun v9 v10 v11 =>
      P3 (.call F_l01Byte 0 1) [x0, v10, v11] fun v12 v13 v14 =>
      P3 (.call F_l01Byte 0 1) [x0, v13, v14] fun v15 v16 v17 =>
      P1 (.bin .mul) [v6, .int .i64 16777216] fun v18 =>
      P1 (.bin .mul) [v9, .int .i64 65536] fun v19 =>
      P1 (.bin .add) [v18, v19] fun v20 =>
      P1 (.bin .mul) [v12, .int .i64 256] fun v21 =>
      P1 (.bin .add) [v20, v21] fun v22 =>
      P1 (.bin .add) [v22, v15] fun v23 =>
      P1 (.bin .rem) [v23, x3] fun v24 =>
      Q .ret [v24, v16, v17]))) := by kernel_rfl
def spec_l01Below_S : Sig := ⟨[.ptr [.sl [.sc], .sc, .sc], .val false [.sc]], [(false, [.sc])], F_l01Below⟩
def spec_l01Below_hs : List NF := []

def spec_l06Put_b0 : L := .seq (.seq (.seq (.rg [⟨[], .len, [.v 0], 1⟩, ⟨[], .bin .lss, [.v 1, .v 4], 1⟩, ⟨[(.v 5, true)], .idx [.sc, .sc], [.v 0, .v 1], 2⟩, ⟨[(.v 5, true)], .call F_l06Less 0 1, [.v 6, .v 7, .v 2, .v 3], 1⟩, ⟨[], .pick, [.v 5, .v 8, .k (.bool false)], 1⟩]) (.ite (.v 9) (.skip) (.seq (.tup [.v 0, .v 1, .v 2, .v 3]) (.exit 0)))) (.block 1 (.seq (.rg [⟨[], .bin .add, [.v 1, .k (.int .i64 1)], 1⟩]) (.tup [.v 0, .v 10, .v 2, .v 3])))) (.tup [.v 0, .v 1, .v 2, .v 3])
theorem spec_l06Put_b0_sh (Q : QT) (x0 x1 x2 x3 : V) : shL spec_l06Put_b0 Q [x0, x1, x2, x3] = (
  P1 (.len) [x0] fun v0 =>
  P1 (.bin .lss) [x1, v0] fun v1 =>
  ifB v1 (
    P2 (.idx [.sc, .sc]) [x0, x1] fun v2 v3 =>
    P1 (.call F_l06Less 0 1) [v2, v3, x2, x3] fun v4 =>
    ifB v4 (
      P1 (.bin .add) [x1, .int .i64 1] fun v5 =>
      Q .normal [x0, v5, x2, x3]) (
      Q (.exit 0) [x0, x1, x2, x3])) (
    Q (.exit 0) [x0, x1, x2, x3])) := by kernel_rfl

def spec_l06Put_r1 : L := .seq (.seq (.rg [⟨[], .len, [.v 0], 1⟩, ⟨[], .bin .lss, [.v 1, .v 4], 1⟩, ⟨[(.v 5, true)], .idx [.sc, .sc], [.v 0, .v 1], 2⟩, ⟨[(.v 5, true)], .eqa false [.i, .i], [.v 6, .v 7, .v 2, .v 3], 1⟩, ⟨[], .pick, [.v 5, .v 8, .k (.bool false)], 1⟩]) (.ite (.v 9) (.seq (.rg [⟨[], .lst [.sc, .sc] true 0, [], 1⟩, ⟨[], .app [.sc, .sc] 16, [.v 10, .v 0], 1⟩]) (.ret [.v 11, .k (.bool false)])) (.skip))) (.seq (.rg [⟨[], .lst [.sc, .sc] true 0, [], 1⟩, ⟨[], .lsub [.sc, .sc], [.v 0, .k (.int .i64 0), .v 1], 1⟩, ⟨[], .app [.sc, .sc] 16, [.v 10, .v 11], 1⟩, ⟨[], .lst [.sc, .sc] true 1, [.v 2, .v 3], 1⟩, ⟨[], .app [.sc, .sc] 16, [.v 12, .v 13], 1⟩, ⟨[], .lsub [.sc, .sc], [.v 0, .v 1], 1⟩, ⟨[], .app [.sc, .sc] 16, [.v 14, .v 15], 1⟩]) (.ret [.v 16, .k (.bool true)]))
theorem spec_l06Put_r1_sh (Q : QT) (x0 x1 x2 x3 : V) : shL spec_l06Put_r1 Q [x0, x1, x2, x3] = (
  P1 (.len) [x0] fun v0 =>
  P1 (.bin .lss) [x1, v0] fun v1 =>
  ifB v1 (
    P2 (.idx [.sc, .sc]) [x0, x1] fun v2 v3 =>
    P1 (.eqa false [.i, .i]) [v2, v3, x2, x3] fun v4 =>
    ifB v4 (
      P1 (.lst [.sc, .sc] true 0) [] fun v5 =>
      P1 (.app [.sc, .sc] 16) [v5, x0] fun v6 =>
      Q .ret [v6, .bool false]) (
      P1 (.lst [.sc, .sc] true 0) [] fun v7 =>
      P1 (.lsub [.sc, .sc]) [x0, .int .i64 0, x1] fun v8 =>
      P1 (.app [.sc, .sc] 16) [v7, v8] fun v9 =>
      P1 (.lst [.sc, .sc] true 1) [x2, x3] fun v10 =>
      P1 (.app [.sc, .sc] 16) [v9, v10] fun v11 =>
      P1 (.lsub [.sc, .sc]) [x0, x1] fun v12 =>
      P1 (.app [.sc, .sc] 16) [v11, v12] fun v13 =>
      Q .ret [v13, .bool true])) (
    P1 (.lst [.sc, .sc] true 0) [] fun v14 =>
    P1 (.lsub [.sc, .sc]) [x0, .int .i64 0, x1] fun v15 =>
    P1 (.app [.sc, .sc] 16) [v14, v15] fun v16 =>
    P1 (.lst [.sc, .sc] true 1) [x2, x3] fun v17 =>
    P1 (.app [.sc, .sc] 16) [v16, v17] fun v18 =>
    P1 (.lsub [.sc, .sc]) [x0, x1] fun v19 =>
    P1 (.app [.sc, .sc] 16) [v18, v19] fun v20 =>
    Q .ret [v20, .bool true])) := by kernel_rfl

def spec_l06Put_L : L := .seq (.rg []) (.seq (.rg []) (.seq (.block 0 (.seq (.tup [.v 0, .k (.int .i64 0), .v 1, .v 2]) (.loop (spec_l06Put_b0)))) (spec_l06Put_r1)))
theorem spec_l06Put_L_sh (Q : QT) (x0 x1 x2 : V) : shL spec_l06Put_L Q [x0, x1, x2] = (
  shL (.loop spec_l06Put_b0) (qB 0 (qS (shL spec_l06Put_r1 Q) Q)) [x0, .int .i64 0, x1, x2]) := by kernel_rfl
def spec_l06Put_S : Sig := ⟨[.val false [.sl [.sc, .sc]], .val true [.sc, .sc]], [(false, [.sl [.sc, .sc]]), (false, [.sc])], F_l06Put⟩
def spec_l06Put_hs : List NF := [⟨[(0, .sc false [.ro [.sc, .sc]]), (3, .ptr 64 0), (6, .sc false [.sc])], [], [(64, [.sc, .sc])], 65⟩, ⟨[(0, .sc false [.ro [.sc, .sc]]), (3, .ptr 64 0), (6, .sc false [.sc])], [], [(64, [.sc, .sc])], 65⟩, ⟨[(0, .sc false [.ro [.sc, .sc]]), (3, .ptr 64 0), (6, .sc false [.sc])], [], [(64, [.sc, .sc])], 65⟩]

def spec_l06Cylinder_b0 : L := .seq (.seq (.seq (.rg [⟨[], .bin .gtr, [.v 0, .k (.int .i64 0)], 1⟩]) (.ite (.v 9) (.skip) (.seq (.tup [.v 1, .v 2, .v 3, .v 4, .v 5, .v 6, .v 7, .v 8]) (.exit 0)))) (.seq (.block 1 (.seq (.rg [⟨[], .call F_l01Below 0 1, [.v 2, .v 3, .v 4, .v 8], 3⟩, ⟨[], .call F_l01Below 0 1, [.v 2, .v 11, .v 12, .v 7], 3⟩, ⟨[], .call F_l06Put 0 2, [.v 1, .v 10, .v 13], 2⟩]) (.tup [.v 0, .v 16, .v 2, .v 14, .v 15, .v 5, .v 6, .v 7, .v 8]))) (.rg [⟨[], .bin .sub, [.v 0, .k (.int .i64 1)], 1⟩]))) (.tup [.v 9, .v 1, .v 2, .v 3, .v 4, .v 5, .v 6, .v 7, .v 8])
theorem spec_l06Cylinder_b0_sh (Q : QT) (x0 x1 x2 x3 x4 x5 x6 x7 x8 : V) : shL spec_l06Cylinder_b0 Q [x0, x1, x2, x3, x4, x5, x6, x7, x8] = (
  P1 (.bin .gtr) [x0, .int .i64 0] fun v0 =>
  ifB v0 (
    P3 (.call F_l01Below 0 1) [x2, x3, x4, x8] fun v1 v2 v3 =>
    P3 (.call F_l01Below 0 1) [x2, v2, v3, x7] fun v4 v5 v6 =>
    P2 (.call F_l06Put 0 2) [x1, v1, v4] fun v7 _ =>
    P1 (.bin .sub) [x0, .int .i64 1] fun v9 =>
    Q .normal [v9, v7, x2, v5, v6, x5, x6, x7, x8]) (
    Q (.exit 0) [x1, x2, x3, x4, x5, x6, x7, x8])) := by kernel_rfl

def spec_l06Cylinder_r1 : L := .seq (.rg []) (.ret [.v 6, .v 7, .v 0, .v 2, .v 3])
theorem spec_l06Cylinder_r1_sh (Q : QT) (x0 x1 x2 x3 x4 x5 x6 x7 : V) : shL spec_l06Cylinder_r1 Q [x0, x1, x2, x3, x4, x5, x6, x7] = (
  Q .ret [x6, x7, x0, x2, x3]) := by kernel_rfl

def spec_l06Cylinder_L : L := .seq (.rg []) (.seq (.rg [⟨[], .call F_l01Below 0 1, [.v 0, .v 1, .v 2, .k (.int .i64 21)], 3⟩, ⟨[], .bin .add, [.k (.int .i64 4), .v 3], 1⟩, ⟨[], .call F_l01Below 0 1, [.v 0, .v 4, .v 5, .k (.int .i64 8)], 3⟩, ⟨[], .bin .add, [.k (.int .i64 1), .v 7], 1⟩]) (.seq (.seq (.rg [⟨[], .call F_l01Below 0 1, [.v 0, .v 8, .v 9, .k (.int .i64 10)], 3⟩]) (.block 0 (.seq (.tup [.v 11, .k (.list [.sc, .sc] []), .v 0, .v 12, .v 13, .k (.int .i64 0), .k (.int .i64 0), .v 6, .v 10]) (.loop (spec_l06Cylinder_b0))))) (spec_l06Cylinder_r1)))
theorem spec_l06Cylinder_L_sh (Q : QT) (x0 x1 x2 : V) : shL spec_l06Cylinder_L Q [x0, x1, x2] = (
  P3 (.call F_l01Below 0 1) [x0, x1, x2, .int .i64 21] fun v0 v1 v2 =>
  P1 (.bin .add) [.int .i64 4, v0] fun v3 =>
  P3 (.call F_l01Below 0 1) [x0, v1, v2, .int .i64 8] fun v4 v5 v6 =>
  P1 (.bin .add) [.int .i64 1, v4] fun v7 =>
  P3 (.call F_l01Below 0 1) [x0, v5, v6, .int .i64 10] fun v8 v9 v10 =>
  shL (.loop spec_l06Cylinder_b0) (qB 0 (qS (shL spec_l06Cylinder_r1 Q) Q)) [v8, .list [.sc, .sc] [], x0, v9, v10, .int .i64 0, .int .i64 0, v3, v7]) := by kernel_rfl
def spec_l06Cylinder_S : Sig := ⟨[.ptr [.sl [.sc], .sc, .sc]], [(true, [.sc, .sc, .sl [.sc, .sc]])], F_l06Cylinder⟩
def spec_l06Cylinder_hs : List NF := [⟨[(2, .ptr 64 0), (3, .ptr 65 0)], [(66, true, [.sc, .sc])], [(0, [.ro [.sc], .sc, .sc]), (64, [.sc, .sc, .nil]), (65, [.sc, .sc, .own 66])], 67⟩, ⟨[(0, .ptr 0 0), (2, .ptr 64 0), (3, .ptr 65 0), (4, .sc false [.sc])], [(66, true, [.sc, .sc])], [(0, [.ro [.sc], .sc, .sc]), (64, [.sc, .sc, .nil]), (65, [.sc, .sc, .own 66])], 67⟩, ⟨[(0, .ptr 0 0), (2, .ptr 64 0), (3, .ptr 65 0), (4, .sc false [.sc])], [(66, true, [.sc, .sc])], [(0, [.ro [.sc], .sc, .sc]), (64, [.sc, .sc, .nil]), (65, [.sc, .sc, .own 66])], 67⟩]

def spec_l01PickInt_L : L := .seq (.rg []) (.seq (.rg [⟨[], .len, [.v 3], 1⟩, ⟨[], .call F_l01Below 0 1, [.v 0, .v 1, .v 2, .v 4], 3⟩, ⟨[], .idx [.sc], [.v 3, .v 5], 1⟩]) (.ret [.v 8, .v 6, .v 7]))
theorem spec_l01PickInt_L_sh (Q : QT) (x0 x1 x2 x3 : V) : shL spec_l01PickInt_L Q [x0, x1, x2, x3] = (
  P1 (.len) [x3] fun v0 =>
  P3 (.call F_l01Below 0 1) [x0, x1, x2, v0] fun v1 v2 v3 =>
  P1 (.idx [.sc]) [x3, v1] fun v4 =>
  Q .ret [v4, v2, v3]) := by kernel_rfl
def spec_l01PickInt_S : Sig := ⟨[.ptr [.sl [.sc], .sc, .sc], .val false [.sl [.sc]]], [(false, [.sc])], F_l01PickInt⟩
def spec_l01PickInt_hs : List NF := []

end
end Go.Mw

/- Draws. -/
namespace Go.Mw
theorem land_range (a : Int) (m : Nat) (hm : m < 4611686018427387904) : 0 ≤ land a m ∧ land a m ≤ m := by
  have h : (BitVec.ofInt IntKind.i64.bits a &&& BitVec.ofInt IntKind.i64.bits (m : Int)).toNat ≤ m := by
    rw [BitVec.toNat_and]
    refine Nat.le_trans Nat.and_le_right ?_
    simp [BitVec.toNat_ofInt, IntKind.bits]
    omega
  unfold land
  rw [wrap_id (by omega) (by omega)]
  omega
theorem land255 (a : Int) : 0 ≤ land a 255 ∧ land a 255 ≤ 255 := land_range a 255 (by omega)
theorem hByte_range (h : Int) : 0 ≤ hByte h ∧ hByte h ≤ 255 := land255 _
theorem cByte_range (x : Cur) : 0 ≤ cByte x ∧ cByte x ≤ 255 := by
  unfold cByte
  split
  · exact land255 _
  · exact hByte_range _
@[simp] theorem cStep_b (x : Cur) : (cStep x).b = x.b := rfl
theorem cStep_i {x : Cur} (h : 0 ≤ x.i) : 0 ≤ (cStep x).i := by unfold cStep; dsimp only; split <;> omega
@[simp] theorem cAfter_b (x : Cur) (n : Int) : (cAfter x n).b = x.b := by unfold cAfter; split <;> (try split) <;> simp
theorem cAfter_i {x : Cur} {n : Int} (h : 0 ≤ x.i) : 0 ≤ (cAfter x n).i := by
  unfold cAfter
  split
  · exact h
  · split
    · exact cStep_i h
    · exact cStep_i (cStep_i (cStep_i (cStep_i h)))
theorem tmod_range {a n : Int} (ha : 0 ≤ a) (hn : 0 < n) : 0 ≤ a.tmod n ∧ a.tmod n < n := ⟨Int.tmod_nonneg _ ha, Int.tmod_lt_of_pos _ hn⟩
theorem cBelow_range (x : Cur) {n : Int} (hn : 0 < n) : 0 ≤ cBelow x n ∧ cBelow x n < n := by
  unfold cBelow
  rw [if_neg (by omega)]
  have h1 := cByte_range x
  have h2 := cByte_range (cStep x)
  have h3 := cByte_range (cStep (cStep x))
  have h4 := cByte_range (cStep (cStep (cStep x)))
  split
  · exact tmod_range (by omega) hn
  · exact tmod_range (by omega) hn

theorem laws_big_ok : ∀ ds outs, F_big ds = some outs → shL laws_big_L (qRet outs) ds := F_big_elim fun l hp => by
  rw [laws_big_L_sh]; simp; omega
theorem spec_l01New_ok : ∀ ds outs, F_l01New ds = some outs → shL spec_l01New_L (qRet outs) ds := F_l01New_elim fun l hp => by
  rw [spec_l01New_L_sh]
  have hw : IntKind.i64.wrap (33091 + (l.length : Int)) = 33091 + l.length := wrap_id (by omega) (by omega)
  simp only [P1_len, P1_add, hw]
  refine loop_upto (min l.length 4000) (fun k => [vL I1 vY l, .int .i64 (seedTo l k), .int .i64 k]) (by intro i j _ _ h; simp at h; omega) (fun _ => True) (by simp [seedTo]) trivial ?_
  intro k hk _
  rw [spec_l01New_b0_sh]
  simp
  refine ⟨fun h => ⟨fun h2 => ?_, fun h2 => ?_⟩, fun h => ?_⟩
  · have hw2 : IntKind.i64.wrap ((k : Int) + 1) = k + 1 := wrap_id (by omega) (by omega)
    have hw3 : IntKind.i64.wrap (l[k].toNat : Int) = l[k].toNat := by have := l[k].toNat_lt; exact wrap_id (by omega) (by omega)
    simp [h, hw2, hw3, seedTo]
    omega
  · obtain rfl : k = min l.length 4000 := by omega
    simp [spec_l01New_r1_sh, seedOf]
  · obtain rfl : k = min l.length 4000 := by omega
    simp [spec_l01New_r1_sh, seedOf]
theorem spec_l01Byte_ok : ∀ ds outs, F_l01Byte ds = some outs → shL spec_l01Byte_L (qRet outs) ds := F_l01Byte_elim fun x hp => by
  rw [spec_l01Byte_L_sh]
  have e33 : min (33 : Int).toNat IntKind.i64.bits = 33 := by decide
  have e45 : min (45 : Int).toNat IntKind.i64.bits = 45 := by decide
  simp only [P1_mul, P1_add, P1_shr (show (0 : Int) ≤ 33 by omega), P1_shr (show (0 : Int) ≤ 45 by omega), e33, e45, P1_xor, P1_and, P1_len, P1_lss, ifB_bool, decide_eq_true_eq, decide_eq_false_iff_not]
  have eh : IntKind.i64.wrap (IntKind.i64.wrap (x.h * 6364136223846793005) + 1442695040888963407) = hNext x.h := rfl
  have eb : land (lxor ((hNext x.h).fdiv (2 ^ 33)) ((hNext x.h).fdiv (2 ^ 45))) 255 = hByte (hNext x.h) := rfl
  simp only [eh, eb]
  refine ⟨fun h => ?_, fun h => ?_⟩
  · have hi : x.i.toNat < x.b.length := by omega
    have hw2 : IntKind.i64.wrap (x.i + 1) = x.i + 1 := wrap_id (by omega) (by omega)
    have hw3 : IntKind.i64.wrap (x.b[x.i.toNat].toNat : Int) = x.b[x.i.toNat].toNat := by have := x.b[x.i.toNat].toNat_lt; exact wrap_id (by omega) (by omega)
    simp [hp.1, hi, h, hw2, hw3, cByte, cStep]
  · have hi : x.b[x.i.toNat]? = none := by rw [List.getElem?_eq_none_iff]; omega
    simp [hi, h, cByte, cStep]
theorem q_byte {b : List UInt8} (c : Cur) {n : Nat} {k : V → V → V → Prop} (hb : c.b = b) (h : 0 ≤ c.i) (hl : b.length ≤ 1048576) : P3 (.call F_l01Byte 0 n) [vL I1 vY b, .int .i64 c.i, .int .i64 c.h] k ↔ k (.int .i64 (cByte c)) (.int .i64 (cStep c).i) (.int .i64 (cStep c).h) := by
  subst hb; exact p_l01Byte ⟨h, hl⟩
theorem spec_l01Below_ok : ∀ ds outs, F_l01Below ds = some outs → shL spec_l01Below_L (qRet outs) ds := F_l01Below_elim fun x n hp => by
  rw [spec_l01Below_L_sh]
  have hb := hp.2
  have i0 := hp.1
  have i1 := cStep_i i0
  have i2 := cStep_i i1
  have i3 := cStep_i i2
  have h1 := cByte_range x
  have h2 := cByte_range (cStep x)
  have h3 := cByte_range (cStep (cStep x))
  have h4 := cByte_range (cStep (cStep (cStep x)))
  by_cases hn : n ≤ 0
  · simp [hn, cBelow, cAfter]
  · by_cases hn2 : n ≤ 256
    · simp [hn, hn2, cBelow, cAfter, q_byte x, i0, hb]; omega
    · have w1 : IntKind.i64.wrap (cByte x * 16777216) = cByte x * 16777216 := wrap_id (by omega) (by omega)
      have w2 : IntKind.i64.wrap (cByte (cStep x) * 65536) = cByte (cStep x) * 65536 := wrap_id (by omega) (by omega)
      have w3 : IntKind.i64.wrap (cByte x * 16777216 + cByte (cStep x) * 65536) = cByte x * 16777216 + cByte (cStep x) * 65536 := wrap_id (by omega) (by omega)
      have w4 : IntKind.i64.wrap (cByte (cStep (cStep x)) * 256) = cByte (cStep (cStep x)) * 256 := wrap_id (by omega) (by omega)
      have w5 : IntKind.i64.wrap (cByte x * 16777216 + cByte (cStep x) * 65536 + cByte (cStep (cStep x)) * 256) = cByte x * 16777216 + cByte (cStep x) * 65536 + cByte (cStep (cStep x)) * 256 := wrap_id (by omega) (by omega)
      have w6 : IntKind.i64.wrap (cByte x * 16777216 + cByte (cStep x) * 65536 + cByte (cStep (cStep x)) * 256 + cByte (cStep (cStep (cStep x)))) = cByte x * 16777216 + cByte (cStep x) * 65536 + cByte (cStep (cStep x)) * 256 + cByte (cStep (cStep (cStep x))) := wrap_id (by omega) (by omega)
      simp only [P1_leq, ifB_bool, decide_eq_true_eq, decide_eq_false_iff_not]
      refine ⟨fun h => absurd h hn, fun _ => ⟨fun h => absurd h hn2, fun _ => ?_⟩⟩
      rw [q_byte (b := x.b) x rfl i0 hb, q_byte (b := x.b) (cStep x) rfl i1 hb, q_byte (b := x.b) (cStep (cStep x)) rfl i2 hb, q_byte (b := x.b) (cStep (cStep (cStep x))) rfl i3 hb]
      simp [hn, hn2, cBelow, cAfter, w1, w2, w3, w4, w5, w6]; omega
theorem q_below {b : List UInt8} (c : Cur) {n : Int} {m : Nat} {k : V → V → V → Prop} (hb : c.b = b) (h : 0 ≤ c.i) (hl : b.length ≤ 1048576) : P3 (.call F_l01Below 0 m) [vL I1 vY b, .int .i64 c.i, .int .i64 c.h, .int .i64 n] k ↔ k (.int .i64 (cBelow c n)) (.int .i64 (cAfter c n).i) (.int .i64 (cAfter c n).h) := by
  subst hb; exact p_l01Below ⟨h, hl⟩

/-! putting a pin -/
theorem put_at : ∀ (l : List T2) (y : T2) (i : Nat), (∀ j (h : j < l.length), j < i → pinLess l[j] y = true) → i ≤ l.length → (∀ (h : i < l.length), pinLess l[i] y = false) →
    putPin l y = (if l[i]? = some y then l else l.take i ++ [y] ++ l.drop i) ∧ putNew l y = !decide (l[i]? = some y)
  | [], y, i, _, hi, _ => by
    obtain rfl : i = 0 := by simpa using hi
    simp [putPin, putNew]
  | a :: r, y, 0, _, _, h => by
    have h := h (by simp)
    simp only [List.getElem_cons_zero] at h
    by_cases e : a = y
    · subst e; simp [putPin, putNew, h]
    · simp [putPin, putNew, h, e]
  | a :: r, y, i + 1, h1, h2, h3 => by
    have ha := h1 0 (by simp) (by omega)
    simp only [List.getElem_cons_zero] at ha
    have ih := put_at r y i (fun j hj hji => by have := h1 (j + 1) (by simp; omega) (by omega); simpa using this) (by simpa using h2) (fun h => by have := h3 (by simp; omega); simpa using this)
    simp only [putPin, putNew, ha, if_true, List.getElem?_cons_succ, ih.1, ih.2, List.take_succ_cons, List.drop_succ_cons]
    refine ⟨?_, trivial⟩
    split <;> simp
theorem spec_l06Put_ok : ∀ ds outs, F_l06Put ds = some outs → shL spec_l06Put_L (qRet outs) ds := F_l06Put_elim fun l y hp => by
  rw [spec_l06Put_L_sh]
  refine loop_upto l.length (fun k => [vL I2 v2 l, .int .i64 k, .int .i64 y.a, .int .i64 y.b]) (by intro i j _ _ h; simp at h; omega) (fun k => ∀ j (h : j < l.length), j < k → pinLess l[j] y = true) (by simp) (by simp) ?_
  intro k hk hP
  have fin : (∀ (h : k < l.length), pinLess l[k] y = false) → shL spec_l06Put_r1 (qRet [vL I2 v2 (putPin l y), .bool (putNew l y)]) [vL I2 v2 l, .int .i64 k, .int .i64 y.a, .int .i64 y.b] := by
    intro h
    obtain ⟨e1, e2⟩ := put_at l y k hP hk h
    rw [spec_l06Put_r1_sh, e1, e2]
    by_cases hl : k < l.length
    · by_cases hy : l[k] = y
      · have h5 : l[k].a = y.a ∧ l[k].b = y.b := by rw [hy]; exact ⟨rfl, rfl⟩
        simp [hl, hy]; omega
      · have h5 : ¬ (l[k].a = y.a ∧ l[k].b = y.b) := fun h => hy (by cases hh : l[k]; rw [hh] at h; cases y; simp_all)
        simp [hl, hy, h5]; omega
    · have h6 : k = l.length := by omega
      subst h6
      simp; omega
  rw [spec_l06Put_b0_sh]
  simp
  refine ⟨fun h => ?_, fun h => fin (fun h2 => absurd h2 (by omega))⟩
  simp only [List.getElem?_eq_getElem h, Option.some.injEq, exists_eq_left']
  cases hl : pinLess l[k] y with
  | false =>
    simp [hl]
    exact fin (fun _ => hl)
  | true =>
    have hw : IntKind.i64.wrap ((k : Int) + 1) = k + 1 := wrap_id (by omega) (by omega)
    simp [hl, hw, h]
    intro j hj hjk
    by_cases e : j = k
    · subst e; exact hl
    · exact hP j hj (by omega)
theorem putPin_len (l : List T2) (y : T2) : (putPin l y).length ≤ l.length + 1 := by
  induction l with
  | nil => simp [putPin]
  | cons a r ih => unfold putPin; split <;> (try split) <;> simp <;> omega
end Go.Mw

/- Drawn cylinders and states. -/
namespace Go.Mw
theorem within_iff' {a b c : Int} : within a b c = true ↔ b ≤ a ∧ a ≤ c := by simp [within]
@[simp] theorem P1_lstI3 {a b c : Int} {k : V → Prop} : P1 (.lst [.sc] false 3) [.int .i64 a, .int .i64 b, .int .i64 c] k ↔ k (vL I1 v1 [a, b, c]) := P1_of (by simp [Prim.run, aksOk, akOk, chunk, V.pack, vL, v1]) k

theorem pinLess_or {a b : T2} (h : pinLess a b = false) (hne : a ≠ b) : pinLess b a = true := by
  cases a; cases b
  simp only [pinLess, decide_eq_false_iff_not, decide_eq_true_eq, ne_eq, T2.mk.injEq] at *
  omega
theorem rising_cons {a : T2} {r : List T2} : rising (a :: r) = true ↔ (∀ h, r.head? = some h → pinLess a h = true) ∧ rising r = true := by
  cases r <;> simp [rising]
theorem putPin_head {l : List T2} {y h : T2} (hh : (putPin l y).head? = some h) : h = y ∨ l.head? = some h := by
  cases l with
  | nil => simp [putPin] at hh; exact .inl hh.symm
  | cons a r =>
    unfold putPin at hh
    split at hh
    · simp at hh; exact .inr (by simp [hh])
    · split at hh
      · simp at hh; exact .inr (by simp [hh])
      · simp at hh; exact .inl hh.symm
theorem putPin_rising {l : List T2} {y : T2} (h : rising l = true) : rising (putPin l y) = true := by
  induction l with
  | nil => simp [putPin, rising]
  | cons a r ih =>
    have hr := rising_cons.1 h
    unfold putPin
    by_cases h1 : pinLess a y = true
    · rw [if_pos h1, rising_cons]
      refine ⟨fun b hb => ?_, ih hr.2⟩
      rcases putPin_head hb with rfl | hb
      · exact h1
      · exact hr.1 b hb
    · rw [if_neg h1]
      by_cases h2 : a = y
      · rw [if_pos h2]; exact h
      · rw [if_neg h2, rising_cons]
        refine ⟨fun b hb => ?_, h⟩
        simp only [List.head?_cons, Option.some.injEq] at hb
        subst hb
        exact pinLess_or (by simpa using h1) h2
theorem putPin_mem {l : List T2} {y p : T2} (h : p ∈ putPin l y) : p = y ∨ p ∈ l := by
  induction l with
  | nil => simpa [putPin] using h
  | cons a r ih =>
    unfold putPin at h
    split at h
    · rcases List.mem_cons.1 h with rfl | h
      · simp
      · rcases ih h with h | h
        · exact .inl h
        · exact .inr (by simp [h])
    · split at h
      · exact .inr h
      · rcases List.mem_cons.1 h with h | h
        · exact .inl h
        · exact .inr h

theorem cyl_inv (s t : Int) (x : Cur) (hs : 0 < s) (ht : 0 < t) (hi : 0 ≤ x.i) (k : Nat) :
    (cylTo s t x k).2.b = x.b ∧ 0 ≤ (cylTo s t x k).2.i ∧ (cylTo s t x k).1.length ≤ k ∧ rising (cylTo s t x k).1 = true ∧ ∀ p ∈ (cylTo s t x k).1, pinIn s t p = true := by
  induction k with
  | zero => exact ⟨rfl, hi, by simp [cylTo], by simp [cylTo, rising], by simp [cylTo]⟩
  | succ k ih =>
    obtain ⟨h1, h2, h3, h4, h5⟩ := ih
    refine ⟨by simp [cylTo, h1], cAfter_i (cAfter_i h2), ?_, putPin_rising h4, fun p hp => ?_⟩
    · exact Nat.le_trans (putPin_len _ _) (by omega)
    · rcases putPin_mem hp with rfl | hp
      · have g1 := cBelow_range (cylTo s t x k).2 ht
        have g2 := cBelow_range (cAfter (cylTo s t x k).2 t) hs
        simp only [pinIn, Bool.and_eq_true, within_iff']
        omega
      · exact h5 p hp
theorem cylX_i {x : Cur} (hi : 0 ≤ x.i) : 0 ≤ (cylX x).i := cAfter_i (cAfter_i (cAfter_i hi))
@[simp] theorem cylX_b (x : Cur) : (cylX x).b = x.b := by simp [cylX]
theorem cyl_r (x : Cur) : (4 ≤ cylS x ∧ cylS x ≤ 24) ∧ (1 ≤ cylT x ∧ cylT x ≤ 8) ∧ (0 ≤ cylN x ∧ cylN x ≤ 9) := by
  have h1 := cBelow_range x (show (0 : Int) < 21 by omega)
  have h2 := cBelow_range (cAfter x 21) (show (0 : Int) < 8 by omega)
  have h3 := cBelow_range (cAfter (cAfter x 21) 8) (show (0 : Int) < 10 by omega)
  simp only [cylS, cylT, cylN]; omega
theorem cylOf_ok {x : Cur} (hi : 0 ≤ x.i) : cylOk (cylOf x) = true ∧ (cylOf x).p.length ≤ 9 := by
  obtain ⟨r1, r2, r3⟩ := cyl_r x
  obtain ⟨-, -, h3, h4, h5⟩ := cyl_inv (cylS x) (cylT x) (cylX x) (by omega) (by omega) (cylX_i hi) (cylN x).toNat
  refine ⟨?_, by simp only [cylOf]; omega⟩
  simp only [cylOk, cylOf, Bool.and_eq_true, within_iff', decide_eq_true_eq, List.all_eq_true]
  have h6 : (cylTo (cylS x) (cylT x) (cylX x) (cylN x).toNat).1.length ≤ 100 := by omega
  exact ⟨⟨⟨by omega, by omega⟩, decide_eq_true h6⟩, h5, h4⟩
theorem spec_l06Cylinder_ok : ∀ ds outs, F_l06Cylinder ds = some outs → shL spec_l06Cylinder_L (qRet outs) ds := F_l06Cylinder_elim fun x hp => by
  obtain ⟨i0, hb⟩ := hp
  have i1 : 0 ≤ (cAfter x 21).i := cAfter_i i0
  have i2 : 0 ≤ (cAfter (cAfter x 21) 8).i := cAfter_i i1
  obtain ⟨r1, r2, r3⟩ := cyl_r x
  have w1 : IntKind.i64.wrap (4 + cBelow x 21) = cylS x := by have : 4 + cBelow x 21 = cylS x := rfl; rw [this]; exact wrap_id (by omega) (by omega)
  have w2 : IntKind.i64.wrap (1 + cBelow (cAfter x 21) 8) = cylT x := by have : 1 + cBelow (cAfter x 21) 8 = cylT x := rfl; rw [this]; exact wrap_id (by omega) (by omega)
  rw [spec_l06Cylinder_L_sh, q_below (b := x.b) x rfl i0 hb]
  simp only [P1_add, w1]
  rw [q_below (b := x.b) (cAfter x 21) (by simp) i1 hb]
  simp only [P1_add, w2]
  rw [q_below (b := x.b) (cAfter (cAfter x 21) 8) (by simp) i2 hb]
  refine loop_upto (cylN x).toNat (fun k => [.int .i64 (cylN x - k), vL I2 v2 (cylTo (cylS x) (cylT x) (cylX x) k).1, vL I1 vY x.b, .int .i64 (cylTo (cylS x) (cylT x) (cylX x) k).2.i, .int .i64 (cylTo (cylS x) (cylT x) (cylX x) k).2.h, .int .i64 0, .int .i64 0, .int .i64 (cylS x), .int .i64 (cylT x)]) (by intro i j _ _ h; simp at h; omega) (fun _ => True) (by simp [cylTo, cylN, cylX]) trivial ?_
  intro k hk _
  obtain ⟨g1, g2, g3, -, -⟩ := cyl_inv (cylS x) (cylT x) (cylX x) (by omega) (by omega) (cylX_i i0) k
  rw [cylX_b] at g1
  rw [spec_l06Cylinder_b0_sh]
  simp only [P1_gtr, ifB_bool, decide_eq_true_eq, decide_eq_false_iff_not]
  refine ⟨fun h => ?_, fun h => ?_⟩
  · rw [q_below (b := x.b) _ g1 g2 hb, q_below (b := x.b) (cAfter _ _) (by simp [g1]) (cAfter_i g2) hb]
    have hw : IntKind.i64.wrap (cylN x - (k : Int) - 1) = cylN x - ((k + 1 : Nat) : Int) := by rw [wrap_id (by omega) (by omega)]; omega
    have hl : (cylTo (cylS x) (cylT x) (cylX x) k).1.length ≤ 1048576 := by omega
    rw [p_l06Put (l := (cylTo (cylS x) (cylT x) (cylX x) k).1) hl]
    simp only [P1_sub, hw]
    exact ⟨by omega, rfl, trivial⟩
  · have e : k = (cylN x).toNat := by omega
    subst e
    simp [spec_l06Cylinder_r1_sh, cylOf, cylEnd]
theorem cylEnd_b {x : Cur} (hi : 0 ≤ x.i) : (cylEnd x).b = x.b ∧ 0 ≤ (cylEnd x).i := by
  obtain ⟨r1, r2, r3⟩ := cyl_r x
  obtain ⟨g1, g2, -⟩ := cyl_inv (cylS x) (cylT x) (cylX x) (by omega) (by omega) (cylX_i hi) (cylN x).toNat
  exact ⟨by rw [cylX_b] at g1; exact g1, g2⟩
theorem spec_l01PickInt_ok : ∀ ds outs, F_l01PickInt ds = some outs → shL spec_l01PickInt_L (qRet outs) ds := F_l01PickInt_elim fun x l hp => by
  obtain ⟨i0, hb, h1, h2⟩ := hp
  rw [spec_l01PickInt_L_sh]
  simp only [P1_len]
  rw [q_below (b := x.b) x rfl i0 hb]
  have hr := cBelow_range x (show (0 : Int) < l.length by omega)
  have h3 : (cBelow x l.length).toNat < l.length := by omega
  simp [h3, hr.1]
theorem q_pick {b : List UInt8} (c : Cur) {l : List Int} {m : Nat} {k : V → V → V → Prop} (hb : c.b = b) (h : 0 ≤ c.i) (hl : b.length ≤ 1048576) (h1 : 1 ≤ l.length) (h2 : l.length ≤ 1048576) : P3 (.call F_l01PickInt 0 m) [vL I1 vY b, .int .i64 c.i, .int .i64 c.h, vL I1 v1 l] k ↔ k (.int .i64 (l[(cBelow c l.length).toNat]?.getD 0)) (.int .i64 (cAfter c l.length).i) (.int .i64 (cAfter c l.length).h) := by
  subst hb; exact p_l01PickInt ⟨h, hl, h1, h2⟩
end Go.Mw

/- Stops. -/
namespace Go.Mw
@[simp] theorem P1_neaX {a c e g : Int} {b f : Bool} {k : V → Prop} : P1 (.eqa true [.i, .b, .i]) [.int .i64 a, .bool b, .int .i64 c, .int .i64 e, .bool f, .int .i64 g] k ↔ k (.bool (!decide (a = e ∧ b = f ∧ c = g))) := P1_of (by simp only [Prim.run, eqVs, eqV1, List.length_cons, List.length_nil, List.take, List.drop, if_true]; cases b <;> cases f <;> simp <;> grind) k
theorem pinsAt_le (c : Cyl) (a : Int) : (pinsAt c a).length ≤ c.p.length := by
  unfold pinsAt
  split
  · simpa using List.length_filter_le _ _
  · simp
theorem it_p (c : Cyl) (x : Stt) : ∀ k, (itS c x k).p = x.p + (itL c x k).length ∧ (itL c x k).length ≤ k * c.p.length
  | 0 => by simp [itS, itL]
  | k + 1 => by
    obtain ⟨h1, h2⟩ := it_p c x k
    have h3 := pinsAt_le c (itS c x k).a
    simp only [itS, itL, nextStt, List.length_append, h1, Nat.add_mul]
    omega
/-- A state of a small cylinder. -/
structure Small (c : Cyl) (x : Stt) : Prop where
  ok : sttOk c x = true
  len : c.p.length ≤ 9
  p : x.p ≤ 77
theorem Small.it {c : Cyl} {x : Stt} (h : Small c x) (hn : x.n = true) {k : Nat} (hk : k ≤ runN c x) : sttOk c (itS c x k) = true := by
  have h0 := (sttOk_iff c x).1 h.ok
  have hb := cylOk_bounds h0.1
  have h1 := it_p c x k
  have h77 := h.p
  have h2 : k * c.p.length ≤ 96 * 9 := Nat.mul_le_mul (by simp only [runN] at hk; omega) h.len
  rw [sttOk_iff]
  refine ⟨h0.1, ?_, by omega⟩
  by_cases e : k < runN c x
  · have := (itS_on h.ok hn k e).1
    simp only [runN] at e
    omega
  · obtain rfl : k = runN c x := by omega
    have := (itS_off h.ok hn).1
    omega
theorem Small.can {c : Cyl} {x : Stt} (h : Small c x) (hn : x.n = true) {k : Nat} (hk : k < runN c x) : canStep c (itS c x k) = true := by
  rw [canStep_iff]
  exact ⟨h.it hn (by omega), (itS_on h.ok hn k hk).2, h.it hn (k := k + 1) hk⟩
def runM (c : Cyl) (x : Stt) : Nat := if x.n then runN c x else 0
theorem Small.steps {c : Cyl} {x : Stt} (h : Small c x) : stepsLeft c x = runM c x := by
  have h0 := (sttOk_iff c x).1 h.ok
  unfold stepsLeft runM
  rw [if_pos h.ok]
  cases x.n
  · simp
  · simp only [if_true, runN]; omega
theorem Small.run {c : Cyl} {x : Stt} (h : Small c x) : runBox c x = (itS c x (runM c x), itL c x (runM c x)) := by
  unfold runBox runM
  cases hn : x.n with
  | false =>
    have : runOk c x = false := by simp [runOk, hn]
    simp [this, itS, itL]
  | true =>
    have : runOk c x = true := by
      simp only [runOk, h.ok, hn, Bool.true_and, List.all_eq_true, List.mem_range]
      intro k hk; exact h.can hn hk
    simp [this]
end Go.Mw

/- The law on stops. -/
namespace Go.Mw
end Go.Mw

/- What functions compute, in plain terms: sums. -/
namespace Go.Mw
def atB (l : List UInt8) (n : Int) : Int := match l[((n * 5 + 1) % l.length).toNat]? with | some x => x.toNat | none => 0
def E_at : List UInt8 × Int → List V := fun (l, n) => [vL I1 vY l, .int .i64 n]
noncomputable def F_at : List V → Option (List V) := mkF E_at (fun (l, n) => l.length ≤ 1048576 ∧ 0 ≤ n ∧ n ≤ 1000000) (fun (l, n) => [.int .i64 (atB l n)])
theorem F_at_inj : ∀ x y, E_at x = E_at y → x = y := by
  rintro ⟨l, n⟩ ⟨l', n'⟩ h
  simpa [E_at] using h
theorem F_at_elim {P : List V → List V → Prop} (h : ∀ (l : List UInt8) (n : Int), (l.length ≤ 1048576 ∧ 0 ≤ n ∧ n ≤ 1000000) → P [vL I1 vY l, .int .i64 n] [.int .i64 (atB l n)]) : ∀ ds outs, F_at ds = some outs → P ds outs := by
  intro ds outs hh
  obtain ⟨⟨l, n⟩, rfl, hp, rfl⟩ := mkF_inv hh
  exact h l n hp
theorem p_at {l : List UInt8} {n : Int} {nr_ : Nat} {kk_ : V → Prop} (hp : l.length ≤ 1048576 ∧ 0 ≤ n ∧ n ≤ 1000000) : P1 (.call F_at 0 nr_) [vL I1 vY l, .int .i64 n] kk_ ↔ kk_ (.int .i64 (atB l n)) :=
  P1_callF (by unfold F_at; exact mkF_eq F_at_inj (l, n) hp)

def E_has : List Int × Int → List V := fun (l, n) => [vL I1 v1 l, .int .i64 n]
noncomputable def F_has : List V → Option (List V) := mkF E_has (fun (l, _) => l.length ≤ 1048576) (fun (l, n) => [.bool (decide (n ∈ l))])
theorem F_has_inj : ∀ x y, E_has x = E_has y → x = y := by
  rintro ⟨l, n⟩ ⟨l', n'⟩ h
  simpa [E_has] using h
theorem F_has_elim {P : List V → List V → Prop} (h : ∀ (l : List Int) (n : Int), (l.length ≤ 1048576) → P [vL I1 v1 l, .int .i64 n] [.bool (decide (n ∈ l))]) : ∀ ds outs, F_has ds = some outs → P ds outs := by
  intro ds outs hh
  obtain ⟨⟨l, n⟩, rfl, hp, rfl⟩ := mkF_inv hh
  exact h l n hp
theorem p_has {l : List Int} {n : Int} {nr_ : Nat} {kk_ : V → Prop} (hp : l.length ≤ 1048576) : P1 (.call F_has 0 nr_) [vL I1 v1 l, .int .i64 n] kk_ ↔ kk_ (.bool (decide (n ∈ l))) :=
  P1_callF (by unfold F_has; exact mkF_eq F_has_inj (l, n) hp)

end Go.Mw

/- Functions of the program, as small pure programs (printed by a program of ours). -/
namespace Go.Mw
noncomputable section
def laws_at_L : L := .seq (.rg []) (.seq (.seq (.rg [⟨[], .len, [.v 0], 1⟩, ⟨[], .bin .eql, [.v 2, .k (.int .i64 0)], 1⟩]) (.ite (.v 3) (.seq (.rg []) (.ret [.k (.int .i64 0)])) (.skip))) (.seq (.rg [⟨[], .bin .mul, [.v 1, .k (.int .i64 5)], 1⟩, ⟨[], .bin .add, [.v 4, .k (.int .i64 1)], 1⟩, ⟨[], .len, [.v 0], 1⟩, ⟨[], .bin .rem, [.v 5, .v 6], 1⟩, ⟨[], .idx [.sc], [.v 0, .v 7], 1⟩, ⟨[], .conv .i64, [.v 8], 1⟩]) (.ret [.v 9])))
theorem laws_at_L_sh (Q : QT) (x0 x1 : V) : shL laws_at_L Q [x0, x1] = (
  P1 (.len) [x0] fun v0 =>
  P1 (.bin .eql) [v0, .int .i64 0] fun v1 =>
  ifB v1 (
    Q .ret [.int .i64 0]) (
    P1 (.bin .mul) [x1, .int .i64 5] fun v2 =>
    P1 (.bin .add) [v2, .int .i64 1] fun v3 =>
    P1 (.len) [x0] fun v4 =>
    P1 (.bin .rem) [v3, v4] fun v5 =>
    P1 (.idx [.sc]) [x0, v5] fun v6 =>
    P1 (.conv .i64) [v6] fun v7 =>
    Q .ret [v7])) := by kernel_rfl
def laws_at_S : Sig := ⟨[.val false [.sl [.sc]], .val false [.sc]], [(false, [.sc])], F_at⟩
def laws_at_hs : List NF := []

def laws_has_b0 : L := .seq (.seq (.seq (.rg [⟨[], .len, [.v 0], 1⟩, ⟨[], .bin .lss, [.v 2, .v 3], 1⟩]) (.ite (.v 4) (.skip) (.seq (.tup []) (.exit 0)))) (.seq (.block 1 (.seq (.seq (.rg [⟨[], .idx [.sc], [.v 0, .v 2], 1⟩, ⟨[], .bin .eql, [.v 5, .v 1], 1⟩]) (.ite (.v 6) (.seq (.rg []) (.ret [.k (.bool true)])) (.skip))) (.tup [.v 0, .v 1, .v 2]))) (.rg [⟨[], .bin .add, [.v 2, .k (.int .i64 1)], 1⟩]))) (.tup [.v 0, .v 1, .v 3])
theorem laws_has_b0_sh (Q : QT) (x0 x1 x2 : V) : shL laws_has_b0 Q [x0, x1, x2] = (
  P1 (.len) [x0] fun v0 =>
  P1 (.bin .lss) [x2, v0] fun v1 =>
  ifB v1 (
    P1 (.idx [.sc]) [x0, x2] fun v2 =>
    P1 (.bin .eql) [v2, x1] fun v3 =>
    ifB v3 (
      Q .ret [.bool true]) (
      P1 (.bin .add) [x2, .int .i64 1] fun v4 =>
      Q .normal [x0, x1, v4])) (
    Q (.exit 0) [])) := by kernel_rfl

def laws_has_r1 : L := .seq (.rg []) (.ret [.k (.bool false)])
theorem laws_has_r1_sh (Q : QT) : shL laws_has_r1 Q [] = (
  Q .ret [.bool false]) := by kernel_rfl

def laws_has_L : L := .seq (.rg []) (.seq (.seq (.rg []) (.block 0 (.seq (.tup [.v 0, .v 1, .k (.int .i64 0)]) (.loop (laws_has_b0))))) (laws_has_r1))
theorem laws_has_L_sh (Q : QT) (x0 x1 : V) : shL laws_has_L Q [x0, x1] = (
  shL (.loop laws_has_b0) (qB 0 (qS (shL laws_has_r1 Q) Q)) [x0, x1, .int .i64 0]) := by kernel_rfl
def laws_has_S : Sig := ⟨[.val false [.sl [.sc]], .val false [.sc]], [(false, [.sc])], F_has⟩
def laws_has_hs : List NF := [⟨[], [], [], 64⟩, ⟨[(0, .sc false [.ro [.sc]]), (1, .sc false [.sc]), (5, .sc false [.sc])], [], [], 64⟩, ⟨[(0, .sc false [.ro [.sc]]), (1, .sc false [.sc]), (5, .sc false [.sc])], [], [], 64⟩]

end
end Go.Mw

/- Drawn digits; swaps. -/
namespace Go.Mw
theorem laws_at_ok : ∀ ds outs, F_at ds = some outs → shL laws_at_L (qRet outs) ds := F_at_elim fun l n hp => by
  obtain ⟨h1, h2, h3⟩ := hp
  rw [laws_at_L_sh]
  have w1 : IntKind.i64.wrap (n * 5) = n * 5 := wrap_id (by omega) (by omega)
  have w2 : IntKind.i64.wrap (n * 5 + 1) = n * 5 + 1 := wrap_id (by omega) (by omega)
  by_cases h : l = []
  · subst h; simp [atB]
  · have hl : 0 < l.length := List.length_pos_iff.2 h
    have e : (n * 5 + 1).tmod l.length = (n * 5 + 1) % l.length := Int.tmod_eq_emod_of_nonneg (by omega)
    have r1 := Int.emod_nonneg (n * 5 + 1) (show (l.length : Int) ≠ 0 by omega)
    have r2 := Int.emod_lt_of_pos (n * 5 + 1) (show (0 : Int) < l.length by omega)
    have r3 : ((n * 5 + 1) % l.length).toNat < l.length := by omega
    have hw3 : IntKind.i64.wrap (l[((n * 5 + 1) % l.length).toNat].toNat : Int) = l[((n * 5 + 1) % l.length).toNat].toNat := by have := l[((n * 5 + 1) % l.length).toNat].toNat_lt; exact wrap_id (by omega) (by omega)
    have h0 : ¬ ((l.length : Int) = 0) := by omega
    simp [w1, w2, h, e, r1, r3, hw3, atB]
theorem laws_has_ok : ∀ ds outs, F_has ds = some outs → shL laws_has_L (qRet outs) ds := F_has_elim fun l n hp => by
  rw [laws_has_L_sh]
  refine loop_upto l.length (fun k => [vL I1 v1 l, .int .i64 n, .int .i64 k]) (by intro i j _ _ h; simp at h; omega) (fun k => n ∉ l.take k) (by simp) (by simp) ?_
  intro k hk hP
  rw [laws_has_b0_sh]
  simp
  refine ⟨fun h => ?_, fun h => ?_⟩
  · have hw : IntKind.i64.wrap ((k : Int) + 1) = k + 1 := wrap_id (by omega) (by omega)
    simp [h, hw]
    refine ⟨fun e => by rw [← e]; exact List.getElem_mem h, fun e => ?_⟩
    rw [take_succ_get h]
    simp only [List.mem_append, List.mem_singleton, not_or]
    exact ⟨hP, fun h => e h.symm⟩
  · obtain rfl : k = l.length := by omega
    rw [List.take_length] at hP
    simp [laws_has_r1_sh, hP]
end Go.Mw

/- Words of digits with a check; the law on sums. -/
namespace Go.Mw
/-- A word of digits. -/
structure Word (w : List Int) : Prop where
  lo : 2 ≤ w.length
  hi : w.length ≤ 21
  dig : ∀ x ∈ w, 0 ≤ x ∧ x ≤ 9
theorem Word.are {w : List Int} (h : Word w) : areDigits w 2 21 = true := by
  rw [areDigits_iff]
  have h1 := h.lo; have h2 := h.hi
  exact ⟨within_iff'.2 (by omega), fun x hx => within_iff'.2 (h.dig x hx)⟩
theorem Word.set {w : List Int} (h : Word w) {k : Nat} {e : Int} (he : 0 ≤ e ∧ e ≤ 9) : Word (w.set k e) := by
  refine ⟨by simpa using h.lo, by simpa using h.hi, fun x hx => ?_⟩
  rcases List.mem_or_eq_of_mem_set hx with hx | rfl
  · exact h.dig x hx
  · exact he
end Go.Mw

/- The law on sums. -/
namespace Go.Mw
end Go.Mw

/- What functions compute, in plain terms: sorted pins; setting a pin. -/
namespace Go.Mw
def cmpPins (x y : T2) : Int := if pinLess x y then -1 else if x = y then 0 else 1
def sortPins (l : List T2) : List T2 := l.mergeSort fun x y => !pinLess y x
def E_slices_SortFunc_Limpl_Pin_impl_Pin (l : List T2) : List V := [vL I2 v2 l]
noncomputable def F_slices_SortFunc_Limpl_Pin_impl_Pin : List V → Option (List V) := mkF E_slices_SortFunc_Limpl_Pin_impl_Pin (fun l => l.length ≤ 1048576) (fun l => [vL I2 v2 (sortPins l)])
theorem F_slices_SortFunc_Limpl_Pin_impl_Pin_inj : ∀ x y, E_slices_SortFunc_Limpl_Pin_impl_Pin x = E_slices_SortFunc_Limpl_Pin_impl_Pin y → x = y := by
  rintro l l' h
  simpa [E_slices_SortFunc_Limpl_Pin_impl_Pin] using h
theorem p_slices_SortFunc_Limpl_Pin_impl_Pin {l : List T2} {kk_ : V → Prop} (hp : l.length ≤ 1048576) : P1 (.call F_slices_SortFunc_Limpl_Pin_impl_Pin 1 0) [vL I2 v2 l, vL I2 v2 l] kk_ ↔ kk_ (vL I2 v2 (sortPins l)) :=
  P1_of (callIo_run (as := [vL I2 v2 l]) (rs := [vL I2 v2 l]) (n := 1) (nr := 0) rfl (by simp) (by unfold F_slices_SortFunc_Limpl_Pin_impl_Pin; exact mkF_eq F_slices_SortFunc_Limpl_Pin_impl_Pin_inj (l) hp) (by simp [ksAll, vL, AK.eqs_refl]) rfl) kk_

def E_sortedPins (l : List T2) : List V := [vL I2 v2 l]
noncomputable def F_sortedPins : List V → Option (List V) := mkF E_sortedPins (fun l => l.length ≤ 1048576) (fun l => [vL I2 v2 (sortPins l)])
theorem F_sortedPins_inj : ∀ x y, E_sortedPins x = E_sortedPins y → x = y := by
  rintro l l' h
  simpa [E_sortedPins] using h
theorem F_sortedPins_elim {P : List V → List V → Prop} (h : ∀ (l : List T2), (l.length ≤ 1048576) → P [vL I2 v2 l] [vL I2 v2 (sortPins l)]) : ∀ ds outs, F_sortedPins ds = some outs → P ds outs := by
  intro ds outs hh
  obtain ⟨l, rfl, hp, rfl⟩ := mkF_inv hh
  exact h l hp
theorem p_sortedPins {l : List T2} {nr_ : Nat} {kk_ : V → Prop} (hp : l.length ≤ 1048576) : P1 (.call F_sortedPins 0 nr_) [vL I2 v2 l] kk_ ↔ kk_ (vL I2 v2 (sortPins l)) :=
  P1_callF (by unfold F_sortedPins; exact mkF_eq F_sortedPins_inj (l) hp)

def addOk (c : Cyl) (p : T2) : Bool := cylOk c && (!decide (p ∈ c.p) && cylOk ⟨c.s, c.t, putPin c.p p⟩)
def addTo (c : Cyl) (p : T2) : Cyl := if addOk c p then ⟨c.s, c.t, putPin c.p p⟩ else c
def E_AddPin : Cyl × T2 → List V := fun (x, y) => [.int .i64 x.s, .int .i64 x.t, vL I2 v2 x.p, .int .i64 y.a, .int .i64 y.b]
noncomputable def F_AddPin : List V → Option (List V) := mkF E_AddPin (fun (x, _) => x.p.length ≤ 1048576) (fun (x, y) => [.int .i64 (addTo x y).s, .int .i64 (addTo x y).t, vL I2 v2 (addTo x y).p, .bool (addOk x y)])
theorem F_AddPin_inj : ∀ x y, E_AddPin x = E_AddPin y → x = y := by
  rintro ⟨⟨xs, xt, xp⟩, ⟨ya, yb⟩⟩ ⟨⟨xs', xt', xp'⟩, ⟨ya', yb'⟩⟩ h
  simpa [E_AddPin, and_assoc] using h
theorem F_AddPin_elim {P : List V → List V → Prop} (h : ∀ (x : Cyl) (y : T2), (x.p.length ≤ 1048576) → P [.int .i64 x.s, .int .i64 x.t, vL I2 v2 x.p, .int .i64 y.a, .int .i64 y.b] [.int .i64 (addTo x y).s, .int .i64 (addTo x y).t, vL I2 v2 (addTo x y).p, .bool (addOk x y)]) : ∀ ds outs, F_AddPin ds = some outs → P ds outs := by
  intro ds outs hh
  obtain ⟨⟨x, y⟩, rfl, hp, rfl⟩ := mkF_inv hh
  exact h x y hp
theorem p_AddPin {x_s : Int} {x_t : Int} {x_p : List T2} {y_a : Int} {y_b : Int} {nr_ : Nat} {kk_ : V → V → V → V → Prop} (hp : (⟨x_s, x_t, x_p⟩ : Cyl).p.length ≤ 1048576) : P4 (.call F_AddPin 0 nr_) [.int .i64 x_s, .int .i64 x_t, vL I2 v2 x_p, .int .i64 y_a, .int .i64 y_b] kk_ ↔ kk_ (.int .i64 (addTo (⟨x_s, x_t, x_p⟩ : Cyl) (⟨y_a, y_b⟩ : T2)).s) (.int .i64 (addTo (⟨x_s, x_t, x_p⟩ : Cyl) (⟨y_a, y_b⟩ : T2)).t) (vL I2 v2 (addTo (⟨x_s, x_t, x_p⟩ : Cyl) (⟨y_a, y_b⟩ : T2)).p) (.bool (addOk (⟨x_s, x_t, x_p⟩ : Cyl) (⟨y_a, y_b⟩ : T2))) :=
  P4_callF (by unfold F_AddPin; exact mkF_eq F_AddPin_inj ((⟨x_s, x_t, x_p⟩ : Cyl), (⟨y_a, y_b⟩ : T2)) hp)

def setPin (b : Bench) (p : T2) : Bench := stepTo b (addTo b.cyl p) (addOk b.cyl p)
def E_SetPin : Bench × T2 → List V := fun (x, y) => [.int .i64 x.s, .int .i64 x.t, vL I2 v2 x.p, vL IL2 vLL2 x.o, .int .i64 y.a, .int .i64 y.b]
noncomputable def F_SetPin : List V → Option (List V) := mkF E_SetPin (fun (x, _) => x.p.length ≤ 1048576 ∧ fitLL x.o) (fun (x, y) => [.int .i64 (setPin x y).s, .int .i64 (setPin x y).t, vL I2 v2 (setPin x y).p, vL IL2 vLL2 (setPin x y).o, .bool (addOk x.cyl y && stepOk x (addTo x.cyl y))])
theorem F_SetPin_inj : ∀ x y, E_SetPin x = E_SetPin y → x = y := by
  rintro ⟨⟨xs, xt, xp, xo⟩, ⟨ya, yb⟩⟩ ⟨⟨xs', xt', xp', xo'⟩, ⟨ya', yb'⟩⟩ h
  simpa [E_SetPin, and_assoc] using h
theorem F_SetPin_elim {P : List V → List V → Prop} (h : ∀ (x : Bench) (y : T2), (x.p.length ≤ 1048576 ∧ fitLL x.o) → P [.int .i64 x.s, .int .i64 x.t, vL I2 v2 x.p, vL IL2 vLL2 x.o, .int .i64 y.a, .int .i64 y.b] [.int .i64 (setPin x y).s, .int .i64 (setPin x y).t, vL I2 v2 (setPin x y).p, vL IL2 vLL2 (setPin x y).o, .bool (addOk x.cyl y && stepOk x (addTo x.cyl y))]) : ∀ ds outs, F_SetPin ds = some outs → P ds outs := by
  intro ds outs hh
  obtain ⟨⟨x, y⟩, rfl, hp, rfl⟩ := mkF_inv hh
  exact h x y hp
theorem p_SetPin {x_s : Int} {x_t : Int} {x_p : List T2} {x_o : List (List T2)} {y_a : Int} {y_b : Int} {nr_ : Nat} {kk_ : V → V → V → V → V → Prop} (hp : (⟨x_s, x_t, x_p, x_o⟩ : Bench).p.length ≤ 1048576 ∧ fitLL (⟨x_s, x_t, x_p, x_o⟩ : Bench).o) : P5 (.call F_SetPin 0 nr_) [.int .i64 x_s, .int .i64 x_t, vL I2 v2 x_p, vL IL2 vLL2 x_o, .int .i64 y_a, .int .i64 y_b] kk_ ↔ kk_ (.int .i64 (setPin (⟨x_s, x_t, x_p, x_o⟩ : Bench) (⟨y_a, y_b⟩ : T2)).s) (.int .i64 (setPin (⟨x_s, x_t, x_p, x_o⟩ : Bench) (⟨y_a, y_b⟩ : T2)).t) (vL I2 v2 (setPin (⟨x_s, x_t, x_p, x_o⟩ : Bench) (⟨y_a, y_b⟩ : T2)).p) (vL IL2 vLL2 (setPin (⟨x_s, x_t, x_p, x_o⟩ : Bench) (⟨y_a, y_b⟩ : T2)).o) (.bool (addOk (⟨x_s, x_t, x_p, x_o⟩ : Bench).cyl (⟨y_a, y_b⟩ : T2) && stepOk (⟨x_s, x_t, x_p, x_o⟩ : Bench) (addTo (⟨x_s, x_t, x_p, x_o⟩ : Bench).cyl (⟨y_a, y_b⟩ : T2)))) :=
  P5_callF (by unfold F_SetPin; exact mkF_eq F_SetPin_inj ((⟨x_s, x_t, x_p, x_o⟩ : Bench), (⟨y_a, y_b⟩ : T2)) hp)

end Go.Mw

/- Functions of the program, as small pure programs (printed by a program of ours). -/
namespace Go.Mw
noncomputable section
def spec_AddPin_L : L := .seq (.rg []) (.seq (.rg [⟨[], .call F_l06Copy 0 3, [.v 0, .v 1, .v 2], 3⟩]) (.seq (.seq (.rg [⟨[], .call F_CylinderOk 0 1, [.v 0, .v 1, .v 2], 1⟩, ⟨[], .un .not, [.v 8], 1⟩]) (.ite (.v 9) (.seq (.rg []) (.ret [.v 5, .v 6, .v 7, .k (.bool false)])) (.skip))) (.seq (.rg [⟨[], .call F_l06Put 0 2, [.v 2, .v 3, .v 4], 2⟩]) (.seq (.rg []) (.seq (.seq (.rg [⟨[], .un .not, [.v 11], 1⟩, ⟨[(.v 12, false)], .call F_CylinderOk 0 1, [.v 5, .v 6, .v 10], 1⟩, ⟨[(.v 12, false)], .un .not, [.v 13], 1⟩, ⟨[], .pick, [.v 12, .k (.bool true), .v 14], 1⟩]) (.ite (.v 15) (.seq (.rg [⟨[], .call F_l06Copy 0 3, [.v 0, .v 1, .v 2], 3⟩]) (.ret [.v 16, .v 17, .v 18, .k (.bool false)])) (.skip))) (.seq (.rg []) (.ret [.v 5, .v 6, .v 10, .k (.bool true)])))))))
theorem spec_AddPin_L_sh (Q : QT) (x0 x1 x2 x3 x4 : V) : shL spec_AddPin_L Q [x0, x1, x2, x3, x4] = (
  P3 (.call F_l06Copy 0 3) [x0, x1, x2] fun v0 v1 v2 =>
  P1 (.call F_CylinderOk 0 1) [x0, x1, x2] fun v3 =>
  P1 (.un .not) [v3] fun v4 =>
  ifB v4 (
    Q .ret [v0, v1, v2, .bool false]) (
    P2 (.call F_l06Put 0 2) [x2, x3, x4] fun v5 v6 =>
    P1 (.un .not) [v6] fun v7 =>
    ifB v7 (
      P3 (.call F_l06Copy 0 3) [x0, x1, x2] fun v8 v9 v10 =>
      Q .ret [v8, v9, v10, .bool false]) (
      P1 (.call F_CylinderOk 0 1) [v0, v1, v5] fun v11 =>
      P1 (.un .not) [v11] fun v12 =>
      ifB v12 (
        P3 (.call F_l06Copy 0 3) [x0, x1, x2] fun v13 v14 v15 =>
        Q .ret [v13, v14, v15, .bool false]) (
        Q .ret [v0, v1, v5, .bool true])))) := by kernel_rfl
def spec_AddPin_S : Sig := ⟨[.val true [.sc, .sc, .sl [.sc, .sc]], .val true [.sc, .sc]], [(true, [.sc, .sc, .sl [.sc, .sc]]), (false, [.sc])], F_AddPin⟩
def spec_AddPin_hs : List NF := []

def spec_SetPin_L : L := .seq (.rg []) (.seq (.rg [⟨[], .call F_AddPin 0 4, [.v 0, .v 1, .v 2, .v 4, .v 5], 4⟩]) (.seq (.seq (.rg [⟨[], .un .not, [.v 9], 1⟩]) (.ite (.v 10) (.seq (.rg [⟨[], .call F_l37Copy 0 4, [.v 0, .v 1, .v 2, .v 3], 4⟩]) (.ret [.v 11, .v 12, .v 13, .v 14, .k (.bool false)])) (.skip))) (.seq (.rg [⟨[], .call F_l37Step 0 5, [.v 0, .v 1, .v 2, .v 3, .v 6, .v 7, .v 8], 5⟩]) (.seq (.rg []) (.ret [.v 11, .v 12, .v 13, .v 14, .v 15])))))
theorem spec_SetPin_L_sh (Q : QT) (x0 x1 x2 x3 x4 x5 : V) : shL spec_SetPin_L Q [x0, x1, x2, x3, x4, x5] = (
  P4 (.call F_AddPin 0 4) [x0, x1, x2, x4, x5] fun v0 v1 v2 v3 =>
  P1 (.un .not) [v3] fun v4 =>
  ifB v4 (
    P4 (.call F_l37Copy 0 4) [x0, x1, x2, x3] fun v5 v6 v7 v8 =>
    Q .ret [v5, v6, v7, v8, .bool false]) (
    P5 (.call F_l37Step 0 5) [x0, x1, x2, x3, v0, v1, v2] fun v9 v10 v11 v12 v13 =>
    Q .ret [v9, v10, v11, v12, v13])) := by kernel_rfl
def spec_SetPin_S : Sig := ⟨[.val true [.sc, .sc, .sl [.sc, .sc], .sl [.sl [.sc, .sc]]], .val true [.sc, .sc]], [(true, [.sc, .sc, .sl [.sc, .sc], .sl [.sl [.sc, .sc]]]), (false, [.sc])], F_SetPin⟩
def spec_SetPin_hs : List NF := []

def impl_sortedPins_L : L := .seq (.rg []) (.seq (.rg [⟨[], .call F_copyPins 0 1, [.v 0], 1⟩]) (.seq (.rg [⟨[], .call F_slices_SortFunc_Limpl_Pin_impl_Pin 1 0, [.v 1, .v 1], 1⟩]) (.seq (.rg []) (.ret [.v 2]))))
theorem impl_sortedPins_L_sh (Q : QT) (x0 : V) : shL impl_sortedPins_L Q [x0] = (
  P1 (.call F_copyPins 0 1) [x0] fun v0 =>
  P1 (.call F_slices_SortFunc_Limpl_Pin_impl_Pin 1 0) [v0, v0] fun v1 =>
  Q .ret [v1]) := by kernel_rfl
def impl_sortedPins_S : Sig := ⟨[.val false [.sl [.sc, .sc]]], [(false, [.sl [.sc, .sc]])], F_sortedPins⟩
def impl_sortedPins_hs : List NF := []

def impl_AddPin_L : L := .seq (.rg []) (.seq (.seq (.rg [⟨[], .call F_CylinderOk 0 1, [.v 0, .v 1, .v 2], 1⟩, ⟨[], .un .not, [.v 5], 1⟩, ⟨[(.v 6, false)], .call F_hasPin 0 1, [.v 2, .v 3, .v 4], 1⟩, ⟨[], .pick, [.v 6, .k (.bool true), .v 7], 1⟩]) (.ite (.v 8) (.seq (.rg [⟨[], .call F_copyCylinder 0 3, [.v 0, .v 1, .v 2], 3⟩]) (.ret [.v 9, .v 10, .v 11, .k (.bool false)])) (.skip))) (.seq (.rg [⟨[], .call F_copyCylinder 0 3, [.v 0, .v 1, .v 2], 3⟩]) (.seq (.rg [⟨[], .lst [.sc, .sc] true 1, [.v 3, .v 4], 1⟩, ⟨[], .app [.sc, .sc] 16, [.v 11, .v 12], 1⟩, ⟨[], .call F_sortedPins 0 1, [.v 13], 1⟩]) (.seq (.seq (.rg [⟨[], .call F_CylinderOk 0 1, [.v 9, .v 10, .v 14], 1⟩, ⟨[], .un .not, [.v 15], 1⟩]) (.ite (.v 16) (.seq (.rg [⟨[], .call F_copyCylinder 0 3, [.v 0, .v 1, .v 2], 3⟩]) (.ret [.v 17, .v 18, .v 19, .k (.bool false)])) (.skip))) (.seq (.rg []) (.ret [.v 9, .v 10, .v 14, .k (.bool true)]))))))
theorem impl_AddPin_L_sh (Q : QT) (x0 x1 x2 x3 x4 : V) : shL impl_AddPin_L Q [x0, x1, x2, x3, x4] = (
  P1 (.call F_CylinderOk 0 1) [x0, x1, x2] fun v0 =>
  P1 (.un .not) [v0] fun v1 =>
  ifB v1 (
    P3 (.call F_copyCylinder 0 3) [x0, x1, x2] fun v2 v3 v4 =>
    Q .ret [v2, v3, v4, .bool false]) (
    P1 (.call F_hasPin 0 1) [x2, x3, x4] fun v5 =>
    ifB v5 (
      P3 (.call F_copyCylinder 0 3) [x0, x1, x2] fun v6 v7 v8 =>
      Q .ret [v6, v7, v8, .bool false]) (
      P3 (.call F_copyCylinder 0 3) [x0, x1, x2] fun v9 v10 v11 =>
      P1 (.lst [.sc, .sc] true 1) [x3, x4] fun v12 =>
      P1 (.app [.sc, .sc] 16) [v11, v12] fun v13 =>
      P1 (.call F_sortedPins 0 1) [v13] fun v14 =>
      P1 (.call F_CylinderOk 0 1) [v9, v10, v14] fun v15 =>
      P1 (.un .not) [v15] fun v16 =>
      ifB v16 (
        P3 (.call F_copyCylinder 0 3) [x0, x1, x2] fun v17 v18 v19 =>
        Q .ret [v17, v18, v19, .bool false]) (
        Q .ret [v9, v10, v14, .bool true])))) := by kernel_rfl
def impl_AddPin_S : Sig := ⟨[.val true [.sc, .sc, .sl [.sc, .sc]], .val true [.sc, .sc]], [(true, [.sc, .sc, .sl [.sc, .sc]]), (false, [.sc])], F_AddPin⟩
def impl_AddPin_hs : List NF := []

def impl_SetPin_L : L := .seq (.rg []) (.seq (.rg [⟨[], .call F_AddPin 0 4, [.v 0, .v 1, .v 2, .v 4, .v 5], 4⟩]) (.seq (.rg [⟨[], .call F_replaced 0 5, [.v 0, .v 1, .v 2, .v 3, .v 6, .v 7, .v 8, .v 9], 5⟩]) (.ret [.v 10, .v 11, .v 12, .v 13, .v 14])))
theorem impl_SetPin_L_sh (Q : QT) (x0 x1 x2 x3 x4 x5 : V) : shL impl_SetPin_L Q [x0, x1, x2, x3, x4, x5] = (
  P4 (.call F_AddPin 0 4) [x0, x1, x2, x4, x5] fun v0 v1 v2 v3 =>
  P5 (.call F_replaced 0 5) [x0, x1, x2, x3, v0, v1, v2, v3] fun v4 v5 v6 v7 v8 =>
  Q .ret [v4, v5, v6, v7, v8]) := by kernel_rfl
def impl_SetPin_S : Sig := ⟨[.val true [.sc, .sc, .sl [.sc, .sc], .sl [.sl [.sc, .sc]]], .val true [.sc, .sc]], [(true, [.sc, .sc, .sl [.sc, .sc], .sl [.sl [.sc, .sc]]]), (false, [.sc])], F_SetPin⟩
def impl_SetPin_hs : List NF := []

end
end Go.Mw

/- Sorting pins; setting a pin. -/
namespace Go.Mw
def leP (x y : T2) : Bool := !pinLess y x
theorem leP_iff {x y : T2} : leP x y = true ↔ x.b < y.b ∨ x.b = y.b ∧ x.a ≤ y.a := by
  simp only [leP, pinLess, Bool.not_eq_true', decide_eq_false_iff_not]; omega
theorem leP_trans (x y z : T2) (h1 : leP x y = true) (h2 : leP y z = true) : leP x z = true := by
  rw [leP_iff] at *; omega
theorem leP_total (x y : T2) : (leP x y || leP y x) = true := by
  rw [Bool.or_eq_true, leP_iff, leP_iff]; omega
theorem leP_anti {x y : T2} (h1 : leP x y = true) (h2 : leP y x = true) : x = y := by
  cases x; cases y
  rw [leP_iff] at *
  simp only [T2.mk.injEq] at *
  omega
theorem perm_one : ∀ {l m : List T2}, l.Pairwise (fun x y => leP x y = true) → m.Pairwise (fun x y => leP x y = true) → l.Perm m → l = m
  | [], m, _, _, h => by simpa using h.symm.eq_nil
  | a :: r, [], _, _, h => by simpa using h.eq_nil
  | a :: r, b :: s, h1, h2, h => by
    have hab : a = b := by
      have ha : a ∈ b :: s := h.subset (by simp)
      have hb : b ∈ a :: r := h.symm.subset (by simp)
      rcases List.mem_cons.1 ha with e | ha
      · exact e
      · rcases List.mem_cons.1 hb with e | hb
        · exact e.symm
        · exact leP_anti (List.rel_of_pairwise_cons h1 hb) (List.rel_of_pairwise_cons h2 ha)
    subst hab
    rw [perm_one h1.of_cons h2.of_cons (List.Perm.cons_inv h)]
theorem pinLess_trans {a b c : T2} (h1 : pinLess a b = true) (h2 : pinLess b c = true) : pinLess a c = true := by
  simp only [pinLess, decide_eq_true_eq] at *; omega
theorem pinLess_irrefl (a : T2) : pinLess a a = false := by simp [pinLess]
theorem rising_less {a : T2} : ∀ {l : List T2}, rising (a :: l) = true → ∀ b ∈ l, pinLess a b = true
  | [], _, b, hb => by simp at hb
  | c :: r, h, b, hb => by
    have h1 := rising_cons.1 h
    have h2 : pinLess a c = true := h1.1 c rfl
    rcases List.mem_cons.1 hb with rfl | hb
    · exact h2
    · exact pinLess_trans h2 (rising_less h1.2 b hb)
theorem rising_sorted : ∀ {l : List T2}, rising l = true → l.Pairwise (fun x y => leP x y = true)
  | [], _ => .nil
  | a :: r, h => by
    refine .cons (fun b hb => ?_) (rising_sorted (rising_cons.1 h).2)
    have := rising_less h b hb
    rw [leP_iff]; simp only [pinLess, decide_eq_true_eq] at this; omega
theorem putPin_perm : ∀ {l : List T2} {y : T2}, y ∉ l → (putPin l y).Perm (l ++ [y])
  | [], y, _ => by simp [putPin]
  | a :: r, y, h => by
    simp only [List.mem_cons, not_or] at h
    unfold putPin
    split
    · exact .cons _ (putPin_perm h.2)
    · rw [if_neg (fun e => h.1 e.symm)]
      exact (List.perm_append_singleton y (a :: r)).symm
theorem sort_put {l : List T2} {y : T2} (h : rising l = true) (hy : y ∉ l) : sortPins (l ++ [y]) = putPin l y := by
  refine perm_one ?_ (rising_sorted (putPin_rising h)) ((List.mergeSort_perm _ _).trans (putPin_perm hy).symm)
  exact List.pairwise_mergeSort leP_trans leP_total _
theorem putNew_iff : ∀ {l : List T2} {y : T2}, rising l = true → putNew l y = !decide (y ∈ l)
  | [], y, _ => by simp [putNew]
  | a :: r, y, h => by
    have h1 := rising_cons.1 h
    unfold putNew
    by_cases h2 : pinLess a y = true
    · rw [if_pos h2, putNew_iff h1.2]
      have : y ≠ a := by rintro rfl; rw [pinLess_irrefl] at h2; cases h2
      simp [this]
    · rw [if_neg h2]
      by_cases h3 : a = y
      · simp [h3]
      · have h4 : y ∉ r := fun hr => h2 (rising_less h y hr)
        have h5 : ¬ y = a := fun e => h3 e.symm
        simp [h3, h4, h5]
theorem cylOk_rising {c : Cyl} (h : cylOk c = true) : rising c.p = true := by
  simp only [cylOk, Bool.and_eq_true] at h; exact h.2.2

theorem impl_sortedPins_ok : ∀ ds outs, F_sortedPins ds = some outs → shL impl_sortedPins_L (qRet outs) ds := F_sortedPins_elim fun l hp => by
  rw [impl_sortedPins_L_sh, p_copyPins (by omega), p_slices_SortFunc_Limpl_Pin_impl_Pin hp]
  simp
theorem spec_AddPin_ok : ∀ ds outs, F_AddPin ds = some outs → shL spec_AddPin_L (qRet outs) ds := F_AddPin_elim fun x y hp => by
  have hp4 : x.p.length ≤ 4194304 := by omega
  rw [spec_AddPin_L_sh, p_l06Copy (x_p := x.p) hp4]
  simp only [p_CylinderOk (x_p := x.p) hp, Cyl.eta, p_l06Copy (x_p := x.p) hp4]
  cases h : cylOk x with
  | false => simp [h, addTo, addOk]
  | true =>
    have hl := (cylOk_bounds h).2.2
    have h1 := putPin_len x.p y
    rw [P1_not, p_l06Put hp, putNew_iff (cylOk_rising h)]
    simp only [p_CylinderOk (x_p := putPin x.p y) (show _ ≤ 1048576 by show (putPin x.p y).length ≤ _; omega)]
    by_cases h2 : y ∈ x.p
    · simp [h, h2, addTo, addOk]
    · cases h3 : cylOk ⟨x.s, x.t, putPin x.p y⟩ <;> simp [h, h2, h3, addTo, addOk]
theorem impl_AddPin_ok : ∀ ds outs, F_AddPin ds = some outs → shL impl_AddPin_L (qRet outs) ds := F_AddPin_elim fun x y hp => by
  have hp4 : x.p.length ≤ 4194304 := by omega
  rw [impl_AddPin_L_sh]
  simp only [p_CylinderOk (x_p := x.p) hp, Cyl.eta, p_copyCylinder (x_p := x.p) hp4, p_hasPin hp]
  cases h : cylOk x with
  | false => simp [h, addTo, addOk]
  | true =>
    have hl := (cylOk_bounds h).2.2
    have h1 := putPin_len x.p y
    by_cases h2 : y ∈ x.p
    · simp [h, h2, addTo, addOk]
    · have e := sort_put (cylOk_rising h) h2
      have h5 : (x.p ++ [y]).length ≤ 1048576 := by simp; omega
      have h6 : (x.p.length + 1) * 16 ≤ 140737488355328 ∧ x.p.length ≤ 140737488355327 := by omega
      have h7 := fun (nr_ : Nat) (kk_ : V → Prop) => p_sortedPins (nr_ := nr_) (kk_ := kk_) h5
      rw [e] at h7
      simp [h2, h6, h7]
      rw [p_CylinderOk (x_p := putPin x.p y) (show _ ≤ 1048576 by show (putPin x.p y).length ≤ _; omega)]
      cases h3 : cylOk ⟨x.s, x.t, putPin x.p y⟩ <;> simp [h, h2, h3, addTo, addOk]
theorem addTo_len {c : Cyl} {p : T2} (h : c.p.length ≤ 1048576) : (addTo c p).p.length ≤ 1048576 := by
  unfold addTo
  cases h2 : addOk c p with
  | false => simpa using h
  | true =>
    simp only [addOk, Bool.and_eq_true] at h2
    have := (cylOk_bounds h2.2.2).2.2
    simp only [if_true]
    dsimp only at this ⊢
    omega
theorem spec_SetPin_ok : ∀ ds outs, F_SetPin ds = some outs → shL spec_SetPin_L (qRet outs) ds := F_SetPin_elim fun x y hp => by
  rw [spec_SetPin_L_sh, p_AddPin (x_p := x.p) hp.1]
  have e0 : (⟨x.s, x.t, x.p⟩ : Cyl) = x.cyl := rfl
  have e1 : (⟨x.s, x.t, x.p, x.o⟩ : Bench) = x := rfl
  have e2 : (⟨y.a, y.b⟩ : T2) = y := rfl
  have hl := addTo_len (p := y) (show x.cyl.p.length ≤ 1048576 from hp.1)
  simp only [e0, e2]
  cases h : addOk x.cyl y with
  | false =>
    simp only [p_l37Copy (x_p := x.p) (x_o := x.o) hp]
    simp [setPin, stepTo, h]
  | true =>
    unfold setPin
    rw [h]
    generalize addTo x.cyl y = c at *
    simp only [p_l37Step (x_p := x.p) (x_o := x.o) (y_p := c.p) ⟨hp.1, hp.2, hl⟩]
    simp
theorem impl_SetPin_ok : ∀ ds outs, F_SetPin ds = some outs → shL impl_SetPin_L (qRet outs) ds := F_SetPin_elim fun x y hp => by
  rw [impl_SetPin_L_sh, p_AddPin (x_p := x.p) hp.1]
  have e0 : (⟨x.s, x.t, x.p⟩ : Cyl) = x.cyl := rfl
  have e2 : (⟨y.a, y.b⟩ : T2) = y := rfl
  have hl := addTo_len (p := y) (show x.cyl.p.length ≤ 1048576 from hp.1)
  simp only [e0, e2]
  unfold setPin
  generalize addTo x.cyl y = c at *
  rw [p_replaced (x_p := x.p) (x_o := x.o) (y_p := c.p) ⟨hp.1, hp.2, hl⟩]
  simp
theorem setPin_small {b : Bench} {p : T2} (h : bSmall b) : bSmall (setPin b p) := stepTo_small h
end Go.Mw

/- What functions compute, in plain terms: acts. -/
namespace Go.Mw
def canSet (b : Bench) (p : T2) : Bool := addOk b.cyl p && stepOk b (addTo b.cyl p)
def E_PutPin : Shop × Int × Int → List V := fun (x, t, a) => [.int .i64 x.s, .int .i64 x.t, vL I2 v2 x.p, vL IL2 vLL2 x.o, vL I1 v1 x.c, .int .i64 x.u, .int .i64 x.m, .int .i64 x.f, .int .i64 x.y, .int .i64 x.d, .int .i64 t, .int .i64 a]
noncomputable def F_PutPin : List V → Option (List V) := mkF E_PutPin (fun (x, _, _) => x.p.length ≤ 1048576 ∧ fitLL x.o ∧ x.c.length ≤ 1048576) (fun (x, t, a) => [.int .i64 (withBench x (setPin x.bench ⟨t, a⟩) 1 (canSet x.bench ⟨t, a⟩)).s, .int .i64 (withBench x (setPin x.bench ⟨t, a⟩) 1 (canSet x.bench ⟨t, a⟩)).t, vL I2 v2 (withBench x (setPin x.bench ⟨t, a⟩) 1 (canSet x.bench ⟨t, a⟩)).p, vL IL2 vLL2 (withBench x (setPin x.bench ⟨t, a⟩) 1 (canSet x.bench ⟨t, a⟩)).o, vL I1 v1 (withBench x (setPin x.bench ⟨t, a⟩) 1 (canSet x.bench ⟨t, a⟩)).c, .int .i64 (withBench x (setPin x.bench ⟨t, a⟩) 1 (canSet x.bench ⟨t, a⟩)).u, .int .i64 (withBench x (setPin x.bench ⟨t, a⟩) 1 (canSet x.bench ⟨t, a⟩)).m, .int .i64 (withBench x (setPin x.bench ⟨t, a⟩) 1 (canSet x.bench ⟨t, a⟩)).f, .int .i64 (withBench x (setPin x.bench ⟨t, a⟩) 1 (canSet x.bench ⟨t, a⟩)).y, .int .i64 (withBench x (setPin x.bench ⟨t, a⟩) 1 (canSet x.bench ⟨t, a⟩)).d, .bool (benchFits x (setPin x.bench ⟨t, a⟩) 1 (canSet x.bench ⟨t, a⟩))])
theorem F_PutPin_inj : ∀ x y, E_PutPin x = E_PutPin y → x = y := by
  rintro ⟨⟨xs, xt, xp, xo, xc, xu, xm, xf, xy, xd⟩, t, a⟩ ⟨⟨xs', xt', xp', xo', xc', xu', xm', xf', xy', xd'⟩, t', a'⟩ h
  simpa [E_PutPin, and_assoc] using h
theorem F_PutPin_elim {P : List V → List V → Prop} (h : ∀ (x : Shop) (t : Int) (a : Int), (x.p.length ≤ 1048576 ∧ fitLL x.o ∧ x.c.length ≤ 1048576) → P [.int .i64 x.s, .int .i64 x.t, vL I2 v2 x.p, vL IL2 vLL2 x.o, vL I1 v1 x.c, .int .i64 x.u, .int .i64 x.m, .int .i64 x.f, .int .i64 x.y, .int .i64 x.d, .int .i64 t, .int .i64 a] [.int .i64 (withBench x (setPin x.bench ⟨t, a⟩) 1 (canSet x.bench ⟨t, a⟩)).s, .int .i64 (withBench x (setPin x.bench ⟨t, a⟩) 1 (canSet x.bench ⟨t, a⟩)).t, vL I2 v2 (withBench x (setPin x.bench ⟨t, a⟩) 1 (canSet x.bench ⟨t, a⟩)).p, vL IL2 vLL2 (withBench x (setPin x.bench ⟨t, a⟩) 1 (canSet x.bench ⟨t, a⟩)).o, vL I1 v1 (withBench x (setPin x.bench ⟨t, a⟩) 1 (canSet x.bench ⟨t, a⟩)).c, .int .i64 (withBench x (setPin x.bench ⟨t, a⟩) 1 (canSet x.bench ⟨t, a⟩)).u, .int .i64 (withBench x (setPin x.bench ⟨t, a⟩) 1 (canSet x.bench ⟨t, a⟩)).m, .int .i64 (withBench x (setPin x.bench ⟨t, a⟩) 1 (canSet x.bench ⟨t, a⟩)).f, .int .i64 (withBench x (setPin x.bench ⟨t, a⟩) 1 (canSet x.bench ⟨t, a⟩)).y, .int .i64 (withBench x (setPin x.bench ⟨t, a⟩) 1 (canSet x.bench ⟨t, a⟩)).d, .bool (benchFits x (setPin x.bench ⟨t, a⟩) 1 (canSet x.bench ⟨t, a⟩))]) : ∀ ds outs, F_PutPin ds = some outs → P ds outs := by
  intro ds outs hh
  obtain ⟨⟨x, t, a⟩, rfl, hp, rfl⟩ := mkF_inv hh
  exact h x t a hp
theorem p_PutPin {x_s : Int} {x_t : Int} {x_p : List T2} {x_o : List (List T2)} {x_c : List Int} {x_u : Int} {x_m : Int} {x_f : Int} {x_y : Int} {x_d : Int} {t : Int} {a : Int} {nr_ : Nat} {kk_ : V → V → V → V → V → V → V → V → V → V → V → Prop} (hp : (⟨x_s, x_t, x_p, x_o, x_c, x_u, x_m, x_f, x_y, x_d⟩ : Shop).p.length ≤ 1048576 ∧ fitLL (⟨x_s, x_t, x_p, x_o, x_c, x_u, x_m, x_f, x_y, x_d⟩ : Shop).o ∧ (⟨x_s, x_t, x_p, x_o, x_c, x_u, x_m, x_f, x_y, x_d⟩ : Shop).c.length ≤ 1048576) : P11 (.call F_PutPin 0 nr_) [.int .i64 x_s, .int .i64 x_t, vL I2 v2 x_p, vL IL2 vLL2 x_o, vL I1 v1 x_c, .int .i64 x_u, .int .i64 x_m, .int .i64 x_f, .int .i64 x_y, .int .i64 x_d, .int .i64 t, .int .i64 a] kk_ ↔ kk_ (.int .i64 (withBench (⟨x_s, x_t, x_p, x_o, x_c, x_u, x_m, x_f, x_y, x_d⟩ : Shop) (setPin (⟨x_s, x_t, x_p, x_o, x_c, x_u, x_m, x_f, x_y, x_d⟩ : Shop).bench ⟨t, a⟩) 1 (canSet (⟨x_s, x_t, x_p, x_o, x_c, x_u, x_m, x_f, x_y, x_d⟩ : Shop).bench ⟨t, a⟩)).s) (.int .i64 (withBench (⟨x_s, x_t, x_p, x_o, x_c, x_u, x_m, x_f, x_y, x_d⟩ : Shop) (setPin (⟨x_s, x_t, x_p, x_o, x_c, x_u, x_m, x_f, x_y, x_d⟩ : Shop).bench ⟨t, a⟩) 1 (canSet (⟨x_s, x_t, x_p, x_o, x_c, x_u, x_m, x_f, x_y, x_d⟩ : Shop).bench ⟨t, a⟩)).t) (vL I2 v2 (withBench (⟨x_s, x_t, x_p, x_o, x_c, x_u, x_m, x_f, x_y, x_d⟩ : Shop) (setPin (⟨x_s, x_t, x_p, x_o, x_c, x_u, x_m, x_f, x_y, x_d⟩ : Shop).bench ⟨t, a⟩) 1 (canSet (⟨x_s, x_t, x_p, x_o, x_c, x_u, x_m, x_f, x_y, x_d⟩ : Shop).bench ⟨t, a⟩)).p) (vL IL2 vLL2 (withBench (⟨x_s, x_t, x_p, x_o, x_c, x_u, x_m, x_f, x_y, x_d⟩ : Shop) (setPin (⟨x_s, x_t, x_p, x_o, x_c, x_u, x_m, x_f, x_y, x_d⟩ : Shop).bench ⟨t, a⟩) 1 (canSet (⟨x_s, x_t, x_p, x_o, x_c, x_u, x_m, x_f, x_y, x_d⟩ : Shop).bench ⟨t, a⟩)).o) (vL I1 v1 (withBench (⟨x_s, x_t, x_p, x_o, x_c, x_u, x_m, x_f, x_y, x_d⟩ : Shop) (setPin (⟨x_s, x_t, x_p, x_o, x_c, x_u, x_m, x_f, x_y, x_d⟩ : Shop).bench ⟨t, a⟩) 1 (canSet (⟨x_s, x_t, x_p, x_o, x_c, x_u, x_m, x_f, x_y, x_d⟩ : Shop).bench ⟨t, a⟩)).c) (.int .i64 (withBench (⟨x_s, x_t, x_p, x_o, x_c, x_u, x_m, x_f, x_y, x_d⟩ : Shop) (setPin (⟨x_s, x_t, x_p, x_o, x_c, x_u, x_m, x_f, x_y, x_d⟩ : Shop).bench ⟨t, a⟩) 1 (canSet (⟨x_s, x_t, x_p, x_o, x_c, x_u, x_m, x_f, x_y, x_d⟩ : Shop).bench ⟨t, a⟩)).u) (.int .i64 (withBench (⟨x_s, x_t, x_p, x_o, x_c, x_u, x_m, x_f, x_y, x_d⟩ : Shop) (setPin (⟨x_s, x_t, x_p, x_o, x_c, x_u, x_m, x_f, x_y, x_d⟩ : Shop).bench ⟨t, a⟩) 1 (canSet (⟨x_s, x_t, x_p, x_o, x_c, x_u, x_m, x_f, x_y, x_d⟩ : Shop).bench ⟨t, a⟩)).m) (.int .i64 (withBench (⟨x_s, x_t, x_p, x_o, x_c, x_u, x_m, x_f, x_y, x_d⟩ : Shop) (setPin (⟨x_s, x_t, x_p, x_o, x_c, x_u, x_m, x_f, x_y, x_d⟩ : Shop).bench ⟨t, a⟩) 1 (canSet (⟨x_s, x_t, x_p, x_o, x_c, x_u, x_m, x_f, x_y, x_d⟩ : Shop).bench ⟨t, a⟩)).f) (.int .i64 (withBench (⟨x_s, x_t, x_p, x_o, x_c, x_u, x_m, x_f, x_y, x_d⟩ : Shop) (setPin (⟨x_s, x_t, x_p, x_o, x_c, x_u, x_m, x_f, x_y, x_d⟩ : Shop).bench ⟨t, a⟩) 1 (canSet (⟨x_s, x_t, x_p, x_o, x_c, x_u, x_m, x_f, x_y, x_d⟩ : Shop).bench ⟨t, a⟩)).y) (.int .i64 (withBench (⟨x_s, x_t, x_p, x_o, x_c, x_u, x_m, x_f, x_y, x_d⟩ : Shop) (setPin (⟨x_s, x_t, x_p, x_o, x_c, x_u, x_m, x_f, x_y, x_d⟩ : Shop).bench ⟨t, a⟩) 1 (canSet (⟨x_s, x_t, x_p, x_o, x_c, x_u, x_m, x_f, x_y, x_d⟩ : Shop).bench ⟨t, a⟩)).d) (.bool (benchFits (⟨x_s, x_t, x_p, x_o, x_c, x_u, x_m, x_f, x_y, x_d⟩ : Shop) (setPin (⟨x_s, x_t, x_p, x_o, x_c, x_u, x_m, x_f, x_y, x_d⟩ : Shop).bench ⟨t, a⟩) 1 (canSet (⟨x_s, x_t, x_p, x_o, x_c, x_u, x_m, x_f, x_y, x_d⟩ : Shop).bench ⟨t, a⟩))) :=
  P11_callF (by unfold F_PutPin; exact mkF_eq F_PutPin_inj ((⟨x_s, x_t, x_p, x_o, x_c, x_u, x_m, x_f, x_y, x_d⟩ : Shop), t, a) hp)

def num (b : Bool) : Int := if b then 1 else 0
def E_numberOf (n : Bool) : List V := [.bool n]
noncomputable def F_numberOf : List V → Option (List V) := mkF E_numberOf (fun _ => True) (fun n => [.int .i64 (num n)])
theorem F_numberOf_inj : ∀ x y, E_numberOf x = E_numberOf y → x = y := by
  rintro n n' h
  simpa [E_numberOf] using h
theorem F_numberOf_elim {P : List V → List V → Prop} (h : ∀ (n : Bool), P [.bool n] [.int .i64 (num n)]) : ∀ ds outs, F_numberOf ds = some outs → P ds outs := by
  intro ds outs hh
  obtain ⟨n, rfl, -, rfl⟩ := mkF_inv hh
  exact h n
@[simp] theorem p_numberOf {n : Bool} {nr_ : Nat} {kk_ : V → Prop} : P1 (.call F_numberOf 0 nr_) [.bool n] kk_ ↔ kk_ (.int .i64 (num n)) :=
  P1_callF (by unfold F_numberOf; exact mkF_eq F_numberOf_inj (n) trivial)

noncomputable abbrev F_l39Bool := F_numberOf
/-- The least gap of the i-th pin to those before it, below the k-th. -/
def cmRow (c : Cyl) (i : Nat) : Nat → Int → Int
  | 0, b => b
  | k + 1, b => match c.p[i]?, c.p[k]? with
    | some x, some y => if x.a = y.a then min (cmRow c i k b) (gap x.b y.b c.s) else cmRow c i k b
    | _, _ => cmRow c i k b
def cmTo (c : Cyl) : Nat → Int
  | 0 => c.s
  | i + 1 => cmRow c i i (cmTo c i)
def closest (c : Cyl) : Int := if cylOk c then cmTo c c.p.length else -1
def E_ClosestPins (x : Cyl) : List V := [.int .i64 x.s, .int .i64 x.t, vL I2 v2 x.p]
noncomputable def F_ClosestPins : List V → Option (List V) := mkF E_ClosestPins (fun x => x.p.length ≤ 1048576) (fun x => [.int .i64 (closest x)])
theorem F_ClosestPins_inj : ∀ x y, E_ClosestPins x = E_ClosestPins y → x = y := by
  rintro ⟨xs, xt, xp⟩ ⟨xs', xt', xp'⟩ h
  simpa [E_ClosestPins] using h
theorem F_ClosestPins_elim {P : List V → List V → Prop} (h : ∀ (x : Cyl), (x.p.length ≤ 1048576) → P [.int .i64 x.s, .int .i64 x.t, vL I2 v2 x.p] [.int .i64 (closest x)]) : ∀ ds outs, F_ClosestPins ds = some outs → P ds outs := by
  intro ds outs hh
  obtain ⟨x, rfl, hp, rfl⟩ := mkF_inv hh
  exact h x hp
theorem p_ClosestPins {x_s : Int} {x_t : Int} {x_p : List T2} {nr_ : Nat} {kk_ : V → Prop} (hp : (⟨x_s, x_t, x_p⟩ : Cyl).p.length ≤ 1048576) : P1 (.call F_ClosestPins 0 nr_) [.int .i64 x_s, .int .i64 x_t, vL I2 v2 x_p] kk_ ↔ kk_ (.int .i64 (closest (⟨x_s, x_t, x_p⟩ : Cyl))) :=
  P1_callF (by unfold F_ClosestPins; exact mkF_eq F_ClosestPins_inj ((⟨x_s, x_t, x_p⟩ : Cyl)) hp)

def removeW (w : Shop) (k : Int) : Shop := withBench w (takePin w.bench k) 0 (canTake w.bench k)
def removeOk (w : Shop) (k : Int) : Bool := benchFits w (takePin w.bench k) 0 (canTake w.bench k)
def putW (w : Shop) (p : T2) : Shop := withBench w (setPin w.bench p) 1 (canSet w.bench p)
def putOk (w : Shop) (p : T2) : Bool := benchFits w (setPin w.bench p) 1 (canSet w.bench p)
def backW (w : Shop) : Shop := withBench w (takeBack w.bench) 0 (takeOk w.bench)
def backOk (w : Shop) : Bool := benchFits w (takeBack w.bench) 0 (takeOk w.bench)
def canAct (w : Shop) (a : T3) : Bool := shopOk w && actOk a
def actW (w : Shop) (a : T3) : Shop :=
  if canAct w a then (if a.a = 1 then putW w ⟨a.b, a.c⟩ else if a.a = 2 then removeW w a.b else if a.a = 3 then backW w else if a.a = 4 then crank w a.b else if a.a = 5 then playOnce w else w) else w
def actN (w : Shop) (a : T3) : Int :=
  if canAct w a then (if a.a = 1 then num (putOk w ⟨a.b, a.c⟩) else if a.a = 2 then num (removeOk w a.b) else if a.a = 3 then num (backOk w) else if a.a = 4 then (if shopOk w then windBy w.spring a.b else -1) else if a.a = 5 then num (canPlay w) else closest w.bench.cyl) else -1
def E_DoAct : Shop × T3 → List V := fun (x, y) => [.int .i64 x.s, .int .i64 x.t, vL I2 v2 x.p, vL IL2 vLL2 x.o, vL I1 v1 x.c, .int .i64 x.u, .int .i64 x.m, .int .i64 x.f, .int .i64 x.y, .int .i64 x.d, .int .i64 y.a, .int .i64 y.b, .int .i64 y.c]
noncomputable def F_DoAct : List V → Option (List V) := mkF E_DoAct (fun (x, _) => x.p.length ≤ 1048576 ∧ fitLL x.o ∧ x.c.length ≤ 1048576) (fun (x, y) => [.int .i64 (actW x y).s, .int .i64 (actW x y).t, vL I2 v2 (actW x y).p, vL IL2 vLL2 (actW x y).o, vL I1 v1 (actW x y).c, .int .i64 (actW x y).u, .int .i64 (actW x y).m, .int .i64 (actW x y).f, .int .i64 (actW x y).y, .int .i64 (actW x y).d, .int .i64 (actN x y)])
theorem F_DoAct_inj : ∀ x y, E_DoAct x = E_DoAct y → x = y := by
  rintro ⟨⟨xs, xt, xp, xo, xc, xu, xm, xf, xy, xd⟩, ⟨ya, yb, yc⟩⟩ ⟨⟨xs', xt', xp', xo', xc', xu', xm', xf', xy', xd'⟩, ⟨ya', yb', yc'⟩⟩ h
  simpa [E_DoAct, and_assoc] using h
theorem F_DoAct_elim {P : List V → List V → Prop} (h : ∀ (x : Shop) (y : T3), (x.p.length ≤ 1048576 ∧ fitLL x.o ∧ x.c.length ≤ 1048576) → P [.int .i64 x.s, .int .i64 x.t, vL I2 v2 x.p, vL IL2 vLL2 x.o, vL I1 v1 x.c, .int .i64 x.u, .int .i64 x.m, .int .i64 x.f, .int .i64 x.y, .int .i64 x.d, .int .i64 y.a, .int .i64 y.b, .int .i64 y.c] [.int .i64 (actW x y).s, .int .i64 (actW x y).t, vL I2 v2 (actW x y).p, vL IL2 vLL2 (actW x y).o, vL I1 v1 (actW x y).c, .int .i64 (actW x y).u, .int .i64 (actW x y).m, .int .i64 (actW x y).f, .int .i64 (actW x y).y, .int .i64 (actW x y).d, .int .i64 (actN x y)]) : ∀ ds outs, F_DoAct ds = some outs → P ds outs := by
  intro ds outs hh
  obtain ⟨⟨x, y⟩, rfl, hp, rfl⟩ := mkF_inv hh
  exact h x y hp
theorem p_DoAct {x_s : Int} {x_t : Int} {x_p : List T2} {x_o : List (List T2)} {x_c : List Int} {x_u : Int} {x_m : Int} {x_f : Int} {x_y : Int} {x_d : Int} {y_a : Int} {y_b : Int} {y_c : Int} {nr_ : Nat} {kk_ : V → V → V → V → V → V → V → V → V → V → V → Prop} (hp : (⟨x_s, x_t, x_p, x_o, x_c, x_u, x_m, x_f, x_y, x_d⟩ : Shop).p.length ≤ 1048576 ∧ fitLL (⟨x_s, x_t, x_p, x_o, x_c, x_u, x_m, x_f, x_y, x_d⟩ : Shop).o ∧ (⟨x_s, x_t, x_p, x_o, x_c, x_u, x_m, x_f, x_y, x_d⟩ : Shop).c.length ≤ 1048576) : P11 (.call F_DoAct 0 nr_) [.int .i64 x_s, .int .i64 x_t, vL I2 v2 x_p, vL IL2 vLL2 x_o, vL I1 v1 x_c, .int .i64 x_u, .int .i64 x_m, .int .i64 x_f, .int .i64 x_y, .int .i64 x_d, .int .i64 y_a, .int .i64 y_b, .int .i64 y_c] kk_ ↔ kk_ (.int .i64 (actW (⟨x_s, x_t, x_p, x_o, x_c, x_u, x_m, x_f, x_y, x_d⟩ : Shop) (⟨y_a, y_b, y_c⟩ : T3)).s) (.int .i64 (actW (⟨x_s, x_t, x_p, x_o, x_c, x_u, x_m, x_f, x_y, x_d⟩ : Shop) (⟨y_a, y_b, y_c⟩ : T3)).t) (vL I2 v2 (actW (⟨x_s, x_t, x_p, x_o, x_c, x_u, x_m, x_f, x_y, x_d⟩ : Shop) (⟨y_a, y_b, y_c⟩ : T3)).p) (vL IL2 vLL2 (actW (⟨x_s, x_t, x_p, x_o, x_c, x_u, x_m, x_f, x_y, x_d⟩ : Shop) (⟨y_a, y_b, y_c⟩ : T3)).o) (vL I1 v1 (actW (⟨x_s, x_t, x_p, x_o, x_c, x_u, x_m, x_f, x_y, x_d⟩ : Shop) (⟨y_a, y_b, y_c⟩ : T3)).c) (.int .i64 (actW (⟨x_s, x_t, x_p, x_o, x_c, x_u, x_m, x_f, x_y, x_d⟩ : Shop) (⟨y_a, y_b, y_c⟩ : T3)).u) (.int .i64 (actW (⟨x_s, x_t, x_p, x_o, x_c, x_u, x_m, x_f, x_y, x_d⟩ : Shop) (⟨y_a, y_b, y_c⟩ : T3)).m) (.int .i64 (actW (⟨x_s, x_t, x_p, x_o, x_c, x_u, x_m, x_f, x_y, x_d⟩ : Shop) (⟨y_a, y_b, y_c⟩ : T3)).f) (.int .i64 (actW (⟨x_s, x_t, x_p, x_o, x_c, x_u, x_m, x_f, x_y, x_d⟩ : Shop) (⟨y_a, y_b, y_c⟩ : T3)).y) (.int .i64 (actW (⟨x_s, x_t, x_p, x_o, x_c, x_u, x_m, x_f, x_y, x_d⟩ : Shop) (⟨y_a, y_b, y_c⟩ : T3)).d) (.int .i64 (actN (⟨x_s, x_t, x_p, x_o, x_c, x_u, x_m, x_f, x_y, x_d⟩ : Shop) (⟨y_a, y_b, y_c⟩ : T3))) :=
  P11_callF (by unfold F_DoAct; exact mkF_eq F_DoAct_inj ((⟨x_s, x_t, x_p, x_o, x_c, x_u, x_m, x_f, x_y, x_d⟩ : Shop), (⟨y_a, y_b, y_c⟩ : T3)) hp)

end Go.Mw

/- Functions of the program, as small pure programs (printed by a program of ours). -/
namespace Go.Mw
noncomputable section
def spec_PutPin_L : L := .seq (.rg []) (.seq (.rg [⟨[], .call F_l38Copy 0 10, [.v 0, .v 1, .v 2, .v 3, .v 4, .v 5, .v 6, .v 7, .v 8, .v 9], 10⟩]) (.seq (.rg [⟨[], .call F_SetPin 0 5, [.v 0, .v 1, .v 2, .v 3, .v 10, .v 11], 5⟩]) (.seq (.rg []) (.seq (.rg [⟨[], .bin .sub, [.v 8, .k (.int .i64 1)], 1⟩]) (.seq (.seq (.rg [⟨[], .call F_WorkshopOk 0 1, [.v 0, .v 1, .v 2, .v 3, .v 4, .v 5, .v 6, .v 7, .v 8, .v 9], 1⟩, ⟨[], .un .not, [.v 28], 1⟩, ⟨[(.v 29, false)], .un .not, [.v 26], 1⟩, ⟨[], .pick, [.v 29, .k (.bool true), .v 30], 1⟩, ⟨[(.v 31, false)], .call F_WorkshopOk 0 1, [.v 22, .v 23, .v 24, .v 25, .v 16, .v 17, .v 18, .v 19, .v 27, .v 21], 1⟩, ⟨[(.v 31, false)], .un .not, [.v 32], 1⟩, ⟨[], .pick, [.v 31, .k (.bool true), .v 33], 1⟩]) (.ite (.v 34) (.seq (.rg [⟨[], .call F_l38Copy 0 10, [.v 0, .v 1, .v 2, .v 3, .v 4, .v 5, .v 6, .v 7, .v 8, .v 9], 10⟩]) (.ret [.v 35, .v 36, .v 37, .v 38, .v 39, .v 40, .v 41, .v 42, .v 43, .v 44, .k (.bool false)])) (.skip))) (.seq (.rg []) (.ret [.v 22, .v 23, .v 24, .v 25, .v 16, .v 17, .v 18, .v 19, .v 27, .v 21, .k (.bool true)])))))))
theorem spec_PutPin_L_sh (Q : QT) (x0 x1 x2 x3 x4 x5 x6 x7 x8 x9 x10 x11 : V) : shL spec_PutPin_L Q [x0, x1, x2, x3, x4, x5, x6, x7, x8, x9, x10, x11] = (
  P10 (.call F_l38Copy 0 10) [x0, x1, x2, x3, x4, x5, x6, x7, x8, x9] fun _ _ _ _ v4 v5 v6 v7 _ v9 =>
  P5 (.call F_SetPin 0 5) [x0, x1, x2, x3, x10, x11] fun v10 v11 v12 v13 v14 =>
  P1 (.bin .sub) [x8, .int .i64 1] fun v15 =>
  P1 (.call F_WorkshopOk 0 1) [x0, x1, x2, x3, x4, x5, x6, x7, x8, x9] fun v16 =>
  P1 (.un .not) [v16] fun v17 =>
  ifB v17 (
    P10 (.call F_l38Copy 0 10) [x0, x1, x2, x3, x4, x5, x6, x7, x8, x9] fun v18 v19 v20 v21 v22 v23 v24 v25 v26 v27 =>
    Q .ret [v18, v19, v20, v21, v22, v23, v24, v25, v26, v27, .bool false]) (
    P1 (.un .not) [v14] fun v28 =>
    ifB v28 (
      P10 (.call F_l38Copy 0 10) [x0, x1, x2, x3, x4, x5, x6, x7, x8, x9] fun v29 v30 v31 v32 v33 v34 v35 v36 v37 v38 =>
      Q .ret [v29, v30, v31, v32, v33, v34, v35, v36, v37, v38, .bool false]) (
      P1 (.call F_WorkshopOk 0 1) [v10, v11, v12, v13, v4, v5, v6, v7, v15, v9] fun v39 =>
      P1 (.un .not) [v39] fun v40 =>
      ifB v40 (
        P10 (.call F_l38Copy 0 10) [x0, x1, x2, x3, x4, x5, x6, x7, x8, x9] fun v41 v42 v43 v44 v45 v46 v47 v48 v49 v50 =>
        Q .ret [v41, v42, v43, v44, v45, v46, v47, v48, v49, v50, .bool false]) (
        Q .ret [v10, v11, v12, v13, v4, v5, v6, v7, v15, v9, .bool true])))) := by kernel_rfl
def spec_PutPin_S : Sig := ⟨[.val true [.sc, .sc, .sl [.sc, .sc], .sl [.sl [.sc, .sc]], .sl [.sc], .sc, .sc, .sc, .sc, .sc], .val false [.sc], .val false [.sc]], [(true, [.sc, .sc, .sl [.sc, .sc], .sl [.sl [.sc, .sc]], .sl [.sc], .sc, .sc, .sc, .sc, .sc]), (false, [.sc])], F_PutPin⟩
def spec_PutPin_hs : List NF := []

def impl_PutPin_L : L := .seq (.rg []) (.seq (.rg [⟨[], .call F_SetPin 0 5, [.v 0, .v 1, .v 2, .v 3, .v 10, .v 11], 5⟩]) (.seq (.rg [⟨[], .call F_withBench 0 11, [.v 0, .v 1, .v 2, .v 3, .v 4, .v 5, .v 6, .v 7, .v 8, .v 9, .v 12, .v 13, .v 14, .v 15, .k (.int .i64 1), .v 16], 11⟩]) (.ret [.v 17, .v 18, .v 19, .v 20, .v 21, .v 22, .v 23, .v 24, .v 25, .v 26, .v 27])))
theorem impl_PutPin_L_sh (Q : QT) (x0 x1 x2 x3 x4 x5 x6 x7 x8 x9 x10 x11 : V) : shL impl_PutPin_L Q [x0, x1, x2, x3, x4, x5, x6, x7, x8, x9, x10, x11] = (
  P5 (.call F_SetPin 0 5) [x0, x1, x2, x3, x10, x11] fun v0 v1 v2 v3 v4 =>
  P11 (.call F_withBench 0 11) [x0, x1, x2, x3, x4, x5, x6, x7, x8, x9, v0, v1, v2, v3, .int .i64 1, v4] fun v5 v6 v7 v8 v9 v10 v11 v12 v13 v14 v15 =>
  Q .ret [v5, v6, v7, v8, v9, v10, v11, v12, v13, v14, v15]) := by kernel_rfl
def impl_PutPin_S : Sig := ⟨[.val true [.sc, .sc, .sl [.sc, .sc], .sl [.sl [.sc, .sc]], .sl [.sc], .sc, .sc, .sc, .sc, .sc], .val false [.sc], .val false [.sc]], [(true, [.sc, .sc, .sl [.sc, .sc], .sl [.sl [.sc, .sc]], .sl [.sc], .sc, .sc, .sc, .sc, .sc]), (false, [.sc])], F_PutPin⟩
def impl_PutPin_hs : List NF := []

end
end Go.Mw

/- Putting a pin into a workshop. -/
namespace Go.Mw
theorem setPin_no {b : Bench} {p : T2} (h : canSet b p = false) : setPin b p = b := by
  unfold canSet at h; unfold setPin stepTo; rw [h]; simp
theorem setPin_fit {x : Shop} {p : T2} (hb : x.p.length ≤ 1048576 ∧ fitLL x.o) : (setPin x.bench p).p.length ≤ 1048576 ∧ fitLL (setPin x.bench p).o := by
  cases h2 : canSet x.bench p with
  | false => rw [setPin_no h2]; exact hb
  | true =>
    have : stepOk x.bench (addTo x.bench.cyl p) = true := by simp [canSet] at h2; exact h2.2
    have hs : benchOk x.bench = true := by simp [stepOk] at this; exact this.1
    have := setPin_small (p := p) (bSmall_of_ok hs)
    exact ⟨this.1, this.2.1⟩
theorem spec_PutPin_ok : ∀ ds outs, F_PutPin ds = some outs → shL spec_PutPin_L (qRet outs) ds := F_PutPin_elim fun x t a hp => by
  have hb : x.p.length ≤ 1048576 ∧ fitLL x.o := ⟨hp.1, hp.2.1⟩
  have hf := setPin_fit (p := ⟨t, a⟩) hb
  have hf3 : (setPin x.bench ⟨t, a⟩).p.length ≤ 1048576 ∧ fitLL (setPin x.bench ⟨t, a⟩).o ∧ x.c.length ≤ 1048576 := ⟨hf.1, hf.2, hp.2.2⟩
  have e0 : (⟨x.s, x.t, x.p, x.o⟩ : Bench) = x.bench := rfl
  have e1 : (addOk x.bench.cyl ⟨t, a⟩ && stepOk x.bench (addTo x.bench.cyl ⟨t, a⟩)) = canSet x.bench ⟨t, a⟩ := rfl
  rw [spec_PutPin_L_sh, p_l38Copy (x_p := x.p) (x_o := x.o) (x_c := x.c) hp]
  simp only [p_l38Copy (x_p := x.p) (x_o := x.o) (x_c := x.c) hp, p_SetPin (x_p := x.p) (x_o := x.o) hb, p_WorkshopOk (x_p := x.p) (x_o := x.o) (x_c := x.c) hp, e0, e1]
  generalize setPin x.bench ⟨t, a⟩ = B at *
  generalize canSet x.bench ⟨t, a⟩ = ok at *
  cases h : shopOk x with
  | false => simp [h, withBench, benchFits]
  | true =>
    cases ok with
    | false => simp [h, withBench, benchFits]
    | true =>
      have hy := within_iff.1 ((shopOk_iff x).1 h).2.2.2.2.1
      have hw : IntKind.i64.wrap (x.y - 1) = x.y - 1 := wrap_id (by omega) (by omega)
      have e : (⟨B.s, B.t, B.p, B.o, x.c, x.u, x.m, x.f, x.y - 1, x.d⟩ : Shop) = withB x B 1 := rfl
      simp only [P1_sub, hw, p_WorkshopOk (x_p := B.p) (x_o := B.o) (x_c := x.c) hf3, e]
      cases h3 : shopOk (withB x B 1) <;> simp [h, h3, withBench, benchFits]
      simp [withB]
theorem impl_PutPin_ok : ∀ ds outs, F_PutPin ds = some outs → shL impl_PutPin_L (qRet outs) ds := F_PutPin_elim fun x t a hp => by
  have hb : x.p.length ≤ 1048576 ∧ fitLL x.o := ⟨hp.1, hp.2.1⟩
  have hf := setPin_fit (p := ⟨t, a⟩) hb
  have e0 : (⟨x.s, x.t, x.p, x.o⟩ : Bench) = x.bench := rfl
  have e1 : (addOk x.bench.cyl ⟨t, a⟩ && stepOk x.bench (addTo x.bench.cyl ⟨t, a⟩)) = canSet x.bench ⟨t, a⟩ := rfl
  rw [impl_PutPin_L_sh, p_SetPin (x_p := x.p) (x_o := x.o) hb]
  simp only [e0, e1]
  generalize setPin x.bench ⟨t, a⟩ = B at *
  rw [p_withBench (x_p := x.p) (x_o := x.o) (x_c := x.c) (y_p := B.p) (y_o := B.o) ⟨hp.1, hp.2.1, hp.2.2, hf.1, hf.2, by omega, by omega⟩]
  simp
end Go.Mw

/- What functions compute, in plain terms: runs of acts. -/
namespace Go.Mw
def runTo (w : Shop) (l : List T3) : Nat → Shop × List Int
  | 0 => (w, [])
  | k + 1 => match l[k]? with
    | some a => (actW (runTo w l k).1 a, (runTo w l k).2 ++ [actN (runTo w l k).1 a])
    | none => runTo w l k
def actsOk (w : Shop) (l : List T3) : Bool := shopOk w && decide (l.length ≤ 40)
def runW (w : Shop) (l : List T3) : Shop := if actsOk w l then (runTo w l l.length).1 else w
def runN' (w : Shop) (l : List T3) : List Int := if actsOk w l then (runTo w l l.length).2 else []
def E_RunActs : Shop × List T3 → List V := fun (x, l) => [.int .i64 x.s, .int .i64 x.t, vL I2 v2 x.p, vL IL2 vLL2 x.o, vL I1 v1 x.c, .int .i64 x.u, .int .i64 x.m, .int .i64 x.f, .int .i64 x.y, .int .i64 x.d, vL I3 v3 l]
noncomputable def F_RunActs : List V → Option (List V) := mkF E_RunActs (fun (x, l) => x.p.length ≤ 1048576 ∧ fitLL x.o ∧ x.c.length ≤ 1048576 ∧ l.length ≤ 1048576) (fun (x, l) => [.int .i64 (runW x l).s, .int .i64 (runW x l).t, vL I2 v2 (runW x l).p, vL IL2 vLL2 (runW x l).o, vL I1 v1 (runW x l).c, .int .i64 (runW x l).u, .int .i64 (runW x l).m, .int .i64 (runW x l).f, .int .i64 (runW x l).y, .int .i64 (runW x l).d, vL I1 v1 (runN' x l)])
theorem F_RunActs_inj : ∀ x y, E_RunActs x = E_RunActs y → x = y := by
  rintro ⟨⟨xs, xt, xp, xo, xc, xu, xm, xf, xy, xd⟩, l⟩ ⟨⟨xs', xt', xp', xo', xc', xu', xm', xf', xy', xd'⟩, l'⟩ h
  simpa [E_RunActs, and_assoc] using h
theorem F_RunActs_elim {P : List V → List V → Prop} (h : ∀ (x : Shop) (l : List T3), (x.p.length ≤ 1048576 ∧ fitLL x.o ∧ x.c.length ≤ 1048576 ∧ l.length ≤ 1048576) → P [.int .i64 x.s, .int .i64 x.t, vL I2 v2 x.p, vL IL2 vLL2 x.o, vL I1 v1 x.c, .int .i64 x.u, .int .i64 x.m, .int .i64 x.f, .int .i64 x.y, .int .i64 x.d, vL I3 v3 l] [.int .i64 (runW x l).s, .int .i64 (runW x l).t, vL I2 v2 (runW x l).p, vL IL2 vLL2 (runW x l).o, vL I1 v1 (runW x l).c, .int .i64 (runW x l).u, .int .i64 (runW x l).m, .int .i64 (runW x l).f, .int .i64 (runW x l).y, .int .i64 (runW x l).d, vL I1 v1 (runN' x l)]) : ∀ ds outs, F_RunActs ds = some outs → P ds outs := by
  intro ds outs hh
  obtain ⟨⟨x, l⟩, rfl, hp, rfl⟩ := mkF_inv hh
  exact h x l hp
theorem p_RunActs {x_s : Int} {x_t : Int} {x_p : List T2} {x_o : List (List T2)} {x_c : List Int} {x_u : Int} {x_m : Int} {x_f : Int} {x_y : Int} {x_d : Int} {l : List T3} {nr_ : Nat} {kk_ : V → V → V → V → V → V → V → V → V → V → V → Prop} (hp : (⟨x_s, x_t, x_p, x_o, x_c, x_u, x_m, x_f, x_y, x_d⟩ : Shop).p.length ≤ 1048576 ∧ fitLL (⟨x_s, x_t, x_p, x_o, x_c, x_u, x_m, x_f, x_y, x_d⟩ : Shop).o ∧ (⟨x_s, x_t, x_p, x_o, x_c, x_u, x_m, x_f, x_y, x_d⟩ : Shop).c.length ≤ 1048576 ∧ l.length ≤ 1048576) : P11 (.call F_RunActs 0 nr_) [.int .i64 x_s, .int .i64 x_t, vL I2 v2 x_p, vL IL2 vLL2 x_o, vL I1 v1 x_c, .int .i64 x_u, .int .i64 x_m, .int .i64 x_f, .int .i64 x_y, .int .i64 x_d, vL I3 v3 l] kk_ ↔ kk_ (.int .i64 (runW (⟨x_s, x_t, x_p, x_o, x_c, x_u, x_m, x_f, x_y, x_d⟩ : Shop) l).s) (.int .i64 (runW (⟨x_s, x_t, x_p, x_o, x_c, x_u, x_m, x_f, x_y, x_d⟩ : Shop) l).t) (vL I2 v2 (runW (⟨x_s, x_t, x_p, x_o, x_c, x_u, x_m, x_f, x_y, x_d⟩ : Shop) l).p) (vL IL2 vLL2 (runW (⟨x_s, x_t, x_p, x_o, x_c, x_u, x_m, x_f, x_y, x_d⟩ : Shop) l).o) (vL I1 v1 (runW (⟨x_s, x_t, x_p, x_o, x_c, x_u, x_m, x_f, x_y, x_d⟩ : Shop) l).c) (.int .i64 (runW (⟨x_s, x_t, x_p, x_o, x_c, x_u, x_m, x_f, x_y, x_d⟩ : Shop) l).u) (.int .i64 (runW (⟨x_s, x_t, x_p, x_o, x_c, x_u, x_m, x_f, x_y, x_d⟩ : Shop) l).m) (.int .i64 (runW (⟨x_s, x_t, x_p, x_o, x_c, x_u, x_m, x_f, x_y, x_d⟩ : Shop) l).f) (.int .i64 (runW (⟨x_s, x_t, x_p, x_o, x_c, x_u, x_m, x_f, x_y, x_d⟩ : Shop) l).y) (.int .i64 (runW (⟨x_s, x_t, x_p, x_o, x_c, x_u, x_m, x_f, x_y, x_d⟩ : Shop) l).d) (vL I1 v1 (runN' (⟨x_s, x_t, x_p, x_o, x_c, x_u, x_m, x_f, x_y, x_d⟩ : Shop) l)) :=
  P11_callF (by unfold F_RunActs; exact mkF_eq F_RunActs_inj ((⟨x_s, x_t, x_p, x_o, x_c, x_u, x_m, x_f, x_y, x_d⟩ : Shop), l) hp)

def E_IsReplay : Shop × List T3 × List Int → List V := fun (x, l, m) => [.int .i64 x.s, .int .i64 x.t, vL I2 v2 x.p, vL IL2 vLL2 x.o, vL I1 v1 x.c, .int .i64 x.u, .int .i64 x.m, .int .i64 x.f, .int .i64 x.y, .int .i64 x.d, vL I3 v3 l, vL I1 v1 m]
noncomputable def F_IsReplay : List V → Option (List V) := mkF E_IsReplay (fun (x, l, m) => x.p.length ≤ 1048576 ∧ fitLL x.o ∧ x.c.length ≤ 1048576 ∧ l.length ≤ 1048576 ∧ m.length ≤ 1048576) (fun (x, l, m) => [.bool (actsOk x l && decide (runN' x l = m))])
theorem F_IsReplay_inj : ∀ x y, E_IsReplay x = E_IsReplay y → x = y := by
  rintro ⟨⟨xs, xt, xp, xo, xc, xu, xm, xf, xy, xd⟩, l, m⟩ ⟨⟨xs', xt', xp', xo', xc', xu', xm', xf', xy', xd'⟩, l', m'⟩ h
  simpa [E_IsReplay, and_assoc] using h
theorem F_IsReplay_elim {P : List V → List V → Prop} (h : ∀ (x : Shop) (l : List T3) (m : List Int), (x.p.length ≤ 1048576 ∧ fitLL x.o ∧ x.c.length ≤ 1048576 ∧ l.length ≤ 1048576 ∧ m.length ≤ 1048576) → P [.int .i64 x.s, .int .i64 x.t, vL I2 v2 x.p, vL IL2 vLL2 x.o, vL I1 v1 x.c, .int .i64 x.u, .int .i64 x.m, .int .i64 x.f, .int .i64 x.y, .int .i64 x.d, vL I3 v3 l, vL I1 v1 m] [.bool (actsOk x l && decide (runN' x l = m))]) : ∀ ds outs, F_IsReplay ds = some outs → P ds outs := by
  intro ds outs hh
  obtain ⟨⟨x, l, m⟩, rfl, hp, rfl⟩ := mkF_inv hh
  exact h x l m hp
theorem p_IsReplay {x_s : Int} {x_t : Int} {x_p : List T2} {x_o : List (List T2)} {x_c : List Int} {x_u : Int} {x_m : Int} {x_f : Int} {x_y : Int} {x_d : Int} {l : List T3} {m : List Int} {nr_ : Nat} {kk_ : V → Prop} (hp : (⟨x_s, x_t, x_p, x_o, x_c, x_u, x_m, x_f, x_y, x_d⟩ : Shop).p.length ≤ 1048576 ∧ fitLL (⟨x_s, x_t, x_p, x_o, x_c, x_u, x_m, x_f, x_y, x_d⟩ : Shop).o ∧ (⟨x_s, x_t, x_p, x_o, x_c, x_u, x_m, x_f, x_y, x_d⟩ : Shop).c.length ≤ 1048576 ∧ l.length ≤ 1048576 ∧ m.length ≤ 1048576) : P1 (.call F_IsReplay 0 nr_) [.int .i64 x_s, .int .i64 x_t, vL I2 v2 x_p, vL IL2 vLL2 x_o, vL I1 v1 x_c, .int .i64 x_u, .int .i64 x_m, .int .i64 x_f, .int .i64 x_y, .int .i64 x_d, vL I3 v3 l, vL I1 v1 m] kk_ ↔ kk_ (.bool (actsOk (⟨x_s, x_t, x_p, x_o, x_c, x_u, x_m, x_f, x_y, x_d⟩ : Shop) l && decide (runN' (⟨x_s, x_t, x_p, x_o, x_c, x_u, x_m, x_f, x_y, x_d⟩ : Shop) l = m))) :=
  P1_callF (by unfold F_IsReplay; exact mkF_eq F_IsReplay_inj ((⟨x_s, x_t, x_p, x_o, x_c, x_u, x_m, x_f, x_y, x_d⟩ : Shop), l, m) hp)

end Go.Mw

/- Functions of the program, as small pure programs (printed by a program of ours). -/
namespace Go.Mw
noncomputable section
def spec_ClosestPins_b1 : L := .seq (.seq (.seq (.rg [⟨[], .bin .lss, [.v 2, .v 1], 1⟩]) (.ite (.v 6) (.skip) (.seq (.tup [.v 0, .v 1, .v 3, .v 4, .v 5]) (.exit 2)))) (.seq (.block 3 (.seq (.seq (.rg [⟨[], .idx [.sc, .sc], [.v 5, .v 1], 2⟩, ⟨[], .idx [.sc, .sc], [.v 5, .v 2], 2⟩, ⟨[], .bin .eql, [.v 7, .v 9], 1⟩]) (.ite (.v 11) (.seq (.rg [⟨[], .idx [.sc, .sc], [.v 5, .v 1], 2⟩, ⟨[], .idx [.sc, .sc], [.v 5, .v 2], 2⟩, ⟨[], .call F_GapAround 0 1, [.v 13, .v 15, .v 3], 1⟩, ⟨[], .mn, [.v 0, .v 16], 1⟩]) (.tup [.v 17, .v 1, .v 2, .v 3, .v 4, .v 5])) (.seq (.skip) (.tup [.v 0, .v 1, .v 2, .v 3, .v 4, .v 5])))) (.tup [.v 0, .v 1, .v 2, .v 3, .v 4, .v 5]))) (.rg [⟨[], .bin .add, [.v 2, .k (.int .i64 1)], 1⟩]))) (.tup [.v 0, .v 1, .v 6, .v 3, .v 4, .v 5])
theorem spec_ClosestPins_b1_sh (Q : QT) (x0 x1 x2 x3 x4 x5 : V) : shL spec_ClosestPins_b1 Q [x0, x1, x2, x3, x4, x5] = (
  P1 (.bin .lss) [x2, x1] fun v0 =>
  ifB v0 (
    P2 (.idx [.sc, .sc]) [x5, x1] fun v1 _ =>
    P2 (.idx [.sc, .sc]) [x5, x2] fun v3 _ =>
    P1 (.bin .eql) [v1, v3] fun v5 =>
    ifB v5 (
      P2 (.idx [.sc, .sc]) [x5, x1] fun _ v7 =>
      P2 (.idx [.sc, .sc]) [x5, x2] fun _ v9 =>
      P1 (.call F_GapAround 0 1) [v7, v9, x3] fun v10 =>
      P1 (.mn) [x0, v10] fun v11 =>
      P1 (.bin .add) [x2, .int .i64 1] fun v12 =>
      Q .normal [v11, x1, v12, x3, x4, x5]) (
      P1 (.bin .add) [x2, .int .i64 1] fun v13 =>
      Q .normal [x0, x1, v13, x3, x4, x5])) (
    Q (.exit 2) [x0, x1, x3, x4, x5])) := by kernel_rfl

def spec_ClosestPins_r2 : L := .tup [.v 0, .v 1, .v 2, .v 3, .v 4]
theorem spec_ClosestPins_r2_sh (Q : QT) (x0 x1 x2 x3 x4 : V) : shL spec_ClosestPins_r2 Q [x0, x1, x2, x3, x4] = (
  Q .normal [x0, x1, x2, x3, x4]) := by kernel_rfl

def spec_ClosestPins_r3 : L := .rg [⟨[], .bin .add, [.v 1, .k (.int .i64 1)], 1⟩]
theorem spec_ClosestPins_r3_sh (Q : QT) (x0 x1 x2 x3 x4 : V) : shL spec_ClosestPins_r3 Q [x0, x1, x2, x3, x4] = (
  P1 (.bin .add) [x1, .int .i64 1] fun v0 =>
  Q .normal [x0, x1, x2, x3, x4, v0]) := by kernel_rfl

def spec_ClosestPins_r4 : L := .tup [.v 0, .v 5, .v 2, .v 3, .v 4]
theorem spec_ClosestPins_r4_sh (Q : QT) (x0 x1 x2 x3 x4 x5 : V) : shL spec_ClosestPins_r4 Q [x0, x1, x2, x3, x4, x5] = (
  Q .normal [x0, x5, x2, x3, x4]) := by kernel_rfl

def spec_ClosestPins_b0 : L := .seq (.seq (.seq (.rg [⟨[], .len, [.v 4], 1⟩, ⟨[], .bin .lss, [.v 1, .v 5], 1⟩]) (.ite (.v 6) (.skip) (.seq (.tup [.v 0]) (.exit 0)))) (.seq (.block 1 (.seq (.seq (.rg []) (.block 2 (.seq (.tup [.v 0, .v 1, .k (.int .i64 0), .v 2, .v 3, .v 4]) (.loop (spec_ClosestPins_b1))))) (spec_ClosestPins_r2))) (spec_ClosestPins_r3))) (spec_ClosestPins_r4)
theorem spec_ClosestPins_b0_sh (Q : QT) (x0 x1 x2 x3 x4 : V) : shL spec_ClosestPins_b0 Q [x0, x1, x2, x3, x4] = (
  P1 (.len) [x4] fun v0 =>
  P1 (.bin .lss) [x1, v0] fun v1 =>
  ifB v1 (
    shL (.loop spec_ClosestPins_b1) (qB 2 (qS (shL spec_ClosestPins_r2 (qB 1 (qS (shL spec_ClosestPins_r3 (qS (shL spec_ClosestPins_r4 Q) Q)) (qS (shL spec_ClosestPins_r4 Q) Q)))) (qB 1 (qS (shL spec_ClosestPins_r3 (qS (shL spec_ClosestPins_r4 Q) Q)) (qS (shL spec_ClosestPins_r4 Q) Q))))) [x0, x1, .int .i64 0, x2, x3, x4]) (
    Q (.exit 0) [x0])) := by kernel_rfl

def spec_ClosestPins_r5 : L := .seq (.rg []) (.ret [.v 0])
theorem spec_ClosestPins_r5_sh (Q : QT) (x0 : V) : shL spec_ClosestPins_r5 Q [x0] = (
  Q .ret [x0]) := by kernel_rfl

def spec_ClosestPins_L : L := .seq (.rg []) (.seq (.seq (.rg [⟨[], .call F_CylinderOk 0 1, [.v 0, .v 1, .v 2], 1⟩, ⟨[], .un .not, [.v 3], 1⟩]) (.ite (.v 4) (.seq (.rg []) (.ret [.k (.int .i64 (-1))])) (.skip))) (.seq (.rg []) (.seq (.seq (.rg []) (.block 0 (.seq (.tup [.v 0, .k (.int .i64 0), .v 0, .v 1, .v 2]) (.loop (spec_ClosestPins_b0))))) (spec_ClosestPins_r5))))
theorem spec_ClosestPins_L_sh (Q : QT) (x0 x1 x2 : V) : shL spec_ClosestPins_L Q [x0, x1, x2] = (
  P1 (.call F_CylinderOk 0 1) [x0, x1, x2] fun v0 =>
  P1 (.un .not) [v0] fun v1 =>
  ifB v1 (
    Q .ret [.int .i64 (-1)]) (
    shL (.loop spec_ClosestPins_b0) (qB 0 (qS (shL spec_ClosestPins_r5 Q) Q)) [x0, .int .i64 0, x0, x1, x2])) := by kernel_rfl
def spec_ClosestPins_S : Sig := ⟨[.val true [.sc, .sc, .sl [.sc, .sc]]], [(false, [.sc])], F_ClosestPins⟩
def spec_ClosestPins_hs : List NF := [⟨[(3, .sc false [.sc])], [], [], 64⟩, ⟨[(1, .ptr 64 0), (3, .sc false [.sc]), (4, .sc false [.sc])], [], [(64, [.sc, .sc, .ro [.sc, .sc]])], 65⟩, ⟨[(1, .ptr 64 0), (3, .sc false [.sc]), (4, .sc false [.sc])], [], [(64, [.sc, .sc, .ro [.sc, .sc]])], 65⟩, ⟨[(1, .ptr 64 0), (3, .sc false [.sc]), (4, .sc false [.sc])], [], [(64, [.sc, .sc, .ro [.sc, .sc]])], 65⟩, ⟨[(1, .ptr 64 0), (3, .sc false [.sc]), (4, .sc false [.sc]), (5, .sc false [.sc])], [], [(64, [.sc, .sc, .ro [.sc, .sc]])], 65⟩, ⟨[(1, .ptr 64 0), (3, .sc false [.sc]), (4, .sc false [.sc]), (5, .sc false [.sc])], [], [(64, [.sc, .sc, .ro [.sc, .sc]])], 65⟩, ⟨[(1, .ptr 64 0), (3, .sc false [.sc]), (4, .sc false [.sc]), (5, .sc false [.sc])], [], [(64, [.sc, .sc, .ro [.sc, .sc]])], 65⟩]

def spec_l39Bool_L : L := .seq (.rg []) (.seq (.seq (.rg []) (.ite (.v 0) (.seq (.rg []) (.ret [.k (.int .i64 1)])) (.skip))) (.seq (.rg []) (.ret [.k (.int .i64 0)])))
theorem spec_l39Bool_L_sh (Q : QT) (x0 : V) : shL spec_l39Bool_L Q [x0] = (
  ifB x0 (
    Q .ret [.int .i64 1]) (
    Q .ret [.int .i64 0])) := by kernel_rfl
def spec_l39Bool_S : Sig := ⟨[.val false [.sc]], [(false, [.sc])], F_l39Bool⟩
def spec_l39Bool_hs : List NF := []

def spec_DoAct_r0 : L := .seq (.rg []) (.seq (.seq (.rg []) (.block 0 (.seq (.seq (.rg [⟨[], .bin .eql, [.v 10, .k (.int .i64 1)], 1⟩]) (.ite (.v 28) (.seq (.rg [⟨[], .call F_PutPin 0 11, [.v 0, .v 1, .v 2, .v 3, .v 4, .v 5, .v 6, .v 7, .v 8, .v 9, .v 11, .v 12], 11⟩]) (.tup [.v 39, .v 31, .v 32, .v 33, .k (.int .i64 0), .k (.int .i64 0), .k (.int .i64 0), .k (.int .i64 0), .k (.int .i64 0), .k (.int .i64 0), .k (.int .i64 0), .v 29, .v 30, .v 34, .v 35, .v 36, .v 37, .v 38])) (.seq (.seq (.rg [⟨[], .bin .eql, [.v 10, .k (.int .i64 2)], 1⟩]) (.ite (.v 29) (.seq (.rg [⟨[], .call F_RemovePin 0 11, [.v 0, .v 1, .v 2, .v 3, .v 4, .v 5, .v 6, .v 7, .v 8, .v 9, .v 11], 11⟩]) (.tup [.v 40, .v 32, .v 33, .v 34, .k (.int .i64 0), .k (.int .i64 0), .k (.int .i64 0), .k (.int .i64 0), .k (.int .i64 0), .k (.int .i64 0), .k (.int .i64 0), .v 30, .v 31, .v 35, .v 36, .v 37, .v 38, .v 39])) (.seq (.seq (.rg [⟨[], .bin .eql, [.v 10, .k (.int .i64 5)], 1⟩]) (.ite (.v 30) (.seq (.rg [⟨[], .call F_PlayOnce 0 11, [.v 0, .v 1, .v 2, .v 3, .v 4, .v 5, .v 6, .v 7, .v 8, .v 9], 11⟩]) (.tup [.v 41, .v 33, .v 34, .v 35, .k (.int .i64 0), .k (.int .i64 0), .k (.int .i64 0), .k (.int .i64 0), .k (.int .i64 0), .k (.int .i64 0), .k (.int .i64 0), .v 31, .v 32, .v 36, .v 37, .v 38, .v 39, .v 40])) (.seq (.seq (.rg [⟨[], .bin .eql, [.v 10, .k (.int .i64 3)], 1⟩]) (.ite (.v 31) (.seq (.rg [⟨[], .call F_TakeBack 0 5, [.v 0, .v 1, .v 2, .v 3], 5⟩]) (.tup [.v 36, .v 34, .v 35, .v 17, .k (.int .i64 0), .k (.int .i64 0), .k (.int .i64 0), .k (.int .i64 0), .k (.int .i64 0), .k (.int .i64 0), .k (.int .i64 0), .v 32, .v 33, .v 18, .v 19, .v 20, .v 21, .v 22])) (.seq (.seq (.rg [⟨[], .bin .eql, [.v 10, .k (.int .i64 4)], 1⟩]) (.ite (.v 32) (.seq (.rg [⟨[], .call F_Crank 0 11, [.v 0, .v 1, .v 2, .v 3, .v 4, .v 5, .v 6, .v 7, .v 8, .v 9, .v 11], 11⟩]) (.seq (.rg []) (.ret [.v 33, .v 34, .v 35, .v 36, .v 37, .v 38, .v 39, .v 40, .v 41, .v 42, .v 43]))) (.seq (.rg [⟨[], .bin .eql, [.v 10, .k (.int .i64 6)], 1⟩]) (.ite (.v 33) (.seq (.rg [⟨[], .call F_ClosestPins 0 1, [.v 0, .v 1, .v 2], 1⟩]) (.ret [.v 13, .v 14, .v 15, .v 16, .v 17, .v 18, .v 19, .v 20, .v 21, .v 22, .v 34])) (.skip))))) (.tup [.k (.bool false), .v 15, .v 16, .v 17, .k (.int .i64 0), .k (.int .i64 0), .k (.int .i64 0), .k (.int .i64 0), .k (.int .i64 0), .k (.int .i64 0), .k (.int .i64 0), .v 13, .v 14, .v 18, .v 19, .v 20, .v 21, .v 22])))) (.tup [.v 0, .v 1, .v 2, .v 3, .v 4, .v 5, .v 6, .v 7, .v 8, .v 9, .v 10, .v 11, .v 12, .v 13, .v 14, .v 15, .v 16, .v 17])))) (.tup [.v 0, .v 1, .v 2, .v 3, .v 4, .v 5, .v 6, .v 7, .v 8, .v 9, .v 10, .v 11, .v 12, .v 13, .v 14, .v 15, .v 16, .v 17])))) (.tup [.v 0, .v 1, .v 2, .v 3, .v 4, .v 5, .v 6, .v 7, .v 8, .v 9, .v 10, .v 11, .v 12, .v 13, .v 14, .v 15, .v 16, .v 17])))) (.tup [.v 0, .v 1, .v 2, .v 3, .v 4, .v 5, .v 6, .v 7, .v 8, .v 9, .v 10, .v 11, .v 12, .v 13, .v 14, .v 15, .v 16, .v 17])))) (.seq (.rg [⟨[], .call F_l39Bool 0 1, [.v 0], 1⟩]) (.ret [.v 11, .v 12, .v 1, .v 2, .v 3, .v 13, .v 14, .v 15, .v 16, .v 17, .v 18])))
theorem spec_DoAct_r0_sh (Q : QT) (x0 x1 x2 x3 x4 x5 x6 x7 x8 x9 x10 x11 x12 x13 x14 x15 x16 x17 x18 x19 x20 x21 x22 x23 x24 x25 x26 x27 : V) : shL spec_DoAct_r0 Q [x0, x1, x2, x3, x4, x5, x6, x7, x8, x9, x10, x11, x12, x13, x14, x15, x16, x17, x18, x19, x20, x21, x22, x23, x24, x25, x26, x27] = (
  P1 (.bin .eql) [x10, .int .i64 1] fun v0 =>
  ifB v0 (
    P11 (.call F_PutPin 0 11) [x0, x1, x2, x3, x4, x5, x6, x7, x8, x9, x11, x12] fun v1 v2 v3 v4 v5 v6 v7 v8 v9 v10 v11 =>
    P1 (.call F_l39Bool 0 1) [v11] fun v12 =>
    Q .ret [v1, v2, v3, v4, v5, v6, v7, v8, v9, v10, v12]) (
    P1 (.bin .eql) [x10, .int .i64 2] fun v13 =>
    ifB v13 (
      P11 (.call F_RemovePin 0 11) [x0, x1, x2, x3, x4, x5, x6, x7, x8, x9, x11] fun v14 v15 v16 v17 v18 v19 v20 v21 v22 v23 v24 =>
      P1 (.call F_l39Bool 0 1) [v24] fun v25 =>
      Q .ret [v14, v15, v16, v17, v18, v19, v20, v21, v22, v23, v25]) (
      P1 (.bin .eql) [x10, .int .i64 5] fun v26 =>
      ifB v26 (
        P11 (.call F_PlayOnce 0 11) [x0, x1, x2, x3, x4, x5, x6, x7, x8, x9] fun v27 v28 v29 v30 v31 v32 v33 v34 v35 v36 v37 =>
        P1 (.call F_l39Bool 0 1) [v37] fun v38 =>
        Q .ret [v27, v28, v29, v30, v31, v32, v33, v34, v35, v36, v38]) (
        P1 (.bin .eql) [x10, .int .i64 3] fun v39 =>
        ifB v39 (
          P5 (.call F_TakeBack 0 5) [x0, x1, x2, x3] fun v40 v41 v42 v43 v44 =>
          P1 (.call F_l39Bool 0 1) [v44] fun v45 =>
          Q .ret [v40, v41, v42, v43, x17, x18, x19, x20, x21, x22, v45]) (
          P1 (.bin .eql) [x10, .int .i64 4] fun v46 =>
          ifB v46 (
            P11 (.call F_Crank 0 11) [x0, x1, x2, x3, x4, x5, x6, x7, x8, x9, x11] fun v47 v48 v49 v50 v51 v52 v53 v54 v55 v56 v57 =>
            Q .ret [v47, v48, v49, v50, v51, v52, v53, v54, v55, v56, v57]) (
            P1 (.bin .eql) [x10, .int .i64 6] fun v58 =>
            ifB v58 (
              P1 (.call F_ClosestPins 0 1) [x0, x1, x2] fun v59 =>
              Q .ret [x13, x14, x15, x16, x17, x18, x19, x20, x21, x22, v59]) (
              P1 (.call F_l39Bool 0 1) [.bool false] fun v60 =>
              Q .ret [x13, x14, x15, x16, x17, x18, x19, x20, x21, x22, v60]))))))) := by kernel_rfl

def spec_DoAct_L : L := .seq (.rg []) (.seq (.rg [⟨[], .call F_l38Copy 0 10, [.v 0, .v 1, .v 2, .v 3, .v 4, .v 5, .v 6, .v 7, .v 8, .v 9], 10⟩]) (.seq (.seq (.rg [⟨[], .call F_WorkshopOk 0 1, [.v 0, .v 1, .v 2, .v 3, .v 4, .v 5, .v 6, .v 7, .v 8, .v 9], 1⟩, ⟨[], .un .not, [.v 23], 1⟩, ⟨[(.v 24, false)], .call F_ActOk 0 1, [.v 10, .v 11, .v 12], 1⟩, ⟨[(.v 24, false)], .un .not, [.v 25], 1⟩, ⟨[], .pick, [.v 24, .k (.bool true), .v 26], 1⟩]) (.ite (.v 27) (.seq (.rg []) (.ret [.v 13, .v 14, .v 15, .v 16, .v 17, .v 18, .v 19, .v 20, .v 21, .v 22, .k (.int .i64 (-1))])) (.skip))) (spec_DoAct_r0)))
theorem spec_DoAct_L_sh (Q : QT) (x0 x1 x2 x3 x4 x5 x6 x7 x8 x9 x10 x11 x12 : V) : shL spec_DoAct_L Q [x0, x1, x2, x3, x4, x5, x6, x7, x8, x9, x10, x11, x12] = (
  P10 (.call F_l38Copy 0 10) [x0, x1, x2, x3, x4, x5, x6, x7, x8, x9] fun v0 v1 v2 v3 v4 v5 v6 v7 v8 v9 =>
  P1 (.call F_WorkshopOk 0 1) [x0, x1, x2, x3, x4, x5, x6, x7, x8, x9] fun v10 =>
  P1 (.un .not) [v10] fun v11 =>
  ifB v11 (
    Q .ret [v0, v1, v2, v3, v4, v5, v6, v7, v8, v9, .int .i64 (-1)]) (
    P1 (.call F_ActOk 0 1) [x10, x11, x12] fun v12 =>
    P1 (.un .not) [v12] fun v13 =>
    ifB v13 (
      Q .ret [v0, v1, v2, v3, v4, v5, v6, v7, v8, v9, .int .i64 (-1)]) (
      shL spec_DoAct_r0 Q [x0, x1, x2, x3, x4, x5, x6, x7, x8, x9, x10, x11, x12, v0, v1, v2, v3, v4, v5, v6, v7, v8, v9, v10, .bool false, v12, v13, .bool false]))) := by kernel_rfl
def spec_DoAct_S : Sig := ⟨[.val true [.sc, .sc, .sl [.sc, .sc], .sl [.sl [.sc, .sc]], .sl [.sc], .sc, .sc, .sc, .sc, .sc], .val true [.sc, .sc, .sc]], [(true, [.sc, .sc, .sl [.sc, .sc], .sl [.sl [.sc, .sc]], .sl [.sc], .sc, .sc, .sc, .sc, .sc]), (false, [.sc])], F_DoAct⟩
def spec_DoAct_hs : List NF := [⟨[(4, .ptr 64 0), (6, .ptr 65 0), (7, .sc false [.sc])], [(66, true, [.sc, .sc]), (67, true, [.sl [.sc, .sc]]), (68, true, [.sc])], [(64, [.sc, .sc, .nil, .nil, .nil, .sc, .sc, .sc, .sc, .sc]), (65, [.sc, .sc, .own 66, .own 67, .own 68, .sc, .sc, .sc, .sc, .sc])], 69⟩, ⟨[(4, .ptr 64 0), (6, .ptr 65 0), (7, .sc false [.sc])], [(66, true, [.sc, .sc]), (67, true, [.sl [.sc, .sc]]), (68, true, [.sc])], [(64, [.sc, .sc, .nil, .nil, .nil, .sc, .sc, .sc, .sc, .sc]), (65, [.sc, .sc, .own 66, .own 67, .own 68, .sc, .sc, .sc, .sc, .sc])], 69⟩, ⟨[(4, .ptr 64 0), (6, .ptr 65 0), (7, .sc false [.sc])], [(66, true, [.sc, .sc]), (67, true, [.sl [.sc, .sc]]), (68, true, [.sc])], [(64, [.sc, .sc, .nil, .nil, .nil, .sc, .sc, .sc, .sc, .sc]), (65, [.sc, .sc, .own 66, .own 67, .own 68, .sc, .sc, .sc, .sc, .sc])], 69⟩, ⟨[(4, .ptr 64 0), (6, .ptr 65 0), (7, .sc false [.sc])], [(66, true, [.sc, .sc]), (67, true, [.sl [.sc, .sc]]), (68, true, [.sc])], [(64, [.sc, .sc, .nil, .nil, .nil, .sc, .sc, .sc, .sc, .sc]), (65, [.sc, .sc, .own 66, .own 67, .own 68, .sc, .sc, .sc, .sc, .sc])], 69⟩, ⟨[(4, .ptr 64 0), (6, .ptr 65 0), (7, .sc false [.sc])], [(66, true, [.sc, .sc]), (67, true, [.sl [.sc, .sc]]), (68, true, [.sc])], [(64, [.sc, .sc, .nil, .nil, .nil, .sc, .sc, .sc, .sc, .sc]), (65, [.sc, .sc, .own 66, .own 67, .own 68, .sc, .sc, .sc, .sc, .sc])], 69⟩]

def impl_numberOf_L : L := .seq (.rg []) (.seq (.seq (.rg []) (.ite (.v 0) (.seq (.rg []) (.ret [.k (.int .i64 1)])) (.skip))) (.seq (.rg []) (.ret [.k (.int .i64 0)])))
theorem impl_numberOf_L_sh (Q : QT) (x0 : V) : shL impl_numberOf_L Q [x0] = (
  ifB x0 (
    Q .ret [.int .i64 1]) (
    Q .ret [.int .i64 0])) := by kernel_rfl
def impl_numberOf_S : Sig := ⟨[.val false [.sc]], [(false, [.sc])], F_numberOf⟩
def impl_numberOf_hs : List NF := []

def impl_ClosestPins_b1 : L := .seq (.seq (.rg [⟨[], .bin .lss, [.v 6, .v 5], 1⟩]) (.seq (.ite (.v 12) (.skip) (.seq (.tup [.v 0, .v 1, .v 2, .v 3, .v 7, .v 8, .v 9]) (.exit 2))) (.seq (.block 3 (.seq (.seq (.rg [⟨[], .idx [.sc, .sc], [.v 4, .v 6], 2⟩]) (.seq (.rg [⟨[], .bin .eql, [.v 10, .v 13], 1⟩]) (.ite (.v 15) (.seq (.rg [⟨[], .call F_GapAround 0 1, [.v 11, .v 14, .v 7], 1⟩, ⟨[], .mn, [.v 0, .v 16], 1⟩]) (.tup [.v 17, .v 1, .v 2, .v 3, .v 4, .v 5, .v 6, .v 7, .v 8, .v 9, .v 10, .v 11])) (.seq (.skip) (.tup [.v 0, .v 1, .v 2, .v 3, .v 4, .v 5, .v 6, .v 7, .v 8, .v 9, .v 10, .v 11]))))) (.tup [.v 0, .v 1, .v 2, .v 3, .v 4, .v 5, .v 6, .v 7, .v 8, .v 9, .v 10, .v 11]))) (.rg [⟨[], .bin .add, [.v 6, .k (.int .i64 1)], 1⟩])))) (.tup [.v 0, .v 1, .v 2, .v 3, .v 4, .v 5, .v 12, .v 7, .v 8, .v 9, .v 10, .v 11])
theorem impl_ClosestPins_b1_sh (Q : QT) (x0 x1 x2 x3 x4 x5 x6 x7 x8 x9 x10 x11 : V) : shL impl_ClosestPins_b1 Q [x0, x1, x2, x3, x4, x5, x6, x7, x8, x9, x10, x11] = (
  P1 (.bin .lss) [x6, x5] fun v0 =>
  ifB v0 (
    P2 (.idx [.sc, .sc]) [x4, x6] fun v1 v2 =>
    P1 (.bin .eql) [x10, v1] fun v3 =>
    ifB v3 (
      P1 (.call F_GapAround 0 1) [x11, v2, x7] fun v4 =>
      P1 (.mn) [x0, v4] fun v5 =>
      P1 (.bin .add) [x6, .int .i64 1] fun v6 =>
      Q .normal [v5, x1, x2, x3, x4, x5, v6, x7, x8, x9, x10, x11]) (
      P1 (.bin .add) [x6, .int .i64 1] fun v7 =>
      Q .normal [x0, x1, x2, x3, x4, x5, v7, x7, x8, x9, x10, x11])) (
    Q (.exit 2) [x0, x1, x2, x3, x7, x8, x9])) := by kernel_rfl

def impl_ClosestPins_r2 : L := .tup [.v 0, .v 1, .v 2, .v 3, .v 4, .v 5, .v 6]
theorem impl_ClosestPins_r2_sh (Q : QT) (x0 x1 x2 x3 x4 x5 x6 : V) : shL impl_ClosestPins_r2 Q [x0, x1, x2, x3, x4, x5, x6] = (
  Q .normal [x0, x1, x2, x3, x4, x5, x6]) := by kernel_rfl

def impl_ClosestPins_r3 : L := .rg [⟨[], .bin .add, [.v 3, .k (.int .i64 1)], 1⟩]
theorem impl_ClosestPins_r3_sh (Q : QT) (x0 x1 x2 x3 x4 x5 x6 : V) : shL impl_ClosestPins_r3 Q [x0, x1, x2, x3, x4, x5, x6] = (
  P1 (.bin .add) [x3, .int .i64 1] fun v0 =>
  Q .normal [x0, x1, x2, x3, x4, x5, x6, v0]) := by kernel_rfl

def impl_ClosestPins_r4 : L := .tup [.v 0, .v 1, .v 2, .v 7, .v 4, .v 5, .v 6]
theorem impl_ClosestPins_r4_sh (Q : QT) (x0 x1 x2 x3 x4 x5 x6 x7 : V) : shL impl_ClosestPins_r4 Q [x0, x1, x2, x3, x4, x5, x6, x7] = (
  Q .normal [x0, x1, x2, x7, x4, x5, x6]) := by kernel_rfl

def impl_ClosestPins_b0 : L := .seq (.seq (.rg [⟨[], .bin .lss, [.v 3, .v 2], 1⟩]) (.seq (.ite (.v 7) (.skip) (.seq (.tup [.v 0]) (.exit 0))) (.seq (.block 1 (.seq (.seq (.rg [⟨[], .idx [.sc, .sc], [.v 1, .v 3], 2⟩]) (.seq (.rg [⟨[], .lsub [.sc, .sc], [.v 6, .k (.int .i64 0), .v 3], 1⟩, ⟨[], .len, [.v 10], 1⟩]) (.block 2 (.seq (.tup [.v 0, .v 1, .v 2, .v 3, .v 10, .v 11, .k (.int .i64 0), .v 4, .v 5, .v 6, .v 8, .v 9]) (.loop (impl_ClosestPins_b1)))))) (impl_ClosestPins_r2))) (impl_ClosestPins_r3)))) (impl_ClosestPins_r4)
theorem impl_ClosestPins_b0_sh (Q : QT) (x0 x1 x2 x3 x4 x5 x6 : V) : shL impl_ClosestPins_b0 Q [x0, x1, x2, x3, x4, x5, x6] = (
  P1 (.bin .lss) [x3, x2] fun v0 =>
  ifB v0 (
    P2 (.idx [.sc, .sc]) [x1, x3] fun v1 v2 =>
    P1 (.lsub [.sc, .sc]) [x6, .int .i64 0, x3] fun v3 =>
    P1 (.len) [v3] fun v4 =>
    shL (.loop impl_ClosestPins_b1) (qB 2 (qS (shL impl_ClosestPins_r2 (qB 1 (qS (shL impl_ClosestPins_r3 (qS (shL impl_ClosestPins_r4 Q) Q)) (qS (shL impl_ClosestPins_r4 Q) Q)))) (qB 1 (qS (shL impl_ClosestPins_r3 (qS (shL impl_ClosestPins_r4 Q) Q)) (qS (shL impl_ClosestPins_r4 Q) Q))))) [x0, x1, x2, x3, v3, v4, .int .i64 0, x4, x5, x6, v1, v2]) (
    Q (.exit 0) [x0])) := by kernel_rfl

def impl_ClosestPins_r5 : L := .seq (.rg []) (.ret [.v 0])
theorem impl_ClosestPins_r5_sh (Q : QT) (x0 : V) : shL impl_ClosestPins_r5 Q [x0] = (
  Q .ret [x0]) := by kernel_rfl

def impl_ClosestPins_L : L := .seq (.rg []) (.seq (.seq (.rg [⟨[], .call F_CylinderOk 0 1, [.v 0, .v 1, .v 2], 1⟩, ⟨[], .un .not, [.v 3], 1⟩]) (.ite (.v 4) (.seq (.rg []) (.ret [.k (.int .i64 (-1))])) (.skip))) (.seq (.rg []) (.seq (.seq (.rg [⟨[], .len, [.v 2], 1⟩]) (.block 0 (.seq (.tup [.v 0, .v 2, .v 5, .k (.int .i64 0), .v 0, .v 1, .v 2]) (.loop (impl_ClosestPins_b0))))) (impl_ClosestPins_r5))))
theorem impl_ClosestPins_L_sh (Q : QT) (x0 x1 x2 : V) : shL impl_ClosestPins_L Q [x0, x1, x2] = (
  P1 (.call F_CylinderOk 0 1) [x0, x1, x2] fun v0 =>
  P1 (.un .not) [v0] fun v1 =>
  ifB v1 (
    Q .ret [.int .i64 (-1)]) (
    P1 (.len) [x2] fun v2 =>
    shL (.loop impl_ClosestPins_b0) (qB 0 (qS (shL impl_ClosestPins_r5 Q) Q)) [x0, x2, v2, .int .i64 0, x0, x1, x2])) := by kernel_rfl
def impl_ClosestPins_S : Sig := ⟨[.val true [.sc, .sc, .sl [.sc, .sc]]], [(false, [.sc])], F_ClosestPins⟩
def impl_ClosestPins_hs : List NF := [⟨[(3, .sc false [.sc])], [], [], 64⟩, ⟨[(1, .ptr 64 0), (3, .sc false [.sc]), (14, .sc false [.ro [.sc, .sc]]), (15, .sc false [.sc]), (16, .sc false [.sc])], [], [(64, [.sc, .sc, .ro [.sc, .sc]])], 65⟩, ⟨[(1, .ptr 64 0), (3, .sc false [.sc]), (14, .sc false [.ro [.sc, .sc]]), (15, .sc false [.sc]), (16, .sc false [.sc])], [], [(64, [.sc, .sc, .ro [.sc, .sc]])], 65⟩, ⟨[(1, .ptr 64 0), (3, .sc false [.sc]), (14, .sc false [.ro [.sc, .sc]]), (15, .sc false [.sc]), (16, .sc false [.sc])], [], [(64, [.sc, .sc, .ro [.sc, .sc]])], 65⟩, ⟨[(1, .ptr 64 0), (3, .sc false [.sc]), (5, .ptr 65 0), (14, .sc false [.ro [.sc, .sc]]), (15, .sc false [.sc]), (16, .sc false [.sc]), (24, .sc false [.ro [.sc, .sc]]), (25, .sc false [.sc]), (26, .sc false [.sc])], [], [(64, [.sc, .sc, .ro [.sc, .sc]]), (65, [.sc, .sc])], 66⟩, ⟨[(1, .ptr 64 0), (3, .sc false [.sc]), (5, .ptr 65 0), (14, .sc false [.ro [.sc, .sc]]), (15, .sc false [.sc]), (16, .sc false [.sc]), (24, .sc false [.ro [.sc, .sc]]), (25, .sc false [.sc]), (26, .sc false [.sc])], [], [(64, [.sc, .sc, .ro [.sc, .sc]]), (65, [.sc, .sc])], 66⟩, ⟨[(1, .ptr 64 0), (3, .sc false [.sc]), (5, .ptr 65 0), (14, .sc false [.ro [.sc, .sc]]), (15, .sc false [.sc]), (16, .sc false [.sc]), (24, .sc false [.ro [.sc, .sc]]), (25, .sc false [.sc]), (26, .sc false [.sc])], [], [(64, [.sc, .sc, .ro [.sc, .sc]]), (65, [.sc, .sc])], 66⟩]

def impl_DoAct_r0 : L := .seq (.seq (.rg []) (.block 0 (.seq (.seq (.rg [⟨[], .bin .eql, [.v 10, .k (.int .i64 1)], 1⟩]) (.ite (.v 18) (.seq (.rg [⟨[], .call F_PutPin 0 11, [.v 0, .v 1, .v 2, .v 3, .v 4, .v 5, .v 6, .v 7, .v 8, .v 9, .v 11, .v 12], 11⟩]) (.seq (.rg [⟨[], .call F_numberOf 0 1, [.v 29], 1⟩]) (.ret [.v 19, .v 20, .v 21, .v 22, .v 23, .v 24, .v 25, .v 26, .v 27, .v 28, .v 30]))) (.seq (.rg [⟨[], .bin .eql, [.v 10, .k (.int .i64 2)], 1⟩]) (.ite (.v 19) (.seq (.rg [⟨[], .call F_RemovePin 0 11, [.v 0, .v 1, .v 2, .v 3, .v 4, .v 5, .v 6, .v 7, .v 8, .v 9, .v 11], 11⟩]) (.seq (.rg [⟨[], .call F_numberOf 0 1, [.v 30], 1⟩]) (.ret [.v 20, .v 21, .v 22, .v 23, .v 24, .v 25, .v 26, .v 27, .v 28, .v 29, .v 31]))) (.seq (.rg [⟨[], .bin .eql, [.v 10, .k (.int .i64 3)], 1⟩]) (.ite (.v 20) (.seq (.rg [⟨[], .call F_TakeBack 0 5, [.v 0, .v 1, .v 2, .v 3], 5⟩]) (.seq (.rg [⟨[], .call F_withBench 0 11, [.v 0, .v 1, .v 2, .v 3, .v 4, .v 5, .v 6, .v 7, .v 8, .v 9, .v 21, .v 22, .v 23, .v 24, .k (.int .i64 0), .v 25], 11⟩]) (.seq (.rg [⟨[], .call F_numberOf 0 1, [.v 36], 1⟩]) (.ret [.v 26, .v 27, .v 28, .v 29, .v 30, .v 31, .v 32, .v 33, .v 34, .v 35, .v 37])))) (.seq (.rg [⟨[], .bin .eql, [.v 10, .k (.int .i64 4)], 1⟩]) (.ite (.v 21) (.seq (.rg [⟨[], .call F_Crank 0 11, [.v 0, .v 1, .v 2, .v 3, .v 4, .v 5, .v 6, .v 7, .v 8, .v 9, .v 11], 11⟩]) (.ret [.v 22, .v 23, .v 24, .v 25, .v 26, .v 27, .v 28, .v 29, .v 30, .v 31, .v 32])) (.seq (.rg [⟨[], .bin .eql, [.v 10, .k (.int .i64 5)], 1⟩]) (.ite (.v 22) (.seq (.rg [⟨[], .call F_PlayOnce 0 11, [.v 0, .v 1, .v 2, .v 3, .v 4, .v 5, .v 6, .v 7, .v 8, .v 9], 11⟩]) (.seq (.rg [⟨[], .call F_numberOf 0 1, [.v 33], 1⟩]) (.ret [.v 23, .v 24, .v 25, .v 26, .v 27, .v 28, .v 29, .v 30, .v 31, .v 32, .v 34]))) (.skip))))))))))) (.tup [.v 0, .v 1, .v 2, .v 3, .v 4, .v 5, .v 6, .v 7, .v 8, .v 9, .k (.int .i64 0), .k (.int .i64 0), .k (.int .i64 0), .k (.int .i64 0), .k (.int .i64 0), .k (.int .i64 0), .k (.int .i64 0)])))) (.seq (.rg [⟨[], .call F_copyWorkshop 0 10, [.v 0, .v 1, .v 2, .v 3, .v 4, .v 5, .v 6, .v 7, .v 8, .v 9], 10⟩, ⟨[], .call F_ClosestPins 0 1, [.v 0, .v 1, .v 2], 1⟩]) (.ret [.v 17, .v 18, .v 19, .v 20, .v 21, .v 22, .v 23, .v 24, .v 25, .v 26, .v 27]))
theorem impl_DoAct_r0_sh (Q : QT) (x0 x1 x2 x3 x4 x5 x6 x7 x8 x9 x10 x11 x12 x13 x14 x15 x16 x17 : V) : shL impl_DoAct_r0 Q [x0, x1, x2, x3, x4, x5, x6, x7, x8, x9, x10, x11, x12, x13, x14, x15, x16, x17] = (
  P1 (.bin .eql) [x10, .int .i64 1] fun v0 =>
  ifB v0 (
    P11 (.call F_PutPin 0 11) [x0, x1, x2, x3, x4, x5, x6, x7, x8, x9, x11, x12] fun v1 v2 v3 v4 v5 v6 v7 v8 v9 v10 v11 =>
    P1 (.call F_numberOf 0 1) [v11] fun v12 =>
    Q .ret [v1, v2, v3, v4, v5, v6, v7, v8, v9, v10, v12]) (
    P1 (.bin .eql) [x10, .int .i64 2] fun v13 =>
    ifB v13 (
      P11 (.call F_RemovePin 0 11) [x0, x1, x2, x3, x4, x5, x6, x7, x8, x9, x11] fun v14 v15 v16 v17 v18 v19 v20 v21 v22 v23 v24 =>
      P1 (.call F_numberOf 0 1) [v24] fun v25 =>
      Q .ret [v14, v15, v16, v17, v18, v19, v20, v21, v22, v23, v25]) (
      P1 (.bin .eql) [x10, .int .i64 3] fun v26 =>
      ifB v26 (
        P5 (.call F_TakeBack 0 5) [x0, x1, x2, x3] fun v27 v28 v29 v30 v31 =>
        P11 (.call F_withBench 0 11) [x0, x1, x2, x3, x4, x5, x6, x7, x8, x9, v27, v28, v29, v30, .int .i64 0, v31] fun v32 v33 v34 v35 v36 v37 v38 v39 v40 v41 v42 =>
        P1 (.call F_numberOf 0 1) [v42] fun v43 =>
        Q .ret [v32, v33, v34, v35, v36, v37, v38, v39, v40, v41, v43]) (
        P1 (.bin .eql) [x10, .int .i64 4] fun v44 =>
        ifB v44 (
          P11 (.call F_Crank 0 11) [x0, x1, x2, x3, x4, x5, x6, x7, x8, x9, x11] fun v45 v46 v47 v48 v49 v50 v51 v52 v53 v54 v55 =>
          Q .ret [v45, v46, v47, v48, v49, v50, v51, v52, v53, v54, v55]) (
          P1 (.bin .eql) [x10, .int .i64 5] fun v56 =>
          ifB v56 (
            P11 (.call F_PlayOnce 0 11) [x0, x1, x2, x3, x4, x5, x6, x7, x8, x9] fun v57 v58 v59 v60 v61 v62 v63 v64 v65 v66 v67 =>
            P1 (.call F_numberOf 0 1) [v67] fun v68 =>
            Q .ret [v57, v58, v59, v60, v61, v62, v63, v64, v65, v66, v68]) (
            P10 (.call F_copyWorkshop 0 10) [x0, x1, x2, x3, x4, x5, x6, x7, x8, x9] fun v69 v70 v71 v72 v73 v74 v75 v76 v77 v78 =>
            P1 (.call F_ClosestPins 0 1) [x0, x1, x2] fun v79 =>
            Q .ret [v69, v70, v71, v72, v73, v74, v75, v76, v77, v78, v79])))))) := by kernel_rfl

def impl_DoAct_L : L := .seq (.rg []) (.seq (.seq (.rg [⟨[], .call F_WorkshopOk 0 1, [.v 0, .v 1, .v 2, .v 3, .v 4, .v 5, .v 6, .v 7, .v 8, .v 9], 1⟩, ⟨[], .un .not, [.v 13], 1⟩, ⟨[(.v 14, false)], .call F_ActOk 0 1, [.v 10, .v 11, .v 12], 1⟩, ⟨[(.v 14, false)], .un .not, [.v 15], 1⟩, ⟨[], .pick, [.v 14, .k (.bool true), .v 16], 1⟩]) (.ite (.v 17) (.seq (.rg [⟨[], .call F_copyWorkshop 0 10, [.v 0, .v 1, .v 2, .v 3, .v 4, .v 5, .v 6, .v 7, .v 8, .v 9], 10⟩]) (.ret [.v 18, .v 19, .v 20, .v 21, .v 22, .v 23, .v 24, .v 25, .v 26, .v 27, .k (.int .i64 (-1))])) (.skip))) (impl_DoAct_r0))
theorem impl_DoAct_L_sh (Q : QT) (x0 x1 x2 x3 x4 x5 x6 x7 x8 x9 x10 x11 x12 : V) : shL impl_DoAct_L Q [x0, x1, x2, x3, x4, x5, x6, x7, x8, x9, x10, x11, x12] = (
  P1 (.call F_WorkshopOk 0 1) [x0, x1, x2, x3, x4, x5, x6, x7, x8, x9] fun v0 =>
  P1 (.un .not) [v0] fun v1 =>
  ifB v1 (
    P10 (.call F_copyWorkshop 0 10) [x0, x1, x2, x3, x4, x5, x6, x7, x8, x9] fun v2 v3 v4 v5 v6 v7 v8 v9 v10 v11 =>
    Q .ret [v2, v3, v4, v5, v6, v7, v8, v9, v10, v11, .int .i64 (-1)]) (
    P1 (.call F_ActOk 0 1) [x10, x11, x12] fun v12 =>
    P1 (.un .not) [v12] fun v13 =>
    ifB v13 (
      P10 (.call F_copyWorkshop 0 10) [x0, x1, x2, x3, x4, x5, x6, x7, x8, x9] fun v14 v15 v16 v17 v18 v19 v20 v21 v22 v23 =>
      Q .ret [v14, v15, v16, v17, v18, v19, v20, v21, v22, v23, .int .i64 (-1)]) (
      shL impl_DoAct_r0 Q [x0, x1, x2, x3, x4, x5, x6, x7, x8, x9, x10, x11, x12, v0, .bool false, v12, v13, .bool false]))) := by kernel_rfl
def impl_DoAct_S : Sig := ⟨[.val true [.sc, .sc, .sl [.sc, .sc], .sl [.sl [.sc, .sc]], .sl [.sc], .sc, .sc, .sc, .sc, .sc], .val true [.sc, .sc, .sc]], [(true, [.sc, .sc, .sl [.sc, .sc], .sl [.sl [.sc, .sc]], .sl [.sc], .sc, .sc, .sc, .sc, .sc]), (false, [.sc])], F_DoAct⟩
def impl_DoAct_hs : List NF := [⟨[(2, .ptr 64 0), (4, .ptr 65 0)], [], [(64, [.sc, .sc, .ro [.sc, .sc], .ro [.sl [.sc, .sc]], .ro [.sc], .sc, .sc, .sc, .sc, .sc]), (65, [.sc, .sc, .nil, .nil, .nil, .sc, .sc, .sc, .sc, .sc])], 66⟩]

def impl_RunActs_b0 : L := .seq (.seq (.rg [⟨[], .bin .lss, [.v 2, .v 1], 1⟩]) (.seq (.ite (.v 21) (.skip) (.seq (.tup [.v 3, .v 4, .v 5, .v 6, .v 7, .v 8, .v 9, .v 10, .v 11, .v 12, .v 13, .v 14, .v 15, .v 16, .v 17, .v 18, .v 19, .v 20]) (.exit 0))) (.seq (.block 1 (.seq (.seq (.rg [⟨[], .idx [.sc, .sc, .sc], [.v 0, .v 2], 3⟩]) (.seq (.rg [⟨[], .call F_DoAct 0 11, [.v 14, .v 15, .v 4, .v 5, .v 6, .v 16, .v 17, .v 18, .v 19, .v 20, .v 22, .v 23, .v 24], 11⟩]) (.seq (.rg []) (.rg [⟨[], .lst [.sc] false 1, [.v 35], 1⟩, ⟨[], .app [.sc] 8, [.v 3, .v 36], 1⟩])))) (.tup [.v 0, .v 1, .v 2, .v 37, .v 27, .v 28, .v 29, .v 7, .v 8, .v 9, .v 10, .v 11, .v 12, .v 13, .v 25, .v 26, .v 30, .v 31, .v 32, .v 33, .v 34]))) (.rg [⟨[], .bin .add, [.v 2, .k (.int .i64 1)], 1⟩])))) (.tup [.v 0, .v 1, .v 21, .v 3, .v 4, .v 5, .v 6, .v 7, .v 8, .v 9, .v 10, .v 11, .v 12, .v 13, .v 14, .v 15, .v 16, .v 17, .v 18, .v 19, .v 20])
theorem impl_RunActs_b0_sh (Q : QT) (x0 x1 x2 x3 x4 x5 x6 x7 x8 x9 x10 x11 x12 x13 x14 x15 x16 x17 x18 x19 x20 : V) : shL impl_RunActs_b0 Q [x0, x1, x2, x3, x4, x5, x6, x7, x8, x9, x10, x11, x12, x13, x14, x15, x16, x17, x18, x19, x20] = (
  P1 (.bin .lss) [x2, x1] fun v0 =>
  ifB v0 (
    P3 (.idx [.sc, .sc, .sc]) [x0, x2] fun v1 v2 v3 =>
    P11 (.call F_DoAct 0 11) [x14, x15, x4, x5, x6, x16, x17, x18, x19, x20, v1, v2, v3] fun v4 v5 v6 v7 v8 v9 v10 v11 v12 v13 v14 =>
    P1 (.lst [.sc] false 1) [v14] fun v15 =>
    P1 (.app [.sc] 8) [x3, v15] fun v16 =>
    P1 (.bin .add) [x2, .int .i64 1] fun v17 =>
    Q .normal [x0, x1, v17, v16, v6, v7, v8, x7, x8, x9, x10, x11, x12, x13, v4, v5, v9, v10, v11, v12, v13]) (
    Q (.exit 0) [x3, x4, x5, x6, x7, x8, x9, x10, x11, x12, x13, x14, x15, x16, x17, x18, x19, x20])) := by kernel_rfl

def impl_RunActs_r1 : L := .seq (.rg []) (.ret [.v 11, .v 12, .v 1, .v 2, .v 3, .v 13, .v 14, .v 15, .v 16, .v 17, .v 0])
theorem impl_RunActs_r1_sh (Q : QT) (x0 x1 x2 x3 x4 x5 x6 x7 x8 x9 x10 x11 x12 x13 x14 x15 x16 x17 : V) : shL impl_RunActs_r1 Q [x0, x1, x2, x3, x4, x5, x6, x7, x8, x9, x10, x11, x12, x13, x14, x15, x16, x17] = (
  Q .ret [x11, x12, x1, x2, x3, x13, x14, x15, x16, x17, x0]) := by kernel_rfl

def impl_RunActs_L : L := .seq (.rg []) (.seq (.rg [⟨[], .call F_copyWorkshop 0 10, [.v 0, .v 1, .v 2, .v 3, .v 4, .v 5, .v 6, .v 7, .v 8, .v 9], 10⟩]) (.seq (.seq (.rg [⟨[], .call F_WorkshopOk 0 1, [.v 0, .v 1, .v 2, .v 3, .v 4, .v 5, .v 6, .v 7, .v 8, .v 9], 1⟩, ⟨[], .un .not, [.v 21], 1⟩, ⟨[(.v 22, false)], .len, [.v 10], 1⟩, ⟨[(.v 22, false)], .bin .gtr, [.v 23, .k (.int .i64 40)], 1⟩, ⟨[], .pick, [.v 22, .k (.bool true), .v 24], 1⟩]) (.ite (.v 25) (.seq (.rg []) (.ret [.v 11, .v 12, .v 13, .v 14, .v 15, .v 16, .v 17, .v 18, .v 19, .v 20, .k (.list [.sc] [])])) (.skip))) (.seq (.rg [⟨[], .lst [.sc] false 0, [], 1⟩]) (.seq (.seq (.rg [⟨[], .len, [.v 10], 1⟩]) (.block 0 (.seq (.tup [.v 10, .v 27, .k (.int .i64 0), .v 26, .v 13, .v 14, .v 15, .k (.int .i64 0), .k (.int .i64 0), .k (.int .i64 0), .k (.int .i64 0), .k (.int .i64 0), .k (.int .i64 0), .k (.int .i64 0), .v 11, .v 12, .v 16, .v 17, .v 18, .v 19, .v 20]) (.loop (impl_RunActs_b0))))) (impl_RunActs_r1)))))
theorem impl_RunActs_L_sh (Q : QT) (x0 x1 x2 x3 x4 x5 x6 x7 x8 x9 x10 : V) : shL impl_RunActs_L Q [x0, x1, x2, x3, x4, x5, x6, x7, x8, x9, x10] = (
  P10 (.call F_copyWorkshop 0 10) [x0, x1, x2, x3, x4, x5, x6, x7, x8, x9] fun v0 v1 v2 v3 v4 v5 v6 v7 v8 v9 =>
  P1 (.call F_WorkshopOk 0 1) [x0, x1, x2, x3, x4, x5, x6, x7, x8, x9] fun v10 =>
  P1 (.un .not) [v10] fun v11 =>
  ifB v11 (
    Q .ret [v0, v1, v2, v3, v4, v5, v6, v7, v8, v9, .list [.sc] []]) (
    P1 (.len) [x10] fun v12 =>
    P1 (.bin .gtr) [v12, .int .i64 40] fun v13 =>
    ifB v13 (
      Q .ret [v0, v1, v2, v3, v4, v5, v6, v7, v8, v9, .list [.sc] []]) (
      P1 (.lst [.sc] false 0) [] fun v14 =>
      P1 (.len) [x10] fun v15 =>
      shL (.loop impl_RunActs_b0) (qB 0 (qS (shL impl_RunActs_r1 Q) Q)) [x10, v15, .int .i64 0, v14, v2, v3, v4, .int .i64 0, .int .i64 0, .int .i64 0, .int .i64 0, .int .i64 0, .int .i64 0, .int .i64 0, v0, v1, v5, v6, v7, v8, v9]))) := by kernel_rfl
def impl_RunActs_S : Sig := ⟨[.val true [.sc, .sc, .sl [.sc, .sc], .sl [.sl [.sc, .sc]], .sl [.sc], .sc, .sc, .sc, .sc, .sc], .val false [.sl [.sc, .sc, .sc]]], [(true, [.sc, .sc, .sl [.sc, .sc], .sl [.sl [.sc, .sc]], .sl [.sc], .sc, .sc, .sc, .sc, .sc]), (false, [.sl [.sc]])], F_RunActs⟩
def impl_RunActs_hs : List NF := [⟨[(4, .ptr 64 0), (6, .ptr 65 0), (7, .sc false [.own 66])], [(66, true, [.sc]), (67, true, [.sc, .sc]), (68, true, [.sl [.sc, .sc]]), (69, true, [.sc])], [(64, [.sc, .sc, .nil, .nil, .nil, .sc, .sc, .sc, .sc, .sc]), (65, [.sc, .sc, .own 67, .own 68, .own 69, .sc, .sc, .sc, .sc, .sc])], 70⟩, ⟨[(4, .ptr 64 0), (6, .ptr 65 0), (7, .sc false [.own 66]), (24, .sc false [.ro [.sc, .sc, .sc]]), (25, .sc false [.sc]), (26, .sc false [.sc])], [(66, true, [.sc]), (67, true, [.sc, .sc]), (68, true, [.sl [.sc, .sc]]), (69, true, [.sc])], [(64, [.sc, .sc, .nil, .nil, .nil, .sc, .sc, .sc, .sc, .sc]), (65, [.sc, .sc, .own 67, .own 68, .own 69, .sc, .sc, .sc, .sc, .sc])], 70⟩, ⟨[(4, .ptr 64 0), (6, .ptr 65 0), (7, .sc false [.own 66]), (24, .sc false [.ro [.sc, .sc, .sc]]), (25, .sc false [.sc]), (26, .sc false [.sc])], [(66, true, [.sc]), (67, true, [.sc, .sc]), (68, true, [.sl [.sc, .sc]]), (69, true, [.sc])], [(64, [.sc, .sc, .nil, .nil, .nil, .sc, .sc, .sc, .sc, .sc]), (65, [.sc, .sc, .own 67, .own 68, .own 69, .sc, .sc, .sc, .sc, .sc])], 70⟩]

def impl_sameInts_b0 : L := .seq (.seq (.rg [⟨[], .bin .lss, [.v 3, .v 2], 1⟩]) (.seq (.ite (.v 4) (.skip) (.seq (.tup []) (.exit 0))) (.seq (.block 1 (.seq (.seq (.rg [⟨[], .idx [.sc], [.v 1, .v 3], 1⟩]) (.seq (.rg [⟨[], .idx [.sc], [.v 0, .v 3], 1⟩, ⟨[], .bin .neq, [.v 5, .v 6], 1⟩]) (.ite (.v 7) (.seq (.rg []) (.ret [.k (.bool false)])) (.skip)))) (.tup [.v 0, .v 1, .v 2, .v 3]))) (.rg [⟨[], .bin .add, [.v 3, .k (.int .i64 1)], 1⟩])))) (.tup [.v 0, .v 1, .v 2, .v 4])
theorem impl_sameInts_b0_sh (Q : QT) (x0 x1 x2 x3 : V) : shL impl_sameInts_b0 Q [x0, x1, x2, x3] = (
  P1 (.bin .lss) [x3, x2] fun v0 =>
  ifB v0 (
    P1 (.idx [.sc]) [x1, x3] fun v1 =>
    P1 (.idx [.sc]) [x0, x3] fun v2 =>
    P1 (.bin .neq) [v1, v2] fun v3 =>
    ifB v3 (
      Q .ret [.bool false]) (
      P1 (.bin .add) [x3, .int .i64 1] fun v4 =>
      Q .normal [x0, x1, x2, v4])) (
    Q (.exit 0) [])) := by kernel_rfl

def impl_sameInts_r1 : L := .seq (.rg []) (.ret [.k (.bool true)])
theorem impl_sameInts_r1_sh (Q : QT) : shL impl_sameInts_r1 Q [] = (
  Q .ret [.bool true]) := by kernel_rfl

def impl_sameInts_L : L := .seq (.rg []) (.seq (.seq (.rg [⟨[], .len, [.v 0], 1⟩, ⟨[], .len, [.v 1], 1⟩, ⟨[], .bin .neq, [.v 2, .v 3], 1⟩]) (.ite (.v 4) (.seq (.rg []) (.ret [.k (.bool false)])) (.skip))) (.seq (.seq (.rg [⟨[], .len, [.v 0], 1⟩]) (.block 0 (.seq (.tup [.v 1, .v 0, .v 5, .k (.int .i64 0)]) (.loop (impl_sameInts_b0))))) (impl_sameInts_r1)))
theorem impl_sameInts_L_sh (Q : QT) (x0 x1 : V) : shL impl_sameInts_L Q [x0, x1] = (
  P1 (.len) [x0] fun v0 =>
  P1 (.len) [x1] fun v1 =>
  P1 (.bin .neq) [v0, v1] fun v2 =>
  ifB v2 (
    Q .ret [.bool false]) (
    P1 (.len) [x0] fun v3 =>
    shL (.loop impl_sameInts_b0) (qB 0 (qS (shL impl_sameInts_r1 Q) Q)) [x1, x0, v3, .int .i64 0])) := by kernel_rfl
def impl_sameInts_S : Sig := ⟨[.val false [.sl [.sc]], .val false [.sl [.sc]]], [(false, [.sc])], F_sameInts⟩
def impl_sameInts_hs : List NF := [⟨[], [], [], 64⟩, ⟨[(1, .sc false [.ro [.sc]]), (12, .sc false [.ro [.sc]]), (13, .sc false [.sc]), (14, .sc false [.sc])], [], [], 64⟩, ⟨[(1, .sc false [.ro [.sc]]), (12, .sc false [.ro [.sc]]), (13, .sc false [.sc]), (14, .sc false [.sc])], [], [], 64⟩]

def impl_IsReplay_L : L := .seq (.rg []) (.seq (.seq (.rg [⟨[], .call F_WorkshopOk 0 1, [.v 0, .v 1, .v 2, .v 3, .v 4, .v 5, .v 6, .v 7, .v 8, .v 9], 1⟩, ⟨[], .un .not, [.v 12], 1⟩, ⟨[(.v 13, false)], .len, [.v 10], 1⟩, ⟨[(.v 13, false)], .bin .gtr, [.v 14, .k (.int .i64 40)], 1⟩, ⟨[], .pick, [.v 13, .k (.bool true), .v 15], 1⟩]) (.ite (.v 16) (.seq (.rg []) (.ret [.k (.bool false)])) (.skip))) (.seq (.rg [⟨[], .call F_RunActs 0 11, [.v 0, .v 1, .v 2, .v 3, .v 4, .v 5, .v 6, .v 7, .v 8, .v 9, .v 10], 11⟩]) (.seq (.rg [⟨[], .call F_sameInts 0 1, [.v 27, .v 11], 1⟩]) (.ret [.v 28]))))
theorem impl_IsReplay_L_sh (Q : QT) (x0 x1 x2 x3 x4 x5 x6 x7 x8 x9 x10 x11 : V) : shL impl_IsReplay_L Q [x0, x1, x2, x3, x4, x5, x6, x7, x8, x9, x10, x11] = (
  P1 (.call F_WorkshopOk 0 1) [x0, x1, x2, x3, x4, x5, x6, x7, x8, x9] fun v0 =>
  P1 (.un .not) [v0] fun v1 =>
  ifB v1 (
    Q .ret [.bool false]) (
    P1 (.len) [x10] fun v2 =>
    P1 (.bin .gtr) [v2, .int .i64 40] fun v3 =>
    ifB v3 (
      Q .ret [.bool false]) (
      P11 (.call F_RunActs 0 11) [x0, x1, x2, x3, x4, x5, x6, x7, x8, x9, x10] fun _ _ _ _ _ _ _ _ _ _ v14 =>
      P1 (.call F_sameInts 0 1) [v14, x11] fun v15 =>
      Q .ret [v15]))) := by kernel_rfl
def impl_IsReplay_S : Sig := ⟨[.val true [.sc, .sc, .sl [.sc, .sc], .sl [.sl [.sc, .sc]], .sl [.sc], .sc, .sc, .sc, .sc, .sc], .val false [.sl [.sc, .sc, .sc]], .val false [.sl [.sc]]], [(false, [.sc])], F_IsReplay⟩
def impl_IsReplay_hs : List NF := []

end
end Go.Mw

/- Acts: memory. -/
namespace Go.Mw
end Go.Mw

/- Acts. -/
namespace Go.Mw
theorem cmRow_succ {c : Cyl} {i k : Nat} {b : Int} (hi : i < c.p.length) (hk : k < c.p.length) : cmRow c i (k + 1) b = if c.p[i].a = c.p[k].a then min (cmRow c i k b) (gap c.p[i].b c.p[k].b c.s) else cmRow c i k b := by
  simp [cmRow, List.getElem?_eq_getElem hi, List.getElem?_eq_getElem hk]
theorem spec_ClosestPins_ok : ∀ ds outs, F_ClosestPins ds = some outs → shL spec_ClosestPins_L (qRet outs) ds := F_ClosestPins_elim fun x hp => by
  rw [spec_ClosestPins_L_sh]
  simp only [p_CylinderOk (x_p := x.p) hp, Cyl.eta]
  cases h : cylOk x with
  | false => simp [h, closest]
  | true =>
    have hb := cylOk_bounds h
    simp
    refine loop_upto x.p.length (fun i => [.int .i64 (cmTo x i), .int .i64 i, .int .i64 x.s, .int .i64 x.t, vL I2 v2 x.p]) (by intro i j _ _ h; simp at h; omega) (fun _ => True) (by simp [cmTo]) trivial ?_
    intro i hi _
    rw [spec_ClosestPins_b0_sh]
    simp only [P1_len, P1_lss, ifB_bool, decide_eq_true_eq, decide_eq_false_iff_not]
    refine ⟨fun h1 => ?_, fun h1 => ?_⟩
    · have hi2 : i < x.p.length := by omega
      refine loop_upto i (fun k => [.int .i64 (cmRow x i k (cmTo x i)), .int .i64 i, .int .i64 k, .int .i64 x.s, .int .i64 x.t, vL I2 v2 x.p]) (by intro i j _ _ h; simp at h; omega) (fun _ => True) (by simp [cmRow]) trivial ?_
      intro k hk _
      rw [spec_ClosestPins_b1_sh]
      simp only [P1_lss, ifB_bool, decide_eq_true_eq, decide_eq_false_iff_not]
      refine ⟨fun h2 => ?_, fun h2 => ?_⟩
      · have hk2 : k < x.p.length := by omega
        have hk3 : k < i := by omega
        have w1 : IntKind.i64.wrap ((k : Int) + 1) = (k : Int) + 1 := wrap_id (by omega) (by omega)
        by_cases e : x.p[i].a = x.p[k].a <;> simp [hi2, hk2, hk3, e, w1, cmRow_succ]
      · obtain rfl : k = i := by omega
        have w1 : IntKind.i64.wrap ((k : Int) + 1) = (k : Int) + 1 := wrap_id (by omega) (by omega)
        simp [spec_ClosestPins_r2_sh, spec_ClosestPins_r3_sh, spec_ClosestPins_r4_sh, w1, hi2, cmTo]
    · obtain rfl : i = x.p.length := by omega
      simp [spec_ClosestPins_r5_sh, closest, h]
theorem impl_ClosestPins_ok : ∀ ds outs, F_ClosestPins ds = some outs → shL impl_ClosestPins_L (qRet outs) ds := F_ClosestPins_elim fun x hp => by
  rw [impl_ClosestPins_L_sh]
  simp only [p_CylinderOk (x_p := x.p) hp, Cyl.eta]
  cases h : cylOk x with
  | false => simp [h, closest]
  | true =>
    have hb := cylOk_bounds h
    simp
    refine loop_upto x.p.length (fun i => [.int .i64 (cmTo x i), vL I2 v2 x.p, .int .i64 x.p.length, .int .i64 i, .int .i64 x.s, .int .i64 x.t, vL I2 v2 x.p]) (by intro i j _ _ h; simp at h; omega) (fun _ => True) (by simp [cmTo]) trivial ?_
    intro i hi _
    rw [impl_ClosestPins_b0_sh]
    simp only [P1_lss, ifB_bool, decide_eq_true_eq, decide_eq_false_iff_not]
    refine ⟨fun h1 => ?_, fun h1 => ?_⟩
    · have hi2 : i < x.p.length := by omega
      have e2 : (i : Int).toNat = i := by omega
      have hlen : (x.p.take i).length = i := by rw [List.length_take]; omega
      simp only [P2_idxI, e2, List.getElem?_eq_getElem hi2, Option.some.injEq, exists_eq_left', P1_lsub2_2, Int.toNat_zero, List.drop_zero, P1_len, hlen]
      refine ⟨by omega, ⟨by omega, by omega, by omega⟩, ?_⟩
      refine loop_upto i (fun k => [.int .i64 (cmRow x i k (cmTo x i)), vL I2 v2 x.p, .int .i64 x.p.length, .int .i64 i, vL I2 v2 (x.p.take i), .int .i64 i, .int .i64 k, .int .i64 x.s, .int .i64 x.t, vL I2 v2 x.p, .int .i64 x.p[i].a, .int .i64 x.p[i].b]) (by intro i j _ _ h; simp at h; omega) (fun _ => True) (by simp [cmRow]) trivial ?_
      intro k hk _
      rw [impl_ClosestPins_b1_sh]
      simp only [P1_lss, ifB_bool, decide_eq_true_eq, decide_eq_false_iff_not]
      refine ⟨fun h2 => ?_, fun h2 => ?_⟩
      · have hk2 : k < x.p.length := by omega
        have hk3 : k < i := by omega
        have w1 : IntKind.i64.wrap ((k : Int) + 1) = (k : Int) + 1 := wrap_id (by omega) (by omega)
        by_cases e : x.p[i].a = x.p[k].a <;> simp [hi2, hk2, hk3, e, w1, cmRow_succ]
      · obtain rfl : k = i := by omega
        have w1 : IntKind.i64.wrap ((k : Int) + 1) = (k : Int) + 1 := wrap_id (by omega) (by omega)
        simp [impl_ClosestPins_r2_sh, impl_ClosestPins_r3_sh, impl_ClosestPins_r4_sh, w1, hi2, cmTo]
    · obtain rfl : i = x.p.length := by omega
      simp [impl_ClosestPins_r5_sh, closest, h]
theorem impl_numberOf_ok : ∀ ds outs, F_numberOf ds = some outs → shL impl_numberOf_L (qRet outs) ds := F_numberOf_elim fun n => by
  rw [impl_numberOf_L_sh]; cases n <;> simp [num]
theorem spec_l39Bool_ok : ∀ ds outs, F_l39Bool ds = some outs → shL spec_l39Bool_L (qRet outs) ds := F_numberOf_elim fun n => by
  rw [spec_l39Bool_L_sh]; cases n <;> simp [num]
theorem back_ok {x : Shop} (h : shopOk x = true) (ht : takeOk x.bench = true) : shopOk (withB x (takeBack x.bench) 0) = true := by
  have hs := (shopOk_iff x).1 h
  have hb := (benchOk_iff _).1 hs.1
  have ho : x.o ≠ [] := by simp [takeOk] at ht; exact ht.2
  have hl : 0 < x.o.length := List.length_pos_iff.2 ho
  have hlast : x.o.length - 1 < x.o.length := by omega
  have e : takeBack x.bench = ⟨x.s, x.t, x.o[x.o.length - 1], x.o.take (x.o.length - 1)⟩ := by
    simp only [takeBack, ht, if_true]
    simp [Shop.bench, List.getElem?_eq_getElem hlast]
  have e2 : withB x (takeBack x.bench) 0 = ⟨x.s, x.t, x.o[x.o.length - 1], x.o.take (x.o.length - 1), x.c, x.u, x.m, x.f, x.y - 0, x.d⟩ := by unfold withB; rw [e]
  rw [e2, shopOk_iff]
  refine ⟨?_, hs.2.1, hs.2.2.1, hs.2.2.2.1, by simpa using hs.2.2.2.2.1, hs.2.2.2.2.2⟩
  rw [benchOk_iff]
  have h30 := hb.2.1
  simp only [Shop.bench] at h30 ⊢
  exact ⟨hb.2.2 _ (List.getElem_mem hlast), by rw [List.length_take]; omega, fun p hp => hb.2.2 p (List.mem_of_mem_take hp)⟩
theorem backOk_eq {x : Shop} (h : shopOk x = true) : backOk x = takeOk x.bench := by
  unfold backOk benchFits
  cases ht : takeOk x.bench with
  | false => simp
  | true => simp [h, back_ok h ht]
theorem backW_eq {x : Shop} (h : shopOk x = true) : backW x = withB x (takeBack x.bench) 0 := by
  unfold backW withBench benchFits
  cases ht : takeOk x.bench with
  | false =>
    have e : takeBack x.bench = x.bench := by simp [takeBack, ht]
    simp only [Bool.false_and, Bool.false_eq_true, if_false]
    unfold withB
    rw [e]
    simp [Shop.bench]
  | true => simp [h, back_ok h ht]
theorem act_kinds {y : T3} (h : actOk y = true) : y.a = 1 ∨ y.a = 2 ∨ y.a = 3 ∨ y.a = 4 ∨ y.a = 5 ∨ y.a = 6 := by
  unfold actOk at h
  by_cases h1 : y.a = 1 <;> by_cases h2 : y.a = 2 <;> by_cases h3 : y.a = 3 <;> by_cases h4 : y.a = 4 <;> by_cases h5 : y.a = 5 <;> by_cases h6 : y.a = 6 <;> simp_all
theorem spec_DoAct_ok : ∀ ds outs, F_DoAct ds = some outs → shL spec_DoAct_L (qRet outs) ds := F_DoAct_elim fun x y hp => by
  have hb : x.p.length ≤ 1048576 ∧ fitLL x.o := ⟨hp.1, hp.2.1⟩
  have e0 : (⟨x.s, x.t, x.p, x.o⟩ : Bench) = x.bench := rfl
  have e1 : (⟨x.s, x.t, x.p⟩ : Cyl) = x.bench.cyl := rfl
  have e2 : (⟨y.a, y.b, y.c⟩ : T3) = y := rfl
  rw [spec_DoAct_L_sh, p_l38Copy (x_p := x.p) (x_o := x.o) (x_c := x.c) hp]
  simp only [p_WorkshopOk (x_p := x.p) (x_o := x.o) (x_c := x.c) hp]
  cases h : shopOk x with
  | false => simp [h, actW, actN, canAct]
  | true =>
    cases h2 : actOk y with
    | false => simp [h, h2, actW, actN, canAct]
    | true =>
      have hk := act_kinds h2
      have hc : canAct x y = true := by simp [canAct, h, h2]
      have hbo := backOk_eq h
      have hbw := backW_eq h
      simp only [h, P1_not, ifB_bool, p_ActOk, e2, h2, spec_DoAct_r0_sh]
      simp only [p_PutPin (x_p := x.p) (x_o := x.o) (x_c := x.c) hp, p_RemovePin (x_p := x.p) (x_o := x.o) (x_c := x.c) hp, p_PlayOnce (x_p := x.p) (x_o := x.o) (x_c := x.c) hp, p_TakeBack (x_p := x.p) (x_o := x.o) hb, p_Crank (x_p := x.p) (x_o := x.o) (x_c := x.c) hp, p_ClosestPins (x_p := x.p) hp.1, e0, e1]
      rcases hk with e | e | e | e | e | e
      · simp [e, actW, actN, hc, putW, putOk]
      · simp [e, actW, actN, hc, removeW, removeOk]
      · simp [e, actW, actN, hc, hbo, hbw, withB]
      · simp [e, actW, actN, hc, h]
      · simp [e, actW, actN, hc]
      · simp [e, actW, actN, hc]
theorem impl_DoAct_ok : ∀ ds outs, F_DoAct ds = some outs → shL impl_DoAct_L (qRet outs) ds := F_DoAct_elim fun x y hp => by
  have hb : x.p.length ≤ 1048576 ∧ fitLL x.o := ⟨hp.1, hp.2.1⟩
  have e0 : (⟨x.s, x.t, x.p, x.o⟩ : Bench) = x.bench := rfl
  have e1 : (⟨x.s, x.t, x.p⟩ : Cyl) = x.bench.cyl := rfl
  have e2 : (⟨y.a, y.b, y.c⟩ : T3) = y := rfl
  rw [impl_DoAct_L_sh]
  simp only [p_WorkshopOk (x_p := x.p) (x_o := x.o) (x_c := x.c) hp, p_copyWorkshop (x_p := x.p) (x_o := x.o) (x_c := x.c) hp]
  cases h : shopOk x with
  | false => simp [h, actW, actN, canAct]
  | true =>
    cases h2 : actOk y with
    | false => simp [h, h2, actW, actN, canAct]
    | true =>
      have hk := act_kinds h2
      have hc : canAct x y = true := by simp [canAct, h, h2]
      have hs : bSmall (takeBack x.bench) := by
        cases ht : takeOk x.bench with
        | false => have e : takeBack x.bench = x.bench := by simp [takeBack, ht]
                   rw [e]; exact bSmall_of_ok ((shopOk_iff x).1 h).1
        | true =>
          have := sSmall_of_ok (back_ok h ht)
          exact ⟨this.1.1, this.1.2.1, this.2⟩
      simp only [h, P1_not, ifB_bool, p_ActOk, e2, h2, impl_DoAct_r0_sh]
      simp only [p_PutPin (x_p := x.p) (x_o := x.o) (x_c := x.c) hp, p_RemovePin (x_p := x.p) (x_o := x.o) (x_c := x.c) hp, p_PlayOnce (x_p := x.p) (x_o := x.o) (x_c := x.c) hp, p_TakeBack (x_p := x.p) (x_o := x.o) hb, p_Crank (x_p := x.p) (x_o := x.o) (x_c := x.c) hp, p_ClosestPins (x_p := x.p) hp.1, p_copyWorkshop (x_p := x.p) (x_o := x.o) (x_c := x.c) hp, e0, e1]
      rcases hk with e | e | e | e | e | e
      · simp [e, actW, actN, hc, putW, putOk]
      · simp [e, actW, actN, hc, removeW, removeOk]
      · have eW : backW x = withBench x (takeBack x.bench) 0 (takeOk x.bench) := rfl
        have eO : backOk x = benchFits x (takeBack x.bench) 0 (takeOk x.bench) := rfl
        simp only [actW, actN, hc, e, eW, eO]
        generalize takeBack x.bench = B at *
        have hq := fun (nr_ : Nat) (n : Bool) kk_ => p_withBench (x_s := x.s) (x_t := x.t) (x_p := x.p) (x_o := x.o) (x_c := x.c) (x_u := x.u) (x_m := x.m) (x_f := x.f) (x_y := x.y) (x_d := x.d) (y_s := B.s) (y_t := B.t) (y_p := B.p) (y_o := B.o) (k := 0) (n := n) (nr_ := nr_) (kk_ := kk_) ⟨hp.1, hp.2.1, hp.2.2, hs.1, hs.2.1, by omega, by omega⟩
        simp [hq]
      · simp [e, actW, actN, hc, h]
      · simp [e, actW, actN, hc]
      · simp [e, actW, actN, hc]
end Go.Mw

/- Runs of acts; the laws. -/
namespace Go.Mw
theorem actW_small {x : Shop} {y : T3} (h : sSmall x) : sSmall (actW x y) := by
  unfold actW
  split
  · split
    · exact withBench_small h
    · split
      · exact withBench_small h
      · split
        · exact withBench_small h
        · split
          · exact crank_small h
          · split
            · exact playOnce_small h
            · exact h
  · exact h
theorem run_small {x : Shop} {l : List T3} (h : sSmall x) : ∀ k, sSmall (runTo x l k).1
  | 0 => h
  | k + 1 => by
    have ih := run_small (l := l) h k
    unfold runTo
    split
    · exact actW_small ih
    · exact ih
theorem run_len {x : Shop} {l : List T3} : ∀ k, (runTo x l k).2.length ≤ k
  | 0 => by simp [runTo]
  | k + 1 => by
    have ih := run_len (x := x) (l := l) k
    unfold runTo
    split
    · simp; omega
    · omega
theorem run_succ {x : Shop} {l : List T3} {k : Nat} (h : k < l.length) : runTo x l (k + 1) = (actW (runTo x l k).1 l[k], (runTo x l k).2 ++ [actN (runTo x l k).1 l[k]]) := by
  simp [runTo, List.getElem?_eq_getElem h]
theorem impl_RunActs_ok : ∀ ds outs, F_RunActs ds = some outs → shL impl_RunActs_L (qRet outs) ds := F_RunActs_elim fun x l hp => by
  have hf : x.p.length ≤ 1048576 ∧ fitLL x.o ∧ x.c.length ≤ 1048576 := ⟨hp.1, hp.2.1, hp.2.2.1⟩
  rw [impl_RunActs_L_sh, p_copyWorkshop (x_p := x.p) (x_o := x.o) (x_c := x.c) hf]
  simp only [p_WorkshopOk (x_p := x.p) (x_o := x.o) (x_c := x.c) hf]
  cases h : shopOk x with
  | false => simp [h, runW, runN', actsOk]
  | true =>
    by_cases hl : l.length ≤ 40
    · have hc : actsOk x l = true := by simp [actsOk, h, hl]
      have hl2 : ¬ 40 < (l.length : Int) := by omega
      simp only [h, P1_lst0, P1_not, P1_len, P1_gtr, ifB_bool, decide_eq_true_eq, decide_eq_false_iff_not]
      refine ⟨fun h => absurd h (by simp), fun _ => ⟨fun h => absurd h hl2, fun _ => ?_⟩⟩
      refine loop_upto l.length (fun k => [vL I3 v3 l, .int .i64 l.length, .int .i64 k, vL I1 v1 (runTo x l k).2, vL I2 v2 (runTo x l k).1.p, vL IL2 vLL2 (runTo x l k).1.o, vL I1 v1 (runTo x l k).1.c, .int .i64 0, .int .i64 0, .int .i64 0, .int .i64 0, .int .i64 0, .int .i64 0, .int .i64 0, .int .i64 (runTo x l k).1.s, .int .i64 (runTo x l k).1.t, .int .i64 (runTo x l k).1.u, .int .i64 (runTo x l k).1.m, .int .i64 (runTo x l k).1.f, .int .i64 (runTo x l k).1.y, .int .i64 (runTo x l k).1.d]) (by intro i j _ _ h; simp at h; omega) (fun _ => True) (by simp [runTo]) trivial ?_
      intro k hk _
      have hs := (run_small (l := l) (sSmall_of_ok h) k).1
      have hn := run_len (x := x) (l := l) k
      have hsucc := fun hk2 : k < l.length => run_succ (x := x) hk2
      generalize hW : runTo x l k = W at *
      rw [impl_RunActs_b0_sh]
      simp only [P1_lss, ifB_bool, decide_eq_true_eq, decide_eq_false_iff_not]
      refine ⟨fun h1 => ?_, fun h1 => ?_⟩
      · have hk2 : k < l.length := by omega
        have e2 : (k : Int).toNat = k := by omega
        have w1 : IntKind.i64.wrap ((k : Int) + 1) = (k : Int) + 1 := wrap_id (by omega) (by omega)
        have e3 : (⟨l[k].a, l[k].b, l[k].c⟩ : T3) = l[k] := rfl
        simp only [P3_idxI, e2, List.getElem?_eq_getElem hk2, Option.some.injEq, exists_eq_left', p_DoAct (x_p := W.1.p) (x_o := W.1.o) (x_c := W.1.c) hs, e3]
        simp [hk2, w1, hsucc hk2]
        omega
      · obtain rfl : k = l.length := by omega
        subst hW
        simp [impl_RunActs_r1_sh, runW, runN', hc]
    · have hc : actsOk x l = false := by simp [actsOk, h]; omega
      have hl2 : 40 < (l.length : Int) := by omega
      simp [h, hl2, runW, runN', hc]
end Go.Mw

/- Replays; the laws on runs. -/
namespace Go.Mw
theorem impl_sameInts_ok : ∀ ds outs, F_sameInts ds = some outs → shL impl_sameInts_L (qRet outs) ds := F_sameInts_elim fun l m hp => by
  rw [impl_sameInts_L_sh]
  simp
  refine ⟨fun h => ?_, fun hl => ?_⟩
  · rintro rfl; omega
  refine loop_upto l.length (fun k => [vL I1 v1 m, vL I1 v1 l, .int .i64 l.length, .int .i64 k]) (by intro i j _ _ h; simp at h; omega) (fun k => l.take k = m.take k) (by simp) (by simp) ?_
  intro k hk hP
  rw [impl_sameInts_b0_sh]
  simp
  refine ⟨fun h => ?_, fun h => ?_⟩
  · have h2 : k < m.length := by omega
    simp (disch := omega) [h, h2, wrap_id]
    refine ⟨fun hne he => ?_, fun h3 => ?_⟩
    · subst he; exact hne rfl
    · rw [take_succ_get h, take_succ_get h2, hP, h3]
  · obtain rfl : k = l.length := by omega
    rw [List.take_length, List.take_of_length_le (by omega)] at hP
    simp [impl_sameInts_r1_sh, hP]
theorem runN_len {x : Shop} {l : List T3} : (runN' x l).length ≤ 40 := by
  unfold runN'
  split
  · rename_i h
    simp only [actsOk, Bool.and_eq_true, decide_eq_true_eq] at h
    have := run_len (x := x) (l := l) l.length
    omega
  · simp
theorem impl_IsReplay_ok : ∀ ds outs, F_IsReplay ds = some outs → shL impl_IsReplay_L (qRet outs) ds := F_IsReplay_elim fun x l m hp => by
  have hf : x.p.length ≤ 1048576 ∧ fitLL x.o ∧ x.c.length ≤ 1048576 := ⟨hp.1, hp.2.1, hp.2.2.1⟩
  have hr : x.p.length ≤ 1048576 ∧ fitLL x.o ∧ x.c.length ≤ 1048576 ∧ l.length ≤ 1048576 := ⟨hp.1, hp.2.1, hp.2.2.1, hp.2.2.2.1⟩
  have hn : (runN' x l).length ≤ 1048576 ∧ m.length ≤ 1048576 := ⟨by have := runN_len (x := x) (l := l); omega, hp.2.2.2.2⟩
  rw [impl_IsReplay_L_sh]
  simp only [p_WorkshopOk (x_p := x.p) (x_o := x.o) (x_c := x.c) hf, p_RunActs (x_p := x.p) (x_o := x.o) (x_c := x.c) hr]
  have hq := fun (nr_ : Nat) kk_ => p_sameInts (l := runN' x l) (m := m) (nr_ := nr_) (kk_ := kk_) hn
  cases h : shopOk x with
  | false => simp [h, actsOk]
  | true =>
    by_cases hl : l.length ≤ 40
    · have hl2 : ¬ 40 < (l.length : Int) := by omega
      have hl3 : ¬ 40 < l.length := by omega
      simp [h, hl, hl2, hl3, actsOk, hq]
    · have hl2 : 40 < (l.length : Int) := by omega
      have hl3 : 40 < l.length := by omega
      simp [h, hl, hl2, hl3, actsOk]
end Go.Mw

/- The law on runs of acts. -/
namespace Go.Mw
end Go.Mw

