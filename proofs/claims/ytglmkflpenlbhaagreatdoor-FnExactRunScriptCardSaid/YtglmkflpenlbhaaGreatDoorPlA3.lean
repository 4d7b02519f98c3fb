/- What functions of the program compute, as small pure programs, shown against plain Lean functions: no condition. -/
import Derived.KernelRfl
import Derived.Lib.IndexBytes
import Derived.Lib.CountLaws
import Derived.Test.YtglmkflpenlbhaaGreatDoorPlA2
namespace Go.Mw
noncomputable section
def spec_SplitFields_r1 : L := .seq (.seq (.rg [⟨[], .slen, [.v 0], 1⟩, zb .lss 2 14, ⟨[(.v 15, true)], .sidx, [.v 0, .v 2], 1⟩, ⟨[(.v 15, true)], .bin .neq, [.v 16, .k (.int .u8 32)], 1⟩, ⟨[], .pick, [.v 15, .v 17, .k (.bool false)], 1⟩]) (.ite (.v 18) (.seq (zt [0, 1, 2, 3]) (.exit 1)) (.skip))) (.seq (.seq (.rg [zb .lss 1 2]) (.ite (.v 19) (.seq (.rg [⟨[], .ssub, [.v 0, .v 1, .v 2], 1⟩, ⟨[], .lst [.sc] false 1, [.v 20], 1⟩, ⟨[], .app [.sc] 16, [.v 3, .v 21], 1⟩]) (zt [0, 2, 22])) (.seq (.skip) (zt [0, 2, 3])))) (.rg [zk .add 1 1]))
theorem spec_SplitFields_r1_sh (Q : QT) (x0 x1 x2 x3 x4 x5 x6 x7 x8 x9 x10 x11 x12 x13 : V) : shL spec_SplitFields_r1 Q [x0, x1, x2, x3, x4, x5, x6, x7, x8, x9, x10, x11, x12, x13] = (
  P1 (.slen) [x0] fun v0 =>
  P1 (.bin .lss) [x2, v0] fun v1 =>
  ifB v1 (
    P1 (.sidx) [x0, x2] fun v2 =>
    P1 (.bin .neq) [v2, .int .u8 32] fun v3 =>
    ifB v3 (
      Q (.exit 1) [x0, x1, x2, x3]) (
      P1 (.bin .lss) [x1, x2] fun v4 =>
      ifB v4 (
        P1 (.ssub) [x0, x1, x2] fun v5 =>
        P1 (.lst [.sc] false 1) [v5] fun v6 =>
        P1 (.app [.sc] 16) [x3, v6] fun v7 =>
        P1 (.bin .add) [x2, .int .i64 1] fun v8 =>
        Q .normal [x0, x2, v7, v8]) (
        P1 (.bin .add) [x2, .int .i64 1] fun v9 =>
        Q .normal [x0, x2, x3, v9]))) (
    P1 (.bin .lss) [x1, x2] fun v10 =>
    ifB v10 (
      P1 (.ssub) [x0, x1, x2] fun v11 =>
      P1 (.lst [.sc] false 1) [v11] fun v12 =>
      P1 (.app [.sc] 16) [x3, v12] fun v13 =>
      P1 (.bin .add) [x2, .int .i64 1] fun v14 =>
      Q .normal [x0, x2, v13, v14]) (
      P1 (.bin .add) [x2, .int .i64 1] fun v15 =>
      Q .normal [x0, x2, x3, v15]))) := by kernel_rfl

def spec_SplitFields_r2 : L := zt [0, 3, 1, 2]
theorem spec_SplitFields_r2_sh (Q : QT) (x0 x1 x2 x3 : V) : shL spec_SplitFields_r2 Q [x0, x1, x2, x3] = (
  Q .normal [x0, x3, x1, x2]) := by kernel_rfl

def spec_SplitFields_r3 : L := .rg [zk .add 2 1]
theorem spec_SplitFields_r3_sh (Q : QT) (x0 x1 x2 x3 : V) : shL spec_SplitFields_r3 Q [x0, x1, x2, x3] = (
  P1 (.bin .add) [x2, .int .i64 1] fun v0 =>
  Q .normal [x0, x1, x2, x3, v0]) := by kernel_rfl

def spec_SplitFields_r4 : L := zt [0, 1, 4, 3]
theorem spec_SplitFields_r4_sh (Q : QT) (x0 x1 x2 x3 x4 : V) : shL spec_SplitFields_r4 Q [x0, x1, x2, x3, x4] = (
  Q .normal [x0, x1, x4, x3]) := by kernel_rfl

def spec_SplitFields_b0 : L := .seq (.seq (.seq (.rg [⟨[], .slen, [.v 0], 1⟩, zb .leq 2 4]) (.ite (.v 5) (.skip) (.seq (zt [3]) (.exit 0)))) (.seq (.block 1 (.seq (.seq (.seq (.rg [⟨[], .slen, [.v 0], 1⟩, zb .lss 2 6, ⟨[(.v 7, true)], .sidx, [.v 0, .v 2], 1⟩, ⟨[(.v 7, true)], .bin .lss, [.v 8, .k (.int .u8 32)], 1⟩, ⟨[(.v 7, true), (.v 9, false)], .sidx, [.v 0, .v 2], 1⟩, ⟨[(.v 7, true), (.v 9, false)], .bin .gtr, [.v 10, .k (.int .u8 126)], 1⟩, ⟨[(.v 7, true)], .pick, [.v 9, .k (.bool true), .v 11], 1⟩, ⟨[], .pick, [.v 7, .v 12, .k (.bool false)], 1⟩]) (.ite (.v 13) (.seq (.rg [⟨[], .lst [.sc] false 0, [], 1⟩]) (.ret [.v 14, .k (.bool false)])) (.skip))) (spec_SplitFields_r1)) (spec_SplitFields_r2))) (spec_SplitFields_r3))) (spec_SplitFields_r4)
theorem spec_SplitFields_b0_sh (Q : QT) (x0 x1 x2 x3 : V) : shL spec_SplitFields_b0 Q [x0, x1, x2, x3] = (
  P1 (.slen) [x0] fun v0 =>
  P1 (.bin .leq) [x2, v0] fun v1 =>
  ifB v1 (
    P1 (.slen) [x0] fun v2 =>
    P1 (.bin .lss) [x2, v2] fun v3 =>
    ifB v3 (
      P1 (.sidx) [x0, x2] fun v4 =>
      P1 (.bin .lss) [v4, .int .u8 32] fun v5 =>
      ifB v5 (
        P1 (.lst [.sc] false 0) [] fun v6 =>
        Q .ret [v6, .bool false]) (
        P1 (.sidx) [x0, x2] fun v7 =>
        P1 (.bin .gtr) [v7, .int .u8 126] fun v8 =>
        ifB v8 (
          P1 (.lst [.sc] false 0) [] fun v9 =>
          Q .ret [v9, .bool false]) (
          shL spec_SplitFields_r1 (qS (shL spec_SplitFields_r2 (qB 1 (qS (shL spec_SplitFields_r3 (qS (shL spec_SplitFields_r4 Q) Q)) (qS (shL spec_SplitFields_r4 Q) Q)))) (qB 1 (qS (shL spec_SplitFields_r3 (qS (shL spec_SplitFields_r4 Q) Q)) (qS (shL spec_SplitFields_r4 Q) Q)))) [x0, x1, x2, x3, v0, .bool true, v2, .bool true, v4, .bool false, v7, v8, v8, .bool false]))) (
      shL spec_SplitFields_r1 (qS (shL spec_SplitFields_r2 (qB 1 (qS (shL spec_SplitFields_r3 (qS (shL spec_SplitFields_r4 Q) Q)) (qS (shL spec_SplitFields_r4 Q) Q)))) (qB 1 (qS (shL spec_SplitFields_r3 (qS (shL spec_SplitFields_r4 Q) Q)) (qS (shL spec_SplitFields_r4 Q) Q)))) [x0, x1, x2, x3, v0, .bool true, v2, .bool false, .list [] [], .list [] [], .list [] [], .list [] [], .list [] [], .bool false])) (
    Q (.exit 0) [x3])) := by kernel_rfl

def spec_SplitFields_r5 : L := .seq (.seq (.rg [zl 0, zk .gtr 1 24]) (.ite (.v 2) (.seq (.rg [⟨[], .lst [.sc] false 0, [], 1⟩]) (.ret [.v 3, .k (.bool false)])) (.skip))) (.seq (.rg []) (.ret [.v 0, .k (.bool true)]))
theorem spec_SplitFields_r5_sh (Q : QT) (x0 : V) : shL spec_SplitFields_r5 Q [x0] = (
  P1 (.len) [x0] fun v0 =>
  P1 (.bin .gtr) [v0, .int .i64 24] fun v1 =>
  ifB v1 (
    P1 (.lst [.sc] false 0) [] fun v2 =>
    Q .ret [v2, .bool false]) (
    Q .ret [x0, .bool true])) := by kernel_rfl

def spec_SplitFields_L : L := .seq (.rg []) (.seq (.rg [⟨[], .lst [.sc] false 0, [], 1⟩]) (.seq (.seq (.rg [⟨[], .slen, [.v 0], 1⟩, zk .gtr 2 600]) (.ite (.v 3) (.seq (.rg []) (.ret [.v 1, .k (.bool false)])) (.skip))) (.seq (.rg []) (.seq (.seq (.rg []) (.block 0 (.seq (.tup [.v 0, .k (.int .i64 0), .k (.int .i64 0), .v 1]) (.loop (spec_SplitFields_b0))))) (spec_SplitFields_r5)))))
theorem spec_SplitFields_L_sh (Q : QT) (x0 : V) : shL spec_SplitFields_L Q [x0] = (
  P1 (.lst [.sc] false 0) [] fun v0 =>
  P1 (.slen) [x0] fun v1 =>
  P1 (.bin .gtr) [v1, .int .i64 600] fun v2 =>
  ifB v2 (
    Q .ret [v0, .bool false]) (
    shL (.loop spec_SplitFields_b0) (qB 0 (qS (shL spec_SplitFields_r5 Q) Q)) [x0, .int .i64 0, .int .i64 0, v0])) := by kernel_rfl
def spec_SplitFields_S : Sig := ⟨[.val false [.sc]], [(false, [.sl [.sc]]), (false, [.sc])], F_SplitFields⟩
def spec_SplitFields_hs : List NF := [⟨[(4, zo 64)], [(64, true, [.sc])], [], 65⟩, ⟨[(0, zs), (4, zo 64), (5, zs), (6, zs)], [(64, true, [.sc])], [], 65⟩, ⟨[(0, zs), (4, zo 64), (5, zs), (6, zs)], [(64, true, [.sc])], [], 65⟩, ⟨[(0, zs), (4, zo 64), (6, zs)], [(64, true, [.sc])], [], 65⟩]

def spec_ParseUint_b0 : L := .seq (.seq (.seq (.rg [⟨[], .slen, [.v 0], 1⟩, zb .lss 2 3]) (.ite (.v 4) (.skip) (.seq (zt [0, 1]) (.exit 0)))) (.seq (.block 1 (.seq (.seq (.seq (.rg [⟨[], .sidx, [.v 0, .v 2], 1⟩, ⟨[], .bin .lss, [.v 5, .k (.int .u8 48)], 1⟩, ⟨[(.v 6, false)], .sidx, [.v 0, .v 2], 1⟩, ⟨[(.v 6, false)], .bin .gtr, [.v 7, .k (.int .u8 57)], 1⟩, ⟨[], .pick, [.v 6, .k (.bool true), .v 8], 1⟩]) (.ite (.v 9) (.seq (.rg []) (.ret [.k (.int .i64 0), .k (.bool false)])) (.skip))) (.rg [⟨[], .bin .mul, [.k (.int .i64 10), .v 1], 1⟩, ⟨[], .sidx, [.v 0, .v 2], 1⟩, ⟨[], .conv .i64, [.v 11], 1⟩, zb .add 10 12, zk .sub 13 48])) (zt [0, 14, 2]))) (.rg [zk .add 2 1]))) (zt [0, 1, 3])
theorem spec_ParseUint_b0_sh (Q : QT) (x0 x1 x2 : V) : shL spec_ParseUint_b0 Q [x0, x1, x2] = (
  P1 (.slen) [x0] fun v0 =>
  P1 (.bin .lss) [x2, v0] fun v1 =>
  ifB v1 (
    P1 (.sidx) [x0, x2] fun v2 =>
    P1 (.bin .lss) [v2, .int .u8 48] fun v3 =>
    ifB v3 (
      Q .ret [.int .i64 0, .bool false]) (
      P1 (.sidx) [x0, x2] fun v4 =>
      P1 (.bin .gtr) [v4, .int .u8 57] fun v5 =>
      ifB v5 (
        Q .ret [.int .i64 0, .bool false]) (
        P1 (.bin .mul) [.int .i64 10, x1] fun v6 =>
        P1 (.sidx) [x0, x2] fun v7 =>
        P1 (.conv .i64) [v7] fun v8 =>
        P1 (.bin .add) [v6, v8] fun v9 =>
        P1 (.bin .sub) [v9, .int .i64 48] fun v10 =>
        P1 (.bin .add) [x2, .int .i64 1] fun v11 =>
        Q .normal [x0, v10, v11]))) (
    Q (.exit 0) [x0, x1])) := by kernel_rfl

def spec_ParseUint_r1 : L := .seq (.seq (.rg [zk .gtr 1 1000000000, ⟨[(.v 2, false)], .call F_FormatInt 0 1, [.v 1], 1⟩, ⟨[(.v 2, false)], .bin .neq, [.v 3, .v 0], 1⟩, ⟨[], .pick, [.v 2, .k (.bool true), .v 4], 1⟩]) (.ite (.v 5) (.seq (.rg []) (.ret [.k (.int .i64 0), .k (.bool false)])) (.skip))) (.seq (.rg []) (.ret [.v 1, .k (.bool true)]))
theorem spec_ParseUint_r1_sh (Q : QT) (x0 x1 : V) : shL spec_ParseUint_r1 Q [x0, x1] = (
  P1 (.bin .gtr) [x1, .int .i64 1000000000] fun v0 =>
  ifB v0 (
    Q .ret [.int .i64 0, .bool false]) (
    P1 (.call F_FormatInt 0 1) [x1] fun v1 =>
    P1 (.bin .neq) [v1, x0] fun v2 =>
    ifB v2 (
      Q .ret [.int .i64 0, .bool false]) (
      Q .ret [x1, .bool true]))) := by kernel_rfl

def spec_ParseUint_L : L := .seq (.rg []) (.seq (.seq (.rg [⟨[], .slen, [.v 0], 1⟩, zk .gtr 1 10]) (.ite (.v 2) (.seq (.rg []) (.ret [.k (.int .i64 0), .k (.bool false)])) (.skip))) (.seq (.rg []) (.seq (.seq (.rg []) (.block 0 (.seq (.tup [.v 0, .k (.int .i64 0), .k (.int .i64 0)]) (.loop (spec_ParseUint_b0))))) (spec_ParseUint_r1))))
theorem spec_ParseUint_L_sh (Q : QT) (x0 : V) : shL spec_ParseUint_L Q [x0] = (
  P1 (.slen) [x0] fun v0 =>
  P1 (.bin .gtr) [v0, .int .i64 10] fun v1 =>
  ifB v1 (
    Q .ret [.int .i64 0, .bool false]) (
    shL (.loop spec_ParseUint_b0) (qB 0 (qS (shL spec_ParseUint_r1 Q) Q)) [x0, .int .i64 0, .int .i64 0])) := by kernel_rfl
def spec_ParseUint_S : Sig := ⟨[.val false [.sc]], [(false, [.sc]), (false, [.sc])], F_ParseUint⟩
def spec_ParseUint_hs : List NF := [⟨[(0, zs), (4, zs)], [], [], 64⟩, ⟨[(0, zs), (4, zs), (5, zs)], [], [], 64⟩, ⟨[(0, zs), (4, zs), (5, zs)], [], [], 64⟩]

def spec_l40Number_L : L := .seq (.rg []) (.seq (.seq (.rg [⟨[], .slen, [.v 0], 1⟩, zk .gtr 1 1, ⟨[(.v 2, true)], .sidx, [.v 0, .k (.int .i64 0)], 1⟩, ⟨[(.v 2, true)], .bin .eql, [.v 3, .k (.int .u8 45)], 1⟩, ⟨[], .pick, [.v 2, .v 4, .k (.bool false)], 1⟩]) (.ite (.v 5) (.seq (.rg [⟨[], .ssub, [.v 0, .k (.int .i64 1)], 1⟩, zc F_ParseUint 2 [6]]) (.seq (.rg [⟨[], .un .neg, [.v 7], 1⟩]) (.ret [.v 9]))) (.skip))) (.seq (.rg [zc F_ParseUint 2 [0]]) (.seq (.rg []) (.ret [.v 6]))))
theorem spec_l40Number_L_sh (Q : QT) (x0 : V) : shL spec_l40Number_L Q [x0] = (
  P1 (.slen) [x0] fun v0 =>
  P1 (.bin .gtr) [v0, .int .i64 1] fun v1 =>
  ifB v1 (
    P1 (.sidx) [x0, .int .i64 0] fun v2 =>
    P1 (.bin .eql) [v2, .int .u8 45] fun v3 =>
    ifB v3 (
      P1 (.ssub) [x0, .int .i64 1] fun v4 =>
      P2 (.call F_ParseUint 0 2) [v4] fun v5 _ =>
      P1 (.un .neg) [v5] fun v7 =>
      Q .ret [v7]) (
      P2 (.call F_ParseUint 0 2) [x0] fun v8 _ =>
      Q .ret [v8])) (
    P2 (.call F_ParseUint 0 2) [x0] fun v10 _ =>
    Q .ret [v10])) := by kernel_rfl
def spec_l40Number_S : Sig := ⟨[.val false [.sc]], [(false, [.sc])], F_l40Number⟩
def spec_l40Number_hs : List NF := []

def spec_ParseAct_b0 : L := .seq (.seq (.seq (.rg [zl 2, zb .lss 1 7]) (.ite (.v 8) (.skip) (.seq (zt [0, 3, 4, 5, 6]) (.exit 0)))) (.seq (.block 1 (.seq (.seq (.rg [⟨[], .bin .add, [.v 0, .k (.str [32])], 1⟩, zi 2 1, zb .add 9 10]) (.rg [zi 2 1, zc F_l40Number 1 [12], ⟨[], .lst [.sc] false 1, [.v 13], 1⟩, ⟨[], .app [.sc] 8, [.v 3, .v 14], 1⟩])) (zt [11, 1, 2, 15, 4, 5, 6]))) (.rg [zk .add 1 1]))) (zt [0, 7, 2, 3, 4, 5, 6])
theorem spec_ParseAct_b0_sh (Q : QT) (x0 x1 x2 x3 x4 x5 x6 : V) : shL spec_ParseAct_b0 Q [x0, x1, x2, x3, x4, x5, x6] = (
  P1 (.len) [x2] fun v0 =>
  P1 (.bin .lss) [x1, v0] fun v1 =>
  ifB v1 (
    P1 (.bin .add) [x0, .str [32]] fun v2 =>
    P1 (.idx [.sc]) [x2, x1] fun v3 =>
    P1 (.bin .add) [v2, v3] fun v4 =>
    P1 (.idx [.sc]) [x2, x1] fun v5 =>
    P1 (.call F_l40Number 0 1) [v5] fun v6 =>
    P1 (.lst [.sc] false 1) [v6] fun v7 =>
    P1 (.app [.sc] 8) [x3, v7] fun v8 =>
    P1 (.bin .add) [x1, .int .i64 1] fun v9 =>
    Q .normal [v4, v9, x2, v8, x4, x5, x6]) (
    Q (.exit 0) [x0, x3, x4, x5, x6])) := by kernel_rfl

def spec_ParseAct_b2 : L := .seq (.seq (.seq (.rg [zk .leq 1 6]) (.ite (.v 6) (.skip) (.seq (zt [3, 4, 5]) (.exit 2)))) (.seq (.block 3 (.seq (.seq (.rg [⟨[], .idx [.sc], [.v 2, .k (.int .i64 0)], 1⟩, ⟨[], .idx [.sc], [.v 2, .k (.int .i64 1)], 1⟩]) (.seq (.rg [zc F_FormatAct 2 [1, 7, 8]]) (.seq (.rg [⟨[(.v 10, true)], .bin .eql, [.v 9, .v 0], 1⟩, ⟨[], .pick, [.v 10, .v 11, .k (.bool false)], 1⟩]) (.ite (.v 12) (.seq (.rg []) (.ret [.v 1, .v 7, .v 8, .k (.bool true)])) (.skip))))) (zt [0, 1, 2, 3, 4, 5]))) (.rg [zk .add 1 1]))) (zt [0, 6, 2, 3, 4, 5])
theorem spec_ParseAct_b2_sh (Q : QT) (x0 x1 x2 x3 x4 x5 : V) : shL spec_ParseAct_b2 Q [x0, x1, x2, x3, x4, x5] = (
  P1 (.bin .leq) [x1, .int .i64 6] fun v0 =>
  ifB v0 (
    P1 (.idx [.sc]) [x2, .int .i64 0] fun v1 =>
    P1 (.idx [.sc]) [x2, .int .i64 1] fun v2 =>
    P2 (.call F_FormatAct 0 2) [x1, v1, v2] fun v3 v4 =>
    ifB v4 (
      P1 (.bin .eql) [v3, x0] fun v5 =>
      ifB v5 (
        Q .ret [x1, v1, v2, .bool true]) (
        P1 (.bin .add) [x1, .int .i64 1] fun v6 =>
        Q .normal [x0, v6, x2, x3, x4, x5])) (
      P1 (.bin .add) [x1, .int .i64 1] fun v7 =>
      Q .normal [x0, v7, x2, x3, x4, x5])) (
    Q (.exit 2) [x3, x4, x5])) := by kernel_rfl

def spec_ParseAct_r3 : L := .seq (.rg []) (.ret [.k (.int .i64 0), .k (.int .i64 0), .k (.int .i64 0), .k (.bool false)])
theorem spec_ParseAct_r3_sh (Q : QT) (x0 x1 x2 : V) : shL spec_ParseAct_r3 Q [x0, x1, x2] = (
  Q .ret [.int .i64 0, .int .i64 0, .int .i64 0, .bool false]) := by kernel_rfl

def spec_ParseAct_r1 : L := .seq (.rg [⟨[], .lst [.sc] false 2, [.k (.int .i64 0), .k (.int .i64 0)], 1⟩, ⟨[], .app [.sc] 8, [.v 1, .v 5], 1⟩]) (.seq (.seq (.rg []) (.block 2 (.seq (.tup [.v 0, .k (.int .i64 1), .v 6, .v 2, .v 3, .v 4]) (.loop (spec_ParseAct_b2))))) (spec_ParseAct_r3))
theorem spec_ParseAct_r1_sh (Q : QT) (x0 x1 x2 x3 x4 : V) : shL spec_ParseAct_r1 Q [x0, x1, x2, x3, x4] = (
  P1 (.lst [.sc] false 2) [.int .i64 0, .int .i64 0] fun v0 =>
  P1 (.app [.sc] 8) [x1, v0] fun v1 =>
  shL (.loop spec_ParseAct_b2) (qB 2 (qS (shL spec_ParseAct_r3 Q) Q)) [x0, .int .i64 1, v1, x2, x3, x4]) := by kernel_rfl

def spec_ParseAct_L : L := .seq (.rg []) (.seq (.rg [zc F_SplitFields 2 [0]]) (.seq (.seq (.rg [zn 2, ⟨[(.v 3, false)], .len, [.v 1], 1⟩, ⟨[(.v 3, false)], .call F_l01In 0 1, [.v 4, .k (.int .i64 1), .k (.int .i64 3)], 1⟩, ⟨[(.v 3, false)], .un .not, [.v 5], 1⟩, ⟨[], .pick, [.v 3, .k (.bool true), .v 6], 1⟩]) (.ite (.v 7) (.seq (.rg []) (.ret [.k (.int .i64 0), .k (.int .i64 0), .k (.int .i64 0), .k (.bool false)])) (.skip))) (.seq (.rg [⟨[], .idx [.sc], [.v 1, .k (.int .i64 0)], 1⟩]) (.seq (.rg [⟨[], .lst [.sc] false 0, [], 1⟩]) (.seq (.seq (.rg []) (.block 0 (.seq (.tup [.v 8, .k (.int .i64 1), .v 1, .v 9, .k (.int .i64 0), .k (.int .i64 0), .k (.int .i64 0)]) (.loop (spec_ParseAct_b0))))) (spec_ParseAct_r1))))))
theorem spec_ParseAct_L_sh (Q : QT) (x0 : V) : shL spec_ParseAct_L Q [x0] = (
  P2 (.call F_SplitFields 0 2) [x0] fun v0 v1 =>
  P1 (.un .not) [v1] fun v2 =>
  ifB v2 (
    Q .ret [.int .i64 0, .int .i64 0, .int .i64 0, .bool false]) (
    P1 (.len) [v0] fun v3 =>
    P1 (.call F_l01In 0 1) [v3, .int .i64 1, .int .i64 3] fun v4 =>
    P1 (.un .not) [v4] fun v5 =>
    ifB v5 (
      Q .ret [.int .i64 0, .int .i64 0, .int .i64 0, .bool false]) (
      P1 (.idx [.sc]) [v0, .int .i64 0] fun v6 =>
      P1 (.lst [.sc] false 0) [] fun v7 =>
      shL (.loop spec_ParseAct_b0) (qB 0 (qS (shL spec_ParseAct_r1 Q) Q)) [v6, .int .i64 1, v0, v7, .int .i64 0, .int .i64 0, .int .i64 0]))) := by kernel_rfl
def spec_ParseAct_S : Sig := ⟨[.val false [.sc]], [(true, [.sc, .sc, .sc]), (false, [.sc])], F_ParseAct⟩
def spec_ParseAct_hs : List NF := [⟨[(2, .ptr 64 0), (6, zs), (7, zo 65)], [(65, true, [.sc])], [(64, [.sc, .sc, .sc])], 66⟩, ⟨[(2, .ptr 64 0), (4, zo 65), (6, zs), (7, zo 66), (8, zs)], [(65, true, [.sc]), (66, true, [.sc])], [(64, [.sc, .sc, .sc])], 67⟩, ⟨[(2, .ptr 64 0), (4, zo 65), (6, zs), (7, zo 66), (8, zs)], [(65, true, [.sc]), (66, true, [.sc])], [(64, [.sc, .sc, .sc])], 67⟩, ⟨[(2, .ptr 64 0)], [], [(64, [.sc, .sc, .sc])], 65⟩, ⟨[(2, .ptr 64 0), (6, zs), (7, zo 65), (9, zs)], [(65, true, [.sc])], [(64, [.sc, .sc, .sc])], 66⟩, ⟨[(2, .ptr 64 0), (6, zs), (7, zo 65), (9, zs)], [(65, true, [.sc])], [(64, [.sc, .sc, .sc])], 66⟩]

def impl_SplitFields_r1 : L := .seq (.rg [⟨[], .slen, [.v 0], 1⟩, zb .eql 2 14, ⟨[(.v 15, false)], .sidx, [.v 0, .v 2], 1⟩, ⟨[(.v 15, false)], .bin .eql, [.v 16, .k (.int .u8 32)], 1⟩, ⟨[], .pick, [.v 15, .k (.bool true), .v 17], 1⟩]) (.ite (.v 18) (.seq (.seq (.seq (.rg [zb .gtr 2 1]) (.ite (.v 19) (.seq (.rg [⟨[], .ssub, [.v 0, .v 1, .v 2], 1⟩, ⟨[], .lst [.sc] false 1, [.v 20], 1⟩, ⟨[], .app [.sc] 16, [.v 3, .v 21], 1⟩]) (zt [0, 2, 22])) (.seq (.skip) (zt [0, 2, 3])))) (.rg [zk .add 1 1])) (zt [0, 3, 1, 2])) (.seq (.skip) (zt [0, 1, 2, 3])))
theorem impl_SplitFields_r1_sh (Q : QT) (x0 x1 x2 x3 x4 x5 x6 x7 x8 x9 x10 x11 x12 x13 : V) : shL impl_SplitFields_r1 Q [x0, x1, x2, x3, x4, x5, x6, x7, x8, x9, x10, x11, x12, x13] = (
  P1 (.slen) [x0] fun v0 =>
  P1 (.bin .eql) [x2, v0] fun v1 =>
  ifB v1 (
    P1 (.bin .gtr) [x2, x1] fun v2 =>
    ifB v2 (
      P1 (.ssub) [x0, x1, x2] fun v3 =>
      P1 (.lst [.sc] false 1) [v3] fun v4 =>
      P1 (.app [.sc] 16) [x3, v4] fun v5 =>
      P1 (.bin .add) [x2, .int .i64 1] fun v6 =>
      Q .normal [x0, v6, x2, v5]) (
      P1 (.bin .add) [x2, .int .i64 1] fun v7 =>
      Q .normal [x0, v7, x2, x3])) (
    P1 (.sidx) [x0, x2] fun v8 =>
    P1 (.bin .eql) [v8, .int .u8 32] fun v9 =>
    ifB v9 (
      P1 (.bin .gtr) [x2, x1] fun v10 =>
      ifB v10 (
        P1 (.ssub) [x0, x1, x2] fun v11 =>
        P1 (.lst [.sc] false 1) [v11] fun v12 =>
        P1 (.app [.sc] 16) [x3, v12] fun v13 =>
        P1 (.bin .add) [x2, .int .i64 1] fun v14 =>
        Q .normal [x0, v14, x2, v13]) (
        P1 (.bin .add) [x2, .int .i64 1] fun v15 =>
        Q .normal [x0, v15, x2, x3])) (
      Q .normal [x0, x1, x2, x3]))) := by kernel_rfl

def impl_SplitFields_r2 : L := zt [0, 1, 2, 3]
theorem impl_SplitFields_r2_sh (Q : QT) (x0 x1 x2 x3 : V) : shL impl_SplitFields_r2 Q [x0, x1, x2, x3] = (
  Q .normal [x0, x1, x2, x3]) := by kernel_rfl

def impl_SplitFields_r3 : L := .rg [zk .add 2 1]
theorem impl_SplitFields_r3_sh (Q : QT) (x0 x1 x2 x3 : V) : shL impl_SplitFields_r3 Q [x0, x1, x2, x3] = (
  P1 (.bin .add) [x2, .int .i64 1] fun v0 =>
  Q .normal [x0, x1, x2, x3, v0]) := by kernel_rfl

def impl_SplitFields_r4 : L := zt [0, 1, 4, 3]
theorem impl_SplitFields_r4_sh (Q : QT) (x0 x1 x2 x3 x4 : V) : shL impl_SplitFields_r4 Q [x0, x1, x2, x3, x4] = (
  Q .normal [x0, x1, x4, x3]) := by kernel_rfl

def impl_SplitFields_b0 : L := .seq (.seq (.seq (.rg [⟨[], .slen, [.v 0], 1⟩, zb .leq 2 4]) (.ite (.v 5) (.skip) (.seq (zt [3]) (.exit 0)))) (.seq (.block 1 (.seq (.seq (.seq (.rg [⟨[], .slen, [.v 0], 1⟩, zb .lss 2 6, ⟨[(.v 7, true)], .sidx, [.v 0, .v 2], 1⟩, ⟨[(.v 7, true)], .bin .lss, [.v 8, .k (.int .u8 32)], 1⟩, ⟨[(.v 7, true), (.v 9, false)], .sidx, [.v 0, .v 2], 1⟩, ⟨[(.v 7, true), (.v 9, false)], .bin .gtr, [.v 10, .k (.int .u8 126)], 1⟩, ⟨[(.v 7, true)], .pick, [.v 9, .k (.bool true), .v 11], 1⟩, ⟨[], .pick, [.v 7, .v 12, .k (.bool false)], 1⟩]) (.ite (.v 13) (.seq (.rg []) (.ret [.k (.list [.sc] []), .k (.bool false)])) (.skip))) (impl_SplitFields_r1)) (impl_SplitFields_r2))) (impl_SplitFields_r3))) (impl_SplitFields_r4)
theorem impl_SplitFields_b0_sh (Q : QT) (x0 x1 x2 x3 : V) : shL impl_SplitFields_b0 Q [x0, x1, x2, x3] = (
  P1 (.slen) [x0] fun v0 =>
  P1 (.bin .leq) [x2, v0] fun v1 =>
  ifB v1 (
    P1 (.slen) [x0] fun v2 =>
    P1 (.bin .lss) [x2, v2] fun v3 =>
    ifB v3 (
      P1 (.sidx) [x0, x2] fun v4 =>
      P1 (.bin .lss) [v4, .int .u8 32] fun v5 =>
      ifB v5 (
        Q .ret [.list [.sc] [], .bool false]) (
        P1 (.sidx) [x0, x2] fun v6 =>
        P1 (.bin .gtr) [v6, .int .u8 126] fun v7 =>
        ifB v7 (
          Q .ret [.list [.sc] [], .bool false]) (
          shL impl_SplitFields_r1 (qS (shL impl_SplitFields_r2 (qB 1 (qS (shL impl_SplitFields_r3 (qS (shL impl_SplitFields_r4 Q) Q)) (qS (shL impl_SplitFields_r4 Q) Q)))) (qB 1 (qS (shL impl_SplitFields_r3 (qS (shL impl_SplitFields_r4 Q) Q)) (qS (shL impl_SplitFields_r4 Q) Q)))) [x0, x1, x2, x3, v0, .bool true, v2, .bool true, v4, .bool false, v6, v7, v7, .bool false]))) (
      shL impl_SplitFields_r1 (qS (shL impl_SplitFields_r2 (qB 1 (qS (shL impl_SplitFields_r3 (qS (shL impl_SplitFields_r4 Q) Q)) (qS (shL impl_SplitFields_r4 Q) Q)))) (qB 1 (qS (shL impl_SplitFields_r3 (qS (shL impl_SplitFields_r4 Q) Q)) (qS (shL impl_SplitFields_r4 Q) Q)))) [x0, x1, x2, x3, v0, .bool true, v2, .bool false, .list [] [], .list [] [], .list [] [], .list [] [], .list [] [], .bool false])) (
    Q (.exit 0) [x3])) := by kernel_rfl

def impl_SplitFields_r5 : L := .seq (.seq (.rg [zl 0, zk .gtr 1 24]) (.ite (.v 2) (.seq (.rg []) (.ret [.k (.list [.sc] []), .k (.bool false)])) (.skip))) (.seq (.rg []) (.ret [.v 0, .k (.bool true)]))
theorem impl_SplitFields_r5_sh (Q : QT) (x0 : V) : shL impl_SplitFields_r5 Q [x0] = (
  P1 (.len) [x0] fun v0 =>
  P1 (.bin .gtr) [v0, .int .i64 24] fun v1 =>
  ifB v1 (
    Q .ret [.list [.sc] [], .bool false]) (
    Q .ret [x0, .bool true])) := by kernel_rfl

def impl_SplitFields_L : L := .seq (.rg []) (.seq (.seq (.rg [⟨[], .slen, [.v 0], 1⟩, zk .gtr 1 600]) (.ite (.v 2) (.seq (.rg []) (.ret [.k (.list [.sc] []), .k (.bool false)])) (.skip))) (.seq (.rg [⟨[], .lst [.sc] false 0, [], 1⟩]) (.seq (.rg []) (.seq (.seq (.rg []) (.block 0 (.seq (.tup [.v 0, .k (.int .i64 0), .k (.int .i64 0), .v 3]) (.loop (impl_SplitFields_b0))))) (impl_SplitFields_r5)))))
theorem impl_SplitFields_L_sh (Q : QT) (x0 : V) : shL impl_SplitFields_L Q [x0] = (
  P1 (.slen) [x0] fun v0 =>
  P1 (.bin .gtr) [v0, .int .i64 600] fun v1 =>
  ifB v1 (
    Q .ret [.list [.sc] [], .bool false]) (
    P1 (.lst [.sc] false 0) [] fun v2 =>
    shL (.loop impl_SplitFields_b0) (qB 0 (qS (shL impl_SplitFields_r5 Q) Q)) [x0, .int .i64 0, .int .i64 0, v2])) := by kernel_rfl
def impl_SplitFields_S : Sig := ⟨[.val false [.sc]], [(false, [.sl [.sc]]), (false, [.sc])], F_SplitFields⟩
def impl_SplitFields_hs : List NF := [⟨[(4, zo 64)], [(64, true, [.sc])], [], 65⟩, ⟨[(0, zs), (4, zo 64), (5, zs), (6, zs)], [(64, true, [.sc])], [], 65⟩, ⟨[(0, zs), (4, zo 64), (5, zs), (6, zs)], [(64, true, [.sc])], [], 65⟩, ⟨[(0, zs), (4, zo 64), (6, zs)], [(64, true, [.sc])], [], 65⟩, ⟨[(0, zs), (4, zo 64), (5, zs), (6, zs)], [(64, true, [.sc])], [], 65⟩]

def impl_ParseUint_L : L := .seq (.rg []) (.seq (.rg [zc F_strconv_Atoi 2 [0]]) (.seq (.seq (.rg [⟨[], .isNil true, [.v 2], 1⟩, ⟨[(.v 3, false)], .bin .lss, [.v 1, .k (.int .i64 0)], 1⟩, ⟨[], .pick, [.v 3, .k (.bool true), .v 4], 1⟩, ⟨[(.v 5, false)], .bin .gtr, [.v 1, .k (.int .i64 1000000000)], 1⟩, ⟨[], .pick, [.v 5, .k (.bool true), .v 6], 1⟩, ⟨[(.v 7, false)], .call F_FormatInt 0 1, [.v 1], 1⟩, ⟨[(.v 7, false)], .bin .neq, [.v 8, .v 0], 1⟩, ⟨[], .pick, [.v 7, .k (.bool true), .v 9], 1⟩]) (.ite (.v 10) (.seq (.rg []) (.ret [.k (.int .i64 0), .k (.bool false)])) (.skip))) (.seq (.rg []) (.ret [.v 1, .k (.bool true)]))))
theorem impl_ParseUint_L_sh (Q : QT) (x0 : V) : shL impl_ParseUint_L Q [x0] = (
  P2 (.call F_strconv_Atoi 0 2) [x0] fun v0 v1 =>
  P1 (.isNil true) [v1] fun v2 =>
  ifB v2 (
    Q .ret [.int .i64 0, .bool false]) (
    P1 (.bin .lss) [v0, .int .i64 0] fun v3 =>
    ifB v3 (
      Q .ret [.int .i64 0, .bool false]) (
      P1 (.bin .gtr) [v0, .int .i64 1000000000] fun v4 =>
      ifB v4 (
        Q .ret [.int .i64 0, .bool false]) (
        P1 (.call F_FormatInt 0 1) [v0] fun v5 =>
        P1 (.bin .neq) [v5, x0] fun v6 =>
        ifB v6 (
          Q .ret [.int .i64 0, .bool false]) (
          Q .ret [v0, .bool true]))))) := by kernel_rfl
def impl_ParseUint_S : Sig := ⟨[.val false [.sc]], [(false, [.sc]), (false, [.sc])], F_ParseUint⟩
def impl_ParseUint_hs : List NF := []

def impl_ParseAct_b0 : L := .seq (.seq (.rg [zb .lss 2 1]) (.seq (.ite (.v 8) (.skip) (.seq (zt [3, 4, 5, 6, 7]) (.exit 0))) (.seq (.block 1 (.seq (.seq (.rg [zi 0 2]) (.seq (.rg [zc F_ParseUint 2 [9]]) (.seq (.seq (.rg [zn 11]) (.ite (.v 12) (.seq (.rg []) (.ret [.k (.int .i64 0), .k (.int .i64 0), .k (.int .i64 0), .k (.bool false)])) (.skip))) (.rg [⟨[], .lst [.sc] false 1, [.v 10], 1⟩, ⟨[], .app [.sc] 8, [.v 4, .v 13], 1⟩])))) (zt [0, 1, 2, 3, 14, 5, 6, 7]))) (.rg [zk .add 2 1])))) (zt [0, 1, 8, 3, 4, 5, 6, 7])
theorem impl_ParseAct_b0_sh (Q : QT) (x0 x1 x2 x3 x4 x5 x6 x7 : V) : shL impl_ParseAct_b0 Q [x0, x1, x2, x3, x4, x5, x6, x7] = (
  P1 (.bin .lss) [x2, x1] fun v0 =>
  ifB v0 (
    P1 (.idx [.sc]) [x0, x2] fun v1 =>
    P2 (.call F_ParseUint 0 2) [v1] fun v2 v3 =>
    P1 (.un .not) [v3] fun v4 =>
    ifB v4 (
      Q .ret [.int .i64 0, .int .i64 0, .int .i64 0, .bool false]) (
      P1 (.lst [.sc] false 1) [v2] fun v5 =>
      P1 (.app [.sc] 8) [x4, v5] fun v6 =>
      P1 (.bin .add) [x2, .int .i64 1] fun v7 =>
      Q .normal [x0, x1, v7, x3, v6, x5, x6, x7])) (
    Q (.exit 0) [x3, x4, x5, x6, x7])) := by kernel_rfl

def impl_ParseAct_b2 : L := .seq (.seq (.seq (.rg [zk .leq 0 6]) (.ite (.v 6) (.skip) (.seq (zt [3, 4, 5]) (.exit 2)))) (.seq (.block 3 (.seq (.seq (.rg [⟨[], .idx [.sc], [.v 1, .k (.int .i64 0)], 1⟩, zc F_actWord 1 [0], zb .neq 7 8, ⟨[(.v 9, false)], .len, [.v 2], 1⟩, ⟨[(.v 9, false)], .call F_actNumbers 0 1, [.v 0], 1⟩, ⟨[(.v 9, false)], .bin .neq, [.v 10, .v 11], 1⟩, ⟨[], .pick, [.v 9, .k (.bool true), .v 12], 1⟩]) (.ite (.v 13) (.seq (zt [0, 1, 2, 3, 4, 5]) (.exit 3)) (.skip))) (.seq (.rg [⟨[], .lst [.sc] false 2, [.k (.int .i64 0), .k (.int .i64 0)], 1⟩, ⟨[], .app [.sc] 8, [.v 2, .v 14], 1⟩]) (.seq (.rg [⟨[], .idx [.sc], [.v 15, .k (.int .i64 0)], 1⟩, ⟨[], .idx [.sc], [.v 15, .k (.int .i64 1)], 1⟩]) (.seq (.seq (.rg [zc F_ActOk 1 [0, 16, 17], zn 18]) (.ite (.v 19) (.seq (.rg []) (.ret [.k (.int .i64 0), .k (.int .i64 0), .k (.int .i64 0), .k (.bool false)])) (.skip))) (.seq (.rg []) (.ret [.v 0, .v 16, .v 17, .k (.bool true)]))))))) (.rg [zk .add 0 1]))) (zt [6, 1, 2, 3, 4, 5])
theorem impl_ParseAct_b2_sh (Q : QT) (x0 x1 x2 x3 x4 x5 : V) : shL impl_ParseAct_b2 Q [x0, x1, x2, x3, x4, x5] = (
  P1 (.bin .leq) [x0, .int .i64 6] fun v0 =>
  ifB v0 (
    P1 (.idx [.sc]) [x1, .int .i64 0] fun v1 =>
    P1 (.call F_actWord 0 1) [x0] fun v2 =>
    P1 (.bin .neq) [v1, v2] fun v3 =>
    ifB v3 (
      P1 (.bin .add) [x0, .int .i64 1] fun v4 =>
      Q .normal [v4, x1, x2, x3, x4, x5]) (
      P1 (.len) [x2] fun v5 =>
      P1 (.call F_actNumbers 0 1) [x0] fun v6 =>
      P1 (.bin .neq) [v5, v6] fun v7 =>
      ifB v7 (
        P1 (.bin .add) [x0, .int .i64 1] fun v8 =>
        Q .normal [v8, x1, x2, x3, x4, x5]) (
        P1 (.lst [.sc] false 2) [.int .i64 0, .int .i64 0] fun v9 =>
        P1 (.app [.sc] 8) [x2, v9] fun v10 =>
        P1 (.idx [.sc]) [v10, .int .i64 0] fun v11 =>
        P1 (.idx [.sc]) [v10, .int .i64 1] fun v12 =>
        P1 (.call F_ActOk 0 1) [x0, v11, v12] fun v13 =>
        P1 (.un .not) [v13] fun v14 =>
        ifB v14 (
          Q .ret [.int .i64 0, .int .i64 0, .int .i64 0, .bool false]) (
          Q .ret [x0, v11, v12, .bool true])))) (
    Q (.exit 2) [x3, x4, x5])) := by kernel_rfl

def impl_ParseAct_r3 : L := .seq (.rg []) (.ret [.k (.int .i64 0), .k (.int .i64 0), .k (.int .i64 0), .k (.bool false)])
theorem impl_ParseAct_r3_sh (Q : QT) (x0 x1 x2 : V) : shL impl_ParseAct_r3 Q [x0, x1, x2] = (
  Q .ret [.int .i64 0, .int .i64 0, .int .i64 0, .bool false]) := by kernel_rfl

def impl_ParseAct_r1 : L := .seq (.seq (.rg []) (.block 2 (.seq (.tup [.k (.int .i64 1), .v 0, .v 1, .v 2, .v 3, .v 4]) (.loop (impl_ParseAct_b2))))) (impl_ParseAct_r3)
theorem impl_ParseAct_r1_sh (Q : QT) (x0 x1 x2 x3 x4 : V) : shL impl_ParseAct_r1 Q [x0, x1, x2, x3, x4] = (
  shL (.loop impl_ParseAct_b2) (qB 2 (qS (shL impl_ParseAct_r3 Q) Q)) [.int .i64 1, x0, x1, x2, x3, x4]) := by kernel_rfl

def impl_ParseAct_L : L := .seq (.rg []) (.seq (.rg [zc F_SplitFields 2 [0]]) (.seq (.seq (.rg [zn 2, ⟨[(.v 3, false)], .len, [.v 1], 1⟩, ⟨[(.v 3, false)], .bin .eql, [.v 4, .k (.int .i64 0)], 1⟩, ⟨[], .pick, [.v 3, .k (.bool true), .v 5], 1⟩]) (.ite (.v 6) (.seq (.rg []) (.ret [.k (.int .i64 0), .k (.int .i64 0), .k (.int .i64 0), .k (.bool false)])) (.skip))) (.seq (.rg [⟨[], .lst [.sc] false 0, [], 1⟩]) (.seq (.seq (.rg [⟨[], .lsub [.sc], [.v 1, .k (.int .i64 1)], 1⟩, zl 8]) (.block 0 (.seq (.tup [.v 8, .v 9, .k (.int .i64 0), .v 1, .v 7, .k (.int .i64 0), .k (.int .i64 0), .k (.int .i64 0)]) (.loop (impl_ParseAct_b0))))) (impl_ParseAct_r1)))))
theorem impl_ParseAct_L_sh (Q : QT) (x0 : V) : shL impl_ParseAct_L Q [x0] = (
  P2 (.call F_SplitFields 0 2) [x0] fun v0 v1 =>
  P1 (.un .not) [v1] fun v2 =>
  ifB v2 (
    Q .ret [.int .i64 0, .int .i64 0, .int .i64 0, .bool false]) (
    P1 (.len) [v0] fun v3 =>
    P1 (.bin .eql) [v3, .int .i64 0] fun v4 =>
    ifB v4 (
      Q .ret [.int .i64 0, .int .i64 0, .int .i64 0, .bool false]) (
      P1 (.lst [.sc] false 0) [] fun v5 =>
      P1 (.lsub [.sc]) [v0, .int .i64 1] fun v6 =>
      P1 (.len) [v6] fun v7 =>
      shL (.loop impl_ParseAct_b0) (qB 0 (qS (shL impl_ParseAct_r1 Q) Q)) [v6, v7, .int .i64 0, v0, v5, .int .i64 0, .int .i64 0, .int .i64 0]))) := by kernel_rfl
def impl_ParseAct_S : Sig := ⟨[.val false [.sc]], [(true, [.sc, .sc, .sc]), (false, [.sc])], F_ParseAct⟩
def impl_ParseAct_hs : List NF := [⟨[(2, .ptr 64 0), (4, zo 65), (6, zo 66)], [(65, true, [.sc]), (66, true, [.sc])], [(64, [.sc, .sc, .sc])], 67⟩, ⟨[(2, .ptr 64 0), (4, zo 65), (6, zo 66), (28, .sc false [.inn 65 [.sc]]), (29, zs), (30, zs)], [(65, true, [.sc]), (66, true, [.sc])], [(64, [.sc, .sc, .sc])], 67⟩, ⟨[(2, .ptr 64 0), (4, zo 65), (6, zo 66), (28, .sc false [.inn 65 [.sc]]), (29, zs), (30, zs)], [(65, true, [.sc]), (66, true, [.sc])], [(64, [.sc, .sc, .sc])], 67⟩, ⟨[(2, .ptr 64 0)], [], [(64, [.sc, .sc, .sc])], 65⟩, ⟨[(2, .ptr 64 0), (4, zo 65), (6, zo 66), (11, zs)], [(65, true, [.sc]), (66, true, [.sc])], [(64, [.sc, .sc, .sc])], 67⟩, ⟨[(2, .ptr 64 0), (4, zo 65), (6, zo 66), (11, zs)], [(65, true, [.sc]), (66, true, [.sc])], [(64, [.sc, .sc, .sc])], 67⟩]

end
end Go.Mw

namespace Go.Mw
open Go.Lib (decDigits itoa)
section
variable {k : V → Prop} {κ κ' : IntKind} {i j : Int} {l : List UInt8}
@[simp] theorem P1_slen : P1 .slen [.str l] k ↔ k (.int .i64 l.length) := P1_of (by simp [Prim.run]) k
@[simp] theorem P1_sidx : P1 .sidx [.str l, .int κ i] k ↔ 0 ≤ i ∧ ∃ b, l[i.toNat]? = some b ∧ k (.int .u8 b.toNat) := by
  by_cases h : 0 ≤ i
  · cases hb : l[i.toNat]? with
    | some b => rw [P1_of (v := .int .u8 b.toNat) (by simp [Prim.run, h, hb])]; simp [h]
    | none =>
      constructor
      · rintro ⟨a, e, _⟩
        simp [Prim.run, h, hb] at e
      · rintro ⟨_, b, e, _⟩; cases e
  · constructor
    · rintro ⟨a, e, _⟩
      simp [Prim.run, h] at e
    · intro ⟨h1, _⟩; exact absurd h1 h
@[simp] theorem P1_ssub2 : P1 .ssub [.str l, .int κ i, .int κ' j] k ↔ (0 ≤ i ∧ i ≤ j ∧ j ≤ l.length) ∧ k (.str ((l.take j.toNat).drop i.toNat)) := P1_opt (by simp [Prim.run, subB]) k
@[simp] theorem P1_ssub1 : P1 .ssub [.str l, .int κ i] k ↔ (0 ≤ i ∧ i ≤ l.length) ∧ k (.str (l.drop i.toNat)) := P1_opt (by simp [Prim.run, subB]) k
@[simp] theorem P1_notNil {b : Bool} : P1 (.isNil true) [.err b] k ↔ k (.bool b) := P1_of (by simp [Prim.run]) k
end
theorem all_snoc {s : List UInt8} {k : Nat} {p : UInt8 → Bool} (h : k < s.length) : (s.take (k + 1)).all p = ((s.take k).all p && p s[k]) := by
  rw [take_succ_get h, List.all_append]; simp
theorem uNum_no {s : List UInt8} (h : uOk s = false) : uNum s = 0 := by simp [uNum, h]
theorem uOk_nodig {s : List UInt8} {k : Nat} (h : k < s.length) (h2 : isDig s[k] = false) : uOk s = false := by
  have : s.all isDig = false := by
    rw [List.all_eq_false]
    exact ⟨s[k], List.getElem_mem h, by simp [h2]⟩
  simp [uOk, this]
theorem spec_ParseUint_ok : ∀ ds outs, F_ParseUint ds = some outs → shL spec_ParseUint_L (qRet outs) ds := F_ParseUint_elim fun s hp => by
  rw [spec_ParseUint_L_sh]
  simp only [P1_slen, P1_gtr, ifB_bool, decide_eq_true_eq, decide_eq_false_iff_not, qRet_ret]
  refine ⟨fun h => ?_, fun h => ?_⟩
  · have h4 : uOk s = false := by simp [uOk]; omega
    simp [uNum_no h4, h4]
  have hl : s.length ≤ 10 := by omega
  refine loop_upto s.length (fun k => [.str s, .int .i64 (uval (s.take k)), .int .i64 k]) (fun i j _ _ e => by simp at e; omega) (fun k => (s.take k).all isDig = true) (by simp [uval]) (by simp) ?_
  intro k hk ha
  rw [spec_ParseUint_b0_sh]
  have hlt := uval_lt ha
  have h10 : (10 : Nat) ^ (s.take k).length ≤ 10 ^ 10 := Nat.pow_le_pow_right (by omega) (by rw [List.length_take]; omega)
  have hb : uval (s.take k) < 10000000000 := Nat.lt_of_lt_of_le hlt h10
  clear hlt h10
  simp only [P1_slen, P1_lss, ifB_bool, decide_eq_true_eq, decide_eq_false_iff_not]
  refine ⟨fun h => ?_, fun h => ?_⟩
  · have h2 : k < s.length := by omega
    simp only [P1_sidx, Int.toNat_natCast, List.getElem?_eq_getElem h2, Option.some.injEq, exists_eq_left', P1_lss, ifB_bool, decide_eq_true_eq, decide_eq_false_iff_not]
    refine ⟨by omega, fun h3 => ?_, fun h3 => ⟨by omega, ?_⟩⟩
    · have h4 := uOk_nodig h2 (by simp only [isDig, Bool.and_eq_false_iff, decide_eq_false_iff_not]; omega)
      simp [uNum_no h4, h4]
    · simp only [P1_gtr, ifB_bool, decide_eq_true_eq, decide_eq_false_iff_not]
      refine ⟨fun h5 => ?_, fun h5 => ?_⟩
      · have h4 := uOk_nodig h2 (by simp only [isDig, Bool.and_eq_false_iff, decide_eq_false_iff_not]; omega)
        simp [uNum_no h4, h4]
      · have w1 : IntKind.i64.wrap (10 * (uval (s.take k) : Int)) = 10 * (uval (s.take k) : Int) := wrap_id (by omega) (by omega)
        have w2 : IntKind.i64.wrap (s[k].toNat : Int) = s[k].toNat := wrap_id (by omega) (by omega)
        have w3 : IntKind.i64.wrap (10 * (uval (s.take k) : Int) + s[k].toNat) = 10 * (uval (s.take k) : Int) + s[k].toNat := wrap_id (by omega) (by omega)
        have w4 : IntKind.i64.wrap (10 * (uval (s.take k) : Int) + s[k].toNat - 48) = ((10 * uval (s.take k) + (s[k].toNat - 48) : Nat) : Int) := by rw [wrap_id (by omega) (by omega)]; omega
        have w5 : IntKind.i64.wrap ((k : Int) + 1) = ((k + 1 : Nat) : Int) := by rw [wrap_id (by omega) (by omega)]; omega
        simp only [P1_mul, w1, P1_conv, w2, P1_add, w3, P1_sub, w4, w5, qS_normal]
        refine ⟨by omega, h2, ?_, ?_⟩
        · rw [take_succ_get h2, uval_snoc]
        · rw [all_snoc h2, ha]
          simp only [isDig, Bool.true_and, Bool.and_eq_true, decide_eq_true_eq]; omega
  · have e : k = s.length := by omega
    subst e
    rw [List.take_length] at ha hb
    simp only [qS_exit, qB_exit, if_true, qS_normal, spec_ParseUint_r1_sh, P1_gtr, ifB_bool, decide_eq_true_eq, decide_eq_false_iff_not, List.take_length, qRet_ret]
    refine ⟨fun h3 => ?_, fun h3 => ?_⟩
    · have h4 : uOk s = false := by simp [uOk]; intro _ _; omega
      simp [uNum_no h4, h4]
    · rw [p_FormatInt (by omega)]
      simp only [P1_neqS, ifB_bool, Bool.not_eq_true', Bool.not_eq_false', beq_eq_false_iff_ne, beq_iff_eq]
      refine ⟨fun h5 => ?_, fun h5 => ?_⟩
      · have h4 : uOk s = false := by
          simp only [uOk, h5, decide_false, Bool.and_false]
        simp [uNum_no h4, h4]
      · have h4 : uOk s = true := by
          simp only [uOk, Bool.and_eq_true, decide_eq_true_eq]
          exact ⟨hl, ha, by omega, h5⟩
        simp [uNum, h4]
theorem impl_ParseUint_ok : ∀ ds outs, F_ParseUint ds = some outs → shL impl_ParseUint_L (qRet outs) ds := F_ParseUint_elim fun s hp => by
  rw [impl_ParseUint_L_sh, p_strconv_Atoi (by omega)]
  have hi := atoi_back (s := s)
  simp only [P1_notNil, ifB_bool, P1_lss, P1_gtr, decide_eq_true_eq, decide_eq_false_iff_not, qRet_ret]
  have hno : ¬ (atoiE s = false ∧ (0 ≤ atoiV s ∧ (atoiV s ≤ 1000000000 ∧ itoa (atoiV s) = s))) → [V.int .i64 0, V.bool false] = [V.int .i64 (uNum s), V.bool (uOk s)] := by
    intro h
    have h4 : uOk s = false := by
      cases h5 : uOk s with
      | false => rfl
      | true => exact absurd (hi.2 h5) h
    simp [uNum_no h4, h4]
  refine ⟨fun h => hno (by simp [h]), fun h1 => ⟨fun h => hno (by omega), fun h2 => ⟨fun h => hno (by omega), fun h3 => ?_⟩⟩⟩
  rw [p_FormatInt (by omega)]
  simp only [P1_neqS, ifB_bool, Bool.not_eq_true', Bool.not_eq_false', beq_eq_false_iff_ne, beq_iff_eq]
  refine ⟨fun h => hno (fun h5 => h h5.2.2.2), fun h4 => ?_⟩
  have h5 := hi.1 ⟨h1, by omega, by omega, h4⟩
  have h6 := atoi_num h5
  simp [uNum, h5, h6]
theorem spec_l40Number_ok : ∀ ds outs, F_l40Number ds = some outs → shL spec_l40Number_L (qRet outs) ds := F_l40Number_elim fun s hp => by
  rw [spec_l40Number_L_sh]
  simp only [P1_slen, P1_gtr, ifB_bool, decide_eq_true_eq, decide_eq_false_iff_not]
  have b1 := fun (t : List UInt8) => show 0 ≤ uNum t ∧ uNum t ≤ 1000000000 from by
    cases h : uOk t with
    | true => exact (uOk_small h).2
    | false => rw [uNum_no h]; omega
  refine ⟨fun h => ?_, fun h => ?_⟩
  · have h0 : 0 < s.length := by omega
    simp only [P1_sidx, Int.toNat_zero, List.getElem?_eq_getElem h0, Option.some.injEq, exists_eq_left', P1_eql, ifB_bool, beq_iff_eq, beq_eq_false_iff_ne, ne_eq]
    refine ⟨by omega, fun h2 => ?_, fun h2 => ?_⟩
    · have e : s[0] = 45 := UInt8.toNat_inj.1 (by have : (s[0].toNat : Int) = 45 := h2; show s[0].toNat = 45; omega)
      simp only [P1_ssub1]
      refine ⟨by omega, ?_⟩
      have hb := b1 (s.drop 1)
      rw [p_ParseUint (by rw [List.length_drop]; omega)]
      simp only [P1_neg]
      have w : IntKind.i64.wrap (0 - uNum (s.drop (1 : Int).toNat)) = -(uNum (s.drop 1)) := by
        show IntKind.i64.wrap (0 - uNum (s.drop 1)) = _
        rw [wrap_id (by omega) (by omega)]; omega
      rw [w]
      have : l40N s = -(uNum (s.drop 1)) := by
        unfold l40N
        rw [if_pos ⟨by omega, by rw [List.getElem?_eq_getElem h0, e]⟩]
      simp [this]
    · rw [p_ParseUint hp]
      have : l40N s = uNum s := by
        unfold l40N
        rw [if_neg]
        rintro ⟨_, h3⟩
        rw [List.getElem?_eq_getElem h0, Option.some.injEq] at h3
        rw [h3] at h2
        exact h2 rfl
      simp [this]
  · rw [p_ParseUint hp]
    have : l40N s = uNum s := by
      unfold l40N
      rw [if_neg]
      rintro ⟨h3, _⟩; omega
    simp [this]

theorem fieldsTo_le (s : List UInt8) : ∀ i, (fieldsTo s i).2 ≤ i ∧ (fieldsTo s i).1.length ≤ i
  | 0 => by simp [fieldsTo]
  | i + 1 => by
    have ih := fieldsTo_le s i
    unfold fieldsTo
    split
    · split
      · refine ⟨Nat.le_refl _, ?_⟩
        simp only
        split
        · rw [List.length_append, List.length_singleton]; omega
        · omega
      · omega
    · refine ⟨Nat.le_refl _, ?_⟩
      simp only
      split
      · rw [List.length_append, List.length_singleton]; omega
      · omega
theorem fieldsOk_bad {s : List UInt8} {k : Nat} (h : k < s.length) (h2 : plainB s[k] = false) : fieldsOk s = false := by
  have : s.all plainB = false := by
    rw [List.all_eq_false]
    exact ⟨s[k], List.getElem_mem h, by simp [h2]⟩
  simp [fieldsOk, this]
theorem fieldsOf_no {s : List UInt8} (h : fieldsOk s = false) : fieldsOf s = [] := by simp [fieldsOf, h]
theorem fieldsTo_end {s : List UInt8} : fieldsTo s (s.length + 1) = (if (fieldsTo s s.length).2 < s.length then (fieldsTo s s.length).1 ++ [(s.take s.length).drop (fieldsTo s s.length).2] else (fieldsTo s s.length).1, s.length + 1) := by
  rw [fieldsTo, List.getElem?_eq_none (Nat.le_refl _)]
theorem fieldsTo_space {s : List UInt8} {k : Nat} (h : k < s.length) (e : s[k] = 32) : fieldsTo s (k + 1) = (if (fieldsTo s k).2 < k then (fieldsTo s k).1 ++ [(s.take k).drop (fieldsTo s k).2] else (fieldsTo s k).1, k + 1) := by
  rw [fieldsTo, List.getElem?_eq_getElem h]; simp only [if_pos e]
theorem fieldsTo_other {s : List UInt8} {k : Nat} (h : k < s.length) (e : ¬ s[k] = 32) : fieldsTo s (k + 1) = fieldsTo s k := by
  rw [fieldsTo, List.getElem?_eq_getElem h]; simp only [if_neg e]
theorem is32 {b : UInt8} : (b.toNat : Int) = 32 ↔ b = 32 := by
  constructor
  · intro h
    exact UInt8.toNat_inj.1 (by show b.toNat = 32; omega)
  · rintro rfl; rfl
end Go.Mw

namespace Go.Mw
open Go.Lib (decDigits itoa)
theorem plainB_no1 {b : UInt8} (h : (b.toNat : Int) < 32) : plainB b = false := by
  simp only [plainB, Bool.and_eq_false_iff, decide_eq_false_iff_not]; omega
theorem plainB_no2 {b : UInt8} (h : (126 : Int) < b.toNat) : plainB b = false := by
  simp only [plainB, Bool.and_eq_false_iff, decide_eq_false_iff_not]; omega
theorem plainB_yes {b : UInt8} (h : ¬ (b.toNat : Int) < 32) (h2 : ¬ (126 : Int) < b.toNat) : plainB b = true := by
  simp only [plainB, Bool.and_eq_true, decide_eq_true_eq]; omega
theorem fieldsOk_long {s : List UInt8} (h : 600 < s.length) : fieldsOk s = false := by simp [fieldsOk]; omega
theorem fieldsOk_many {s : List UInt8} (h : 24 < (fieldsTo s (s.length + 1)).1.length) : fieldsOk s = false := by
  have : decide ((fieldsTo s (s.length + 1)).1.length ≤ 24) = false := by simp; omega
  simp [fieldsOk, this]
theorem fieldsOk_yes {s : List UInt8} (h : s.length ≤ 600) (h2 : s.all plainB = true) (h3 : (fieldsTo s (s.length + 1)).1.length ≤ 24) : fieldsOk s = true := by
  simp only [fieldsOk, Bool.and_eq_true, decide_eq_true_eq]; exact ⟨h, h2, h3⟩
theorem fieldsTo_grow {s : List UInt8} {k : Nat} (h : k < s.length → s[k]? = some 32) (hk : k ≤ s.length) : fieldsTo s (k + 1) = (if (fieldsTo s k).2 < k then (fieldsTo s k).1 ++ [(s.take k).drop (fieldsTo s k).2] else (fieldsTo s k).1, k + 1) := by
  rcases Nat.lt_or_ge k s.length with h1 | h1
  · have := h h1
    rw [List.getElem?_eq_getElem h1, Option.some.injEq] at this
    exact fieldsTo_space h1 this
  · obtain rfl : k = s.length := by omega
    exact fieldsTo_end

theorem spec_SplitFields_ok : ∀ ds outs, F_SplitFields ds = some outs → shL spec_SplitFields_L (qRet outs) ds := F_SplitFields_elim fun s hp => by
  rw [spec_SplitFields_L_sh]
  simp only [P1_lst0, P1_slen, P1_gtr, ifB_bool, decide_eq_true_eq, decide_eq_false_iff_not, qRet_ret]
  refine ⟨fun h => ?_, fun h => ?_⟩
  · have h4 := fieldsOk_long (s := s) (by omega)
    simp [fieldsOf_no h4, h4]
  have hl : s.length ≤ 600 := by omega
  refine loop_upto (s.length + 1) (fun k => [.str s, .int .i64 (fieldsTo s k).2, .int .i64 k, vL I1 vS (fieldsTo s k).1]) (fun i j _ _ e => by simp at e; omega) (fun k => (s.take k).all plainB = true) (by simp [fieldsTo]) (by simp) ?_
  intro k hk ha
  obtain ⟨g1, g2⟩ := fieldsTo_le s k
  have w5 : IntKind.i64.wrap ((k : Int) + 1) = ((k + 1 : Nat) : Int) := by rw [wrap_id (by omega) (by omega)]; omega
  rw [spec_SplitFields_b0_sh]
  simp only [P1_slen, P1_leq, P1_lss, ifB_bool, decide_eq_true_eq, decide_eq_false_iff_not]
  refine ⟨fun hk2 => ⟨fun h1 => ?_, fun h1 => ?_⟩, fun hk2 => ?_⟩
  · have h2 : k < s.length := by omega
    simp only [P1_sidx, Int.toNat_natCast, List.getElem?_eq_getElem h2, Option.some.injEq, exists_eq_left', P1_lss, ifB_bool, decide_eq_true_eq, decide_eq_false_iff_not, P1_lst0]
    refine ⟨by omega, fun h3 => ?_, fun h3 => ⟨by omega, ?_⟩⟩
    · have h4 := fieldsOk_bad h2 (plainB_no1 h3)
      simp [fieldsOf_no h4, h4]
    simp only [P1_gtr, ifB_bool, decide_eq_true_eq, decide_eq_false_iff_not]
    refine ⟨fun h5 => ?_, fun h5 => ?_⟩
    · have h4 := fieldsOk_bad h2 (plainB_no2 h5)
      simp [fieldsOf_no h4, h4]
    have hP : (s.take (k + 1)).all plainB = true := by rw [all_snoc h2, ha, plainB_yes h3 h5]; rfl
    rw [spec_SplitFields_r1_sh]
    simp only [P1_slen, P1_lss, ifB_bool, decide_eq_true_eq, decide_eq_false_iff_not, P1_sidx, Int.toNat_natCast, List.getElem?_eq_getElem h2, Option.some.injEq, exists_eq_left', P1_neq, bne_iff_ne, ne_eq, bne_eq_false_iff_eq]
    refine ⟨fun _ => ⟨by omega, fun h6 => ?_, fun h6 => ?_⟩, fun h9 => absurd h1 h9⟩
    · have e := fieldsTo_other h2 (fun h7 => h6 (is32.2 h7))
      simp only [qS_exit, qB_exit, if_true, qS_normal, spec_SplitFields_r3_sh, spec_SplitFields_r4_sh, P1_add, w5, e]
      exact ⟨by omega, trivial, hP⟩
    · have e := fieldsTo_grow (s := s) (k := k) (fun _ => by rw [List.getElem?_eq_getElem h2, is32.1 h6]) (by omega)
      refine ⟨fun h7 => ?_, fun h7 => ?_⟩
      · rw [if_pos (by omega)] at e
        simp only [P1_ssub2, P1_lstS1, P1_appS_, P1_add, w5, List.length_singleton, qS_normal, qB_normal, spec_SplitFields_r2_sh, spec_SplitFields_r3_sh, spec_SplitFields_r4_sh, e, Int.toNat_natCast]
        exact ⟨by omega, ⟨by omega, by omega⟩, by omega, trivial, hP⟩
      · rw [if_neg (by omega)] at e
        simp only [P1_add, w5, qS_normal, qB_normal, spec_SplitFields_r2_sh, spec_SplitFields_r3_sh, spec_SplitFields_r4_sh, e]
        exact ⟨by omega, trivial, hP⟩
  · have h2 : k = s.length := by omega
    have hP : (s.take (k + 1)).all plainB = true := by
      rw [List.take_of_length_le (by omega)]
      rw [List.take_of_length_le (by omega)] at ha
      exact ha
    have e := fieldsTo_grow (s := s) (k := k) (fun h9 => by omega) (by omega)
    rw [spec_SplitFields_r1_sh]
    simp only [P1_slen, P1_lss, ifB_bool, decide_eq_true_eq, decide_eq_false_iff_not]
    refine ⟨fun h9 => absurd h9 h1, fun _ => ⟨fun h7 => ?_, fun h7 => ?_⟩⟩
    · rw [if_pos (by omega)] at e
      simp only [P1_ssub2, P1_lstS1, P1_appS_, P1_add, w5, List.length_singleton, qS_normal, qB_normal, spec_SplitFields_r2_sh, spec_SplitFields_r3_sh, spec_SplitFields_r4_sh, e, Int.toNat_natCast]
      exact ⟨by omega, ⟨by omega, by omega⟩, by omega, trivial, hP⟩
    · rw [if_neg (by omega)] at e
      simp only [P1_add, w5, qS_normal, qB_normal, spec_SplitFields_r2_sh, spec_SplitFields_r3_sh, spec_SplitFields_r4_sh, e]
      exact ⟨by omega, trivial, hP⟩
  · have e : k = s.length + 1 := by omega
    subst e
    rw [List.take_of_length_le (by omega)] at ha
    simp only [qS_exit, qB_exit, if_true, qS_normal, spec_SplitFields_r5_sh, P1_len, P1_gtr, ifB_bool, decide_eq_true_eq, decide_eq_false_iff_not, P1_lst0, qRet_ret]
    refine ⟨fun h3 => ?_, fun h3 => ?_⟩
    · have h4 := fieldsOk_many (s := s) (by omega)
      simp [fieldsOf_no h4, h4]
    · have h4 := fieldsOk_yes hl ha (by omega)
      simp [fieldsOf, h4]
theorem impl_SplitFields_ok : ∀ ds outs, F_SplitFields ds = some outs → shL impl_SplitFields_L (qRet outs) ds := F_SplitFields_elim fun s hp => by
  rw [impl_SplitFields_L_sh]
  simp only [P1_lst0, P1_slen, P1_gtr, ifB_bool, decide_eq_true_eq, decide_eq_false_iff_not, qRet_ret]
  refine ⟨fun h => ?_, fun h => ?_⟩
  · have h4 := fieldsOk_long (s := s) (by omega)
    simp [fieldsOf_no h4, h4]
  have hl : s.length ≤ 600 := by omega
  refine loop_upto (s.length + 1) (fun k => [.str s, .int .i64 (fieldsTo s k).2, .int .i64 k, vL I1 vS (fieldsTo s k).1]) (fun i j _ _ e => by simp at e; omega) (fun k => (s.take k).all plainB = true) (by simp [fieldsTo]) (by simp) ?_
  intro k hk ha
  obtain ⟨g1, g2⟩ := fieldsTo_le s k
  have w5 : IntKind.i64.wrap ((k : Int) + 1) = ((k + 1 : Nat) : Int) := by rw [wrap_id (by omega) (by omega)]; omega
  rw [impl_SplitFields_b0_sh]
  simp only [P1_slen, P1_leq, P1_lss, ifB_bool, decide_eq_true_eq, decide_eq_false_iff_not]
  refine ⟨fun hk2 => ⟨fun h1 => ?_, fun h1 => ?_⟩, fun hk2 => ?_⟩
  · have h2 : k < s.length := by omega
    simp only [P1_sidx, Int.toNat_natCast, List.getElem?_eq_getElem h2, Option.some.injEq, exists_eq_left', P1_lss, ifB_bool, decide_eq_true_eq, decide_eq_false_iff_not]
    refine ⟨by omega, fun h3 => ?_, fun h3 => ⟨by omega, ?_⟩⟩
    · have h4 := fieldsOk_bad h2 (plainB_no1 h3)
      simp [fieldsOf_no h4, h4]
    simp only [P1_gtr, ifB_bool, decide_eq_true_eq, decide_eq_false_iff_not]
    refine ⟨fun h5 => ?_, fun h5 => ?_⟩
    · have h4 := fieldsOk_bad h2 (plainB_no2 h5)
      simp [fieldsOf_no h4, h4]
    have hP : (s.take (k + 1)).all plainB = true := by rw [all_snoc h2, ha, plainB_yes h3 h5]; rfl
    rw [impl_SplitFields_r1_sh]
    simp only [P1_slen, P1_eql, P1_gtr, ifB_bool, decide_eq_true_eq, decide_eq_false_iff_not, P1_sidx, Int.toNat_natCast, List.getElem?_eq_getElem h2, Option.some.injEq, exists_eq_left', beq_iff_eq, beq_eq_false_iff_ne, ne_eq]
    refine ⟨fun h9 => by omega, fun _ => ⟨by omega, fun h6 => ?_, fun h6 => ?_⟩⟩
    · have e := fieldsTo_grow (s := s) (k := k) (fun _ => by rw [List.getElem?_eq_getElem h2, is32.1 h6]) (by omega)
      refine ⟨fun h7 => ?_, fun h7 => ?_⟩
      · rw [if_pos (by omega)] at e
        simp only [P1_ssub2, P1_lstS1, P1_appS_, P1_add, w5, List.length_singleton, qS_normal, qB_normal, impl_SplitFields_r2_sh, impl_SplitFields_r3_sh, impl_SplitFields_r4_sh, e, Int.toNat_natCast]
        exact ⟨by omega, ⟨by omega, by omega⟩, by omega, trivial, hP⟩
      · rw [if_neg (by omega)] at e
        simp only [P1_add, w5, qS_normal, qB_normal, impl_SplitFields_r2_sh, impl_SplitFields_r3_sh, impl_SplitFields_r4_sh, e]
        exact ⟨by omega, trivial, hP⟩
    · have e := fieldsTo_other h2 (fun h7 => h6 (is32.2 h7))
      simp only [qS_normal, qB_normal, impl_SplitFields_r2_sh, impl_SplitFields_r3_sh, impl_SplitFields_r4_sh, P1_add, w5, e]
      exact ⟨by omega, trivial, hP⟩
  · have h2 : k = s.length := by omega
    have hP : (s.take (k + 1)).all plainB = true := by
      rw [List.take_of_length_le (by omega)]
      rw [List.take_of_length_le (by omega)] at ha
      exact ha
    have e := fieldsTo_grow (s := s) (k := k) (fun h9 => by omega) (by omega)
    rw [impl_SplitFields_r1_sh]
    simp only [P1_slen, P1_eql, P1_gtr, ifB_bool, decide_eq_true_eq, decide_eq_false_iff_not, beq_iff_eq, beq_eq_false_iff_ne, ne_eq]
    refine ⟨fun _ => ⟨fun h7 => ?_, fun h7 => ?_⟩, fun h9 => absurd (by omega) h9⟩
    · rw [if_pos (by omega)] at e
      simp only [P1_ssub2, P1_lstS1, P1_appS_, P1_add, w5, List.length_singleton, qS_normal, qB_normal, impl_SplitFields_r2_sh, impl_SplitFields_r3_sh, impl_SplitFields_r4_sh, e, Int.toNat_natCast]
      exact ⟨by omega, ⟨by omega, by omega⟩, by omega, trivial, hP⟩
    · rw [if_neg (by omega)] at e
      simp only [P1_add, w5, qS_normal, qB_normal, impl_SplitFields_r2_sh, impl_SplitFields_r3_sh, impl_SplitFields_r4_sh, e]
      exact ⟨by omega, trivial, hP⟩
  · have e : k = s.length + 1 := by omega
    subst e
    rw [List.take_of_length_le (by omega)] at ha
    simp only [qS_exit, qB_exit, if_true, qS_normal, impl_SplitFields_r5_sh, P1_len, P1_gtr, ifB_bool, decide_eq_true_eq, decide_eq_false_iff_not, qRet_ret]
    refine ⟨fun h3 => ?_, fun h3 => ?_⟩
    · have h4 := fieldsOk_many (s := s) (by omega)
      simp [fieldsOf_no h4, h4]
    · have h4 := fieldsOk_yes hl ha (by omega)
      simp [fieldsOf, h4]
end Go.Mw

namespace Go.Mw
open Go.Lib (decDigits itoa)
theorem fields_in (s : List UInt8) : ∀ k, k ≤ s.length + 1 → (∀ x ∈ (fieldsTo s k).1, x ≠ [] ∧ 32 ∉ x ∧ x.length ≤ s.length) ∧ ∀ j, (fieldsTo s k).2 ≤ j → j < k → s[j]? ≠ some 32
  | 0, _ => ⟨by simp [fieldsTo], fun j _ h => by omega⟩
  | k + 1, hk => by
    obtain ⟨ih1, ih2⟩ := fields_in s k (by omega)
    have g := (fieldsTo_le s k).1
    by_cases h : k < s.length → s[k]? = some 32
    · rw [fieldsTo_grow h (by omega)]
      refine ⟨?_, fun j h1 h2 => by simp only at h1; omega⟩
      simp only
      split
      · rename_i h3
        intro x hx
        rcases List.mem_append.1 hx with hx | hx
        · exact ih1 x hx
        · rw [List.mem_singleton] at hx
          subst hx
          refine ⟨fun e => ?_, fun e => ?_, by rw [List.length_drop, List.length_take]; omega⟩
          · have := congrArg List.length e
            rw [List.length_drop, List.length_take, List.length_nil] at this
            omega
          · obtain ⟨j, hj⟩ := List.mem_iff_getElem?.1 e
            rw [List.getElem?_drop, List.getElem?_take] at hj
            split at hj
            · exact ih2 _ (by omega) (by omega) hj
            · cases hj
      · exact ih1
    · have h1 : k < s.length := by
        rcases Nat.lt_or_ge k s.length with h1 | h1
        · exact h1
        · exact absurd (fun h2 => by omega) h
      have h2 : ¬ s[k] = 32 := fun e => h (fun _ => by rw [List.getElem?_eq_getElem h1, e])
      rw [fieldsTo_other h1 h2]
      refine ⟨ih1, fun j h3 h4 => ?_⟩
      by_cases e : j = k
      · subst e
        rw [List.getElem?_eq_getElem h1]
        intro e2
        exact h2 (Option.some.inj e2)
      · exact ih2 j h3 (by omega)
theorem fieldsOf_in {s : List UInt8} (h : fieldsOk s = true) : (fieldsOf s).length ≤ 24 ∧ ∀ x ∈ fieldsOf s, x ≠ [] ∧ 32 ∉ x ∧ x.length ≤ 600 := by
  have h2 := h
  simp only [fieldsOk, Bool.and_eq_true, decide_eq_true_eq] at h2
  rw [fieldsOf, if_pos h]
  refine ⟨h2.2.2, fun x hx => ?_⟩
  have := (fields_in s (s.length + 1) (Nat.le_refl _)).1 x hx
  exact ⟨this.1, this.2.1, by omega⟩

def accR (w : List UInt8) (r : List (List UInt8)) : List UInt8 := w ++ (r.map (32 :: ·)).flatten
theorem accR_nil (w : List UInt8) : accR w [] = w := by simp [accR]
theorem accR_cons (w x : List UInt8) (r : List (List UInt8)) : accR w (x :: r) = w ++ 32 :: accR x r := by simp [accR]
theorem accR_snoc (w : List UInt8) (r : List (List UInt8)) (x : List UInt8) : accR w (r ++ [x]) = accR w r ++ [32] ++ x := by simp [accR]
theorem split_uniq : ∀ {a b x y : List UInt8}, 32 ∉ a → 32 ∉ b → a ++ 32 :: x = b ++ 32 :: y → a = b ∧ x = y
  | [], [], x, y, _, _, h => by simpa using h
  | [], c :: b, x, y, _, hb, h => by
    simp only [List.nil_append, List.cons_append, List.cons.injEq] at h
    exact absurd h.1 (fun e => hb (by simp [e]))
  | c :: a, [], x, y, ha, _, h => by
    simp only [List.nil_append, List.cons_append, List.cons.injEq] at h
    exact absurd h.1 (fun e => ha (by simp [e]))
  | c :: a, d :: b, x, y, ha, hb, h => by
    simp only [List.cons_append, List.cons.injEq] at h
    obtain ⟨e1, e2⟩ := split_uniq (a := a) (b := b) (fun q => ha (by simp [q])) (fun q => hb (by simp [q])) h.2
    exact ⟨by rw [h.1, e1], e2⟩
theorem accR_inj : ∀ {r r' : List (List UInt8)} {w w' : List UInt8}, 32 ∉ w → 32 ∉ w' → (∀ x ∈ r, 32 ∉ x) → (∀ x ∈ r', 32 ∉ x) → accR w r = accR w' r' → w = w' ∧ r = r'
  | [], [], w, w', _, _, _, _, h => by rw [accR_nil, accR_nil] at h; exact ⟨h, rfl⟩
  | [], y :: t', w, w', hw, _, _, _, h => by
    rw [accR_nil, accR_cons] at h
    exact absurd (show (32 : UInt8) ∈ w by rw [h]; simp) hw
  | x :: t, [], w, w', _, hw', _, _, h => by
    rw [accR_nil, accR_cons] at h
    exact absurd (show (32 : UInt8) ∈ w' by rw [← h]; simp) hw'
  | x :: t, y :: t', w, w', hw, hw', hr, hr', h => by
    rw [accR_cons, accR_cons] at h
    obtain ⟨e1, e2⟩ := split_uniq hw hw' h
    obtain ⟨e3, e4⟩ := accR_inj (hr x (by simp)) (hr' y (by simp)) (fun z hz => hr z (by simp [hz])) (fun z hz => hr' z (by simp [hz])) e2
    exact ⟨e1, by rw [e3, e4]⟩

theorem dig32 {s : List UInt8} (h : s.all isDig = true) : 32 ∉ s := by
  intro h2
  have := (List.all_eq_true.1 h) 32 h2
  simp [isDig] at this
theorem word32 (k : Int) : 32 ∉ actWord k := by
  unfold actWord
  split
  · decide
  · split
    · decide
    · split
      · decide
      · split
        · decide
        · split <;> decide
theorem word_inj {j k : Int} (j1 : 1 ≤ j) (j6 : j ≤ 6) (k1 : 1 ≤ k) (k6 : k ≤ 6) (h : actWord j = actWord k) : j = k := by
  obtain e | e | e | e | e | e : j = 1 ∨ j = 2 ∨ j = 3 ∨ j = 4 ∨ j = 5 ∨ j = 6 := by omega
  all_goals
    obtain e2 | e2 | e2 | e2 | e2 | e2 : k = 1 ∨ k = 2 ∨ k = 3 ∨ k = 4 ∨ k = 5 ∨ k = 6 := by omega
    all_goals
      subst e
      subst e2
      first | rfl | (simp [actWord] at h)
theorem itoa_nat {n : Int} (h : 0 ≤ n) : itoa n = decDigits n.toNat := by
  have e : ((n.toNat : Nat) : Int) = n := by omega
  rw [← itoa_pos, e]
theorem itoa32 {n : Int} (h : 0 ≤ n) : 32 ∉ itoa n := by rw [itoa_nat h]; exact dig32 (dec_dig _)
theorem uOk_itoa {n : Int} (h : 0 ≤ n) (h2 : n ≤ 1000000000) : uOk (itoa n) = true ∧ uNum (itoa n) = n := by
  have e : ((n.toNat : Nat) : Int) = n := by omega
  have hv : uval (itoa n) = n.toNat := by rw [itoa_nat h]; exact uval_decDigits _
  have ho : uOk (itoa n) = true := by
    simp only [uOk, Bool.and_eq_true, decide_eq_true_eq]
    refine ⟨?_, ?_, by omega, by rw [hv, e]⟩
    · rw [itoa_nat h]; exact dec_len 9 _ (by omega)
    · rw [itoa_nat h]; exact dec_dig _
  exact ⟨ho, by rw [uNum, if_pos ho, hv, e]⟩
theorem l40_uOk {s : List UInt8} (h : uOk s = true) : l40N s = uNum s := by
  unfold l40N
  rw [if_neg]
  rintro ⟨h1, h2⟩
  simp only [uOk, Bool.and_eq_true, decide_eq_true_eq] at h
  have := (List.all_eq_true.1 h.2.1) 45 (List.mem_of_getElem? h2)
  simp [isDig] at this
theorem uOk_back {s : List UInt8} (h : uOk s = true) : itoa (uNum s) = s := by
  have h2 := h
  simp only [uOk, Bool.and_eq_true, decide_eq_true_eq] at h2
  rw [uNum, if_pos h]
  exact h2.2.2.2

theorem actOk_zero {a : T3} (h : actOk a = true) : (actNums a.a ≠ 2 → a.c = 0) ∧ (actNums a.a = 0 → a.b = 0) := by
  unfold actOk at h
  unfold actNums
  split at h
  · rename_i e; rw [if_pos e]; exact ⟨fun h => absurd rfl h, fun h => by omega⟩
  · rename_i e; rw [if_neg e]
    split at h
    · rename_i e2
      rw [if_pos (.inl e2)]
      simp at h
      exact ⟨fun _ => h.2, fun h => by omega⟩
    · rename_i e2
      split at h
      · rename_i e3
        rw [if_pos (.inr e3)]
        simp at h
        exact ⟨fun _ => h.2, fun h => by omega⟩
      · split at h
        · simp at h
          exact ⟨fun _ => h.2, fun _ => h.1⟩
        · cases h
theorem nums_three (k : Int) : actNums k = 0 ∨ actNums k = 1 ∨ actNums k = 2 := by
  have := actNums_le k; omega
theorem toks_in {a : T3} (h : actOk a = true) {w : List UInt8} {r : List (List UInt8)} (e : toks a = w :: r) : w = actWord a.a ∧ r.length = actNums a.a ∧ (∀ x ∈ r, 32 ∉ x ∧ uOk x = true) ∧ fmtAct a = accR w r := by
  obtain ⟨k1, k6, ⟨b0, b1⟩, c0, c1⟩ := actOk_kind h
  have ub := uOk_itoa b0 (by omega)
  have uc := uOk_itoa c0 (by omega)
  have sb := itoa32 b0
  have sc := itoa32 c0
  rw [fmt_to h]
  obtain q | q | q := nums_three a.a
  all_goals
    simp [toks, q] at e
    obtain ⟨rfl, rfl⟩ := e
    simp [fmtTo, q, accR, ub, uc, sb, sc]
theorem toks_nums {a : T3} (h : actOk a = true) {w : List UInt8} {r : List (List UInt8)} (e : toks a = w :: r) (g : List UInt8 → Int) (hg : ∀ n, 0 ≤ n → n ≤ 100 → g (itoa n) = n) {n1 n2 : Int} {q : List Int} (hq : r.map g ++ [0, 0] = n1 :: n2 :: q) : a = ⟨a.a, n1, n2⟩ := by
  obtain ⟨k1, k6, ⟨b0, b1⟩, c0, c1⟩ := actOk_kind h
  obtain ⟨z1, z2⟩ := actOk_zero h
  have gb := hg a.b b0 b1
  have gc := hg a.c c0 c1
  obtain ⟨x, y, z⟩ := a
  simp only at *
  obtain t | t | t := nums_three x
  all_goals
    simp [toks, t] at e
    obtain ⟨rfl, rfl⟩ := e
    simp [t] at z1 z2
    simp [gb, gc] at hq
    obtain ⟨rfl, rfl, -⟩ := hq
    first | rfl | (simp [z1, z2])
theorem toks_inj {a b : T3} (ha : actOk a = true) (hb : actOk b = true) (e : toks a = toks b) : a = b := by
  obtain ⟨w, r, hw⟩ : ∃ w r, toks a = w :: r := ⟨_, _, rfl⟩
  have hw2 : toks b = w :: r := by rw [← e, hw]
  have i1 := toks_in ha hw
  have i2 := toks_in hb hw2
  obtain ⟨k1, k6, -⟩ := actOk_kind ha
  obtain ⟨j1, j6, -⟩ := actOk_kind hb
  have ek := word_inj k1 k6 j1 j6 (i1.1.symm.trans i2.1)
  obtain ⟨n1, n2, q, hq⟩ : ∃ n1 n2 q, r.map uNum ++ [0, 0] = n1 :: n2 :: q := by
    match r with
    | [] => exact ⟨0, 0, [], rfl⟩
    | [x] => exact ⟨uNum x, 0, [0], rfl⟩
    | x :: y :: t => exact ⟨uNum x, uNum y, t.map uNum ++ [0, 0], rfl⟩
  have hg : ∀ n, 0 ≤ n → n ≤ 100 → uNum (itoa n) = n := fun n h0 h1 => (uOk_itoa h0 (by omega)).2
  rw [toks_nums ha hw uNum hg hq, toks_nums hb hw2 uNum hg hq, ek]
theorem parse_fit {f : List (List UInt8)} {a : T3} (h : actOk a = true) (e : toks a = f) : parseV f = a ∧ parseB f = true := by
  have hf : fits f := ⟨a, h, e⟩
  refine ⟨?_, by simp [parseB, hf]⟩
  rw [parseV, dif_pos hf]
  have := hf.choose_spec
  exact toks_inj this.1 h (this.2.trans e.symm)
theorem parse_no {f : List (List UInt8)} (h : ¬ fits f) : parseV f = ⟨0, 0, 0⟩ ∧ parseB f = false := ⟨by rw [parseV, dif_neg h], by simp [parseB, h]⟩
theorem fits_nil : ¬ fits [] := by
  rintro ⟨a, -, e⟩
  simp [toks] at e
theorem toks_len (a : T3) : 1 ≤ (toks a).length ∧ (toks a).length ≤ 3 := by
  unfold toks
  split
  · simp
  · split <;> simp
end Go.Mw

namespace Go.Mw
open Go.Lib (decDigits itoa)
theorem pad_two (l : List Int) : ∃ n1 n2 q, l ++ [0, 0] = n1 :: n2 :: q := by
  match l with
  | [] => exact ⟨0, 0, [], rfl⟩
  | [x] => exact ⟨x, 0, [0], rfl⟩
  | x :: y :: t => exact ⟨x, y, t ++ [0, 0], rfl⟩
theorem accR_len {w : List UInt8} {r : List (List UInt8)} (hw : w.length ≤ 600) (hr : ∀ x ∈ r, x.length ≤ 600) : (accR w r).length ≤ 600 + 601 * r.length := by
  revert w
  induction r with
  | nil => intro w hw; rw [accR_nil]; simp; omega
  | cons x t ih =>
    intro w hw
    have := ih (fun y hy => hr y (by simp [hy])) (hr x (by simp))
    rw [accR_cons, List.length_append, List.length_cons, List.length_cons]
    omega
theorem spec_ParseAct_ok : ∀ ds outs, F_ParseAct ds = some outs → shL spec_ParseAct_L (qRet outs) ds := F_ParseAct_elim fun s hp => by
  rw [spec_ParseAct_L_sh, p_SplitFields hp]
  simp only [P1_not, ifB_bool, Bool.not_eq_true', Bool.not_eq_false', qRet_ret]
  refine ⟨fun h => ?_, fun h => ?_⟩
  · rw [fieldsOf_no h]
    obtain ⟨e1, e2⟩ := parse_no fits_nil
    rw [e1, e2]
  obtain ⟨hn, hf⟩ := fieldsOf_in h
  generalize fieldsOf s = f at *
  simp only [P1_len, p_within, P1_not, ifB_bool, Bool.not_eq_true', Bool.not_eq_false']
  refine ⟨fun h2 => ?_, fun h2 => ?_⟩
  · have hno : ¬ fits f := by
      rintro ⟨a, -, rfl⟩
      have := toks_len a
      simp [within] at h2
      omega
    obtain ⟨e1, e2⟩ := parse_no hno
    rw [e1, e2]
  have h3 : 1 ≤ f.length ∧ f.length ≤ 3 := by
    simp [within] at h2; omega
  obtain ⟨w, r, rfl⟩ : ∃ w r, f = w :: r := by
    cases f with
    | nil => simp at h3
    | cons w r => exact ⟨w, r, rfl⟩
  have hw := hf w (by simp)
  have hr : ∀ x ∈ r, x ≠ [] ∧ 32 ∉ x ∧ x.length ≤ 600 := fun x hx => hf x (by simp [hx])
  have hrl : r.length ≤ 2 := by simp at h3; omega
  simp only [P1_idxS, Int.toNat_zero, List.getElem?_cons_zero, Option.some.injEq, exists_eq_left', P1_lst0]
  refine ⟨by omega, ?_⟩
  refine loop_upto r.length (fun k => [.str (accR w (r.take k)), .int .i64 ((k : Int) + 1), vL I1 vS (w :: r), vL I1 v1 ((r.take k).map l40N), .int .i64 0, .int .i64 0, .int .i64 0]) (fun i j _ _ e => by simp at e; omega) (fun _ => True) (by simp [accR]) trivial ?_
  intro k hk _
  rw [spec_ParseAct_b0_sh]
  simp only [P1_len, P1_lss, ifB_bool, decide_eq_true_eq, decide_eq_false_iff_not, List.length_cons]
  have hal := accR_len (w := w) (r := r.take k) hw.2.2 (fun x hx => (hr x (List.mem_of_mem_take hx)).2.2)
  rw [List.length_take] at hal
  refine ⟨fun h4 => ?_, fun h4 => ?_⟩
  · have h5 : k < r.length := by omega
    have et : ((k : Int) + 1).toNat = k + 1 := by omega
    have hx := hr r[k] (List.getElem_mem h5)
    have w5 : IntKind.i64.wrap ((k : Int) + 1 + 1) = ((k + 1 : Nat) : Int) + 1 := by rw [wrap_id (by omega) (by omega)]; omega
    simp only [P1_addS, P1_idxS, et, List.getElem?_cons_succ, List.getElem?_eq_getElem h5, Option.some.injEq, exists_eq_left', List.length_append, List.length_singleton]
    refine ⟨by omega, by omega, by omega, by omega, ?_⟩
    rw [p_l40Number (by omega)]
    simp only [P1_lst1, P1_appI_, List.length_map, List.length_take, List.length_singleton, P1_add, w5, qS_normal]
    refine ⟨by omega, h5, ?_, trivial⟩
    rw [take_succ_get h5, accR_snoc, List.map_append]
    rfl
  · have e : k = r.length := by omega
    subst e
    obtain ⟨n1, n2, q, hq⟩ := pad_two (r.map l40N)
    simp only [qS_exit, qB_exit, if_true, qS_normal, spec_ParseAct_r1_sh, P1_lstI2, P1_appI_, List.length_map, List.take_length, List.length_cons, List.length_nil, hq]
    refine ⟨by omega, ?_⟩
    have hg : ∀ n, 0 ≤ n → n ≤ 100 → l40N (itoa n) = n := fun n h0 h1 => by
      have := uOk_itoa h0 (show n ≤ 1000000000 by omega)
      rw [l40_uOk this.1, this.2]
    refine loop_upto 6 (fun i => [.str (accR w r), .int .i64 ((i : Int) + 1), vL I1 v1 (n1 :: n2 :: q), .int .i64 0, .int .i64 0, .int .i64 0]) (fun i j _ _ e => by simp at e; omega) (fun i => ∀ k : Int, 1 ≤ k → k ≤ i → ¬ (actOk ⟨k, n1, n2⟩ = true ∧ fmtAct ⟨k, n1, n2⟩ = accR w r)) (by simp) (fun k h0 h1 => by omega) ?_
    intro i hi hP
    rw [spec_ParseAct_b2_sh]
    have w5 : IntKind.i64.wrap ((i : Int) + 1 + 1) = ((i + 1 : Nat) : Int) + 1 := by rw [wrap_id (by omega) (by omega)]; omega
    simp only [P1_leq, ifB_bool, decide_eq_true_eq, decide_eq_false_iff_not]
    refine ⟨fun h5 => ?_, fun h5 => ?_⟩
    · simp only [P1_idxI, Int.toNat_zero, Int.toNat_one, List.getElem?_cons_zero, List.getElem?_cons_succ, Option.some.injEq, exists_eq_left', p_FormatAct, ifB_bool, P1_eqlS, beq_iff_eq, beq_eq_false_iff_ne, ne_eq, P1_add, w5, qS_normal]
      have hstep : ¬ (actOk ⟨(i : Int) + 1, n1, n2⟩ = true ∧ fmtAct ⟨(i : Int) + 1, n1, n2⟩ = accR w r) → ∀ k : Int, 1 ≤ k → k ≤ ((i + 1 : Nat) : Int) → ¬ (actOk ⟨k, n1, n2⟩ = true ∧ fmtAct ⟨k, n1, n2⟩ = accR w r) := by
        intro hno k h0 h1
        by_cases e : k = (i : Int) + 1
        · subst e; exact hno
        · exact hP k h0 (by omega)
      refine ⟨by omega, by omega, fun h6 => ⟨fun h7 => ?_, fun h7 => ?_⟩, fun h6 => ?_⟩
      · obtain ⟨w', r', hw'⟩ : ∃ w' r', toks ⟨(i : Int) + 1, n1, n2⟩ = w' :: r' := ⟨_, _, rfl⟩
        obtain ⟨t1, t2, t3, t4⟩ := toks_in h6 hw'
        obtain ⟨u1, u2⟩ := accR_inj (by rw [t1]; exact word32 _) hw.2.1 (fun x hx => (t3 x hx).1) (fun x hx => (hr x hx).2.1) (t4.symm.trans h7)
        obtain ⟨e1, e2⟩ := parse_fit (f := w :: r) h6 (by rw [hw', u1, u2])
        rw [e1, e2]
        simp
      · exact ⟨by omega, trivial, hstep (fun h8 => h7 h8.2)⟩
      · exact ⟨by omega, trivial, hstep (fun h8 => by rw [h6] at h8; exact absurd h8.1 (by simp))⟩
    · have e : i = 6 := by omega
      subst e
      have hno : ¬ fits (w :: r) := by
        rintro ⟨a, h6, h7⟩
        obtain ⟨k1, k6, -⟩ := actOk_kind h6
        have h8 := toks_nums h6 h7 l40N hg hq
        refine hP a.a k1 (by omega) ⟨by rw [← h8]; exact h6, by rw [← h8]; exact (toks_in h6 h7).2.2.2⟩
      obtain ⟨e1, e2⟩ := parse_no hno
      simp only [qS_exit, qB_exit, if_true, qS_normal, spec_ParseAct_r3_sh, qRet_ret, e1, e2]
theorem impl_ParseAct_ok : ∀ ds outs, F_ParseAct ds = some outs → shL impl_ParseAct_L (qRet outs) ds := F_ParseAct_elim fun s hp => by
  rw [impl_ParseAct_L_sh, p_SplitFields hp]
  simp only [P1_not, ifB_bool, Bool.not_eq_true', Bool.not_eq_false', qRet_ret]
  refine ⟨fun h => ?_, fun h => ?_⟩
  · rw [fieldsOf_no h]
    obtain ⟨e1, e2⟩ := parse_no fits_nil
    rw [e1, e2]
  obtain ⟨hn, hf⟩ := fieldsOf_in h
  generalize fieldsOf s = f at *
  simp only [P1_len, P1_eql, ifB_bool, beq_iff_eq, beq_eq_false_iff_ne, ne_eq]
  refine ⟨fun h2 => ?_, fun h2 => ?_⟩
  · obtain rfl : f = [] := List.length_eq_zero_iff.1 (by omega)
    obtain ⟨e1, e2⟩ := parse_no fits_nil
    rw [e1, e2]
  obtain ⟨w, r, rfl⟩ : ∃ w r, f = w :: r := by
    cases f with
    | nil => simp at h2
    | cons w r => exact ⟨w, r, rfl⟩
  have hr : ∀ x ∈ r, x ≠ [] ∧ 32 ∉ x ∧ x.length ≤ 600 := fun x hx => hf x (by simp [hx])
  have hrl : r.length ≤ 24 := by simp at hn; omega
  simp only [P1_lst0, P1_lsubS_1, Int.toNat_one, List.drop_succ_cons, List.drop_zero, P1_len, List.length_cons]
  refine ⟨by omega, ?_⟩
  refine loop_upto r.length (fun k => [vL I1 vS r, .int .i64 r.length, .int .i64 k, vL I1 vS (w :: r), vL I1 v1 ((r.take k).map uNum), .int .i64 0, .int .i64 0, .int .i64 0]) (fun i j _ _ e => by simp at e; omega) (fun k => ∀ x ∈ r.take k, uOk x = true) (by simp) (by simp) ?_
  intro k hk ha
  rw [impl_ParseAct_b0_sh]
  simp only [P1_lss, ifB_bool, decide_eq_true_eq, decide_eq_false_iff_not]
  refine ⟨fun h4 => ?_, fun h4 => ?_⟩
  · have h5 : k < r.length := by omega
    have hx := hr r[k] (List.getElem_mem h5)
    have w5 : IntKind.i64.wrap ((k : Int) + 1) = ((k + 1 : Nat) : Int) := by rw [wrap_id (by omega) (by omega)]; omega
    simp only [P1_idxS, Int.toNat_natCast, List.getElem?_eq_getElem h5, Option.some.injEq, exists_eq_left']
    refine ⟨by omega, ?_⟩
    rw [p_ParseUint (by omega)]
    simp only [P1_not, ifB_bool, Bool.not_eq_true', Bool.not_eq_false', P1_lst1, P1_appI_, List.length_map, List.length_take, List.length_singleton, P1_add, w5, qS_normal]
    refine ⟨fun h6 => ?_, fun h6 => ⟨by omega, h5, ?_, ?_⟩⟩
    · have hno : ¬ fits (w :: r) := by
        rintro ⟨a, h7, h8⟩
        have := ((toks_in h7 h8).2.2.1 _ (List.getElem_mem h5)).2
        rw [h6] at this
        cases this
      obtain ⟨e1, e2⟩ := parse_no hno
      rw [e1, e2]
      simp
    · rw [take_succ_get h5, List.map_append]
      rfl
    · rw [all_take_succ h5]
      exact ⟨ha, h6⟩
  · have e : k = r.length := by omega
    subst e
    rw [List.take_length] at ha
    obtain ⟨n1, n2, q, hq⟩ := pad_two (r.map uNum)
    have hg : ∀ n, 0 ≤ n → n ≤ 100 → uNum (itoa n) = n := fun n h0 h1 => (uOk_itoa h0 (by omega)).2
    simp only [qS_exit, qB_exit, if_true, qS_normal, impl_ParseAct_r1_sh, List.take_length]
    refine loop_upto 6 (fun i => [.int .i64 ((i : Int) + 1), vL I1 vS (w :: r), vL I1 v1 (r.map uNum), .int .i64 0, .int .i64 0, .int .i64 0]) (fun i j _ _ e => by simp at e; omega) (fun i => ∀ k : Int, 1 ≤ k → k ≤ i → ¬ (w = actWord k ∧ r.length = actNums k)) (by simp) (fun k h0 h1 => by omega) ?_
    intro i hi hP
    rw [impl_ParseAct_b2_sh]
    have w5 : IntKind.i64.wrap ((i : Int) + 1 + 1) = ((i + 1 : Nat) : Int) + 1 := by rw [wrap_id (by omega) (by omega)]; omega
    simp only [P1_leq, ifB_bool, decide_eq_true_eq, decide_eq_false_iff_not]
    refine ⟨fun h5 => ?_, fun h5 => ?_⟩
    · have hstep : ¬ (w = actWord ((i : Int) + 1) ∧ r.length = actNums ((i : Int) + 1)) → ∀ k : Int, 1 ≤ k → k ≤ ((i + 1 : Nat) : Int) → ¬ (w = actWord k ∧ r.length = actNums k) := by
        intro hno k h0 h1
        by_cases e : k = (i : Int) + 1
        · subst e; exact hno
        · exact hP k h0 (by omega)
      simp only [P1_idxS, Int.toNat_zero, List.getElem?_cons_zero, Option.some.injEq, exists_eq_left', p_actWord, P1_neqS, ifB_bool, Bool.not_eq_true', Bool.not_eq_false', beq_iff_eq, beq_eq_false_iff_ne, ne_eq, P1_add, w5, qS_normal, P1_len, List.length_map, p_actNumbers, P1_neq, bne_iff_ne, bne_eq_false_iff_eq]
      refine ⟨by omega, fun h6 => ⟨by omega, trivial, hstep (fun h7 => h6 h7.1)⟩, fun h6 => ⟨fun h7 => ⟨by omega, trivial, hstep (fun h8 => h7 (by rw [h8.2]))⟩, fun h7 => ?_⟩⟩
      have h8 : r.length = actNums ((i : Int) + 1) := by omega
      simp only [P1_lstI2, P1_appI_, List.length_map, List.length_cons, List.length_nil, hq, P1_idxI, Int.toNat_zero, Int.toNat_one, List.getElem?_cons_zero, List.getElem?_cons_succ, Option.some.injEq, exists_eq_left', p_ActOk, P1_not, ifB_bool, Bool.not_eq_true', Bool.not_eq_false']
      refine ⟨by omega, by omega, by omega, fun h9 => ?_, fun h9 => ?_⟩
      · have hno : ¬ fits (w :: r) := by
          rintro ⟨a, m1, m2⟩
          obtain ⟨k1, k6, -⟩ := actOk_kind m1
          have m3 := toks_nums m1 m2 uNum hg hq
          have m4 := word_inj k1 k6 (show (1 : Int) ≤ (i : Int) + 1 by omega) (by omega) ((toks_in m1 m2).1.symm.trans h6)
          rw [m3, m4, h9] at m1
          cases m1
        obtain ⟨e1, e2⟩ := parse_no hno
        rw [e1, e2]
        simp
      · have m5 : toks ⟨(i : Int) + 1, n1, n2⟩ = w :: r := by
          have hb : ∀ x ∈ r, itoa (uNum x) = x := fun x hx => uOk_back (ha x hx)
          unfold toks
          simp only
          rw [← h6, ← h8]
          match r, hq, hb with
          | [], _, _ => simp
          | [x], hq, hb =>
            simp at hq
            have := hb x (by simp)
            simp [← hq.1, this]
          | [x, y], hq, hb =>
            simp at hq
            have e3 := hb x (by simp)
            have e4 := hb y (by simp)
            simp [← hq.1, ← hq.2.1, e3, e4]
          | x :: y :: z :: t, _, _ =>
            have := actNums_le ((i : Int) + 1)
            simp at h8
            omega
        obtain ⟨e1, e2⟩ := parse_fit (f := w :: r) h9 m5
        rw [e1, e2]
        simp
    · have e : i = 6 := by omega
      subst e
      have hno : ¬ fits (w :: r) := by
        rintro ⟨a, h6, h7⟩
        obtain ⟨k1, k6, -⟩ := actOk_kind h6
        obtain ⟨t1, t2, -⟩ := toks_in h6 h7
        exact hP a.a k1 (by omega) ⟨t1, t2⟩
      obtain ⟨e1, e2⟩ := parse_no hno
      simp only [qS_exit, qB_exit, if_true, qS_normal, impl_ParseAct_r3_sh, qRet_ret, e1, e2]
end Go.Mw

namespace Go.Mw
open Go.Lib (decDigits itoa)
end Go.Mw

namespace Go.Mw
def cutNl : List UInt8 → List (List UInt8)
  | [] => [[]]
  | b :: r => if b = 10 then [] :: cutNl r else match cutNl r with
    | h :: t => (b :: h) :: t
    | [] => [[b]]
def blankL (s : List UInt8) : Bool := fieldsOk s && (fieldsOf s).isEmpty
noncomputable def lineStep (acc : Option (List T3)) (s : List UInt8) : Option (List T3) := match acc with
  | none => none
  | some a => if blankL s then some a else if parseB (fieldsOf s) then some (a ++ [parseV (fieldsOf s)]) else none
noncomputable def scriptOf (l : List (List UInt8)) : Option (List T3) := l.foldl lineStep (some [])
def nums (l : List Int) : List (List UInt8) := l.map Go.Lib.itoa
noncomputable def scriptActs (s : List UInt8) : Option (List T3) := if s.length ≤ 20000 then (match scriptOf (cutNl s) with
  | some a => if a.length ≤ 40 then some a else none
  | none => none) else none
def linesOf (a : List T3) : List (List UInt8) := nums (runN' (openShop 16 [12, 12, 16, 19] 40) a) ++ fmtShop (runW (openShop 16 [12, 12, 16, 19] 40) a)
noncomputable def scriptL (s : List UInt8) : List (List UInt8) := match scriptActs s with
  | some a => linesOf a
  | none => []
noncomputable def scriptB (s : List UInt8) : Bool := (scriptActs s).isSome
def E_RunScript (s : List UInt8) : List V := [.str s]
noncomputable def F_RunScript : List V → Option (List V) := mkF E_RunScript (fun s => s.length ≤ 1048576) (fun s => [vL I1 vS (scriptL s), .bool (scriptB s)])
theorem F_RunScript_inj : ∀ x y, E_RunScript x = E_RunScript y → x = y := by
  rintro s s' h
  simpa [E_RunScript] using h
theorem F_RunScript_elim {P : List V → List V → Prop} (h : ∀ (s : List UInt8), (s.length ≤ 1048576) → P [.str s] [vL I1 vS (scriptL s), .bool (scriptB s)]) : ∀ ds outs, F_RunScript ds = some outs → P ds outs := by
  intro ds outs hh
  obtain ⟨s, rfl, hp, rfl⟩ := mkF_inv hh
  exact h s hp
theorem p_RunScript {s : List UInt8} {nr_ : Nat} {kk_ : V → V → Prop} (hp : s.length ≤ 1048576) : P2 (.call F_RunScript 0 nr_) [.str s] kk_ ↔ kk_ (vL I1 vS (scriptL s)) (.bool (scriptB s)) :=
  P2_callF (by unfold F_RunScript; exact mkF_eq F_RunScript_inj (s) hp)

def E_FnExactRunScript (s : List UInt8) : List V := [.str s]
noncomputable def F_FnExactRunScript : List V → Option (List V) := mkF E_FnExactRunScript (fun s => wfS s) (fun _ => [.bool true])
theorem F_FnExactRunScript_inj : ∀ x y, E_FnExactRunScript x = E_FnExactRunScript y → x = y := by
  rintro s s' h
  simpa [E_FnExactRunScript] using h
theorem F_FnExactRunScript_elim {P : List V → List V → Prop} (h : ∀ (s : List UInt8), (wfS s) → P [.str s] [.bool true]) : ∀ ds outs, F_FnExactRunScript ds = some outs → P ds outs := by
  intro ds outs hh
  obtain ⟨s, rfl, hp, rfl⟩ := mkF_inv hh
  exact h s hp
theorem F_FnExactRunScript_law : ∀ ds, okTKs [.str] ds → F_FnExactRunScript ds = some [.bool true] := by
  intro ds g0
  obtain ⟨_, _, rfl, h0, g1⟩ := okTKs_cons g0
  obtain ⟨s, rfl, r0⟩ := dec_S h0
  obtain rfl := okTKs_nil g1
  exact mkF_eq F_FnExactRunScript_inj (s) r0

end Go.Mw

namespace Go.Mw
noncomputable section
def impl_RunScript_b0 : L := .seq (.seq (.rg [zb .lss 1 0]) (.seq (.ite (.v 4) (.skip) (.seq (zt [2]) (.exit 0))) (.seq (.block 1 (.seq (.seq (.rg [zi 3 1]) (.seq (.rg [zc F_SplitFields 2 [5]]) (.seq (.seq (.rg [⟨[(.v 7, true)], .len, [.v 6], 1⟩, ⟨[(.v 7, true)], .bin .eql, [.v 8, .k (.int .i64 0)], 1⟩, ⟨[], .pick, [.v 7, .v 9, .k (.bool false)], 1⟩]) (.ite (.v 10) (.seq (zt [0, 1, 2, 3]) (.exit 1)) (.skip))) (.seq (.rg [zc F_ParseAct 4 [5]]) (.seq (.seq (.rg [zn 14]) (.ite (.v 15) (.seq (.rg []) (.ret [.k (.list [.sc] []), .k (.bool false)])) (.skip))) (.rg [⟨[], .lst [.sc, .sc, .sc] true 1, [.v 11, .v 12, .v 13], 1⟩, ⟨[], .app [.sc, .sc, .sc] 24, [.v 2, .v 16], 1⟩])))))) (zt [0, 1, 17, 3]))) (.rg [zk .add 1 1])))) (zt [0, 4, 2, 3])
theorem impl_RunScript_b0_sh (Q : QT) (x0 x1 x2 x3 : V) : shL impl_RunScript_b0 Q [x0, x1, x2, x3] = (
  P1 (.bin .lss) [x1, x0] fun v0 =>
  ifB v0 (
    P1 (.idx [.sc]) [x3, x1] fun v1 =>
    P2 (.call F_SplitFields 0 2) [v1] fun v2 v3 =>
    ifB v3 (
      P1 (.len) [v2] fun v4 =>
      P1 (.bin .eql) [v4, .int .i64 0] fun v5 =>
      ifB v5 (
        P1 (.bin .add) [x1, .int .i64 1] fun v6 =>
        Q .normal [x0, v6, x2, x3]) (
        P4 (.call F_ParseAct 0 4) [v1] fun v7 v8 v9 v10 =>
        P1 (.un .not) [v10] fun v11 =>
        ifB v11 (
          Q .ret [.list [.sc] [], .bool false]) (
          P1 (.lst [.sc, .sc, .sc] true 1) [v7, v8, v9] fun v12 =>
          P1 (.app [.sc, .sc, .sc] 24) [x2, v12] fun v13 =>
          P1 (.bin .add) [x1, .int .i64 1] fun v14 =>
          Q .normal [x0, v14, v13, x3]))) (
      P4 (.call F_ParseAct 0 4) [v1] fun v15 v16 v17 v18 =>
      P1 (.un .not) [v18] fun v19 =>
      ifB v19 (
        Q .ret [.list [.sc] [], .bool false]) (
        P1 (.lst [.sc, .sc, .sc] true 1) [v15, v16, v17] fun v20 =>
        P1 (.app [.sc, .sc, .sc] 24) [x2, v20] fun v21 =>
        P1 (.bin .add) [x1, .int .i64 1] fun v22 =>
        Q .normal [x0, v22, v21, x3]))) (
    Q (.exit 0) [x2])) := by kernel_rfl

def impl_RunScript_b2 : L := .seq (.seq (.rg [zb .lss 1 0]) (.seq (.ite (.v 14) (.skip) (.seq (zt [2, 4, 5, 6, 7, 8, 9, 10, 11, 12, 13]) (.exit 2))) (.seq (.block 3 (.seq (.seq (.rg [zi 3 1]) (.rg [zc F_FormatInt 1 [15], ⟨[], .lst [.sc] false 1, [.v 16], 1⟩, ⟨[], .app [.sc] 16, [.v 2, .v 17], 1⟩])) (zt [0, 1, 18, 3, 4, 5, 6, 7, 8, 9, 10, 11, 12, 13]))) (.rg [zk .add 1 1])))) (zt [0, 14, 2, 3, 4, 5, 6, 7, 8, 9, 10, 11, 12, 13])
theorem impl_RunScript_b2_sh (Q : QT) (x0 x1 x2 x3 x4 x5 x6 x7 x8 x9 x10 x11 x12 x13 : V) : shL impl_RunScript_b2 Q [x0, x1, x2, x3, x4, x5, x6, x7, x8, x9, x10, x11, x12, x13] = (
  P1 (.bin .lss) [x1, x0] fun v0 =>
  ifB v0 (
    P1 (.idx [.sc]) [x3, x1] fun v1 =>
    P1 (.call F_FormatInt 0 1) [v1] fun v2 =>
    P1 (.lst [.sc] false 1) [v2] fun v3 =>
    P1 (.app [.sc] 16) [x2, v3] fun v4 =>
    P1 (.bin .add) [x1, .int .i64 1] fun v5 =>
    Q .normal [x0, v5, v4, x3, x4, x5, x6, x7, x8, x9, x10, x11, x12, x13]) (
    Q (.exit 2) [x2, x4, x5, x6, x7, x8, x9, x10, x11, x12, x13])) := by kernel_rfl

def impl_RunScript_r3 : L := .seq (.rg [zc F_FormatWorkshop 1 [4, 5, 1, 2, 3, 6, 7, 8, 9, 10], ⟨[], .app [.sc] 16, [.v 0, .v 11], 1⟩]) (.ret [.v 12, .k (.bool true)])
theorem impl_RunScript_r3_sh (Q : QT) (x0 x1 x2 x3 x4 x5 x6 x7 x8 x9 x10 : V) : shL impl_RunScript_r3 Q [x0, x1, x2, x3, x4, x5, x6, x7, x8, x9, x10] = (
  P1 (.call F_FormatWorkshop 0 1) [x4, x5, x1, x2, x3, x6, x7, x8, x9, x10] fun v0 =>
  P1 (.app [.sc] 16) [x0, v0] fun v1 =>
  Q .ret [v1, .bool true]) := by kernel_rfl

def impl_RunScript_r1 : L := .seq (.seq (.rg [zl 0, zk .gtr 1 40]) (.ite (.v 2) (.seq (.rg []) (.ret [.k (.list [.sc] []), .k (.bool false)])) (.skip))) (.seq (.rg [⟨[], .call F_SampleWorkshop 0 10, [], 10⟩, zc F_RunActs 11 [3, 4, 5, 6, 7, 8, 9, 10, 11, 12, 0]]) (.seq (.rg [⟨[], .lst [.sc] false 0, [], 1⟩]) (.seq (.seq (.rg [zl 23]) (.block 2 (.seq (.tup [.v 25, .k (.int .i64 0), .v 24, .v 23, .v 15, .v 16, .v 17, .v 13, .v 14, .v 18, .v 19, .v 20, .v 21, .v 22]) (.loop (impl_RunScript_b2))))) (impl_RunScript_r3))))
theorem impl_RunScript_r1_sh (Q : QT) (x0 : V) : shL impl_RunScript_r1 Q [x0] = (
  P1 (.len) [x0] fun v0 =>
  P1 (.bin .gtr) [v0, .int .i64 40] fun v1 =>
  ifB v1 (
    Q .ret [.list [.sc] [], .bool false]) (
    P10 (.call F_SampleWorkshop 0 10) [] fun v2 v3 v4 v5 v6 v7 v8 v9 v10 v11 =>
    P11 (.call F_RunActs 0 11) [v2, v3, v4, v5, v6, v7, v8, v9, v10, v11, x0] fun v12 v13 v14 v15 v16 v17 v18 v19 v20 v21 v22 =>
    P1 (.lst [.sc] false 0) [] fun v23 =>
    P1 (.len) [v22] fun v24 =>
    shL (.loop impl_RunScript_b2) (qB 2 (qS (shL impl_RunScript_r3 Q) Q)) [v24, .int .i64 0, v23, v22, v14, v15, v16, v12, v13, v17, v18, v19, v20, v21])) := by kernel_rfl

def impl_RunScript_L : L := .seq (.rg []) (.seq (.seq (.rg [⟨[], .slen, [.v 0], 1⟩, zk .gtr 1 20000]) (.ite (.v 2) (.seq (.rg []) (.ret [.k (.list [.sc] []), .k (.bool false)])) (.skip))) (.seq (.rg [⟨[], .lst [.sc, .sc, .sc] true 0, [], 1⟩]) (.seq (.seq (.rg [⟨[], .call F_strings_Split 0 1, [.v 0, .k (.str [10])], 1⟩, zl 4]) (.block 0 (.seq (.tup [.v 5, .k (.int .i64 0), .v 3, .v 4]) (.loop (impl_RunScript_b0))))) (impl_RunScript_r1))))
theorem impl_RunScript_L_sh (Q : QT) (x0 : V) : shL impl_RunScript_L Q [x0] = (
  P1 (.slen) [x0] fun v0 =>
  P1 (.bin .gtr) [v0, .int .i64 20000] fun v1 =>
  ifB v1 (
    Q .ret [.list [.sc] [], .bool false]) (
    P1 (.lst [.sc, .sc, .sc] true 0) [] fun v2 =>
    P1 (.call F_strings_Split 0 1) [x0, .str [10]] fun v3 =>
    P1 (.len) [v3] fun v4 =>
    shL (.loop impl_RunScript_b0) (qB 0 (qS (shL impl_RunScript_r1 Q) Q)) [v4, .int .i64 0, v2, v3])) := by kernel_rfl
def impl_RunScript_S : Sig := ⟨[.val false [.sc]], [(false, [.sl [.sc]]), (false, [.sc])], F_RunScript⟩
def impl_RunScript_hs : List NF := [⟨[(4, zo 64)], [(64, true, [.sc, .sc, .sc])], [], 65⟩, ⟨[(4, zo 64), (20, zo 65), (21, zs), (22, zs)], [(64, true, [.sc, .sc, .sc]), (65, true, [.sc])], [], 66⟩, ⟨[(4, zo 64), (20, zo 65), (21, zs), (22, zs)], [(64, true, [.sc, .sc, .sc]), (65, true, [.sc])], [], 66⟩, ⟨[(10, .ptr 64 0), (12, zo 65)], [(65, true, [.sc]), (66, true, [.sc, .sc]), (67, true, [.sl [.sc, .sc]]), (68, true, [.sc])], [(64, [.sc, .sc, .own 66, .own 67, .own 68, .sc, .sc, .sc, .sc, .sc])], 69⟩, ⟨[(10, .ptr 64 0), (12, zo 65), (59, zo 66), (60, zs), (61, zs)], [(65, true, [.sc]), (66, true, [.sc]), (67, true, [.sc, .sc]), (68, true, [.sl [.sc, .sc]]), (69, true, [.sc])], [(64, [.sc, .sc, .own 67, .own 68, .own 69, .sc, .sc, .sc, .sc, .sc])], 70⟩, ⟨[(10, .ptr 64 0), (12, zo 65), (59, zo 66), (60, zs), (61, zs)], [(65, true, [.sc]), (66, true, [.sc]), (67, true, [.sc, .sc]), (68, true, [.sl [.sc, .sc]]), (69, true, [.sc])], [(64, [.sc, .sc, .own 67, .own 68, .own 69, .sc, .sc, .sc, .sc, .sc])], 70⟩]

def spec_RunScript_r1 : L := .seq (.rg [⟨[], .ssub, [.v 0, .v 1, .v 2], 1⟩]) (.seq (.rg [zk .add 2 1]) (.seq (.rg [zc F_SplitFields 2 [12]]) (.seq (.seq (.rg [⟨[(.v 15, true)], .len, [.v 14], 1⟩, ⟨[(.v 15, true)], .bin .eql, [.v 16, .k (.int .i64 0)], 1⟩, ⟨[], .pick, [.v 15, .v 17, .k (.bool false)], 1⟩]) (.ite (.v 18) (.seq (zt [0, 13, 2, 3, 4]) (.exit 1)) (.skip))) (.seq (.rg [zc F_ParseAct 4 [12]]) (.seq (.seq (.rg [zn 22]) (.ite (.v 23) (.seq (.rg []) (.ret [.v 3, .k (.bool false)])) (.skip))) (.rg [⟨[], .lst [.sc, .sc, .sc] true 1, [.v 19, .v 20, .v 21], 1⟩, ⟨[], .app [.sc, .sc, .sc] 24, [.v 4, .v 24], 1⟩]))))))
theorem spec_RunScript_r1_sh (Q : QT) (x0 x1 x2 x3 x4 x5 x6 x7 x8 x9 x10 x11 : V) : shL spec_RunScript_r1 Q [x0, x1, x2, x3, x4, x5, x6, x7, x8, x9, x10, x11] = (
  P1 (.ssub) [x0, x1, x2] fun v0 =>
  P1 (.bin .add) [x2, .int .i64 1] fun v1 =>
  P2 (.call F_SplitFields 0 2) [v0] fun v2 v3 =>
  ifB v3 (
    P1 (.len) [v2] fun v4 =>
    P1 (.bin .eql) [v4, .int .i64 0] fun v5 =>
    ifB v5 (
      Q (.exit 1) [x0, v1, x2, x3, x4]) (
      P4 (.call F_ParseAct 0 4) [v0] fun v6 v7 v8 v9 =>
      P1 (.un .not) [v9] fun v10 =>
      ifB v10 (
        Q .ret [x3, .bool false]) (
        P1 (.lst [.sc, .sc, .sc] true 1) [v6, v7, v8] fun v11 =>
        P1 (.app [.sc, .sc, .sc] 24) [x4, v11] fun v12 =>
        Q .normal [x0, x1, x2, x3, x4, x5, x6, x7, x8, x9, x10, x11, v0, v1, v2, .bool true, v4, v5, .bool false, v6, v7, v8, v9, .bool false, v11, v12]))) (
    P4 (.call F_ParseAct 0 4) [v0] fun v13 v14 v15 v16 =>
    P1 (.un .not) [v16] fun v17 =>
    ifB v17 (
      Q .ret [x3, .bool false]) (
      P1 (.lst [.sc, .sc, .sc] true 1) [v13, v14, v15] fun v18 =>
      P1 (.app [.sc, .sc, .sc] 24) [x4, v18] fun v19 =>
      Q .normal [x0, x1, x2, x3, x4, x5, x6, x7, x8, x9, x10, x11, v0, v1, v2, .bool false, .list [] [], .list [] [], .bool false, v13, v14, v15, v16, .bool false, v18, v19]))) := by kernel_rfl

def spec_RunScript_r2 : L := zt [0, 13, 2, 3, 25]
theorem spec_RunScript_r2_sh (Q : QT) (x0 x1 x2 x3 x4 x5 x6 x7 x8 x9 x10 x11 x12 x13 x14 x15 x16 x17 x18 x19 x20 x21 x22 x23 x24 x25 : V) : shL spec_RunScript_r2 Q [x0, x1, x2, x3, x4, x5, x6, x7, x8, x9, x10, x11, x12, x13, x14, x15, x16, x17, x18, x19, x20, x21, x22, x23, x24, x25] = (
  Q .normal [x0, x13, x2, x3, x25]) := by kernel_rfl

def spec_RunScript_r3 : L := .rg [zk .add 2 1]
theorem spec_RunScript_r3_sh (Q : QT) (x0 x1 x2 x3 x4 : V) : shL spec_RunScript_r3 Q [x0, x1, x2, x3, x4] = (
  P1 (.bin .add) [x2, .int .i64 1] fun v0 =>
  Q .normal [x0, x1, x2, x3, x4, v0]) := by kernel_rfl

def spec_RunScript_r4 : L := zt [0, 1, 5, 3, 4]
theorem spec_RunScript_r4_sh (Q : QT) (x0 x1 x2 x3 x4 x5 : V) : shL spec_RunScript_r4 Q [x0, x1, x2, x3, x4, x5] = (
  Q .normal [x0, x1, x5, x3, x4]) := by kernel_rfl

def spec_RunScript_b0 : L := .seq (.seq (.seq (.rg [⟨[], .slen, [.v 0], 1⟩, zb .leq 2 5]) (.ite (.v 6) (.skip) (.seq (zt [3, 4]) (.exit 0)))) (.seq (.block 1 (.seq (.seq (.seq (.rg [⟨[], .slen, [.v 0], 1⟩, zb .lss 2 7, ⟨[(.v 8, true)], .sidx, [.v 0, .v 2], 1⟩, ⟨[(.v 8, true)], .bin .neq, [.v 9, .k (.int .u8 10)], 1⟩, ⟨[], .pick, [.v 8, .v 10, .k (.bool false)], 1⟩]) (.ite (.v 11) (.seq (zt [0, 1, 2, 3, 4]) (.exit 1)) (.skip))) (spec_RunScript_r1)) (spec_RunScript_r2))) (spec_RunScript_r3))) (spec_RunScript_r4)
theorem spec_RunScript_b0_sh (Q : QT) (x0 x1 x2 x3 x4 : V) : shL spec_RunScript_b0 Q [x0, x1, x2, x3, x4] = (
  P1 (.slen) [x0] fun v0 =>
  P1 (.bin .leq) [x2, v0] fun v1 =>
  ifB v1 (
    P1 (.slen) [x0] fun v2 =>
    P1 (.bin .lss) [x2, v2] fun v3 =>
    ifB v3 (
      P1 (.sidx) [x0, x2] fun v4 =>
      P1 (.bin .neq) [v4, .int .u8 10] fun v5 =>
      ifB v5 (
        shL spec_RunScript_r3 (qS (shL spec_RunScript_r4 Q) Q) [x0, x1, x2, x3, x4]) (
        shL spec_RunScript_r1 (qS (shL spec_RunScript_r2 (qB 1 (qS (shL spec_RunScript_r3 (qS (shL spec_RunScript_r4 Q) Q)) (qS (shL spec_RunScript_r4 Q) Q)))) (qB 1 (qS (shL spec_RunScript_r3 (qS (shL spec_RunScript_r4 Q) Q)) (qS (shL spec_RunScript_r4 Q) Q)))) [x0, x1, x2, x3, x4, v0, .bool true, v2, .bool true, v4, v5, .bool false])) (
      shL spec_RunScript_r1 (qS (shL spec_RunScript_r2 (qB 1 (qS (shL spec_RunScript_r3 (qS (shL spec_RunScript_r4 Q) Q)) (qS (shL spec_RunScript_r4 Q) Q)))) (qB 1 (qS (shL spec_RunScript_r3 (qS (shL spec_RunScript_r4 Q) Q)) (qS (shL spec_RunScript_r4 Q) Q)))) [x0, x1, x2, x3, x4, v0, .bool true, v2, .bool false, .list [] [], .list [] [], .bool false])) (
    Q (.exit 0) [x3, x4])) := by kernel_rfl

def spec_RunScript_b6 : L := .seq (.seq (.seq (.rg [zl 1, zb .lss 0 13]) (.ite (.v 14) (.skip) (.seq (zt [2, 3, 4, 5, 6, 7, 8, 9, 10, 11, 12]) (.exit 2)))) (.seq (.block 3 (.seq (.rg [zi 1 0, zc F_FormatInt 1 [15], ⟨[], .lst [.sc] false 1, [.v 16], 1⟩, ⟨[], .app [.sc] 16, [.v 2, .v 17], 1⟩]) (zt [0, 1, 18, 3, 4, 5, 6, 7, 8, 9, 10, 11, 12]))) (.rg [zk .add 0 1]))) (zt [13, 1, 2, 3, 4, 5, 6, 7, 8, 9, 10, 11, 12])
theorem spec_RunScript_b6_sh (Q : QT) (x0 x1 x2 x3 x4 x5 x6 x7 x8 x9 x10 x11 x12 : V) : shL spec_RunScript_b6 Q [x0, x1, x2, x3, x4, x5, x6, x7, x8, x9, x10, x11, x12] = (
  P1 (.len) [x1] fun v0 =>
  P1 (.bin .lss) [x0, v0] fun v1 =>
  ifB v1 (
    P1 (.idx [.sc]) [x1, x0] fun v2 =>
    P1 (.call F_FormatInt 0 1) [v2] fun v3 =>
    P1 (.lst [.sc] false 1) [v3] fun v4 =>
    P1 (.app [.sc] 16) [x2, v4] fun v5 =>
    P1 (.bin .add) [x0, .int .i64 1] fun v6 =>
    Q .normal [v6, x1, v5, x3, x4, x5, x6, x7, x8, x9, x10, x11, x12]) (
    Q (.exit 2) [x2, x3, x4, x5, x6, x7, x8, x9, x10, x11, x12])) := by kernel_rfl

def spec_RunScript_r7 : L := .seq (.rg [zc F_FormatWorkshop 1 [4, 5, 1, 2, 3, 6, 7, 8, 9, 10], ⟨[], .app [.sc] 16, [.v 0, .v 11], 1⟩]) (.ret [.v 12, .k (.bool true)])
theorem spec_RunScript_r7_sh (Q : QT) (x0 x1 x2 x3 x4 x5 x6 x7 x8 x9 x10 : V) : shL spec_RunScript_r7 Q [x0, x1, x2, x3, x4, x5, x6, x7, x8, x9, x10] = (
  P1 (.call F_FormatWorkshop 0 1) [x4, x5, x1, x2, x3, x6, x7, x8, x9, x10] fun v0 =>
  P1 (.app [.sc] 16) [x0, v0] fun v1 =>
  Q .ret [v1, .bool true]) := by kernel_rfl

def spec_RunScript_r5 : L := .seq (.seq (.rg [zl 1, zk .gtr 2 40]) (.ite (.v 3) (.seq (.rg []) (.ret [.v 0, .k (.bool false)])) (.skip))) (.seq (.rg [⟨[], .call F_SampleWorkshop 0 10, [], 10⟩, zc F_RunActs 11 [4, 5, 6, 7, 8, 9, 10, 11, 12, 13, 1]]) (.seq (.rg [⟨[], .lst [.sc] false 0, [], 1⟩]) (.seq (.seq (.rg []) (.block 2 (.seq (.tup [.k (.int .i64 0), .v 24, .v 25, .v 16, .v 17, .v 18, .v 14, .v 15, .v 19, .v 20, .v 21, .v 22, .v 23]) (.loop (spec_RunScript_b6))))) (spec_RunScript_r7))))
theorem spec_RunScript_r5_sh (Q : QT) (x0 x1 : V) : shL spec_RunScript_r5 Q [x0, x1] = (
  P1 (.len) [x1] fun v0 =>
  P1 (.bin .gtr) [v0, .int .i64 40] fun v1 =>
  ifB v1 (
    Q .ret [x0, .bool false]) (
    P10 (.call F_SampleWorkshop 0 10) [] fun v2 v3 v4 v5 v6 v7 v8 v9 v10 v11 =>
    P11 (.call F_RunActs 0 11) [v2, v3, v4, v5, v6, v7, v8, v9, v10, v11, x1] fun v12 v13 v14 v15 v16 v17 v18 v19 v20 v21 v22 =>
    P1 (.lst [.sc] false 0) [] fun v23 =>
    shL (.loop spec_RunScript_b6) (qB 2 (qS (shL spec_RunScript_r7 Q) Q)) [.int .i64 0, v22, v23, v14, v15, v16, v12, v13, v17, v18, v19, v20, v21])) := by kernel_rfl

def spec_RunScript_L : L := .seq (.rg []) (.seq (.rg [⟨[], .lst [.sc] false 0, [], 1⟩]) (.seq (.seq (.rg [⟨[], .slen, [.v 0], 1⟩, zk .gtr 2 20000]) (.ite (.v 3) (.seq (.rg []) (.ret [.v 1, .k (.bool false)])) (.skip))) (.seq (.rg [⟨[], .lst [.sc, .sc, .sc] true 0, [], 1⟩]) (.seq (.rg []) (.seq (.seq (.rg []) (.block 0 (.seq (.tup [.v 0, .k (.int .i64 0), .k (.int .i64 0), .v 1, .v 4]) (.loop (spec_RunScript_b0))))) (spec_RunScript_r5))))))
theorem spec_RunScript_L_sh (Q : QT) (x0 : V) : shL spec_RunScript_L Q [x0] = (
  P1 (.lst [.sc] false 0) [] fun v0 =>
  P1 (.slen) [x0] fun v1 =>
  P1 (.bin .gtr) [v1, .int .i64 20000] fun v2 =>
  ifB v2 (
    Q .ret [v0, .bool false]) (
    P1 (.lst [.sc, .sc, .sc] true 0) [] fun v3 =>
    shL (.loop spec_RunScript_b0) (qB 0 (qS (shL spec_RunScript_r5 Q) Q)) [x0, .int .i64 0, .int .i64 0, v0, v3])) := by kernel_rfl
def spec_RunScript_S : Sig := ⟨[.val false [.sc]], [(false, [.sl [.sc]]), (false, [.sc])], F_RunScript⟩
def spec_RunScript_hs : List NF := [⟨[(4, zo 64), (5, zo 65)], [(64, true, [.sc]), (65, true, [.sc, .sc, .sc])], [], 66⟩, ⟨[(0, zs), (4, zo 64), (5, zo 65), (6, zs), (7, zs)], [(64, true, [.sc]), (65, true, [.sc, .sc, .sc])], [], 66⟩, ⟨[(0, zs), (4, zo 64), (5, zo 65), (6, zs), (7, zs)], [(64, true, [.sc]), (65, true, [.sc, .sc, .sc])], [], 66⟩, ⟨[(13, .ptr 64 0), (15, zo 65)], [(65, true, [.sc]), (66, true, [.sc, .sc]), (67, true, [.sl [.sc, .sc]]), (68, true, [.sc])], [(64, [.sc, .sc, .own 66, .own 67, .own 68, .sc, .sc, .sc, .sc, .sc])], 69⟩, ⟨[(13, .ptr 64 0), (14, zo 65), (15, zo 66), (16, zs)], [(65, true, [.sc]), (66, true, [.sc]), (67, true, [.sc, .sc]), (68, true, [.sl [.sc, .sc]]), (69, true, [.sc])], [(64, [.sc, .sc, .own 67, .own 68, .own 69, .sc, .sc, .sc, .sc, .sc])], 70⟩, ⟨[(13, .ptr 64 0), (14, zo 65), (15, zo 66), (16, zs)], [(65, true, [.sc]), (66, true, [.sc]), (67, true, [.sc, .sc]), (68, true, [.sl [.sc, .sc]]), (69, true, [.sc])], [(64, [.sc, .sc, .own 67, .own 68, .own 69, .sc, .sc, .sc, .sc, .sc])], 70⟩]

def laws_FnExactRunScript_r0 : L := .seq (.rg []) (.seq (.rg [⟨[], .call F_markStringS 1 1, [.v 5, .k (.int .i64 1), .v 5], 2⟩]) (.seq (.rg []) (.seq (.rg [⟨[], .call F_heldStringS 0 1, [.v 12, .k (.int .i64 1)], 1⟩]) (.seq (.seq (.rg [zk .lss 13 0]) (.ite (.v 14) (.seq (.rg []) (.ret [.k (.bool false)])) (.skip))) (.seq (.seq (.rg [zb .neq 13 11]) (.ite (.v 15) (.seq (.rg []) (.ret [.k (.bool false)])) (.skip))) (.seq (.rg [zc F_RunScript 2 [0]]) (.seq (.seq (.rg [zc F_eqStringS 1 [16, 3], zn 18, ⟨[(.v 19, false)], .binb .neq, [.v 17, .v 4], 1⟩, ⟨[], .pick, [.v 19, .k (.bool true), .v 20], 1⟩]) (.ite (.v 21) (.seq (.rg []) (.ret [.k (.bool false)])) (.skip))) (.seq (.rg []) (.seq (.rg [⟨[], .call F_heldStringS 0 1, [.v 12, .k (.int .i64 1)], 1⟩]) (.seq (.seq (.rg [zk .lss 22 0]) (.ite (.v 23) (.seq (.rg []) (.ret [.k (.bool false)])) (.skip))) (.seq (.seq (.rg [zb .neq 22 11]) (.ite (.v 24) (.seq (.rg []) (.ret [.k (.bool false)])) (.skip))) (.seq (.rg []) (.ret [.k (.bool true)])))))))))))))
theorem laws_FnExactRunScript_r0_sh (Q : QT) (x0 x1 x2 x3 x4 x5 x6 x7 x8 x9 x10 : V) : shL laws_FnExactRunScript_r0 Q [x0, x1, x2, x3, x4, x5, x6, x7, x8, x9, x10] = (
  P2 (.call F_markStringS 1 1) [x5, .int .i64 1, x5] fun v0 v1 =>
  P1 (.call F_heldStringS 0 1) [v1, .int .i64 1] fun v2 =>
  P1 (.bin .lss) [v2, .int .i64 0] fun v3 =>
  ifB v3 (
    Q .ret [.bool false]) (
    P1 (.bin .neq) [v2, v0] fun v4 =>
    ifB v4 (
      Q .ret [.bool false]) (
      P2 (.call F_RunScript 0 2) [x0] fun v5 v6 =>
      P1 (.call F_eqStringS 0 1) [v5, x3] fun v7 =>
      P1 (.un .not) [v7] fun v8 =>
      ifB v8 (
        Q .ret [.bool false]) (
        P1 (.binb .neq) [v6, x4] fun v9 =>
        ifB v9 (
          Q .ret [.bool false]) (
          P1 (.call F_heldStringS 0 1) [v1, .int .i64 1] fun v10 =>
          P1 (.bin .lss) [v10, .int .i64 0] fun v11 =>
          ifB v11 (
            Q .ret [.bool false]) (
            P1 (.bin .neq) [v10, v0] fun v12 =>
            ifB v12 (
              Q .ret [.bool false]) (
              Q .ret [.bool true]))))))) := by kernel_rfl

def laws_FnExactRunScript_L : L := .seq (.rg []) (.seq (.seq (.rg [⟨[], .slen, [.v 0], 1⟩, zk .gtr 1 1048576]) (.ite (.v 2) (.seq (.rg []) (.ret [.k (.bool true)])) (.skip))) (.seq (.rg [zc F_RunScript 2 [0]]) (.seq (.rg [zc F_RunScript 2 [0]]) (.seq (.seq (.rg [zc F_eqStringS 1 [5, 3], zn 7, ⟨[(.v 8, false)], .binb .neq, [.v 6, .v 4], 1⟩, ⟨[], .pick, [.v 8, .k (.bool true), .v 9], 1⟩]) (.ite (.v 10) (.seq (.rg []) (.ret [.k (.bool false)])) (.skip))) (laws_FnExactRunScript_r0)))))
theorem laws_FnExactRunScript_L_sh (Q : QT) (x0 : V) : shL laws_FnExactRunScript_L Q [x0] = (
  P1 (.slen) [x0] fun v0 =>
  P1 (.bin .gtr) [v0, .int .i64 1048576] fun v1 =>
  ifB v1 (
    Q .ret [.bool true]) (
    P2 (.call F_RunScript 0 2) [x0] fun v2 v3 =>
    P2 (.call F_RunScript 0 2) [x0] fun v4 v5 =>
    P1 (.call F_eqStringS 0 1) [v4, v2] fun v6 =>
    P1 (.un .not) [v6] fun v7 =>
    ifB v7 (
      Q .ret [.bool false]) (
      P1 (.binb .neq) [v5, v3] fun v8 =>
      ifB v8 (
        Q .ret [.bool false]) (
        shL laws_FnExactRunScript_r0 Q [x0, v0, .bool false, v2, v3, v4, v5, v6, .bool false, v8, .bool false])))) := by kernel_rfl
def laws_FnExactRunScript_S : Sig := ⟨[.val false [.sc]], [(false, [.sc])], F_FnExactRunScript⟩
def laws_FnExactRunScript_hs : List NF := []

end
end Go.Mw

namespace Go.Mw
open Go.Lib (itoa)
theorem cut_index : ∀ s : List UInt8, (Go.Lib.index s [10] = -1 → cutNl s = [s]) ∧ ∀ i : Nat, Go.Lib.index s [10] = i → cutNl s = s.take i :: cutNl (s.drop (i + 1)) ∧ i < s.length
  | [] => by
    refine ⟨fun _ => rfl, fun i h => ?_⟩
    rw [Go.Lib.index_one] at h
    simp [Go.Lib.indexByte] at h
  | b :: r => by
    have ih := cut_index r
    rw [Go.Lib.index_one] at ih ⊢
    simp only [Go.Lib.indexByte]
    by_cases hb : b = 10
    · subst hb
      refine ⟨fun h => by simp at h, fun i h => ?_⟩
      have hi : i = 0 := by simp at h; omega
      subst hi
      simp [cutNl]
    · have hb2 : (b == 10) = false := by simpa using hb
      simp only [hb2, Bool.false_eq_true, if_false, cutNl, if_neg hb]
      by_cases hm : Go.Lib.indexByte r 10 = -1
      · rw [ih.1 hm]
        refine ⟨fun _ => rfl, fun i h => ?_⟩
        simp [hm] at h
      · have hge := Go.Lib.index_ge r [10]
        rw [Go.Lib.index_one] at hge
        obtain ⟨j, hj⟩ := Int.eq_ofNat_of_zero_le (show 0 ≤ Go.Lib.indexByte r 10 by omega)
        have h2 := ih.2 j hj
        have hm2 : (Go.Lib.indexByte r 10 == -1) = false := by simpa using hm
        simp only [hm2, Bool.false_eq_true, if_false]
        refine ⟨fun h => by omega, fun i h => ?_⟩
        have hi : i = j + 1 := by omega
        subst hi
        rw [h2.1]
        exact ⟨rfl, by have := h2.2; simp; omega⟩
theorem split_cut : ∀ (n : Nat) (s : List UInt8), s.length ≤ n → Go.Lib.splitK [10] 0 (Go.Lib.count s [10]) s = cutNl s := by
  intro n
  induction n with
  | zero =>
    intro s h
    obtain rfl := List.eq_nil_of_length_eq_zero (by omega : s.length = 0)
    have hm : Go.Lib.index [] [10] = -1 := rfl
    rw [Go.Lib.count_miss hm, (cut_index []).1 hm]
    rfl
  | succ n ih =>
    intro s h
    have hge := Go.Lib.index_ge s [10]
    by_cases hm : Go.Lib.index s [10] = -1
    · rw [Go.Lib.count_miss hm, (cut_index s).1 hm]
      rfl
    · obtain ⟨i, hi⟩ := Int.eq_ofNat_of_zero_le (show 0 ≤ Go.Lib.index s [10] by omega)
      have h2 := (cut_index s).2 i hi
      rw [Go.Lib.count_hit (by simp) hi, Nat.add_comm 1, h2.1]
      have hm2 : (Go.Lib.index s [10] == -1) = false := by simpa using hm
      have hm3 : ((i : Int) == -1) = false := by rw [← hi]; exact hm2
      simp only [Go.Lib.splitK, hi, hm3, Bool.false_eq_true, if_false, Int.toNat_natCast, Nat.add_zero, List.length_singleton]
      rw [ih (s.drop (i + 1)) (by simp; omega)]
theorem split_eq (s : List UInt8) : Go.Lib.split s [10] = cutNl s := split_cut s.length s (Nat.le_refl _)
theorem cut_none : ∀ {s : List UInt8}, (10 : UInt8) ∉ s → cutNl s = [s]
  | [], _ => rfl
  | b :: r, h => by
    simp only [List.mem_cons, not_or] at h
    rw [cutNl, if_neg (fun e => h.1 e.symm), cut_none h.2]
theorem cut_at : ∀ {p r : List UInt8}, (10 : UInt8) ∉ p → cutNl (p ++ 10 :: r) = p :: cutNl r
  | [], _, _ => by simp [cutNl]
  | b :: q, r, h => by
    simp only [List.mem_cons, not_or] at h
    rw [List.cons_append, cutNl, if_neg (fun e => h.1 e.symm), cut_at h.2]
theorem cut_len : ∀ s : List UInt8, (cutNl s).length ≤ s.length + 1 ∧ ∀ x ∈ cutNl s, x.length ≤ s.length
  | [] => by simp [cutNl]
  | b :: r => by
    have ih := cut_len r
    unfold cutNl
    split
    · refine ⟨by simp; omega, fun x hx => ?_⟩
      rcases List.mem_cons.1 hx with rfl | hx
      · simp
      · have := ih.2 x hx; simp; omega
    · split
      · rename_i h t e
        rw [e] at ih
        refine ⟨by have := ih.1; simp at this ⊢; omega, fun x hx => ?_⟩
        rcases List.mem_cons.1 hx with rfl | hx
        · have := ih.2 h (by simp); simp; omega
        · have := ih.2 x (by simp [hx]); simp; omega
      · simp
theorem fold_none (l : List (List UInt8)) : l.foldl lineStep none = none := by
  induction l with
  | nil => rfl
  | cons a r ih => exact ih
theorem scriptActs_none {s : List UInt8} (h : scriptOf (cutNl s) = none) : scriptActs s = none := by
  unfold scriptActs
  split
  · rw [h]
  · rfl
theorem script_bad {s : List UInt8} (h : scriptActs s = none) : scriptL s = [] ∧ scriptB s = false := by simp [scriptL, scriptB, h]
theorem script_good {s : List UInt8} {a : List T3} (h : scriptActs s = some a) : scriptL s = linesOf a ∧ scriptB s = true := by simp [scriptL, scriptB, h]
theorem scriptActs_eq {s : List UInt8} {a : List T3} (h0 : s.length ≤ 20000) (h : scriptOf (cutNl s) = some a) : scriptActs s = if a.length ≤ 40 then some a else none := by
  simp [scriptActs, h0, h]
theorem gap_small {a b n : Int} (h : n ≤ 96) : -1 ≤ gap a b n ∧ gap a b n ≤ 96 := by
  unfold gap
  split
  · rename_i h1
    simp only [within, Bool.and_eq_true, decide_eq_true_eq] at h1
    omega
  · omega
theorem cmRow_range {c : Cyl} (hs : c.s ≤ 96) (i : Nat) : ∀ k b, -1 ≤ b → b ≤ 96 → -1 ≤ cmRow c i k b ∧ cmRow c i k b ≤ 96
  | 0, b, h0, h1 => ⟨h0, h1⟩
  | k + 1, b, h0, h1 => by
    have ih := cmRow_range hs i k b h0 h1
    unfold cmRow
    split
    · split
      · rename_i x y _ _ _
        have := gap_small (a := x.b) (b := y.b) hs
        omega
      · exact ih
    · exact ih
theorem cmTo_range {c : Cyl} (hs : c.s ≤ 96) (h0 : 0 ≤ c.s) : ∀ i, -1 ≤ cmTo c i ∧ cmTo c i ≤ 96
  | 0 => by simp only [cmTo]; omega
  | i + 1 => by
    have ih := cmTo_range hs h0 i
    exact cmRow_range hs i i _ ih.1 ih.2
theorem num_range (b : Bool) : 0 ≤ num b ∧ num b ≤ 1 := by cases b <;> simp [num]
theorem actN_range (w : Shop) (a : T3) : -1 ≤ actN w a ∧ actN w a ≤ 1000000 := by
  unfold actN
  split
  · rename_i hc
    simp only [canAct, Bool.and_eq_true] at hc
    have ha := actOk_kind hc.2
    split
    · have := num_range (putOk w ⟨a.b, a.c⟩); omega
    · split
      · have := num_range (removeOk w a.b); omega
      · split
        · have := num_range (backOk w); omega
        · split
          · split
            · unfold windBy
              split
              · rename_i h
                simp only [windOk, Bool.and_eq_true, within, decide_eq_true_eq] at h
                simp only [springOk, Bool.and_eq_true, within, decide_eq_true_eq] at h
                omega
              · omega
            · omega
          · split
            · have := num_range (canPlay w); omega
            · have hb := shop_bounds hc.1
              have hcy := cyl_bounds hb.1
              have := cmTo_range (c := w.bench.cyl) (by simpa [Shop.bench, Bench.cyl] using hcy.1.2) (by have h4 : 4 ≤ w.s := hcy.1.1; show (0 : Int) ≤ w.s; omega) w.bench.cyl.p.length
              unfold closest
              split <;> omega
  · omega
theorem runN_range (w : Shop) (l : List T3) : ∀ n ∈ runN' w l, -1 ≤ n ∧ n ≤ 1000000 := by
  have key : ∀ k, ∀ n ∈ (runTo w l k).2, -1 ≤ n ∧ n ≤ 1000000 := by
    intro k
    induction k with
    | zero => simp [runTo]
    | succ k ih =>
      unfold runTo
      split
      · intro n hn
        rcases List.mem_append.1 hn with hn | hn
        · exact ih n hn
        · simp only [List.mem_singleton] at hn; subst hn; exact actN_range _ _
      · exact ih
  intro n hn
  unfold runN' at hn
  split at hn
  · exact key _ n hn
  · simp at hn
theorem nums_succ {l : List Int} {k : Nat} (h : k < l.length) : nums (l.take (k + 1)) = nums (l.take k) ++ [itoa l[k]] := by
  rw [take_succ_get h]; simp only [nums, List.map_append, List.map_cons, List.map_nil]
end Go.Mw

namespace Go.Mw
open Go.Lib (itoa)
structure ScT where
  k : Nat
  l : List T3
theorem ScT.inj {b b' : Nat} {c c' : List T3} (h2 : (b : Int) = b') (h3 : c = c') : ScT.mk b c = ⟨b', c'⟩ := by
  obtain rfl : b = b' := by omega
  rw [h3]
theorem lineStep_blank {a : List T3} {s : List UInt8} (h : blankL s = true) : lineStep (some a) s = some a := by simp [lineStep, h]
theorem lineStep_act {a : List T3} {s : List UInt8} (h : blankL s = false) (h2 : parseB (fieldsOf s) = true) : lineStep (some a) s = some (a ++ [parseV (fieldsOf s)]) := by simp [lineStep, h, h2]
theorem lineStep_bad {a : List T3} {s : List UInt8} (h : blankL s = false) (h2 : parseB (fieldsOf s) = false) : lineStep (some a) s = none := by simp [lineStep, h, h2]
theorem blank_yes {s : List UInt8} (h : fieldsOk s = true) (h2 : ((fieldsOf s).length : Int) = 0) : blankL s = true := by
  have : fieldsOf s = [] := List.eq_nil_of_length_eq_zero (by omega)
  simp [blankL, h, this]
theorem blank_no1 {s : List UInt8} (h2 : ¬ ((fieldsOf s).length : Int) = 0) : blankL s = false := by
  have : fieldsOf s ≠ [] := fun e => h2 (by rw [e]; rfl)
  simp [blankL, this]
theorem blank_no2 {s : List UInt8} (h : fieldsOk s = false) : blankL s = false := by simp [blankL, h]
theorem sample_runs (a : List T3) : shopOk (openShop 16 [12, 12, 16, 19] 40) = true ∧ shopOk (runW (openShop 16 [12, 12, 16, 19] 40) a) = true := ⟨sample_ok, runW_ok sample_ok⟩

section
variable {s : List UInt8} (hs : s.length ≤ 20000)
include hs
theorem impl_script_end {Q : QT} {a : List T3} (h : scriptOf (cutNl s) = some a) (ha : a.length ≤ 20001) (hQ : ∀ e, e = [vL I1 vS (scriptL s), .bool (scriptB s)] → Q .ret e) : shL impl_RunScript_r1 Q [vL I3 v3 a] := by
  have he := scriptActs_eq hs h
  rw [impl_RunScript_r1_sh]
  simp only [P1_len, P1_gtr, ifB_bool, decide_eq_true_eq, decide_eq_false_iff_not]
  refine ⟨fun h1 => ?_, fun h1 => ?_⟩
  · rw [if_neg (by omega)] at he
    have hb := script_bad he
    exact hQ _ (by rw [hb.1, hb.2]; rfl)
  · rw [if_pos (by omega)] at he
    have hg := script_good he
    have hok := (sample_runs a).1
    have hok2 := (sample_runs a).2
    have hfit := (sSmall_of_ok hok).1
    have hfit2 := (sSmall_of_ok hok2).1
    have hN := runN_len (x := openShop 16 [12, 12, 16, 19] 40) (l := a)
    have hNr := runN_range (openShop 16 [12, 12, 16, 19] 40) a
    have hF := fmtShop_len (runW (openShop 16 [12, 12, 16, 19] 40) a)
    have hLn : scriptL s = nums (runN' (openShop 16 [12, 12, 16, 19] 40) a) ++ fmtShop (runW (openShop 16 [12, 12, 16, 19] 40) a) := hg.1
    rw [p_SampleWorkshop]
    generalize openShop 16 [12, 12, 16, 19] 40 = S at *
    rw [p_RunActs (x_p := S.p) (x_o := S.o) (x_c := S.c) ⟨hfit.1, hfit.2.1, hfit.2.2, by omega⟩]
    simp only [Shop.eta, P1_lst0, P1_len]
    generalize runW S a = W at *
    generalize runN' S a = N at *
    refine loop_upto N.length (fun k => [.int .i64 N.length, .int .i64 k, vL I1 vS (nums (N.take k)), vL I1 v1 N, vL I2 v2 W.p, vL IL2 vLL2 W.o, vL I1 v1 W.c, .int .i64 W.s, .int .i64 W.t, .int .i64 W.u, .int .i64 W.m, .int .i64 W.f, .int .i64 W.y, .int .i64 W.d]) (by intro i j _ _ h; simp at h; omega) (fun _ => True) (by simp [nums]) trivial ?_
    intro k hk _
    rw [impl_RunScript_b2_sh]
    simp only [P1_lss, ifB_bool, decide_eq_true_eq, decide_eq_false_iff_not]
    have hnl : (nums (N.take k)).length = k := by simp [nums]; omega
    refine ⟨fun h2 => ?_, fun h2 => ?_⟩
    · have hkn : k < N.length := by omega
      have hr := hNr N[k] (by simp)
      have w2 : IntKind.i64.wrap ((k : Int) + 1) = ((k + 1 : Nat) : Int) := by rw [wrap_id (by omega) (by omega)]; omega
      simp only [P1_idxI, Int.toNat_natCast, List.getElem?_eq_getElem hkn, Option.some.injEq, exists_eq_left']
      rw [p_FormatInt ⟨by omega, by omega⟩]
      simp only [P1_lstS1, P1_appS_, hnl, List.length_singleton, P1_add, w2, qS_normal]
      rw [nums_succ hkn]
      exact ⟨by omega, ⟨by omega, by omega⟩, by omega, rfl, trivial⟩
    · obtain rfl : k = N.length := by omega
      rw [List.take_length] at hnl
      simp only [List.take_length, qS_exit, qB_exit, if_true, qS_normal, impl_RunScript_r3_sh]
      rw [p_FormatWorkshop (x_p := W.p) (x_o := W.o) (x_c := W.c) hfit2]
      simp only [Shop.eta, P1_appS_, hnl]
      refine ⟨⟨by omega, by omega⟩, hQ _ ?_⟩
      rw [hLn, hg.2]
theorem spec_script_end {Q : QT} {a : List T3} (h : scriptOf (cutNl s) = some a) (ha : a.length ≤ 20001) (hQ : ∀ e, e = [vL I1 vS (scriptL s), .bool (scriptB s)] → Q .ret e) : shL spec_RunScript_r5 Q [.list [.sc] [], vL I3 v3 a] := by
  have he := scriptActs_eq hs h
  rw [spec_RunScript_r5_sh]
  simp only [P1_len, P1_gtr, ifB_bool, decide_eq_true_eq, decide_eq_false_iff_not]
  refine ⟨fun h1 => ?_, fun h1 => ?_⟩
  · rw [if_neg (by omega)] at he
    have hb := script_bad he
    exact hQ _ (by rw [hb.1, hb.2]; rfl)
  · rw [if_pos (by omega)] at he
    have hg := script_good he
    have hok := (sample_runs a).1
    have hok2 := (sample_runs a).2
    have hfit := (sSmall_of_ok hok).1
    have hfit2 := (sSmall_of_ok hok2).1
    have hN := runN_len (x := openShop 16 [12, 12, 16, 19] 40) (l := a)
    have hNr := runN_range (openShop 16 [12, 12, 16, 19] 40) a
    have hF := fmtShop_len (runW (openShop 16 [12, 12, 16, 19] 40) a)
    have hLn : scriptL s = nums (runN' (openShop 16 [12, 12, 16, 19] 40) a) ++ fmtShop (runW (openShop 16 [12, 12, 16, 19] 40) a) := hg.1
    rw [p_SampleWorkshop]
    generalize openShop 16 [12, 12, 16, 19] 40 = S at *
    rw [p_RunActs (x_p := S.p) (x_o := S.o) (x_c := S.c) ⟨hfit.1, hfit.2.1, hfit.2.2, by omega⟩]
    simp only [Shop.eta, P1_lst0]
    generalize runW S a = W at *
    generalize runN' S a = N at *
    refine loop_upto N.length (fun k => [.int .i64 k, vL I1 v1 N, vL I1 vS (nums (N.take k)), vL I2 v2 W.p, vL IL2 vLL2 W.o, vL I1 v1 W.c, .int .i64 W.s, .int .i64 W.t, .int .i64 W.u, .int .i64 W.m, .int .i64 W.f, .int .i64 W.y, .int .i64 W.d]) (by intro i j _ _ h; simp at h; omega) (fun _ => True) (by simp [nums]) trivial ?_
    intro k hk _
    rw [spec_RunScript_b6_sh]
    simp only [P1_len, P1_lss, ifB_bool, decide_eq_true_eq, decide_eq_false_iff_not]
    have hnl : (nums (N.take k)).length = k := by simp [nums]; omega
    refine ⟨fun h2 => ?_, fun h2 => ?_⟩
    · have hkn : k < N.length := by omega
      have hr := hNr N[k] (by simp)
      have w2 : IntKind.i64.wrap ((k : Int) + 1) = ((k + 1 : Nat) : Int) := by rw [wrap_id (by omega) (by omega)]; omega
      simp only [P1_idxI, Int.toNat_natCast, List.getElem?_eq_getElem hkn, Option.some.injEq, exists_eq_left']
      rw [p_FormatInt ⟨by omega, by omega⟩]
      simp only [P1_lstS1, P1_appS_, hnl, List.length_singleton, P1_add, w2, qS_normal]
      rw [nums_succ hkn]
      exact ⟨by omega, ⟨by omega, by omega⟩, by omega, rfl, trivial⟩
    · obtain rfl : k = N.length := by omega
      rw [List.take_length] at hnl
      simp only [List.take_length, qS_exit, qB_exit, if_true, qS_normal, spec_RunScript_r7_sh]
      rw [p_FormatWorkshop (x_p := W.p) (x_o := W.o) (x_c := W.c) hfit2]
      simp only [Shop.eta, P1_appS_, hnl]
      refine ⟨⟨by omega, by omega⟩, hQ _ ?_⟩
      rw [hLn, hg.2]
end
theorem impl_RunScript_ok : ∀ ds outs, F_RunScript ds = some outs → shL impl_RunScript_L (qRet outs) ds := F_RunScript_elim fun s hp => by
  rw [impl_RunScript_L_sh]
  simp only [P1_slen, P1_gtr, ifB_bool, decide_eq_true_eq, decide_eq_false_iff_not]
  refine ⟨fun h => ?_, fun h => ?_⟩
  · have hb := script_bad (s := s) (by unfold scriptActs; rw [if_neg (by omega)])
    rw [hb.1, hb.2]; simp
  have hs : s.length ≤ 20000 := by omega
  simp only [P1_lst0]
  rw [p_strings_Split ⟨by omega, by simp⟩, split_eq]
  simp only [P1_len]
  have hc := cut_len s
  have hbad : ∀ k, k ≤ (cutNl s).length → ((cutNl s).take k).foldl lineStep (some []) = none → scriptActs s = none := by
    intro k _ h0
    refine scriptActs_none ?_
    unfold scriptOf
    rw [← List.take_append_drop k (cutNl s), List.foldl_append, h0, fold_none]
  refine loop_st (σ := ScT) (fun x => [.int .i64 (cutNl s).length, .int .i64 x.k, vL I3 v3 x.l, vL I1 vS (cutNl s)]) (by rintro ⟨b, c⟩ ⟨b', c'⟩ h; simp at h; exact ScT.inj (by omega) h.2)
    (fun x => x.k ≤ (cutNl s).length ∧ ((cutNl s).take x.k).foldl lineStep (some []) = some x.l ∧ x.l.length ≤ x.k) (fun x => (cutNl s).length - x.k) ⟨0, []⟩ rfl ⟨Nat.zero_le _, rfl, Nat.le_refl _⟩ ?_
  rintro ⟨k, a⟩ ⟨hk, hf, ha⟩
  dsimp only at *
  rw [impl_RunScript_b0_sh]
  simp only [P1_lss, ifB_bool, decide_eq_true_eq, decide_eq_false_iff_not]
  refine ⟨fun h1 => ?_, fun h1 => ?_⟩
  · have hkn : k < (cutNl s).length := by omega
    have hx := hc.2 (cutNl s)[k] (List.getElem_mem hkn)
    have w2 : IntKind.i64.wrap ((k : Int) + 1) = ((k + 1 : Nat) : Int) := by rw [wrap_id (by omega) (by omega)]; omega
    have hstep : ((cutNl s).take (k + 1)).foldl lineStep (some []) = lineStep (some a) (cutNl s)[k] := by
      rw [take_succ_get hkn, List.foldl_append, hf]; rfl
    simp only [P1_idxS, Int.toNat_natCast, List.getElem?_eq_getElem hkn, Option.some.injEq, exists_eq_left']
    generalize (cutNl s)[k] = line at *
    have hl : line.length ≤ 1048576 := by omega
    rw [p_SplitFields hl]
    simp only [ifB_bool, P1_len, P1_eql, beq_iff_eq, beq_eq_false_iff_ne, ne_eq]
    refine ⟨by omega, fun hok => ⟨fun h0 => ?_, fun h0 => ?_⟩, fun hok => ?_⟩
    · have hbl := blank_yes hok h0
      simp only [P1_add, w2, qS_normal]
      exact ⟨⟨k + 1, a⟩, rfl, ⟨by dsimp only; omega, by rw [hstep, lineStep_blank hbl], by dsimp only; omega⟩, by dsimp only; omega⟩
    · have hbl := blank_no1 h0
      simp only [p_ParseAct hl, P1_not, ifB_bool, qRet_ret, qS_ret, qB_ret]
      refine ⟨fun hpb => ?_, fun hpb => ?_⟩
      · have hpb : parseB (fieldsOf line) = false := by simpa using hpb
        have hb := script_bad (hbad (k + 1) hkn (by rw [hstep, lineStep_bad hbl hpb]))
        rw [hb.1, hb.2]; rfl
      · have hpb : parseB (fieldsOf line) = true := by simpa using hpb
        simp only [P1_lst3, P1_app3_, List.length_singleton, P1_add, w2, qS_normal]
        exact ⟨⟨by omega, by omega⟩, ⟨k + 1, a ++ [parseV (fieldsOf line)]⟩, rfl, ⟨by dsimp only; omega, by rw [hstep, lineStep_act hbl hpb], by simp; omega⟩, by dsimp only; omega⟩
    · have hbl := blank_no2 hok
      simp only [p_ParseAct hl, P1_not, ifB_bool, qRet_ret, qS_ret, qB_ret]
      refine ⟨fun hpb => ?_, fun hpb => ?_⟩
      · have hpb : parseB (fieldsOf line) = false := by simpa using hpb
        have hb := script_bad (hbad (k + 1) hkn (by rw [hstep, lineStep_bad hbl hpb]))
        rw [hb.1, hb.2]; rfl
      · have hpb : parseB (fieldsOf line) = true := by simpa using hpb
        simp only [P1_lst3, P1_app3_, List.length_singleton, P1_add, w2, qS_normal]
        exact ⟨⟨by omega, by omega⟩, ⟨k + 1, a ++ [parseV (fieldsOf line)]⟩, rfl, ⟨by dsimp only; omega, by rw [hstep, lineStep_act hbl hpb], by simp; omega⟩, by dsimp only; omega⟩
  · obtain rfl : k = (cutNl s).length := by omega
    rw [List.take_length] at hf
    simp only [qS_exit, qB_exit, if_true, qS_normal]
    exact impl_script_end hs hf (by omega) fun e he => by rw [he]; simp
end Go.Mw

namespace Go.Mw
open Go.Lib (itoa)
structure SpS where
  a : Nat
  k : Nat
  l : List T3
theorem SpS.inj {a a' b b' : Nat} {c c' : List T3} (h1 : (a : Int) = a') (h2 : (b : Int) = b') (h3 : c = c') : SpS.mk a b c = ⟨a', b', c'⟩ := by
  obtain rfl : a = a' := by omega
  obtain rfl : b = b' := by omega
  rw [h3]
def SpInv (s : List UInt8) (x : SpS) : Prop :=
  x.a ≤ x.k ∧ x.k ≤ s.length + 1 ∧ x.l.length ≤ x.k ∧
    (x.a ≤ s.length → x.k ≤ s.length ∧ (10 : UInt8) ∉ (s.take x.k).drop x.a ∧ scriptOf (cutNl s) = (cutNl (s.drop x.a)).foldl lineStep (some x.l)) ∧
    (s.length < x.a → scriptOf (cutNl s) = some x.l)
theorem take_drop_snoc {s : List UInt8} {a k : Nat} (h : a ≤ k) (hk : k < s.length) : (s.take (k + 1)).drop a = (s.take k).drop a ++ [s[k]] := by
  rw [take_succ_get hk, List.drop_append_of_le_length (by simp; omega)]
theorem drop_parts {s : List UInt8} {a k : Nat} (h : a ≤ k) (hk : k ≤ s.length) : s.drop a = (s.take k).drop a ++ s.drop k := by
  conv => lhs; rw [← List.take_append_drop k s]
  rw [List.drop_append_of_le_length (by simp; omega)]

theorem spec_RunScript_ok : ∀ ds outs, F_RunScript ds = some outs → shL spec_RunScript_L (qRet outs) ds := F_RunScript_elim fun s hp => by
  rw [spec_RunScript_L_sh]
  simp only [P1_lst0, P1_slen, P1_gtr, ifB_bool, decide_eq_true_eq, decide_eq_false_iff_not]
  refine ⟨fun h => ?_, fun h => ?_⟩
  · have hb := script_bad (s := s) (by unfold scriptActs; rw [if_neg (by omega)])
    rw [hb.1, hb.2]; simp
  have hs : s.length ≤ 20000 := by omega
  refine loop_st (σ := SpS) (fun x => [.str s, .int .i64 x.a, .int .i64 x.k, .list [.sc] [], vL I3 v3 x.l]) (by rintro ⟨a, b, c⟩ ⟨a', b', c'⟩ h; simp at h; exact SpS.inj (by omega) (by omega) h.2.2)
    (SpInv s) (fun x => s.length + 1 - x.k) ⟨0, 0, []⟩ rfl ⟨Nat.le_refl _, Nat.zero_le _, Nat.le_refl _, fun _ => ⟨Nat.zero_le _, by simp, rfl⟩, fun h => by simp at h⟩ ?_
  rintro ⟨a, k, l⟩ ⟨i1, i2, i3, i4, i5⟩
  dsimp only at *
  rw [spec_RunScript_b0_sh]
  have w2 : IntKind.i64.wrap ((k : Int) + 1) = ((k + 1 : Nat) : Int) := by rw [wrap_id (by omega) (by omega)]; omega
  simp only [P1_slen, P1_leq, P1_lss, ifB_bool, decide_eq_true_eq, decide_eq_false_iff_not]
  -- a line ends at k
  have line : a ≤ s.length → k ≤ s.length → (k < s.length → s[k]? = some 10) → ∀ {Q' : QT} (x5 x6 x7 x8 x9 x10 x11 : V),
      (∀ l', SpInv s ⟨k + 1, k + 1, l'⟩ → Q' .normal [.str s, .int .i64 (k + 1 : Nat), .int .i64 (k + 1 : Nat), .list [.sc] [], vL I3 v3 l']) →
      (∀ e, e = [vL I1 vS (scriptL s), .bool (scriptB s)] → Q' .ret e) →
      shL spec_RunScript_r1 (qS (shL spec_RunScript_r2 (qB 1 (qS (shL spec_RunScript_r3 (qS (shL spec_RunScript_r4 Q') Q')) (qS (shL spec_RunScript_r4 Q') Q')))) (qB 1 (qS (shL spec_RunScript_r3 (qS (shL spec_RunScript_r4 Q') Q')) (qS (shL spec_RunScript_r4 Q') Q')))) [.str s, .int .i64 a, .int .i64 k, .list [.sc] [], vL I3 v3 l, x5, x6, x7, x8, x9, x10, x11] := by
    intro ha hk hten Q' x5 x6 x7 x8 x9 x10 x11 hN hR
    obtain ⟨-, j2, j3⟩ := i4 ha
    have hlen : ((s.take k).drop a).length ≤ 1048576 := by simp; omega
    -- what is left: this line, and the rest
    have hleft : ∀ {l' : Option (List T3)}, lineStep (some l) ((s.take k).drop a) = l' → (l' = none → scriptActs s = none) ∧ ∀ l2, l' = some l2 → l2.length ≤ l.length + 1 → SpInv s ⟨k + 1, k + 1, l2⟩ := by
      intro l' h1
      by_cases hkl : k < s.length
      · have e10 := hten hkl
        have hd : s.drop k = 10 :: s.drop (k + 1) := by
          rw [List.drop_eq_getElem_cons hkl]
          congr 1
          rw [List.getElem?_eq_getElem hkl] at e10
          simpa using e10
        have hc : cutNl (s.drop a) = (s.take k).drop a :: cutNl (s.drop (k + 1)) := by rw [drop_parts i1 hk, hd, cut_at j2]
        rw [hc, List.foldl_cons, h1] at j3
        refine ⟨fun e => scriptActs_none (by rw [j3, e, fold_none]), fun l2 e hl2 => ⟨Nat.le_refl _, by dsimp only; omega, by dsimp only; omega, fun _ => ⟨by dsimp only; omega, by dsimp only; simp, by dsimp only; rw [j3, e]⟩, fun h => by dsimp only at h; omega⟩⟩
      · obtain rfl : k = s.length := by omega
        have hd : s.drop a = (s.take s.length).drop a := by rw [List.take_length]
        have hc : cutNl (s.drop a) = [(s.take s.length).drop a] := by rw [hd, cut_none j2]
        rw [hc, List.foldl_cons, h1, List.foldl_nil] at j3
        refine ⟨fun e => scriptActs_none (by rw [j3, e]), fun l2 e hl2 => ⟨Nat.le_refl _, Nat.le_refl _, by dsimp only; omega, fun h => by dsimp only at h; omega, fun _ => by dsimp only; rw [j3, e]⟩⟩
    rw [spec_RunScript_r1_sh]
    simp only [P1_ssub2, Int.toNat_natCast, P1_add, w2]
    refine ⟨by omega, ?_⟩
    generalize (s.take k).drop a = line at *
    rw [p_SplitFields hlen]
    simp only [ifB_bool, P1_len, P1_eql, beq_iff_eq, beq_eq_false_iff_ne, ne_eq]
    refine ⟨fun hok => ⟨fun h0 => ?_, fun h0 => ?_⟩, fun hok => ?_⟩
    · have hbl := blank_yes hok h0
      simp only [qS_exit, qB_exit, if_true, qS_normal, spec_RunScript_r3_sh, spec_RunScript_r4_sh, P1_add, w2]
      exact hN l ((hleft (lineStep_blank hbl)).2 l rfl (by omega))
    · have hbl := blank_no1 h0
      simp only [p_ParseAct hlen, P1_not, ifB_bool, qS_ret, qB_ret]
      refine ⟨fun hpb => ?_, fun hpb => ?_⟩
      · have hpb : parseB (fieldsOf line) = false := by simpa using hpb
        have hb := script_bad ((hleft (lineStep_bad hbl hpb)).1 rfl)
        exact hR _ (by rw [hb.1, hb.2]; rfl)
      · have hpb : parseB (fieldsOf line) = true := by simpa using hpb
        simp only [P1_lst3, P1_app3_, List.length_singleton, qS_normal, qB_normal, spec_RunScript_r2_sh, spec_RunScript_r3_sh, spec_RunScript_r4_sh, P1_add, w2]
        exact ⟨⟨by omega, by omega⟩, hN _ ((hleft (lineStep_act hbl hpb)).2 _ rfl (by simp))⟩
    · have hbl := blank_no2 hok
      simp only [p_ParseAct hlen, P1_not, ifB_bool, qS_ret, qB_ret]
      refine ⟨fun hpb => ?_, fun hpb => ?_⟩
      · have hpb : parseB (fieldsOf line) = false := by simpa using hpb
        have hb := script_bad ((hleft (lineStep_bad hbl hpb)).1 rfl)
        exact hR _ (by rw [hb.1, hb.2]; rfl)
      · have hpb : parseB (fieldsOf line) = true := by simpa using hpb
        simp only [P1_lst3, P1_app3_, List.length_singleton, qS_normal, qB_normal, spec_RunScript_r2_sh, spec_RunScript_r3_sh, spec_RunScript_r4_sh, P1_add, w2]
        exact ⟨⟨by omega, by omega⟩, hN _ ((hleft (lineStep_act hbl hpb)).2 _ rfl (by simp))⟩
  refine ⟨fun h1 => ⟨fun h2 => ?_, fun h2 => ?_⟩, fun h1 => ?_⟩
  · have hk : k < s.length := by omega
    have ha : a ≤ s.length := by omega
    obtain ⟨-, j2, j3⟩ := i4 ha
    simp only [P1_sidx, Int.toNat_natCast, List.getElem?_eq_getElem hk, Option.some.injEq, exists_eq_left', P1_neq, ifB_bool, bne_iff_ne, ne_eq, bne_eq_false_iff_eq]
    refine ⟨by omega, fun h3 => ?_, fun h3 => ?_⟩
    · have h4 : s[k] ≠ 10 := fun e => h3 (by rw [e]; rfl)
      simp only [spec_RunScript_r3_sh, spec_RunScript_r4_sh, qS_normal, P1_add, w2]
      refine ⟨⟨a, k + 1, l⟩, rfl, ⟨by dsimp only; omega, by dsimp only; omega, by dsimp only; omega, fun _ => ⟨by dsimp only; omega, ?_, j3⟩, fun h => by dsimp only at h; omega⟩, by dsimp only; omega⟩
      dsimp only
      rw [take_drop_snoc i1 hk, List.mem_append, List.mem_singleton]
      rintro (h | h)
      · exact j2 h
      · exact h4 h.symm
    · have h4 : s[k]? = some 10 := by
        rw [List.getElem?_eq_getElem hk]
        congr 1
        exact UInt8.toNat_inj.1 (by have : ((s[k].toNat : Nat) : Int) = 10 := h3; have h5 : (10 : UInt8).toNat = 10 := rfl; omega)
      refine line ha (by omega) (fun _ => h4) _ _ _ _ _ _ _ (fun l' hI => ?_) (fun e he => ?_)
      · simp only [qS_normal]
        exact ⟨⟨k + 1, k + 1, l'⟩, rfl, hI, by dsimp only; omega⟩
      · rw [he]; simp
  · have hk : k = s.length := by omega
    have ha : a ≤ s.length := by omega
    refine line ha (by omega) (fun h => by omega) _ _ _ _ _ _ _ (fun l' hI => ?_) (fun e he => ?_)
    · simp only [qS_normal]
      exact ⟨⟨k + 1, k + 1, l'⟩, rfl, hI, by dsimp only; omega⟩
    · rw [he]; simp
  · have hka : s.length < a := by
      rcases Nat.lt_or_ge s.length a with h | h
      · exact h
      · have := (i4 h).1; omega
    simp only [qS_exit, qB_exit, if_true, qS_normal]
    exact spec_script_end hs (i5 hka) (by omega) fun e he => by rw [he]; simp
theorem scriptL_len (s : List UInt8) : (scriptL s).length ≤ 143 := by
  unfold scriptL
  split
  · rename_i a _
    have h1 := runN_len (x := openShop 16 [12, 12, 16, 19] 40) (l := a)
    have h2 := fmtShop_len (runW (openShop 16 [12, 12, 16, 19] 40) a)
    unfold linesOf
    rw [List.length_append]
    simp only [nums, List.length_map]
    omega
  · simp
theorem laws_FnExactRunScript_ok : ∀ ds outs, F_FnExactRunScript ds = some outs → shL laws_FnExactRunScript_L (qRet outs) ds := F_FnExactRunScript_elim fun s hp => by
  rw [laws_FnExactRunScript_L_sh]
  simp only [P1_slen, P1_gtr, ifB_bool, decide_eq_true_eq, decide_eq_false_iff_not]
  refine ⟨fun _ => by simp, fun h => ?_⟩
  have h' : s.length ≤ 1048576 := by omega
  have hg := scriptL_len s
  generalize hgd : scriptL s = g at hg
  generalize hbd : scriptB s = b
  have h1 : g.length ≤ 1048576 := by omega
  have h2 : g.length ≤ 4194304 := by omega
  have h3 : (0 : Int) ≤ 1 + g.length := by omega
  have h4 : (markLS g.length 1).length ≤ 4194304 := by simp [markLS]; omega
  simp [p_RunScript h', laws_FnExactRunScript_r0_sh, hgd, hbd, h1, h2, p_eqStringS, p_markStringS, p_heldStringS, h3]
end Go.Mw

namespace Go.Mw
open Go.Lib (itoa)
end Go.Mw

