/- What functions of the program compute, as small pure programs, shown against plain Lean functions: no condition. -/
import Derived.KernelRfl
import Derived.Lib.ItoaMem
import Derived.Lib.ItoaLen
import Derived.Lib.AtoiAll
import Derived.Lib.Join
import Derived.Lib.Repeat
import Derived.Lib.Split
import Derived.Test.YtpilehpgnfegkaaDoorPa1
/- Functions of the program, as small pure programs (printed by a program of ours). -/
namespace Go.Mw
noncomputable section
def laws_big_L : L := .seq (.rg []) (.seq (.rg [⟨[], .len, [.v 0], 1⟩, ⟨[], .bin .gtr, [.v 1, .k (.int .i64 1048576)], 1⟩]) (.ret [.v 2]))
theorem laws_big_L_sh (Q : QT) (x0 : V) : shL laws_big_L Q [x0] = (
  P1 (.len) [x0] fun v0 =>
  P1 (.bin .gtr) [v0, .int .i64 1048576] fun v1 =>
  Q .ret [v1]) := by kernel_rfl
def laws_big_S : Sig := ⟨[.val false [.sl [.sc]]], [(false, [.sc])], F_big⟩
def laws_big_hs : List NF := []

def spec_l01New_b0 : L := .seq (.seq (.seq (.rg [⟨[], .len, [.v 0], 1⟩, ⟨[], .bin .lss, [.v 2, .v 3], 1⟩, ⟨[(.v 4, true)], .bin .lss, [.v 2, .k (.int .i64 4000)], 1⟩, ⟨[], .pick, [.v 4, .v 5, .k (.bool false)], 1⟩]) (.ite (.v 6) (.skip) (.seq (.tup [.v 0, .v 1]) (.exit 0)))) (.seq (.block 1 (.seq (.rg [⟨[], .bin .mul, [.v 1, .k (.int .i64 131)], 1⟩, ⟨[], .idx [.sc], [.v 0, .v 2], 1⟩, ⟨[], .conv .i64, [.v 8], 1⟩, ⟨[], .bin .add, [.v 7, .v 9], 1⟩, ⟨[], .bin .add, [.v 10, .k (.int .i64 7)], 1⟩, ⟨[], .bin .and, [.v 11, .k (.int .i64 1073741823)], 1⟩]) (.tup [.v 0, .v 12, .v 2]))) (.rg [⟨[], .bin .add, [.v 2, .k (.int .i64 1)], 1⟩]))) (.tup [.v 0, .v 1, .v 3])
theorem spec_l01New_b0_sh (Q : QT) (x0 x1 x2 : V) : shL spec_l01New_b0 Q [x0, x1, x2] = (
  P1 (.len) [x0] fun v0 =>
  P1 (.bin .lss) [x2, v0] fun v1 =>
  ifB v1 (
    P1 (.bin .lss) [x2, .int .i64 4000] fun v2 =>
    ifB v2 (
      P1 (.bin .mul) [x1, .int .i64 131] fun v3 =>
      P1 (.idx [.sc]) [x0, x2] fun v4 =>
      P1 (.conv .i64) [v4] fun v5 =>
      P1 (.bin .add) [v3, v5] fun v6 =>
      P1 (.bin .add) [v6, .int .i64 7] fun v7 =>
      P1 (.bin .and) [v7, .int .i64 1073741823] fun v8 =>
      P1 (.bin .add) [x2, .int .i64 1] fun v9 =>
      Q .normal [x0, v8, v9]) (
      Q (.exit 0) [x0, x1])) (
    Q (.exit 0) [x0, x1])) := by kernel_rfl

def spec_l01New_r1 : L := .seq (.rg []) (.ret [.v 0, .k (.int .i64 0), .v 1])
theorem spec_l01New_r1_sh (Q : QT) (x0 x1 : V) : shL spec_l01New_r1 Q [x0, x1] = (
  Q .ret [x0, .int .i64 0, x1]) := by kernel_rfl

def spec_l01New_L : L := .seq (.rg []) (.seq (.rg [⟨[], .len, [.v 0], 1⟩, ⟨[], .bin .add, [.k (.int .i64 33091), .v 1], 1⟩]) (.seq (.seq (.rg []) (.block 0 (.seq (.tup [.v 0, .v 2, .k (.int .i64 0)]) (.loop (spec_l01New_b0))))) (spec_l01New_r1)))
theorem spec_l01New_L_sh (Q : QT) (x0 : V) : shL spec_l01New_L Q [x0] = (
  P1 (.len) [x0] fun v0 =>
  P1 (.bin .add) [.int .i64 33091, v0] fun v1 =>
  shL (.loop spec_l01New_b0) (qB 0 (qS (shL spec_l01New_r1 Q) Q)) [x0, v1, .int .i64 0]) := by kernel_rfl
def spec_l01New_S : Sig := ⟨[.new [.sl [.sc], .sc, .sc], .val false [.sl [.sc]]], [], F_l01New⟩
def spec_l01New_hs : List NF := [⟨[(0, .sc false [.ro [.sc]]), (3, .sc false [.sc])], [], [], 64⟩, ⟨[(0, .sc false [.ro [.sc]]), (3, .sc false [.sc]), (4, .sc false [.sc])], [], [], 64⟩, ⟨[(0, .sc false [.ro [.sc]]), (3, .sc false [.sc]), (4, .sc false [.sc])], [], [], 64⟩]

def spec_l01Byte_L : L := .seq (.rg []) (.seq (.rg [⟨[], .bin .mul, [.v 2, .k (.int .i64 6364136223846793005)], 1⟩, ⟨[], .bin .add, [.v 3, .k (.int .i64 1442695040888963407)], 1⟩]) (.seq (.rg [⟨[], .bin .shr, [.v 4, .k (.int .u64 33)], 1⟩, ⟨[], .bin .shr, [.v 4, .k (.int .u64 45)], 1⟩, ⟨[], .bin .xor, [.v 5, .v 6], 1⟩, ⟨[], .bin .and, [.v 7, .k (.int .i64 255)], 1⟩]) (.seq (.seq (.rg [⟨[], .len, [.v 0], 1⟩, ⟨[], .bin .lss, [.v 1, .v 9], 1⟩]) (.ite (.v 10) (.seq (.seq (.rg [⟨[], .idx [.sc], [.v 0, .v 1], 1⟩, ⟨[], .conv .i64, [.v 11], 1⟩, ⟨[], .bin .add, [.v 8, .v 12], 1⟩, ⟨[], .bin .and, [.v 13, .k (.int .i64 255)], 1⟩]) (.rg [⟨[], .bin .add, [.v 1, .k (.int .i64 1)], 1⟩])) (.tup [.v 14, .v 0, .v 15, .v 4])) (.seq (.skip) (.tup [.v 8, .v 0, .v 1, .v 4])))) (.seq (.rg []) (.ret [.v 0, .v 2, .v 3])))))
theorem spec_l01Byte_L_sh (Q : QT) (x0 x1 x2 : V) : shL spec_l01Byte_L Q [x0, x1, x2] = (
  P1 (.bin .mul) [x2, .int .i64 6364136223846793005] fun v0 =>
  P1 (.bin .add) [v0, .int .i64 1442695040888963407] fun v1 =>
  P1 (.bin .shr) [v1, .int .u64 33] fun v2 =>
  P1 (.bin .shr) [v1, .int .u64 45] fun v3 =>
  P1 (.bin .xor) [v2, v3] fun v4 =>
  P1 (.bin .and) [v4, .int .i64 255] fun v5 =>
  P1 (.len) [x0] fun v6 =>
  P1 (.bin .lss) [x1, v6] fun v7 =>
  ifB v7 (
    P1 (.idx [.sc]) [x0, x1] fun v8 =>
    P1 (.conv .i64) [v8] fun v9 =>
    P1 (.bin .add) [v5, v9] fun v10 =>
    P1 (.bin .and) [v10, .int .i64 255] fun v11 =>
    P1 (.bin .add) [x1, .int .i64 1] fun v12 =>
    Q .ret [v11, v12, v1]) (
    Q .ret [v5, x1, v1])) := by kernel_rfl
def spec_l01Byte_S : Sig := ⟨[.ptr [.sl [.sc], .sc, .sc]], [(false, [.sc])], F_l01Byte⟩
def spec_l01Byte_hs : List NF := [⟨[(3, .sc false [.sc])], [], [(0, [.ro [.sc], .sc, .sc])], 64⟩]

def spec_l01Below_L : L := .seq (.rg []) (.seq (.seq (.rg [⟨[], .bin .leq, [.v 3, .k (.int .i64 0)], 1⟩]) (.ite (.v 4) (.seq (.rg []) (.ret [.k (.int .i64 0), .v 1, .v 2])) (.skip))) (.seq (.seq (.rg [⟨[], .bin .leq, [.v 3, .k (.int .i64 256)], 1⟩]) (.ite (.v 5) (.seq (.rg [⟨[], .call F_l01Byte 0 1, [.v 0, .v 1, .v 2], 3⟩, ⟨[], .bin .rem, [.v 6, .v 3], 1⟩]) (.ret [.v 9, .v 7, .v 8])) (.skip))) (.seq (.rg [⟨[], .call F_l01Byte 0 1, [.v 0, .v 1, .v 2], 3⟩]) (.seq (.rg [⟨[], .call F_l01Byte 0 1, [.v 0, .v 7, .v 8], 3⟩]) (.seq (.rg [⟨[], .call F_l01Byte 0 1, [.v 0, .v 10, .v 11], 3⟩]) (.seq (.rg [⟨[], .call F_l01Byte 0 1, [.v 0, .v 13, .v 14], 3⟩]) (.seq (.rg [⟨[], .bin .mul, [.v 6, .k (.int .i64 16777216)], 1⟩, ⟨[], .bin .mul, [.v 9, .k (.int .i64 65536)], 1⟩, ⟨[], .bin .add, [.v 18, .v 19], 1⟩, ⟨[], .bin .mul, [.v 12, .k (.int .i64 256)], 1⟩, ⟨[], .bin .add, [.v 20, .v 21], 1⟩, ⟨[], .bin .add, [.v 22, .v 15], 1⟩, ⟨[], .bin .rem, [.v 23, .v 3], 1⟩]) (.ret [.v 24, .v 16, .v 17]))))))))
theorem spec_l01Below_L_sh (Q : QT) (x0 x1 x2 x3 : V) : shL spec_l01Below_L Q [x0, x1, x2, x3] = (
  P1 (.bin .leq) [x3, .int .i64 0] fun v0 =>
  ifB v0 (
    Q .ret [.int .i64 0, x1, x2]) (
    P1 (.bin .leq) [x3, .int .i64 256] fun v1 =>
    ifB v1 (
      P3 (.call F_l01Byte 0 1) [x0, x1, x2] fun v2 v3 v4 =>
      P1 (.bin .rem) [v2, x3] fun v5 =>
      Q .ret [v5, v3, v4]) (
      P3 (.call F_l01Byte 0 1) [x0, x1, x2] fun v6 v7 v8 =>
      P3 (.call F_l01Byte 0 1) [x0, v7, v8] fun v9 v10 v11 =>
      P3 (.call F_l01Byte 0 1) [x0, v10, v11] fun v12 v13 v14 =>
      P3 (.call F_l01Byte 0 1) [x0, v13, v14] fun v15 v16 v17 =>
      P1 (.bin .mul) [v6, .int .i64 16777216] fun v18 =>
      P1 (.bin .mul) [v9, .int .i64 65536] fun v19 =>
      P1 (.bin .add) [v18, v19] fun v20 =>
      P1 (.bin .mul) [v12, .int .i64 256] fun v21 =>
      P1 (.bin .add) [v20, v21] fun v22 =>
      P1 (.bin .add) [v22, v15] fun v23 =>
      P1 (.bin .rem) [v23, x3] fun v24 =>
      Q .ret [v24, v16, v17]))) := by kernel_rfl
def spec_l01Below_S : Sig := ⟨[.ptr [.sl [.sc], .sc, .sc], .val false [.sc]], [(false, [.sc])], F_l01Below⟩
def spec_l01Below_hs : List NF := []

def spec_l06Put_b0 : L := .seq (.seq (.seq (.rg [⟨[], .len, [.v 0], 1⟩, ⟨[], .bin .lss, [.v 1, .v 4], 1⟩, ⟨[(.v 5, true)], .idx [.sc, .sc], [.v 0, .v 1], 2⟩, ⟨[(.v 5, true)], .call F_l06Less 0 1, [.v 6, .v 7, .v 2, .v 3], 1⟩, ⟨[], .pick, [.v 5, .v 8, .k (.bool false)], 1⟩]) (.ite (.v 9) (.skip) (.seq (.tup [.v 0, .v 1, .v 2, .v 3]) (.exit 0)))) (.block 1 (.seq (.rg [⟨[], .bin .add, [.v 1, .k (.int .i64 1)], 1⟩]) (.tup [.v 0, .v 10, .v 2, .v 3])))) (.tup [.v 0, .v 1, .v 2, .v 3])
theorem spec_l06Put_b0_sh (Q : QT) (x0 x1 x2 x3 : V) : shL spec_l06Put_b0 Q [x0, x1, x2, x3] = (
  P1 (.len) [x0] fun v0 =>
  P1 (.bin .lss) [x1, v0] fun v1 =>
  ifB v1 (
    P2 (.idx [.sc, .sc]) [x0, x1] fun v2 v3 =>
    P1 (.call F_l06Less 0 1) [v2, v3, x2, x3] fun v4 =>
    ifB v4 (
      P1 (.bin .add) [x1, .int .i64 1] fun v5 =>
      Q .normal [x0, v5, x2, x3]) (
      Q (.exit 0) [x0, x1, x2, x3])) (
    Q (.exit 0) [x0, x1, x2, x3])) := by kernel_rfl

def spec_l06Put_r1 : L := .seq (.seq (.rg [⟨[], .len, [.v 0], 1⟩, ⟨[], .bin .lss, [.v 1, .v 4], 1⟩, ⟨[(.v 5, true)], .idx [.sc, .sc], [.v 0, .v 1], 2⟩, ⟨[(.v 5, true)], .eqa false [.i, .i], [.v 6, .v 7, .v 2, .v 3], 1⟩, ⟨[], .pick, [.v 5, .v 8, .k (.bool false)], 1⟩]) (.ite (.v 9) (.seq (.rg [⟨[], .lst [.sc, .sc] true 0, [], 1⟩, ⟨[], .app [.sc, .sc] 16, [.v 10, .v 0], 1⟩]) (.ret [.v 11, .k (.bool false)])) (.skip))) (.seq (.rg [⟨[], .lst [.sc, .sc] true 0, [], 1⟩, ⟨[], .lsub [.sc, .sc], [.v 0, .k (.int .i64 0), .v 1], 1⟩, ⟨[], .app [.sc, .sc] 16, [.v 10, .v 11], 1⟩, ⟨[], .lst [.sc, .sc] true 1, [.v 2, .v 3], 1⟩, ⟨[], .app [.sc, .sc] 16, [.v 12, .v 13], 1⟩, ⟨[], .lsub [.sc, .sc], [.v 0, .v 1], 1⟩, ⟨[], .app [.sc, .sc] 16, [.v 14, .v 15], 1⟩]) (.ret [.v 16, .k (.bool true)]))
theorem spec_l06Put_r1_sh (Q : QT) (x0 x1 x2 x3 : V) : shL spec_l06Put_r1 Q [x0, x1, x2, x3] = (
  P1 (.len) [x0] fun v0 =>
  P1 (.bin .lss) [x1, v0] fun v1 =>
  ifB v1 (
    P2 (.idx [.sc, .sc]) [x0, x1] fun v2 v3 =>
    P1 (.eqa false [.i, .i]) [v2, v3, x2, x3] fun v4 =>
    ifB v4 (
      P1 (.lst [.sc, .sc] true 0) [] fun v5 =>
      P1 (.app [.sc, .sc] 16) [v5, x0] fun v6 =>
      Q .ret [v6, .bool false]) (
      P1 (.lst [.sc, .sc] true 0) [] fun v7 =>
      P1 (.lsub [.sc, .sc]) [x0, .int .i64 0, x1] fun v8 =>
      P1 (.app [.sc, .sc] 16) [v7, v8] fun v9 =>
      P1 (.lst [.sc, .sc] true 1) [x2, x3] fun v10 =>
      P1 (.app [.sc, .sc] 16) [v9, v10] fun v11 =>
      P1 (.lsub [.sc, .sc]) [x0, x1] fun v12 =>
      P1 (.app [.sc, .sc] 16) [v11, v12] fun v13 =>
      Q .ret [v13, .bool true])) (
    P1 (.lst [.sc, .sc] true 0) [] fun v14 =>
    P1 (.lsub [.sc, .sc]) [x0, .int .i64 0, x1] fun v15 =>
    P1 (.app [.sc, .sc] 16) [v14, v15] fun v16 =>
    P1 (.lst [.sc, .sc] true 1) [x2, x3] fun v17 =>
    P1 (.app [.sc, .sc] 16) [v16, v17] fun v18 =>
    P1 (.lsub [.sc, .sc]) [x0, x1] fun v19 =>
    P1 (.app [.sc, .sc] 16) [v18, v19] fun v20 =>
    Q .ret [v20, .bool true])) := by kernel_rfl

def spec_l06Put_L : L := .seq (.rg []) (.seq (.rg []) (.seq (.block 0 (.seq (.tup [.v 0, .k (.int .i64 0), .v 1, .v 2]) (.loop (spec_l06Put_b0)))) (spec_l06Put_r1)))
theorem spec_l06Put_L_sh (Q : QT) (x0 x1 x2 : V) : shL spec_l06Put_L Q [x0, x1, x2] = (
  shL (.loop spec_l06Put_b0) (qB 0 (qS (shL spec_l06Put_r1 Q) Q)) [x0, .int .i64 0, x1, x2]) := by kernel_rfl
def spec_l06Put_S : Sig := ⟨[.val false [.sl [.sc, .sc]], .val true [.sc, .sc]], [(false, [.sl [.sc, .sc]]), (false, [.sc])], F_l06Put⟩
def spec_l06Put_hs : List NF := [⟨[(0, .sc false [.ro [.sc, .sc]]), (3, .ptr 64 0), (6, .sc false [.sc])], [], [(64, [.sc, .sc])], 65⟩, ⟨[(0, .sc false [.ro [.sc, .sc]]), (3, .ptr 64 0), (6, .sc false [.sc])], [], [(64, [.sc, .sc])], 65⟩, ⟨[(0, .sc false [.ro [.sc, .sc]]), (3, .ptr 64 0), (6, .sc false [.sc])], [], [(64, [.sc, .sc])], 65⟩]

def spec_l06Cylinder_b0 : L := .seq (.seq (.seq (.rg [⟨[], .bin .gtr, [.v 0, .k (.int .i64 0)], 1⟩]) (.ite (.v 9) (.skip) (.seq (.tup [.v 1, .v 2, .v 3, .v 4, .v 5, .v 6, .v 7, .v 8]) (.exit 0)))) (.seq (.block 1 (.seq (.rg [⟨[], .call F_l01Below 0 1, [.v 2, .v 3, .v 4, .v 8], 3⟩, ⟨[], .call F_l01Below 0 1, [.v 2, .v 11, .v 12, .v 7], 3⟩, ⟨[], .call F_l06Put 0 2, [.v 1, .v 10, .v 13], 2⟩]) (.tup [.v 0, .v 16, .v 2, .v 14, .v 15, .v 5, .v 6, .v 7, .v 8]))) (.rg [⟨[], .bin .sub, [.v 0, .k (.int .i64 1)], 1⟩]))) (.tup [.v 9, .v 1, .v 2, .v 3, .v 4, .v 5, .v 6, .v 7, .v 8])
theorem spec_l06Cylinder_b0_sh (Q : QT) (x0 x1 x2 x3 x4 x5 x6 x7 x8 : V) : shL spec_l06Cylinder_b0 Q [x0, x1, x2, x3, x4, x5, x6, x7, x8] = (
  P1 (.bin .gtr) [x0, .int .i64 0] fun v0 =>
  ifB v0 (
    P3 (.call F_l01Below 0 1) [x2, x3, x4, x8] fun v1 v2 v3 =>
    P3 (.call F_l01Below 0 1) [x2, v2, v3, x7] fun v4 v5 v6 =>
    P2 (.call F_l06Put 0 2) [x1, v1, v4] fun v7 _ =>
    P1 (.bin .sub) [x0, .int .i64 1] fun v9 =>
    Q .normal [v9, v7, x2, v5, v6, x5, x6, x7, x8]) (
    Q (.exit 0) [x1, x2, x3, x4, x5, x6, x7, x8])) := by kernel_rfl

def spec_l06Cylinder_r1 : L := .seq (.rg []) (.ret [.v 6, .v 7, .v 0, .v 2, .v 3])
theorem spec_l06Cylinder_r1_sh (Q : QT) (x0 x1 x2 x3 x4 x5 x6 x7 : V) : shL spec_l06Cylinder_r1 Q [x0, x1, x2, x3, x4, x5, x6, x7] = (
  Q .ret [x6, x7, x0, x2, x3]) := by kernel_rfl

def spec_l06Cylinder_L : L := .seq (.rg []) (.seq (.rg [⟨[], .call F_l01Below 0 1, [.v 0, .v 1, .v 2, .k (.int .i64 21)], 3⟩, ⟨[], .bin .add, [.k (.int .i64 4), .v 3], 1⟩, ⟨[], .call F_l01Below 0 1, [.v 0, .v 4, .v 5, .k (.int .i64 8)], 3⟩, ⟨[], .bin .add, [.k (.int .i64 1), .v 7], 1⟩]) (.seq (.seq (.rg [⟨[], .call F_l01Below 0 1, [.v 0, .v 8, .v 9, .k (.int .i64 10)], 3⟩]) (.block 0 (.seq (.tup [.v 11, .k (.list [.sc, .sc] []), .v 0, .v 12, .v 13, .k (.int .i64 0), .k (.int .i64 0), .v 6, .v 10]) (.loop (spec_l06Cylinder_b0))))) (spec_l06Cylinder_r1)))
theorem spec_l06Cylinder_L_sh (Q : QT) (x0 x1 x2 : V) : shL spec_l06Cylinder_L Q [x0, x1, x2] = (
  P3 (.call F_l01Below 0 1) [x0, x1, x2, .int .i64 21] fun v0 v1 v2 =>
  P1 (.bin .add) [.int .i64 4, v0] fun v3 =>
  P3 (.call F_l01Below 0 1) [x0, v1, v2, .int .i64 8] fun v4 v5 v6 =>
  P1 (.bin .add) [.int .i64 1, v4] fun v7 =>
  P3 (.call F_l01Below 0 1) [x0, v5, v6, .int .i64 10] fun v8 v9 v10 =>
  shL (.loop spec_l06Cylinder_b0) (qB 0 (qS (shL spec_l06Cylinder_r1 Q) Q)) [v8, .list [.sc, .sc] [], x0, v9, v10, .int .i64 0, .int .i64 0, v3, v7]) := by kernel_rfl
def spec_l06Cylinder_S : Sig := ⟨[.ptr [.sl [.sc], .sc, .sc]], [(true, [.sc, .sc, .sl [.sc, .sc]])], F_l06Cylinder⟩
def spec_l06Cylinder_hs : List NF := [⟨[(2, .ptr 64 0), (3, .ptr 65 0)], [(66, true, [.sc, .sc])], [(0, [.ro [.sc], .sc, .sc]), (64, [.sc, .sc, .nil]), (65, [.sc, .sc, .own 66])], 67⟩, ⟨[(0, .ptr 0 0), (2, .ptr 64 0), (3, .ptr 65 0), (4, .sc false [.sc])], [(66, true, [.sc, .sc])], [(0, [.ro [.sc], .sc, .sc]), (64, [.sc, .sc, .nil]), (65, [.sc, .sc, .own 66])], 67⟩, ⟨[(0, .ptr 0 0), (2, .ptr 64 0), (3, .ptr 65 0), (4, .sc false [.sc])], [(66, true, [.sc, .sc])], [(0, [.ro [.sc], .sc, .sc]), (64, [.sc, .sc, .nil]), (65, [.sc, .sc, .own 66])], 67⟩]

def spec_l01PickInt_L : L := .seq (.rg []) (.seq (.rg [⟨[], .len, [.v 3], 1⟩, ⟨[], .call F_l01Below 0 1, [.v 0, .v 1, .v 2, .v 4], 3⟩, ⟨[], .idx [.sc], [.v 3, .v 5], 1⟩]) (.ret [.v 8, .v 6, .v 7]))
theorem spec_l01PickInt_L_sh (Q : QT) (x0 x1 x2 x3 : V) : shL spec_l01PickInt_L Q [x0, x1, x2, x3] = (
  P1 (.len) [x3] fun v0 =>
  P3 (.call F_l01Below 0 1) [x0, x1, x2, v0] fun v1 v2 v3 =>
  P1 (.idx [.sc]) [x3, v1] fun v4 =>
  Q .ret [v4, v2, v3]) := by kernel_rfl
def spec_l01PickInt_S : Sig := ⟨[.ptr [.sl [.sc], .sc, .sc], .val false [.sl [.sc]]], [(false, [.sc])], F_l01PickInt⟩
def spec_l01PickInt_hs : List NF := []

end
end Go.Mw

/- Draws. -/
namespace Go.Mw
theorem land_range (a : Int) (m : Nat) (hm : m < 4611686018427387904) : 0 ≤ land a m ∧ land a m ≤ m := by
  have h : (BitVec.ofInt IntKind.i64.bits a &&& BitVec.ofInt IntKind.i64.bits (m : Int)).toNat ≤ m := by
    rw [BitVec.toNat_and]
    refine Nat.le_trans Nat.and_le_right ?_
    simp [BitVec.toNat_ofInt, IntKind.bits]
    omega
  unfold land
  rw [wrap_id (by omega) (by omega)]
  omega
theorem land255 (a : Int) : 0 ≤ land a 255 ∧ land a 255 ≤ 255 := land_range a 255 (by omega)
theorem hByte_range (h : Int) : 0 ≤ hByte h ∧ hByte h ≤ 255 := land255 _
theorem cByte_range (x : Cur) : 0 ≤ cByte x ∧ cByte x ≤ 255 := by
  unfold cByte
  split
  · exact land255 _
  · exact hByte_range _
@[simp] theorem cStep_b (x : Cur) : (cStep x).b = x.b := rfl
theorem cStep_i {x : Cur} (h : 0 ≤ x.i) : 0 ≤ (cStep x).i := by unfold cStep; dsimp only; split <;> omega
@[simp] theorem cAfter_b (x : Cur) (n : Int) : (cAfter x n).b = x.b := by unfold cAfter; split <;> (try split) <;> simp
theorem cAfter_i {x : Cur} {n : Int} (h : 0 ≤ x.i) : 0 ≤ (cAfter x n).i := by
  unfold cAfter
  split
  · exact h
  · split
    · exact cStep_i h
    · exact cStep_i (cStep_i (cStep_i (cStep_i h)))
theorem tmod_range {a n : Int} (ha : 0 ≤ a) (hn : 0 < n) : 0 ≤ a.tmod n ∧ a.tmod n < n := ⟨Int.tmod_nonneg _ ha, Int.tmod_lt_of_pos _ hn⟩
theorem cBelow_range (x : Cur) {n : Int} (hn : 0 < n) : 0 ≤ cBelow x n ∧ cBelow x n < n := by
  unfold cBelow
  rw [if_neg (by omega)]
  have h1 := cByte_range x
  have h2 := cByte_range (cStep x)
  have h3 := cByte_range (cStep (cStep x))
  have h4 := cByte_range (cStep (cStep (cStep x)))
  split
  · exact tmod_range (by omega) hn
  · exact tmod_range (by omega) hn

theorem laws_big_ok : ∀ ds outs, F_big ds = some outs → shL laws_big_L (qRet outs) ds := F_big_elim fun l hp => by
  rw [laws_big_L_sh]; simp; omega
theorem spec_l01New_ok : ∀ ds outs, F_l01New ds = some outs → shL spec_l01New_L (qRet outs) ds := F_l01New_elim fun l hp => by
  rw [spec_l01New_L_sh]
  have hw : IntKind.i64.wrap (33091 + (l.length : Int)) = 33091 + l.length := wrap_id (by omega) (by omega)
  simp only [P1_len, P1_add, hw]
  refine loop_upto (min l.length 4000) (fun k => [vL I1 vY l, .int .i64 (seedTo l k), .int .i64 k]) (by intro i j _ _ h; simp at h; omega) (fun _ => True) (by simp [seedTo]) trivial ?_
  intro k hk _
  rw [spec_l01New_b0_sh]
  simp
  refine ⟨fun h => ⟨fun h2 => ?_, fun h2 => ?_⟩, fun h => ?_⟩
  · have hw2 : IntKind.i64.wrap ((k : Int) + 1) = k + 1 := wrap_id (by omega) (by omega)
    have hw3 : IntKind.i64.wrap (l[k].toNat : Int) = l[k].toNat := by have := l[k].toNat_lt; exact wrap_id (by omega) (by omega)
    simp [h, hw2, hw3, seedTo]
    omega
  · obtain rfl : k = min l.length 4000 := by omega
    simp [spec_l01New_r1_sh, seedOf]
  · obtain rfl : k = min l.length 4000 := by omega
    simp [spec_l01New_r1_sh, seedOf]
theorem spec_l01Byte_ok : ∀ ds outs, F_l01Byte ds = some outs → shL spec_l01Byte_L (qRet outs) ds := F_l01Byte_elim fun x hp => by
  rw [spec_l01Byte_L_sh]
  have e33 : min (33 : Int).toNat IntKind.i64.bits = 33 := by decide
  have e45 : min (45 : Int).toNat IntKind.i64.bits = 45 := by decide
  simp only [P1_mul, P1_add, P1_shr (show (0 : Int) ≤ 33 by omega), P1_shr (show (0 : Int) ≤ 45 by omega), e33, e45, P1_xor, P1_and, P1_len, P1_lss, ifB_bool, decide_eq_true_eq, decide_eq_false_iff_not]
  have eh : IntKind.i64.wrap (IntKind.i64.wrap (x.h * 6364136223846793005) + 1442695040888963407) = hNext x.h := rfl
  have eb : land (lxor ((hNext x.h).fdiv (2 ^ 33)) ((hNext x.h).fdiv (2 ^ 45))) 255 = hByte (hNext x.h) := rfl
  simp only [eh, eb]
  refine ⟨fun h => ?_, fun h => ?_⟩
  · have hi : x.i.toNat < x.b.length := by omega
    have hw2 : IntKind.i64.wrap (x.i + 1) = x.i + 1 := wrap_id (by omega) (by omega)
    have hw3 : IntKind.i64.wrap (x.b[x.i.toNat].toNat : Int) = x.b[x.i.toNat].toNat := by have := x.b[x.i.toNat].toNat_lt; exact wrap_id (by omega) (by omega)
    simp [hp.1, hi, h, hw2, hw3, cByte, cStep]
  · have hi : x.b[x.i.toNat]? = none := by rw [List.getElem?_eq_none_iff]; omega
    simp [hi, h, cByte, cStep]
theorem q_byte {b : List UInt8} (c : Cur) {n : Nat} {k : V → V → V → Prop} (hb : c.b = b) (h : 0 ≤ c.i) (hl : b.length ≤ 1048576) : P3 (.call F_l01Byte 0 n) [vL I1 vY b, .int .i64 c.i, .int .i64 c.h] k ↔ k (.int .i64 (cByte c)) (.int .i64 (cStep c).i) (.int .i64 (cStep c).h) := by
  subst hb; exact p_l01Byte ⟨h, hl⟩
theorem spec_l01Below_ok : ∀ ds outs, F_l01Below ds = some outs → shL spec_l01Below_L (qRet outs) ds := F_l01Below_elim fun x n hp => by
  rw [spec_l01Below_L_sh]
  have hb := hp.2
  have i0 := hp.1
  have i1 := cStep_i i0
  have i2 := cStep_i i1
  have i3 := cStep_i i2
  have h1 := cByte_range x
  have h2 := cByte_range (cStep x)
  have h3 := cByte_range (cStep (cStep x))
  have h4 := cByte_range (cStep (cStep (cStep x)))
  by_cases hn : n ≤ 0
  · simp [hn, cBelow, cAfter]
  · by_cases hn2 : n ≤ 256
    · simp [hn, hn2, cBelow, cAfter, q_byte x, i0, hb]; omega
    · have w1 : IntKind.i64.wrap (cByte x * 16777216) = cByte x * 16777216 := wrap_id (by omega) (by omega)
      have w2 : IntKind.i64.wrap (cByte (cStep x) * 65536) = cByte (cStep x) * 65536 := wrap_id (by omega) (by omega)
      have w3 : IntKind.i64.wrap (cByte x * 16777216 + cByte (cStep x) * 65536) = cByte x * 16777216 + cByte (cStep x) * 65536 := wrap_id (by omega) (by omega)
      have w4 : IntKind.i64.wrap (cByte (cStep (cStep x)) * 256) = cByte (cStep (cStep x)) * 256 := wrap_id (by omega) (by omega)
      have w5 : IntKind.i64.wrap (cByte x * 16777216 + cByte (cStep x) * 65536 + cByte (cStep (cStep x)) * 256) = cByte x * 16777216 + cByte (cStep x) * 65536 + cByte (cStep (cStep x)) * 256 := wrap_id (by omega) (by omega)
      have w6 : IntKind.i64.wrap (cByte x * 16777216 + cByte (cStep x) * 65536 + cByte (cStep (cStep x)) * 256 + cByte (cStep (cStep (cStep x)))) = cByte x * 16777216 + cByte (cStep x) * 65536 + cByte (cStep (cStep x)) * 256 + cByte (cStep (cStep (cStep x))) := wrap_id (by omega) (by omega)
      simp only [P1_leq, ifB_bool, decide_eq_true_eq, decide_eq_false_iff_not]
      refine ⟨fun h => absurd h hn, fun _ => ⟨fun h => absurd h hn2, fun _ => ?_⟩⟩
      rw [q_byte (b := x.b) x rfl i0 hb, q_byte (b := x.b) (cStep x) rfl i1 hb, q_byte (b := x.b) (cStep (cStep x)) rfl i2 hb, q_byte (b := x.b) (cStep (cStep (cStep x))) rfl i3 hb]
      simp [hn, hn2, cBelow, cAfter, w1, w2, w3, w4, w5, w6]; omega
theorem q_below {b : List UInt8} (c : Cur) {n : Int} {m : Nat} {k : V → V → V → Prop} (hb : c.b = b) (h : 0 ≤ c.i) (hl : b.length ≤ 1048576) : P3 (.call F_l01Below 0 m) [vL I1 vY b, .int .i64 c.i, .int .i64 c.h, .int .i64 n] k ↔ k (.int .i64 (cBelow c n)) (.int .i64 (cAfter c n).i) (.int .i64 (cAfter c n).h) := by
  subst hb; exact p_l01Below ⟨h, hl⟩

/-! putting a pin -/
theorem put_at : ∀ (l : List T2) (y : T2) (i : Nat), (∀ j (h : j < l.length), j < i → pinLess l[j] y = true) → i ≤ l.length → (∀ (h : i < l.length), pinLess l[i] y = false) →
    putPin l y = (if l[i]? = some y then l else l.take i ++ [y] ++ l.drop i) ∧ putNew l y = !decide (l[i]? = some y)
  | [], y, i, _, hi, _ => by
    obtain rfl : i = 0 := by simpa using hi
    simp [putPin, putNew]
  | a :: r, y, 0, _, _, h => by
    have h := h (by simp)
    simp only [List.getElem_cons_zero] at h
    by_cases e : a = y
    · subst e; simp [putPin, putNew, h]
    · simp [putPin, putNew, h, e]
  | a :: r, y, i + 1, h1, h2, h3 => by
    have ha := h1 0 (by simp) (by omega)
    simp only [List.getElem_cons_zero] at ha
    have ih := put_at r y i (fun j hj hji => by have := h1 (j + 1) (by simp; omega) (by omega); simpa using this) (by simpa using h2) (fun h => by have := h3 (by simp; omega); simpa using this)
    simp only [putPin, putNew, ha, if_true, List.getElem?_cons_succ, ih.1, ih.2, List.take_succ_cons, List.drop_succ_cons]
    refine ⟨?_, trivial⟩
    split <;> simp
theorem spec_l06Put_ok : ∀ ds outs, F_l06Put ds = some outs → shL spec_l06Put_L (qRet outs) ds := F_l06Put_elim fun l y hp => by
  rw [spec_l06Put_L_sh]
  refine loop_upto l.length (fun k => [vL I2 v2 l, .int .i64 k, .int .i64 y.a, .int .i64 y.b]) (by intro i j _ _ h; simp at h; omega) (fun k => ∀ j (h : j < l.length), j < k → pinLess l[j] y = true) (by simp) (by simp) ?_
  intro k hk hP
  have fin : (∀ (h : k < l.length), pinLess l[k] y = false) → shL spec_l06Put_r1 (qRet [vL I2 v2 (putPin l y), .bool (putNew l y)]) [vL I2 v2 l, .int .i64 k, .int .i64 y.a, .int .i64 y.b] := by
    intro h
    obtain ⟨e1, e2⟩ := put_at l y k hP hk h
    rw [spec_l06Put_r1_sh, e1, e2]
    by_cases hl : k < l.length
    · by_cases hy : l[k] = y
      · have h5 : l[k].a = y.a ∧ l[k].b = y.b := by rw [hy]; exact ⟨rfl, rfl⟩
        simp [hl, hy]; omega
      · have h5 : ¬ (l[k].a = y.a ∧ l[k].b = y.b) := fun h => hy (by cases hh : l[k]; rw [hh] at h; cases y; simp_all)
        simp [hl, hy, h5]; omega
    · have h6 : k = l.length := by omega
      subst h6
      simp; omega
  rw [spec_l06Put_b0_sh]
  simp
  refine ⟨fun h => ?_, fun h => fin (fun h2 => absurd h2 (by omega))⟩
  simp only [List.getElem?_eq_getElem h, Option.some.injEq, exists_eq_left']
  cases hl : pinLess l[k] y with
  | false =>
    simp [hl]
    exact fin (fun _ => hl)
  | true =>
    have hw : IntKind.i64.wrap ((k : Int) + 1) = k + 1 := wrap_id (by omega) (by omega)
    simp [hl, hw, h]
    intro j hj hjk
    by_cases e : j = k
    · subst e; exact hl
    · exact hP j hj (by omega)
theorem putPin_len (l : List T2) (y : T2) : (putPin l y).length ≤ l.length + 1 := by
  induction l with
  | nil => simp [putPin]
  | cons a r ih => unfold putPin; split <;> (try split) <;> simp <;> omega
end Go.Mw

/- Drawn cylinders and states. -/
namespace Go.Mw
theorem within_iff' {a b c : Int} : within a b c = true ↔ b ≤ a ∧ a ≤ c := by simp [within]
@[simp] theorem P1_lstI3 {a b c : Int} {k : V → Prop} : P1 (.lst [.sc] false 3) [.int .i64 a, .int .i64 b, .int .i64 c] k ↔ k (vL I1 v1 [a, b, c]) := P1_of (by simp [Prim.run, aksOk, akOk, chunk, V.pack, vL, v1]) k

theorem pinLess_or {a b : T2} (h : pinLess a b = false) (hne : a ≠ b) : pinLess b a = true := by
  cases a; cases b
  simp only [pinLess, decide_eq_false_iff_not, decide_eq_true_eq, ne_eq, T2.mk.injEq] at *
  omega
theorem rising_cons {a : T2} {r : List T2} : rising (a :: r) = true ↔ (∀ h, r.head? = some h → pinLess a h = true) ∧ rising r = true := by
  cases r <;> simp [rising]
theorem putPin_head {l : List T2} {y h : T2} (hh : (putPin l y).head? = some h) : h = y ∨ l.head? = some h := by
  cases l with
  | nil => simp [putPin] at hh; exact .inl hh.symm
  | cons a r =>
    unfold putPin at hh
    split at hh
    · simp at hh; exact .inr (by simp [hh])
    · split at hh
      · simp at hh; exact .inr (by simp [hh])
      · simp at hh; exact .inl hh.symm
theorem putPin_rising {l : List T2} {y : T2} (h : rising l = true) : rising (putPin l y) = true := by
  induction l with
  | nil => simp [putPin, rising]
  | cons a r ih =>
    have hr := rising_cons.1 h
    unfold putPin
    by_cases h1 : pinLess a y = true
    · rw [if_pos h1, rising_cons]
      refine ⟨fun b hb => ?_, ih hr.2⟩
      rcases putPin_head hb with rfl | hb
      · exact h1
      · exact hr.1 b hb
    · rw [if_neg h1]
      by_cases h2 : a = y
      · rw [if_pos h2]; exact h
      · rw [if_neg h2, rising_cons]
        refine ⟨fun b hb => ?_, h⟩
        simp only [List.head?_cons, Option.some.injEq] at hb
        subst hb
        exact pinLess_or (by simpa using h1) h2
theorem putPin_mem {l : List T2} {y p : T2} (h : p ∈ putPin l y) : p = y ∨ p ∈ l := by
  induction l with
  | nil => simpa [putPin] using h
  | cons a r ih =>
    unfold putPin at h
    split at h
    · rcases List.mem_cons.1 h with rfl | h
      · simp
      · rcases ih h with h | h
        · exact .inl h
        · exact .inr (by simp [h])
    · split at h
      · exact .inr h
      · rcases List.mem_cons.1 h with h | h
        · exact .inl h
        · exact .inr h

theorem cyl_inv (s t : Int) (x : Cur) (hs : 0 < s) (ht : 0 < t) (hi : 0 ≤ x.i) (k : Nat) :
    (cylTo s t x k).2.b = x.b ∧ 0 ≤ (cylTo s t x k).2.i ∧ (cylTo s t x k).1.length ≤ k ∧ rising (cylTo s t x k).1 = true ∧ ∀ p ∈ (cylTo s t x k).1, pinIn s t p = true := by
  induction k with
  | zero => exact ⟨rfl, hi, by simp [cylTo], by simp [cylTo, rising], by simp [cylTo]⟩
  | succ k ih =>
    obtain ⟨h1, h2, h3, h4, h5⟩ := ih
    refine ⟨by simp [cylTo, h1], cAfter_i (cAfter_i h2), ?_, putPin_rising h4, fun p hp => ?_⟩
    · exact Nat.le_trans (putPin_len _ _) (by omega)
    · rcases putPin_mem hp with rfl | hp
      · have g1 := cBelow_range (cylTo s t x k).2 ht
        have g2 := cBelow_range (cAfter (cylTo s t x k).2 t) hs
        simp only [pinIn, Bool.and_eq_true, within_iff']
        omega
      · exact h5 p hp
theorem cylX_i {x : Cur} (hi : 0 ≤ x.i) : 0 ≤ (cylX x).i := cAfter_i (cAfter_i (cAfter_i hi))
@[simp] theorem cylX_b (x : Cur) : (cylX x).b = x.b := by simp [cylX]
theorem cyl_r (x : Cur) : (4 ≤ cylS x ∧ cylS x ≤ 24) ∧ (1 ≤ cylT x ∧ cylT x ≤ 8) ∧ (0 ≤ cylN x ∧ cylN x ≤ 9) := by
  have h1 := cBelow_range x (show (0 : Int) < 21 by omega)
  have h2 := cBelow_range (cAfter x 21) (show (0 : Int) < 8 by omega)
  have h3 := cBelow_range (cAfter (cAfter x 21) 8) (show (0 : Int) < 10 by omega)
  simp only [cylS, cylT, cylN]; omega
theorem cylOf_ok {x : Cur} (hi : 0 ≤ x.i) : cylOk (cylOf x) = true ∧ (cylOf x).p.length ≤ 9 := by
  obtain ⟨r1, r2, r3⟩ := cyl_r x
  obtain ⟨-, -, h3, h4, h5⟩ := cyl_inv (cylS x) (cylT x) (cylX x) (by omega) (by omega) (cylX_i hi) (cylN x).toNat
  refine ⟨?_, by simp only [cylOf]; omega⟩
  simp only [cylOk, cylOf, Bool.and_eq_true, within_iff', decide_eq_true_eq, List.all_eq_true]
  have h6 : (cylTo (cylS x) (cylT x) (cylX x) (cylN x).toNat).1.length ≤ 100 := by omega
  exact ⟨⟨⟨by omega, by omega⟩, decide_eq_true h6⟩, h5, h4⟩
theorem spec_l06Cylinder_ok : ∀ ds outs, F_l06Cylinder ds = some outs → shL spec_l06Cylinder_L (qRet outs) ds := F_l06Cylinder_elim fun x hp => by
  obtain ⟨i0, hb⟩ := hp
  have i1 : 0 ≤ (cAfter x 21).i := cAfter_i i0
  have i2 : 0 ≤ (cAfter (cAfter x 21) 8).i := cAfter_i i1
  obtain ⟨r1, r2, r3⟩ := cyl_r x
  have w1 : IntKind.i64.wrap (4 + cBelow x 21) = cylS x := by have : 4 + cBelow x 21 = cylS x := rfl; rw [this]; exact wrap_id (by omega) (by omega)
  have w2 : IntKind.i64.wrap (1 + cBelow (cAfter x 21) 8) = cylT x := by have : 1 + cBelow (cAfter x 21) 8 = cylT x := rfl; rw [this]; exact wrap_id (by omega) (by omega)
  rw [spec_l06Cylinder_L_sh, q_below (b := x.b) x rfl i0 hb]
  simp only [P1_add, w1]
  rw [q_below (b := x.b) (cAfter x 21) (by simp) i1 hb]
  simp only [P1_add, w2]
  rw [q_below (b := x.b) (cAfter (cAfter x 21) 8) (by simp) i2 hb]
  refine loop_upto (cylN x).toNat (fun k => [.int .i64 (cylN x - k), vL I2 v2 (cylTo (cylS x) (cylT x) (cylX x) k).1, vL I1 vY x.b, .int .i64 (cylTo (cylS x) (cylT x) (cylX x) k).2.i, .int .i64 (cylTo (cylS x) (cylT x) (cylX x) k).2.h, .int .i64 0, .int .i64 0, .int .i64 (cylS x), .int .i64 (cylT x)]) (by intro i j _ _ h; simp at h; omega) (fun _ => True) (by simp [cylTo, cylN, cylX]) trivial ?_
  intro k hk _
  obtain ⟨g1, g2, g3, -, -⟩ := cyl_inv (cylS x) (cylT x) (cylX x) (by omega) (by omega) (cylX_i i0) k
  rw [cylX_b] at g1
  rw [spec_l06Cylinder_b0_sh]
  simp only [P1_gtr, ifB_bool, decide_eq_true_eq, decide_eq_false_iff_not]
  refine ⟨fun h => ?_, fun h => ?_⟩
  · rw [q_below (b := x.b) _ g1 g2 hb, q_below (b := x.b) (cAfter _ _) (by simp [g1]) (cAfter_i g2) hb]
    have hw : IntKind.i64.wrap (cylN x - (k : Int) - 1) = cylN x - ((k + 1 : Nat) : Int) := by rw [wrap_id (by omega) (by omega)]; omega
    have hl : (cylTo (cylS x) (cylT x) (cylX x) k).1.length ≤ 1048576 := by omega
    rw [p_l06Put (l := (cylTo (cylS x) (cylT x) (cylX x) k).1) hl]
    simp only [P1_sub, hw]
    exact ⟨by omega, rfl, trivial⟩
  · have e : k = (cylN x).toNat := by omega
    subst e
    simp [spec_l06Cylinder_r1_sh, cylOf, cylEnd]
theorem cylEnd_b {x : Cur} (hi : 0 ≤ x.i) : (cylEnd x).b = x.b ∧ 0 ≤ (cylEnd x).i := by
  obtain ⟨r1, r2, r3⟩ := cyl_r x
  obtain ⟨g1, g2, -⟩ := cyl_inv (cylS x) (cylT x) (cylX x) (by omega) (by omega) (cylX_i hi) (cylN x).toNat
  exact ⟨by rw [cylX_b] at g1; exact g1, g2⟩
theorem spec_l01PickInt_ok : ∀ ds outs, F_l01PickInt ds = some outs → shL spec_l01PickInt_L (qRet outs) ds := F_l01PickInt_elim fun x l hp => by
  obtain ⟨i0, hb, h1, h2⟩ := hp
  rw [spec_l01PickInt_L_sh]
  simp only [P1_len]
  rw [q_below (b := x.b) x rfl i0 hb]
  have hr := cBelow_range x (show (0 : Int) < l.length by omega)
  have h3 : (cBelow x l.length).toNat < l.length := by omega
  simp [h3, hr.1]
theorem q_pick {b : List UInt8} (c : Cur) {l : List Int} {m : Nat} {k : V → V → V → Prop} (hb : c.b = b) (h : 0 ≤ c.i) (hl : b.length ≤ 1048576) (h1 : 1 ≤ l.length) (h2 : l.length ≤ 1048576) : P3 (.call F_l01PickInt 0 m) [vL I1 vY b, .int .i64 c.i, .int .i64 c.h, vL I1 v1 l] k ↔ k (.int .i64 (l[(cBelow c l.length).toNat]?.getD 0)) (.int .i64 (cAfter c l.length).i) (.int .i64 (cAfter c l.length).h) := by
  subst hb; exact p_l01PickInt ⟨h, hl, h1, h2⟩
end Go.Mw

/- Stops. -/
namespace Go.Mw
@[simp] theorem P1_neaX {a c e g : Int} {b f : Bool} {k : V → Prop} : P1 (.eqa true [.i, .b, .i]) [.int .i64 a, .bool b, .int .i64 c, .int .i64 e, .bool f, .int .i64 g] k ↔ k (.bool (!decide (a = e ∧ b = f ∧ c = g))) := P1_of (by simp only [Prim.run, eqVs, eqV1, List.length_cons, List.length_nil, List.take, List.drop, if_true]; cases b <;> cases f <;> simp <;> grind) k
theorem pinsAt_le (c : Cyl) (a : Int) : (pinsAt c a).length ≤ c.p.length := by
  unfold pinsAt
  split
  · simpa using List.length_filter_le _ _
  · simp
theorem it_p (c : Cyl) (x : Stt) : ∀ k, (itS c x k).p = x.p + (itL c x k).length ∧ (itL c x k).length ≤ k * c.p.length
  | 0 => by simp [itS, itL]
  | k + 1 => by
    obtain ⟨h1, h2⟩ := it_p c x k
    have h3 := pinsAt_le c (itS c x k).a
    simp only [itS, itL, nextStt, List.length_append, h1, Nat.add_mul]
    omega
/-- A state of a small cylinder. -/
structure Small (c : Cyl) (x : Stt) : Prop where
  ok : sttOk c x = true
  len : c.p.length ≤ 9
  p : x.p ≤ 77
theorem Small.it {c : Cyl} {x : Stt} (h : Small c x) (hn : x.n = true) {k : Nat} (hk : k ≤ runN c x) : sttOk c (itS c x k) = true := by
  have h0 := (sttOk_iff c x).1 h.ok
  have hb := cylOk_bounds h0.1
  have h1 := it_p c x k
  have h77 := h.p
  have h2 : k * c.p.length ≤ 96 * 9 := Nat.mul_le_mul (by simp only [runN] at hk; omega) h.len
  rw [sttOk_iff]
  refine ⟨h0.1, ?_, by omega⟩
  by_cases e : k < runN c x
  · have := (itS_on h.ok hn k e).1
    simp only [runN] at e
    omega
  · obtain rfl : k = runN c x := by omega
    have := (itS_off h.ok hn).1
    omega
theorem Small.can {c : Cyl} {x : Stt} (h : Small c x) (hn : x.n = true) {k : Nat} (hk : k < runN c x) : canStep c (itS c x k) = true := by
  rw [canStep_iff]
  exact ⟨h.it hn (by omega), (itS_on h.ok hn k hk).2, h.it hn (k := k + 1) hk⟩
def runM (c : Cyl) (x : Stt) : Nat := if x.n then runN c x else 0
theorem Small.steps {c : Cyl} {x : Stt} (h : Small c x) : stepsLeft c x = runM c x := by
  have h0 := (sttOk_iff c x).1 h.ok
  unfold stepsLeft runM
  rw [if_pos h.ok]
  cases x.n
  · simp
  · simp only [if_true, runN]; omega
theorem Small.run {c : Cyl} {x : Stt} (h : Small c x) : runBox c x = (itS c x (runM c x), itL c x (runM c x)) := by
  unfold runBox runM
  cases hn : x.n with
  | false =>
    have : runOk c x = false := by simp [runOk, hn]
    simp [this, itS, itL]
  | true =>
    have : runOk c x = true := by
      simp only [runOk, h.ok, hn, Bool.true_and, List.all_eq_true, List.mem_range]
      intro k hk; exact h.can hn hk
    simp [this]
end Go.Mw

/- The law on stops. -/
namespace Go.Mw
end Go.Mw

/- What functions compute, in plain terms: sums. -/
namespace Go.Mw
end Go.Mw

/- Functions of the program, as small pure programs (printed by a program of ours). -/
namespace Go.Mw
noncomputable section
end
end Go.Mw

/- Drawn digits; swaps. -/
namespace Go.Mw
end Go.Mw

/- Words of digits with a check; the law on sums. -/
namespace Go.Mw
/-- A word of digits. -/
structure Word (w : List Int) : Prop where
  lo : 2 ≤ w.length
  hi : w.length ≤ 21
  dig : ∀ x ∈ w, 0 ≤ x ∧ x ≤ 9
theorem Word.are {w : List Int} (h : Word w) : areDigits w 2 21 = true := by
  rw [areDigits_iff]
  have h1 := h.lo; have h2 := h.hi
  exact ⟨within_iff'.2 (by omega), fun x hx => within_iff'.2 (h.dig x hx)⟩
theorem Word.set {w : List Int} (h : Word w) {k : Nat} {e : Int} (he : 0 ≤ e ∧ e ≤ 9) : Word (w.set k e) := by
  refine ⟨by simpa using h.lo, by simpa using h.hi, fun x hx => ?_⟩
  rcases List.mem_or_eq_of_mem_set hx with hx | rfl
  · exact h.dig x hx
  · exact he
end Go.Mw

/- The law on sums. -/
namespace Go.Mw
end Go.Mw

/- What functions compute, in plain terms: sorted pins; setting a pin. -/
namespace Go.Mw
def addOk (c : Cyl) (p : T2) : Bool := cylOk c && (!decide (p ∈ c.p) && cylOk ⟨c.s, c.t, putPin c.p p⟩)
def addTo (c : Cyl) (p : T2) : Cyl := if addOk c p then ⟨c.s, c.t, putPin c.p p⟩ else c
def E_AddPin : Cyl × T2 → List V := fun (x, y) => [.int .i64 x.s, .int .i64 x.t, vL I2 v2 x.p, .int .i64 y.a, .int .i64 y.b]
noncomputable def F_AddPin : List V → Option (List V) := mkF E_AddPin (fun (x, _) => x.p.length ≤ 1048576) (fun (x, y) => [.int .i64 (addTo x y).s, .int .i64 (addTo x y).t, vL I2 v2 (addTo x y).p, .bool (addOk x y)])
theorem F_AddPin_inj : ∀ x y, E_AddPin x = E_AddPin y → x = y := by
  rintro ⟨⟨xs, xt, xp⟩, ⟨ya, yb⟩⟩ ⟨⟨xs', xt', xp'⟩, ⟨ya', yb'⟩⟩ h
  simpa [E_AddPin, and_assoc] using h
theorem F_AddPin_elim {P : List V → List V → Prop} (h : ∀ (x : Cyl) (y : T2), (x.p.length ≤ 1048576) → P [.int .i64 x.s, .int .i64 x.t, vL I2 v2 x.p, .int .i64 y.a, .int .i64 y.b] [.int .i64 (addTo x y).s, .int .i64 (addTo x y).t, vL I2 v2 (addTo x y).p, .bool (addOk x y)]) : ∀ ds outs, F_AddPin ds = some outs → P ds outs := by
  intro ds outs hh
  obtain ⟨⟨x, y⟩, rfl, hp, rfl⟩ := mkF_inv hh
  exact h x y hp
theorem p_AddPin {x_s : Int} {x_t : Int} {x_p : List T2} {y_a : Int} {y_b : Int} {nr_ : Nat} {kk_ : V → V → V → V → Prop} (hp : (⟨x_s, x_t, x_p⟩ : Cyl).p.length ≤ 1048576) : P4 (.call F_AddPin 0 nr_) [.int .i64 x_s, .int .i64 x_t, vL I2 v2 x_p, .int .i64 y_a, .int .i64 y_b] kk_ ↔ kk_ (.int .i64 (addTo (⟨x_s, x_t, x_p⟩ : Cyl) (⟨y_a, y_b⟩ : T2)).s) (.int .i64 (addTo (⟨x_s, x_t, x_p⟩ : Cyl) (⟨y_a, y_b⟩ : T2)).t) (vL I2 v2 (addTo (⟨x_s, x_t, x_p⟩ : Cyl) (⟨y_a, y_b⟩ : T2)).p) (.bool (addOk (⟨x_s, x_t, x_p⟩ : Cyl) (⟨y_a, y_b⟩ : T2))) :=
  P4_callF (by unfold F_AddPin; exact mkF_eq F_AddPin_inj ((⟨x_s, x_t, x_p⟩ : Cyl), (⟨y_a, y_b⟩ : T2)) hp)

def setPin (b : Bench) (p : T2) : Bench := stepTo b (addTo b.cyl p) (addOk b.cyl p)
def E_SetPin : Bench × T2 → List V := fun (x, y) => [.int .i64 x.s, .int .i64 x.t, vL I2 v2 x.p, vL IL2 vLL2 x.o, .int .i64 y.a, .int .i64 y.b]
noncomputable def F_SetPin : List V → Option (List V) := mkF E_SetPin (fun (x, _) => x.p.length ≤ 1048576 ∧ fitLL x.o) (fun (x, y) => [.int .i64 (setPin x y).s, .int .i64 (setPin x y).t, vL I2 v2 (setPin x y).p, vL IL2 vLL2 (setPin x y).o, .bool (addOk x.cyl y && stepOk x (addTo x.cyl y))])
theorem F_SetPin_inj : ∀ x y, E_SetPin x = E_SetPin y → x = y := by
  rintro ⟨⟨xs, xt, xp, xo⟩, ⟨ya, yb⟩⟩ ⟨⟨xs', xt', xp', xo'⟩, ⟨ya', yb'⟩⟩ h
  simpa [E_SetPin, and_assoc] using h
theorem F_SetPin_elim {P : List V → List V → Prop} (h : ∀ (x : Bench) (y : T2), (x.p.length ≤ 1048576 ∧ fitLL x.o) → P [.int .i64 x.s, .int .i64 x.t, vL I2 v2 x.p, vL IL2 vLL2 x.o, .int .i64 y.a, .int .i64 y.b] [.int .i64 (setPin x y).s, .int .i64 (setPin x y).t, vL I2 v2 (setPin x y).p, vL IL2 vLL2 (setPin x y).o, .bool (addOk x.cyl y && stepOk x (addTo x.cyl y))]) : ∀ ds outs, F_SetPin ds = some outs → P ds outs := by
  intro ds outs hh
  obtain ⟨⟨x, y⟩, rfl, hp, rfl⟩ := mkF_inv hh
  exact h x y hp
theorem p_SetPin {x_s : Int} {x_t : Int} {x_p : List T2} {x_o : List (List T2)} {y_a : Int} {y_b : Int} {nr_ : Nat} {kk_ : V → V → V → V → V → Prop} (hp : (⟨x_s, x_t, x_p, x_o⟩ : Bench).p.length ≤ 1048576 ∧ fitLL (⟨x_s, x_t, x_p, x_o⟩ : Bench).o) : P5 (.call F_SetPin 0 nr_) [.int .i64 x_s, .int .i64 x_t, vL I2 v2 x_p, vL IL2 vLL2 x_o, .int .i64 y_a, .int .i64 y_b] kk_ ↔ kk_ (.int .i64 (setPin (⟨x_s, x_t, x_p, x_o⟩ : Bench) (⟨y_a, y_b⟩ : T2)).s) (.int .i64 (setPin (⟨x_s, x_t, x_p, x_o⟩ : Bench) (⟨y_a, y_b⟩ : T2)).t) (vL I2 v2 (setPin (⟨x_s, x_t, x_p, x_o⟩ : Bench) (⟨y_a, y_b⟩ : T2)).p) (vL IL2 vLL2 (setPin (⟨x_s, x_t, x_p, x_o⟩ : Bench) (⟨y_a, y_b⟩ : T2)).o) (.bool (addOk (⟨x_s, x_t, x_p, x_o⟩ : Bench).cyl (⟨y_a, y_b⟩ : T2) && stepOk (⟨x_s, x_t, x_p, x_o⟩ : Bench) (addTo (⟨x_s, x_t, x_p, x_o⟩ : Bench).cyl (⟨y_a, y_b⟩ : T2)))) :=
  P5_callF (by unfold F_SetPin; exact mkF_eq F_SetPin_inj ((⟨x_s, x_t, x_p, x_o⟩ : Bench), (⟨y_a, y_b⟩ : T2)) hp)

end Go.Mw

/- Functions of the program, as small pure programs (printed by a program of ours). -/
namespace Go.Mw
noncomputable section
def spec_AddPin_L : L := .seq (.rg []) (.seq (.rg [⟨[], .call F_l06Copy 0 3, [.v 0, .v 1, .v 2], 3⟩]) (.seq (.seq (.rg [⟨[], .call F_CylinderOk 0 1, [.v 0, .v 1, .v 2], 1⟩, ⟨[], .un .not, [.v 8], 1⟩]) (.ite (.v 9) (.seq (.rg []) (.ret [.v 5, .v 6, .v 7, .k (.bool false)])) (.skip))) (.seq (.rg [⟨[], .call F_l06Put 0 2, [.v 2, .v 3, .v 4], 2⟩]) (.seq (.rg []) (.seq (.seq (.rg [⟨[], .un .not, [.v 11], 1⟩, ⟨[(.v 12, false)], .call F_CylinderOk 0 1, [.v 5, .v 6, .v 10], 1⟩, ⟨[(.v 12, false)], .un .not, [.v 13], 1⟩, ⟨[], .pick, [.v 12, .k (.bool true), .v 14], 1⟩]) (.ite (.v 15) (.seq (.rg [⟨[], .call F_l06Copy 0 3, [.v 0, .v 1, .v 2], 3⟩]) (.ret [.v 16, .v 17, .v 18, .k (.bool false)])) (.skip))) (.seq (.rg []) (.ret [.v 5, .v 6, .v 10, .k (.bool true)])))))))
theorem spec_AddPin_L_sh (Q : QT) (x0 x1 x2 x3 x4 : V) : shL spec_AddPin_L Q [x0, x1, x2, x3, x4] = (
  P3 (.call F_l06Copy 0 3) [x0, x1, x2] fun v0 v1 v2 =>
  P1 (.call F_CylinderOk 0 1) [x0, x1, x2] fun v3 =>
  P1 (.un .not) [v3] fun v4 =>
  ifB v4 (
    Q .ret [v0, v1, v2, .bool false]) (
    P2 (.call F_l06Put 0 2) [x2, x3, x4] fun v5 v6 =>
    P1 (.un .not) [v6] fun v7 =>
    ifB v7 (
      P3 (.call F_l06Copy 0 3) [x0, x1, x2] fun v8 v9 v10 =>
      Q .ret [v8, v9, v10, .bool false]) (
      P1 (.call F_CylinderOk 0 1) [v0, v1, v5] fun v11 =>
      P1 (.un .not) [v11] fun v12 =>
      ifB v12 (
        P3 (.call F_l06Copy 0 3) [x0, x1, x2] fun v13 v14 v15 =>
        Q .ret [v13, v14, v15, .bool false]) (
        Q .ret [v0, v1, v5, .bool true])))) := by kernel_rfl
def spec_AddPin_S : Sig := ⟨[.val true [.sc, .sc, .sl [.sc, .sc]], .val true [.sc, .sc]], [(true, [.sc, .sc, .sl [.sc, .sc]]), (false, [.sc])], F_AddPin⟩
def spec_AddPin_hs : List NF := []

def spec_SetPin_L : L := .seq (.rg []) (.seq (.rg [⟨[], .call F_AddPin 0 4, [.v 0, .v 1, .v 2, .v 4, .v 5], 4⟩]) (.seq (.seq (.rg [⟨[], .un .not, [.v 9], 1⟩]) (.ite (.v 10) (.seq (.rg [⟨[], .call F_l37Copy 0 4, [.v 0, .v 1, .v 2, .v 3], 4⟩]) (.ret [.v 11, .v 12, .v 13, .v 14, .k (.bool false)])) (.skip))) (.seq (.rg [⟨[], .call F_l37Step 0 5, [.v 0, .v 1, .v 2, .v 3, .v 6, .v 7, .v 8], 5⟩]) (.seq (.rg []) (.ret [.v 11, .v 12, .v 13, .v 14, .v 15])))))
theorem spec_SetPin_L_sh (Q : QT) (x0 x1 x2 x3 x4 x5 : V) : shL spec_SetPin_L Q [x0, x1, x2, x3, x4, x5] = (
  P4 (.call F_AddPin 0 4) [x0, x1, x2, x4, x5] fun v0 v1 v2 v3 =>
  P1 (.un .not) [v3] fun v4 =>
  ifB v4 (
    P4 (.call F_l37Copy 0 4) [x0, x1, x2, x3] fun v5 v6 v7 v8 =>
    Q .ret [v5, v6, v7, v8, .bool false]) (
    P5 (.call F_l37Step 0 5) [x0, x1, x2, x3, v0, v1, v2] fun v9 v10 v11 v12 v13 =>
    Q .ret [v9, v10, v11, v12, v13])) := by kernel_rfl
def spec_SetPin_S : Sig := ⟨[.val true [.sc, .sc, .sl [.sc, .sc], .sl [.sl [.sc, .sc]]], .val true [.sc, .sc]], [(true, [.sc, .sc, .sl [.sc, .sc], .sl [.sl [.sc, .sc]]]), (false, [.sc])], F_SetPin⟩
def spec_SetPin_hs : List NF := []

end
end Go.Mw

/- Sorting pins; setting a pin. -/
namespace Go.Mw
theorem pinLess_trans {a b c : T2} (h1 : pinLess a b = true) (h2 : pinLess b c = true) : pinLess a c = true := by
  simp only [pinLess, decide_eq_true_eq] at *; omega
theorem pinLess_irrefl (a : T2) : pinLess a a = false := by simp [pinLess]
theorem rising_less {a : T2} : ∀ {l : List T2}, rising (a :: l) = true → ∀ b ∈ l, pinLess a b = true
  | [], _, b, hb => by simp at hb
  | c :: r, h, b, hb => by
    have h1 := rising_cons.1 h
    have h2 : pinLess a c = true := h1.1 c rfl
    rcases List.mem_cons.1 hb with rfl | hb
    · exact h2
    · exact pinLess_trans h2 (rising_less h1.2 b hb)
theorem putPin_perm : ∀ {l : List T2} {y : T2}, y ∉ l → (putPin l y).Perm (l ++ [y])
  | [], y, _ => by simp [putPin]
  | a :: r, y, h => by
    simp only [List.mem_cons, not_or] at h
    unfold putPin
    split
    · exact .cons _ (putPin_perm h.2)
    · rw [if_neg (fun e => h.1 e.symm)]
      exact (List.perm_append_singleton y (a :: r)).symm
theorem putNew_iff : ∀ {l : List T2} {y : T2}, rising l = true → putNew l y = !decide (y ∈ l)
  | [], y, _ => by simp [putNew]
  | a :: r, y, h => by
    have h1 := rising_cons.1 h
    unfold putNew
    by_cases h2 : pinLess a y = true
    · rw [if_pos h2, putNew_iff h1.2]
      have : y ≠ a := by rintro rfl; rw [pinLess_irrefl] at h2; cases h2
      simp [this]
    · rw [if_neg h2]
      by_cases h3 : a = y
      · simp [h3]
      · have h4 : y ∉ r := fun hr => h2 (rising_less h y hr)
        have h5 : ¬ y = a := fun e => h3 e.symm
        simp [h3, h4, h5]
theorem cylOk_rising {c : Cyl} (h : cylOk c = true) : rising c.p = true := by
  simp only [cylOk, Bool.and_eq_true] at h; exact h.2.2

theorem spec_AddPin_ok : ∀ ds outs, F_AddPin ds = some outs → shL spec_AddPin_L (qRet outs) ds := F_AddPin_elim fun x y hp => by
  have hp4 : x.p.length ≤ 4194304 := by omega
  rw [spec_AddPin_L_sh, p_l06Copy (x_p := x.p) hp4]
  simp only [p_CylinderOk (x_p := x.p) hp, Cyl.eta, p_l06Copy (x_p := x.p) hp4]
  cases h : cylOk x with
  | false => simp [h, addTo, addOk]
  | true =>
    have hl := (cylOk_bounds h).2.2
    have h1 := putPin_len x.p y
    rw [P1_not, p_l06Put hp, putNew_iff (cylOk_rising h)]
    simp only [p_CylinderOk (x_p := putPin x.p y) (show _ ≤ 1048576 by show (putPin x.p y).length ≤ _; omega)]
    by_cases h2 : y ∈ x.p
    · simp [h, h2, addTo, addOk]
    · cases h3 : cylOk ⟨x.s, x.t, putPin x.p y⟩ <;> simp [h, h2, h3, addTo, addOk]
theorem addTo_len {c : Cyl} {p : T2} (h : c.p.length ≤ 1048576) : (addTo c p).p.length ≤ 1048576 := by
  unfold addTo
  cases h2 : addOk c p with
  | false => simpa using h
  | true =>
    simp only [addOk, Bool.and_eq_true] at h2
    have := (cylOk_bounds h2.2.2).2.2
    simp only [if_true]
    dsimp only at this ⊢
    omega
theorem spec_SetPin_ok : ∀ ds outs, F_SetPin ds = some outs → shL spec_SetPin_L (qRet outs) ds := F_SetPin_elim fun x y hp => by
  rw [spec_SetPin_L_sh, p_AddPin (x_p := x.p) hp.1]
  have e0 : (⟨x.s, x.t, x.p⟩ : Cyl) = x.cyl := rfl
  have e1 : (⟨x.s, x.t, x.p, x.o⟩ : Bench) = x := rfl
  have e2 : (⟨y.a, y.b⟩ : T2) = y := rfl
  have hl := addTo_len (p := y) (show x.cyl.p.length ≤ 1048576 from hp.1)
  simp only [e0, e2]
  cases h : addOk x.cyl y with
  | false =>
    simp only [p_l37Copy (x_p := x.p) (x_o := x.o) hp]
    simp [setPin, stepTo, h]
  | true =>
    unfold setPin
    rw [h]
    generalize addTo x.cyl y = c at *
    simp only [p_l37Step (x_p := x.p) (x_o := x.o) (y_p := c.p) ⟨hp.1, hp.2, hl⟩]
    simp
end Go.Mw

/- What functions compute, in plain terms: acts. -/
namespace Go.Mw
/-- The least gap of the i-th pin to those before it, below the k-th. -/
def cmRow (c : Cyl) (i : Nat) : Nat → Int → Int
  | 0, b => b
  | k + 1, b => match c.p[i]?, c.p[k]? with
    | some x, some y => if x.a = y.a then min (cmRow c i k b) (gap x.b y.b c.s) else cmRow c i k b
    | _, _ => cmRow c i k b
def cmTo (c : Cyl) : Nat → Int
  | 0 => c.s
  | i + 1 => cmRow c i i (cmTo c i)
def closest (c : Cyl) : Int := if cylOk c then cmTo c c.p.length else -1
end Go.Mw

/- Functions of the program, as small pure programs (printed by a program of ours). -/
namespace Go.Mw
noncomputable section
end
end Go.Mw

/- Putting a pin into a workshop. -/
namespace Go.Mw
end Go.Mw

/- What functions compute, in plain terms: runs of acts. -/
namespace Go.Mw
end Go.Mw

/- Functions of the program, as small pure programs (printed by a program of ours). -/
namespace Go.Mw
noncomputable section
end
end Go.Mw

/- Acts: memory. -/
namespace Go.Mw
end Go.Mw

/- Acts. -/
namespace Go.Mw
end Go.Mw

/- Runs of acts; the laws. -/
namespace Go.Mw
end Go.Mw

/- Replays; the laws on runs. -/
namespace Go.Mw
end Go.Mw

/- The law on runs of acts. -/
namespace Go.Mw
end Go.Mw

/- What functions compute, in plain terms: drawn benches, workshops and acts; laws on scenarios. -/
namespace Go.Mw
def E_l01Once : Cur × Int → List V := fun (x, n) => [vL I1 vY x.b, .int .i64 x.i, .int .i64 x.h, .int .i64 n]
noncomputable def F_l01Once : List V → Option (List V) := mkF E_l01Once (fun (x, _) => 0 ≤ x.i ∧ x.b.length ≤ 1048576) (fun (x, n) => [.bool (decide (cBelow x n = 0)), .int .i64 ((cAfter x n).i), .int .i64 ((cAfter x n).h)])
theorem F_l01Once_inj : ∀ x y, E_l01Once x = E_l01Once y → x = y := by
  rintro ⟨⟨xb, xi, xh⟩, n⟩ ⟨⟨xb', xi', xh'⟩, n'⟩ h
  simpa [E_l01Once, and_assoc] using h
theorem F_l01Once_elim {P : List V → List V → Prop} (h : ∀ (x : Cur) (n : Int), (0 ≤ x.i ∧ x.b.length ≤ 1048576) → P [vL I1 vY x.b, .int .i64 x.i, .int .i64 x.h, .int .i64 n] [.bool (decide (cBelow x n = 0)), .int .i64 ((cAfter x n).i), .int .i64 ((cAfter x n).h)]) : ∀ ds outs, F_l01Once ds = some outs → P ds outs := by
  intro ds outs hh
  obtain ⟨⟨x, n⟩, rfl, hp, rfl⟩ := mkF_inv hh
  exact h x n hp
theorem p_l01Once {x_b : List UInt8} {x_i : Int} {x_h : Int} {n : Int} {nr_ : Nat} {kk_ : V → V → V → Prop} (hp : 0 ≤ (⟨x_b, x_i, x_h⟩ : Cur).i ∧ (⟨x_b, x_i, x_h⟩ : Cur).b.length ≤ 1048576) : P3 (.call F_l01Once 0 nr_) [vL I1 vY x_b, .int .i64 x_i, .int .i64 x_h, .int .i64 n] kk_ ↔ kk_ (.bool (decide (cBelow (⟨x_b, x_i, x_h⟩ : Cur) n = 0))) (.int .i64 ((cAfter (⟨x_b, x_i, x_h⟩ : Cur) n).i)) (.int .i64 ((cAfter (⟨x_b, x_i, x_h⟩ : Cur) n).h)) :=
  P3_callF (by unfold F_l01Once; exact mkF_eq F_l01Once_inj ((⟨x_b, x_i, x_h⟩ : Cur), n) hp)

def benchStep (b : Bench) (x : Cur) : Bench × Cur :=
  if cBelow x 3 = 0 then (takePin b (cBelow (cAfter x 3) 6), cAfter (cAfter x 3) 6)
  else (setPin b ⟨cBelow (cAfter x 3) b.t, cBelow (cAfter (cAfter x 3) b.t) b.s⟩, cAfter (cAfter (cAfter x 3) b.t) b.s)
def benchTo (x : Cur) : Nat → Bench × Cur
  | 0 => (⟨(cylOf x).s, (cylOf x).t, (cylOf x).p, []⟩, cAfter (cylEnd x) 7)
  | k + 1 => benchStep (benchTo x k).1 (benchTo x k).2
def benchN (x : Cur) : Nat := (cBelow (cylEnd x) 7).toNat
def benchOf (x : Cur) : Bench := (benchTo x (benchN x)).1
def benchEnd (x : Cur) : Cur := (benchTo x (benchN x)).2
def E_l37Bench (x : Cur) : List V := [vL I1 vY x.b, .int .i64 x.i, .int .i64 x.h]
noncomputable def F_l37Bench : List V → Option (List V) := mkF E_l37Bench (fun x => 0 ≤ x.i ∧ x.b.length ≤ 1048576) (fun x => [.int .i64 (benchOf x).s, .int .i64 (benchOf x).t, vL I2 v2 (benchOf x).p, vL IL2 vLL2 (benchOf x).o, .int .i64 ((benchEnd x).i), .int .i64 ((benchEnd x).h)])
theorem F_l37Bench_inj : ∀ x y, E_l37Bench x = E_l37Bench y → x = y := by
  rintro ⟨xb, xi, xh⟩ ⟨xb', xi', xh'⟩ h
  simpa [E_l37Bench] using h
theorem F_l37Bench_elim {P : List V → List V → Prop} (h : ∀ (x : Cur), (0 ≤ x.i ∧ x.b.length ≤ 1048576) → P [vL I1 vY x.b, .int .i64 x.i, .int .i64 x.h] [.int .i64 (benchOf x).s, .int .i64 (benchOf x).t, vL I2 v2 (benchOf x).p, vL IL2 vLL2 (benchOf x).o, .int .i64 ((benchEnd x).i), .int .i64 ((benchEnd x).h)]) : ∀ ds outs, F_l37Bench ds = some outs → P ds outs := by
  intro ds outs hh
  obtain ⟨x, rfl, hp, rfl⟩ := mkF_inv hh
  exact h x hp
theorem p_l37Bench {x_b : List UInt8} {x_i : Int} {x_h : Int} {nr_ : Nat} {kk_ : V → V → V → V → V → V → Prop} (hp : 0 ≤ (⟨x_b, x_i, x_h⟩ : Cur).i ∧ (⟨x_b, x_i, x_h⟩ : Cur).b.length ≤ 1048576) : P6 (.call F_l37Bench 0 nr_) [vL I1 vY x_b, .int .i64 x_i, .int .i64 x_h] kk_ ↔ kk_ (.int .i64 (benchOf (⟨x_b, x_i, x_h⟩ : Cur)).s) (.int .i64 (benchOf (⟨x_b, x_i, x_h⟩ : Cur)).t) (vL I2 v2 (benchOf (⟨x_b, x_i, x_h⟩ : Cur)).p) (vL IL2 vLL2 (benchOf (⟨x_b, x_i, x_h⟩ : Cur)).o) (.int .i64 ((benchEnd (⟨x_b, x_i, x_h⟩ : Cur)).i)) (.int .i64 ((benchEnd (⟨x_b, x_i, x_h⟩ : Cur)).h)) :=
  P6_callF (by unfold F_l37Bench; exact mkF_eq F_l37Bench_inj ((⟨x_b, x_i, x_h⟩ : Cur)) hp)

def springMost (x : Cur) : Int := 1 + cBelow x 20
def springOf (x : Cur) : T3 := ⟨cBelow (cAfter x 20) (springMost x + 1), springMost x, 1 + 3 * cBelow (cAfter (cAfter x 20) (springMost x + 1)) 200⟩
def springEnd (x : Cur) : Cur := cAfter (cAfter (cAfter x 20) (springMost x + 1)) 200
def E_l12Spring (x : Cur) : List V := [vL I1 vY x.b, .int .i64 x.i, .int .i64 x.h]
noncomputable def F_l12Spring : List V → Option (List V) := mkF E_l12Spring (fun x => 0 ≤ x.i ∧ x.b.length ≤ 1048576) (fun x => [.int .i64 (springOf x).a, .int .i64 (springOf x).b, .int .i64 (springOf x).c, .int .i64 ((springEnd x).i), .int .i64 ((springEnd x).h)])
theorem F_l12Spring_inj : ∀ x y, E_l12Spring x = E_l12Spring y → x = y := by
  rintro ⟨xb, xi, xh⟩ ⟨xb', xi', xh'⟩ h
  simpa [E_l12Spring] using h
theorem F_l12Spring_elim {P : List V → List V → Prop} (h : ∀ (x : Cur), (0 ≤ x.i ∧ x.b.length ≤ 1048576) → P [vL I1 vY x.b, .int .i64 x.i, .int .i64 x.h] [.int .i64 (springOf x).a, .int .i64 (springOf x).b, .int .i64 (springOf x).c, .int .i64 ((springEnd x).i), .int .i64 ((springEnd x).h)]) : ∀ ds outs, F_l12Spring ds = some outs → P ds outs := by
  intro ds outs hh
  obtain ⟨x, rfl, hp, rfl⟩ := mkF_inv hh
  exact h x hp
theorem p_l12Spring {x_b : List UInt8} {x_i : Int} {x_h : Int} {nr_ : Nat} {kk_ : V → V → V → V → V → Prop} (hp : 0 ≤ (⟨x_b, x_i, x_h⟩ : Cur).i ∧ (⟨x_b, x_i, x_h⟩ : Cur).b.length ≤ 1048576) : P5 (.call F_l12Spring 0 nr_) [vL I1 vY x_b, .int .i64 x_i, .int .i64 x_h] kk_ ↔ kk_ (.int .i64 (springOf (⟨x_b, x_i, x_h⟩ : Cur)).a) (.int .i64 (springOf (⟨x_b, x_i, x_h⟩ : Cur)).b) (.int .i64 (springOf (⟨x_b, x_i, x_h⟩ : Cur)).c) (.int .i64 ((springEnd (⟨x_b, x_i, x_h⟩ : Cur)).i)) (.int .i64 ((springEnd (⟨x_b, x_i, x_h⟩ : Cur)).h)) :=
  P5_callF (by unfold F_l12Spring; exact mkF_eq F_l12Spring_inj ((⟨x_b, x_i, x_h⟩ : Cur)) hp)

def combTo (x : Cur) : Nat → (List Int × Int) × Cur
  | 0 => (([], 10), x)
  | k + 1 => (((combTo x k).1.1 ++ [(combTo x k).1.2], (combTo x k).1.2 + (([0, 1, 2, 4] : List Int)[(cBelow (combTo x k).2 4).toNat]?).getD 0), cAfter (combTo x k).2 4)
def shopMoney (x : Cur) : Int := (([0, 1, 30, 999] : List Int)[(cBelow (springEnd (benchEnd x)) 4).toNat]?).getD 0
def shopPlayed (x : Cur) : Int := (([0, 12, 999999] : List Int)[(cBelow (cAfter (springEnd (benchEnd x)) 4) 3).toNat]?).getD 0
def shopCur (x : Cur) : Cur := cAfter (cAfter (springEnd (benchEnd x)) 4) 3
def shopOf (x : Cur) : Shop := ⟨(benchOf x).s, (benchOf x).t, (benchOf x).p, (benchOf x).o, (combTo (shopCur x) (benchOf x).t.toNat).1.1,
  (springOf (benchEnd x)).a, (springOf (benchEnd x)).b, (springOf (benchEnd x)).c, shopMoney x, shopPlayed x⟩
def shopEnd (x : Cur) : Cur := (combTo (shopCur x) (benchOf x).t.toNat).2
def E_l38Workshop (x : Cur) : List V := [vL I1 vY x.b, .int .i64 x.i, .int .i64 x.h]
noncomputable def F_l38Workshop : List V → Option (List V) := mkF E_l38Workshop (fun x => 0 ≤ x.i ∧ x.b.length ≤ 1048576) (fun x => [.int .i64 (shopOf x).s, .int .i64 (shopOf x).t, vL I2 v2 (shopOf x).p, vL IL2 vLL2 (shopOf x).o, vL I1 v1 (shopOf x).c, .int .i64 (shopOf x).u, .int .i64 (shopOf x).m, .int .i64 (shopOf x).f, .int .i64 (shopOf x).y, .int .i64 (shopOf x).d, .int .i64 ((shopEnd x).i), .int .i64 ((shopEnd x).h)])
theorem F_l38Workshop_inj : ∀ x y, E_l38Workshop x = E_l38Workshop y → x = y := by
  rintro ⟨xb, xi, xh⟩ ⟨xb', xi', xh'⟩ h
  simpa [E_l38Workshop] using h
theorem F_l38Workshop_elim {P : List V → List V → Prop} (h : ∀ (x : Cur), (0 ≤ x.i ∧ x.b.length ≤ 1048576) → P [vL I1 vY x.b, .int .i64 x.i, .int .i64 x.h] [.int .i64 (shopOf x).s, .int .i64 (shopOf x).t, vL I2 v2 (shopOf x).p, vL IL2 vLL2 (shopOf x).o, vL I1 v1 (shopOf x).c, .int .i64 (shopOf x).u, .int .i64 (shopOf x).m, .int .i64 (shopOf x).f, .int .i64 (shopOf x).y, .int .i64 (shopOf x).d, .int .i64 ((shopEnd x).i), .int .i64 ((shopEnd x).h)]) : ∀ ds outs, F_l38Workshop ds = some outs → P ds outs := by
  intro ds outs hh
  obtain ⟨x, rfl, hp, rfl⟩ := mkF_inv hh
  exact h x hp
theorem p_l38Workshop {x_b : List UInt8} {x_i : Int} {x_h : Int} {nr_ : Nat} {kk_ : V → V → V → V → V → V → V → V → V → V → V → V → Prop} (hp : 0 ≤ (⟨x_b, x_i, x_h⟩ : Cur).i ∧ (⟨x_b, x_i, x_h⟩ : Cur).b.length ≤ 1048576) : P12 (.call F_l38Workshop 0 nr_) [vL I1 vY x_b, .int .i64 x_i, .int .i64 x_h] kk_ ↔ kk_ (.int .i64 (shopOf (⟨x_b, x_i, x_h⟩ : Cur)).s) (.int .i64 (shopOf (⟨x_b, x_i, x_h⟩ : Cur)).t) (vL I2 v2 (shopOf (⟨x_b, x_i, x_h⟩ : Cur)).p) (vL IL2 vLL2 (shopOf (⟨x_b, x_i, x_h⟩ : Cur)).o) (vL I1 v1 (shopOf (⟨x_b, x_i, x_h⟩ : Cur)).c) (.int .i64 (shopOf (⟨x_b, x_i, x_h⟩ : Cur)).u) (.int .i64 (shopOf (⟨x_b, x_i, x_h⟩ : Cur)).m) (.int .i64 (shopOf (⟨x_b, x_i, x_h⟩ : Cur)).f) (.int .i64 (shopOf (⟨x_b, x_i, x_h⟩ : Cur)).y) (.int .i64 (shopOf (⟨x_b, x_i, x_h⟩ : Cur)).d) (.int .i64 ((shopEnd (⟨x_b, x_i, x_h⟩ : Cur)).i)) (.int .i64 ((shopEnd (⟨x_b, x_i, x_h⟩ : Cur)).h)) :=
  P12_callF (by unfold F_l38Workshop; exact mkF_eq F_l38Workshop_inj ((⟨x_b, x_i, x_h⟩ : Cur)) hp)

def actDraw (x : Cur) : T3 × Cur :=
  if cBelow x 9 ≤ 2 then (⟨1, cBelow (cAfter x 9) 4, cBelow (cAfter (cAfter x 9) 4) 16⟩, cAfter (cAfter (cAfter x 9) 4) 16)
  else if cBelow x 9 = 3 then (⟨2, cBelow (cAfter x 9) 5, 0⟩, cAfter (cAfter x 9) 5)
  else if cBelow x 9 = 4 then (⟨3, 0, 0⟩, cAfter x 9)
  else if cBelow x 9 = 5 then (⟨4, cBelow (cAfter x 9) 8, 0⟩, cAfter (cAfter x 9) 8)
  else if cBelow x 9 ≤ 7 then (⟨5, 0, 0⟩, cAfter x 9)
  else (⟨6, 0, 0⟩, cAfter x 9)
def E_l39Act (x : Cur) : List V := [vL I1 vY x.b, .int .i64 x.i, .int .i64 x.h]
noncomputable def F_l39Act : List V → Option (List V) := mkF E_l39Act (fun x => 0 ≤ x.i ∧ x.b.length ≤ 1048576) (fun x => [.int .i64 ((actDraw x).1).a, .int .i64 ((actDraw x).1).b, .int .i64 ((actDraw x).1).c, .int .i64 ((actDraw x).2.i), .int .i64 ((actDraw x).2.h)])
theorem F_l39Act_inj : ∀ x y, E_l39Act x = E_l39Act y → x = y := by
  rintro ⟨xb, xi, xh⟩ ⟨xb', xi', xh'⟩ h
  simpa [E_l39Act] using h
theorem F_l39Act_elim {P : List V → List V → Prop} (h : ∀ (x : Cur), (0 ≤ x.i ∧ x.b.length ≤ 1048576) → P [vL I1 vY x.b, .int .i64 x.i, .int .i64 x.h] [.int .i64 ((actDraw x).1).a, .int .i64 ((actDraw x).1).b, .int .i64 ((actDraw x).1).c, .int .i64 ((actDraw x).2.i), .int .i64 ((actDraw x).2.h)]) : ∀ ds outs, F_l39Act ds = some outs → P ds outs := by
  intro ds outs hh
  obtain ⟨x, rfl, hp, rfl⟩ := mkF_inv hh
  exact h x hp
theorem p_l39Act {x_b : List UInt8} {x_i : Int} {x_h : Int} {nr_ : Nat} {kk_ : V → V → V → V → V → Prop} (hp : 0 ≤ (⟨x_b, x_i, x_h⟩ : Cur).i ∧ (⟨x_b, x_i, x_h⟩ : Cur).b.length ≤ 1048576) : P5 (.call F_l39Act 0 nr_) [vL I1 vY x_b, .int .i64 x_i, .int .i64 x_h] kk_ ↔ kk_ (.int .i64 ((actDraw (⟨x_b, x_i, x_h⟩ : Cur)).1).a) (.int .i64 ((actDraw (⟨x_b, x_i, x_h⟩ : Cur)).1).b) (.int .i64 ((actDraw (⟨x_b, x_i, x_h⟩ : Cur)).1).c) (.int .i64 ((actDraw (⟨x_b, x_i, x_h⟩ : Cur)).2.i)) (.int .i64 ((actDraw (⟨x_b, x_i, x_h⟩ : Cur)).2.h)) :=
  P5_callF (by unfold F_l39Act; exact mkF_eq F_l39Act_inj ((⟨x_b, x_i, x_h⟩ : Cur)) hp)

def actTo (x : Cur) : Nat → List T3 × Cur
  | 0 => ([], x)
  | k + 1 => ((actTo x k).1 ++ [(actDraw (actTo x k).2).1], (actDraw (actTo x k).2).2)
def actCnt (x : Cur) : Nat := (cBelow x 14).toNat
def actsOf (x : Cur) : List T3 := (actTo (cAfter x 14) (actCnt x)).1
def actsEnd (x : Cur) : Cur := (actTo (cAfter x 14) (actCnt x)).2
def E_l39List (x : Cur) : List V := [vL I1 vY x.b, .int .i64 x.i, .int .i64 x.h]
noncomputable def F_l39List : List V → Option (List V) := mkF E_l39List (fun x => 0 ≤ x.i ∧ x.b.length ≤ 1048576) (fun x => [vL I3 v3 (actsOf x), .int .i64 ((actsEnd x).i), .int .i64 ((actsEnd x).h)])
theorem F_l39List_inj : ∀ x y, E_l39List x = E_l39List y → x = y := by
  rintro ⟨xb, xi, xh⟩ ⟨xb', xi', xh'⟩ h
  simpa [E_l39List] using h
theorem F_l39List_elim {P : List V → List V → Prop} (h : ∀ (x : Cur), (0 ≤ x.i ∧ x.b.length ≤ 1048576) → P [vL I1 vY x.b, .int .i64 x.i, .int .i64 x.h] [vL I3 v3 (actsOf x), .int .i64 ((actsEnd x).i), .int .i64 ((actsEnd x).h)]) : ∀ ds outs, F_l39List ds = some outs → P ds outs := by
  intro ds outs hh
  obtain ⟨x, rfl, hp, rfl⟩ := mkF_inv hh
  exact h x hp
theorem p_l39List {x_b : List UInt8} {x_i : Int} {x_h : Int} {nr_ : Nat} {kk_ : V → V → V → Prop} (hp : 0 ≤ (⟨x_b, x_i, x_h⟩ : Cur).i ∧ (⟨x_b, x_i, x_h⟩ : Cur).b.length ≤ 1048576) : P3 (.call F_l39List 0 nr_) [vL I1 vY x_b, .int .i64 x_i, .int .i64 x_h] kk_ ↔ kk_ (vL I3 v3 (actsOf (⟨x_b, x_i, x_h⟩ : Cur))) (.int .i64 ((actsEnd (⟨x_b, x_i, x_h⟩ : Cur)).i)) (.int .i64 ((actsEnd (⟨x_b, x_i, x_h⟩ : Cur)).h)) :=
  P3_callF (by unfold F_l39List; exact mkF_eq F_l39List_inj ((⟨x_b, x_i, x_h⟩ : Cur)) hp)

def sample : Shop := openShop 16 [12, 12, 16, 19] 40
def sceneOf (x : Cur) : Shop := if cBelow x 2 = 0 then sample else shopOf (cAfter x 2)
def sceneEnd (x : Cur) : Cur := if cBelow x 2 = 0 then cAfter x 2 else shopEnd (cAfter x 2)
def E_l39Workshop (x : Cur) : List V := [vL I1 vY x.b, .int .i64 x.i, .int .i64 x.h]
noncomputable def F_l39Workshop : List V → Option (List V) := mkF E_l39Workshop (fun x => 0 ≤ x.i ∧ x.b.length ≤ 1048576) (fun x => [.int .i64 (sceneOf x).s, .int .i64 (sceneOf x).t, vL I2 v2 (sceneOf x).p, vL IL2 vLL2 (sceneOf x).o, vL I1 v1 (sceneOf x).c, .int .i64 (sceneOf x).u, .int .i64 (sceneOf x).m, .int .i64 (sceneOf x).f, .int .i64 (sceneOf x).y, .int .i64 (sceneOf x).d, .int .i64 ((sceneEnd x).i), .int .i64 ((sceneEnd x).h)])
theorem F_l39Workshop_inj : ∀ x y, E_l39Workshop x = E_l39Workshop y → x = y := by
  rintro ⟨xb, xi, xh⟩ ⟨xb', xi', xh'⟩ h
  simpa [E_l39Workshop] using h
theorem F_l39Workshop_elim {P : List V → List V → Prop} (h : ∀ (x : Cur), (0 ≤ x.i ∧ x.b.length ≤ 1048576) → P [vL I1 vY x.b, .int .i64 x.i, .int .i64 x.h] [.int .i64 (sceneOf x).s, .int .i64 (sceneOf x).t, vL I2 v2 (sceneOf x).p, vL IL2 vLL2 (sceneOf x).o, vL I1 v1 (sceneOf x).c, .int .i64 (sceneOf x).u, .int .i64 (sceneOf x).m, .int .i64 (sceneOf x).f, .int .i64 (sceneOf x).y, .int .i64 (sceneOf x).d, .int .i64 ((sceneEnd x).i), .int .i64 ((sceneEnd x).h)]) : ∀ ds outs, F_l39Workshop ds = some outs → P ds outs := by
  intro ds outs hh
  obtain ⟨x, rfl, hp, rfl⟩ := mkF_inv hh
  exact h x hp
theorem p_l39Workshop {x_b : List UInt8} {x_i : Int} {x_h : Int} {nr_ : Nat} {kk_ : V → V → V → V → V → V → V → V → V → V → V → V → Prop} (hp : 0 ≤ (⟨x_b, x_i, x_h⟩ : Cur).i ∧ (⟨x_b, x_i, x_h⟩ : Cur).b.length ≤ 1048576) : P12 (.call F_l39Workshop 0 nr_) [vL I1 vY x_b, .int .i64 x_i, .int .i64 x_h] kk_ ↔ kk_ (.int .i64 (sceneOf (⟨x_b, x_i, x_h⟩ : Cur)).s) (.int .i64 (sceneOf (⟨x_b, x_i, x_h⟩ : Cur)).t) (vL I2 v2 (sceneOf (⟨x_b, x_i, x_h⟩ : Cur)).p) (vL IL2 vLL2 (sceneOf (⟨x_b, x_i, x_h⟩ : Cur)).o) (vL I1 v1 (sceneOf (⟨x_b, x_i, x_h⟩ : Cur)).c) (.int .i64 (sceneOf (⟨x_b, x_i, x_h⟩ : Cur)).u) (.int .i64 (sceneOf (⟨x_b, x_i, x_h⟩ : Cur)).m) (.int .i64 (sceneOf (⟨x_b, x_i, x_h⟩ : Cur)).f) (.int .i64 (sceneOf (⟨x_b, x_i, x_h⟩ : Cur)).y) (.int .i64 (sceneOf (⟨x_b, x_i, x_h⟩ : Cur)).d) (.int .i64 ((sceneEnd (⟨x_b, x_i, x_h⟩ : Cur)).i)) (.int .i64 ((sceneEnd (⟨x_b, x_i, x_h⟩ : Cur)).h)) :=
  P12_callF (by unfold F_l39Workshop; exact mkF_eq F_l39Workshop_inj ((⟨x_b, x_i, x_h⟩ : Cur)) hp)

def drawW (l : List UInt8) : Shop := sceneOf (cur0 l)
def drawA (l : List UInt8) : List T3 := actsOf (sceneEnd (cur0 l))
def E_DrawActs (l : List UInt8) : List V := [vL I1 vY l]
noncomputable def F_DrawActs : List V → Option (List V) := mkF E_DrawActs (fun l => l.length ≤ 1048576) (fun l => [.int .i64 (drawW l).s, .int .i64 (drawW l).t, vL I2 v2 (drawW l).p, vL IL2 vLL2 (drawW l).o, vL I1 v1 (drawW l).c, .int .i64 (drawW l).u, .int .i64 (drawW l).m, .int .i64 (drawW l).f, .int .i64 (drawW l).y, .int .i64 (drawW l).d, vL I3 v3 (drawA l)])
theorem F_DrawActs_inj : ∀ x y, E_DrawActs x = E_DrawActs y → x = y := by
  rintro l l' h
  simpa [E_DrawActs] using h
theorem F_DrawActs_elim {P : List V → List V → Prop} (h : ∀ (l : List UInt8), (l.length ≤ 1048576) → P [vL I1 vY l] [.int .i64 (drawW l).s, .int .i64 (drawW l).t, vL I2 v2 (drawW l).p, vL IL2 vLL2 (drawW l).o, vL I1 v1 (drawW l).c, .int .i64 (drawW l).u, .int .i64 (drawW l).m, .int .i64 (drawW l).f, .int .i64 (drawW l).y, .int .i64 (drawW l).d, vL I3 v3 (drawA l)]) : ∀ ds outs, F_DrawActs ds = some outs → P ds outs := by
  intro ds outs hh
  obtain ⟨l, rfl, hp, rfl⟩ := mkF_inv hh
  exact h l hp
theorem p_DrawActs {l : List UInt8} {nr_ : Nat} {kk_ : V → V → V → V → V → V → V → V → V → V → V → Prop} (hp : l.length ≤ 1048576) : P11 (.call F_DrawActs 0 nr_) [vL I1 vY l] kk_ ↔ kk_ (.int .i64 (drawW l).s) (.int .i64 (drawW l).t) (vL I2 v2 (drawW l).p) (vL IL2 vLL2 (drawW l).o) (vL I1 v1 (drawW l).c) (.int .i64 (drawW l).u) (.int .i64 (drawW l).m) (.int .i64 (drawW l).f) (.int .i64 (drawW l).y) (.int .i64 (drawW l).d) (vL I3 v3 (drawA l)) :=
  P11_callF (by unfold F_DrawActs; exact mkF_eq F_DrawActs_inj (l) hp)

end Go.Mw

/- Functions of the program, as small pure programs (printed by a program of ours). -/
namespace Go.Mw
noncomputable section
def spec_l01Once_L : L := .seq (.rg []) (.seq (.rg [⟨[], .call F_l01Below 0 1, [.v 0, .v 1, .v 2, .v 3], 3⟩, ⟨[], .bin .eql, [.v 4, .k (.int .i64 0)], 1⟩]) (.ret [.v 7, .v 5, .v 6]))
theorem spec_l01Once_L_sh (Q : QT) (x0 x1 x2 x3 : V) : shL spec_l01Once_L Q [x0, x1, x2, x3] = (
  P3 (.call F_l01Below 0 1) [x0, x1, x2, x3] fun v0 v1 v2 =>
  P1 (.bin .eql) [v0, .int .i64 0] fun v3 =>
  Q .ret [v3, v1, v2]) := by kernel_rfl
def spec_l01Once_S : Sig := ⟨[.ptr [.sl [.sc], .sc, .sc], .val false [.sc]], [(false, [.sc])], F_l01Once⟩
def spec_l01Once_hs : List NF := []

def spec_l37Bench_b0 : L := .seq (.seq (.seq (.rg [⟨[], .bin .gtr, [.v 0, .k (.int .i64 0)], 1⟩]) (.ite (.v 10) (.skip) (.seq (.tup [.v 1, .v 2, .v 3, .v 4, .v 5, .v 6, .v 7, .v 8, .v 9]) (.exit 0)))) (.seq (.block 1 (.seq (.seq (.rg [⟨[], .call F_l01Once 0 1, [.v 3, .v 4, .v 5, .k (.int .i64 3)], 3⟩]) (.ite (.v 11) (.seq (.rg [⟨[], .call F_l01Below 0 1, [.v 3, .v 12, .v 13, .k (.int .i64 6)], 3⟩, ⟨[], .call F_TakePin 0 5, [.v 8, .v 9, .v 1, .v 2, .v 14], 5⟩]) (.tup [.v 0, .v 19, .v 20, .v 3, .v 15, .v 16, .v 6, .v 7, .v 17, .v 18])) (.seq (.rg [⟨[], .call F_l01Below 0 1, [.v 3, .v 12, .v 13, .v 9], 3⟩, ⟨[], .call F_l01Below 0 1, [.v 3, .v 15, .v 16, .v 8], 3⟩, ⟨[], .call F_SetPin 0 5, [.v 8, .v 9, .v 1, .v 2, .v 14, .v 17], 5⟩]) (.tup [.v 0, .v 22, .v 23, .v 3, .v 18, .v 19, .v 6, .v 7, .v 20, .v 21])))) (.tup [.v 0, .v 1, .v 2, .v 3, .v 4, .v 5, .v 6, .v 7, .v 8, .v 9]))) (.rg [⟨[], .bin .sub, [.v 0, .k (.int .i64 1)], 1⟩]))) (.tup [.v 10, .v 1, .v 2, .v 3, .v 4, .v 5, .v 6, .v 7, .v 8, .v 9])
theorem spec_l37Bench_b0_sh (Q : QT) (x0 x1 x2 x3 x4 x5 x6 x7 x8 x9 : V) : shL spec_l37Bench_b0 Q [x0, x1, x2, x3, x4, x5, x6, x7, x8, x9] = (
  P1 (.bin .gtr) [x0, .int .i64 0] fun v0 =>
  ifB v0 (
    P3 (.call F_l01Once 0 1) [x3, x4, x5, .int .i64 3] fun v1 v2 v3 =>
    ifB v1 (
      P3 (.call F_l01Below 0 1) [x3, v2, v3, .int .i64 6] fun v4 v5 v6 =>
      P5 (.call F_TakePin 0 5) [x8, x9, x1, x2, v4] fun v7 v8 v9 v10 _ =>
      P1 (.bin .sub) [x0, .int .i64 1] fun v12 =>
      Q .normal [v12, v9, v10, x3, v5, v6, x6, x7, v7, v8]) (
      P3 (.call F_l01Below 0 1) [x3, v2, v3, x9] fun v13 v14 v15 =>
      P3 (.call F_l01Below 0 1) [x3, v14, v15, x8] fun v16 v17 v18 =>
      P5 (.call F_SetPin 0 5) [x8, x9, x1, x2, v13, v16] fun v19 v20 v21 v22 _ =>
      P1 (.bin .sub) [x0, .int .i64 1] fun v24 =>
      Q .normal [v24, v21, v22, x3, v17, v18, x6, x7, v19, v20])) (
    Q (.exit 0) [x1, x2, x3, x4, x5, x6, x7, x8, x9])) := by kernel_rfl

def spec_l37Bench_r1 : L := .seq (.rg []) (.ret [.v 7, .v 8, .v 0, .v 1, .v 3, .v 4])
theorem spec_l37Bench_r1_sh (Q : QT) (x0 x1 x2 x3 x4 x5 x6 x7 x8 : V) : shL spec_l37Bench_r1 Q [x0, x1, x2, x3, x4, x5, x6, x7, x8] = (
  Q .ret [x7, x8, x0, x1, x3, x4]) := by kernel_rfl

def spec_l37Bench_L : L := .seq (.rg []) (.seq (.rg [⟨[], .call F_l06Cylinder 0 3, [.v 0, .v 1, .v 2], 5⟩]) (.seq (.seq (.rg [⟨[], .call F_l01Below 0 1, [.v 0, .v 6, .v 7, .k (.int .i64 7)], 3⟩]) (.block 0 (.seq (.tup [.v 8, .v 5, .k (.list [.sl [.sc, .sc]] []), .v 0, .v 9, .v 10, .k (.int .i64 0), .k (.int .i64 0), .v 3, .v 4]) (.loop (spec_l37Bench_b0))))) (spec_l37Bench_r1)))
theorem spec_l37Bench_L_sh (Q : QT) (x0 x1 x2 : V) : shL spec_l37Bench_L Q [x0, x1, x2] = (
  P5 (.call F_l06Cylinder 0 3) [x0, x1, x2] fun v0 v1 v2 v3 v4 =>
  P3 (.call F_l01Below 0 1) [x0, v3, v4, .int .i64 7] fun v5 v6 v7 =>
  shL (.loop spec_l37Bench_b0) (qB 0 (qS (shL spec_l37Bench_r1 Q) Q)) [v5, v2, .list [.sl [.sc, .sc]] [], x0, v6, v7, .int .i64 0, .int .i64 0, v0, v1]) := by kernel_rfl
def spec_l37Bench_S : Sig := ⟨[.ptr [.sl [.sc], .sc, .sc]], [(true, [.sc, .sc, .sl [.sc, .sc], .sl [.sl [.sc, .sc]]])], F_l37Bench⟩
def spec_l37Bench_hs : List NF := [⟨[(2, .ptr 64 0), (3, .ptr 65 0)], [(66, true, [.sc, .sc]), (67, true, [.sl [.sc, .sc]])], [(0, [.ro [.sc], .sc, .sc]), (64, [.sc, .sc, .nil, .nil]), (65, [.sc, .sc, .own 66, .own 67])], 68⟩, ⟨[(0, .ptr 0 0), (2, .ptr 64 0), (3, .ptr 65 0), (4, .sc false [.sc])], [(66, true, [.sc, .sc]), (67, true, [.sl [.sc, .sc]])], [(0, [.ro [.sc], .sc, .sc]), (64, [.sc, .sc, .nil, .nil]), (65, [.sc, .sc, .own 66, .own 67])], 68⟩, ⟨[(0, .ptr 0 0), (2, .ptr 64 0), (3, .ptr 65 0), (4, .sc false [.sc])], [(66, true, [.sc, .sc]), (67, true, [.sl [.sc, .sc]])], [(0, [.ro [.sc], .sc, .sc]), (64, [.sc, .sc, .nil, .nil]), (65, [.sc, .sc, .own 66, .own 67])], 68⟩, ⟨[(0, .ptr 0 0), (2, .ptr 64 0), (3, .ptr 65 0), (4, .sc false [.sc])], [(66, true, [.sc, .sc]), (67, true, [.sl [.sc, .sc]])], [(0, [.ro [.sc], .sc, .sc]), (64, [.sc, .sc, .nil, .nil]), (65, [.sc, .sc, .own 66, .own 67])], 68⟩]

def spec_l12Spring_L : L := .seq (.rg []) (.seq (.rg [⟨[], .call F_l01Below 0 1, [.v 0, .v 1, .v 2, .k (.int .i64 20)], 3⟩, ⟨[], .bin .add, [.k (.int .i64 1), .v 3], 1⟩]) (.seq (.rg [⟨[], .bin .add, [.v 6, .k (.int .i64 1)], 1⟩, ⟨[], .call F_l01Below 0 1, [.v 0, .v 4, .v 5, .v 7], 3⟩, ⟨[], .call F_l01Below 0 1, [.v 0, .v 9, .v 10, .k (.int .i64 200)], 3⟩, ⟨[], .bin .mul, [.k (.int .i64 3), .v 11], 1⟩, ⟨[], .bin .add, [.k (.int .i64 1), .v 14], 1⟩]) (.ret [.v 8, .v 6, .v 15, .v 12, .v 13])))
theorem spec_l12Spring_L_sh (Q : QT) (x0 x1 x2 : V) : shL spec_l12Spring_L Q [x0, x1, x2] = (
  P3 (.call F_l01Below 0 1) [x0, x1, x2, .int .i64 20] fun v0 v1 v2 =>
  P1 (.bin .add) [.int .i64 1, v0] fun v3 =>
  P1 (.bin .add) [v3, .int .i64 1] fun v4 =>
  P3 (.call F_l01Below 0 1) [x0, v1, v2, v4] fun v5 v6 v7 =>
  P3 (.call F_l01Below 0 1) [x0, v6, v7, .int .i64 200] fun v8 v9 v10 =>
  P1 (.bin .mul) [.int .i64 3, v8] fun v11 =>
  P1 (.bin .add) [.int .i64 1, v11] fun v12 =>
  Q .ret [v5, v3, v12, v9, v10]) := by kernel_rfl
def spec_l12Spring_S : Sig := ⟨[.ptr [.sl [.sc], .sc, .sc]], [(true, [.sc, .sc, .sc])], F_l12Spring⟩
def spec_l12Spring_hs : List NF := []

def spec_l38Workshop_b0 : L := .seq (.seq (.seq (.rg [⟨[], .bin .lss, [.v 1, .v 16], 1⟩]) (.ite (.v 22) (.skip) (.seq (.tup [.v 2, .v 3, .v 4, .v 5, .v 6, .v 7, .v 8, .v 9, .v 10, .v 11, .v 12, .v 13, .v 14, .v 15, .v 16, .v 17, .v 18, .v 19, .v 20, .v 21]) (.exit 0)))) (.seq (.block 1 (.seq (.seq (.rg [⟨[], .lst [.sc] false 1, [.v 0], 1⟩, ⟨[], .app [.sc] 8, [.v 4, .v 23], 1⟩]) (.rg [⟨[], .lst [.sc] false 4, [.k (.int .i64 0), .k (.int .i64 1), .k (.int .i64 2), .k (.int .i64 4)], 1⟩, ⟨[], .call F_l01PickInt 0 1, [.v 5, .v 6, .v 7, .v 25], 3⟩, ⟨[], .bin .add, [.v 0, .v 26], 1⟩])) (.tup [.v 29, .v 1, .v 2, .v 3, .v 24, .v 5, .v 27, .v 28, .v 8, .v 9, .v 10, .v 11, .v 12, .v 13, .v 14, .v 15, .v 16, .v 17, .v 18, .v 19, .v 20, .v 21]))) (.rg [⟨[], .bin .add, [.v 1, .k (.int .i64 1)], 1⟩]))) (.tup [.v 0, .v 22, .v 2, .v 3, .v 4, .v 5, .v 6, .v 7, .v 8, .v 9, .v 10, .v 11, .v 12, .v 13, .v 14, .v 15, .v 16, .v 17, .v 18, .v 19, .v 20, .v 21])
theorem spec_l38Workshop_b0_sh (Q : QT) (x0 x1 x2 x3 x4 x5 x6 x7 x8 x9 x10 x11 x12 x13 x14 x15 x16 x17 x18 x19 x20 x21 : V) : shL spec_l38Workshop_b0 Q [x0, x1, x2, x3, x4, x5, x6, x7, x8, x9, x10, x11, x12, x13, x14, x15, x16, x17, x18, x19, x20, x21] = (
  P1 (.bin .lss) [x1, x16] fun v0 =>
  ifB v0 (
    P1 (.lst [.sc] false 1) [x0] fun v1 =>
    P1 (.app [.sc] 8) [x4, v1] fun v2 =>
    P1 (.lst [.sc] false 4) [.int .i64 0, .int .i64 1, .int .i64 2, .int .i64 4] fun v3 =>
    P3 (.call F_l01PickInt 0 1) [x5, x6, x7, v3] fun v4 v5 v6 =>
    P1 (.bin .add) [x0, v4] fun v7 =>
    P1 (.bin .add) [x1, .int .i64 1] fun v8 =>
    Q .normal [v7, v8, x2, x3, v2, x5, v5, v6, x8, x9, x10, x11, x12, x13, x14, x15, x16, x17, x18, x19, x20, x21]) (
    Q (.exit 0) [x2, x3, x4, x5, x6, x7, x8, x9, x10, x11, x12, x13, x14, x15, x16, x17, x18, x19, x20, x21])) := by kernel_rfl

def spec_l38Workshop_r1 : L := .seq (.rg []) (.ret [.v 13, .v 14, .v 0, .v 1, .v 2, .v 15, .v 16, .v 17, .v 18, .v 19, .v 4, .v 5])
theorem spec_l38Workshop_r1_sh (Q : QT) (x0 x1 x2 x3 x4 x5 x6 x7 x8 x9 x10 x11 x12 x13 x14 x15 x16 x17 x18 x19 : V) : shL spec_l38Workshop_r1 Q [x0, x1, x2, x3, x4, x5, x6, x7, x8, x9, x10, x11, x12, x13, x14, x15, x16, x17, x18, x19] = (
  Q .ret [x13, x14, x0, x1, x2, x15, x16, x17, x18, x19, x4, x5]) := by kernel_rfl

def spec_l38Workshop_L : L := .seq (.rg []) (.seq (.rg [⟨[], .call F_l37Bench 0 4, [.v 0, .v 1, .v 2], 6⟩, ⟨[], .call F_l12Spring 0 3, [.v 0, .v 7, .v 8], 5⟩, ⟨[], .lst [.sc] false 4, [.k (.int .i64 0), .k (.int .i64 1), .k (.int .i64 30), .k (.int .i64 999)], 1⟩, ⟨[], .call F_l01PickInt 0 1, [.v 0, .v 12, .v 13, .v 14], 3⟩, ⟨[], .lst [.sc] false 3, [.k (.int .i64 0), .k (.int .i64 12), .k (.int .i64 999999)], 1⟩, ⟨[], .call F_l01PickInt 0 1, [.v 0, .v 16, .v 17, .v 18], 3⟩]) (.seq (.rg []) (.seq (.seq (.rg []) (.block 0 (.seq (.tup [.k (.int .i64 10), .k (.int .i64 0), .v 5, .v 6, .k (.list [.sc] []), .v 0, .v 20, .v 21, .k (.int .i64 0), .k (.int .i64 0), .k (.int .i64 0), .k (.int .i64 0), .k (.int .i64 0), .k (.int .i64 0), .k (.int .i64 0), .v 3, .v 4, .v 9, .v 10, .v 11, .v 15, .v 19]) (.loop (spec_l38Workshop_b0))))) (spec_l38Workshop_r1))))
theorem spec_l38Workshop_L_sh (Q : QT) (x0 x1 x2 : V) : shL spec_l38Workshop_L Q [x0, x1, x2] = (
  P6 (.call F_l37Bench 0 4) [x0, x1, x2] fun v0 v1 v2 v3 v4 v5 =>
  P5 (.call F_l12Spring 0 3) [x0, v4, v5] fun v6 v7 v8 v9 v10 =>
  P1 (.lst [.sc] false 4) [.int .i64 0, .int .i64 1, .int .i64 30, .int .i64 999] fun v11 =>
  P3 (.call F_l01PickInt 0 1) [x0, v9, v10, v11] fun v12 v13 v14 =>
  P1 (.lst [.sc] false 3) [.int .i64 0, .int .i64 12, .int .i64 999999] fun v15 =>
  P3 (.call F_l01PickInt 0 1) [x0, v13, v14, v15] fun v16 v17 v18 =>
  shL (.loop spec_l38Workshop_b0) (qB 0 (qS (shL spec_l38Workshop_r1 Q) Q)) [.int .i64 10, .int .i64 0, v2, v3, .list [.sc] [], x0, v17, v18, .int .i64 0, .int .i64 0, .int .i64 0, .int .i64 0, .int .i64 0, .int .i64 0, .int .i64 0, v0, v1, v6, v7, v8, v12, v16]) := by kernel_rfl
def spec_l38Workshop_S : Sig := ⟨[.ptr [.sl [.sc], .sc, .sc]], [(true, [.sc, .sc, .sl [.sc, .sc], .sl [.sl [.sc, .sc]], .sl [.sc], .sc, .sc, .sc, .sc, .sc])], F_l38Workshop⟩
def spec_l38Workshop_hs : List NF := [⟨[(2, .ptr 64 0), (3, .ptr 65 0)], [(66, true, [.sc, .sc]), (67, true, [.sl [.sc, .sc]]), (68, true, [.sc])], [(0, [.ro [.sc], .sc, .sc]), (64, [.sc, .sc, .nil, .nil, .nil, .sc, .sc, .sc, .sc, .sc]), (65, [.sc, .sc, .own 66, .own 67, .own 68, .sc, .sc, .sc, .sc, .sc])], 69⟩, ⟨[(0, .ptr 0 0), (2, .ptr 64 0), (3, .ptr 65 0), (4, .sc false [.sc]), (5, .sc false [.sc])], [(66, true, [.sc, .sc]), (67, true, [.sl [.sc, .sc]]), (68, true, [.sc])], [(0, [.ro [.sc], .sc, .sc]), (64, [.sc, .sc, .nil, .nil, .nil, .sc, .sc, .sc, .sc, .sc]), (65, [.sc, .sc, .own 66, .own 67, .own 68, .sc, .sc, .sc, .sc, .sc])], 69⟩, ⟨[(0, .ptr 0 0), (2, .ptr 64 0), (3, .ptr 65 0), (4, .sc false [.sc]), (5, .sc false [.sc])], [(66, true, [.sc, .sc]), (67, true, [.sl [.sc, .sc]]), (68, true, [.sc])], [(0, [.ro [.sc], .sc, .sc]), (64, [.sc, .sc, .nil, .nil, .nil, .sc, .sc, .sc, .sc, .sc]), (65, [.sc, .sc, .own 66, .own 67, .own 68, .sc, .sc, .sc, .sc, .sc])], 69⟩]

def spec_l39Workshop_L : L := .seq (.rg []) (.seq (.seq (.rg [⟨[], .call F_l01Once 0 1, [.v 0, .v 1, .v 2, .k (.int .i64 2)], 3⟩]) (.ite (.v 3) (.seq (.rg [⟨[], .call F_SampleWorkshop 0 10, [], 10⟩]) (.ret [.v 6, .v 7, .v 8, .v 9, .v 10, .v 11, .v 12, .v 13, .v 14, .v 15, .v 4, .v 5])) (.skip))) (.seq (.rg [⟨[], .call F_l38Workshop 0 10, [.v 0, .v 4, .v 5], 12⟩]) (.ret [.v 6, .v 7, .v 8, .v 9, .v 10, .v 11, .v 12, .v 13, .v 14, .v 15, .v 16, .v 17])))
theorem spec_l39Workshop_L_sh (Q : QT) (x0 x1 x2 : V) : shL spec_l39Workshop_L Q [x0, x1, x2] = (
  P3 (.call F_l01Once 0 1) [x0, x1, x2, .int .i64 2] fun v0 v1 v2 =>
  ifB v0 (
    P10 (.call F_SampleWorkshop 0 10) [] fun v3 v4 v5 v6 v7 v8 v9 v10 v11 v12 =>
    Q .ret [v3, v4, v5, v6, v7, v8, v9, v10, v11, v12, v1, v2]) (
    P12 (.call F_l38Workshop 0 10) [x0, v1, v2] fun v13 v14 v15 v16 v17 v18 v19 v20 v21 v22 v23 v24 =>
    Q .ret [v13, v14, v15, v16, v17, v18, v19, v20, v21, v22, v23, v24])) := by kernel_rfl
def spec_l39Workshop_S : Sig := ⟨[.ptr [.sl [.sc], .sc, .sc]], [(true, [.sc, .sc, .sl [.sc, .sc], .sl [.sl [.sc, .sc]], .sl [.sc], .sc, .sc, .sc, .sc, .sc])], F_l39Workshop⟩
def spec_l39Workshop_hs : List NF := []

def spec_l39Act_r0 : L := .ite (.v 1) (.seq (.rg [⟨[], .call F_l01Below 0 1, [.v 2, .v 3, .v 4, .k (.int .i64 4)], 3⟩, ⟨[], .call F_l01Below 0 1, [.v 2, .v 9, .v 10, .k (.int .i64 16)], 3⟩]) (.ret [.k (.int .i64 1), .v 8, .v 11, .v 12, .v 13])) (.seq (.rg [⟨[], .bin .eql, [.v 0, .k (.int .i64 3)], 1⟩]) (.ite (.v 8) (.seq (.rg [⟨[], .call F_l01Below 0 1, [.v 2, .v 3, .v 4, .k (.int .i64 5)], 3⟩]) (.ret [.k (.int .i64 2), .v 9, .k (.int .i64 0), .v 10, .v 11])) (.seq (.rg [⟨[], .bin .eql, [.v 0, .k (.int .i64 4)], 1⟩]) (.ite (.v 9) (.seq (.rg []) (.ret [.k (.int .i64 3), .k (.int .i64 0), .k (.int .i64 0), .v 3, .v 4])) (.seq (.rg [⟨[], .bin .eql, [.v 0, .k (.int .i64 5)], 1⟩]) (.ite (.v 10) (.seq (.rg [⟨[], .call F_l01Below 0 1, [.v 2, .v 3, .v 4, .k (.int .i64 8)], 3⟩]) (.ret [.k (.int .i64 4), .v 11, .k (.int .i64 0), .v 12, .v 13])) (.seq (.seq (.rg [⟨[], .bin .eql, [.v 0, .k (.int .i64 6)], 1⟩]) (.ite (.v 11) (.seq (.skip) (.tup [.v 11, .v 2, .v 3, .v 4, .v 5, .v 6, .v 7])) (.seq (.rg [⟨[], .bin .eql, [.v 0, .k (.int .i64 7)], 1⟩]) (.tup [.v 12, .v 2, .v 3, .v 4, .v 5, .v 6, .v 7])))) (.ite (.v 0) (.seq (.rg []) (.ret [.k (.int .i64 5), .k (.int .i64 0), .k (.int .i64 0), .v 2, .v 3])) (.skip)))))))))
theorem spec_l39Act_r0_sh (Q : QT) (x0 x1 x2 x3 x4 x5 x6 x7 : V) : shL spec_l39Act_r0 Q [x0, x1, x2, x3, x4, x5, x6, x7] = (
  ifB x1 (
    P3 (.call F_l01Below 0 1) [x2, x3, x4, .int .i64 4] fun v0 v1 v2 =>
    P3 (.call F_l01Below 0 1) [x2, v1, v2, .int .i64 16] fun v3 v4 v5 =>
    Q .ret [.int .i64 1, v0, v3, v4, v5]) (
    P1 (.bin .eql) [x0, .int .i64 3] fun v6 =>
    ifB v6 (
      P3 (.call F_l01Below 0 1) [x2, x3, x4, .int .i64 5] fun v7 v8 v9 =>
      Q .ret [.int .i64 2, v7, .int .i64 0, v8, v9]) (
      P1 (.bin .eql) [x0, .int .i64 4] fun v10 =>
      ifB v10 (
        Q .ret [.int .i64 3, .int .i64 0, .int .i64 0, x3, x4]) (
        P1 (.bin .eql) [x0, .int .i64 5] fun v11 =>
        ifB v11 (
          P3 (.call F_l01Below 0 1) [x2, x3, x4, .int .i64 8] fun v12 v13 v14 =>
          Q .ret [.int .i64 4, v12, .int .i64 0, v13, v14]) (
          P1 (.bin .eql) [x0, .int .i64 6] fun v15 =>
          ifB v15 (
            Q .ret [.int .i64 5, .int .i64 0, .int .i64 0, x3, x4]) (
            P1 (.bin .eql) [x0, .int .i64 7] fun v16 =>
            ifB v16 (
              Q .ret [.int .i64 5, .int .i64 0, .int .i64 0, x3, x4]) (
              Q .normal [.bool false, x2, x3, x4, x5, x6, x7]))))))) := by kernel_rfl

def spec_l39Act_r1 : L := .tup [.v 1, .v 2, .v 3, .v 4, .v 5, .v 6]
theorem spec_l39Act_r1_sh (Q : QT) (x0 x1 x2 x3 x4 x5 x6 : V) : shL spec_l39Act_r1 Q [x0, x1, x2, x3, x4, x5, x6] = (
  Q .normal [x1, x2, x3, x4, x5, x6]) := by kernel_rfl

def spec_l39Act_r2 : L := .seq (.rg []) (.ret [.k (.int .i64 6), .k (.int .i64 0), .k (.int .i64 0), .v 1, .v 2])
theorem spec_l39Act_r2_sh (Q : QT) (x0 x1 x2 x3 x4 x5 : V) : shL spec_l39Act_r2 Q [x0, x1, x2, x3, x4, x5] = (
  Q .ret [.int .i64 6, .int .i64 0, .int .i64 0, x1, x2]) := by kernel_rfl

def spec_l39Act_L : L := .seq (.rg []) (.seq (.seq (.rg [⟨[], .call F_l01Below 0 1, [.v 0, .v 1, .v 2, .k (.int .i64 9)], 3⟩]) (.block 0 (.seq (.seq (.seq (.rg [⟨[], .bin .eql, [.v 3, .k (.int .i64 0)], 1⟩]) (.ite (.v 6) (.seq (.skip) (.tup [.v 3, .v 6, .v 0, .v 4, .v 5, .k (.int .i64 0), .k (.int .i64 0), .k (.int .i64 0)])) (.seq (.seq (.rg [⟨[], .bin .eql, [.v 3, .k (.int .i64 1)], 1⟩]) (.ite (.v 7) (.seq (.skip) (.tup [.v 3, .v 7, .v 0, .v 4, .v 5, .k (.int .i64 0), .k (.int .i64 0), .k (.int .i64 0)])) (.seq (.rg [⟨[], .bin .eql, [.v 3, .k (.int .i64 2)], 1⟩]) (.tup [.v 3, .v 8, .v 0, .v 4, .v 5, .k (.int .i64 0), .k (.int .i64 0), .k (.int .i64 0)])))) (.tup [.v 0, .v 1, .v 2, .v 3, .v 4, .v 5, .v 6, .v 7])))) (spec_l39Act_r0)) (spec_l39Act_r1)))) (spec_l39Act_r2))
theorem spec_l39Act_L_sh (Q : QT) (x0 x1 x2 : V) : shL spec_l39Act_L Q [x0, x1, x2] = (
  P3 (.call F_l01Below 0 1) [x0, x1, x2, .int .i64 9] fun v0 v1 v2 =>
  P1 (.bin .eql) [v0, .int .i64 0] fun v3 =>
  ifB v3 (
    shL spec_l39Act_r0 (qS (shL spec_l39Act_r1 (qB 0 (qS (shL spec_l39Act_r2 Q) Q))) (qB 0 (qS (shL spec_l39Act_r2 Q) Q))) [v0, .bool true, x0, v1, v2, .int .i64 0, .int .i64 0, .int .i64 0]) (
    P1 (.bin .eql) [v0, .int .i64 1] fun v4 =>
    ifB v4 (
      shL spec_l39Act_r0 (qS (shL spec_l39Act_r1 (qB 0 (qS (shL spec_l39Act_r2 Q) Q))) (qB 0 (qS (shL spec_l39Act_r2 Q) Q))) [v0, .bool true, x0, v1, v2, .int .i64 0, .int .i64 0, .int .i64 0]) (
      P1 (.bin .eql) [v0, .int .i64 2] fun v5 =>
      shL spec_l39Act_r0 (qS (shL spec_l39Act_r1 (qB 0 (qS (shL spec_l39Act_r2 Q) Q))) (qB 0 (qS (shL spec_l39Act_r2 Q) Q))) [v0, v5, x0, v1, v2, .int .i64 0, .int .i64 0, .int .i64 0]))) := by kernel_rfl
def spec_l39Act_S : Sig := ⟨[.ptr [.sl [.sc], .sc, .sc]], [(true, [.sc, .sc, .sc])], F_l39Act⟩
def spec_l39Act_hs : List NF := [⟨[(2, .ptr 64 0)], [], [(0, [.ro [.sc], .sc, .sc]), (64, [.sc, .sc, .sc])], 65⟩, ⟨[(0, .ptr 0 0), (2, .ptr 64 0), (4, .sc false [.sc]), (5, .sc false [.sc])], [], [(0, [.ro [.sc], .sc, .sc]), (64, [.sc, .sc, .sc])], 65⟩, ⟨[(0, .ptr 0 0), (2, .ptr 64 0), (4, .sc false [.sc]), (5, .sc false [.sc])], [], [(0, [.ro [.sc], .sc, .sc]), (64, [.sc, .sc, .sc])], 65⟩, ⟨[(2, .ptr 64 0), (27, .sc false [.sc])], [], [(0, [.ro [.sc], .sc, .sc]), (64, [.sc, .sc, .sc])], 65⟩]

def spec_l39List_b0 : L := .seq (.seq (.seq (.rg [⟨[], .bin .lss, [.v 1, .v 0], 1⟩]) (.ite (.v 6) (.skip) (.seq (.tup [.v 2, .v 3, .v 4, .v 5]) (.exit 0)))) (.seq (.block 1 (.seq (.seq (.rg [⟨[], .call F_l39Act 0 3, [.v 3, .v 4, .v 5], 5⟩]) (.rg [⟨[], .lst [.sc, .sc, .sc] true 1, [.v 7, .v 8, .v 9], 1⟩, ⟨[], .app [.sc, .sc, .sc] 24, [.v 2, .v 12], 1⟩])) (.tup [.v 0, .v 1, .v 13, .v 3, .v 10, .v 11]))) (.rg [⟨[], .bin .add, [.v 1, .k (.int .i64 1)], 1⟩]))) (.tup [.v 0, .v 6, .v 2, .v 3, .v 4, .v 5])
theorem spec_l39List_b0_sh (Q : QT) (x0 x1 x2 x3 x4 x5 : V) : shL spec_l39List_b0 Q [x0, x1, x2, x3, x4, x5] = (
  P1 (.bin .lss) [x1, x0] fun v0 =>
  ifB v0 (
    P5 (.call F_l39Act 0 3) [x3, x4, x5] fun v1 v2 v3 v4 v5 =>
    P1 (.lst [.sc, .sc, .sc] true 1) [v1, v2, v3] fun v6 =>
    P1 (.app [.sc, .sc, .sc] 24) [x2, v6] fun v7 =>
    P1 (.bin .add) [x1, .int .i64 1] fun v8 =>
    Q .normal [x0, v8, v7, x3, v4, v5]) (
    Q (.exit 0) [x2, x3, x4, x5])) := by kernel_rfl

def spec_l39List_r1 : L := .seq (.rg []) (.ret [.v 0, .v 2, .v 3])
theorem spec_l39List_r1_sh (Q : QT) (x0 x1 x2 x3 : V) : shL spec_l39List_r1 Q [x0, x1, x2, x3] = (
  Q .ret [x0, x2, x3]) := by kernel_rfl

def spec_l39List_L : L := .seq (.rg []) (.seq (.rg [⟨[], .lst [.sc, .sc, .sc] true 0, [], 1⟩]) (.seq (.rg [⟨[], .call F_l01Below 0 1, [.v 0, .v 1, .v 2, .k (.int .i64 14)], 3⟩]) (.seq (.seq (.rg []) (.block 0 (.seq (.tup [.v 4, .k (.int .i64 0), .v 3, .v 0, .v 5, .v 6]) (.loop (spec_l39List_b0))))) (spec_l39List_r1))))
theorem spec_l39List_L_sh (Q : QT) (x0 x1 x2 : V) : shL spec_l39List_L Q [x0, x1, x2] = (
  P1 (.lst [.sc, .sc, .sc] true 0) [] fun v0 =>
  P3 (.call F_l01Below 0 1) [x0, x1, x2, .int .i64 14] fun v1 v2 v3 =>
  shL (.loop spec_l39List_b0) (qB 0 (qS (shL spec_l39List_r1 Q) Q)) [v1, .int .i64 0, v0, x0, v2, v3]) := by kernel_rfl
def spec_l39List_S : Sig := ⟨[.ptr [.sl [.sc], .sc, .sc]], [(false, [.sl [.sc, .sc, .sc]])], F_l39List⟩
def spec_l39List_hs : List NF := [⟨[(3, .sc false [.own 64])], [(64, true, [.sc, .sc, .sc])], [(0, [.ro [.sc], .sc, .sc])], 65⟩, ⟨[(0, .ptr 0 0), (3, .sc false [.own 64]), (4, .sc false [.sc]), (5, .sc false [.sc])], [(64, true, [.sc, .sc, .sc])], [(0, [.ro [.sc], .sc, .sc])], 65⟩, ⟨[(0, .ptr 0 0), (3, .sc false [.own 64]), (4, .sc false [.sc]), (5, .sc false [.sc])], [(64, true, [.sc, .sc, .sc])], [(0, [.ro [.sc], .sc, .sc])], 65⟩]

def spec_DrawActs_L : L := .seq (.rg []) (.seq (.rg [⟨[], .call F_l01New 0 3, [.v 0], 3⟩]) (.seq (.rg [⟨[], .call F_l39Workshop 0 10, [.v 1, .v 2, .v 3], 12⟩]) (.seq (.rg [⟨[], .call F_l39List 0 1, [.v 1, .v 14, .v 15], 3⟩]) (.ret [.v 4, .v 5, .v 6, .v 7, .v 8, .v 9, .v 10, .v 11, .v 12, .v 13, .v 16]))))
theorem spec_DrawActs_L_sh (Q : QT) (x0 : V) : shL spec_DrawActs_L Q [x0] = (
  P3 (.call F_l01New 0 3) [x0] fun v0 v1 v2 =>
  P12 (.call F_l39Workshop 0 10) [v0, v1, v2] fun v3 v4 v5 v6 v7 v8 v9 v10 v11 v12 v13 v14 =>
  P3 (.call F_l39List 0 1) [v0, v13, v14] fun v15 _ _ =>
  Q .ret [v3, v4, v5, v6, v7, v8, v9, v10, v11, v12, v15]) := by kernel_rfl
def spec_DrawActs_S : Sig := ⟨[.val false [.sl [.sc]]], [(true, [.sc, .sc, .sl [.sc, .sc], .sl [.sl [.sc, .sc]], .sl [.sc], .sc, .sc, .sc, .sc, .sc]), (false, [.sl [.sc, .sc, .sc]])], F_DrawActs⟩
def spec_DrawActs_hs : List NF := []

end
end Go.Mw

/- Drawn benches, workshops, acts. -/
namespace Go.Mw
theorem spec_l01Once_ok : ∀ ds outs, F_l01Once ds = some outs → shL spec_l01Once_L (qRet outs) ds := F_l01Once_elim fun x n hp => by
  rw [spec_l01Once_L_sh, q_below (b := x.b) x rfl hp.1 hp.2]
  simp
  rfl
theorem q_once {b : List UInt8} (c : Cur) {n : Int} {m : Nat} {k : V → V → V → Prop} (hb : c.b = b) (h : 0 ≤ c.i) (hl : b.length ≤ 1048576) :
    P3 (.call F_l01Once 0 m) [vL I1 vY b, .int .i64 c.i, .int .i64 c.h, .int .i64 n] k ↔ k (.bool (decide (cBelow c n = 0))) (.int .i64 (cAfter c n).i) (.int .i64 (cAfter c n).h) := by
  subst hb; exact p_l01Once ⟨h, hl⟩

/-! benches -/
theorem stepTo_ok {b : Bench} {c : Cyl} {d : Bool} (h : benchOk b = true) : benchOk (stepTo b c d) = true := by
  unfold stepTo
  split
  · rename_i hk
    simp only [stepOk, Bool.and_eq_true] at hk
    exact hk.2.2
  · exact h
theorem stepTo_st {b : Bench} {c : Cyl} {d : Bool} (hs : c.s = b.s) (ht : c.t = b.t) : (stepTo b c d).s = b.s ∧ (stepTo b c d).t = b.t := by
  unfold stepTo
  split
  · exact ⟨hs, ht⟩
  · exact ⟨rfl, rfl⟩
theorem stepTo_len {b : Bench} {c : Cyl} {d : Bool} : (stepTo b c d).o.length ≤ b.o.length + 1 := by
  unfold stepTo
  split
  · simp [stepped]
  · omega
theorem stepTo_plen {b : Bench} {c : Cyl} {d : Bool} {n : Nat} (h1 : c.p.length ≤ n) (h2 : b.p.length ≤ n) : (stepTo b c d).p.length ≤ n := by
  unfold stepTo
  split
  · exact h1
  · exact h2
theorem addTo_eq {c : Cyl} {p : T2} : (addTo c p).s = c.s ∧ (addTo c p).t = c.t ∧ (addTo c p).p.length ≤ c.p.length + 1 := by
  unfold addTo
  split
  · exact ⟨rfl, rfl, putPin_len _ _⟩
  · exact ⟨rfl, rfl, by omega⟩

theorem missing_self (l : List T2) : missing l l = 0 := by
  unfold missing
  have : l.filter (fun p => decide (p ∉ l)) = [] := by simp
  rw [this]; rfl
theorem missing_nonneg (a b : List T2) : 0 ≤ missing a b := by unfold missing; omega
theorem missing_mono_r {q a b : List T2} (h : ∀ x ∈ a, x ∈ b) : missing q b ≤ missing q a := by
  unfold missing
  have : (q.filter fun p => decide (p ∉ b)).length ≤ (q.filter fun p => decide (p ∉ a)).length := by
    rw [← List.countP_eq_length_filter, ← List.countP_eq_length_filter]
    refine List.countP_mono_left fun x _ hx => ?_
    simp only [decide_eq_true_eq] at hx ⊢
    exact fun h2 => hx (h x h2)
  omega
theorem missing_perm {a b q : List T2} (h : a.Perm b) : missing a q = missing b q := by
  unfold missing
  rw [(h.filter _).length_eq]
theorem missing_append (a b q : List T2) : missing (a ++ b) q = missing a q + missing b q := by
  unfold missing
  rw [List.filter_append, List.length_append]; omega
theorem missing_one (x : T2) (q : List T2) : missing [x] q ≤ 1 := by
  unfold missing
  have := List.length_filter_le (fun p => decide (p ∉ q)) [x]
  simp only [List.length_singleton] at this
  omega
theorem missing_drop1 {q : List T2} (x : T2) (a b : List T2) (hq : q.Nodup) : missing q (a ++ b) ≤ missing q (a ++ x :: b) + 1 := by
  unfold missing
  induction q with
  | nil => simp
  | cons y r ih =>
    have hr := ih (List.nodup_cons.1 hq).2
    simp only [List.filter_cons]
    by_cases e : y = x
    · subst e
      have hy : y ∉ r := (List.nodup_cons.1 hq).1
      have h1 : decide (y ∉ a ++ y :: b) = false := by simp
      have h2 : r.filter (fun p => decide (p ∉ a ++ b)) = r.filter (fun p => decide (p ∉ a ++ y :: b)) := by
        refine List.filter_congr fun z hz => ?_
        have : z ≠ y := fun h => hy (h ▸ hz)
        simp [this]
      rw [h1, h2]
      simp only [Bool.false_eq_true, if_false]
      split
      · simp only [List.length_cons]; omega
      · omega
    · have h1 : decide (y ∉ a ++ x :: b) = decide (y ∉ a ++ b) := by simp [e]
      rw [h1]
      split
      · simp only [List.length_cons]; omega
      · exact hr
theorem rising_pair {l : List T2} (h : rising l = true) : l.Pairwise (fun x y => pinLess x y = true) := by
  induction l with
  | nil => exact .nil
  | cons a r ih => exact .cons (rising_less h) (ih (rising_cons.1 h).2)
theorem rising_nodup {l : List T2} (h : rising l = true) : l.Nodup :=
  (rising_pair h).imp fun {a b} h e => by subst e; rw [pinLess_irrefl] at h; cases h
/-- Two pin lists that lie one change apart. -/
def Near (c b : List T2) : Prop := ∀ q : List T2, q.Nodup → missing c q + missing q c ≤ missing b q + missing q b + 1
theorem near_put {l : List T2} {y : T2} (hy : y ∉ l) : Near (putPin l y) l := by
  intro q hq
  have hp := putPin_perm hy
  rw [missing_perm hp, missing_append]
  have h1 := missing_one y q
  have h2 : missing q (putPin l y) ≤ missing q l := missing_mono_r fun x hx => (hp.mem_iff).2 (by simp [hx])
  omega
theorem near_pull {l : List T2} {k : Nat} (hk : k < l.length) : Near (l.take k ++ l.drop (k + 1)) l := by
  intro q hq
  have e : l = l.take k ++ l[k] :: l.drop (k + 1) := by rw [List.getElem_cons_drop hk, List.take_append_drop]
  have h1 := missing_drop1 l[k] (l.take k) (l.drop (k + 1)) hq
  rw [← e] at h1
  have h2 : missing (l.take k ++ l.drop (k + 1)) q ≤ missing l q := by
    have h3 : missing l q = missing (l.take k ++ l[k] :: l.drop (k + 1)) q := by rw [← e]
    have h4 : missing (l.take k ++ l[k] :: l.drop (k + 1)) q = missing (l.take k) q + (missing [l[k]] q + missing (l.drop (k + 1)) q) := by
      rw [← missing_append, ← missing_append]; rfl
    have h5 := missing_nonneg [l[k]] q
    rw [h3, h4, missing_append]; omega
  omega
/-- The pins have changed from the oldest list by at most as many as there are steps. -/
def Chg (b : Bench) : Prop := ∀ q, b.o.head? = some q → missing b.p q + missing q b.p ≤ b.o.length
theorem chg_stepped {b : Bench} {c : Cyl} (hb : benchOk b = true) (hn : Near c.p b.p) (h : Chg b) : Chg (stepped b c) := by
  intro q hq
  obtain ⟨h1, h2, h3⟩ := (benchOk_iff b).1 hb
  simp only [stepped] at hq ⊢
  cases ho : b.o with
  | nil =>
    rw [ho] at hq
    simp only [List.nil_append, List.head?_cons, Option.some.injEq] at hq
    subst hq
    have := hn b.p (rising_nodup (cylOk_rising h1))
    rw [missing_self] at this
    simp; omega
  | cons x r =>
    rw [ho] at hq
    simp only [List.cons_append, List.head?_cons, Option.some.injEq] at hq
    subst hq
    have h4 := h x (by rw [ho]; rfl)
    have h5 := hn x (rising_nodup (cylOk_rising (h3 x (by simp [ho]))))
    rw [ho] at h4
    simp only [List.length_cons, List.length_append, List.length_nil] at h4 ⊢
    omega
theorem chg_stepTo {b : Bench} {c : Cyl} {d : Bool} (hb : benchOk b = true) (hn : d = true → Near c.p b.p) (h : Chg b) : Chg (stepTo b c d) := by
  unfold stepTo
  split
  · rename_i hk
    simp only [Bool.and_eq_true] at hk
    exact chg_stepped hb (hn hk.1) h
  · exact h
theorem chg_set {b : Bench} {p : T2} (hb : benchOk b = true) (h : Chg b) : Chg (setPin b p) := by
  refine chg_stepTo hb (fun hd => ?_) h
  have hd' := hd
  simp only [addOk, Bool.and_eq_true, Bool.not_eq_true', decide_eq_false_iff_not] at hd'
  simp only [addTo, hd, if_true]
  exact near_put hd'.2.1
theorem chg_take {b : Bench} {k : Int} (hb : benchOk b = true) (h : Chg b) : Chg (takePin b k) := by
  refine chg_stepTo hb (fun hd => ?_) h
  have hd' := hd
  simp only [pullOk, Bool.and_eq_true, decide_eq_true_eq] at hd'
  have h1 : (cylOk b.cyl && (decide (0 ≤ k) && decide (k < b.cyl.p.length))) = true := hd
  simp only [pulled, pullPin, h1, if_true]
  exact near_pull (by simp only [Bench.cyl] at hd' ⊢; omega)

/-- What is known of a drawn bench behind k steps. -/
structure BenchInv (b : Bench) (s t : Int) (k : Nat) : Prop where
  ok : benchOk b = true
  st : b.s = s ∧ b.t = t
  len : b.p.length ≤ 9 + k
  old : b.o.length ≤ k
  chg : Chg b
theorem BenchInv.step {b : Bench} {s t : Int} {k : Nat} (h : BenchInv b s t k) (x : Cur) : BenchInv (benchStep b x).1 s t (k + 1) := by
  unfold benchStep
  split
  · have e := stepTo_st (b := b) (c := pulled b (cBelow (cAfter x 3) 6)) (d := pullOk b.cyl (cBelow (cAfter x 3) 6)) rfl rfl
    have h1 := pullPin_len b.cyl (cBelow (cAfter x 3) 6)
    have h2 := h.len
    have h3 := h.old
    exact ⟨stepTo_ok h.ok, ⟨e.1.trans h.st.1, e.2.trans h.st.2⟩, stepTo_plen (Nat.le_trans h1 (by simp only [Bench.cyl]; omega)) (by omega), Nat.le_trans stepTo_len (by omega), chg_take h.ok h.chg⟩
  · generalize (⟨cBelow (cAfter x 3) b.t, cBelow (cAfter (cAfter x 3) b.t) b.s⟩ : T2) = p
    have a := addTo_eq (c := b.cyl) (p := p)
    have e := stepTo_st (b := b) (c := addTo b.cyl p) (d := addOk b.cyl p) a.1 a.2.1
    have h2 := h.len
    have h3 := h.old
    exact ⟨stepTo_ok h.ok, ⟨e.1.trans h.st.1, e.2.trans h.st.2⟩, stepTo_plen (Nat.le_trans a.2.2 (by simp only [Bench.cyl]; omega)) (by omega), Nat.le_trans stepTo_len (by omega), chg_set h.ok h.chg⟩
theorem benchStep_b (b : Bench) (x : Cur) : (benchStep b x).2.b = x.b := by unfold benchStep; split <;> simp
theorem benchStep_i {b : Bench} {x : Cur} (h : 0 ≤ x.i) : 0 ≤ (benchStep b x).2.i := by
  unfold benchStep
  split
  · exact cAfter_i (cAfter_i h)
  · exact cAfter_i (cAfter_i (cAfter_i h))
theorem bench_inv {x : Cur} (hi : 0 ≤ x.i) : ∀ k, BenchInv (benchTo x k).1 (cylS x) (cylT x) k ∧ (benchTo x k).2.b = x.b ∧ 0 ≤ (benchTo x k).2.i
  | 0 => by
    have h := cylOf_ok hi
    have h2 := cylEnd_b hi
    refine ⟨⟨(benchOk_iff _).2 ⟨h.1, by simp [benchTo], by simp [benchTo]⟩, ⟨rfl, rfl⟩, h.2, by simp [benchTo], fun q hq => by simp [benchTo] at hq⟩, ?_, cAfter_i h2.2⟩
    show (cAfter (cylEnd x) 7).b = _
    rw [cAfter_b]; exact h2.1
  | k + 1 => by
    obtain ⟨h1, h2, h3⟩ := bench_inv hi k
    exact ⟨h1.step _, (benchStep_b _ _).trans h2, benchStep_i h3⟩
theorem benchN_le (x : Cur) : benchN x ≤ 6 := by
  have := cBelow_range (cylEnd x) (show (0 : Int) < 7 by omega)
  unfold benchN; omega
theorem benchOf_inv {x : Cur} (hi : 0 ≤ x.i) : BenchInv (benchOf x) (cylS x) (cylT x) 6 := by
  have h := (bench_inv hi (benchN x)).1
  have h2 := benchN_le x
  exact ⟨h.ok, h.st, by have := h.len; simp only [benchOf]; omega, by have := h.old; simp only [benchOf]; omega, h.chg⟩
theorem benchEnd_b {x : Cur} (hi : 0 ≤ x.i) : (benchEnd x).b = x.b ∧ 0 ≤ (benchEnd x).i := (bench_inv hi (benchN x)).2
theorem q_cyl {b : List UInt8} (c : Cur) {m : Nat} {k : V → V → V → V → V → Prop} (hb : c.b = b) (h : 0 ≤ c.i) (hl : b.length ≤ 1048576) :
    P5 (.call F_l06Cylinder 0 m) [vL I1 vY b, .int .i64 c.i, .int .i64 c.h] k ↔ k (.int .i64 (cylOf c).s) (.int .i64 (cylOf c).t) (vL I2 v2 (cylOf c).p) (.int .i64 (cylEnd c).i) (.int .i64 (cylEnd c).h) := by
  subst hb; exact p_l06Cylinder ⟨h, hl⟩
theorem spec_l37Bench_ok : ∀ ds outs, F_l37Bench ds = some outs → shL spec_l37Bench_L (qRet outs) ds := F_l37Bench_elim fun x hp => by
  obtain ⟨i0, hb⟩ := hp
  have hE := cylEnd_b i0
  have hr := cBelow_range (cylEnd x) (show (0 : Int) < 7 by omega)
  rw [spec_l37Bench_L_sh, q_cyl (b := x.b) x rfl i0 hb, q_below (b := x.b) (cylEnd x) hE.1 hE.2 hb]
  refine loop_upto (benchN x) (fun k => [.int .i64 (cBelow (cylEnd x) 7 - k), vL I2 v2 (benchTo x k).1.p, vL IL2 vLL2 (benchTo x k).1.o, vL I1 vY x.b, .int .i64 (benchTo x k).2.i, .int .i64 (benchTo x k).2.h, .int .i64 0, .int .i64 0, .int .i64 (benchTo x k).1.s, .int .i64 (benchTo x k).1.t])
    (by intro i j hi hj h; simp only [List.cons.injEq, V.int.injEq, true_and] at h; omega) (fun _ => True) (by simp [benchTo]; rfl) trivial ?_
  intro k hk _
  obtain ⟨g1, g2, g3⟩ := bench_inv i0 k
  have hf : (benchTo x k).1.p.length ≤ 1048576 ∧ fitLL (benchTo x k).1.o := ⟨(bSmall_of_ok g1.ok).1, (bSmall_of_ok g1.ok).2.1⟩
  have hN : (benchN x : Int) = cBelow (cylEnd x) 7 := by unfold benchN; omega
  have e4 : benchTo x (k + 1) = benchStep (benchTo x k).1 (benchTo x k).2 := rfl
  rw [spec_l37Bench_b0_sh]
  simp only [P1_gtr, ifB_bool, decide_eq_true_eq, decide_eq_false_iff_not]
  refine ⟨fun h => ?_, fun h => ?_⟩
  · rw [q_once (b := x.b) _ g2 g3 hb]
    have hw : IntKind.i64.wrap (cBelow (cylEnd x) 7 - (k : Int) - 1) = cBelow (cylEnd x) 7 - ((k + 1 : Nat) : Int) := by rw [wrap_id (by omega) (by omega)]; omega
    simp only [ifB_bool, decide_eq_true_eq, decide_eq_false_iff_not, P1_sub, hw]
    refine ⟨fun h3 => ?_, fun h3 => ?_⟩
    · rw [q_below (b := x.b) (cAfter _ _) (by simp [g2]) (cAfter_i g3) hb]
      rw [p_TakePin (x_s := (benchTo x k).1.s) (x_t := (benchTo x k).1.t) (x_p := (benchTo x k).1.p) (x_o := (benchTo x k).1.o) hf]
      rw [e4]
      simp only [benchStep, h3, if_true]
      exact ⟨by omega, rfl, trivial⟩
    · rw [q_below (b := x.b) (cAfter _ _) (by simp [g2]) (cAfter_i g3) hb, q_below (b := x.b) (cAfter (cAfter _ _) _) (by simp [g2]) (cAfter_i (cAfter_i g3)) hb]
      rw [p_SetPin (x_s := (benchTo x k).1.s) (x_t := (benchTo x k).1.t) (x_p := (benchTo x k).1.p) (x_o := (benchTo x k).1.o) (y_a := cBelow (cAfter (benchTo x k).2 3) (benchTo x k).1.t) (y_b := cBelow (cAfter (cAfter (benchTo x k).2 3) (benchTo x k).1.t) (benchTo x k).1.s) hf]
      rw [e4]
      simp only [benchStep, h3, if_false]
      exact ⟨by omega, rfl, trivial⟩
  · have e : k = benchN x := by omega
    subst e
    simp [spec_l37Bench_r1_sh, benchOf, benchEnd]
end Go.Mw

/- Drawn springs, workshops, acts. -/
namespace Go.Mw
theorem springMost_r (x : Cur) : 1 ≤ springMost x ∧ springMost x ≤ 20 := by
  have := cBelow_range x (show (0 : Int) < 20 by omega)
  unfold springMost; omega
theorem springEnd_b (x : Cur) : (springEnd x).b = x.b := by simp [springEnd]
theorem springEnd_i {x : Cur} (h : 0 ≤ x.i) : 0 ≤ (springEnd x).i := cAfter_i (cAfter_i (cAfter_i h))
theorem springOf_ok (x : Cur) : springOk (springOf x) = true := by
  have h1 := springMost_r x
  have h2 := cBelow_range (cAfter x 20) (show (0 : Int) < springMost x + 1 by omega)
  have h3 := cBelow_range (cAfter (cAfter x 20) (springMost x + 1)) (show (0 : Int) < 200 by omega)
  simp only [springOk, springOf, Bool.and_eq_true, within_iff']
  omega
theorem spec_l12Spring_ok : ∀ ds outs, F_l12Spring ds = some outs → shL spec_l12Spring_L (qRet outs) ds := F_l12Spring_elim fun x hp => by
  obtain ⟨i0, hb⟩ := hp
  have h1 := springMost_r x
  have h3 := cBelow_range (cAfter (cAfter x 20) (springMost x + 1)) (show (0 : Int) < 200 by omega)
  have w1 : IntKind.i64.wrap (1 + cBelow x 20) = springMost x := wrap_id (by unfold springMost at h1; omega) (by unfold springMost at h1; omega)
  have w2 : IntKind.i64.wrap (springMost x + 1) = springMost x + 1 := wrap_id (by omega) (by omega)
  rw [spec_l12Spring_L_sh, q_below (b := x.b) x rfl i0 hb]
  simp only [P1_add, w1, w2]
  rw [q_below (b := x.b) (cAfter x 20) (by simp) (cAfter_i i0) hb, q_below (b := x.b) (cAfter (cAfter x 20) _) (by simp) (cAfter_i (cAfter_i i0)) hb]
  have w3 : IntKind.i64.wrap (3 * cBelow (cAfter (cAfter x 20) (springMost x + 1)) 200) = 3 * cBelow (cAfter (cAfter x 20) (springMost x + 1)) 200 := wrap_id (by omega) (by omega)
  have w4 : IntKind.i64.wrap (1 + 3 * cBelow (cAfter (cAfter x 20) (springMost x + 1)) 200) = 1 + 3 * cBelow (cAfter (cAfter x 20) (springMost x + 1)) 200 := wrap_id (by omega) (by omega)
  simp [w3, w4, springOf, springEnd]

/-! combs -/
theorem combStep_r (x : Cur) : 0 ≤ (([0, 1, 2, 4] : List Int)[(cBelow x 4).toNat]?).getD 0 ∧ (([0, 1, 2, 4] : List Int)[(cBelow x 4).toNat]?).getD 0 ≤ 4 := by
  have h := cBelow_range x (show (0 : Int) < 4 by omega)
  generalize cBelow x 4 = v at *
  obtain rfl | rfl | rfl | rfl : v = 0 ∨ v = 1 ∨ v = 2 ∨ v = 3 := by omega
  all_goals simp
theorem upward_snoc {l : List Int} {y : Int} (h : upward l = true) (hl : ∀ x ∈ l, x ≤ y) : upward (l ++ [y]) = true := by
  induction l with
  | nil => rfl
  | cons a r ih =>
    cases r with
    | nil => simp [upward, hl a (by simp)]
    | cons b s =>
      simp only [upward, Bool.and_eq_true] at h
      have := ih h.2 (fun x hx => hl x (by simp [hx]))
      simp only [List.cons_append, upward, Bool.and_eq_true]
      exact ⟨h.1, this⟩
theorem comb_inv {x : Cur} (hi : 0 ≤ x.i) : ∀ k, (combTo x k).2.b = x.b ∧ 0 ≤ (combTo x k).2.i ∧ (combTo x k).1.1.length = k ∧ 10 ≤ (combTo x k).1.2 ∧ (combTo x k).1.2 ≤ 10 + 4 * k ∧
    (∀ y ∈ (combTo x k).1.1, 0 ≤ y ∧ y ≤ (combTo x k).1.2) ∧ upward (combTo x k).1.1 = true
  | 0 => ⟨rfl, hi, rfl, by simp [combTo], by simp [combTo], by simp [combTo], rfl⟩
  | k + 1 => by
    obtain ⟨h1, h2, h3, h4, h5, h6, h7⟩ := comb_inv hi k
    have r := combStep_r (combTo x k).2
    refine ⟨by simp [combTo, h1], cAfter_i h2, by simp [combTo, h3], ?_, ?_, ?_, upward_snoc h7 fun y hy => (h6 y hy).2⟩
    · simp only [combTo]; omega
    · simp only [combTo]; omega
    · intro y hy
      simp only [combTo, List.mem_append, List.mem_singleton] at hy ⊢
      rcases hy with hy | rfl
      · have := h6 y hy; omega
      · omega
theorem combTo_ok {x : Cur} (hi : 0 ≤ x.i) {k : Nat} (h1 : 1 ≤ k) (h2 : k ≤ 8) : combOk (combTo x k).1.1 = true := by
  obtain ⟨-, -, h3, h4, h5, h6, h7⟩ := comb_inv hi k
  simp only [combOk, Bool.and_eq_true, within_iff', List.all_eq_true, h3]
  refine ⟨by omega, fun y hy => ?_, h7⟩
  have := h6 y hy
  omega

/-! workshops -/
theorem shopMoney_r (x : Cur) : 0 ≤ shopMoney x ∧ shopMoney x ≤ 999 := by
  have h := cBelow_range (springEnd (benchEnd x)) (show (0 : Int) < 4 by omega)
  unfold shopMoney
  generalize cBelow (springEnd (benchEnd x)) 4 = v at *
  obtain rfl | rfl | rfl | rfl : v = 0 ∨ v = 1 ∨ v = 2 ∨ v = 3 := by omega
  all_goals simp
theorem shopPlayed_r (x : Cur) : 0 ≤ shopPlayed x ∧ shopPlayed x ≤ 999999 := by
  have h := cBelow_range (cAfter (springEnd (benchEnd x)) 4) (show (0 : Int) < 3 by omega)
  unfold shopPlayed
  generalize cBelow (cAfter (springEnd (benchEnd x)) 4) 3 = v at *
  obtain rfl | rfl | rfl : v = 0 ∨ v = 1 ∨ v = 2 := by omega
  all_goals simp
theorem shopCur_b {x : Cur} (hi : 0 ≤ x.i) : (shopCur x).b = x.b ∧ 0 ≤ (shopCur x).i := by
  have h := benchEnd_b hi
  exact ⟨by simp [shopCur, springEnd_b, h.1], cAfter_i (cAfter_i (springEnd_i h.2))⟩
theorem benchOf_t {x : Cur} (hi : 0 ≤ x.i) : (4 ≤ (benchOf x).s ∧ (benchOf x).s ≤ 24) ∧ (1 ≤ (benchOf x).t ∧ (benchOf x).t ≤ 8) := by
  have h := (benchOf_inv hi).st
  have r := cyl_r x
  omega
theorem shopEnd_b {x : Cur} (hi : 0 ≤ x.i) : (shopEnd x).b = x.b ∧ 0 ≤ (shopEnd x).i := by
  have h := shopCur_b hi
  have h2 := comb_inv h.2 (benchOf x).t.toNat
  exact ⟨h2.1.trans h.1, h2.2.1⟩
theorem shopOf_ok {x : Cur} (hi : 0 ≤ x.i) : shopOk (shopOf x) = true := by
  have h := benchOf_inv hi
  have ht := benchOf_t hi
  have hc := shopCur_b hi
  have h1 := shopMoney_r x
  have h2 := shopPlayed_r x
  have h3 := comb_inv hc.2 (benchOf x).t.toNat
  rw [shopOk_iff]
  refine ⟨h.ok, combTo_ok hc.2 (by omega) (by omega), springOf_ok _, ?_, ?_, ?_⟩
  · show (benchOf x).t = ((combTo (shopCur x) (benchOf x).t.toNat).1.1.length : Int)
    rw [h3.2.2.1]; omega
  · rw [within_iff']; show 0 ≤ shopMoney x ∧ shopMoney x ≤ 1000000; omega
  · rw [within_iff']; show 0 ≤ shopPlayed x ∧ shopPlayed x ≤ 1000000; omega
theorem q_bench {b : List UInt8} (c : Cur) {m : Nat} {k : V → V → V → V → V → V → Prop} (hb : c.b = b) (h : 0 ≤ c.i) (hl : b.length ≤ 1048576) :
    P6 (.call F_l37Bench 0 m) [vL I1 vY b, .int .i64 c.i, .int .i64 c.h] k ↔ k (.int .i64 (benchOf c).s) (.int .i64 (benchOf c).t) (vL I2 v2 (benchOf c).p) (vL IL2 vLL2 (benchOf c).o) (.int .i64 (benchEnd c).i) (.int .i64 (benchEnd c).h) := by
  subst hb; exact p_l37Bench ⟨h, hl⟩
theorem q_spring {b : List UInt8} (c : Cur) {m : Nat} {k : V → V → V → V → V → Prop} (hb : c.b = b) (h : 0 ≤ c.i) (hl : b.length ≤ 1048576) :
    P5 (.call F_l12Spring 0 m) [vL I1 vY b, .int .i64 c.i, .int .i64 c.h] k ↔ k (.int .i64 (springOf c).a) (.int .i64 (springOf c).b) (.int .i64 (springOf c).c) (.int .i64 (springEnd c).i) (.int .i64 (springEnd c).h) := by
  subst hb; exact p_l12Spring ⟨h, hl⟩
@[simp] theorem P1_lstI4 {a b c d : Int} {k : V → Prop} : P1 (.lst [.sc] false 4) [.int .i64 a, .int .i64 b, .int .i64 c, .int .i64 d] k ↔ k (vL I1 v1 [a, b, c, d]) := P1_of (by simp [Prim.run, aksOk, akOk, chunk, V.pack, vL, v1]) k
theorem spec_l38Workshop_ok : ∀ ds outs, F_l38Workshop ds = some outs → shL spec_l38Workshop_L (qRet outs) ds := F_l38Workshop_elim fun x hp => by
  obtain ⟨i0, hb⟩ := hp
  have hE := benchEnd_b i0
  have hS := springEnd_i hE.2
  have hC := shopCur_b i0
  have ht := benchOf_t i0
  rw [spec_l38Workshop_L_sh, q_bench (b := x.b) x rfl i0 hb, q_spring (b := x.b) _ hE.1 hE.2 hb]
  simp only [P1_lstI4, P1_lstI3]
  rw [q_pick (b := x.b) (springEnd (benchEnd x)) (by rw [springEnd_b, hE.1]) hS hb (by simp) (by simp)]
  rw [q_pick (b := x.b) (cAfter (springEnd (benchEnd x)) _) (by rw [cAfter_b, springEnd_b, hE.1]) (cAfter_i hS) hb (by simp) (by simp)]
  have e4 : (([0, 1, 30, 999] : List Int).length : Int) = 4 := rfl
  have e3 : (([0, 12, 999999] : List Int).length : Int) = 3 := rfl
  simp only [e4, e3]
  refine loop_upto (benchOf x).t.toNat (fun k => [.int .i64 (combTo (shopCur x) k).1.2, .int .i64 k, vL I2 v2 (benchOf x).p, vL IL2 vLL2 (benchOf x).o, vL I1 v1 (combTo (shopCur x) k).1.1, vL I1 vY x.b, .int .i64 (combTo (shopCur x) k).2.i, .int .i64 (combTo (shopCur x) k).2.h,
      .int .i64 0, .int .i64 0, .int .i64 0, .int .i64 0, .int .i64 0, .int .i64 0, .int .i64 0, .int .i64 (benchOf x).s, .int .i64 (benchOf x).t, .int .i64 (springOf (benchEnd x)).a, .int .i64 (springOf (benchEnd x)).b, .int .i64 (springOf (benchEnd x)).c, .int .i64 (shopMoney x), .int .i64 (shopPlayed x)])
    (by intro i j hi hj h; simp only [List.cons.injEq, V.int.injEq, true_and] at h; omega) (fun _ => True) (by simp [combTo]; exact ⟨rfl, rfl, rfl, rfl⟩) trivial ?_
  intro k hk _
  obtain ⟨g1, g2, g3, g4, g5, -, -⟩ := comb_inv hC.2 k
  have r := combStep_r (combTo (shopCur x) k).2
  rw [spec_l38Workshop_b0_sh]
  simp only [P1_lss, ifB_bool, decide_eq_true_eq, decide_eq_false_iff_not]
  refine ⟨fun h => ?_, fun h => ?_⟩
  · simp only [P1_lstI4]
    have hw : IntKind.i64.wrap ((k : Int) + 1) = ((k + 1 : Nat) : Int) := by rw [wrap_id (by omega) (by omega)]; omega
    have hw2 : IntKind.i64.wrap ((combTo (shopCur x) k).1.2 + (([0, 1, 2, 4] : List Int)[(cBelow (combTo (shopCur x) k).2 4).toNat]?).getD 0) = (combTo (shopCur x) (k + 1)).1.2 := wrap_id (by omega) (by omega)
    simp only [P1_lst1, P1_appI_, g3, List.length_singleton]
    refine ⟨by omega, ?_⟩
    rw [q_pick (b := x.b) _ (g1.trans hC.1) g2 hb (by simp) (by simp)]
    have e4' : (([0, 1, 2, 4] : List Int).length : Int) = 4 := rfl
    simp only [e4', P1_add, hw, hw2]
    simp [combTo, g3]
    omega
  · have e : k = (benchOf x).t.toNat := by omega
    subst e
    simp [spec_l38Workshop_r1_sh, shopOf, shopEnd]
end Go.Mw

/- Drawn acts and scenarios; replays. -/
namespace Go.Mw
theorem actDraw_b (x : Cur) : (actDraw x).2.b = x.b := by unfold actDraw; split <;> (try split) <;> (try split) <;> (try split) <;> (try split) <;> simp
theorem actDraw_i {x : Cur} (h : 0 ≤ x.i) : 0 ≤ (actDraw x).2.i := by
  unfold actDraw
  split
  · exact cAfter_i (cAfter_i (cAfter_i h))
  · split
    · exact cAfter_i (cAfter_i h)
    · split
      · exact cAfter_i h
      · split
        · exact cAfter_i (cAfter_i h)
        · split <;> exact cAfter_i h
theorem q_actB {b : List UInt8} (c : Cur) {n : Int} {m : Nat} {k : V → V → V → Prop} (hb : c.b = b) (h : 0 ≤ c.i) (hl : b.length ≤ 1048576) : P3 (.call F_l01Below 0 m) [vL I1 vY b, .int .i64 (cAfter c 9).i, .int .i64 (cAfter c 9).h, .int .i64 n] k ↔ k (.int .i64 (cBelow (cAfter c 9) n)) (.int .i64 (cAfter (cAfter c 9) n).i) (.int .i64 (cAfter (cAfter c 9) n).h) :=
  q_below (b := b) (cAfter c 9) (by simpa using hb) (cAfter_i h) hl
theorem spec_l39Act_ok : ∀ ds outs, F_l39Act ds = some outs → shL spec_l39Act_L (qRet outs) ds := F_l39Act_elim fun x hp => by
  obtain ⟨i0, hb⟩ := hp
  have hr := cBelow_range x (show (0 : Int) < 9 by omega)
  rw [spec_l39Act_L_sh, q_below (b := x.b) x rfl i0 hb]
  generalize hv : cBelow x 9 = v at *
  obtain h | rfl | rfl | rfl | h | rfl : (v = 0 ∨ v = 1 ∨ v = 2) ∨ v = 3 ∨ v = 4 ∨ v = 5 ∨ (v = 6 ∨ v = 7) ∨ v = 8 := by omega
  · have e : actDraw x = (⟨1, cBelow (cAfter x 9) 4, cBelow (cAfter (cAfter x 9) 4) 16⟩, cAfter (cAfter (cAfter x 9) 4) 16) := by
      unfold actDraw; rw [hv, if_pos (by omega)]
    rw [e]
    rcases h with rfl | rfl | rfl <;> simp [spec_l39Act_r0_sh, q_actB (b := x.b) x rfl i0 hb, q_below (b := x.b) (cAfter (cAfter x 9) 4) (by simp) (cAfter_i (cAfter_i i0)) hb]
  · have e : actDraw x = (⟨2, cBelow (cAfter x 9) 5, 0⟩, cAfter (cAfter x 9) 5) := by unfold actDraw; rw [hv]; rfl
    rw [e]
    simp [spec_l39Act_r0_sh, q_actB (b := x.b) x rfl i0 hb]
  · have e : actDraw x = (⟨3, 0, 0⟩, cAfter x 9) := by unfold actDraw; rw [hv]; rfl
    rw [e]
    simp [spec_l39Act_r0_sh]
  · have e : actDraw x = (⟨4, cBelow (cAfter x 9) 8, 0⟩, cAfter (cAfter x 9) 8) := by unfold actDraw; rw [hv]; rfl
    rw [e]
    simp [spec_l39Act_r0_sh, q_actB (b := x.b) x rfl i0 hb]
  · have e : actDraw x = (⟨5, 0, 0⟩, cAfter x 9) := by unfold actDraw; rw [hv]; rcases h with rfl | rfl <;> rfl
    rw [e]
    rcases h with rfl | rfl <;> simp [spec_l39Act_r0_sh]
  · have e : actDraw x = (⟨6, 0, 0⟩, cAfter x 9) := by unfold actDraw; rw [hv]; rfl
    rw [e]
    simp [spec_l39Act_r0_sh, spec_l39Act_r1_sh, spec_l39Act_r2_sh]
theorem q_act {b : List UInt8} (c : Cur) {m : Nat} {k : V → V → V → V → V → Prop} (hb : c.b = b) (h : 0 ≤ c.i) (hl : b.length ≤ 1048576) :
    P5 (.call F_l39Act 0 m) [vL I1 vY b, .int .i64 c.i, .int .i64 c.h] k ↔ k (.int .i64 (actDraw c).1.a) (.int .i64 (actDraw c).1.b) (.int .i64 (actDraw c).1.c) (.int .i64 (actDraw c).2.i) (.int .i64 (actDraw c).2.h) := by
  subst hb; exact p_l39Act ⟨h, hl⟩
theorem act_inv {x : Cur} (hi : 0 ≤ x.i) : ∀ k, (actTo x k).2.b = x.b ∧ 0 ≤ (actTo x k).2.i ∧ (actTo x k).1.length = k
  | 0 => ⟨rfl, hi, rfl⟩
  | k + 1 => by
    obtain ⟨h1, h2, h3⟩ := act_inv hi k
    exact ⟨(actDraw_b _).trans h1, actDraw_i h2, by simp [actTo, h3]⟩
theorem actCnt_le (x : Cur) : actCnt x ≤ 13 := by
  have := cBelow_range x (show (0 : Int) < 14 by omega)
  unfold actCnt; omega
theorem spec_l39List_ok : ∀ ds outs, F_l39List ds = some outs → shL spec_l39List_L (qRet outs) ds := F_l39List_elim fun x hp => by
  obtain ⟨i0, hb⟩ := hp
  have r := cBelow_range x (show (0 : Int) < 14 by omega)
  have w1 : cBelow x 14 = (actCnt x : Int) := by simp only [actCnt]; omega
  have hN := actCnt_le x
  rw [spec_l39List_L_sh]
  simp only [P1_lst0]
  rw [q_below (b := x.b) x rfl i0 hb, w1]
  refine loop_upto (actCnt x) (fun k => [.int .i64 (actCnt x), .int .i64 k, vL I3 v3 (actTo (cAfter x 14) k).1, vL I1 vY x.b, .int .i64 (actTo (cAfter x 14) k).2.i, .int .i64 (actTo (cAfter x 14) k).2.h]) (by intro i j _ _ h; simp at h; omega) (fun _ => True) (by simp [actTo]) trivial ?_
  intro k hk _
  obtain ⟨g1, g2, g3⟩ := act_inv (x := cAfter x 14) (cAfter_i i0) k
  rw [cAfter_b] at g1
  rw [spec_l39List_b0_sh]
  simp only [P1_lss, ifB_bool, decide_eq_true_eq, decide_eq_false_iff_not]
  refine ⟨fun h => ?_, fun h => ?_⟩
  · rw [q_act (b := x.b) _ g1 g2 hb]
    have hw : IntKind.i64.wrap ((k : Int) + 1) = ((k + 1 : Nat) : Int) := by rw [wrap_id (by omega) (by omega)]; omega
    simp only [P1_add, hw]
    simp [actTo, g3]
    omega
  · have e : k = actCnt x := by omega
    subst e
    simp [spec_l39List_r1_sh, actsOf, actsEnd]
theorem sample_ok : shopOk sample = true := by decide
theorem scene_ok {x : Cur} (hi : 0 ≤ x.i) : shopOk (sceneOf x) = true := by
  unfold sceneOf
  split
  · exact sample_ok
  · exact shopOf_ok (cAfter_i hi)
theorem sceneEnd_b {x : Cur} (hi : 0 ≤ x.i) : (sceneEnd x).b = x.b ∧ 0 ≤ (sceneEnd x).i := by
  unfold sceneEnd
  split
  · exact ⟨by simp, cAfter_i hi⟩
  · have h := shopEnd_b (x := cAfter x 2) (cAfter_i hi)
    exact ⟨by rw [h.1]; simp, h.2⟩
theorem q_shop {b : List UInt8} (c : Cur) {m : Nat} {k : V → V → V → V → V → V → V → V → V → V → V → V → Prop} (hb : c.b = b) (h : 0 ≤ c.i) (hl : b.length ≤ 1048576) :
    P12 (.call F_l38Workshop 0 m) [vL I1 vY b, .int .i64 c.i, .int .i64 c.h] k ↔ k (.int .i64 (shopOf c).s) (.int .i64 (shopOf c).t) (vL I2 v2 (shopOf c).p) (vL IL2 vLL2 (shopOf c).o) (vL I1 v1 (shopOf c).c)
      (.int .i64 (shopOf c).u) (.int .i64 (shopOf c).m) (.int .i64 (shopOf c).f) (.int .i64 (shopOf c).y) (.int .i64 (shopOf c).d) (.int .i64 (shopEnd c).i) (.int .i64 (shopEnd c).h) := by
  subst hb; exact p_l38Workshop ⟨h, hl⟩
theorem spec_l39Workshop_ok : ∀ ds outs, F_l39Workshop ds = some outs → shL spec_l39Workshop_L (qRet outs) ds := F_l39Workshop_elim fun x hp => by
  obtain ⟨i0, hb⟩ := hp
  rw [spec_l39Workshop_L_sh, q_once (b := x.b) x rfl i0 hb]
  simp only [ifB_bool, decide_eq_true_eq, decide_eq_false_iff_not]
  refine ⟨fun h => ?_, fun h => ?_⟩
  · rw [p_SampleWorkshop]
    have e : sceneOf x = openShop 16 [12, 12, 16, 19] 40 := by unfold sceneOf; rw [if_pos h]; rfl
    have e2 : sceneEnd x = cAfter x 2 := by unfold sceneEnd; rw [if_pos h]
    rw [e, e2]
    simp
  · rw [q_shop (b := x.b) _ (by simp) (cAfter_i i0) hb]
    have e : sceneOf x = shopOf (cAfter x 2) := by unfold sceneOf; rw [if_neg h]
    have e2 : sceneEnd x = shopEnd (cAfter x 2) := by unfold sceneEnd; rw [if_neg h]
    rw [e, e2]
    simp
theorem q_scene {b : List UInt8} (c : Cur) {m : Nat} {k : V → V → V → V → V → V → V → V → V → V → V → V → Prop} (hb : c.b = b) (h : 0 ≤ c.i) (hl : b.length ≤ 1048576) :
    P12 (.call F_l39Workshop 0 m) [vL I1 vY b, .int .i64 c.i, .int .i64 c.h] k ↔ k (.int .i64 (sceneOf c).s) (.int .i64 (sceneOf c).t) (vL I2 v2 (sceneOf c).p) (vL IL2 vLL2 (sceneOf c).o) (vL I1 v1 (sceneOf c).c)
      (.int .i64 (sceneOf c).u) (.int .i64 (sceneOf c).m) (.int .i64 (sceneOf c).f) (.int .i64 (sceneOf c).y) (.int .i64 (sceneOf c).d) (.int .i64 (sceneEnd c).i) (.int .i64 (sceneEnd c).h) := by
  subst hb; exact p_l39Workshop ⟨h, hl⟩
theorem q_acts {b : List UInt8} (c : Cur) {m : Nat} {k : V → V → V → Prop} (hb : c.b = b) (h : 0 ≤ c.i) (hl : b.length ≤ 1048576) :
    P3 (.call F_l39List 0 m) [vL I1 vY b, .int .i64 c.i, .int .i64 c.h] k ↔ k (vL I3 v3 (actsOf c)) (.int .i64 (actsEnd c).i) (.int .i64 (actsEnd c).h) := by
  subst hb; exact p_l39List ⟨h, hl⟩
theorem cur0_i (l : List UInt8) : 0 ≤ (cur0 l).i := by simp [cur0]
theorem spec_DrawActs_ok : ∀ ds outs, F_DrawActs ds = some outs → shL spec_DrawActs_L (qRet outs) ds := F_DrawActs_elim fun l hp => by
  rw [spec_DrawActs_L_sh, p_l01New hp]
  have h0 := cur0_i l
  have hE := sceneEnd_b h0
  refine (q_scene (b := l) (cur0 l) rfl h0 hp).2 ?_
  rw [q_acts (b := l) _ hE.1 hE.2 hp]
  simp [drawW, drawA]
theorem drawW_ok (l : List UInt8) : shopOk (drawW l) = true := scene_ok (cur0_i l)
end Go.Mw

/- What acts do to a valid workshop; the law on replays. -/
namespace Go.Mw
theorem drawW_small (l : List UInt8) : sSmall (drawW l) := sSmall_of_ok (drawW_ok l)
end Go.Mw

/- The law on histories. -/
namespace Go.Mw
/-- What an act does to the money, the notes and the turns. -/
structure ActDoes (w w' : Shop) (a : T3) (n : Int) : Prop where
  y : w'.y = if n = 1 ∧ a.a = 1 then w.y - 1 else w.y
  d : w'.d = if n = 1 ∧ a.a = 5 then w.d + w.p.length else w.d
  u : w'.u = if n = 1 ∧ a.a = 5 then w.u - 1 else if a.a = 4 then w.u + n else w.u
  c : a.a = 6 → n = closest w'.bench.cyl
  p : n = 1 ∧ a.a = 5 → tooClose w.bench.cyl 2 = []
end Go.Mw

/- The law on histories, whole. -/
namespace Go.Mw
theorem Shop.eta (x : Shop) : (⟨x.s, x.t, x.p, x.o, x.c, x.u, x.m, x.f, x.y, x.d⟩ : Shop) = x := rfl
end Go.Mw

/- The law on benches: setting, taking and taking back. -/
namespace Go.Mw
end Go.Mw

/- The law on benches, whole. -/
namespace Go.Mw
end Go.Mw

/- Functions of the program, as small pure programs (printed by a program of ours). -/
namespace Go.Mw
noncomputable section
end
end Go.Mw

/- The law on scenarios. -/
namespace Go.Mw
end Go.Mw

/- What functions compute, in plain terms: numbers and fields as texts. -/
namespace Go.Mw
/-! the library -/
def E_strconv_Itoa (n : Int) : List V := [.int .i64 n]
noncomputable def F_strconv_Itoa : List V → Option (List V) := mkF E_strconv_Itoa (fun n => -9223372036854775808 ≤ n ∧ n ≤ 9223372036854775807) (fun n => [.str (Go.Lib.itoa n)])
theorem F_strconv_Itoa_inj : ∀ x y, E_strconv_Itoa x = E_strconv_Itoa y → x = y := by
  rintro n n' h
  simpa [E_strconv_Itoa] using h
theorem p_strconv_Itoa {n : Int} {nr_ : Nat} {kk_ : V → Prop} (hp : -9223372036854775808 ≤ n ∧ n ≤ 9223372036854775807) : P1 (.call F_strconv_Itoa 0 nr_) [.int .i64 n] kk_ ↔ kk_ (.str (Go.Lib.itoa n)) :=
  P1_callF (by unfold F_strconv_Itoa; exact mkF_eq F_strconv_Itoa_inj (n) hp)

def E_strings_Repeat : List UInt8 × Int → List V := fun (s, n) => [.str s, .int .i64 n]
noncomputable def F_strings_Repeat : List V → Option (List V) := mkF E_strings_Repeat (fun (s, n) => 0 ≤ n ∧ n ≤ 9223372036854775807 ∧ s.length * n.toNat ≤ 140737488355328) (fun (s, n) => [.str (Go.Lib.repeatL s n.toNat)])
theorem F_strings_Repeat_inj : ∀ x y, E_strings_Repeat x = E_strings_Repeat y → x = y := by
  rintro ⟨s, n⟩ ⟨s', n'⟩ h
  simpa [E_strings_Repeat] using h
theorem p_strings_Repeat {s : List UInt8} {n : Int} {nr_ : Nat} {kk_ : V → Prop} (hp : 0 ≤ n ∧ n ≤ 9223372036854775807 ∧ s.length * n.toNat ≤ 140737488355328) : P1 (.call F_strings_Repeat 0 nr_) [.str s, .int .i64 n] kk_ ↔ kk_ (.str (Go.Lib.repeatL s n.toNat)) :=
  P1_callF (by unfold F_strings_Repeat; exact mkF_eq F_strings_Repeat_inj (s, n) hp)

/-! numbers -/
def E_FormatInt (n : Int) : List V := [.int .i64 n]
noncomputable def F_FormatInt : List V → Option (List V) := mkF E_FormatInt (fun n => -9223372036854775808 ≤ n ∧ n ≤ 9223372036854775807) (fun n => [.str (Go.Lib.itoa n)])
theorem F_FormatInt_inj : ∀ x y, E_FormatInt x = E_FormatInt y → x = y := by
  rintro n n' h
  simpa [E_FormatInt] using h
theorem F_FormatInt_elim {P : List V → List V → Prop} (h : ∀ (n : Int), (-9223372036854775808 ≤ n ∧ n ≤ 9223372036854775807) → P [.int .i64 n] [.str (Go.Lib.itoa n)]) : ∀ ds outs, F_FormatInt ds = some outs → P ds outs := by
  intro ds outs hh
  obtain ⟨n, rfl, hp, rfl⟩ := mkF_inv hh
  exact h n hp
theorem p_FormatInt {n : Int} {nr_ : Nat} {kk_ : V → Prop} (hp : -9223372036854775808 ≤ n ∧ n ≤ 9223372036854775807) : P1 (.call F_FormatInt 0 nr_) [.int .i64 n] kk_ ↔ kk_ (.str (Go.Lib.itoa n)) :=
  P1_callF (by unfold F_FormatInt; exact mkF_eq F_FormatInt_inj (n) hp)

def E_l01Figure (n : Int) : List V := [.int .i64 n]
noncomputable def F_l01Figure : List V → Option (List V) := mkF E_l01Figure (fun n => 0 ≤ n ∧ n ≤ 9) (fun n => [.int .u8 ((UInt8.ofNat (48 + n.toNat))).toNat])
theorem F_l01Figure_inj : ∀ x y, E_l01Figure x = E_l01Figure y → x = y := by
  rintro n n' h
  simpa [E_l01Figure] using h
theorem F_l01Figure_elim {P : List V → List V → Prop} (h : ∀ (n : Int), (0 ≤ n ∧ n ≤ 9) → P [.int .i64 n] [.int .u8 ((UInt8.ofNat (48 + n.toNat))).toNat]) : ∀ ds outs, F_l01Figure ds = some outs → P ds outs := by
  intro ds outs hh
  obtain ⟨n, rfl, hp, rfl⟩ := mkF_inv hh
  exact h n hp
theorem p_l01Figure {n : Int} {nr_ : Nat} {kk_ : V → Prop} (hp : 0 ≤ n ∧ n ≤ 9) : P1 (.call F_l01Figure 0 nr_) [.int .i64 n] kk_ ↔ kk_ (.int .u8 ((UInt8.ofNat (48 + n.toNat))).toNat) :=
  P1_callF (by unfold F_l01Figure; exact mkF_eq F_l01Figure_inj (n) hp)

/-! fields -/
/-! acts -/
end Go.Mw

/- Numerals, in plain terms. -/
namespace Go.Mw
open Go.Lib (decDigits)
theorem dec_small {u : Nat} (h : u < 10) : decDigits u = [UInt8.ofNat (48 + u)] := by rw [decDigits, dif_pos h]
theorem dec_big {u : Nat} (h : ¬ u < 10) : decDigits u = decDigits (u / 10) ++ [UInt8.ofNat (48 + u % 10)] := by rw [decDigits, dif_neg h]
/-- The digits of a number, none for 0. -/
def digs (u : Nat) : List UInt8 := if u = 0 then [] else decDigits u
theorem digs_step {u : Nat} (h : u ≠ 0) : digs u = digs (u / 10) ++ [UInt8.ofNat (48 + u % 10)] := by
  unfold digs
  rw [if_neg h]
  by_cases h2 : u < 10
  · rw [if_pos (by omega), dec_small h2, show u % 10 = u by omega]; rfl
  · rw [if_neg (by omega), dec_big h2]
theorem dig_nat {d : Nat} (h : d < 10) : (UInt8.ofNat (48 + d)).toNat = 48 + d := by
  simp; omega
theorem dec_len : ∀ (k u : Nat), u < 10 ^ (k + 1) → (decDigits u).length ≤ k + 1
  | 0, u, h => by rw [dec_small (by simpa using h)]; simp
  | k + 1, u, h => by
    by_cases h2 : u < 10
    · rw [dec_small h2]; simp
    · rw [dec_big h2, List.length_append]
      have h3 : u < 10 * 10 ^ (k + 1) := by rw [Nat.mul_comm, ← Nat.pow_succ]; exact h
      have := dec_len k (u / 10) (by omega)
      simp only [List.length_singleton]; omega
/-! parsing -/
end Go.Mw

/- Functions of the program, as small pure programs (printed by a program of ours). -/
namespace Go.Mw
noncomputable section
def spec_l01Figure_L : L := .seq (.rg []) (.seq (.seq (.rg [⟨[], .bin .lss, [.v 0, .k (.int .i64 10)], 1⟩]) (.ite (.v 1) (.seq (.rg [⟨[], .bin .add, [.k (.int .i64 48), .v 0], 1⟩, ⟨[], .conv .u8, [.v 2], 1⟩]) (.ret [.v 3])) (.skip))) (.seq (.rg [⟨[], .bin .add, [.k (.int .i64 97), .v 0], 1⟩, ⟨[], .bin .sub, [.v 2, .k (.int .i64 10)], 1⟩, ⟨[], .conv .u8, [.v 3], 1⟩]) (.ret [.v 4])))
theorem spec_l01Figure_L_sh (Q : QT) (x0 : V) : shL spec_l01Figure_L Q [x0] = (
  P1 (.bin .lss) [x0, .int .i64 10] fun v0 =>
  ifB v0 (
    P1 (.bin .add) [.int .i64 48, x0] fun v1 =>
    P1 (.conv .u8) [v1] fun v2 =>
    Q .ret [v2]) (
    P1 (.bin .add) [.int .i64 97, x0] fun v3 =>
    P1 (.bin .sub) [v3, .int .i64 10] fun v4 =>
    P1 (.conv .u8) [v4] fun v5 =>
    Q .ret [v5])) := by kernel_rfl
def spec_l01Figure_S : Sig := ⟨[.val false [.sc]], [(false, [.sc])], F_l01Figure⟩
def spec_l01Figure_hs : List NF := []

def spec_FormatInt_b0 : L := .seq (.seq (.seq (.rg [⟨[], .bin .neq, [.v 0, .k (.int .i64 0)], 1⟩]) (.ite (.v 3) (.skip) (.seq (.tup [.v 1, .v 2]) (.exit 0)))) (.block 1 (.seq (.seq (.rg [⟨[], .bin .rem, [.v 0, .k (.int .i64 10)], 1⟩]) (.seq (.seq (.rg [⟨[], .bin .lss, [.v 4, .k (.int .i64 0)], 1⟩]) (.ite (.v 5) (.seq (.rg [⟨[], .un .neg, [.v 4], 1⟩]) (.tup [.v 0, .v 1, .v 2, .v 6])) (.seq (.skip) (.tup [.v 0, .v 1, .v 2, .v 4])))) (.seq (.rg [⟨[], .call F_l01Figure 0 1, [.v 3], 1⟩, ⟨[], .lst [.sc] false 1, [.v 4], 1⟩, ⟨[], .b2s, [.v 5], 1⟩, ⟨[], .bin .add, [.v 6, .v 2], 1⟩]) (.rg [⟨[], .bin .quo, [.v 0, .k (.int .i64 10)], 1⟩])))) (.tup [.v 8, .v 1, .v 7])))) (.tup [.v 0, .v 1, .v 2])
theorem spec_FormatInt_b0_sh (Q : QT) (x0 x1 x2 : V) : shL spec_FormatInt_b0 Q [x0, x1, x2] = (
  P1 (.bin .neq) [x0, .int .i64 0] fun v0 =>
  ifB v0 (
    P1 (.bin .rem) [x0, .int .i64 10] fun v1 =>
    P1 (.bin .lss) [v1, .int .i64 0] fun v2 =>
    ifB v2 (
      P1 (.un .neg) [v1] fun v3 =>
      P1 (.call F_l01Figure 0 1) [v3] fun v4 =>
      P1 (.lst [.sc] false 1) [v4] fun v5 =>
      P1 (.b2s) [v5] fun v6 =>
      P1 (.bin .add) [v6, x2] fun v7 =>
      P1 (.bin .quo) [x0, .int .i64 10] fun v8 =>
      Q .normal [v8, x1, v7]) (
      P1 (.call F_l01Figure 0 1) [v1] fun v9 =>
      P1 (.lst [.sc] false 1) [v9] fun v10 =>
      P1 (.b2s) [v10] fun v11 =>
      P1 (.bin .add) [v11, x2] fun v12 =>
      P1 (.bin .quo) [x0, .int .i64 10] fun v13 =>
      Q .normal [v13, x1, v12])) (
    Q (.exit 0) [x1, x2])) := by kernel_rfl

def spec_FormatInt_r1 : L := .seq (.seq (.rg []) (.ite (.v 0) (.seq (.rg [⟨[], .bin .add, [.k (.str [45]), .v 1], 1⟩]) (.ret [.v 2])) (.skip))) (.seq (.rg []) (.ret [.v 1]))
theorem spec_FormatInt_r1_sh (Q : QT) (x0 x1 : V) : shL spec_FormatInt_r1 Q [x0, x1] = (
  ifB x0 (
    P1 (.bin .add) [.str [45], x1] fun v0 =>
    Q .ret [v0]) (
    Q .ret [x1])) := by kernel_rfl

def spec_FormatInt_L : L := .seq (.rg []) (.seq (.seq (.rg [⟨[], .bin .eql, [.v 0, .k (.int .i64 0)], 1⟩]) (.ite (.v 1) (.seq (.rg []) (.ret [.k (.str [48])])) (.skip))) (.seq (.rg [⟨[], .bin .lss, [.v 0, .k (.int .i64 0)], 1⟩]) (.seq (.rg []) (.seq (.block 0 (.seq (.tup [.v 0, .v 2, .k (.str [])]) (.loop (spec_FormatInt_b0)))) (spec_FormatInt_r1)))))
theorem spec_FormatInt_L_sh (Q : QT) (x0 : V) : shL spec_FormatInt_L Q [x0] = (
  P1 (.bin .eql) [x0, .int .i64 0] fun v0 =>
  ifB v0 (
    Q .ret [.str [48]]) (
    P1 (.bin .lss) [x0, .int .i64 0] fun v1 =>
    shL (.loop spec_FormatInt_b0) (qB 0 (qS (shL spec_FormatInt_r1 Q) Q)) [x0, v1, .str []])) := by kernel_rfl
def spec_FormatInt_S : Sig := ⟨[.val false [.sc]], [(false, [.sc])], F_FormatInt⟩
def spec_FormatInt_hs : List NF := [⟨[(3, .sc false [.sc]), (4, .sc false [.sc])], [], [], 64⟩, ⟨[(0, .sc false [.sc]), (3, .sc false [.sc]), (4, .sc false [.sc])], [], [], 64⟩, ⟨[(0, .sc false [.sc]), (3, .sc false [.sc]), (4, .sc false [.sc])], [], [], 64⟩, ⟨[(0, .sc false [.sc]), (3, .sc false [.sc]), (4, .sc false [.sc]), (5, .sc false [.sc])], [], [], 64⟩]

def impl_FormatInt_L : L := .seq (.rg []) (.seq (.rg [⟨[], .call F_strconv_Itoa 0 1, [.v 0], 1⟩]) (.ret [.v 1]))
theorem impl_FormatInt_L_sh (Q : QT) (x0 : V) : shL impl_FormatInt_L Q [x0] = (
  P1 (.call F_strconv_Itoa 0 1) [x0] fun v0 =>
  Q .ret [v0]) := by kernel_rfl
def impl_FormatInt_S : Sig := ⟨[.val false [.sc]], [(false, [.sc])], F_FormatInt⟩
def impl_FormatInt_hs : List NF := []

end
end Go.Mw

/- Numbers and acts as texts. -/
namespace Go.Mw
open Go.Lib (decDigits itoa)
section
variable {k : V → Prop}
@[simp] theorem P1_addS {x y : List UInt8} : P1 (.bin .add) [.str x, .str y] k ↔ x.length + y.length ≤ 1073741824 ∧ k (.str (x ++ y)) := P1_opt (by simp [Prim.run, binV, binS]) k
@[simp] theorem P1_neqS {x y : List UInt8} : P1 (.bin .neq) [.str x, .str y] k ↔ k (.bool (!(x == y))) := P1_of (by simp [Prim.run, binV, binS]) k
@[simp] theorem P1_eqlS {x y : List UInt8} : P1 (.bin .eql) [.str x, .str y] k ↔ k (.bool (x == y)) := P1_of (by simp [Prim.run, binV, binS]) k
@[simp] theorem P1_lstY1 {b : UInt8} : P1 (.lst [.sc] false 1) [.int .u8 b.toNat] k ↔ k (vL I1 vY [b]) := P1_of (by simp [Prim.run, aksOk, akOk, chunk, V.pack, vL, vY]) k
@[simp] theorem P1_lstS3 {a b c : List UInt8} : P1 (.lst [.sc] false 3) [.str a, .str b, .str c] k ↔ k (vL I1 vS [a, b, c]) := P1_of (by simp [Prim.run, aksOk, akOk, chunk, V.pack, vL, vS]) k
@[simp] theorem P1_lstS7 {a b c d e f g : List UInt8} : P1 (.lst [.sc] false 7) [.str a, .str b, .str c, .str d, .str e, .str f, .str g] k ↔ k (vL I1 vS [a, b, c, d, e, f, g]) := P1_of (by simp [Prim.run, aksOk, akOk, chunk, V.pack, vL, vS]) k
@[simp] theorem P1_lstI7 {a b c d e f g : Int} : P1 (.lst [.sc] false 7) [.int .i64 a, .int .i64 b, .int .i64 c, .int .i64 d, .int .i64 e, .int .i64 f, .int .i64 g] k ↔ k (vL I1 v1 [a, b, c, d, e, f, g]) := P1_of (by simp [Prim.run, aksOk, akOk, chunk, V.pack, vL, v1]) k
theorem bytesV_map : ∀ l : List UInt8, bytesV (l.map vY) = some l
  | [] => rfl
  | b :: r => by
    have ih := bytesV_map r
    simp only [List.map_cons, vY, bytesV, Option.map_eq_some_iff]
    exact ⟨r, ih, by simp⟩
@[simp] theorem P1_b2s {l : List UInt8} : P1 .b2s [vL I1 vY l] k ↔ k (.str l) := P1_of (by simp [Prim.run, vL, bytesV_map]) k
end
theorem wrap_u8 {x : Int} (h0 : 0 ≤ x) (h1 : x < 256) : IntKind.u8.wrap x = x := by
  simp [IntKind.wrap, IntKind.bits, IntKind.signed]; omega

theorem spec_l01Figure_ok : ∀ ds outs, F_l01Figure ds = some outs → shL spec_l01Figure_L (qRet outs) ds := F_l01Figure_elim fun n hp => by
  rw [spec_l01Figure_L_sh]
  have w1 : IntKind.i64.wrap (48 + n) = 48 + n := wrap_id (by omega) (by omega)
  have w2 : IntKind.u8.wrap (48 + n) = ((48 + n.toNat : Nat) : Int) := by rw [wrap_u8 (by omega) (by omega)]; omega
  have e : ((UInt8.ofNat (48 + n.toNat)).toNat : Int) = ((48 + n.toNat : Nat) : Int) := by rw [dig_nat (by omega)]
  simp only [P1_lss, ifB_bool, P1_add, P1_conv, w1, w2, e, decide_eq_true_eq, decide_eq_false_iff_not]
  exact ⟨fun _ => by simp, fun h => absurd hp.2 (by omega)⟩
theorem digs_len (u : Nat) (h : u < 10 ^ 20) : (digs u).length ≤ 20 := by
  unfold digs
  split
  · simp
  · exact dec_len 19 u h
theorem spec_FormatInt_ok : ∀ ds outs, F_FormatInt ds = some outs → shL spec_FormatInt_L (qRet outs) ds := F_FormatInt_elim fun n hp => by
  rw [spec_FormatInt_L_sh]
  simp only [P1_eql, ifB_bool, P1_lss, beq_iff_eq, beq_eq_false_iff_ne]
  refine ⟨fun h => by subst h; simp [itoa, dec_small (show 0 < 10 by omega)], fun hn => ?_⟩
  have hL := digs_len n.natAbs (by omega)
  refine loop_st (σ := Int × List UInt8) (fun s => [.int .i64 s.1, .bool (decide (n < 0)), .str s.2]) (fun a b h => by simpa [Prod.ext_iff] using h)
    (fun s => (-9223372036854775808 ≤ s.1 ∧ s.1 ≤ 9223372036854775807) ∧ digs s.1.natAbs ++ s.2 = digs n.natAbs) (fun s => s.1.natAbs) (n, []) rfl ⟨hp, by simp⟩ ?_
  rintro ⟨m, s⟩ ⟨hm, hs⟩
  simp only at hm hs ⊢
  have hsl : s.length ≤ 20 := by have := congrArg List.length hs; rw [List.length_append] at this; omega
  rw [spec_FormatInt_b0_sh]
  simp only [P1_neq, ifB_bool, bne_iff_ne, ne_eq]
  refine ⟨fun h => ?_, fun h => ?_⟩
  · have hd1 : (m.tmod 10).natAbs = m.natAbs % 10 := Int.natAbs_tmod m 10
    have hq1 : (m.tdiv 10).natAbs = m.natAbs / 10 := Int.natAbs_tdiv m 10
    have hu : m.natAbs ≠ 0 := by omega
    have hstep := digs_step hu
    have wq : IntKind.i64.wrap (m.tdiv 10) = m.tdiv 10 := wrap_id (by omega) (by omega)
    have hinv : digs (m.tdiv 10).natAbs ++ (UInt8.ofNat (48 + m.natAbs % 10) :: s) = digs n.natAbs := by
      rw [hq1, ← hs, hstep, List.append_assoc]; rfl
    have hlt : (m.tdiv 10).natAbs < m.natAbs := by rw [hq1]; omega
    simp only [P1_rem, P1_lss, ifB_bool, decide_eq_true_eq, decide_eq_false_iff_not, P1_neg]
    refine ⟨by decide, fun hneg => ?_, fun hneg => ?_⟩
    · have w1 : IntKind.i64.wrap (0 - m.tmod 10) = ((m.natAbs % 10 : Nat) : Int) := by rw [wrap_id (by omega) (by omega)]; omega
      rw [w1, p_l01Figure (by omega)]
      simp only [P1_lstY1, P1_b2s, P1_addS, P1_quo, wq, Int.toNat_natCast, qS_normal, List.length_singleton]
      refine ⟨by omega, by decide, (m.tdiv 10, UInt8.ofNat (48 + m.natAbs % 10) :: s), rfl, ⟨by omega, hinv⟩, hlt⟩
    · have w1 : m.tmod 10 = ((m.natAbs % 10 : Nat) : Int) := by omega
      rw [w1, p_l01Figure (by omega)]
      simp only [P1_lstY1, P1_b2s, P1_addS, P1_quo, wq, Int.toNat_natCast, qS_normal, List.length_singleton]
      refine ⟨by omega, by decide, (m.tdiv 10, UInt8.ofNat (48 + m.natAbs % 10) :: s), rfl, ⟨by omega, hinv⟩, hlt⟩
  · have h0 : m = 0 := by simpa using h
    subst h0
    have hs' : s = decDigits n.natAbs := by
      rw [← List.nil_append s]
      have : digs n.natAbs = decDigits n.natAbs := by unfold digs; rw [if_neg (by omega)]
      rw [← this, ← hs]; rfl
    simp only [qS_exit, qB_exit, if_true, qS_normal, spec_FormatInt_r1_sh, ifB_bool, decide_eq_true_eq, decide_eq_false_iff_not, P1_addS]
    refine ⟨fun hneg => ⟨by simp only [List.length_singleton]; omega, ?_⟩, fun hneg => ?_⟩
    · simp [itoa, hneg, hs']
    · have : n.toNat = n.natAbs := by omega
      simp [itoa, hneg, hs', this]
theorem impl_FormatInt_ok : ∀ ds outs, F_FormatInt ds = some outs → shL impl_FormatInt_L (qRet outs) ds := F_FormatInt_elim fun n hp => by
  rw [impl_FormatInt_L_sh, p_strconv_Itoa hp]
  simp
/-! acts -/
end Go.Mw

/- Scripts as texts. -/
namespace Go.Mw
open Go.Lib (decDigits itoa)
@[simp] theorem P1_apps {l y : List UInt8} {b : Nat} {k : V → Prop} : P1 (.apps b) [vL I1 vY l, .str y] k ↔ ((l.length + y.length) * b ≤ 140737488355328 ∧ l.length + y.length ≤ 140737488355328) ∧ k (vL I1 vY (l ++ y)) :=
  P1_opt (by simp [Prim.run, vL, I1, show AK.eqs [.sc] [.sc] = true from rfl]; rfl) k
@[simp] theorem P1_apps0 {y : List UInt8} {b : Nat} {k : V → Prop} : P1 (.apps b) [.list [.sc] [], .str y] k ↔ ((([] : List UInt8).length + y.length) * b ≤ 140737488355328 ∧ ([] : List UInt8).length + y.length ≤ 140737488355328) ∧ k (vL I1 vY ([] ++ y)) := P1_apps (l := [])
end Go.Mw

/- What functions compute, in plain terms: a workshop's summary. -/
namespace Go.Mw
/-- A row of the grid: the pins of the first cells are set. -/
def gridTo (p : List T2) (y : Int) (n : Nat) : Nat → List UInt8
  | 0 => List.replicate n 46
  | k + 1 => match p[k]? with
    | some q => if q.a = y then (gridTo p y n k).set q.b.toNat 120 else gridTo p y n k
    | none => gridTo p y n k
def gridRow (c : Cyl) (y : Nat) : List UInt8 := gridTo c.p y c.s.toNat c.p.length
def gridUp (c : Cyl) (k : Nat) : List (List UInt8) := (List.range k).map (gridRow c)
def gridText (c : Cyl) : List (List UInt8) := if cylOk c then gridUp c c.t.toNat else []
def E_GridText (x : Cyl) : List V := [.int .i64 x.s, .int .i64 x.t, vL I2 v2 x.p]
noncomputable def F_GridText : List V → Option (List V) := mkF E_GridText (fun x => x.p.length ≤ 1048576) (fun x => [vL I1 vS (gridText x)])
theorem F_GridText_inj : ∀ x y, E_GridText x = E_GridText y → x = y := by
  rintro ⟨xs, xt, xp⟩ ⟨xs', xt', xp'⟩ h
  simpa [E_GridText] using h
theorem F_GridText_elim {P : List V → List V → Prop} (h : ∀ (x : Cyl), (x.p.length ≤ 1048576) → P [.int .i64 x.s, .int .i64 x.t, vL I2 v2 x.p] [vL I1 vS (gridText x)]) : ∀ ds outs, F_GridText ds = some outs → P ds outs := by
  intro ds outs hh
  obtain ⟨x, rfl, hp, rfl⟩ := mkF_inv hh
  exact h x hp
theorem p_GridText {x_s : Int} {x_t : Int} {x_p : List T2} {nr_ : Nat} {kk_ : V → Prop} (hp : (⟨x_s, x_t, x_p⟩ : Cyl).p.length ≤ 1048576) : P1 (.call F_GridText 0 nr_) [.int .i64 x_s, .int .i64 x_t, vL I2 v2 x_p] kk_ ↔ kk_ (vL I1 vS (gridText (⟨x_s, x_t, x_p⟩ : Cyl))) :=
  P1_callF (by unfold F_GridText; exact mkF_eq F_GridText_inj ((⟨x_s, x_t, x_p⟩ : Cyl)) hp)

def sumTurns (w : Shop) : List UInt8 := [116, 117, 114, 110, 115, 32] ++ Go.Lib.itoa w.u
def sumMoney (w : Shop) : List UInt8 := [109, 111, 110, 101, 121, 32] ++ Go.Lib.itoa w.y
def sumPlayed (w : Shop) : List UInt8 := [112, 108, 97, 121, 101, 100, 32] ++ Go.Lib.itoa w.d
def fmtShop (w : Shop) : List (List UInt8) := if shopOk w then gridText ⟨w.s, w.t, w.p⟩ ++ [sumTurns w, sumMoney w, sumPlayed w] else []
def E_FormatWorkshop (x : Shop) : List V := [.int .i64 x.s, .int .i64 x.t, vL I2 v2 x.p, vL IL2 vLL2 x.o, vL I1 v1 x.c, .int .i64 x.u, .int .i64 x.m, .int .i64 x.f, .int .i64 x.y, .int .i64 x.d]
noncomputable def F_FormatWorkshop : List V → Option (List V) := mkF E_FormatWorkshop (fun x => x.p.length ≤ 1048576 ∧ fitLL x.o ∧ x.c.length ≤ 1048576) (fun x => [vL I1 vS (fmtShop x)])
theorem F_FormatWorkshop_inj : ∀ x y, E_FormatWorkshop x = E_FormatWorkshop y → x = y := by
  rintro ⟨xs, xt, xp, xo, xc, xu, xm, xf, xy, xd⟩ ⟨xs', xt', xp', xo', xc', xu', xm', xf', xy', xd'⟩ h
  simpa [E_FormatWorkshop] using h
theorem F_FormatWorkshop_elim {P : List V → List V → Prop} (h : ∀ (x : Shop), (x.p.length ≤ 1048576 ∧ fitLL x.o ∧ x.c.length ≤ 1048576) → P [.int .i64 x.s, .int .i64 x.t, vL I2 v2 x.p, vL IL2 vLL2 x.o, vL I1 v1 x.c, .int .i64 x.u, .int .i64 x.m, .int .i64 x.f, .int .i64 x.y, .int .i64 x.d] [vL I1 vS (fmtShop x)]) : ∀ ds outs, F_FormatWorkshop ds = some outs → P ds outs := by
  intro ds outs hh
  obtain ⟨x, rfl, hp, rfl⟩ := mkF_inv hh
  exact h x hp
theorem p_FormatWorkshop {x_s : Int} {x_t : Int} {x_p : List T2} {x_o : List (List T2)} {x_c : List Int} {x_u : Int} {x_m : Int} {x_f : Int} {x_y : Int} {x_d : Int} {nr_ : Nat} {kk_ : V → Prop} (hp : (⟨x_s, x_t, x_p, x_o, x_c, x_u, x_m, x_f, x_y, x_d⟩ : Shop).p.length ≤ 1048576 ∧ fitLL (⟨x_s, x_t, x_p, x_o, x_c, x_u, x_m, x_f, x_y, x_d⟩ : Shop).o ∧ (⟨x_s, x_t, x_p, x_o, x_c, x_u, x_m, x_f, x_y, x_d⟩ : Shop).c.length ≤ 1048576) : P1 (.call F_FormatWorkshop 0 nr_) [.int .i64 x_s, .int .i64 x_t, vL I2 v2 x_p, vL IL2 vLL2 x_o, vL I1 v1 x_c, .int .i64 x_u, .int .i64 x_m, .int .i64 x_f, .int .i64 x_y, .int .i64 x_d] kk_ ↔ kk_ (vL I1 vS (fmtShop (⟨x_s, x_t, x_p, x_o, x_c, x_u, x_m, x_f, x_y, x_d⟩ : Shop))) :=
  P1_callF (by unfold F_FormatWorkshop; exact mkF_eq F_FormatWorkshop_inj ((⟨x_s, x_t, x_p, x_o, x_c, x_u, x_m, x_f, x_y, x_d⟩ : Shop)) hp)


/-! marks -/
def E_eqStringS : List (List UInt8) × List (List UInt8) → List V := fun (a, b) => [vL I1 vS a, vL I1 vS b]
noncomputable def F_eqStringS : List V → Option (List V) := mkF E_eqStringS (fun (a, b) => a.length ≤ 1048576 ∧ b.length ≤ 1048576) (fun (a, b) => [.bool (decide (a = b))])
theorem F_eqStringS_inj : ∀ x y, E_eqStringS x = E_eqStringS y → x = y := by
  rintro ⟨a, b⟩ ⟨a', b'⟩ h
  simpa [E_eqStringS] using h
theorem F_eqStringS_elim {P : List V → List V → Prop} (h : ∀ (a : List (List UInt8)) (b : List (List UInt8)), (a.length ≤ 1048576 ∧ b.length ≤ 1048576) → P [vL I1 vS a, vL I1 vS b] [.bool (decide (a = b))]) : ∀ ds outs, F_eqStringS ds = some outs → P ds outs := by
  intro ds outs hh
  obtain ⟨⟨a, b⟩, rfl, hp, rfl⟩ := mkF_inv hh
  exact h a b hp
theorem p_eqStringS {a : List (List UInt8)} {b : List (List UInt8)} {nr_ : Nat} {kk_ : V → Prop} (hp : a.length ≤ 1048576 ∧ b.length ≤ 1048576) : P1 (.call F_eqStringS 0 nr_) [vL I1 vS a, vL I1 vS b] kk_ ↔ kk_ (.bool (decide (a = b))) :=
  P1_callF (by unfold F_eqStringS; exact mkF_eq F_eqStringS_inj (a, b) hp)

def markT (n : Int) : List UInt8 := if n ≤ 0 then [109, 48] else 109 :: Go.Lib.decDigits n.toNat
def E_markText (n : Int) : List V := [.int .i64 n]
noncomputable def F_markText : List V → Option (List V) := mkF E_markText (fun n => n ≤ 9223372036854775807) (fun n => [.str (markT n)])
theorem F_markText_inj : ∀ x y, E_markText x = E_markText y → x = y := by
  rintro n n' h
  simpa [E_markText] using h
theorem F_markText_elim {P : List V → List V → Prop} (h : ∀ (n : Int), (n ≤ 9223372036854775807) → P [.int .i64 n] [.str (markT n)]) : ∀ ds outs, F_markText ds = some outs → P ds outs := by
  intro ds outs hh
  obtain ⟨n, rfl, hp, rfl⟩ := mkF_inv hh
  exact h n hp
theorem p_markText {n : Int} {nr_ : Nat} {kk_ : V → Prop} (hp : n ≤ 9223372036854775807) : P1 (.call F_markText 0 nr_) [.int .i64 n] kk_ ↔ kk_ (.str (markT n)) :=
  P1_callF (by unfold F_markText; exact mkF_eq F_markText_inj (n) hp)

def markLS (n : Nat) (k : Int) : List (List UInt8) := (List.range n).map fun i : Nat => markT (k + (i : Int))
def E_markStringS : List (List UInt8) × Int → List V := fun (l, k) => [vL I1 vS l, .int .i64 k]
noncomputable def F_markStringS : List V → Option (List V) := mkF E_markStringS (fun (l, k) => l.length ≤ 4194304 ∧ 0 ≤ k ∧ k ≤ 1099511627776) (fun (l, k) => [.int .i64 (k + 1 * l.length), vL I1 vS (markLS l.length k)])
theorem F_markStringS_inj : ∀ x y, E_markStringS x = E_markStringS y → x = y := by
  rintro ⟨l, k⟩ ⟨l', k'⟩ h
  simpa [E_markStringS] using h
theorem F_markStringS_elim {P : List V → List V → Prop} (h : ∀ (l : List (List UInt8)) (k : Int), (l.length ≤ 4194304 ∧ 0 ≤ k ∧ k ≤ 1099511627776) → P [vL I1 vS l, .int .i64 k] [.int .i64 (k + 1 * l.length), vL I1 vS (markLS l.length k)]) : ∀ ds outs, F_markStringS ds = some outs → P ds outs := by
  intro ds outs hh
  obtain ⟨⟨l, k⟩, rfl, hp, rfl⟩ := mkF_inv hh
  exact h l k hp
theorem p_markStringS {l : List (List UInt8)} {k : Int} {kk_ : V → V → Prop} (hp : l.length ≤ 4194304 ∧ 0 ≤ k ∧ k ≤ 1099511627776) : P2 (.call F_markStringS 1 1) [vL I1 vS l, .int .i64 k, vL I1 vS l] kk_ ↔ kk_ (.int .i64 (k + 1 * l.length)) (vL I1 vS (markLS l.length k)) :=
  P2_of (callIo_run (as := [vL I1 vS l, .int .i64 k]) (rs := [vL I1 vS l]) (n := 1) (nr := 1) rfl (by simp) (by unfold F_markStringS; exact mkF_eq F_markStringS_inj (l, k) hp) (by simp [ksAll, vL, AK.eqs_refl]) rfl)

def E_heldStringS : List (List UInt8) × Int → List V := fun (l, k) => [vL I1 vS l, .int .i64 k]
noncomputable def F_heldStringS : List V → Option (List V) := mkF E_heldStringS (fun (l, k) => l.length ≤ 4194304 ∧ 0 ≤ k ∧ k ≤ 1099511627776) (fun (l, k) => [.int .i64 (if l = markLS l.length k then k + 1 * l.length else -1)])
theorem F_heldStringS_inj : ∀ x y, E_heldStringS x = E_heldStringS y → x = y := by
  rintro ⟨l, k⟩ ⟨l', k'⟩ h
  simpa [E_heldStringS] using h
theorem F_heldStringS_elim {P : List V → List V → Prop} (h : ∀ (l : List (List UInt8)) (k : Int), (l.length ≤ 4194304 ∧ 0 ≤ k ∧ k ≤ 1099511627776) → P [vL I1 vS l, .int .i64 k] [.int .i64 (if l = markLS l.length k then k + 1 * l.length else -1)]) : ∀ ds outs, F_heldStringS ds = some outs → P ds outs := by
  intro ds outs hh
  obtain ⟨⟨l, k⟩, rfl, hp, rfl⟩ := mkF_inv hh
  exact h l k hp
theorem p_heldStringS {l : List (List UInt8)} {k : Int} {nr_ : Nat} {kk_ : V → Prop} (hp : l.length ≤ 4194304 ∧ 0 ≤ k ∧ k ≤ 1099511627776) : P1 (.call F_heldStringS 0 nr_) [vL I1 vS l, .int .i64 k] kk_ ↔ kk_ (.int .i64 (if l = markLS l.length k then k + 1 * l.length else -1)) :=
  P1_callF (by unfold F_heldStringS; exact mkF_eq F_heldStringS_inj (l, k) hp)


def E_FnExactFormatWorkshop (x : Shop) : List V := [.int .i64 x.s, .int .i64 x.t, vL I2 v2 x.p, vL IL2 vLL2 x.o, vL I1 v1 x.c, .int .i64 x.u, .int .i64 x.m, .int .i64 x.f, .int .i64 x.y, .int .i64 x.d]
noncomputable def F_FnExactFormatWorkshop : List V → Option (List V) := mkF E_FnExactFormatWorkshop (fun x => wfI x.s ∧ wfI x.t ∧ wfL2 x.p ∧ wfLL2 x.o ∧ wfL1 x.c ∧ wfI x.u ∧ wfI x.m ∧ wfI x.f ∧ wfI x.y ∧ wfI x.d) (fun _ => [.bool true])
theorem F_FnExactFormatWorkshop_inj : ∀ x y, E_FnExactFormatWorkshop x = E_FnExactFormatWorkshop y → x = y := by
  rintro ⟨xs, xt, xp, xo, xc, xu, xm, xf, xy, xd⟩ ⟨xs', xt', xp', xo', xc', xu', xm', xf', xy', xd'⟩ h
  simpa [E_FnExactFormatWorkshop] using h
theorem F_FnExactFormatWorkshop_elim {P : List V → List V → Prop} (h : ∀ (x : Shop), (wfI x.s ∧ wfI x.t ∧ wfL2 x.p ∧ wfLL2 x.o ∧ wfL1 x.c ∧ wfI x.u ∧ wfI x.m ∧ wfI x.f ∧ wfI x.y ∧ wfI x.d) → P [.int .i64 x.s, .int .i64 x.t, vL I2 v2 x.p, vL IL2 vLL2 x.o, vL I1 v1 x.c, .int .i64 x.u, .int .i64 x.m, .int .i64 x.f, .int .i64 x.y, .int .i64 x.d] [.bool true]) : ∀ ds outs, F_FnExactFormatWorkshop ds = some outs → P ds outs := by
  intro ds outs hh
  obtain ⟨x, rfl, hp, rfl⟩ := mkF_inv hh
  exact h x hp
theorem F_FnExactFormatWorkshop_law : ∀ ds, okTKs [.int .i64, .int .i64, .list true [.int .i64, .int .i64], .list false [.list true [.int .i64, .int .i64]], .list false [.int .i64], .int .i64, .int .i64, .int .i64, .int .i64, .int .i64] ds → F_FnExactFormatWorkshop ds = some [.bool true] := by
  intro ds g0
  obtain ⟨_, _, rfl, h0, g1⟩ := okTKs_cons g0
  obtain ⟨x_s, rfl, r0⟩ := dec_I h0
  obtain ⟨_, _, rfl, h1, g2⟩ := okTKs_cons g1
  obtain ⟨x_t, rfl, r1⟩ := dec_I h1
  obtain ⟨_, _, rfl, h2, g3⟩ := okTKs_cons g2
  obtain ⟨x_p, rfl, r2⟩ := dec_L2 h2
  obtain ⟨_, _, rfl, h3, g4⟩ := okTKs_cons g3
  obtain ⟨x_o, rfl, r3⟩ := dec_LL2 h3
  obtain ⟨_, _, rfl, h4, g5⟩ := okTKs_cons g4
  obtain ⟨x_c, rfl, r4⟩ := dec_L1 h4
  obtain ⟨_, _, rfl, h5, g6⟩ := okTKs_cons g5
  obtain ⟨x_u, rfl, r5⟩ := dec_I h5
  obtain ⟨_, _, rfl, h6, g7⟩ := okTKs_cons g6
  obtain ⟨x_m, rfl, r6⟩ := dec_I h6
  obtain ⟨_, _, rfl, h7, g8⟩ := okTKs_cons g7
  obtain ⟨x_f, rfl, r7⟩ := dec_I h7
  obtain ⟨_, _, rfl, h8, g9⟩ := okTKs_cons g8
  obtain ⟨x_y, rfl, r8⟩ := dec_I h8
  obtain ⟨_, _, rfl, h9, g10⟩ := okTKs_cons g9
  obtain ⟨x_d, rfl, r9⟩ := dec_I h9
  obtain rfl := okTKs_nil g10
  exact mkF_eq F_FnExactFormatWorkshop_inj ((⟨x_s, x_t, x_p, x_o, x_c, x_u, x_m, x_f, x_y, x_d⟩ : Shop)) ⟨r0, r1, r2, r3, r4, r5, r6, r7, r8, r9⟩

def E_FnSummaries (l : List UInt8) : List V := [vL I1 vY l]
noncomputable def F_FnSummaries : List V → Option (List V) := mkF E_FnSummaries (fun l => wfLY l) (fun _ => [.bool true])
theorem F_FnSummaries_inj : ∀ x y, E_FnSummaries x = E_FnSummaries y → x = y := by
  rintro l l' h
  simpa [E_FnSummaries] using h
theorem F_FnSummaries_elim {P : List V → List V → Prop} (h : ∀ (l : List UInt8), (wfLY l) → P [vL I1 vY l] [.bool true]) : ∀ ds outs, F_FnSummaries ds = some outs → P ds outs := by
  intro ds outs hh
  obtain ⟨l, rfl, hp, rfl⟩ := mkF_inv hh
  exact h l hp
theorem F_FnSummaries_law : ∀ ds, okTKs [.list false [.int .u8]] ds → F_FnSummaries ds = some [.bool true] := by
  intro ds g0
  obtain ⟨_, _, rfl, h0, g1⟩ := okTKs_cons g0
  obtain ⟨l, rfl, r0⟩ := dec_LY h0
  obtain rfl := okTKs_nil g1
  exact mkF_eq F_FnSummaries_inj (l) r0


end Go.Mw

/- Functions of the program, as small pure programs (printed by a program of ours). -/
namespace Go.Mw
noncomputable section
def spec_GridText_b1 : L := .seq (.seq (.seq (.rg [⟨[], .bin .lss, [.v 1, .v 4], 1⟩]) (.ite (.v 7) (.skip) (.seq (.tup [.v 0, .v 2, .v 3, .v 4, .v 5, .v 6]) (.exit 2)))) (.seq (.block 3 (.seq (.rg [⟨[], .lst [.sc] false 1, [.k (.int .u8 46)], 1⟩, ⟨[], .app [.sc] 1, [.v 3, .v 8], 1⟩]) (.tup [.v 0, .v 1, .v 2, .v 9, .v 4, .v 5, .v 6]))) (.rg [⟨[], .bin .add, [.v 1, .k (.int .i64 1)], 1⟩]))) (.tup [.v 0, .v 7, .v 2, .v 3, .v 4, .v 5, .v 6])
theorem spec_GridText_b1_sh (Q : QT) (x0 x1 x2 x3 x4 x5 x6 : V) : shL spec_GridText_b1 Q [x0, x1, x2, x3, x4, x5, x6] = (
  P1 (.bin .lss) [x1, x4] fun v0 =>
  ifB v0 (
    P1 (.lst [.sc] false 1) [.int .u8 46] fun v1 =>
    P1 (.app [.sc] 1) [x3, v1] fun v2 =>
    P1 (.bin .add) [x1, .int .i64 1] fun v3 =>
    Q .normal [x0, v3, x2, v2, x4, x5, x6]) (
    Q (.exit 2) [x0, x2, x3, x4, x5, x6])) := by kernel_rfl

def spec_GridText_b3 : L := .seq (.seq (.seq (.rg [⟨[], .len, [.v 6], 1⟩, ⟨[], .bin .lss, [.v 1, .v 7], 1⟩]) (.ite (.v 8) (.skip) (.seq (.tup [.v 0, .v 2, .v 3, .v 4, .v 5, .v 6]) (.exit 4)))) (.seq (.block 5 (.seq (.seq (.rg [⟨[], .idx [.sc, .sc], [.v 6, .v 1], 2⟩, ⟨[], .bin .eql, [.v 9, .v 0], 1⟩]) (.ite (.v 11) (.seq (.rg [⟨[], .idx [.sc, .sc], [.v 6, .v 1], 2⟩, ⟨[], .idx [.sc], [.v 3, .v 13], 1⟩, ⟨[], .set [.sc] 0, [.v 3, .v 13, .k (.int .u8 120)], 1⟩]) (.tup [.v 0, .v 1, .v 2, .v 15, .v 4, .v 5, .v 6])) (.seq (.skip) (.tup [.v 0, .v 1, .v 2, .v 3, .v 4, .v 5, .v 6])))) (.tup [.v 0, .v 1, .v 2, .v 3, .v 4, .v 5, .v 6]))) (.rg [⟨[], .bin .add, [.v 1, .k (.int .i64 1)], 1⟩]))) (.tup [.v 0, .v 7, .v 2, .v 3, .v 4, .v 5, .v 6])
theorem spec_GridText_b3_sh (Q : QT) (x0 x1 x2 x3 x4 x5 x6 : V) : shL spec_GridText_b3 Q [x0, x1, x2, x3, x4, x5, x6] = (
  P1 (.len) [x6] fun v0 =>
  P1 (.bin .lss) [x1, v0] fun v1 =>
  ifB v1 (
    P2 (.idx [.sc, .sc]) [x6, x1] fun v2 _ =>
    P1 (.bin .eql) [v2, x0] fun v4 =>
    ifB v4 (
      P2 (.idx [.sc, .sc]) [x6, x1] fun _ v6 =>
      P1 (.idx [.sc]) [x3, v6] fun _ =>
      P1 (.set [.sc] 0) [x3, v6, .int .u8 120] fun v8 =>
      P1 (.bin .add) [x1, .int .i64 1] fun v9 =>
      Q .normal [x0, v9, x2, v8, x4, x5, x6]) (
      P1 (.bin .add) [x1, .int .i64 1] fun v10 =>
      Q .normal [x0, v10, x2, x3, x4, x5, x6])) (
    Q (.exit 4) [x0, x2, x3, x4, x5, x6])) := by kernel_rfl

def spec_GridText_r4 : L := .rg [⟨[], .b2s, [.v 2], 1⟩, ⟨[], .lst [.sc] false 1, [.v 6], 1⟩, ⟨[], .app [.sc] 16, [.v 1, .v 7], 1⟩]
theorem spec_GridText_r4_sh (Q : QT) (x0 x1 x2 x3 x4 x5 : V) : shL spec_GridText_r4 Q [x0, x1, x2, x3, x4, x5] = (
  P1 (.b2s) [x2] fun v0 =>
  P1 (.lst [.sc] false 1) [v0] fun v1 =>
  P1 (.app [.sc] 16) [x1, v1] fun v2 =>
  Q .normal [x0, x1, x2, x3, x4, x5, v0, v1, v2]) := by kernel_rfl

def spec_GridText_r2 : L := .seq (.seq (.rg []) (.block 4 (.seq (.tup [.v 0, .k (.int .i64 0), .v 1, .v 2, .v 3, .v 4, .v 5]) (.loop (spec_GridText_b3))))) (spec_GridText_r4)
theorem spec_GridText_r2_sh (Q : QT) (x0 x1 x2 x3 x4 x5 : V) : shL spec_GridText_r2 Q [x0, x1, x2, x3, x4, x5] = (
  shL (.loop spec_GridText_b3) (qB 4 (qS (shL spec_GridText_r4 Q) Q)) [x0, .int .i64 0, x1, x2, x3, x4, x5]) := by kernel_rfl

def spec_GridText_r5 : L := .tup [.v 0, .v 8, .v 3, .v 4, .v 5]
theorem spec_GridText_r5_sh (Q : QT) (x0 x1 x2 x3 x4 x5 x6 x7 x8 : V) : shL spec_GridText_r5 Q [x0, x1, x2, x3, x4, x5, x6, x7, x8] = (
  Q .normal [x0, x8, x3, x4, x5]) := by kernel_rfl

def spec_GridText_r6 : L := .rg [⟨[], .bin .add, [.v 0, .k (.int .i64 1)], 1⟩]
theorem spec_GridText_r6_sh (Q : QT) (x0 x1 x2 x3 x4 : V) : shL spec_GridText_r6 Q [x0, x1, x2, x3, x4] = (
  P1 (.bin .add) [x0, .int .i64 1] fun v0 =>
  Q .normal [x0, x1, x2, x3, x4, v0]) := by kernel_rfl

def spec_GridText_r7 : L := .tup [.v 5, .v 1, .v 2, .v 3, .v 4]
theorem spec_GridText_r7_sh (Q : QT) (x0 x1 x2 x3 x4 x5 : V) : shL spec_GridText_r7 Q [x0, x1, x2, x3, x4, x5] = (
  Q .normal [x5, x1, x2, x3, x4]) := by kernel_rfl

def spec_GridText_b0 : L := .seq (.seq (.seq (.rg [⟨[], .bin .lss, [.v 0, .v 3], 1⟩, ⟨[(.v 5, true)], .call F_CylinderOk 0 1, [.v 2, .v 3, .v 4], 1⟩, ⟨[], .pick, [.v 5, .v 6, .k (.bool false)], 1⟩]) (.ite (.v 7) (.skip) (.seq (.tup [.v 1]) (.exit 0)))) (.seq (.block 1 (.seq (.seq (.rg [⟨[], .lst [.sc] false 0, [], 1⟩]) (.seq (.seq (.rg []) (.block 2 (.seq (.tup [.v 0, .k (.int .i64 0), .v 1, .v 8, .v 2, .v 3, .v 4]) (.loop (spec_GridText_b1))))) (spec_GridText_r2))) (spec_GridText_r5))) (spec_GridText_r6))) (spec_GridText_r7)
theorem spec_GridText_b0_sh (Q : QT) (x0 x1 x2 x3 x4 : V) : shL spec_GridText_b0 Q [x0, x1, x2, x3, x4] = (
  P1 (.bin .lss) [x0, x3] fun v0 =>
  ifB v0 (
    P1 (.call F_CylinderOk 0 1) [x2, x3, x4] fun v1 =>
    ifB v1 (
      P1 (.lst [.sc] false 0) [] fun v2 =>
      shL (.loop spec_GridText_b1) (qB 2 (qS (shL spec_GridText_r2 (qS (shL spec_GridText_r5 (qB 1 (qS (shL spec_GridText_r6 (qS (shL spec_GridText_r7 Q) Q)) (qS (shL spec_GridText_r7 Q) Q)))) (qB 1 (qS (shL spec_GridText_r6 (qS (shL spec_GridText_r7 Q) Q)) (qS (shL spec_GridText_r7 Q) Q))))) (qS (shL spec_GridText_r5 (qB 1 (qS (shL spec_GridText_r6 (qS (shL spec_GridText_r7 Q) Q)) (qS (shL spec_GridText_r7 Q) Q)))) (qB 1 (qS (shL spec_GridText_r6 (qS (shL spec_GridText_r7 Q) Q)) (qS (shL spec_GridText_r7 Q) Q)))))) [x0, .int .i64 0, x1, v2, x2, x3, x4]) (
      Q (.exit 0) [x1])) (
    Q (.exit 0) [x1])) := by kernel_rfl

def spec_GridText_r8 : L := .seq (.rg []) (.ret [.v 0])
theorem spec_GridText_r8_sh (Q : QT) (x0 : V) : shL spec_GridText_r8 Q [x0] = (
  Q .ret [x0]) := by kernel_rfl

def spec_GridText_L : L := .seq (.rg []) (.seq (.rg [⟨[], .lst [.sc] false 0, [], 1⟩]) (.seq (.seq (.rg []) (.block 0 (.seq (.tup [.k (.int .i64 0), .v 3, .v 0, .v 1, .v 2]) (.loop (spec_GridText_b0))))) (spec_GridText_r8)))
theorem spec_GridText_L_sh (Q : QT) (x0 x1 x2 : V) : shL spec_GridText_L Q [x0, x1, x2] = (
  P1 (.lst [.sc] false 0) [] fun v0 =>
  shL (.loop spec_GridText_b0) (qB 0 (qS (shL spec_GridText_r8 Q) Q)) [.int .i64 0, v0, x0, x1, x2]) := by kernel_rfl
def spec_GridText_S : Sig := ⟨[.val true [.sc, .sc, .sl [.sc, .sc]]], [(false, [.sl [.sc]])], F_GridText⟩
def spec_GridText_hs : List NF := [⟨[(3, .sc false [.own 64])], [(64, true, [.sc])], [], 65⟩, ⟨[(1, .ptr 64 0), (3, .sc false [.own 65]), (4, .sc false [.sc])], [(65, true, [.sc])], [(64, [.sc, .sc, .ro [.sc, .sc]])], 66⟩, ⟨[(1, .ptr 64 0), (3, .sc false [.own 65]), (4, .sc false [.sc])], [(65, true, [.sc])], [(64, [.sc, .sc, .ro [.sc, .sc]])], 66⟩, ⟨[(1, .ptr 64 0), (3, .sc false [.own 65]), (4, .sc false [.sc]), (5, .sc false [.own 66])], [(65, true, [.sc]), (66, true, [.sc])], [(64, [.sc, .sc, .ro [.sc, .sc]])], 67⟩, ⟨[(1, .ptr 64 0), (3, .sc false [.own 65]), (4, .sc false [.sc]), (5, .sc false [.own 66]), (6, .sc false [.sc])], [(65, true, [.sc]), (66, true, [.sc])], [(64, [.sc, .sc, .ro [.sc, .sc]])], 67⟩, ⟨[(1, .ptr 64 0), (3, .sc false [.own 65]), (4, .sc false [.sc]), (5, .sc false [.own 66]), (6, .sc false [.sc])], [(65, true, [.sc]), (66, true, [.sc])], [(64, [.sc, .sc, .ro [.sc, .sc]])], 67⟩, ⟨[(1, .ptr 64 0), (3, .sc false [.own 65]), (4, .sc false [.sc]), (5, .sc false [.own 66])], [(65, true, [.sc]), (66, true, [.sc])], [(64, [.sc, .sc, .ro [.sc, .sc]])], 67⟩, ⟨[(1, .ptr 64 0), (3, .sc false [.own 65]), (4, .sc false [.sc]), (5, .sc false [.own 66]), (7, .sc false [.sc])], [(65, true, [.sc]), (66, true, [.sc])], [(64, [.sc, .sc, .ro [.sc, .sc]])], 67⟩, ⟨[(1, .ptr 64 0), (3, .sc false [.own 65]), (4, .sc false [.sc]), (5, .sc false [.own 66]), (7, .sc false [.sc])], [(65, true, [.sc]), (66, true, [.sc])], [(64, [.sc, .sc, .ro [.sc, .sc]])], 67⟩, ⟨[(1, .ptr 64 0), (3, .sc false [.own 65]), (4, .sc false [.sc]), (5, .sc false [.own 66]), (7, .sc false [.sc])], [(65, true, [.sc]), (66, true, [.sc])], [(64, [.sc, .sc, .ro [.sc, .sc]])], 67⟩]

def spec_FormatWorkshop_L : L := .seq (.rg []) (.seq (.seq (.rg [⟨[], .call F_WorkshopOk 0 1, [.v 0, .v 1, .v 2, .v 3, .v 4, .v 5, .v 6, .v 7, .v 8, .v 9], 1⟩, ⟨[], .un .not, [.v 10], 1⟩]) (.ite (.v 11) (.seq (.rg [⟨[], .lst [.sc] false 0, [], 1⟩]) (.ret [.v 12])) (.skip))) (.seq (.rg [⟨[], .call F_GridText 0 1, [.v 0, .v 1, .v 2], 1⟩, ⟨[], .call F_FormatInt 0 1, [.v 5], 1⟩, ⟨[], .bin .add, [.k (.str [116, 117, 114, 110, 115, 32]), .v 13], 1⟩, ⟨[], .call F_FormatInt 0 1, [.v 8], 1⟩, ⟨[], .bin .add, [.k (.str [109, 111, 110, 101, 121, 32]), .v 15], 1⟩, ⟨[], .call F_FormatInt 0 1, [.v 9], 1⟩, ⟨[], .bin .add, [.k (.str [112, 108, 97, 121, 101, 100, 32]), .v 17], 1⟩, ⟨[], .lst [.sc] false 3, [.v 14, .v 16, .v 18], 1⟩, ⟨[], .app [.sc] 16, [.v 12, .v 19], 1⟩]) (.ret [.v 20])))
theorem spec_FormatWorkshop_L_sh (Q : QT) (x0 x1 x2 x3 x4 x5 x6 x7 x8 x9 : V) : shL spec_FormatWorkshop_L Q [x0, x1, x2, x3, x4, x5, x6, x7, x8, x9] = (
  P1 (.call F_WorkshopOk 0 1) [x0, x1, x2, x3, x4, x5, x6, x7, x8, x9] fun v0 =>
  P1 (.un .not) [v0] fun v1 =>
  ifB v1 (
    P1 (.lst [.sc] false 0) [] fun v2 =>
    Q .ret [v2]) (
    P1 (.call F_GridText 0 1) [x0, x1, x2] fun v3 =>
    P1 (.call F_FormatInt 0 1) [x5] fun v4 =>
    P1 (.bin .add) [.str [116, 117, 114, 110, 115, 32], v4] fun v5 =>
    P1 (.call F_FormatInt 0 1) [x8] fun v6 =>
    P1 (.bin .add) [.str [109, 111, 110, 101, 121, 32], v6] fun v7 =>
    P1 (.call F_FormatInt 0 1) [x9] fun v8 =>
    P1 (.bin .add) [.str [112, 108, 97, 121, 101, 100, 32], v8] fun v9 =>
    P1 (.lst [.sc] false 3) [v5, v7, v9] fun v10 =>
    P1 (.app [.sc] 16) [v3, v10] fun v11 =>
    Q .ret [v11])) := by kernel_rfl
def spec_FormatWorkshop_S : Sig := ⟨[.val true [.sc, .sc, .sl [.sc, .sc], .sl [.sl [.sc, .sc]], .sl [.sc], .sc, .sc, .sc, .sc, .sc]], [(false, [.sl [.sc]])], F_FormatWorkshop⟩
def spec_FormatWorkshop_hs : List NF := []

def impl_GridText_b1 : L := .seq (.seq (.rg [⟨[], .bin .lss, [.v 3, .v 2], 1⟩]) (.seq (.ite (.v 9) (.skip) (.seq (.tup [.v 0, .v 4, .v 5, .v 6, .v 7, .v 8]) (.exit 2))) (.seq (.block 3 (.seq (.seq (.rg [⟨[], .idx [.sc, .sc], [.v 1, .v 3], 2⟩]) (.seq (.rg [⟨[], .bin .eql, [.v 10, .v 0], 1⟩]) (.ite (.v 12) (.seq (.rg [⟨[], .idx [.sc], [.v 5, .v 11], 1⟩, ⟨[], .set [.sc] 0, [.v 5, .v 11, .k (.int .u8 120)], 1⟩]) (.tup [.v 0, .v 1, .v 2, .v 3, .v 4, .v 14, .v 6, .v 7, .v 8])) (.seq (.skip) (.tup [.v 0, .v 1, .v 2, .v 3, .v 4, .v 5, .v 6, .v 7, .v 8]))))) (.tup [.v 0, .v 1, .v 2, .v 3, .v 4, .v 5, .v 6, .v 7, .v 8]))) (.rg [⟨[], .bin .add, [.v 3, .k (.int .i64 1)], 1⟩])))) (.tup [.v 0, .v 1, .v 2, .v 9, .v 4, .v 5, .v 6, .v 7, .v 8])
theorem impl_GridText_b1_sh (Q : QT) (x0 x1 x2 x3 x4 x5 x6 x7 x8 : V) : shL impl_GridText_b1 Q [x0, x1, x2, x3, x4, x5, x6, x7, x8] = (
  P1 (.bin .lss) [x3, x2] fun v0 =>
  ifB v0 (
    P2 (.idx [.sc, .sc]) [x1, x3] fun v1 v2 =>
    P1 (.bin .eql) [v1, x0] fun v3 =>
    ifB v3 (
      P1 (.idx [.sc]) [x5, v2] fun _ =>
      P1 (.set [.sc] 0) [x5, v2, .int .u8 120] fun v5 =>
      P1 (.bin .add) [x3, .int .i64 1] fun v6 =>
      Q .normal [x0, x1, x2, v6, x4, v5, x6, x7, x8]) (
      P1 (.bin .add) [x3, .int .i64 1] fun v7 =>
      Q .normal [x0, x1, x2, v7, x4, x5, x6, x7, x8])) (
    Q (.exit 2) [x0, x4, x5, x6, x7, x8])) := by kernel_rfl

def impl_GridText_r2 : L := .rg [⟨[], .b2s, [.v 2], 1⟩, ⟨[], .lst [.sc] false 1, [.v 6], 1⟩, ⟨[], .app [.sc] 16, [.v 1, .v 7], 1⟩]
theorem impl_GridText_r2_sh (Q : QT) (x0 x1 x2 x3 x4 x5 : V) : shL impl_GridText_r2 Q [x0, x1, x2, x3, x4, x5] = (
  P1 (.b2s) [x2] fun v0 =>
  P1 (.lst [.sc] false 1) [v0] fun v1 =>
  P1 (.app [.sc] 16) [x1, v1] fun v2 =>
  Q .normal [x0, x1, x2, x3, x4, x5, v0, v1, v2]) := by kernel_rfl

def impl_GridText_r3 : L := .tup [.v 0, .v 8, .v 3, .v 4, .v 5]
theorem impl_GridText_r3_sh (Q : QT) (x0 x1 x2 x3 x4 x5 x6 x7 x8 : V) : shL impl_GridText_r3 Q [x0, x1, x2, x3, x4, x5, x6, x7, x8] = (
  Q .normal [x0, x8, x3, x4, x5]) := by kernel_rfl

def impl_GridText_r4 : L := .rg [⟨[], .bin .add, [.v 0, .k (.int .i64 1)], 1⟩]
theorem impl_GridText_r4_sh (Q : QT) (x0 x1 x2 x3 x4 : V) : shL impl_GridText_r4 Q [x0, x1, x2, x3, x4] = (
  P1 (.bin .add) [x0, .int .i64 1] fun v0 =>
  Q .normal [x0, x1, x2, x3, x4, v0]) := by kernel_rfl

def impl_GridText_r5 : L := .tup [.v 5, .v 1, .v 2, .v 3, .v 4]
theorem impl_GridText_r5_sh (Q : QT) (x0 x1 x2 x3 x4 x5 : V) : shL impl_GridText_r5 Q [x0, x1, x2, x3, x4, x5] = (
  Q .normal [x5, x1, x2, x3, x4]) := by kernel_rfl

def impl_GridText_b0 : L := .seq (.seq (.seq (.rg [⟨[], .bin .lss, [.v 0, .v 3], 1⟩]) (.ite (.v 5) (.skip) (.seq (.tup [.v 1]) (.exit 0)))) (.seq (.block 1 (.seq (.seq (.rg [⟨[], .call F_strings_Repeat 0 1, [.k (.str [46]), .v 2], 1⟩, ⟨[], .s2b 1, [.v 6], 1⟩]) (.seq (.seq (.rg [⟨[], .len, [.v 4], 1⟩]) (.block 2 (.seq (.tup [.v 0, .v 4, .v 8, .k (.int .i64 0), .v 1, .v 7, .v 2, .v 3, .v 4]) (.loop (impl_GridText_b1))))) (impl_GridText_r2))) (impl_GridText_r3))) (impl_GridText_r4))) (impl_GridText_r5)
theorem impl_GridText_b0_sh (Q : QT) (x0 x1 x2 x3 x4 : V) : shL impl_GridText_b0 Q [x0, x1, x2, x3, x4] = (
  P1 (.bin .lss) [x0, x3] fun v0 =>
  ifB v0 (
    P1 (.call F_strings_Repeat 0 1) [.str [46], x2] fun v1 =>
    P1 (.s2b 1) [v1] fun v2 =>
    P1 (.len) [x4] fun v3 =>
    shL (.loop impl_GridText_b1) (qB 2 (qS (shL impl_GridText_r2 (qS (shL impl_GridText_r3 (qB 1 (qS (shL impl_GridText_r4 (qS (shL impl_GridText_r5 Q) Q)) (qS (shL impl_GridText_r5 Q) Q)))) (qB 1 (qS (shL impl_GridText_r4 (qS (shL impl_GridText_r5 Q) Q)) (qS (shL impl_GridText_r5 Q) Q))))) (qS (shL impl_GridText_r3 (qB 1 (qS (shL impl_GridText_r4 (qS (shL impl_GridText_r5 Q) Q)) (qS (shL impl_GridText_r5 Q) Q)))) (qB 1 (qS (shL impl_GridText_r4 (qS (shL impl_GridText_r5 Q) Q)) (qS (shL impl_GridText_r5 Q) Q)))))) [x0, x4, v3, .int .i64 0, x1, v2, x2, x3, x4]) (
    Q (.exit 0) [x1])) := by kernel_rfl

def impl_GridText_r6 : L := .seq (.rg []) (.ret [.v 0])
theorem impl_GridText_r6_sh (Q : QT) (x0 : V) : shL impl_GridText_r6 Q [x0] = (
  Q .ret [x0]) := by kernel_rfl

def impl_GridText_L : L := .seq (.rg []) (.seq (.seq (.rg [⟨[], .call F_CylinderOk 0 1, [.v 0, .v 1, .v 2], 1⟩, ⟨[], .un .not, [.v 3], 1⟩]) (.ite (.v 4) (.seq (.rg []) (.ret [.k (.list [.sc] [])])) (.skip))) (.seq (.rg [⟨[], .lst [.sc] false 0, [], 1⟩]) (.seq (.seq (.rg []) (.block 0 (.seq (.tup [.k (.int .i64 0), .v 5, .v 0, .v 1, .v 2]) (.loop (impl_GridText_b0))))) (impl_GridText_r6))))
theorem impl_GridText_L_sh (Q : QT) (x0 x1 x2 : V) : shL impl_GridText_L Q [x0, x1, x2] = (
  P1 (.call F_CylinderOk 0 1) [x0, x1, x2] fun v0 =>
  P1 (.un .not) [v0] fun v1 =>
  ifB v1 (
    Q .ret [.list [.sc] []]) (
    P1 (.lst [.sc] false 0) [] fun v2 =>
    shL (.loop impl_GridText_b0) (qB 0 (qS (shL impl_GridText_r6 Q) Q)) [.int .i64 0, v2, x0, x1, x2])) := by kernel_rfl
def impl_GridText_S : Sig := ⟨[.val true [.sc, .sc, .sl [.sc, .sc]]], [(false, [.sl [.sc]])], F_GridText⟩
def impl_GridText_hs : List NF := [⟨[(3, .sc false [.own 64])], [(64, true, [.sc])], [], 65⟩, ⟨[(1, .ptr 64 0), (3, .sc false [.own 65]), (4, .sc false [.sc])], [(65, true, [.sc])], [(64, [.sc, .sc, .ro [.sc, .sc]])], 66⟩, ⟨[(1, .ptr 64 0), (3, .sc false [.own 65]), (4, .sc false [.sc])], [(65, true, [.sc])], [(64, [.sc, .sc, .ro [.sc, .sc]])], 66⟩, ⟨[(1, .ptr 64 0), (3, .sc false [.own 65]), (4, .sc false [.sc]), (5, .sc false [.own 66])], [(65, true, [.sc]), (66, true, [.sc])], [(64, [.sc, .sc, .ro [.sc, .sc]])], 67⟩, ⟨[(1, .ptr 64 0), (3, .sc false [.own 65]), (4, .sc false [.sc]), (5, .sc false [.own 66]), (23, .sc false [.ro [.sc, .sc]]), (24, .sc false [.sc]), (25, .sc false [.sc])], [(65, true, [.sc]), (66, true, [.sc])], [(64, [.sc, .sc, .ro [.sc, .sc]])], 67⟩, ⟨[(1, .ptr 64 0), (3, .sc false [.own 65]), (4, .sc false [.sc]), (5, .sc false [.own 66]), (23, .sc false [.ro [.sc, .sc]]), (24, .sc false [.sc]), (25, .sc false [.sc])], [(65, true, [.sc]), (66, true, [.sc])], [(64, [.sc, .sc, .ro [.sc, .sc]])], 67⟩, ⟨[(1, .ptr 64 0), (3, .sc false [.own 65]), (4, .sc false [.sc]), (5, .sc false [.own 66]), (23, .sc false [.ro [.sc, .sc]]), (24, .sc false [.sc]), (25, .sc false [.sc])], [(65, true, [.sc]), (66, true, [.sc])], [(64, [.sc, .sc, .ro [.sc, .sc]])], 67⟩]

def impl_FormatWorkshop_L : L := .seq (.rg []) (.seq (.seq (.rg [⟨[], .call F_WorkshopOk 0 1, [.v 0, .v 1, .v 2, .v 3, .v 4, .v 5, .v 6, .v 7, .v 8, .v 9], 1⟩, ⟨[], .un .not, [.v 10], 1⟩]) (.ite (.v 11) (.seq (.rg []) (.ret [.k (.list [.sc] [])])) (.skip))) (.seq (.rg [⟨[], .call F_GridText 0 1, [.v 0, .v 1, .v 2], 1⟩]) (.seq (.rg [⟨[], .call F_FormatInt 0 1, [.v 5], 1⟩, ⟨[], .bin .add, [.k (.str [116, 117, 114, 110, 115, 32]), .v 13], 1⟩, ⟨[], .call F_FormatInt 0 1, [.v 8], 1⟩, ⟨[], .bin .add, [.k (.str [109, 111, 110, 101, 121, 32]), .v 15], 1⟩, ⟨[], .lst [.sc] false 2, [.v 14, .v 16], 1⟩, ⟨[], .app [.sc] 16, [.v 12, .v 17], 1⟩]) (.seq (.rg [⟨[], .call F_FormatInt 0 1, [.v 9], 1⟩, ⟨[], .bin .add, [.k (.str [112, 108, 97, 121, 101, 100, 32]), .v 19], 1⟩, ⟨[], .lst [.sc] false 1, [.v 20], 1⟩, ⟨[], .app [.sc] 16, [.v 18, .v 21], 1⟩]) (.ret [.v 22])))))
theorem impl_FormatWorkshop_L_sh (Q : QT) (x0 x1 x2 x3 x4 x5 x6 x7 x8 x9 : V) : shL impl_FormatWorkshop_L Q [x0, x1, x2, x3, x4, x5, x6, x7, x8, x9] = (
  P1 (.call F_WorkshopOk 0 1) [x0, x1, x2, x3, x4, x5, x6, x7, x8, x9] fun v0 =>
  P1 (.un .not) [v0] fun v1 =>
  ifB v1 (
    Q .ret [.list [.sc] []]) (
    P1 (.call F_GridText 0 1) [x0, x1, x2] fun v2 =>
    P1 (.call F_FormatInt 0 1) [x5] fun v3 =>
    P1 (.bin .add) [.str [116, 117, 114, 110, 115, 32], v3] fun v4 =>
    P1 (.call F_FormatInt 0 1) [x8] fun v5 =>
    P1 (.bin .add) [.str [109, 111, 110, 101, 121, 32], v5] fun v6 =>
    P1 (.lst [.sc] false 2) [v4, v6] fun v7 =>
    P1 (.app [.sc] 16) [v2, v7] fun v8 =>
    P1 (.call F_FormatInt 0 1) [x9] fun v9 =>
    P1 (.bin .add) [.str [112, 108, 97, 121, 101, 100, 32], v9] fun v10 =>
    P1 (.lst [.sc] false 1) [v10] fun v11 =>
    P1 (.app [.sc] 16) [v8, v11] fun v12 =>
    Q .ret [v12])) := by kernel_rfl
def impl_FormatWorkshop_S : Sig := ⟨[.val true [.sc, .sc, .sl [.sc, .sc], .sl [.sl [.sc, .sc]], .sl [.sc], .sc, .sc, .sc, .sc, .sc]], [(false, [.sl [.sc]])], F_FormatWorkshop⟩
def impl_FormatWorkshop_hs : List NF := []

def laws_eqStringS_b0 : L := .seq (.seq (.seq (.rg [⟨[], .len, [.v 0], 1⟩, ⟨[], .bin .lss, [.v 2, .v 3], 1⟩]) (.ite (.v 4) (.skip) (.seq (.tup []) (.exit 0)))) (.seq (.block 1 (.seq (.seq (.rg [⟨[], .idx [.sc], [.v 0, .v 2], 1⟩, ⟨[], .idx [.sc], [.v 1, .v 2], 1⟩, ⟨[], .bin .neq, [.v 5, .v 6], 1⟩]) (.ite (.v 7) (.seq (.rg []) (.ret [.k (.bool false)])) (.skip))) (.tup [.v 0, .v 1, .v 2]))) (.rg [⟨[], .bin .add, [.v 2, .k (.int .i64 1)], 1⟩]))) (.tup [.v 0, .v 1, .v 3])
theorem laws_eqStringS_b0_sh (Q : QT) (x0 x1 x2 : V) : shL laws_eqStringS_b0 Q [x0, x1, x2] = (
  P1 (.len) [x0] fun v0 =>
  P1 (.bin .lss) [x2, v0] fun v1 =>
  ifB v1 (
    P1 (.idx [.sc]) [x0, x2] fun v2 =>
    P1 (.idx [.sc]) [x1, x2] fun v3 =>
    P1 (.bin .neq) [v2, v3] fun v4 =>
    ifB v4 (
      Q .ret [.bool false]) (
      P1 (.bin .add) [x2, .int .i64 1] fun v5 =>
      Q .normal [x0, x1, v5])) (
    Q (.exit 0) [])) := by kernel_rfl

def laws_eqStringS_r1 : L := .seq (.rg []) (.ret [.k (.bool true)])
theorem laws_eqStringS_r1_sh (Q : QT) : shL laws_eqStringS_r1 Q [] = (
  Q .ret [.bool true]) := by kernel_rfl

def laws_eqStringS_L : L := .seq (.rg []) (.seq (.seq (.rg [⟨[], .len, [.v 0], 1⟩, ⟨[], .len, [.v 1], 1⟩, ⟨[], .bin .neq, [.v 2, .v 3], 1⟩]) (.ite (.v 4) (.seq (.rg []) (.ret [.k (.bool false)])) (.skip))) (.seq (.seq (.rg []) (.block 0 (.seq (.tup [.v 0, .v 1, .k (.int .i64 0)]) (.loop (laws_eqStringS_b0))))) (laws_eqStringS_r1)))
theorem laws_eqStringS_L_sh (Q : QT) (x0 x1 : V) : shL laws_eqStringS_L Q [x0, x1] = (
  P1 (.len) [x0] fun v0 =>
  P1 (.len) [x1] fun v1 =>
  P1 (.bin .neq) [v0, v1] fun v2 =>
  ifB v2 (
    Q .ret [.bool false]) (
    shL (.loop laws_eqStringS_b0) (qB 0 (qS (shL laws_eqStringS_r1 Q) Q)) [x0, x1, .int .i64 0])) := by kernel_rfl
def laws_eqStringS_S : Sig := ⟨[.val false [.sl [.sc]], .val false [.sl [.sc]]], [(false, [.sc])], F_eqStringS⟩
def laws_eqStringS_hs : List NF := [⟨[], [], [], 64⟩, ⟨[(0, .sc false [.ro [.sc]]), (1, .sc false [.ro [.sc]]), (5, .sc false [.sc])], [], [], 64⟩, ⟨[(0, .sc false [.ro [.sc]]), (1, .sc false [.ro [.sc]]), (5, .sc false [.sc])], [], [], 64⟩]

def laws_markText_b0 : L := .seq (.seq (.seq (.rg [⟨[], .bin .gtr, [.v 0, .k (.int .i64 0)], 1⟩]) (.ite (.v 2) (.skip) (.seq (.tup [.v 1]) (.exit 0)))) (.block 1 (.seq (.seq (.rg [⟨[], .bin .rem, [.v 0, .k (.int .i64 10)], 1⟩, ⟨[], .bin .add, [.k (.int .i64 48), .v 3], 1⟩, ⟨[], .conv .u8, [.v 4], 1⟩, ⟨[], .lst [.sc] false 1, [.v 5], 1⟩, ⟨[], .b2s, [.v 6], 1⟩, ⟨[], .bin .add, [.v 7, .v 1], 1⟩]) (.rg [⟨[], .bin .quo, [.v 0, .k (.int .i64 10)], 1⟩])) (.tup [.v 9, .v 8])))) (.tup [.v 0, .v 1])
theorem laws_markText_b0_sh (Q : QT) (x0 x1 : V) : shL laws_markText_b0 Q [x0, x1] = (
  P1 (.bin .gtr) [x0, .int .i64 0] fun v0 =>
  ifB v0 (
    P1 (.bin .rem) [x0, .int .i64 10] fun v1 =>
    P1 (.bin .add) [.int .i64 48, v1] fun v2 =>
    P1 (.conv .u8) [v2] fun v3 =>
    P1 (.lst [.sc] false 1) [v3] fun v4 =>
    P1 (.b2s) [v4] fun v5 =>
    P1 (.bin .add) [v5, x1] fun v6 =>
    P1 (.bin .quo) [x0, .int .i64 10] fun v7 =>
    Q .normal [v7, v6]) (
    Q (.exit 0) [x1])) := by kernel_rfl

def laws_markText_r1 : L := .seq (.rg [⟨[], .bin .add, [.k (.str [109]), .v 0], 1⟩]) (.ret [.v 1])
theorem laws_markText_r1_sh (Q : QT) (x0 : V) : shL laws_markText_r1 Q [x0] = (
  P1 (.bin .add) [.str [109], x0] fun v0 =>
  Q .ret [v0]) := by kernel_rfl

def laws_markText_L : L := .seq (.rg []) (.seq (.seq (.rg [⟨[], .bin .leq, [.v 0, .k (.int .i64 0)], 1⟩]) (.ite (.v 1) (.seq (.rg []) (.ret [.k (.str [109, 48])])) (.skip))) (.seq (.rg []) (.seq (.block 0 (.seq (.tup [.v 0, .k (.str [])]) (.loop (laws_markText_b0)))) (laws_markText_r1))))
theorem laws_markText_L_sh (Q : QT) (x0 : V) : shL laws_markText_L Q [x0] = (
  P1 (.bin .leq) [x0, .int .i64 0] fun v0 =>
  ifB v0 (
    Q .ret [.str [109, 48]]) (
    shL (.loop laws_markText_b0) (qB 0 (qS (shL laws_markText_r1 Q) Q)) [x0, .str []])) := by kernel_rfl
def laws_markText_S : Sig := ⟨[.val false [.sc]], [(false, [.sc])], F_markText⟩
def laws_markText_hs : List NF := [⟨[(3, .sc false [.sc])], [], [], 64⟩, ⟨[(0, .sc false [.sc]), (3, .sc false [.sc])], [], [], 64⟩, ⟨[(0, .sc false [.sc]), (3, .sc false [.sc])], [], [], 64⟩]

def laws_markStringS_b0 : L := .seq (.seq (.seq (.rg [⟨[], .len, [.v 2], 1⟩, ⟨[], .bin .lss, [.v 1, .v 3], 1⟩]) (.ite (.v 4) (.skip) (.seq (.tup [.v 0, .v 2]) (.exit 0)))) (.seq (.block 1 (.seq (.seq (.rg [⟨[], .call F_markText 0 1, [.v 0], 1⟩, ⟨[], .idx [.sc], [.v 2, .v 1], 1⟩, ⟨[], .set [.sc] 0, [.v 2, .v 1, .v 5], 1⟩]) (.rg [⟨[], .bin .add, [.v 0, .k (.int .i64 1)], 1⟩])) (.tup [.v 8, .v 1, .v 7]))) (.rg [⟨[], .bin .add, [.v 1, .k (.int .i64 1)], 1⟩]))) (.tup [.v 0, .v 3, .v 2])
theorem laws_markStringS_b0_sh (Q : QT) (x0 x1 x2 : V) : shL laws_markStringS_b0 Q [x0, x1, x2] = (
  P1 (.len) [x2] fun v0 =>
  P1 (.bin .lss) [x1, v0] fun v1 =>
  ifB v1 (
    P1 (.call F_markText 0 1) [x0] fun v2 =>
    P1 (.idx [.sc]) [x2, x1] fun _ =>
    P1 (.set [.sc] 0) [x2, x1, v2] fun v4 =>
    P1 (.bin .add) [x0, .int .i64 1] fun v5 =>
    P1 (.bin .add) [x1, .int .i64 1] fun v6 =>
    Q .normal [v5, v6, v4]) (
    Q (.exit 0) [x0, x2])) := by kernel_rfl

def laws_markStringS_r1 : L := .seq (.rg []) (.ret [.v 0, .v 1])
theorem laws_markStringS_r1_sh (Q : QT) (x0 x1 : V) : shL laws_markStringS_r1 Q [x0, x1] = (
  Q .ret [x0, x1]) := by kernel_rfl

def laws_markStringS_L : L := .seq (.rg []) (.seq (.seq (.rg []) (.block 0 (.seq (.tup [.v 1, .k (.int .i64 0), .v 0]) (.loop (laws_markStringS_b0))))) (laws_markStringS_r1))
theorem laws_markStringS_L_sh (Q : QT) (x0 x1 : V) : shL laws_markStringS_L Q [x0, x1] = (
  shL (.loop laws_markStringS_b0) (qB 0 (qS (shL laws_markStringS_r1 Q) Q)) [x1, .int .i64 0, x0]) := by kernel_rfl
def laws_markStringS_S : Sig := ⟨[.io false [.sl [.sc]], .val false [.sc]], [(false, [.sc])], F_markStringS⟩
def laws_markStringS_hs : List NF := [⟨[(1, .sc false [.sc])], [(0, false, [.sc])], [], 64⟩, ⟨[(0, .sc false [.own 0]), (1, .sc false [.sc]), (5, .sc false [.sc])], [(0, false, [.sc])], [], 64⟩, ⟨[(0, .sc false [.own 0]), (1, .sc false [.sc]), (5, .sc false [.sc])], [(0, false, [.sc])], [], 64⟩]

def laws_heldStringS_b0 : L := .seq (.seq (.seq (.rg [⟨[], .len, [.v 0], 1⟩, ⟨[], .bin .lss, [.v 2, .v 3], 1⟩]) (.ite (.v 4) (.skip) (.seq (.tup [.v 1]) (.exit 0)))) (.seq (.block 1 (.seq (.seq (.seq (.rg [⟨[], .idx [.sc], [.v 0, .v 2], 1⟩, ⟨[], .call F_markText 0 1, [.v 1], 1⟩, ⟨[], .bin .neq, [.v 5, .v 6], 1⟩]) (.ite (.v 7) (.seq (.rg []) (.ret [.k (.int .i64 (-1))])) (.skip))) (.rg [⟨[], .bin .add, [.v 1, .k (.int .i64 1)], 1⟩])) (.tup [.v 0, .v 8, .v 2]))) (.rg [⟨[], .bin .add, [.v 2, .k (.int .i64 1)], 1⟩]))) (.tup [.v 0, .v 1, .v 3])
theorem laws_heldStringS_b0_sh (Q : QT) (x0 x1 x2 : V) : shL laws_heldStringS_b0 Q [x0, x1, x2] = (
  P1 (.len) [x0] fun v0 =>
  P1 (.bin .lss) [x2, v0] fun v1 =>
  ifB v1 (
    P1 (.idx [.sc]) [x0, x2] fun v2 =>
    P1 (.call F_markText 0 1) [x1] fun v3 =>
    P1 (.bin .neq) [v2, v3] fun v4 =>
    ifB v4 (
      Q .ret [.int .i64 (-1)]) (
      P1 (.bin .add) [x1, .int .i64 1] fun v5 =>
      P1 (.bin .add) [x2, .int .i64 1] fun v6 =>
      Q .normal [x0, v5, v6])) (
    Q (.exit 0) [x1])) := by kernel_rfl

def laws_heldStringS_r1 : L := .seq (.rg []) (.ret [.v 0])
theorem laws_heldStringS_r1_sh (Q : QT) (x0 : V) : shL laws_heldStringS_r1 Q [x0] = (
  Q .ret [x0]) := by kernel_rfl

def laws_heldStringS_L : L := .seq (.rg []) (.seq (.seq (.rg []) (.block 0 (.seq (.tup [.v 0, .v 1, .k (.int .i64 0)]) (.loop (laws_heldStringS_b0))))) (laws_heldStringS_r1))
theorem laws_heldStringS_L_sh (Q : QT) (x0 x1 : V) : shL laws_heldStringS_L Q [x0, x1] = (
  shL (.loop laws_heldStringS_b0) (qB 0 (qS (shL laws_heldStringS_r1 Q) Q)) [x0, x1, .int .i64 0]) := by kernel_rfl
def laws_heldStringS_S : Sig := ⟨[.val false [.sl [.sc]], .val false [.sc]], [(false, [.sc])], F_heldStringS⟩
def laws_heldStringS_hs : List NF := [⟨[(1, .sc false [.sc])], [], [], 64⟩, ⟨[(0, .sc false [.ro [.sc]]), (1, .sc false [.sc]), (5, .sc false [.sc])], [], [], 64⟩, ⟨[(0, .sc false [.ro [.sc]]), (1, .sc false [.sc]), (5, .sc false [.sc])], [], [], 64⟩]

def laws_FnExactFormatWorkshop_r0 : L := .seq (.rg []) (.seq (.rg [⟨[], .call F_markStringS 1 1, [.v 33, .k (.int .i64 1), .v 33], 2⟩]) (.seq (.rg []) (.seq (.rg [⟨[], .call F_heldStringS 0 1, [.v 57, .k (.int .i64 1)], 1⟩]) (.seq (.seq (.rg [⟨[], .bin .lss, [.v 58, .k (.int .i64 0)], 1⟩]) (.ite (.v 59) (.seq (.rg []) (.ret [.k (.bool false)])) (.skip))) (.seq (.seq (.rg [⟨[], .bin .neq, [.v 58, .v 56], 1⟩]) (.ite (.v 60) (.seq (.rg []) (.ret [.k (.bool false)])) (.skip))) (.seq (.rg [⟨[], .call F_toWorkshop 0 10, [.v 0, .v 1, .v 2, .v 3, .v 4, .v 5, .v 6, .v 7, .v 8, .v 9], 10⟩, ⟨[], .call F_FormatWorkshop 0 1, [.v 61, .v 62, .v 63, .v 64, .v 65, .v 66, .v 67, .v 68, .v 69, .v 70], 1⟩]) (.seq (.seq (.rg [⟨[], .call F_eqStringS 0 1, [.v 71, .v 22], 1⟩, ⟨[], .un .not, [.v 72], 1⟩]) (.ite (.v 73) (.seq (.rg []) (.ret [.k (.bool false)])) (.skip))) (.seq (.rg []) (.seq (.rg [⟨[], .call F_heldStringS 0 1, [.v 57, .k (.int .i64 1)], 1⟩]) (.seq (.seq (.rg [⟨[], .bin .lss, [.v 74, .k (.int .i64 0)], 1⟩]) (.ite (.v 75) (.seq (.rg []) (.ret [.k (.bool false)])) (.skip))) (.seq (.seq (.rg [⟨[], .bin .neq, [.v 74, .v 56], 1⟩]) (.ite (.v 76) (.seq (.rg []) (.ret [.k (.bool false)])) (.skip))) (.seq (.rg []) (.ret [.k (.bool true)])))))))))))))
theorem laws_FnExactFormatWorkshop_r0_sh (Q : QT) (x0 x1 x2 x3 x4 x5 x6 x7 x8 x9 x10 x11 x12 x13 x14 x15 x16 x17 x18 x19 x20 x21 x22 x23 x24 x25 x26 x27 x28 x29 x30 x31 x32 x33 x34 x35 x36 x37 x38 x39 x40 x41 x42 x43 x44 x45 x46 x47 x48 x49 x50 x51 x52 x53 x54 x55 : V) : shL laws_FnExactFormatWorkshop_r0 Q [x0, x1, x2, x3, x4, x5, x6, x7, x8, x9, x10, x11, x12, x13, x14, x15, x16, x17, x18, x19, x20, x21, x22, x23, x24, x25, x26, x27, x28, x29, x30, x31, x32, x33, x34, x35, x36, x37, x38, x39, x40, x41, x42, x43, x44, x45, x46, x47, x48, x49, x50, x51, x52, x53, x54, x55] = (
  P2 (.call F_markStringS 1 1) [x33, .int .i64 1, x33] fun v0 v1 =>
  P1 (.call F_heldStringS 0 1) [v1, .int .i64 1] fun v2 =>
  P1 (.bin .lss) [v2, .int .i64 0] fun v3 =>
  ifB v3 (
    Q .ret [.bool false]) (
    P1 (.bin .neq) [v2, v0] fun v4 =>
    ifB v4 (
      Q .ret [.bool false]) (
      P10 (.call F_toWorkshop 0 10) [x0, x1, x2, x3, x4, x5, x6, x7, x8, x9] fun v5 v6 v7 v8 v9 v10 v11 v12 v13 v14 =>
      P1 (.call F_FormatWorkshop 0 1) [v5, v6, v7, v8, v9, v10, v11, v12, v13, v14] fun v15 =>
      P1 (.call F_eqStringS 0 1) [v15, x22] fun v16 =>
      P1 (.un .not) [v16] fun v17 =>
      ifB v17 (
        Q .ret [.bool false]) (
        P1 (.call F_heldStringS 0 1) [v1, .int .i64 1] fun v18 =>
        P1 (.bin .lss) [v18, .int .i64 0] fun v19 =>
        ifB v19 (
          Q .ret [.bool false]) (
          P1 (.bin .neq) [v18, v0] fun v20 =>
          ifB v20 (
            Q .ret [.bool false]) (
            Q .ret [.bool true])))))) := by kernel_rfl

def laws_FnExactFormatWorkshop_L : L := .seq (.rg []) (.seq (.rg []) (.seq (.rg [⟨[], .call F_szWorkshop 0 1, [.v 0, .v 1, .v 2, .v 3, .v 4, .v 5, .v 6, .v 7, .v 8, .v 9, .k (.int .i64 1048576)], 1⟩]) (.seq (.seq (.rg [⟨[], .bin .lss, [.v 10, .k (.int .i64 0)], 1⟩]) (.ite (.v 11) (.seq (.rg []) (.ret [.k (.bool true)])) (.skip))) (.seq (.rg [⟨[], .call F_toWorkshop 0 10, [.v 0, .v 1, .v 2, .v 3, .v 4, .v 5, .v 6, .v 7, .v 8, .v 9], 10⟩, ⟨[], .call F_FormatWorkshop 0 1, [.v 12, .v 13, .v 14, .v 15, .v 16, .v 17, .v 18, .v 19, .v 20, .v 21], 1⟩]) (.seq (.rg [⟨[], .call F_toWorkshop 0 10, [.v 0, .v 1, .v 2, .v 3, .v 4, .v 5, .v 6, .v 7, .v 8, .v 9], 10⟩]) (.seq (.rg [⟨[], .call F_FormatWorkshop 0 1, [.v 23, .v 24, .v 25, .v 26, .v 27, .v 28, .v 29, .v 30, .v 31, .v 32], 1⟩]) (.seq (.seq (.rg [⟨[], .call F_eqStringS 0 1, [.v 33, .v 22], 1⟩, ⟨[], .un .not, [.v 34], 1⟩]) (.ite (.v 35) (.seq (.rg []) (.ret [.k (.bool false)])) (.skip))) (.seq (.seq (.rg [⟨[], .call F_toWorkshop 0 10, [.v 0, .v 1, .v 2, .v 3, .v 4, .v 5, .v 6, .v 7, .v 8, .v 9], 10⟩, ⟨[], .call F_eqWorkshop 0 1, [.v 23, .v 24, .v 25, .v 26, .v 27, .v 28, .v 29, .v 30, .v 31, .v 32, .v 36, .v 37, .v 38, .v 39, .v 40, .v 41, .v 42, .v 43, .v 44, .v 45], 1⟩, ⟨[], .un .not, [.v 46], 1⟩]) (.ite (.v 47) (.seq (.rg []) (.ret [.k (.bool false)])) (.skip))) (.seq (.rg []) (.seq (.rg [⟨[], .callN F_markWorkshop 3 1, [.v 23, .v 24, .v 25, .v 26, .v 27, .v 28, .v 29, .v 30, .v 31, .v 32, .k (.int .i64 1), .v 25, .v 26, .v 27], 4⟩]) (.seq (.seq (.rg [⟨[], .bin .lss, [.v 48, .k (.int .i64 0)], 1⟩, ⟨[(.v 52, false)], .call F_eqStringS 0 1, [.v 33, .v 22], 1⟩, ⟨[(.v 52, false)], .un .not, [.v 53], 1⟩, ⟨[], .pick, [.v 52, .k (.bool true), .v 54], 1⟩]) (.ite (.v 55) (.seq (.rg []) (.ret [.k (.bool false)])) (.skip))) (laws_FnExactFormatWorkshop_r0))))))))))))
theorem laws_FnExactFormatWorkshop_L_sh (Q : QT) (x0 x1 x2 x3 x4 x5 x6 x7 x8 x9 : V) : shL laws_FnExactFormatWorkshop_L Q [x0, x1, x2, x3, x4, x5, x6, x7, x8, x9] = (
  P1 (.call F_szWorkshop 0 1) [x0, x1, x2, x3, x4, x5, x6, x7, x8, x9, .int .i64 1048576] fun v0 =>
  P1 (.bin .lss) [v0, .int .i64 0] fun v1 =>
  ifB v1 (
    Q .ret [.bool true]) (
    P10 (.call F_toWorkshop 0 10) [x0, x1, x2, x3, x4, x5, x6, x7, x8, x9] fun v2 v3 v4 v5 v6 v7 v8 v9 v10 v11 =>
    P1 (.call F_FormatWorkshop 0 1) [v2, v3, v4, v5, v6, v7, v8, v9, v10, v11] fun v12 =>
    P10 (.call F_toWorkshop 0 10) [x0, x1, x2, x3, x4, x5, x6, x7, x8, x9] fun v13 v14 v15 v16 v17 v18 v19 v20 v21 v22 =>
    P1 (.call F_FormatWorkshop 0 1) [v13, v14, v15, v16, v17, v18, v19, v20, v21, v22] fun v23 =>
    P1 (.call F_eqStringS 0 1) [v23, v12] fun v24 =>
    P1 (.un .not) [v24] fun v25 =>
    ifB v25 (
      Q .ret [.bool false]) (
      P10 (.call F_toWorkshop 0 10) [x0, x1, x2, x3, x4, x5, x6, x7, x8, x9] fun v26 v27 v28 v29 v30 v31 v32 v33 v34 v35 =>
      P1 (.call F_eqWorkshop 0 1) [v13, v14, v15, v16, v17, v18, v19, v20, v21, v22, v26, v27, v28, v29, v30, v31, v32, v33, v34, v35] fun v36 =>
      P1 (.un .not) [v36] fun v37 =>
      ifB v37 (
        Q .ret [.bool false]) (
        P4 (.callN F_markWorkshop 3 1) [v13, v14, v15, v16, v17, v18, v19, v20, v21, v22, .int .i64 1, v15, v16, v17] fun v38 v39 v40 v41 =>
        P1 (.bin .lss) [v38, .int .i64 0] fun v42 =>
        ifB v42 (
          Q .ret [.bool false]) (
          P1 (.call F_eqStringS 0 1) [v23, v12] fun v43 =>
          P1 (.un .not) [v43] fun v44 =>
          ifB v44 (
            Q .ret [.bool false]) (
            shL laws_FnExactFormatWorkshop_r0 Q [x0, x1, x2, x3, x4, x5, x6, x7, x8, x9, v0, .bool false, v2, v3, v4, v5, v6, v7, v8, v9, v10, v11, v12, v13, v14, v15, v16, v17, v18, v19, v20, v21, v22, v23, v24, .bool false, v26, v27, v28, v29, v30, v31, v32, v33, v34, v35, v36, .bool false, v38, v39, v40, v41, .bool false, v43, v44, .bool false])))))) := by kernel_rfl
def laws_FnExactFormatWorkshop_S : Sig := ⟨[.val true [.sc, .sc, .sl [.sc, .sc], .sl [.sl [.sc, .sc]], .sl [.sc], .sc, .sc, .sc, .sc, .sc]], [(false, [.sc])], F_FnExactFormatWorkshop⟩
def laws_FnExactFormatWorkshop_hs : List NF := []

def laws_FnSummaries_b0 : L := .seq (.seq (.seq (.rg [⟨[], .bin .lss, [.v 1, .v 0], 1⟩]) (.ite (.v 14) (.skip) (.seq (.tup [.v 0, .v 2, .v 4, .v 5, .v 6, .v 7, .v 8, .v 9, .v 10, .v 11, .v 12, .v 13]) (.exit 0)))) (.seq (.block 1 (.seq (.seq (.rg [⟨[], .idx [.sc], [.v 2, .v 1], 1⟩, ⟨[], .idx [.sc], [.v 3, .v 1], 1⟩, ⟨[], .bin .neq, [.v 15, .v 16], 1⟩]) (.ite (.v 17) (.seq (.rg []) (.ret [.k (.bool false)])) (.skip))) (.tup [.v 0, .v 1, .v 2, .v 3, .v 4, .v 5, .v 6, .v 7, .v 8, .v 9, .v 10, .v 11, .v 12, .v 13]))) (.rg [⟨[], .bin .add, [.v 1, .k (.int .i64 1)], 1⟩]))) (.tup [.v 0, .v 14, .v 2, .v 3, .v 4, .v 5, .v 6, .v 7, .v 8, .v 9, .v 10, .v 11, .v 12, .v 13])
theorem laws_FnSummaries_b0_sh (Q : QT) (x0 x1 x2 x3 x4 x5 x6 x7 x8 x9 x10 x11 x12 x13 : V) : shL laws_FnSummaries_b0 Q [x0, x1, x2, x3, x4, x5, x6, x7, x8, x9, x10, x11, x12, x13] = (
  P1 (.bin .lss) [x1, x0] fun v0 =>
  ifB v0 (
    P1 (.idx [.sc]) [x2, x1] fun v1 =>
    P1 (.idx [.sc]) [x3, x1] fun v2 =>
    P1 (.bin .neq) [v1, v2] fun v3 =>
    ifB v3 (
      Q .ret [.bool false]) (
      P1 (.bin .add) [x1, .int .i64 1] fun v4 =>
      Q .normal [x0, v4, x2, x3, x4, x5, x6, x7, x8, x9, x10, x11, x12, x13])) (
    Q (.exit 0) [x0, x2, x4, x5, x6, x7, x8, x9, x10, x11, x12, x13])) := by kernel_rfl

def laws_FnSummaries_r1 : L := .seq (.rg [⟨[], .idx [.sc], [.v 1, .v 0], 1⟩, ⟨[], .call F_FormatInt 0 1, [.v 7], 1⟩, ⟨[], .bin .add, [.k (.str [116, 117, 114, 110, 115, 32]), .v 13], 1⟩, ⟨[], .bin .eql, [.v 12, .v 14], 1⟩, ⟨[(.v 15, true)], .bin .add, [.v 0, .k (.int .i64 1)], 1⟩, ⟨[(.v 15, true)], .idx [.sc], [.v 1, .v 16], 1⟩, ⟨[(.v 15, true)], .call F_FormatInt 0 1, [.v 10], 1⟩, ⟨[(.v 15, true)], .bin .add, [.k (.str [109, 111, 110, 101, 121, 32]), .v 18], 1⟩, ⟨[(.v 15, true)], .bin .eql, [.v 17, .v 19], 1⟩, ⟨[], .pick, [.v 15, .v 20, .k (.bool false)], 1⟩, ⟨[(.v 21, true)], .bin .add, [.v 0, .k (.int .i64 2)], 1⟩, ⟨[(.v 21, true)], .idx [.sc], [.v 1, .v 22], 1⟩, ⟨[(.v 21, true)], .call F_FormatInt 0 1, [.v 11], 1⟩, ⟨[(.v 21, true)], .bin .add, [.k (.str [112, 108, 97, 121, 101, 100, 32]), .v 24], 1⟩, ⟨[(.v 21, true)], .bin .eql, [.v 23, .v 25], 1⟩, ⟨[], .pick, [.v 21, .v 26, .k (.bool false)], 1⟩]) (.ret [.v 27])
theorem laws_FnSummaries_r1_sh (Q : QT) (x0 x1 x2 x3 x4 x5 x6 x7 x8 x9 x10 x11 : V) : shL laws_FnSummaries_r1 Q [x0, x1, x2, x3, x4, x5, x6, x7, x8, x9, x10, x11] = (
  P1 (.idx [.sc]) [x1, x0] fun v0 =>
  P1 (.call F_FormatInt 0 1) [x7] fun v1 =>
  P1 (.bin .add) [.str [116, 117, 114, 110, 115, 32], v1] fun v2 =>
  P1 (.bin .eql) [v0, v2] fun v3 =>
  ifB v3 (
    P1 (.bin .add) [x0, .int .i64 1] fun v4 =>
    P1 (.idx [.sc]) [x1, v4] fun v5 =>
    P1 (.call F_FormatInt 0 1) [x10] fun v6 =>
    P1 (.bin .add) [.str [109, 111, 110, 101, 121, 32], v6] fun v7 =>
    P1 (.bin .eql) [v5, v7] fun v8 =>
    ifB v8 (
      P1 (.bin .add) [x0, .int .i64 2] fun v9 =>
      P1 (.idx [.sc]) [x1, v9] fun v10 =>
      P1 (.call F_FormatInt 0 1) [x11] fun v11 =>
      P1 (.bin .add) [.str [112, 108, 97, 121, 101, 100, 32], v11] fun v12 =>
      P1 (.bin .eql) [v10, v12] fun v13 =>
      Q .ret [v13]) (
      Q .ret [.bool false])) (
    Q .ret [.bool false])) := by kernel_rfl

def laws_FnSummaries_L : L := .seq (.rg []) (.seq (.seq (.rg [⟨[], .call F_big 0 1, [.v 0], 1⟩]) (.ite (.v 1) (.seq (.rg []) (.ret [.k (.bool true)])) (.skip))) (.seq (.rg [⟨[], .call F_DrawActs 0 11, [.v 0], 11⟩]) (.seq (.rg [⟨[], .call F_FormatWorkshop 0 1, [.v 2, .v 3, .v 4, .v 5, .v 6, .v 7, .v 8, .v 9, .v 10, .v 11], 1⟩]) (.seq (.rg [⟨[], .call F_GridText 0 1, [.v 2, .v 3, .v 4], 1⟩]) (.seq (.rg [⟨[], .len, [.v 14], 1⟩]) (.seq (.seq (.rg [⟨[], .bin .neq, [.v 15, .v 3], 1⟩, ⟨[(.v 16, false)], .len, [.v 13], 1⟩, ⟨[(.v 16, false)], .bin .add, [.v 15, .k (.int .i64 3)], 1⟩, ⟨[(.v 16, false)], .bin .neq, [.v 17, .v 18], 1⟩, ⟨[], .pick, [.v 16, .k (.bool true), .v 19], 1⟩]) (.ite (.v 20) (.seq (.rg []) (.ret [.k (.bool false)])) (.skip))) (.seq (.seq (.rg []) (.block 0 (.seq (.tup [.v 15, .k (.int .i64 0), .v 13, .v 14, .v 4, .v 5, .v 6, .v 2, .v 3, .v 7, .v 8, .v 9, .v 10, .v 11]) (.loop (laws_FnSummaries_b0))))) (laws_FnSummaries_r1))))))))
theorem laws_FnSummaries_L_sh (Q : QT) (x0 : V) : shL laws_FnSummaries_L Q [x0] = (
  P1 (.call F_big 0 1) [x0] fun v0 =>
  ifB v0 (
    Q .ret [.bool true]) (
    P11 (.call F_DrawActs 0 11) [x0] fun v1 v2 v3 v4 v5 v6 v7 v8 v9 v10 _ =>
    P1 (.call F_FormatWorkshop 0 1) [v1, v2, v3, v4, v5, v6, v7, v8, v9, v10] fun v12 =>
    P1 (.call F_GridText 0 1) [v1, v2, v3] fun v13 =>
    P1 (.len) [v13] fun v14 =>
    P1 (.bin .neq) [v14, v2] fun v15 =>
    ifB v15 (
      Q .ret [.bool false]) (
      P1 (.len) [v12] fun v16 =>
      P1 (.bin .add) [v14, .int .i64 3] fun v17 =>
      P1 (.bin .neq) [v16, v17] fun v18 =>
      ifB v18 (
        Q .ret [.bool false]) (
        shL (.loop laws_FnSummaries_b0) (qB 0 (qS (shL laws_FnSummaries_r1 Q) Q)) [v14, .int .i64 0, v12, v13, v3, v4, v5, v1, v2, v6, v7, v8, v9, v10])))) := by kernel_rfl
def laws_FnSummaries_S : Sig := ⟨[.val false [.sl [.sc]]], [(false, [.sc])], F_FnSummaries⟩
def laws_FnSummaries_hs : List NF := [⟨[(3, .ptr 64 0), (5, .sc false [.own 65]), (7, .sc false [.sc])], [(65, true, [.sc]), (66, true, [.sc]), (67, true, [.sl [.sc, .sc]]), (68, true, [.sc])], [(64, [.sc, .sc, .own 66, .own 67, .own 68, .sc, .sc, .sc, .sc, .sc])], 69⟩, ⟨[(3, .ptr 64 0), (5, .sc false [.own 65]), (6, .sc false [.own 66]), (7, .sc false [.sc]), (8, .sc false [.sc])], [(65, true, [.sc]), (66, true, [.sc]), (67, true, [.sc]), (68, true, [.sl [.sc, .sc]]), (69, true, [.sc])], [(64, [.sc, .sc, .own 67, .own 68, .own 69, .sc, .sc, .sc, .sc, .sc])], 70⟩, ⟨[(3, .ptr 64 0), (5, .sc false [.own 65]), (6, .sc false [.own 66]), (7, .sc false [.sc]), (8, .sc false [.sc])], [(65, true, [.sc]), (66, true, [.sc]), (67, true, [.sc]), (68, true, [.sl [.sc, .sc]]), (69, true, [.sc])], [(64, [.sc, .sc, .own 67, .own 68, .own 69, .sc, .sc, .sc, .sc, .sc])], 70⟩]

end
end Go.Mw

/- A workshop's summary. -/
namespace Go.Mw
open Go.Lib (decDigits itoa)
section
variable {k : V → Prop} {κ : IntKind} {i : Int}
@[simp] theorem P1_lstDot : P1 (.lst [.sc] false 1) [.int .u8 46] k ↔ k (vL I1 vY [46]) := P1_lstY1 (b := 46)
@[simp] theorem P1_setX {l : List UInt8} : P1 (.set [.sc] 0) [vL I1 vY l, .int κ i, .int .u8 120] k ↔ 0 ≤ i ∧ ∃ x, l[i.toNat]? = some x ∧ k (vL I1 vY (l.set i.toNat 120)) :=
  P1_set (news := [.int .u8 120]) (by simp [aksOk, akOk]) (fun _ => 120) (fun x => rfl)
@[simp] theorem P1_lstS1 {a : List UInt8} : P1 (.lst [.sc] false 1) [.str a] k ↔ k (vL I1 vS [a]) := P1_of (by simp [Prim.run, aksOk, akOk, chunk, V.pack, vL, vS]) k
@[simp] theorem P1_lstS2 {a b : List UInt8} : P1 (.lst [.sc] false 2) [.str a, .str b] k ↔ k (vL I1 vS [a, b]) := P1_of (by simp [Prim.run, aksOk, akOk, chunk, V.pack, vL, vS]) k
@[simp] theorem P1_s2b {y : List UInt8} {b : Nat} : P1 (.s2b b) [.str y] k ↔ (y.length * b ≤ 140737488355328 ∧ y.length ≤ 140737488355328) ∧ k (vL I1 vY y) := P1_opt (by simp [Prim.run]; rfl) k
end
/-! the grid -/
theorem gridTo_len (p : List T2) (y : Int) (n : Nat) : ∀ k, (gridTo p y n k).length = n
  | 0 => by simp [gridTo]
  | k + 1 => by
    have ih := gridTo_len p y n k
    unfold gridTo
    split
    · split
      · rw [List.length_set]; exact ih
      · exact ih
    · exact ih
theorem gridTo_yes {p : List T2} {y : Int} {n k : Nat} (h : k < p.length) (e : p[k].a = y) : gridTo p y n (k + 1) = (gridTo p y n k).set p[k].b.toNat 120 := by
  rw [gridTo, List.getElem?_eq_getElem h]
  simp only [if_pos e]
theorem gridTo_no {p : List T2} {y : Int} {n k : Nat} (h : k < p.length) (e : ¬ p[k].a = y) : gridTo p y n (k + 1) = gridTo p y n k := by
  rw [gridTo, List.getElem?_eq_getElem h]
  simp only [if_neg e]
theorem gridUp_succ (c : Cyl) (k : Nat) : gridUp c (k + 1) = gridUp c k ++ [gridRow c k] := by
  simp [gridUp, List.range_succ]
theorem gridUp_len (c : Cyl) (k : Nat) : (gridUp c k).length = k := by simp [gridUp]
theorem cyl_bounds {c : Cyl} (h : cylOk c = true) : (4 ≤ c.s ∧ c.s ≤ 96) ∧ (1 ≤ c.t ∧ c.t ≤ 100) ∧ c.p.length ≤ 100 ∧ ∀ q ∈ c.p, 0 ≤ q.b ∧ q.b < c.s := by
  simp only [cylOk, within, Bool.and_eq_true, decide_eq_true_eq, List.all_eq_true] at h
  refine ⟨by omega, by omega, by omega, fun q hq => ?_⟩
  have := h.2.1 q hq
  simp only [pinIn, within, Bool.and_eq_true, decide_eq_true_eq] at this
  omega

theorem spec_GridText_ok : ∀ ds outs, F_GridText ds = some outs → shL spec_GridText_L (qRet outs) ds := F_GridText_elim fun c hp => by
  rw [spec_GridText_L_sh]
  simp only [P1_lst0]
  by_cases hc : cylOk c = true
  · obtain ⟨⟨s0, s1⟩, ⟨t0, t1⟩, hp1, hin⟩ := cyl_bounds hc
    have et : ((c.t.toNat : Nat) : Int) = c.t := by omega
    have es : ((c.s.toNat : Nat) : Int) = c.s := by omega
    refine loop_upto c.t.toNat (fun k => [.int .i64 k, vL I1 vS (gridUp c k), .int .i64 c.s, .int .i64 c.t, vL I2 v2 c.p]) (fun i j _ _ e => by simp at e; omega) (fun _ => True) (by simp [gridUp]) trivial ?_
    intro y hy _
    rw [spec_GridText_b0_sh]
    simp only [P1_lss, ifB_bool, decide_eq_true_eq, decide_eq_false_iff_not]
    refine ⟨fun h => ?_, fun h => ?_⟩
    · rw [p_CylinderOk hp]
      simp only [ifB_bool]
      refine ⟨fun _ => ?_, fun h9 => by rw [show cylOk ⟨c.s, c.t, c.p⟩ = cylOk c from rfl, hc] at h9; cases h9⟩
      simp only [P1_lst0]
      refine loop_upto c.s.toNat (fun k => [.int .i64 y, .int .i64 k, vL I1 vS (gridUp c y), vL I1 vY (List.replicate k 46), .int .i64 c.s, .int .i64 c.t, vL I2 v2 c.p]) (fun i j _ _ e => by simp at e; omega) (fun _ => True) (by simp) trivial ?_
      intro k hk _
      rw [spec_GridText_b1_sh]
      simp only [P1_lss, ifB_bool, decide_eq_true_eq, decide_eq_false_iff_not]
      refine ⟨fun h2 => ?_, fun h2 => ?_⟩
      · simp only [P1_lstDot, P1_appY_, P1_add, List.length_replicate, List.length_singleton, qS_normal]
        exact ⟨⟨by omega, by omega⟩, by omega, by rw [wrap_id (by omega) (by omega), List.replicate_succ']; rfl, trivial⟩
      · have ek : k = c.s.toNat := by omega
        subst ek
        simp only [qS_exit, qB_exit, if_true, qS_normal, spec_GridText_r2_sh]
        refine loop_upto c.p.length (fun k => [.int .i64 y, .int .i64 k, vL I1 vS (gridUp c y), vL I1 vY (gridTo c.p y c.s.toNat k), .int .i64 c.s, .int .i64 c.t, vL I2 v2 c.p]) (fun i j _ _ e => by simp at e; omega) (fun _ => True) (by simp [gridTo]) trivial ?_
        intro k hk _
        rw [spec_GridText_b3_sh]
        simp only [P1_len, P1_lss, ifB_bool, decide_eq_true_eq, decide_eq_false_iff_not]
        refine ⟨fun h3 => ?_, fun h3 => ?_⟩
        · have h4 : k < c.p.length := by omega
          have hb := hin c.p[k] (List.getElem_mem h4)
          have hl : c.p[k].b.toNat < (gridTo c.p y c.s.toNat k).length := by rw [gridTo_len]; omega
          simp only [P2_idxI, Int.toNat_natCast, List.getElem?_eq_getElem h4, Option.some.injEq, exists_eq_left', P1_eql, ifB_bool, beq_iff_eq, beq_eq_false_iff_ne, ne_eq]
          refine ⟨by omega, fun e => ?_, fun e => ?_⟩
          · simp only [P1_idxY, P1_setX, List.getElem?_eq_getElem hl, Option.some.injEq, exists_eq_left', P1_add, qS_normal]
            exact ⟨by omega, hb.1, hb.1, h4, by rw [gridTo_yes h4 e, wrap_id (by omega) (by omega)]; rfl, trivial⟩
          · simp only [P1_add, qS_normal]
            exact ⟨h4, by rw [gridTo_no h4 e, wrap_id (by omega) (by omega)]; rfl, trivial⟩
        · have e4 : k = c.p.length := by omega
          subst e4
          have hl := gridUp_len c y
          simp only [qS_exit, qB_exit, if_true, qS_normal, spec_GridText_r4_sh, P1_b2s, P1_lstS1, P1_appS_, hl, List.length_singleton, spec_GridText_r5_sh, qB_normal, spec_GridText_r6_sh, spec_GridText_r7_sh, P1_add]
          exact ⟨⟨by omega, by omega⟩, by omega, by rw [gridUp_succ, wrap_id (by omega) (by omega)]; rfl, trivial⟩
    · have ey : y = c.t.toNat := by omega
      subst ey
      simp only [qS_exit, qB_exit, if_true, qS_normal, spec_GridText_r8_sh, qRet_ret]
      simp [gridText, hc]
  · have hc : cylOk c = false := by simpa using hc
    refine loop_upto 0 (fun _ => [.int .i64 0, .list [.sc] [], .int .i64 c.s, .int .i64 c.t, vL I2 v2 c.p]) (fun i j _ _ _ => by omega) (fun _ => True) rfl trivial ?_
    intro k _ _
    rw [spec_GridText_b0_sh]
    simp only [P1_lss, ifB_bool, p_CylinderOk hp]
    have hc' : cylOk ⟨c.s, c.t, c.p⟩ = false := hc
    simp [hc', spec_GridText_r8_sh, gridText]
theorem impl_GridText_ok : ∀ ds outs, F_GridText ds = some outs → shL impl_GridText_L (qRet outs) ds := F_GridText_elim fun c hp => by
  rw [impl_GridText_L_sh, p_CylinderOk hp]
  have e0 : cylOk ⟨c.s, c.t, c.p⟩ = cylOk c := rfl
  simp only [P1_not, ifB_bool, Bool.not_eq_true', Bool.not_eq_false', qRet_ret, e0]
  refine ⟨fun hc => by simp [gridText, hc], fun hc => ?_⟩
  obtain ⟨⟨s0, s1⟩, ⟨t0, t1⟩, hp1, hin⟩ := cyl_bounds hc
  have et : ((c.t.toNat : Nat) : Int) = c.t := by omega
  have es : ((c.s.toNat : Nat) : Int) = c.s := by omega
  have hr : Go.Lib.repeatL [46] c.s.toNat = List.replicate c.s.toNat 46 := by
    generalize c.s.toNat = n
    induction n with
    | zero => rfl
    | succ n ih => simp [Go.Lib.repeatL, List.replicate_succ] at ih ⊢ <;> exact ih
  simp only [P1_lst0]
  refine loop_upto c.t.toNat (fun k => [.int .i64 k, vL I1 vS (gridUp c k), .int .i64 c.s, .int .i64 c.t, vL I2 v2 c.p]) (fun i j _ _ e => by simp at e; omega) (fun _ => True) (by simp [gridUp]) trivial ?_
  intro y hy _
  rw [impl_GridText_b0_sh]
  simp only [P1_lss, ifB_bool, decide_eq_true_eq, decide_eq_false_iff_not]
  refine ⟨fun h => ?_, fun h => ?_⟩
  · rw [p_strings_Repeat ⟨by omega, by omega, by simp; omega⟩, hr]
    simp only [P1_s2b, P1_len, List.length_replicate]
    refine ⟨⟨by omega, by omega⟩, ?_⟩
    refine loop_upto c.p.length (fun k => [.int .i64 y, vL I2 v2 c.p, .int .i64 c.p.length, .int .i64 k, vL I1 vS (gridUp c y), vL I1 vY (gridTo c.p y c.s.toNat k), .int .i64 c.s, .int .i64 c.t, vL I2 v2 c.p]) (fun i j _ _ e => by simp at e; omega) (fun _ => True) (by simp [gridTo]) trivial ?_
    intro k hk _
    rw [impl_GridText_b1_sh]
    simp only [P1_lss, ifB_bool, decide_eq_true_eq, decide_eq_false_iff_not]
    refine ⟨fun h3 => ?_, fun h3 => ?_⟩
    · have h4 : k < c.p.length := by omega
      have hb := hin c.p[k] (List.getElem_mem h4)
      have hl : c.p[k].b.toNat < (gridTo c.p y c.s.toNat k).length := by rw [gridTo_len]; omega
      simp only [P2_idxI, Int.toNat_natCast, List.getElem?_eq_getElem h4, Option.some.injEq, exists_eq_left', P1_eql, ifB_bool, beq_iff_eq, beq_eq_false_iff_ne, ne_eq]
      refine ⟨by omega, fun e => ?_, fun e => ?_⟩
      · simp only [P1_idxY, P1_setX, List.getElem?_eq_getElem hl, Option.some.injEq, exists_eq_left', P1_add, qS_normal]
        exact ⟨hb.1, hb.1, h4, by rw [gridTo_yes h4 e, wrap_id (by omega) (by omega)]; rfl, trivial⟩
      · simp only [P1_add, qS_normal]
        exact ⟨h4, by rw [gridTo_no h4 e, wrap_id (by omega) (by omega)]; rfl, trivial⟩
    · have e4 : k = c.p.length := by omega
      subst e4
      have hl := gridUp_len c y
      simp only [qS_exit, qB_exit, if_true, qS_normal, impl_GridText_r2_sh, P1_b2s, P1_lstS1, P1_appS_, hl, List.length_singleton, impl_GridText_r3_sh, qB_normal, impl_GridText_r4_sh, impl_GridText_r5_sh, P1_add]
      exact ⟨⟨by omega, by omega⟩, by omega, by rw [gridUp_succ, wrap_id (by omega) (by omega)]; rfl, trivial⟩
  · have ey : y = c.t.toNat := by omega
    subst ey
    simp only [qS_exit, qB_exit, if_true, qS_normal, impl_GridText_r6_sh, qRet_ret]
    simp [gridText, hc]
end Go.Mw

/- A workshop's summary; marks on texts. -/
namespace Go.Mw
open Go.Lib (decDigits itoa)
theorem shop_bounds {w : Shop} (h : shopOk w = true) : cylOk ⟨w.s, w.t, w.p⟩ = true ∧ (0 ≤ w.u ∧ w.u ≤ 50) ∧ (0 ≤ w.y ∧ w.y ≤ 1000000) ∧ (0 ≤ w.d ∧ w.d ≤ 1000000) := by
  simp only [shopOk, springOk, within, Bool.and_eq_true, decide_eq_true_eq] at h
  refine ⟨?_, by omega, by omega, by omega⟩
  have h1 := h.1
  simp only [benchOk, Bool.and_eq_true] at h1
  exact h1.1
theorem gridText_len (c : Cyl) : (gridText c).length ≤ 100 := by
  unfold gridText
  split
  · rename_i h
    have := (cyl_bounds h).2.1
    rw [gridUp_len]; omega
  · simp
theorem itoa_len2 {n : Int} (h0 : 0 ≤ n) (h1 : n ≤ 1000000) : (itoa n).length ≤ 21 := Go.Lib.itoa_length_le n (by omega) (by omega)
theorem fmtShop_len (w : Shop) : (fmtShop w).length ≤ 103 := by
  unfold fmtShop
  split
  · have := gridText_len ⟨w.s, w.t, w.p⟩
    simp only [List.length_append, List.length_cons, List.length_nil]; omega
  · simp
theorem spec_FormatWorkshop_ok : ∀ ds outs, F_FormatWorkshop ds = some outs → shL spec_FormatWorkshop_L (qRet outs) ds := F_FormatWorkshop_elim fun w hp => by
  rw [spec_FormatWorkshop_L_sh, p_WorkshopOk (x_p := w.p) (x_o := w.o) (x_c := w.c) hp]
  have e0 : shopOk ⟨w.s, w.t, w.p, w.o, w.c, w.u, w.m, w.f, w.y, w.d⟩ = shopOk w := rfl
  simp only [P1_not, ifB_bool, Bool.not_eq_true', Bool.not_eq_false', e0]
  refine ⟨fun h => by simp [fmtShop, h], fun h => ?_⟩
  obtain ⟨-, hu, hy, hd⟩ := shop_bounds h
  have lu := itoa_len2 hu.1 (by omega)
  have ly := itoa_len2 hy.1 hy.2
  have ld := itoa_len2 hd.1 hd.2
  have lg := gridText_len ⟨w.s, w.t, w.p⟩
  rw [p_GridText (x_p := w.p) hp.1, p_FormatInt (by omega)]
  simp only [P1_addS, List.length_cons, List.length_nil]
  refine ⟨by omega, ?_⟩
  rw [p_FormatInt (by omega)]
  simp only [P1_addS, List.length_cons, List.length_nil]
  refine ⟨by omega, ?_⟩
  rw [p_FormatInt (by omega)]
  simp only [P1_addS, List.length_cons, List.length_nil, P1_lstS3, P1_appS_]
  refine ⟨by omega, ⟨by omega, by omega⟩, ?_⟩
  simp [fmtShop, h, sumTurns, sumMoney, sumPlayed]
theorem impl_FormatWorkshop_ok : ∀ ds outs, F_FormatWorkshop ds = some outs → shL impl_FormatWorkshop_L (qRet outs) ds := F_FormatWorkshop_elim fun w hp => by
  rw [impl_FormatWorkshop_L_sh, p_WorkshopOk (x_p := w.p) (x_o := w.o) (x_c := w.c) hp]
  have e0 : shopOk ⟨w.s, w.t, w.p, w.o, w.c, w.u, w.m, w.f, w.y, w.d⟩ = shopOk w := rfl
  simp only [P1_not, ifB_bool, Bool.not_eq_true', Bool.not_eq_false', e0]
  refine ⟨fun h => by simp [fmtShop, h], fun h => ?_⟩
  obtain ⟨-, hu, hy, hd⟩ := shop_bounds h
  have lu := itoa_len2 hu.1 (by omega)
  have ly := itoa_len2 hy.1 hy.2
  have ld := itoa_len2 hd.1 hd.2
  have lg := gridText_len ⟨w.s, w.t, w.p⟩
  rw [p_GridText (x_p := w.p) hp.1, p_FormatInt (by omega)]
  simp only [P1_addS, List.length_cons, List.length_nil]
  refine ⟨by omega, ?_⟩
  rw [p_FormatInt (by omega)]
  simp only [P1_addS, List.length_cons, List.length_nil, P1_lstS2, P1_appS_]
  refine ⟨by omega, ⟨by omega, by omega⟩, ?_⟩
  rw [p_FormatInt (by omega)]
  simp only [P1_addS, List.length_cons, List.length_nil, P1_lstS1, P1_appS_, List.length_append]
  refine ⟨by omega, ⟨by omega, by omega⟩, ?_⟩
  simp [fmtShop, h, sumTurns, sumMoney, sumPlayed]

/-! marks on texts -/
theorem laws_eqStringS_ok : ∀ ds outs, F_eqStringS ds = some outs → shL laws_eqStringS_L (qRet outs) ds := F_eqStringS_elim fun l m hp => by
  rw [laws_eqStringS_L_sh]
  simp
  refine ⟨fun h => ?_, fun hl => ?_⟩
  · rintro rfl; omega
  refine loop_upto l.length (fun k => [vL I1 vS l, vL I1 vS m, .int .i64 k]) (by intro i j _ _ h; simp at h; omega) (fun k => l.take k = m.take k) (by simp) (by simp) ?_
  intro k hk hP
  rw [laws_eqStringS_b0_sh]
  simp
  refine ⟨fun h => ?_, fun h => ?_⟩
  · have h2 : k < m.length := by omega
    simp (disch := omega) [h, wrap_id]
    refine ⟨fun hne he => ?_, fun h3 => ?_⟩
    · subst he; exact hne rfl
    · rw [take_succ_get h, take_succ_get h2, hP, h3]
  · obtain rfl : k = l.length := by omega
    rw [List.take_length, List.take_of_length_le (by omega)] at hP
    simp [laws_eqStringS_r1_sh, hP]
theorem laws_markText_ok : ∀ ds outs, F_markText ds = some outs → shL laws_markText_L (qRet outs) ds := F_markText_elim fun n hp => by
  rw [laws_markText_L_sh]
  simp only [P1_leq, ifB_bool, decide_eq_true_eq, decide_eq_false_iff_not, qRet_ret]
  refine ⟨fun h => by simp [markT, h], fun hn => ?_⟩
  have hL := digs_len n.toNat (by omega)
  refine loop_st (σ := Nat × List UInt8) (fun s => [.int .i64 s.1, .str s.2]) (fun a b h => by
      obtain ⟨h1, h2⟩ : (a.1 : Int) = b.1 ∧ a.2 = b.2 := by simpa using h
      exact Prod.ext (by omega) h2)
    (fun s => s.1 ≤ 9223372036854775807 ∧ digs s.1 ++ s.2 = digs n.toNat) (fun s => s.1) (n.toNat, []) (by simp; omega) ⟨by omega, by simp⟩ ?_
  rintro ⟨m, s⟩ ⟨hm, hs⟩
  simp only at hm hs ⊢
  have hsl : s.length ≤ 20 := by have := congrArg List.length hs; rw [List.length_append] at this; omega
  rw [laws_markText_b0_sh]
  simp only [P1_gtr, ifB_bool, decide_eq_true_eq, decide_eq_false_iff_not]
  refine ⟨fun h => ?_, fun h => ?_⟩
  · have hu : m ≠ 0 := by omega
    have hstep := digs_step hu
    have hinv : digs (m / 10) ++ (UInt8.ofNat (48 + m % 10) :: s) = digs n.toNat := by
      rw [← hs, hstep, List.append_assoc]; rfl
    have e1 : (m : Int).tmod 10 = ((m % 10 : Nat) : Int) := Int.tmod_eq_emod_of_nonneg (by omega)
    have e2 : (m : Int).tdiv 10 = ((m / 10 : Nat) : Int) := Int.tdiv_eq_ediv_of_nonneg (by omega)
    have w1 : IntKind.i64.wrap (48 + ((m % 10 : Nat) : Int)) = ((48 + m % 10 : Nat) : Int) := by rw [wrap_id (by omega) (by omega)]; omega
    have w2 : IntKind.u8.wrap ((48 + m % 10 : Nat) : Int) = ((UInt8.ofNat (48 + m % 10)).toNat : Int) := by rw [wrap_u8 (by omega) (by omega), dig_nat (by omega)]
    have w3 : IntKind.i64.wrap ((m / 10 : Nat) : Int) = ((m / 10 : Nat) : Int) := wrap_id (by omega) (by omega)
    simp only [P1_rem, e1, P1_add, w1, P1_conv, w2, P1_lstY1, P1_b2s, P1_addS, P1_quo, e2, w3, List.length_singleton, qS_normal]
    exact ⟨by decide, by omega, by decide, (m / 10, UInt8.ofNat (48 + m % 10) :: s), rfl, ⟨by omega, hinv⟩, by simp only; omega⟩
  · obtain rfl : m = 0 := by omega
    have hs' : s = decDigits n.toNat := by
      rw [← List.nil_append s]
      have : digs n.toNat = decDigits n.toNat := by unfold digs; rw [if_neg (by omega)]
      rw [← this, ← hs]; rfl
    simp only [qS_exit, qB_exit, if_true, qS_normal, laws_markText_r1_sh, P1_addS, List.length_singleton, qRet_ret]
    refine ⟨by omega, ?_⟩
    simp [markT, hn, hs']
@[simp] theorem markLS_len {n : Nat} {k : Int} : (markLS n k).length = n := by simp [markLS]
theorem laws_markStringS_ok : ∀ ds outs, F_markStringS ds = some outs → shL laws_markStringS_L (qRet outs) ds := F_markStringS_elim fun l k hp => by
  rw [laws_markStringS_L_sh]
  refine loop_upto l.length (fun i => [.int .i64 (k + 1 * i), .int .i64 i, vL I1 vS ((markLS l.length k).take i ++ l.drop i)]) (by intro i j _ _ h; simp at h; omega) (fun _ => True) (by simp) trivial ?_
  intro i hi _
  have hml : (markLS l.length k).length = l.length := markLS_len
  rw [laws_markStringS_b0_sh]
  simp
  have e0 : ((min i l.length : Nat) : Int) + ((l.length - i : Nat) : Int) = l.length := by omega
  simp only [e0]
  refine ⟨fun h => ?_, fun h => ?_⟩
  · replace h : i < l.length := by omega
    rw [p_markText (by omega), mark_get hml h]
    have hs := mark_set hml h
    have hg : (markLS l.length k)[i]'(by omega) = markT (k + (i : Int)) := by simp [markLS]
    rw [hg] at hs
    simp (disch := omega) [h, wrap_id, hs]
    exact ⟨⟨_, List.getElem?_eq_getElem (by simp; omega)⟩, by omega⟩
  · obtain rfl : i = l.length := by omega
    have e1 : List.take l.length (markLS l.length k) = markLS l.length k := List.take_of_length_le (by simp)
    simp [laws_markStringS_r1_sh, e1]
theorem laws_heldStringS_ok : ∀ ds outs, F_heldStringS ds = some outs → shL laws_heldStringS_L (qRet outs) ds := F_heldStringS_elim fun l k hp => by
  rw [laws_heldStringS_L_sh]
  refine loop_upto l.length (fun i => [vL I1 vS l, .int .i64 (k + 1 * i), .int .i64 i]) (by intro i j _ _ h; simp at h; omega) (fun i => ∀ j (hj : j < l.length), j < i → l[j] = (markLS l.length k)[j]'(by simp; omega)) (by simp) (by simp) ?_
  intro i hi hP
  rw [laws_heldStringS_b0_sh]
  simp
  refine ⟨fun h => ?_, fun h => ?_⟩
  · have hg : (markLS l.length k)[i]'(by simp; omega) = markT (k + (i : Int)) := by simp [markLS]
    have hno : l[i] ≠ (markLS l.length k)[i]'(by simp; omega) → l ≠ markLS l.length k := by
      intro hne he
      exact hne (by simp only [← he])
    have hstep : l[i] = (markLS l.length k)[i]'(by simp; omega) → ∀ j (hj : j < l.length), j < i + 1 → l[j] = (markLS l.length k)[j]'(by simp; omega) := by
      intro he j hj hji
      by_cases hjj : j = i
      · subst hjj; exact he
      · exact hP j hj (by omega)
    rw [hg] at hno hstep
    have hT := fun (nr_ : Nat) kk_ => p_markText (n := k + (i : Int)) (nr_ := nr_) (kk_ := kk_) (by omega)
    simp (disch := omega) only [hT, h, List.getElem?_eq_getElem, Option.some.injEq, exists_eq_left', wrap_id, true_and, P1_neqS, ifB_bool]
    simp
    grind
  · obtain rfl : i = l.length := by omega
    have he : l = markLS l.length k := List.ext_getElem (by simp) fun j h1 h2 => hP j h1 h1
    simp [laws_heldStringS_r1_sh]
    intro h; exact absurd he h
end Go.Mw

/- The law on a workshop's summary. -/
namespace Go.Mw
theorem laws_FnExactFormatWorkshop_ok : ∀ ds outs, F_FnExactFormatWorkshop ds = some outs → shL laws_FnExactFormatWorkshop_L (qRet outs) ds := F_FnExactFormatWorkshop_elim fun x hp => by
  rw [laws_FnExactFormatWorkshop_L_sh]
  have hw : x.o.length ≤ 9223372036854775807 ∧ ∀ y ∈ x.o, y.length ≤ 9223372036854775807 := ⟨hp.2.2.2.1.1, fun y hy => (hp.2.2.2.1.2 y hy).1⟩
  rw [p_szWorkshop (x_p := x.p) (x_o := x.o) (x_c := x.c) (n := 1048576) ⟨hp.2.2.1.1, hw.1, hw.2, hp.2.2.2.2.1.1, by omega, by omega⟩]
  by_cases h : (x.p.length : Int) + tot2 x.o + x.c.length ≤ 1048576
  · have hx := sSmall_of_tot h
    have h3 : ¬ (1048576 - (x.p.length : Int) - tot2 x.o - x.c.length < 0) := by omega
    have hf : x.p.length ≤ 1048576 ∧ fitLL x.o ∧ x.c.length ≤ 1048576 := hx.1
    have lf := fmtShop_len x
    rw [if_pos h]
    simp only [P1_lss, ifB_bool, decide_eq_true_eq, decide_eq_false_iff_not, laws_FnExactFormatWorkshop_r0_sh, p_toWorkshop (x_p := x.p) (x_o := x.o) (x_c := x.c) hf, p_FormatWorkshop (x_p := x.p) (x_o := x.o) (x_c := x.c) hf]
    refine ⟨fun h9 => absurd h9 h3, fun _ => ?_⟩
    obtain ⟨⟨x1, x2, x3⟩, x4⟩ := hx
    clear h3 h hw hp
    change (fmtShop ⟨x.s, x.t, x.p, x.o, x.c, x.u, x.m, x.f, x.y, x.d⟩).length ≤ 103 at lf
    generalize fmtShop ⟨x.s, x.t, x.p, x.o, x.c, x.u, x.m, x.f, x.y, x.d⟩ = R at *
    have r1 : R.length ≤ 1048576 := by omega
    have r4 : R.length ≤ 4194304 := by omega
    have x6 : (0 : Int) ≤ 1 + 2 * (x.p.length : Int) + 2 * sum2 x.o + x.c.length := by omega
    have r6 : ¬ (1 + (R.length : Int) < 0) := by omega
    have r7 : (0 : Int) ≤ 1 + (R.length : Int) := by omega
    simp [p_eqWorkshop, x1, x2, x3, p_markWorkshop, x4, x6, p_eqStringS, r1, p_markStringS, r4, p_heldStringS, r7]
  · rw [if_neg h]
    simp
end Go.Mw

/- The law on drawn workshops' summaries. -/
namespace Go.Mw
theorem laws_FnSummaries_ok : ∀ ds outs, F_FnSummaries ds = some outs → shL laws_FnSummaries_L (qRet outs) ds := F_FnSummaries_elim fun l hp => by
  rw [laws_FnSummaries_L_sh, p_big hp]
  simp only [ifB_bool, decide_eq_true_eq, decide_eq_false_iff_not]
  refine ⟨fun _ => by simp, fun hb => ?_⟩
  have hl : l.length ≤ 1048576 := by omega
  have hW := (drawW_small l).1
  have hok := drawW_ok l
  rw [p_DrawActs hl]
  generalize drawW l = w at *
  obtain ⟨hcy, hu, hy, hd⟩ := shop_bounds hok
  obtain ⟨-, ⟨t0, t1⟩, -, -⟩ := cyl_bounds hcy
  have lu := itoa_len2 hu.1 (by omega)
  have ly := itoa_len2 hy.1 hy.2
  have ld := itoa_len2 hd.1 hd.2
  rw [p_FormatWorkshop (x_p := w.p) (x_o := w.o) (x_c := w.c) hW, p_GridText (x_p := w.p) hW.1]
  have e1 : fmtShop ⟨w.s, w.t, w.p, w.o, w.c, w.u, w.m, w.f, w.y, w.d⟩ = gridText ⟨w.s, w.t, w.p⟩ ++ [sumTurns w, sumMoney w, sumPlayed w] := by
    show fmtShop w = _
    simp [fmtShop, hok]
  have e2 : ((gridText ⟨w.s, w.t, w.p⟩).length : Int) = w.t := by
    simp only [gridText, hcy, if_true, gridUp_len]
    simp only at t0 t1 ⊢
    omega
  rw [e1]
  generalize gridText ⟨w.s, w.t, w.p⟩ = g at *
  have hg : g.length ≤ 100 := by simp only at t1; omega
  have w3 : IntKind.i64.wrap ((g.length : Int) + 3) = ((g ++ [sumTurns w, sumMoney w, sumPlayed w]).length : Int) := by
    rw [wrap_id (by omega) (by omega)]
    simp
  simp only [P1_len, P1_neq, e2, bne_self_eq_false, ifB_bool, Bool.false_eq_true, false_implies, true_and, true_implies, P1_add]
  rw [← e2, w3]
  simp only [bne_self_eq_false, Bool.false_eq_true, false_implies, true_and, true_implies]
  generalize hG : g ++ [sumTurns w, sumMoney w, sumPlayed w] = G at *
  refine loop_upto g.length (fun k => [.int .i64 g.length, .int .i64 k, vL I1 vS G, vL I1 vS g, vL I2 v2 w.p, vL IL2 vLL2 w.o, vL I1 v1 w.c, .int .i64 w.s, .int .i64 w.t, .int .i64 w.u, .int .i64 w.m, .int .i64 w.f, .int .i64 w.y, .int .i64 w.d]) (fun i j _ _ e => by simp at e; omega) (fun _ => True) (by simp [e2]) trivial ?_
  intro k hk _
  rw [laws_FnSummaries_b0_sh]
  simp only [P1_lss, ifB_bool, decide_eq_true_eq, decide_eq_false_iff_not]
  refine ⟨fun h => ?_, fun h => ?_⟩
  · have h2 : k < g.length := by omega
    have h3 : G[k]? = some g[k] := by rw [← hG, List.getElem?_append_left h2, List.getElem?_eq_getElem h2]
    simp only [P1_idxS, Int.toNat_natCast, h3, List.getElem?_eq_getElem h2, Option.some.injEq, exists_eq_left', P1_neqS, ifB_bool, P1_add, qS_normal]
    refine ⟨by omega, by omega, fun h4 => by simp at h4, fun _ => ⟨h2, by rw [wrap_id (by omega) (by omega)]; rfl, trivial⟩⟩
  · have e : k = g.length := by omega
    subst e
    have i0 : G[g.length]? = some (sumTurns w) := by rw [← hG, List.getElem?_append_right (Nat.le_refl _)]; simp
    have i1 : G[g.length + 1]? = some (sumMoney w) := by rw [← hG, List.getElem?_append_right (by omega)]; simp
    have i2 : G[g.length + 2]? = some (sumPlayed w) := by rw [← hG, List.getElem?_append_right (by omega)]; simp
    have w1 : IntKind.i64.wrap ((g.length : Int) + 1) = ((g.length + 1 : Nat) : Int) := by rw [wrap_id (by omega) (by omega)]; omega
    have w2 : IntKind.i64.wrap ((g.length : Int) + 2) = ((g.length + 2 : Nat) : Int) := by rw [wrap_id (by omega) (by omega)]; omega
    simp only [qS_exit, qB_exit, if_true, qS_normal, laws_FnSummaries_r1_sh, P1_idxS, Int.toNat_natCast, i0, Option.some.injEq, exists_eq_left']
    refine ⟨by omega, ?_⟩
    rw [p_FormatInt (by omega)]
    simp only [P1_addS, List.length_cons, List.length_nil, P1_eqlS, ifB_bool]
    refine ⟨by omega, fun _ => ?_, fun h4 => by simp [sumTurns] at h4⟩
    simp only [P1_add, w1, P1_idxS, Int.toNat_natCast, i1, Option.some.injEq, exists_eq_left']
    refine ⟨by omega, ?_⟩
    rw [p_FormatInt (by omega)]
    simp only [P1_addS, List.length_cons, List.length_nil, P1_eqlS, ifB_bool]
    refine ⟨by omega, fun _ => ?_, fun h4 => by simp [sumMoney] at h4⟩
    simp only [w2, Int.toNat_natCast, i2, Option.some.injEq, exists_eq_left']
    refine ⟨by omega, ?_⟩
    rw [p_FormatInt (by omega)]
    simp only [P1_addS, List.length_cons, List.length_nil, P1_eqlS]
    refine ⟨by omega, ?_⟩
    simp [sumPlayed]
end Go.Mw

/- What functions compute, in plain terms: acts read from texts. -/
namespace Go.Mw
open Go.Lib (itoa)
end Go.Mw

/- Functions of the program, as small pure programs (printed by a program of ours). -/
namespace Go.Mw
noncomputable section
end
end Go.Mw

/- Numbers and fields read from texts. -/
namespace Go.Mw
open Go.Lib (decDigits itoa)
section
variable {k : V → Prop} {κ κ' : IntKind} {i j : Int} {l : List UInt8}
@[simp] theorem P1_slen : P1 .slen [.str l] k ↔ k (.int .i64 l.length) := P1_of (by simp [Prim.run]) k
@[simp] theorem P1_sidx : P1 .sidx [.str l, .int κ i] k ↔ 0 ≤ i ∧ ∃ b, l[i.toNat]? = some b ∧ k (.int .u8 b.toNat) := by
  by_cases h : 0 ≤ i
  · cases hb : l[i.toNat]? with
    | some b => rw [P1_of (v := .int .u8 b.toNat) (by simp [Prim.run, h, hb])]; simp [h]
    | none =>
      constructor
      · rintro ⟨a, e, _⟩
        simp [Prim.run, h, hb] at e
      · rintro ⟨_, b, e, _⟩; cases e
  · constructor
    · rintro ⟨a, e, _⟩
      simp [Prim.run, h] at e
    · intro ⟨h1, _⟩; exact absurd h1 h
@[simp] theorem P1_ssub2 : P1 .ssub [.str l, .int κ i, .int κ' j] k ↔ (0 ≤ i ∧ i ≤ j ∧ j ≤ l.length) ∧ k (.str ((l.take j.toNat).drop i.toNat)) := P1_opt (by simp [Prim.run, subB]) k
@[simp] theorem P1_ssub1 : P1 .ssub [.str l, .int κ i] k ↔ (0 ≤ i ∧ i ≤ l.length) ∧ k (.str (l.drop i.toNat)) := P1_opt (by simp [Prim.run, subB]) k
@[simp] theorem P1_notNil {b : Bool} : P1 (.isNil true) [.err b] k ↔ k (.bool b) := P1_of (by simp [Prim.run]) k
end
/-! numbers -/
/-! fields -/
end Go.Mw

/- Fields of texts. -/
namespace Go.Mw
open Go.Lib (decDigits itoa)
end Go.Mw

/- Which texts are an act's, in plain terms. -/
namespace Go.Mw
open Go.Lib (decDigits itoa)
/-! joined texts -/
/-! words and numerals -/
/-! acts' texts -/
end Go.Mw

/- Acts read from texts. -/
namespace Go.Mw
open Go.Lib (decDigits itoa)
end Go.Mw

/- The law on drawn acts' texts. -/
namespace Go.Mw
open Go.Lib (decDigits itoa)
end Go.Mw

