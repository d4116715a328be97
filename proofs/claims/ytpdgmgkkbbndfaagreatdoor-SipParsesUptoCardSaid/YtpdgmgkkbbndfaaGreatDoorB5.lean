/- Part 6 of the proof: texts that the last one builds upon. Conditions: as each theorem says. -/
import Derived.Test.YtpdgmgkkbbndfaaGreatDoorB4
set_option linter.unusedSectionVars false
set_option linter.unusedSimpArgs false
set_option linter.unusedVariables false
set_option maxRecDepth 100000
set_option maxHeartbeats 1600000
namespace Go.Proofs.YtpdgmgkkbbndfaaGreatDoor
open Go Go.Proofs Go.Proofs.YtpdgmgkkbbndfaaGreatDoor.SX
def b35zI (brows : List (List AV)) (start : List UInt8) (o n c : Nat) : SL := ⟨[(2, .ptr ⟨1, 0, 0⟩), (5, .sl ⟨0, o, 0⟩ n (.known c)), (6, .lit true), (7, .ptr ⟨2, 0, 0⟩)], [(0, .cells false [.int .u8] brows), (1, .cells true [.str, .any, .any] [[.str [], .nilSl, .nilSl]]), (2, .cells true [.str, .any, .any] [[.str start, .nilSl, .nilSl]])], 3⟩
def b35I (brows : List (List AV)) (start : List UInt8) (o n c : Nat) (rows : List (List AV)) (m : Nat) : SL := ⟨[(2, .ptr ⟨1, 0, 0⟩), (5, .sl ⟨0, o, 0⟩ n (.known c)), (6, .lit true), (7, .ptr ⟨2, 0, 0⟩)], [(0, .cells false [.int .u8] brows), (1, .cells true [.str, .any, .any] [[.str [], .nilSl, .nilSl]]), (2, .cells true [.str, .any, .any] [[.str start, .sl ⟨3, 0, 0⟩ m .open_, .nilSl]]), (3, .cells true [.str, .str] rows)], 4⟩
def a353I (o2 n2 c2 : Nat) (l : List UInt8) (k : Int) : SL := ⟨[(2, .ptr ⟨1, 0, 0⟩), (5, .sl ⟨0, o2, 0⟩ n2 (.known c2)), (6, .lit true), (7, .ptr ⟨2, 0, 0⟩), (8, .str l), (9, .int .i64 k)], [], 3⟩
def a354I (o2 n2 c2 : Nat) (l : List UInt8) (k : Int) : SL := ⟨[(2, .ptr ⟨1, 0, 0⟩), (5, .sl ⟨0, o2, 0⟩ n2 (.known c2)), (6, .lit true), (7, .ptr ⟨2, 0, 0⟩), (8, .str l), (9, .int .i64 k)], [], 4⟩
def re35 : SL := ⟨[(2, .ptr ⟨1, 0, 0⟩)], [(1, .cells true [.str, .any, .any] [[.str [], .nilSl, .nilSl]])], 3⟩
def rb35 (start : List UInt8) (rows : List (List AV)) (m : Nat) (bb : List (List AV)) (n2 : Nat) : SL := ⟨[(2, .ptr ⟨1, 0, 0⟩), (3, .int .i64 0)], [(1, .cells true [.str, .any, .any] [[.str start, .sl ⟨3, 0, 0⟩ m .open_, .sl ⟨4, 0, 0⟩ n2 .open_]]), (3, .cells true [.str, .str] rows), (4, .cells true [.int .u8] bb)], 5⟩
def r035 (start : List UInt8) (rows : List (List AV)) (m : Nat) : SL := ⟨[(2, .ptr ⟨1, 0, 0⟩), (3, .int .i64 0)], [(1, .cells true [.str, .any, .any] [[.str start, .sl ⟨3, 0, 0⟩ m .open_, .nilSl]]), (3, .cells true [.str, .str] rows)], 4⟩
def b35eI : SL := ⟨[(2, .ptr ⟨1, 0, 0⟩), (6, .lit false)], [(1, .cells true [.str, .any, .any] [[.str [], .nilSl, .nilSl]])], 3⟩
def b71nI : SL := ⟨[(0, .nilSl), (5, .int .i64 0)], [], 1⟩
def e71n : SL := ⟨[], [], 1⟩
def b35mI : SL := ⟨[(2, .ptr ⟨0, 0, 0⟩), (6, .lit false)], [(0, .cells true [.str, .any, .any] [[.str [], .nilSl, .nilSl]])], 2⟩
theorem a353_TT (o2 : Nat) (n2 : Nat) (c2 : Nat) (l : List UInt8) (k : Int) :
 Path (run Tryz.prog P15 100 (lbody Tryz.prog 35 1) (SL.mp 81 ([.as_ true, .as_ true]) (a353I o2 n2 c2 l k))) 3 [] (a353I (o2) (n2) (c2) (l) (IntKind.wrap IntKind.i64 (k + (1 : Int)))) (Ex.normal)
 (((True ∧ (decide (IntKind.wrap IntKind.i64 (k + (1 : Int)) < (↑(List.length l) : Int)) = true)) ∧ (decide ((0 : Int) ≤ k ∧ k < (↑(List.length l) : Int)) = true)) ∧ ((!(↑(UInt8.toNat (List.getD l (Int.toNat k) (0 : UInt8))) : Int) == (58 : Int)) = true)) := by unfold Path; kernel_rfl
theorem a353_TFT (o2 : Nat) (n2 : Nat) (c2 : Nat) (l : List UInt8) (k : Int) :
 Path (run Tryz.prog P15 100 (lbody Tryz.prog 35 1) (SL.mp 81 ([.as_ true, .as_ false, .as_ true]) (a353I o2 n2 c2 l k))) 3 [] (a353I (o2) (n2) (c2) (l) (IntKind.wrap IntKind.i64 (k + (1 : Int)))) (Ex.normal)
 (((((True ∧ (decide (IntKind.wrap IntKind.i64 (k + (1 : Int)) < (↑(List.length l) : Int)) = true)) ∧ (decide ((0 : Int) ≤ k ∧ k < (↑(List.length l) : Int)) = true)) ∧ ((!(↑(UInt8.toNat (List.getD l (Int.toNat k) (0 : UInt8))) : Int) == (58 : Int)) = false)) ∧ (decide ((0 : Int) ≤ IntKind.wrap IntKind.i64 (k + (1 : Int)) ∧ IntKind.wrap IntKind.i64 (k + (1 : Int)) < (↑(List.length l) : Int)) = true)) ∧ ((!(↑(UInt8.toNat (List.getD l (Int.toNat (IntKind.wrap IntKind.i64 (k + (1 : Int)))) (0 : UInt8))) : Int) == (32 : Int)) = true)) := by unfold Path; kernel_rfl
theorem a353_TFF (o2 : Nat) (n2 : Nat) (c2 : Nat) (l : List UInt8) (k : Int) :
 Path (run Tryz.prog P15 100 (lbody Tryz.prog 35 1) (SL.mp 81 ([.as_ true, .as_ false, .as_ false]) (a353I o2 n2 c2 l k))) 3 [] (a353I (o2) (n2) (c2) (l) (k)) (Ex.exit 2)
 (((((True ∧ (decide (IntKind.wrap IntKind.i64 (k + (1 : Int)) < (↑(List.length l) : Int)) = true)) ∧ (decide ((0 : Int) ≤ k ∧ k < (↑(List.length l) : Int)) = true)) ∧ ((!(↑(UInt8.toNat (List.getD l (Int.toNat k) (0 : UInt8))) : Int) == (58 : Int)) = false)) ∧ (decide ((0 : Int) ≤ IntKind.wrap IntKind.i64 (k + (1 : Int)) ∧ IntKind.wrap IntKind.i64 (k + (1 : Int)) < (↑(List.length l) : Int)) = true)) ∧ ((!(↑(UInt8.toNat (List.getD l (Int.toNat (IntKind.wrap IntKind.i64 (k + (1 : Int)))) (0 : UInt8))) : Int) == (32 : Int)) = false)) := by unfold Path; kernel_rfl
theorem a353_F (o2 : Nat) (n2 : Nat) (c2 : Nat) (l : List UInt8) (k : Int) :
 Path (run Tryz.prog P15 100 (lbody Tryz.prog 35 1) (SL.mp 81 ([.as_ false]) (a353I o2 n2 c2 l k))) 3 [] (a353I (o2) (n2) (c2) (l) (k)) (Ex.exit 2)
 (True ∧ (decide (IntKind.wrap IntKind.i64 (k + (1 : Int)) < (↑(List.length l) : Int)) = false)) := by unfold Path; kernel_rfl
theorem a354_TT (o2 : Nat) (n2 : Nat) (c2 : Nat) (l : List UInt8) (k : Int) :
 Path (run Tryz.prog P15 100 (lbody Tryz.prog 35 1) (SL.mp 81 ([.as_ true, .as_ true]) (a354I o2 n2 c2 l k))) 4 [] (a354I (o2) (n2) (c2) (l) (IntKind.wrap IntKind.i64 (k + (1 : Int)))) (Ex.normal)
 (((True ∧ (decide (IntKind.wrap IntKind.i64 (k + (1 : Int)) < (↑(List.length l) : Int)) = true)) ∧ (decide ((0 : Int) ≤ k ∧ k < (↑(List.length l) : Int)) = true)) ∧ ((!(↑(UInt8.toNat (List.getD l (Int.toNat k) (0 : UInt8))) : Int) == (58 : Int)) = true)) := by unfold Path; kernel_rfl
theorem a354_TFT (o2 : Nat) (n2 : Nat) (c2 : Nat) (l : List UInt8) (k : Int) :
 Path (run Tryz.prog P15 100 (lbody Tryz.prog 35 1) (SL.mp 81 ([.as_ true, .as_ false, .as_ true]) (a354I o2 n2 c2 l k))) 4 [] (a354I (o2) (n2) (c2) (l) (IntKind.wrap IntKind.i64 (k + (1 : Int)))) (Ex.normal)
 (((((True ∧ (decide (IntKind.wrap IntKind.i64 (k + (1 : Int)) < (↑(List.length l) : Int)) = true)) ∧ (decide ((0 : Int) ≤ k ∧ k < (↑(List.length l) : Int)) = true)) ∧ ((!(↑(UInt8.toNat (List.getD l (Int.toNat k) (0 : UInt8))) : Int) == (58 : Int)) = false)) ∧ (decide ((0 : Int) ≤ IntKind.wrap IntKind.i64 (k + (1 : Int)) ∧ IntKind.wrap IntKind.i64 (k + (1 : Int)) < (↑(List.length l) : Int)) = true)) ∧ ((!(↑(UInt8.toNat (List.getD l (Int.toNat (IntKind.wrap IntKind.i64 (k + (1 : Int)))) (0 : UInt8))) : Int) == (32 : Int)) = true)) := by unfold Path; kernel_rfl
theorem a354_TFF (o2 : Nat) (n2 : Nat) (c2 : Nat) (l : List UInt8) (k : Int) :
 Path (run Tryz.prog P15 100 (lbody Tryz.prog 35 1) (SL.mp 81 ([.as_ true, .as_ false, .as_ false]) (a354I o2 n2 c2 l k))) 4 [] (a354I (o2) (n2) (c2) (l) (k)) (Ex.exit 2)
 (((((True ∧ (decide (IntKind.wrap IntKind.i64 (k + (1 : Int)) < (↑(List.length l) : Int)) = true)) ∧ (decide ((0 : Int) ≤ k ∧ k < (↑(List.length l) : Int)) = true)) ∧ ((!(↑(UInt8.toNat (List.getD l (Int.toNat k) (0 : UInt8))) : Int) == (58 : Int)) = false)) ∧ (decide ((0 : Int) ≤ IntKind.wrap IntKind.i64 (k + (1 : Int)) ∧ IntKind.wrap IntKind.i64 (k + (1 : Int)) < (↑(List.length l) : Int)) = true)) ∧ ((!(↑(UInt8.toNat (List.getD l (Int.toNat (IntKind.wrap IntKind.i64 (k + (1 : Int)))) (0 : UInt8))) : Int) == (32 : Int)) = false)) := by unfold Path; kernel_rfl
theorem a354_F (o2 : Nat) (n2 : Nat) (c2 : Nat) (l : List UInt8) (k : Int) :
 Path (run Tryz.prog P15 100 (lbody Tryz.prog 35 1) (SL.mp 81 ([.as_ false]) (a354I o2 n2 c2 l k))) 4 [] (a354I (o2) (n2) (c2) (l) (k)) (Ex.exit 2)
 (True ∧ (decide (IntKind.wrap IntKind.i64 (k + (1 : Int)) < (↑(List.length l) : Int)) = false)) := by unfold Path; kernel_rfl
theorem b35z_L (brows : List (List AV)) (start : List UInt8) (o n c : Nat) (l : List UInt8) (o2 n2 c2 : Nat) (a : Int) :
 Path (run Tryz.prog P15 100 (lbody Tryz.prog 35 0) (SL.mp 81 ([PI.loop (b713I brows o n c 0) (Ex.exit 0) (e713 brows)]) (b35zI brows start o n c))) 3 [] re35 (Ex.exit 0)
 (True ∧ (LoopOK Tryz.prog (lbody Tryz.prog 71 0) (34) (SL.mk [(0, AV.sl (Loc.mk 0 o 0) n (Cap.known c)), (5, AV.int IntKind.i64 (0 : Int))] [(0, Blk.cells false [Kd.int IntKind.u8] brows)] 3) (Ex.exit 0) (SL.mk [] [(0, Blk.cells false [Kd.int IntKind.u8] brows)] 3))) := by unfold Path; kernel_rfl
theorem b35z_LTTT (brows : List (List AV)) (start : List UInt8) (o n c : Nat) (l : List UInt8) (o2 n2 c2 : Nat) (a : Int) :
 Path (run Tryz.prog P15 100 (lbody Tryz.prog 35 0) (SL.mp 81 ([PI.loop (b713I brows o n c 0) Ex.ret (r713 brows l o2 n2 c2), .as_ true, .as_ true, .as_ true]) (b35zI brows start o n c))) 3 [] re35 (Ex.exit 0)
 (((((((((((True ∧ (LoopOK Tryz.prog (lbody Tryz.prog 71 0) (34) (SL.mk [(0, AV.sl (Loc.mk 0 o 0) n (Cap.known c)), (5, AV.int IntKind.i64 (0 : Int))] [(0, Blk.cells false [Kd.int IntKind.u8] brows)] 3) Ex.ret (SL.mk [(2, AV.str l), (3, AV.sl (Loc.mk 0 o2 0) n2 (Cap.known c2)), (4, AV.lit true)] [(0, Blk.cells false [Kd.int IntKind.u8] brows)] 3))) ∧ ((l == []) = true)) ∧ (true = true)) ∧ (decide (o2 + n2 ≤ List.length brows) = true)) ∧ ((decide (0 < n2)) = true)) ∧ (decide (n2 * 1 ≤ 140737488355328) = true)) ∧ (true = true)) ∧ (true = true)) ∧ (true = true)) ∧ ((true && (decide (0 + n2 ≤ List.length (sub brows o2 n2)) && decide (List.length start ≤ 4294967200 ∧ true = true ∧ List.length (sub (sub brows o2 n2) (0) n2) ≤ 140737488355328))) = true)) ∧ ((!spRefRight start [] (List.length (sub (sub brows o2 n2) (0) n2))) = true)) := by unfold Path; kernel_rfl
theorem b35z_LTFT (brows : List (List AV)) (start : List UInt8) (o n c : Nat) (l : List UInt8) (o2 n2 c2 : Nat) (a : Int) :
 Path (run Tryz.prog P15 100 (lbody Tryz.prog 35 0) (SL.mp 81 ([PI.loop (b713I brows o n c 0) Ex.ret (r713 brows l o2 n2 c2), .as_ true, .as_ false, .as_ true]) (b35zI brows start o n c))) 3 [] re35 (Ex.exit 0)
 ((((((((((True ∧ (LoopOK Tryz.prog (lbody Tryz.prog 71 0) (34) (SL.mk [(0, AV.sl (Loc.mk 0 o 0) n (Cap.known c)), (5, AV.int IntKind.i64 (0 : Int))] [(0, Blk.cells false [Kd.int IntKind.u8] brows)] 3) Ex.ret (SL.mk [(2, AV.str l), (3, AV.sl (Loc.mk 0 o2 0) n2 (Cap.known c2)), (4, AV.lit true)] [(0, Blk.cells false [Kd.int IntKind.u8] brows)] 3))) ∧ ((l == []) = true)) ∧ (true = true)) ∧ (decide (o2 + n2 ≤ List.length brows) = true)) ∧ ((decide (0 < n2)) = false)) ∧ (true = true)) ∧ (true = true)) ∧ (true = true)) ∧ ((true && (true && decide (List.length start ≤ 4294967200 ∧ true = true ∧ 0 ≤ 140737488355328))) = true)) ∧ ((!spRefRight start [] 0) = true)) := by unfold Path; kernel_rfl
theorem b35z_LFLT (brows : List (List AV)) (start : List UInt8) (o n c : Nat) (l : List UInt8) (o2 n2 c2 : Nat) (a : Int) :
 Path (run Tryz.prog P15 100 (lbody Tryz.prog 35 0) (SL.mp 81 ([PI.loop (b713I brows o n c 0) Ex.ret (r713 brows l o2 n2 c2), .as_ false, PI.loop (a353I o2 n2 c2 l 0) (Ex.exit 2) (a353I o2 n2 c2 l a), .as_ true]) (b35zI brows start o n c))) 3 [] re35 (Ex.exit 0)
 ((((True ∧ (LoopOK Tryz.prog (lbody Tryz.prog 71 0) (34) (SL.mk [(0, AV.sl (Loc.mk 0 o 0) n (Cap.known c)), (5, AV.int IntKind.i64 (0 : Int))] [(0, Blk.cells false [Kd.int IntKind.u8] brows)] 3) Ex.ret (SL.mk [(2, AV.str l), (3, AV.sl (Loc.mk 0 o2 0) n2 (Cap.known c2)), (4, AV.lit true)] [(0, Blk.cells false [Kd.int IntKind.u8] brows)] 3))) ∧ ((l == []) = false)) ∧ (LoopOK Tryz.prog (lbody Tryz.prog 35 1) (81) (SL.mk [(2, AV.ptr (Loc.mk 1 0 0)), (5, AV.sl (Loc.mk 0 o2 0) n2 (Cap.known c2)), (6, AV.lit true), (7, AV.ptr (Loc.mk 2 0 0)), (8, AV.str l), (9, AV.int IntKind.i64 (0 : Int))] [] 3) (Ex.exit 2) (SL.mk [(2, AV.ptr (Loc.mk 1 0 0)), (5, AV.sl (Loc.mk 0 o2 0) n2 (Cap.known c2)), (6, AV.lit true), (7, AV.ptr (Loc.mk 2 0 0)), (8, AV.str l), (9, AV.int IntKind.i64 a)] [] 3))) ∧ ((decide (IntKind.wrap IntKind.i64 (a + (1 : Int)) ≥ (↑(List.length l) : Int))) = true)) := by unfold Path; kernel_rfl
theorem b35n_L (brows : List (List AV)) (start : List UInt8) (o n c : Nat) (rows : List (List AV)) (m : Nat) (l : List UInt8) (o2 n2 c2 : Nat) (a : Int) :
 Path (run Tryz.prog P15 100 (lbody Tryz.prog 35 0) (SL.mp 81 ([PI.loop (b714I brows o n c 0) (Ex.exit 0) (e714 brows)]) (b35I brows start o n c rows m))) 3 [] re35 (Ex.exit 0)
 (True ∧ (LoopOK Tryz.prog (lbody Tryz.prog 71 0) (34) (SL.mk [(0, AV.sl (Loc.mk 0 o 0) n (Cap.known c)), (5, AV.int IntKind.i64 (0 : Int))] [(0, Blk.cells false [Kd.int IntKind.u8] brows)] 4) (Ex.exit 0) (SL.mk [] [(0, Blk.cells false [Kd.int IntKind.u8] brows)] 4))) := by unfold Path; kernel_rfl
theorem b35n_LTTT (brows : List (List AV)) (start : List UInt8) (o n c : Nat) (rows : List (List AV)) (m : Nat) (l : List UInt8) (o2 n2 c2 : Nat) (a : Int) :
 Path (run Tryz.prog P15 100 (lbody Tryz.prog 35 0) (SL.mp 81 ([PI.loop (b714I brows o n c 0) Ex.ret (r714 brows l o2 n2 c2), .as_ true, .as_ true, .as_ true]) (b35I brows start o n c rows m))) 3 [] re35 (Ex.exit 0)
 (((((((((((True ∧ (LoopOK Tryz.prog (lbody Tryz.prog 71 0) (34) (SL.mk [(0, AV.sl (Loc.mk 0 o 0) n (Cap.known c)), (5, AV.int IntKind.i64 (0 : Int))] [(0, Blk.cells false [Kd.int IntKind.u8] brows)] 4) Ex.ret (SL.mk [(2, AV.str l), (3, AV.sl (Loc.mk 0 o2 0) n2 (Cap.known c2)), (4, AV.lit true)] [(0, Blk.cells false [Kd.int IntKind.u8] brows)] 4))) ∧ ((l == []) = true)) ∧ (true = true)) ∧ (decide (o2 + n2 ≤ List.length brows) = true)) ∧ ((decide (0 < n2)) = true)) ∧ (decide (n2 * 1 ≤ 140737488355328) = true)) ∧ (true = true)) ∧ (true = true)) ∧ (true = true)) ∧ ((decide (0 + m ≤ List.length rows) && (decide (0 + n2 ≤ List.length (sub brows o2 n2)) && decide (List.length start ≤ 4294967200 ∧ List.all (sub rows 0 m) short = true ∧ List.length (sub (sub brows o2 n2) (0) n2) ≤ 140737488355328))) = true)) ∧ ((!spRefRight start (sub rows 0 m) (List.length (sub (sub brows o2 n2) (0) n2))) = true)) := by unfold Path; kernel_rfl
theorem b35n_LTFT (brows : List (List AV)) (start : List UInt8) (o n c : Nat) (rows : List (List AV)) (m : Nat) (l : List UInt8) (o2 n2 c2 : Nat) (a : Int) :
 Path (run Tryz.prog P15 100 (lbody Tryz.prog 35 0) (SL.mp 81 ([PI.loop (b714I brows o n c 0) Ex.ret (r714 brows l o2 n2 c2), .as_ true, .as_ false, .as_ true]) (b35I brows start o n c rows m))) 3 [] re35 (Ex.exit 0)
 ((((((((((True ∧ (LoopOK Tryz.prog (lbody Tryz.prog 71 0) (34) (SL.mk [(0, AV.sl (Loc.mk 0 o 0) n (Cap.known c)), (5, AV.int IntKind.i64 (0 : Int))] [(0, Blk.cells false [Kd.int IntKind.u8] brows)] 4) Ex.ret (SL.mk [(2, AV.str l), (3, AV.sl (Loc.mk 0 o2 0) n2 (Cap.known c2)), (4, AV.lit true)] [(0, Blk.cells false [Kd.int IntKind.u8] brows)] 4))) ∧ ((l == []) = true)) ∧ (true = true)) ∧ (decide (o2 + n2 ≤ List.length brows) = true)) ∧ ((decide (0 < n2)) = false)) ∧ (true = true)) ∧ (true = true)) ∧ (true = true)) ∧ ((decide (0 + m ≤ List.length rows) && (true && decide (List.length start ≤ 4294967200 ∧ List.all (sub rows 0 m) short = true ∧ 0 ≤ 140737488355328))) = true)) ∧ ((!spRefRight start (sub rows 0 m) 0) = true)) := by unfold Path; kernel_rfl
theorem b35n_LFLT (brows : List (List AV)) (start : List UInt8) (o n c : Nat) (rows : List (List AV)) (m : Nat) (l : List UInt8) (o2 n2 c2 : Nat) (a : Int) :
 Path (run Tryz.prog P15 100 (lbody Tryz.prog 35 0) (SL.mp 81 ([PI.loop (b714I brows o n c 0) Ex.ret (r714 brows l o2 n2 c2), .as_ false, PI.loop (a354I o2 n2 c2 l 0) (Ex.exit 2) (a354I o2 n2 c2 l a), .as_ true]) (b35I brows start o n c rows m))) 3 [] re35 (Ex.exit 0)
 ((((True ∧ (LoopOK Tryz.prog (lbody Tryz.prog 71 0) (34) (SL.mk [(0, AV.sl (Loc.mk 0 o 0) n (Cap.known c)), (5, AV.int IntKind.i64 (0 : Int))] [(0, Blk.cells false [Kd.int IntKind.u8] brows)] 4) Ex.ret (SL.mk [(2, AV.str l), (3, AV.sl (Loc.mk 0 o2 0) n2 (Cap.known c2)), (4, AV.lit true)] [(0, Blk.cells false [Kd.int IntKind.u8] brows)] 4))) ∧ ((l == []) = false)) ∧ (LoopOK Tryz.prog (lbody Tryz.prog 35 1) (81) (SL.mk [(2, AV.ptr (Loc.mk 1 0 0)), (5, AV.sl (Loc.mk 0 o2 0) n2 (Cap.known c2)), (6, AV.lit true), (7, AV.ptr (Loc.mk 2 0 0)), (8, AV.str l), (9, AV.int IntKind.i64 (0 : Int))] [] 4) (Ex.exit 2) (SL.mk [(2, AV.ptr (Loc.mk 1 0 0)), (5, AV.sl (Loc.mk 0 o2 0) n2 (Cap.known c2)), (6, AV.lit true), (7, AV.ptr (Loc.mk 2 0 0)), (8, AV.str l), (9, AV.int IntKind.i64 a)] [] 4))) ∧ ((decide (IntKind.wrap IntKind.i64 (a + (1 : Int)) ≥ (↑(List.length l) : Int))) = true)) := by unfold Path; kernel_rfl
theorem b35z_LFLFE (brows : List (List AV)) (start : List UInt8) (o n c : Nat) (l : List UInt8) (o2 n2 c2 : Nat) (a : Int) :
 Path (run Tryz.prog P15 100 (lbody Tryz.prog 35 0) (SL.mp 81 ([PI.loop (b713I brows o n c 0) Ex.ret (r713 brows l o2 n2 c2), .as_ false, PI.loop (a353I o2 n2 c2 l 0) (Ex.exit 2) (a353I o2 n2 c2 l a), .as_ false, PI.ev 1]) (b35zI brows start o n c))) 3 [4] (b35I brows start o2 n2 c2 [[AV.str (sub l 0 (Int.toNat a - 0)), AV.str (sub l (Int.toNat (IntKind.wrap IntKind.i64 (a + (2 : Int)))) (Int.toNat (↑(List.length l) : Int) - Int.toNat (IntKind.wrap IntKind.i64 (a + (2 : Int)))))]] 1) (Ex.normal)
 (((((((((((True ∧ (LoopOK Tryz.prog (lbody Tryz.prog 71 0) (34) (SL.mk [(0, AV.sl (Loc.mk 0 o 0) n (Cap.known c)), (5, AV.int IntKind.i64 (0 : Int))] [(0, Blk.cells false [Kd.int IntKind.u8] brows)] 3) Ex.ret (SL.mk [(2, AV.str l), (3, AV.sl (Loc.mk 0 o2 0) n2 (Cap.known c2)), (4, AV.lit true)] [(0, Blk.cells false [Kd.int IntKind.u8] brows)] 3))) ∧ ((l == []) = false)) ∧ (LoopOK Tryz.prog (lbody Tryz.prog 35 1) (81) (SL.mk [(2, AV.ptr (Loc.mk 1 0 0)), (5, AV.sl (Loc.mk 0 o2 0) n2 (Cap.known c2)), (6, AV.lit true), (7, AV.ptr (Loc.mk 2 0 0)), (8, AV.str l), (9, AV.int IntKind.i64 (0 : Int))] [] 3) (Ex.exit 2) (SL.mk [(2, AV.ptr (Loc.mk 1 0 0)), (5, AV.sl (Loc.mk 0 o2 0) n2 (Cap.known c2)), (6, AV.lit true), (7, AV.ptr (Loc.mk 2 0 0)), (8, AV.str l), (9, AV.int IntKind.i64 a)] [] 3))) ∧ ((decide (IntKind.wrap IntKind.i64 (a + (1 : Int)) ≥ (↑(List.length l) : Int))) = false)) ∧ (true = true)) ∧ (decide ((0 : Int) ≤ (0 : Int) ∧ (0 : Int) ≤ a ∧ a ≤ (↑(List.length l) : Int)) = true)) ∧ (decide ((0 : Int) ≤ IntKind.wrap IntKind.i64 (a + (2 : Int)) ∧ IntKind.wrap IntKind.i64 (a + (2 : Int)) ≤ (↑(List.length l) : Int) ∧ (↑(List.length l) : Int) ≤ (↑(List.length l) : Int)) = true)) ∧ (true = true)) ∧ (true = true)) ∧ (true = true)) ∧ (true = true)) := by unfold Path; kernel_rfl
theorem b35n_LFLF (brows : List (List AV)) (start : List UInt8) (o n c : Nat) (rows : List (List AV)) (m : Nat) (l : List UInt8) (o2 n2 c2 : Nat) (a : Int) :
 Path (run Tryz.prog P15 100 (lbody Tryz.prog 35 0) (SL.mp 81 ([PI.loop (b714I brows o n c 0) Ex.ret (r714 brows l o2 n2 c2), .as_ false, PI.loop (a354I o2 n2 c2 l 0) (Ex.exit 2) (a354I o2 n2 c2 l a), .as_ false]) (b35I brows start o n c rows m))) 3 [5] (b35I brows start o2 n2 c2 (rows ++ [[AV.str (sub l 0 (Int.toNat a - 0)), AV.str (sub l (Int.toNat (IntKind.wrap IntKind.i64 (a + (2 : Int)))) (Int.toNat (↑(List.length l) : Int) - Int.toNat (IntKind.wrap IntKind.i64 (a + (2 : Int)))))]]) (m + 1)) (Ex.normal)
 ((((((((((((True ∧ (LoopOK Tryz.prog (lbody Tryz.prog 71 0) (34) (SL.mk [(0, AV.sl (Loc.mk 0 o 0) n (Cap.known c)), (5, AV.int IntKind.i64 (0 : Int))] [(0, Blk.cells false [Kd.int IntKind.u8] brows)] 4) Ex.ret (SL.mk [(2, AV.str l), (3, AV.sl (Loc.mk 0 o2 0) n2 (Cap.known c2)), (4, AV.lit true)] [(0, Blk.cells false [Kd.int IntKind.u8] brows)] 4))) ∧ ((l == []) = false)) ∧ (LoopOK Tryz.prog (lbody Tryz.prog 35 1) (81) (SL.mk [(2, AV.ptr (Loc.mk 1 0 0)), (5, AV.sl (Loc.mk 0 o2 0) n2 (Cap.known c2)), (6, AV.lit true), (7, AV.ptr (Loc.mk 2 0 0)), (8, AV.str l), (9, AV.int IntKind.i64 (0 : Int))] [] 4) (Ex.exit 2) (SL.mk [(2, AV.ptr (Loc.mk 1 0 0)), (5, AV.sl (Loc.mk 0 o2 0) n2 (Cap.known c2)), (6, AV.lit true), (7, AV.ptr (Loc.mk 2 0 0)), (8, AV.str l), (9, AV.int IntKind.i64 a)] [] 4))) ∧ ((decide (IntKind.wrap IntKind.i64 (a + (1 : Int)) ≥ (↑(List.length l) : Int))) = false)) ∧ (true = true)) ∧ (decide ((0 : Int) ≤ (0 : Int) ∧ (0 : Int) ≤ a ∧ a ≤ (↑(List.length l) : Int)) = true)) ∧ (decide ((0 : Int) ≤ IntKind.wrap IntKind.i64 (a + (2 : Int)) ∧ IntKind.wrap IntKind.i64 (a + (2 : Int)) ≤ (↑(List.length l) : Int) ∧ (↑(List.length l) : Int) ≤ (↑(List.length l) : Int)) = true)) ∧ (true = true)) ∧ (decide (0 = 0 ∧ m = List.length rows) = true)) ∧ (decide ((m + 1) * 32 ≤ 140737488355328) = true)) ∧ (true = true)) ∧ (true = true)) := by unfold Path; kernel_rfl
theorem b35n_LTTF (brows : List (List AV)) (start : List UInt8) (o n c : Nat) (rows : List (List AV)) (m : Nat) (l : List UInt8) (o2 n2 c2 : Nat) (a : Int) :
 Path (run Tryz.prog P15 100 (lbody Tryz.prog 35 0) (SL.mp 81 ([PI.loop (b714I brows o n c 0) Ex.ret (r714 brows l o2 n2 c2), .as_ true, .as_ true, .as_ false]) (b35I brows start o n c rows m))) 3 [3, 4] (rb35 start rows m (sub brows o2 n2) n2) (Ex.ret)
 ((((((((((((((((((True ∧ (LoopOK Tryz.prog (lbody Tryz.prog 71 0) (34) (SL.mk [(0, AV.sl (Loc.mk 0 o 0) n (Cap.known c)), (5, AV.int IntKind.i64 (0 : Int))] [(0, Blk.cells false [Kd.int IntKind.u8] brows)] 4) Ex.ret (SL.mk [(2, AV.str l), (3, AV.sl (Loc.mk 0 o2 0) n2 (Cap.known c2)), (4, AV.lit true)] [(0, Blk.cells false [Kd.int IntKind.u8] brows)] 4))) ∧ ((l == []) = true)) ∧ (true = true)) ∧ (decide (o2 + n2 ≤ List.length brows) = true)) ∧ ((decide (0 < n2)) = true)) ∧ (decide (n2 * 1 ≤ 140737488355328) = true)) ∧ (true = true)) ∧ (true = true)) ∧ (true = true)) ∧ ((decide (0 + m ≤ List.length rows) && (decide (0 + n2 ≤ List.length (sub brows o2 n2)) && decide (List.length start ≤ 4294967200 ∧ List.all (sub rows 0 m) short = true ∧ List.length (sub (sub brows o2 n2) (0) n2) ≤ 140737488355328))) = true)) ∧ ((!spRefRight start (sub rows 0 m) (List.length (sub (sub brows o2 n2) (0) n2))) = false)) ∧ (true = true)) ∧ (true = true)) ∧ (true = true)) ∧ (true = true)) ∧ (true = true)) ∧ (true = true)) ∧ (true = true)) := by unfold Path; kernel_rfl
theorem b35n_LTFF (brows : List (List AV)) (start : List UInt8) (o n c : Nat) (rows : List (List AV)) (m : Nat) (l : List UInt8) (o2 n2 c2 : Nat) (a : Int) :
 Path (run Tryz.prog P15 100 (lbody Tryz.prog 35 0) (SL.mp 81 ([PI.loop (b714I brows o n c 0) Ex.ret (r714 brows l o2 n2 c2), .as_ true, .as_ false, .as_ false]) (b35I brows start o n c rows m))) 3 [3] (r035 start rows m) (Ex.ret)
 (((((((((((((((((True ∧ (LoopOK Tryz.prog (lbody Tryz.prog 71 0) (34) (SL.mk [(0, AV.sl (Loc.mk 0 o 0) n (Cap.known c)), (5, AV.int IntKind.i64 (0 : Int))] [(0, Blk.cells false [Kd.int IntKind.u8] brows)] 4) Ex.ret (SL.mk [(2, AV.str l), (3, AV.sl (Loc.mk 0 o2 0) n2 (Cap.known c2)), (4, AV.lit true)] [(0, Blk.cells false [Kd.int IntKind.u8] brows)] 4))) ∧ ((l == []) = true)) ∧ (true = true)) ∧ (decide (o2 + n2 ≤ List.length brows) = true)) ∧ ((decide (0 < n2)) = false)) ∧ (true = true)) ∧ (true = true)) ∧ (true = true)) ∧ ((decide (0 + m ≤ List.length rows) && (true && decide (List.length start ≤ 4294967200 ∧ List.all (sub rows 0 m) short = true ∧ 0 ≤ 140737488355328))) = true)) ∧ ((!spRefRight start (sub rows 0 m) 0) = false)) ∧ (true = true)) ∧ (true = true)) ∧ (true = true)) ∧ (true = true)) ∧ (true = true)) ∧ (true = true)) ∧ (true = true)) := by unfold Path; kernel_rfl
theorem b35e_ (x : Nat) :
 Path (run Tryz.prog P15 100 (lbody Tryz.prog 35 0) (SL.mp 81 ([]) b35eI)) 3 [] re35 (Ex.exit 0)
 True := by unfold Path; kernel_rfl
theorem b35m_ (x : Nat) :
 Path (run Tryz.prog P15 100 (lbody Tryz.prog 35 0) (SL.mp 81 ([]) b35mI)) 2 [] b35mI (Ex.exit 0)
 True := by unfold Path; kernel_rfl
theorem b71n_E (x : Nat) :
 Path (run Tryz.prog P15 100 (lbody Tryz.prog 71 0) (SL.mp 34 ([PI.ev 1]) b71nI)) 1 [] e71n (Ex.exit 0)
 True := by unfold Path; kernel_rfl
theorem c35n_ELL (x : Nat) :
 Path (runCallB Tryz.prog P15 100 35 [AV.nilSl] (st0 [] ([PI.ev 1, PI.loop b71nI (Ex.exit 0) e71n, PI.loop b35mI (Ex.exit 0) b35mI]))) 0 [] (SL.mk [] [] 0) (Out.ret (AV.tup [AV.agg [AV.str [], AV.nilSl, AV.nilSl], AV.int IntKind.i64 (4 : Int)]))
 (((((((((((((((True ∧ (LoopOK Tryz.prog (lbody Tryz.prog 71 0) (34) b71nI (Ex.exit 0) e71n)) ∧ (true = true)) ∧ (true = true)) ∧ (true = true)) ∧ (true = true)) ∧ (true = true)) ∧ (true = true)) ∧ (LoopOK Tryz.prog (lbody Tryz.prog 35 0) (81) b35mI (Ex.exit 0) b35mI)) ∧ (true = true)) ∧ (true = true)) ∧ (true = true)) ∧ (true = true)) ∧ (true = true)) ∧ (true = true)) ∧ (true = true)) := by unfold Path; kernel_rfl
theorem c35x_T (brows : List (List AV)) (n : Nat) (c : Nat) :
 Path (runCallB Tryz.prog P15 100 35 [AV.sl (Loc.mk 0 0 0) n (Cap.known c)] (st0 [Blk.cells false [Kd.int IntKind.u8] brows] ([.as_ true]))) 1 [] (SL.mk [] [] 1) (Out.ret (AV.tup [AV.agg [AV.str [], AV.nilSl, AV.nilSl], AV.int IntKind.i64 (8 : Int)]))
 ((((((((True ∧ (decide ((↑n : Int) > (4096 : Int)) = true)) ∧ (true = true)) ∧ (true = true)) ∧ (true = true)) ∧ (true = true)) ∧ (true = true)) ∧ (true = true)) ∧ (true = true)) := by unfold Path; kernel_rfl
theorem c35x_FLL (brows : List (List AV)) (n : Nat) (c : Nat) :
 Path (runCallB Tryz.prog P15 100 35 [AV.sl (Loc.mk 0 0 0) n (Cap.known c)] (st0 [Blk.cells false [Kd.int IntKind.u8] brows] ([.as_ false, PI.loop (b712I brows 0 n c (0 : Int)) (Ex.exit 0) (e712 brows), PI.loop b35eI (Ex.exit 0) re35]))) 1 [] (SL.mk [] [] 1) (Out.ret (AV.tup [AV.agg [AV.str [], AV.nilSl, AV.nilSl], AV.int IntKind.i64 (4 : Int)]))
 ((((((((((((((((True ∧ (decide ((↑n : Int) > (4096 : Int)) = false)) ∧ (LoopOK Tryz.prog (lbody Tryz.prog 71 0) (34) (SL.mk [(0, AV.sl (Loc.mk 0 0 0) n (Cap.known c)), (5, AV.int IntKind.i64 (0 : Int))] [(0, Blk.cells false [Kd.int IntKind.u8] brows)] 2) (Ex.exit 0) (SL.mk [] [(0, Blk.cells false [Kd.int IntKind.u8] brows)] 2))) ∧ (true = true)) ∧ (true = true)) ∧ (true = true)) ∧ (true = true)) ∧ (true = true)) ∧ (true = true)) ∧ (LoopOK Tryz.prog (lbody Tryz.prog 35 0) (81) b35eI (Ex.exit 0) re35)) ∧ (true = true)) ∧ (true = true)) ∧ (true = true)) ∧ (true = true)) ∧ (true = true)) ∧ (true = true)) ∧ (true = true)) := by unfold Path; kernel_rfl
theorem c35f_FLL (brows : List (List AV)) (n : Nat) (c : Nat) (l : List UInt8) (o2 : Nat) (n2 : Nat) (c2 : Nat) :
 Path (runCallB Tryz.prog P15 100 35 [AV.sl (Loc.mk 0 0 0) n (Cap.known c)] (st0 [Blk.cells false [Kd.int IntKind.u8] brows] ([.as_ false, PI.loop (b712I brows 0 n c (0 : Int)) Ex.ret (r712 brows l o2 n2 c2), PI.loop (b35zI brows l o2 n2 c2) (Ex.exit 0) re35]))) 1 [] (SL.mk [] [] 1) (Out.ret (AV.tup [AV.agg [AV.str [], AV.nilSl, AV.nilSl], AV.int IntKind.i64 (4 : Int)]))
 ((((((((((((((((True ∧ (decide ((↑n : Int) > (4096 : Int)) = false)) ∧ (LoopOK Tryz.prog (lbody Tryz.prog 71 0) (34) (SL.mk [(0, AV.sl (Loc.mk 0 0 0) n (Cap.known c)), (5, AV.int IntKind.i64 (0 : Int))] [(0, Blk.cells false [Kd.int IntKind.u8] brows)] 2) Ex.ret (SL.mk [(2, AV.str l), (3, AV.sl (Loc.mk 0 o2 0) n2 (Cap.known c2)), (4, AV.lit true)] [(0, Blk.cells false [Kd.int IntKind.u8] brows)] 2))) ∧ (true = true)) ∧ (true = true)) ∧ (true = true)) ∧ (true = true)) ∧ (true = true)) ∧ (true = true)) ∧ (LoopOK Tryz.prog (lbody Tryz.prog 35 0) (81) (SL.mk [(2, AV.ptr (Loc.mk 1 0 0)), (5, AV.sl (Loc.mk 0 o2 0) n2 (Cap.known c2)), (6, AV.lit true), (7, AV.ptr (Loc.mk 2 0 0))] [(0, Blk.cells false [Kd.int IntKind.u8] brows), (1, Blk.cells true [Kd.str, Kd.any, Kd.any] [[AV.str [], AV.nilSl, AV.nilSl]]), (2, Blk.cells true [Kd.str, Kd.any, Kd.any] [[AV.str l, AV.nilSl, AV.nilSl]])] 3) (Ex.exit 0) re35)) ∧ (true = true)) ∧ (true = true)) ∧ (true = true)) ∧ (true = true)) ∧ (true = true)) ∧ (true = true)) ∧ (true = true)) := by unfold Path; kernel_rfl
theorem c35b_FLL (brows : List (List AV)) (n : Nat) (c : Nat) (l : List UInt8) (o2 : Nat) (n2 : Nat) (c2 : Nat) (rows : List (List AV)) (bb : List (List AV)) (m : Nat) (b : Nat) :
 Path (runCallB Tryz.prog P15 100 35 [AV.sl (Loc.mk 0 0 0) n (Cap.known c)] (st0 [Blk.cells false [Kd.int IntKind.u8] brows] ([.as_ false, PI.loop (b712I brows 0 n c (0 : Int)) Ex.ret (r712 brows l o2 n2 c2), PI.loop (b35zI brows l o2 n2 c2) Ex.ret (rb35 l rows m bb b)]))) 1 [3, 4] (SL.mk [] [(1, .cells true [Kd.str, Kd.str] rows), (2, .cells true [Kd.int IntKind.u8] bb)] 3) (Out.ret (ren (sig 1 [3, 4]) (AV.tup [AV.agg [AV.str l, AV.sl (Loc.mk 1 0 0) m Cap.open_, AV.sl (Loc.mk 2 0 0) b Cap.open_], AV.int IntKind.i64 (0 : Int)])))
 ((((((((((True ∧ (decide ((↑n : Int) > (4096 : Int)) = false)) ∧ (LoopOK Tryz.prog (lbody Tryz.prog 71 0) (34) (SL.mk [(0, AV.sl (Loc.mk 0 0 0) n (Cap.known c)), (5, AV.int IntKind.i64 (0 : Int))] [(0, Blk.cells false [Kd.int IntKind.u8] brows)] 2) Ex.ret (SL.mk [(2, AV.str l), (3, AV.sl (Loc.mk 0 o2 0) n2 (Cap.known c2)), (4, AV.lit true)] [(0, Blk.cells false [Kd.int IntKind.u8] brows)] 2))) ∧ (true = true)) ∧ (true = true)) ∧ (true = true)) ∧ (true = true)) ∧ (true = true)) ∧ (true = true)) ∧ (LoopOK Tryz.prog (lbody Tryz.prog 35 0) (81) (SL.mk [(2, AV.ptr (Loc.mk 1 0 0)), (5, AV.sl (Loc.mk 0 o2 0) n2 (Cap.known c2)), (6, AV.lit true), (7, AV.ptr (Loc.mk 2 0 0))] [(0, Blk.cells false [Kd.int IntKind.u8] brows), (1, Blk.cells true [Kd.str, Kd.any, Kd.any] [[AV.str [], AV.nilSl, AV.nilSl]]), (2, Blk.cells true [Kd.str, Kd.any, Kd.any] [[AV.str l, AV.nilSl, AV.nilSl]])] 3) Ex.ret (SL.mk [(2, AV.ptr (Loc.mk 1 0 0)), (3, AV.int IntKind.i64 (0 : Int))] [(1, Blk.cells true [Kd.str, Kd.any, Kd.any] [[AV.str l, AV.sl (Loc.mk 3 0 0) m Cap.open_, AV.sl (Loc.mk 4 0 0) b Cap.open_]]), (3, Blk.cells true [Kd.str, Kd.str] rows), (4, Blk.cells true [Kd.int IntKind.u8] bb)] 5))) ∧ (true = true)) := by unfold Path; kernel_rfl
theorem c35o_FLL (brows : List (List AV)) (n : Nat) (c : Nat) (l : List UInt8) (o2 : Nat) (n2 : Nat) (c2 : Nat) (rows : List (List AV)) (m : Nat) :
 Path (runCallB Tryz.prog P15 100 35 [AV.sl (Loc.mk 0 0 0) n (Cap.known c)] (st0 [Blk.cells false [Kd.int IntKind.u8] brows] ([.as_ false, PI.loop (b712I brows 0 n c (0 : Int)) Ex.ret (r712 brows l o2 n2 c2), PI.loop (b35zI brows l o2 n2 c2) Ex.ret (r035 l rows m)]))) 1 [3] (SL.mk [] [(1, .cells true [Kd.str, Kd.str] rows)] 2) (Out.ret (ren (sig 1 [3]) (AV.tup [AV.agg [AV.str l, AV.sl (Loc.mk 1 0 0) m Cap.open_, AV.nilSl], AV.int IntKind.i64 (0 : Int)])))
 ((((((((((True ∧ (decide ((↑n : Int) > (4096 : Int)) = false)) ∧ (LoopOK Tryz.prog (lbody Tryz.prog 71 0) (34) (SL.mk [(0, AV.sl (Loc.mk 0 0 0) n (Cap.known c)), (5, AV.int IntKind.i64 (0 : Int))] [(0, Blk.cells false [Kd.int IntKind.u8] brows)] 2) Ex.ret (SL.mk [(2, AV.str l), (3, AV.sl (Loc.mk 0 o2 0) n2 (Cap.known c2)), (4, AV.lit true)] [(0, Blk.cells false [Kd.int IntKind.u8] brows)] 2))) ∧ (true = true)) ∧ (true = true)) ∧ (true = true)) ∧ (true = true)) ∧ (true = true)) ∧ (true = true)) ∧ (LoopOK Tryz.prog (lbody Tryz.prog 35 0) (81) (SL.mk [(2, AV.ptr (Loc.mk 1 0 0)), (5, AV.sl (Loc.mk 0 o2 0) n2 (Cap.known c2)), (6, AV.lit true), (7, AV.ptr (Loc.mk 2 0 0))] [(0, Blk.cells false [Kd.int IntKind.u8] brows), (1, Blk.cells true [Kd.str, Kd.any, Kd.any] [[AV.str [], AV.nilSl, AV.nilSl]]), (2, Blk.cells true [Kd.str, Kd.any, Kd.any] [[AV.str l, AV.nilSl, AV.nilSl]])] 3) Ex.ret (SL.mk [(2, AV.ptr (Loc.mk 1 0 0)), (3, AV.int IntKind.i64 (0 : Int))] [(1, Blk.cells true [Kd.str, Kd.any, Kd.any] [[AV.str l, AV.sl (Loc.mk 3 0 0) m Cap.open_, AV.nilSl]]), (3, Blk.cells true [Kd.str, Kd.str] rows)] 4))) ∧ (true = true)) := by unfold Path; kernel_rfl
theorem occ2_at (p q : UInt8) {t : List UInt8} {k : Nat} (h : k + 1 < t.length) : Lib.occAt t [p, q] k = ((t[k] == p) && (t[k + 1] == q)) := by
  unfold Lib.occAt
  rw [List.drop_eq_getElem_cons (show k < t.length by omega), List.drop_eq_getElem_cons h]
  rw [Bool.eq_iff_iff]
  simp only [List.isPrefixOf, Bool.and_true, Bool.and_eq_true, beq_iff_eq]
  exact ⟨fun h => ⟨h.1.symm, h.2.symm⟩, fun h => ⟨h.1.symm, h.2.symm⟩⟩
theorem occ2_end (p q : UInt8) {t : List UInt8} {k : Nat} (h : t.length ≤ k + 1) : Lib.occAt t [p, q] k = false := by
  unfold Lib.occAt
  cases hp : ([p, q] : List UInt8).isPrefixOf (t.drop k) with
  | false => rfl
  | true =>
    rw [List.isPrefixOf_iff_prefix] at hp
    have := hp.length_le
    simp only [List.length_drop, List.length_cons, List.length_nil] at this
    omega
theorem round_a353 {o2 n2 c2 k : Nat} {l : List UInt8} (hl : l.length ≤ 1048576) (hk : k + 1 < l.length) :
    (Lib.occAt l [58, 32] k = false → BodyOK Tryz.prog (lbody Tryz.prog 35 1) 81 3 (a353I o2 n2 c2 l k) .normal (a353I o2 n2 c2 l ((k + 1 : Nat) : Int))) ∧
    (Lib.occAt l [58, 32] k = true → BodyOK Tryz.prog (lbody Tryz.prog 35 1) 81 3 (a353I o2 n2 c2 l k) (.exit 2) (a353I o2 n2 c2 l k)) := by
  have w1 : IntKind.wrap IntKind.i64 ((k : Int) + 1) = ((k + 1 : Nat) : Int) := succ64 (n := l.length) (by omega) (by omega)
  have c0 : decide (IntKind.wrap IntKind.i64 ((k : Int) + (1 : Int)) < ((List.length l : Nat) : Int)) = true := decide_eq_true (by rw [w1]; omega)
  have c1 : decide ((0 : Int) ≤ (k : Int) ∧ (k : Int) < ((List.length l : Nat) : Int)) = true := decide_eq_true (by omega)
  have c3 : decide ((0 : Int) ≤ IntKind.wrap IntKind.i64 ((k : Int) + (1 : Int)) ∧ IntKind.wrap IntKind.i64 ((k : Int) + (1 : Int)) < ((List.length l : Nat) : Int)) = true := decide_eq_true (by rw [w1]; omega)
  have i1 : ∀ (a : UInt8), (((a.toNat : Nat) : Int) == 58) = (a == 58) := fun a => u8i a 58
  have i2 : ∀ (a : UInt8), (((a.toNat : Nat) : Int) == 32) = (a == 32) := fun a => u8i a 32
  have b1 : ((UInt8.toNat (List.getD l (Int.toNat (k : Int)) (0 : UInt8)) : Nat) : Int) = ((l[k].toNat : Nat) : Int) := by rw [Int.toNat_natCast, getD_lt (show k < l.length by omega)]
  have b2 : ((UInt8.toNat (List.getD l (Int.toNat (IntKind.wrap IntKind.i64 ((k : Int) + (1 : Int)))) (0 : UInt8)) : Nat) : Int) = ((l[k + 1].toNat : Nat) : Int) := by rw [w1, Int.toNat_natCast, getD_lt hk]
  rw [occ2_at 58 32 hk]
  refine ⟨fun h => ?_, fun h => ?_⟩
  · cases h1 : l[k] == 58 with
    | false =>
      have q1 : (!((UInt8.toNat (List.getD l (Int.toNat (k : Int)) (0 : UInt8)) : Nat) : Int) == (58 : Int)) = true := by rw [b1, i1, h1]; rfl
      exact body_by P15_ok (a353_TT o2 n2 c2 l k) (by rw [w1]) ⟨⟨⟨trivial, c0⟩, c1⟩, q1⟩ rfl
    | true =>
      rw [h1, Bool.true_and] at h
      have q1 : (!((UInt8.toNat (List.getD l (Int.toNat (k : Int)) (0 : UInt8)) : Nat) : Int) == (58 : Int)) = false := by rw [b1, i1, h1]; rfl
      have q2 : (!((UInt8.toNat (List.getD l (Int.toNat (IntKind.wrap IntKind.i64 ((k : Int) + (1 : Int)))) (0 : UInt8)) : Nat) : Int) == (32 : Int)) = true := by rw [b2, i2, h]; rfl
      exact body_by P15_ok (a353_TFT o2 n2 c2 l k) (by rw [w1]) ⟨⟨⟨⟨⟨trivial, c0⟩, c1⟩, q1⟩, c3⟩, q2⟩ rfl
  · rw [Bool.and_eq_true] at h
    have q1 : (!((UInt8.toNat (List.getD l (Int.toNat (k : Int)) (0 : UInt8)) : Nat) : Int) == (58 : Int)) = false := by rw [b1, i1, h.1]; rfl
    have q2 : (!((UInt8.toNat (List.getD l (Int.toNat (IntKind.wrap IntKind.i64 ((k : Int) + (1 : Int)))) (0 : UInt8)) : Nat) : Int) == (32 : Int)) = false := by rw [b2, i2, h.2]; rfl
    exact body_by P15_ok (a353_TFF o2 n2 c2 l k) rfl ⟨⟨⟨⟨⟨trivial, c0⟩, c1⟩, q1⟩, c3⟩, q2⟩ rfl
theorem loop_a353 {o2 n2 c2 : Nat} {l : List UInt8} (hl : l.length ≤ 1048576) (hne : l ≠ []) :
    ∃ a : Nat, LoopOK Tryz.prog (lbody Tryz.prog 35 1) 81 (a353I o2 n2 c2 l 0) (.exit 2) (a353I o2 n2 c2 l a) ∧ (spFound l colon = true → a + 2 ≤ l.length ∧ l.take a = spBefore l colon ∧ l.drop (a + 2) = spAfter l colon) ∧ (spFound l colon = false → l.length ≤ a + 1 ∧ a ≤ l.length) := by
  have hpos : 0 < l.length := List.length_pos_iff.2 hne
  rcases Lib.index_spec l [58, 32] with ⟨h1, h2⟩ | ⟨i, h1, h2, h3, h4⟩
  · have hf : spFound l colon = false := by
      unfold spFound Lib.cut colon
      rw [h1]; rfl
    refine ⟨l.length - 1, ?_, fun h => (by rw [hf] at h; cases h), fun _ => by omega⟩
    refine loop_rule (X := Nat) (I := fun k => a353I o2 n2 c2 l (k : Int)) (pre := fun k => k ≤ l.length - 1) (μ := fun k => l.length - k) _ _ rfl (fun ρ => by simp [Ex.conc]) ?_ (x0 := 0) (pick := []) (Nat.zero_le _) ⟨by kernel_rfl, map_fst_snd (by kernel_rfl)⟩
    intro k hk
    by_cases hkn : k + 1 < l.length
    · left
      exact ⟨k + 1, by omega, by omega, (round_a353 hl hkn).1 (h2 k (by omega))⟩
    · right
      have hke : k = l.length - 1 := by omega
      have w1 : IntKind.wrap IntKind.i64 ((k : Int) + 1) = ((k + 1 : Nat) : Int) := succ64 (n := l.length + 1) (by omega) (by omega)
      rw [← hke]
      have c0 : decide (IntKind.wrap IntKind.i64 ((k : Int) + (1 : Int)) < ((List.length l : Nat) : Int)) = false := decide_eq_false (by rw [w1]; omega)
      exact body_by P15_ok (a353_F o2 n2 c2 l k) rfl ⟨trivial, c0⟩ rfl
  · have hin : i + 1 < l.length := by
      by_cases h : i + 1 < l.length
      · exact h
      · rw [occ2_end 58 32 (by omega)] at h3; cases h3
    have hf : spFound l colon = true := by
      unfold spFound Lib.cut colon
      rw [h1, if_pos (show 0 ≤ (i : Int) by omega)]
    have hb : spBefore l colon = l.take i := by
      unfold spBefore Lib.cut colon
      rw [h1, if_pos (show 0 ≤ (i : Int) by omega), Int.toNat_natCast]
    have ha : spAfter l colon = l.drop (i + 2) := by
      unfold spAfter Lib.cut colon
      rw [h1, if_pos (show 0 ≤ (i : Int) by omega), Int.toNat_natCast]; rfl
    refine ⟨i, ?_, fun _ => ⟨by omega, hb.symm, ha.symm⟩, fun h => (by rw [hf] at h; cases h)⟩
    refine loop_rule (X := Nat) (I := fun k => a353I o2 n2 c2 l (k : Int)) (pre := fun k => k ≤ i) (μ := fun k => i - k) _ _ rfl (fun ρ => by simp [Ex.conc]) ?_ (x0 := 0) (pick := []) (Nat.zero_le _) ⟨by kernel_rfl, map_fst_snd (by kernel_rfl)⟩
    intro k hk
    by_cases hki : k = i
    · right; subst hki; exact (round_a353 hl hin).2 h3
    · left
      exact ⟨k + 1, by omega, by omega, (round_a353 hl (by omega)).1 (h4 k (by omega))⟩
theorem round_a354 {o2 n2 c2 k : Nat} {l : List UInt8} (hl : l.length ≤ 1048576) (hk : k + 1 < l.length) :
    (Lib.occAt l [58, 32] k = false → BodyOK Tryz.prog (lbody Tryz.prog 35 1) 81 4 (a354I o2 n2 c2 l k) .normal (a354I o2 n2 c2 l ((k + 1 : Nat) : Int))) ∧
    (Lib.occAt l [58, 32] k = true → BodyOK Tryz.prog (lbody Tryz.prog 35 1) 81 4 (a354I o2 n2 c2 l k) (.exit 2) (a354I o2 n2 c2 l k)) := by
  have w1 : IntKind.wrap IntKind.i64 ((k : Int) + 1) = ((k + 1 : Nat) : Int) := succ64 (n := l.length) (by omega) (by omega)
  have c0 : decide (IntKind.wrap IntKind.i64 ((k : Int) + (1 : Int)) < ((List.length l : Nat) : Int)) = true := decide_eq_true (by rw [w1]; omega)
  have c1 : decide ((0 : Int) ≤ (k : Int) ∧ (k : Int) < ((List.length l : Nat) : Int)) = true := decide_eq_true (by omega)
  have c3 : decide ((0 : Int) ≤ IntKind.wrap IntKind.i64 ((k : Int) + (1 : Int)) ∧ IntKind.wrap IntKind.i64 ((k : Int) + (1 : Int)) < ((List.length l : Nat) : Int)) = true := decide_eq_true (by rw [w1]; omega)
  have i1 : ∀ (a : UInt8), (((a.toNat : Nat) : Int) == 58) = (a == 58) := fun a => u8i a 58
  have i2 : ∀ (a : UInt8), (((a.toNat : Nat) : Int) == 32) = (a == 32) := fun a => u8i a 32
  have b1 : ((UInt8.toNat (List.getD l (Int.toNat (k : Int)) (0 : UInt8)) : Nat) : Int) = ((l[k].toNat : Nat) : Int) := by rw [Int.toNat_natCast, getD_lt (show k < l.length by omega)]
  have b2 : ((UInt8.toNat (List.getD l (Int.toNat (IntKind.wrap IntKind.i64 ((k : Int) + (1 : Int)))) (0 : UInt8)) : Nat) : Int) = ((l[k + 1].toNat : Nat) : Int) := by rw [w1, Int.toNat_natCast, getD_lt hk]
  rw [occ2_at 58 32 hk]
  refine ⟨fun h => ?_, fun h => ?_⟩
  · cases h1 : l[k] == 58 with
    | false =>
      have q1 : (!((UInt8.toNat (List.getD l (Int.toNat (k : Int)) (0 : UInt8)) : Nat) : Int) == (58 : Int)) = true := by rw [b1, i1, h1]; rfl
      exact body_by P15_ok (a354_TT o2 n2 c2 l k) (by rw [w1]) ⟨⟨⟨trivial, c0⟩, c1⟩, q1⟩ rfl
    | true =>
      rw [h1, Bool.true_and] at h
      have q1 : (!((UInt8.toNat (List.getD l (Int.toNat (k : Int)) (0 : UInt8)) : Nat) : Int) == (58 : Int)) = false := by rw [b1, i1, h1]; rfl
      have q2 : (!((UInt8.toNat (List.getD l (Int.toNat (IntKind.wrap IntKind.i64 ((k : Int) + (1 : Int)))) (0 : UInt8)) : Nat) : Int) == (32 : Int)) = true := by rw [b2, i2, h]; rfl
      exact body_by P15_ok (a354_TFT o2 n2 c2 l k) (by rw [w1]) ⟨⟨⟨⟨⟨trivial, c0⟩, c1⟩, q1⟩, c3⟩, q2⟩ rfl
  · rw [Bool.and_eq_true] at h
    have q1 : (!((UInt8.toNat (List.getD l (Int.toNat (k : Int)) (0 : UInt8)) : Nat) : Int) == (58 : Int)) = false := by rw [b1, i1, h.1]; rfl
    have q2 : (!((UInt8.toNat (List.getD l (Int.toNat (IntKind.wrap IntKind.i64 ((k : Int) + (1 : Int)))) (0 : UInt8)) : Nat) : Int) == (32 : Int)) = false := by rw [b2, i2, h.2]; rfl
    exact body_by P15_ok (a354_TFF o2 n2 c2 l k) rfl ⟨⟨⟨⟨⟨trivial, c0⟩, c1⟩, q1⟩, c3⟩, q2⟩ rfl
theorem loop_a354 {o2 n2 c2 : Nat} {l : List UInt8} (hl : l.length ≤ 1048576) (hne : l ≠ []) :
    ∃ a : Nat, LoopOK Tryz.prog (lbody Tryz.prog 35 1) 81 (a354I o2 n2 c2 l 0) (.exit 2) (a354I o2 n2 c2 l a) ∧ (spFound l colon = true → a + 2 ≤ l.length ∧ l.take a = spBefore l colon ∧ l.drop (a + 2) = spAfter l colon) ∧ (spFound l colon = false → l.length ≤ a + 1 ∧ a ≤ l.length) := by
  have hpos : 0 < l.length := List.length_pos_iff.2 hne
  rcases Lib.index_spec l [58, 32] with ⟨h1, h2⟩ | ⟨i, h1, h2, h3, h4⟩
  · have hf : spFound l colon = false := by
      unfold spFound Lib.cut colon
      rw [h1]; rfl
    refine ⟨l.length - 1, ?_, fun h => (by rw [hf] at h; cases h), fun _ => by omega⟩
    refine loop_rule (X := Nat) (I := fun k => a354I o2 n2 c2 l (k : Int)) (pre := fun k => k ≤ l.length - 1) (μ := fun k => l.length - k) _ _ rfl (fun ρ => by simp [Ex.conc]) ?_ (x0 := 0) (pick := []) (Nat.zero_le _) ⟨by kernel_rfl, map_fst_snd (by kernel_rfl)⟩
    intro k hk
    by_cases hkn : k + 1 < l.length
    · left
      exact ⟨k + 1, by omega, by omega, (round_a354 hl hkn).1 (h2 k (by omega))⟩
    · right
      have hke : k = l.length - 1 := by omega
      have w1 : IntKind.wrap IntKind.i64 ((k : Int) + 1) = ((k + 1 : Nat) : Int) := succ64 (n := l.length + 1) (by omega) (by omega)
      rw [← hke]
      have c0 : decide (IntKind.wrap IntKind.i64 ((k : Int) + (1 : Int)) < ((List.length l : Nat) : Int)) = false := decide_eq_false (by rw [w1]; omega)
      exact body_by P15_ok (a354_F o2 n2 c2 l k) rfl ⟨trivial, c0⟩ rfl
  · have hin : i + 1 < l.length := by
      by_cases h : i + 1 < l.length
      · exact h
      · rw [occ2_end 58 32 (by omega)] at h3; cases h3
    have hf : spFound l colon = true := by
      unfold spFound Lib.cut colon
      rw [h1, if_pos (show 0 ≤ (i : Int) by omega)]
    have hb : spBefore l colon = l.take i := by
      unfold spBefore Lib.cut colon
      rw [h1, if_pos (show 0 ≤ (i : Int) by omega), Int.toNat_natCast]
    have ha : spAfter l colon = l.drop (i + 2) := by
      unfold spAfter Lib.cut colon
      rw [h1, if_pos (show 0 ≤ (i : Int) by omega), Int.toNat_natCast]; rfl
    refine ⟨i, ?_, fun _ => ⟨by omega, hb.symm, ha.symm⟩, fun h => (by rw [hf] at h; cases h)⟩
    refine loop_rule (X := Nat) (I := fun k => a354I o2 n2 c2 l (k : Int)) (pre := fun k => k ≤ i) (μ := fun k => i - k) _ _ rfl (fun ρ => by simp [Ex.conc]) ?_ (x0 := 0) (pick := []) (Nat.zero_le _) ⟨by kernel_rfl, map_fst_snd (by kernel_rfl)⟩
    intro k hk
    by_cases hki : k = i
    · right; subst hki; exact (round_a354 hl hin).2 h3
    · left
      exact ⟨k + 1, by omega, by omega, (round_a354 hl (by omega)).1 (h4 k (by omega))⟩
structure Ok35 (s : List UInt8) (o n c : Nat) (rows : List (List AV)) : Prop where
  ho : o + n ≤ s.length
  hc : n ≤ c
  sh : rows.all short = true
  sz : 2 * rows.length + n ≤ s.length
def I35 (s start : List UInt8) : Nat × Nat × Nat × List (List AV) → SL
  | (o, n, c, []) => b35zI (byteRows s) start o n c
  | (o, n, c, r :: rs) => b35I (byteRows s) start o n c (r :: rs) (r :: rs).length
def rs35 (start : List UInt8) (rows : List (List AV)) (body : List UInt8) : SL := if body.length = 0 then r035 start rows rows.length else rb35 start rows rows.length (byteRows body) body.length
theorem sub_rowsB (s : List UInt8) (o n : Nat) : sub (byteRows s) o n = byteRows (sub s o n) := by
  unfold byteRows
  exact (sub_map byteRow s o n).symm
theorem refright_nil (start : List UInt8) (n : Nat) : spRefRight start [] n = false := by
  rw [refRight_eq]
  unfold spRight
  simp [nLens]
theorem rd35z {s start : List UInt8} {o n c : Nat} (hs : s.length ≤ 4096) (hst : start.length ≤ 4096) (ok : Ok35 s o n c []) :
    (spFound (sub s o n) crlf = false → BodyOK Tryz.prog (lbody Tryz.prog 35 0) 81 3 (I35 s start (o, n, c, [])) (.exit 0) re35) ∧
    (spFound (sub s o n) crlf = true → spBefore (sub s o n) crlf = [] → spRefRight start [] (spAfter (sub s o n) crlf).length = false → BodyOK Tryz.prog (lbody Tryz.prog 35 0) 81 3 (I35 s start (o, n, c, [])) (.exit 0) re35) ∧
    (spFound (sub s o n) crlf = true → spBefore (sub s o n) crlf ≠ [] → hasColon (spBefore (sub s o n) crlf) = false → BodyOK Tryz.prog (lbody Tryz.prog 35 0) 81 3 (I35 s start (o, n, c, [])) (.exit 0) re35) ∧
    (spFound (sub s o n) crlf = true → spBefore (sub s o n) crlf ≠ [] → hasColon (spBefore (sub s o n) crlf) = true → ∃ o2 n2 c2, BodyOK Tryz.prog (lbody Tryz.prog 35 0) 81 3 (I35 s start (o, n, c, [])) .normal (I35 s start (o2, n2, c2, [] ++ [hrow (spBefore (sub s o n) crlf)])) ∧ Ok35 s o2 n2 c2 ([] ++ [hrow (spBefore (sub s o n) crlf)]) ∧ sub s o2 n2 = spAfter (sub s o n) crlf ∧ n2 < n) ∧
    (spFound (sub s o n) crlf = true → spBefore (sub s o n) crlf = [] → spRefRight start [] (spAfter (sub s o n) crlf).length = true → BodyOK Tryz.prog (lbody Tryz.prog 35 0) 81 3 (I35 s start (o, n, c, [])) .ret (rs35 start [] (spAfter (sub s o n) crlf))) := by
  have hll : (sub s o n).length = n := sub_length ok.ho
  have hosz := ok.ho
  have hsz := ok.sz
  obtain ⟨l0, l1⟩ := loop713 (s := s) (o := o) (n := n) (c := c) ok.ho ok.hc (by omega)
  refine ⟨fun hf => ?_, fun hf hb0 hr => ?_, fun hf hb0 hcol => ?_, fun hf hb0 hcol => ?_, fun hf hb0 hr => ?_⟩
  · have hl := l0 hf
    exact body_by P15_ok (b35z_L (byteRows s) start o n c [] 0 0 0 0) rfl ⟨trivial, hl⟩ rfl
  · obtain ⟨o2, n2, c2, hl, k1, k2, k3, k4⟩ := l1 hf
    have hb : (spBefore (sub s o n) [13, 10] == []) = true := by
      have : spBefore (sub s o n) [13, 10] = [] := hb0
      rw [this]; rfl
    have hn2 : (spAfter (sub s o n) crlf).length = n2 := by
      have := congrArg List.length k3
      rw [sub_length k1] at this
      exact this.symm
    have c5 : decide (o2 + n2 ≤ List.length (byteRows s)) = true := decide_eq_true (by rw [byteRows_length]; exact k1)
    have e1 : (sub (byteRows s) o2 n2).length = n2 := sub_length (by rw [byteRows_length]; exact k1)
    have e2 : sub (sub (byteRows s) o2 n2) 0 n2 = sub (byteRows s) o2 n2 := sub_all _ e1.symm
    have hsh := ok.sh
    by_cases h0 : 0 < n2
    · have c6 : decide (0 < n2) = true := decide_eq_true h0
      have c7 : decide (n2 * 1 ≤ 140737488355328) = true := decide_eq_true (by omega)
      have c8 : (true && (decide (0 + n2 ≤ List.length (sub (byteRows s) o2 n2)) && decide (List.length start ≤ 4294967200 ∧ true = true ∧ List.length (sub (sub (byteRows s) o2 n2) (0) n2) ≤ 140737488355328))) = true := by
        rw [e2, e1]; simp only [Bool.and_eq_true, decide_eq_true_eq, Bool.true_and]; exact ⟨by omega, by omega, by trivial, by omega⟩
      have c9 : (!spRefRight start [] (List.length (sub (sub (byteRows s) o2 n2) (0) n2))) = true := by rw [e2, e1, ← hn2, hr]; rfl
      exact body_by P15_ok (b35z_LTTT (byteRows s) start o n c (spBefore (sub s o n) [13, 10]) o2 n2 c2 0) rfl ⟨⟨⟨⟨⟨⟨⟨⟨⟨⟨⟨trivial, hl⟩, hb⟩, rfl⟩, c5⟩, c6⟩, c7⟩, rfl⟩, rfl⟩, rfl⟩, c8⟩, c9⟩ rfl
    · have hz : n2 = 0 := by omega
      have c6 : decide (0 < n2) = false := decide_eq_false h0
      have c8 : (true && (true && decide (List.length start ≤ 4294967200 ∧ true = true ∧ 0 ≤ 140737488355328))) = true := by
        simp only [Bool.and_eq_true, decide_eq_true_eq, Bool.true_and]; exact ⟨by omega, by trivial, by omega⟩
      have c9 : (!spRefRight start [] 0) = true := by rw [← hz, ← hn2, hr]; rfl
      exact body_by P15_ok (b35z_LTFT (byteRows s) start o n c (spBefore (sub s o n) [13, 10]) o2 n2 c2 0) rfl ⟨⟨⟨⟨⟨⟨⟨⟨⟨⟨trivial, hl⟩, hb⟩, rfl⟩, c5⟩, c6⟩, rfl⟩, rfl⟩, rfl⟩, c8⟩, c9⟩ rfl
  · obtain ⟨o2, n2, c2, hl, k1, k2, k3, k4⟩ := l1 hf
    have hb : (spBefore (sub s o n) [13, 10] == []) = false := by rw [beq_eq_false_iff_ne]; exact hb0
    have hbl := len_before (sub s o n) [13, 10]
    obtain ⟨a, ha, _, a2⟩ := loop_a353 (o2 := o2) (n2 := n2) (c2 := c2) (l := spBefore (sub s o n) [13, 10]) (by omega) hb0
    obtain ⟨a3, a4⟩ := a2 hcol
    have w1 : IntKind.wrap IntKind.i64 ((a : Int) + 1) = ((a + 1 : Nat) : Int) := succ64 (n := a + 1) (by omega) (by omega)
    have c1 : decide (IntKind.wrap IntKind.i64 ((a : Int) + (1 : Int)) ≥ ((List.length (spBefore (sub s o n) [13, 10]) : Nat) : Int)) = true := decide_eq_true (by rw [w1]; omega)
    exact body_by P15_ok (b35z_LFLT (byteRows s) start o n c (spBefore (sub s o n) [13, 10]) o2 n2 c2 a) rfl ⟨⟨⟨⟨trivial, hl⟩, hb⟩, ha⟩, c1⟩ rfl
  · obtain ⟨o2, n2, c2, hl, k1, k2, k3, k4⟩ := l1 hf
    have hb : (spBefore (sub s o n) [13, 10] == []) = false := by rw [beq_eq_false_iff_ne]; exact hb0
    have hbl := len_before (sub s o n) [13, 10]
    obtain ⟨a, ha, a1, _⟩ := loop_a353 (o2 := o2) (n2 := n2) (c2 := c2) (l := spBefore (sub s o n) [13, 10]) (by omega) hb0
    obtain ⟨a3, a4, a5⟩ := a1 hcol
    have w1 : IntKind.wrap IntKind.i64 ((a : Int) + 1) = ((a + 1 : Nat) : Int) := succ64 (n := a + 1) (by omega) (by omega)
    have w2 : IntKind.wrap IntKind.i64 ((a : Int) + 2) = ((a + 2 : Nat) : Int) := by rw [IntWalk.i64_in _ (by omega)]; omega
    have c1 : decide (IntKind.wrap IntKind.i64 ((a : Int) + (1 : Int)) ≥ ((List.length (spBefore (sub s o n) [13, 10]) : Nat) : Int)) = false := decide_eq_false (by rw [w1]; omega)
    have d2 : decide ((0 : Int) ≤ (0 : Int) ∧ (0 : Int) ≤ (a : Int) ∧ (a : Int) ≤ ((List.length (spBefore (sub s o n) [13, 10]) : Nat) : Int)) = true := decide_eq_true (by omega)
    have c3 : decide ((0 : Int) ≤ IntKind.wrap IntKind.i64 ((a : Int) + (2 : Int)) ∧ IntKind.wrap IntKind.i64 ((a : Int) + (2 : Int)) ≤ ((List.length (spBefore (sub s o n) [13, 10]) : Nat) : Int) ∧ ((List.length (spBefore (sub s o n) [13, 10]) : Nat) : Int) ≤ ((List.length (spBefore (sub s o n) [13, 10]) : Nat) : Int)) = true := decide_eq_true (by rw [w2]; omega)
    have eR : ([AV.str (sub (spBefore (sub s o n) [13, 10]) 0 (Int.toNat (a : Int) - 0)), AV.str (sub (spBefore (sub s o n) [13, 10]) (Int.toNat (IntKind.wrap IntKind.i64 ((a : Int) + (2 : Int)))) (Int.toNat ((List.length (spBefore (sub s o n) [13, 10]) : Nat) : Int) - Int.toNat (IntKind.wrap IntKind.i64 ((a : Int) + (2 : Int)))))] : List AV) = hrow (spBefore (sub s o n) crlf) := by
      rw [w2, Int.toNat_natCast, Int.toNat_natCast, Int.toNat_natCast]
      have f1 : sub (spBefore (sub s o n) [13, 10]) 0 (a - 0) = spBefore (spBefore (sub s o n) crlf) colon := a4
      have f2 : sub (spBefore (sub s o n) [13, 10]) (a + 2) ((spBefore (sub s o n) [13, 10]).length - (a + 2)) = spAfter (spBefore (sub s o n) crlf) colon := by
        unfold sub
        rw [List.take_of_length_le (by rw [List.length_drop]; omega)]
        exact a5
      rw [f1, f2]; rfl
    have hin : n2 + 2 ≤ n := k4
    have hbody := body_by P15_ok (b35z_LFLFE (byteRows s) start o n c (spBefore (sub s o n) [13, 10]) o2 n2 c2 a) (by rw [eR]) ⟨⟨⟨⟨⟨⟨⟨⟨⟨⟨⟨trivial, hl⟩, hb⟩, ha⟩, c1⟩, rfl⟩, d2⟩, c3⟩, rfl⟩, rfl⟩, rfl⟩, rfl⟩ rfl
    refine ⟨o2, n2, c2, hbody.to ?_, ⟨k1, k2, ?_, ?_⟩, k3, by omega⟩
    · rfl
    · rw [List.all_append, ok.sh, Bool.true_and]
      have f1 := len_before (spBefore (sub s o n) crlf) colon
      have f2 := len_after (spBefore (sub s o n) crlf) colon
      have hbl' : (spBefore (sub s o n) crlf).length ≤ (sub s o n).length := hbl
      have : short (hrow (spBefore (sub s o n) crlf)) = true := decide_eq_true (by unfold hN hV hrow; show (spBefore (spBefore (sub s o n) crlf) colon).length ≤ _ ∧ (spAfter (spBefore (sub s o n) crlf) colon).length ≤ _; omega)
      simp [this]
    · rw [List.length_append]
      simp only [List.length_cons, List.length_nil] at *
      omega
  · rw [refright_nil] at hr; cases hr
theorem rd35n {s start : List UInt8} {o n c : Nat} {r : List AV} {rs : List (List AV)} (hs : s.length ≤ 4096) (hst : start.length ≤ 4096) (ok : Ok35 s o n c (r :: rs)) :
    (spFound (sub s o n) crlf = false → BodyOK Tryz.prog (lbody Tryz.prog 35 0) 81 3 (I35 s start (o, n, c, (r :: rs))) (.exit 0) re35) ∧
    (spFound (sub s o n) crlf = true → spBefore (sub s o n) crlf = [] → spRefRight start (r :: rs) (spAfter (sub s o n) crlf).length = false → BodyOK Tryz.prog (lbody Tryz.prog 35 0) 81 3 (I35 s start (o, n, c, (r :: rs))) (.exit 0) re35) ∧
    (spFound (sub s o n) crlf = true → spBefore (sub s o n) crlf ≠ [] → hasColon (spBefore (sub s o n) crlf) = false → BodyOK Tryz.prog (lbody Tryz.prog 35 0) 81 3 (I35 s start (o, n, c, (r :: rs))) (.exit 0) re35) ∧
    (spFound (sub s o n) crlf = true → spBefore (sub s o n) crlf ≠ [] → hasColon (spBefore (sub s o n) crlf) = true → ∃ o2 n2 c2, BodyOK Tryz.prog (lbody Tryz.prog 35 0) 81 3 (I35 s start (o, n, c, (r :: rs))) .normal (I35 s start (o2, n2, c2, (r :: rs) ++ [hrow (spBefore (sub s o n) crlf)])) ∧ Ok35 s o2 n2 c2 ((r :: rs) ++ [hrow (spBefore (sub s o n) crlf)]) ∧ sub s o2 n2 = spAfter (sub s o n) crlf ∧ n2 < n) ∧
    (spFound (sub s o n) crlf = true → spBefore (sub s o n) crlf = [] → spRefRight start (r :: rs) (spAfter (sub s o n) crlf).length = true → BodyOK Tryz.prog (lbody Tryz.prog 35 0) 81 3 (I35 s start (o, n, c, (r :: rs))) .ret (rs35 start (r :: rs) (spAfter (sub s o n) crlf))) := by
  have hll : (sub s o n).length = n := sub_length ok.ho
  have hosz := ok.ho
  have hsz := ok.sz
  obtain ⟨l0, l1⟩ := loop714 (s := s) (o := o) (n := n) (c := c) ok.ho ok.hc (by omega)
  refine ⟨fun hf => ?_, fun hf hb0 hr => ?_, fun hf hb0 hcol => ?_, fun hf hb0 hcol => ?_, fun hf hb0 hr => ?_⟩
  · have hl := l0 hf
    exact body_by P15_ok (b35n_L (byteRows s) start o n c (r :: rs) (r :: rs).length [] 0 0 0 0) rfl ⟨trivial, hl⟩ rfl
  · obtain ⟨o2, n2, c2, hl, k1, k2, k3, k4⟩ := l1 hf
    have hb : (spBefore (sub s o n) [13, 10] == []) = true := by
      have : spBefore (sub s o n) [13, 10] = [] := hb0
      rw [this]; rfl
    have hn2 : (spAfter (sub s o n) crlf).length = n2 := by
      have := congrArg List.length k3
      rw [sub_length k1] at this
      exact this.symm
    have c5 : decide (o2 + n2 ≤ List.length (byteRows s)) = true := decide_eq_true (by rw [byteRows_length]; exact k1)
    have e1 : (sub (byteRows s) o2 n2).length = n2 := sub_length (by rw [byteRows_length]; exact k1)
    have e2 : sub (sub (byteRows s) o2 n2) 0 n2 = sub (byteRows s) o2 n2 := sub_all _ e1.symm
    have hsh := ok.sh
    by_cases h0 : 0 < n2
    · have c6 : decide (0 < n2) = true := decide_eq_true h0
      have c7 : decide (n2 * 1 ≤ 140737488355328) = true := decide_eq_true (by omega)
      have c8 : (decide (0 + (r :: rs).length ≤ List.length (r :: rs)) && (decide (0 + n2 ≤ List.length (sub (byteRows s) o2 n2)) && decide (List.length start ≤ 4294967200 ∧ List.all (sub (r :: rs) 0 (r :: rs).length) short = true ∧ List.length (sub (sub (byteRows s) o2 n2) (0) n2) ≤ 140737488355328))) = true := by
        rw [e2, e1, sub_all (r :: rs) rfl]; simp only [Bool.and_eq_true, decide_eq_true_eq, Bool.true_and]; exact ⟨by omega, by omega, by omega, hsh, by omega⟩
      have c9 : (!spRefRight start (sub (r :: rs) 0 (r :: rs).length) (List.length (sub (sub (byteRows s) o2 n2) (0) n2))) = true := by rw [e2, e1, sub_all (r :: rs) rfl, ← hn2, hr]; rfl
      exact body_by P15_ok (b35n_LTTT (byteRows s) start o n c (r :: rs) (r :: rs).length (spBefore (sub s o n) [13, 10]) o2 n2 c2 0) rfl ⟨⟨⟨⟨⟨⟨⟨⟨⟨⟨⟨trivial, hl⟩, hb⟩, rfl⟩, c5⟩, c6⟩, c7⟩, rfl⟩, rfl⟩, rfl⟩, c8⟩, c9⟩ rfl
    · have hz : n2 = 0 := by omega
      have c6 : decide (0 < n2) = false := decide_eq_false h0
      have c8 : (decide (0 + (r :: rs).length ≤ List.length (r :: rs)) && (true && decide (List.length start ≤ 4294967200 ∧ List.all (sub (r :: rs) 0 (r :: rs).length) short = true ∧ 0 ≤ 140737488355328))) = true := by
        rw [sub_all (r :: rs) rfl]; simp only [Bool.and_eq_true, decide_eq_true_eq, Bool.true_and]; exact ⟨by omega, by omega, hsh, by omega⟩
      have c9 : (!spRefRight start (sub (r :: rs) 0 (r :: rs).length) 0) = true := by rw [sub_all (r :: rs) rfl]; rw [← hz, ← hn2, hr]; rfl
      exact body_by P15_ok (b35n_LTFT (byteRows s) start o n c (r :: rs) (r :: rs).length (spBefore (sub s o n) [13, 10]) o2 n2 c2 0) rfl ⟨⟨⟨⟨⟨⟨⟨⟨⟨⟨trivial, hl⟩, hb⟩, rfl⟩, c5⟩, c6⟩, rfl⟩, rfl⟩, rfl⟩, c8⟩, c9⟩ rfl
  · obtain ⟨o2, n2, c2, hl, k1, k2, k3, k4⟩ := l1 hf
    have hb : (spBefore (sub s o n) [13, 10] == []) = false := by rw [beq_eq_false_iff_ne]; exact hb0
    have hbl := len_before (sub s o n) [13, 10]
    obtain ⟨a, ha, _, a2⟩ := loop_a354 (o2 := o2) (n2 := n2) (c2 := c2) (l := spBefore (sub s o n) [13, 10]) (by omega) hb0
    obtain ⟨a3, a4⟩ := a2 hcol
    have w1 : IntKind.wrap IntKind.i64 ((a : Int) + 1) = ((a + 1 : Nat) : Int) := succ64 (n := a + 1) (by omega) (by omega)
    have c1 : decide (IntKind.wrap IntKind.i64 ((a : Int) + (1 : Int)) ≥ ((List.length (spBefore (sub s o n) [13, 10]) : Nat) : Int)) = true := decide_eq_true (by rw [w1]; omega)
    exact body_by P15_ok (b35n_LFLT (byteRows s) start o n c (r :: rs) (r :: rs).length (spBefore (sub s o n) [13, 10]) o2 n2 c2 a) rfl ⟨⟨⟨⟨trivial, hl⟩, hb⟩, ha⟩, c1⟩ rfl
  · obtain ⟨o2, n2, c2, hl, k1, k2, k3, k4⟩ := l1 hf
    have hb : (spBefore (sub s o n) [13, 10] == []) = false := by rw [beq_eq_false_iff_ne]; exact hb0
    have hbl := len_before (sub s o n) [13, 10]
    obtain ⟨a, ha, a1, _⟩ := loop_a354 (o2 := o2) (n2 := n2) (c2 := c2) (l := spBefore (sub s o n) [13, 10]) (by omega) hb0
    obtain ⟨a3, a4, a5⟩ := a1 hcol
    have w1 : IntKind.wrap IntKind.i64 ((a : Int) + 1) = ((a + 1 : Nat) : Int) := succ64 (n := a + 1) (by omega) (by omega)
    have w2 : IntKind.wrap IntKind.i64 ((a : Int) + 2) = ((a + 2 : Nat) : Int) := by rw [IntWalk.i64_in _ (by omega)]; omega
    have c1 : decide (IntKind.wrap IntKind.i64 ((a : Int) + (1 : Int)) ≥ ((List.length (spBefore (sub s o n) [13, 10]) : Nat) : Int)) = false := decide_eq_false (by rw [w1]; omega)
    have d2 : decide ((0 : Int) ≤ (0 : Int) ∧ (0 : Int) ≤ (a : Int) ∧ (a : Int) ≤ ((List.length (spBefore (sub s o n) [13, 10]) : Nat) : Int)) = true := decide_eq_true (by omega)
    have c3 : decide ((0 : Int) ≤ IntKind.wrap IntKind.i64 ((a : Int) + (2 : Int)) ∧ IntKind.wrap IntKind.i64 ((a : Int) + (2 : Int)) ≤ ((List.length (spBefore (sub s o n) [13, 10]) : Nat) : Int) ∧ ((List.length (spBefore (sub s o n) [13, 10]) : Nat) : Int) ≤ ((List.length (spBefore (sub s o n) [13, 10]) : Nat) : Int)) = true := decide_eq_true (by rw [w2]; omega)
    have eR : ([AV.str (sub (spBefore (sub s o n) [13, 10]) 0 (Int.toNat (a : Int) - 0)), AV.str (sub (spBefore (sub s o n) [13, 10]) (Int.toNat (IntKind.wrap IntKind.i64 ((a : Int) + (2 : Int)))) (Int.toNat ((List.length (spBefore (sub s o n) [13, 10]) : Nat) : Int) - Int.toNat (IntKind.wrap IntKind.i64 ((a : Int) + (2 : Int)))))] : List AV) = hrow (spBefore (sub s o n) crlf) := by
      rw [w2, Int.toNat_natCast, Int.toNat_natCast, Int.toNat_natCast]
      have f1 : sub (spBefore (sub s o n) [13, 10]) 0 (a - 0) = spBefore (spBefore (sub s o n) crlf) colon := a4
      have f2 : sub (spBefore (sub s o n) [13, 10]) (a + 2) ((spBefore (sub s o n) [13, 10]).length - (a + 2)) = spAfter (spBefore (sub s o n) crlf) colon := by
        unfold sub
        rw [List.take_of_length_le (by rw [List.length_drop]; omega)]
        exact a5
      rw [f1, f2]; rfl
    have hin : n2 + 2 ≤ n := k4
    have c4 : decide (((r :: rs).length + 1) * 32 ≤ 140737488355328) = true := decide_eq_true (by omega)
    have hbody := body_by P15_ok (b35n_LFLF (byteRows s) start o n c (r :: rs) (r :: rs).length (spBefore (sub s o n) [13, 10]) o2 n2 c2 a) (by rw [eR]) ⟨⟨⟨⟨⟨⟨⟨⟨⟨⟨⟨⟨trivial, hl⟩, hb⟩, ha⟩, c1⟩, rfl⟩, d2⟩, c3⟩, rfl⟩, (decide_eq_true ⟨rfl, rfl⟩)⟩, c4⟩, rfl⟩, rfl⟩ rfl
    refine ⟨o2, n2, c2, hbody.to ?_, ⟨k1, k2, ?_, ?_⟩, k3, by omega⟩
    · show b35I _ _ _ _ _ _ _ = b35I (byteRows s) start o2 n2 c2 ((r :: rs) ++ [hrow (spBefore (sub s o n) crlf)]) ((r :: rs) ++ [hrow (spBefore (sub s o n) crlf)]).length
      rw [List.length_append]; rfl
    · rw [List.all_append, ok.sh, Bool.true_and]
      have f1 := len_before (spBefore (sub s o n) crlf) colon
      have f2 := len_after (spBefore (sub s o n) crlf) colon
      have hbl' : (spBefore (sub s o n) crlf).length ≤ (sub s o n).length := hbl
      have : short (hrow (spBefore (sub s o n) crlf)) = true := decide_eq_true (by unfold hN hV hrow; show (spBefore (spBefore (sub s o n) crlf) colon).length ≤ _ ∧ (spAfter (spBefore (sub s o n) crlf) colon).length ≤ _; omega)
      simp [this]
    · rw [List.length_append]
      simp only [List.length_cons, List.length_nil] at *
      omega
  · obtain ⟨o2, n2, c2, hl, k1, k2, k3, k4⟩ := l1 hf
    have hb : (spBefore (sub s o n) [13, 10] == []) = true := by
      have : spBefore (sub s o n) [13, 10] = [] := hb0
      rw [this]; rfl
    have hn2 : (spAfter (sub s o n) crlf).length = n2 := by
      have := congrArg List.length k3
      rw [sub_length k1] at this
      exact this.symm
    have c5 : decide (o2 + n2 ≤ List.length (byteRows s)) = true := decide_eq_true (by rw [byteRows_length]; exact k1)
    have e1 : (sub (byteRows s) o2 n2).length = n2 := sub_length (by rw [byteRows_length]; exact k1)
    have e2 : sub (sub (byteRows s) o2 n2) 0 n2 = sub (byteRows s) o2 n2 := sub_all _ e1.symm
    have hsh := ok.sh
    unfold rs35
    by_cases h0 : 0 < n2
    · have c6 : decide (0 < n2) = true := decide_eq_true h0
      have c7 : decide (n2 * 1 ≤ 140737488355328) = true := decide_eq_true (by omega)
      have c8 : (decide (0 + (r :: rs).length ≤ List.length (r :: rs)) && (decide (0 + n2 ≤ List.length (sub (byteRows s) o2 n2)) && decide (List.length start ≤ 4294967200 ∧ List.all (sub (r :: rs) 0 (r :: rs).length) short = true ∧ List.length (sub (sub (byteRows s) o2 n2) (0) n2) ≤ 140737488355328))) = true := by
        rw [e2, e1, sub_all (r :: rs) rfl]; simp only [Bool.and_eq_true, decide_eq_true_eq, Bool.true_and]; exact ⟨by omega, by omega, by omega, hsh, by omega⟩
      have c9 : (!spRefRight start (sub (r :: rs) 0 (r :: rs).length) (List.length (sub (sub (byteRows s) o2 n2) (0) n2))) = false := by rw [e2, e1, sub_all (r :: rs) rfl, ← hn2, hr]; rfl
      rw [if_neg (by omega)]
      have k3' : sub s o2 n2 = spAfter (sub s o n) crlf := k3
      exact body_by P15_ok (b35n_LTTF (byteRows s) start o n c (r :: rs) (r :: rs).length (spBefore (sub s o n) [13, 10]) o2 n2 c2 0) (by rw [sub_rowsB, k3', hn2]) ⟨⟨⟨⟨⟨⟨⟨⟨⟨⟨⟨⟨⟨⟨⟨⟨⟨⟨trivial, hl⟩, hb⟩, rfl⟩, c5⟩, c6⟩, c7⟩, rfl⟩, rfl⟩, rfl⟩, c8⟩, c9⟩, rfl⟩, rfl⟩, rfl⟩, rfl⟩, rfl⟩, rfl⟩, rfl⟩ rfl
    · have hz : n2 = 0 := by omega
      have c6 : decide (0 < n2) = false := decide_eq_false h0
      have c8 : (decide (0 + (r :: rs).length ≤ List.length (r :: rs)) && (true && decide (List.length start ≤ 4294967200 ∧ List.all (sub (r :: rs) 0 (r :: rs).length) short = true ∧ 0 ≤ 140737488355328))) = true := by
        rw [sub_all (r :: rs) rfl]; simp only [Bool.and_eq_true, decide_eq_true_eq, Bool.true_and]; exact ⟨by omega, by omega, hsh, by omega⟩
      have c9 : (!spRefRight start (sub (r :: rs) 0 (r :: rs).length) 0) = false := by rw [sub_all (r :: rs) rfl]; rw [← hz, ← hn2, hr]; rfl
      rw [if_pos (by omega)]
      exact body_by P15_ok (b35n_LTFF (byteRows s) start o n c (r :: rs) (r :: rs).length (spBefore (sub s o n) [13, 10]) o2 n2 c2 0) rfl ⟨⟨⟨⟨⟨⟨⟨⟨⟨⟨⟨⟨⟨⟨⟨⟨⟨trivial, hl⟩, hb⟩, rfl⟩, c5⟩, c6⟩, rfl⟩, rfl⟩, rfl⟩, c8⟩, c9⟩, rfl⟩, rfl⟩, rfl⟩, rfl⟩, rfl⟩, rfl⟩, rfl⟩ rfl
theorem rp_fuel : ∀ (n m : Nat) (s : List UInt8), s.length < n → s.length < m → spRP n s = spRP m s
  | 0, _, _, h, _ => absurd h (Nat.not_lt_zero _)
  | _, 0, _, _, h => absurd h (Nat.not_lt_zero _)
  | n + 1, m + 1, s, h1, h2 => by
    unfold spRP
    cases hf : spFound s crlf with
    | false => rfl
    | true =>
      have hl := congrArg List.length (cut_back hf)
      have hc2 : crlf.length = 2 := rfl
      simp only [List.length_append, hc2] at hl
      rw [cond_true, cond_true, rp_fuel n m _ (by omega) (by omega)]
def spRPs (s : List UInt8) : Option (List (List AV) × List UInt8) := spRP (s.length + 1) s
theorem rps_step (s : List UInt8) : spRPs s = bif spFound s crlf then (bif spBefore s crlf == [] then some ([], spAfter s crlf) else bif hasColon (spBefore s crlf) then (spRPs (spAfter s crlf)).map (fun p => (hrow (spBefore s crlf) :: p.1, p.2)) else none) else none := by
  unfold spRPs
  rw [spRP]
  cases hf : spFound s crlf with
  | false => rfl
  | true =>
    have hl := congrArg List.length (cut_back hf)
    have hc2 : crlf.length = 2 := rfl
    simp only [List.length_append, hc2] at hl
    rw [rp_fuel s.length ((spAfter s crlf).length + 1) _ (by omega) (by omega)]
def rpF (rows : List (List AV)) (s : List UInt8) : Option (List (List AV) × List UInt8) := (spRPs s).map fun p => (rows ++ p.1, p.2)
theorem rpF_next {rows : List (List AV)} {s : List UInt8} (h1 : spFound s crlf = true) (h2 : spBefore s crlf ≠ []) (h3 : hasColon (spBefore s crlf) = true) : rpF rows s = rpF (rows ++ [hrow (spBefore s crlf)]) (spAfter s crlf) := by
  unfold rpF
  rw [rps_step s, h1, h3]
  have : (spBefore s crlf == []) = false := by rw [beq_eq_false_iff_ne]; exact h2
  rw [this]
  simp only [cond_true, cond_false]
  rw [Option.map_map]
  congr 1
  funext p
  simp
theorem rpF_bad {rows : List (List AV)} {s : List UInt8} (h : spFound s crlf = false ∨ (spBefore s crlf ≠ [] ∧ hasColon (spBefore s crlf) = false)) : rpF rows s = none := by
  unfold rpF
  rw [rps_step s]
  rcases h with h | ⟨h1, h2⟩
  · rw [h]; rfl
  · have : (spBefore s crlf == []) = false := by rw [beq_eq_false_iff_ne]; exact h1
    rw [this, h2]
    cases spFound s crlf <;> rfl
theorem rpF_end {rows : List (List AV)} {s : List UInt8} (h1 : spFound s crlf = true) (h2 : spBefore s crlf = []) : rpF rows s = some (rows, spAfter s crlf) := by
  unfold rpF
  rw [rps_step s, h1, h2]
  simp
theorem rd35 {s start : List UInt8} {o n c : Nat} {rows : List (List AV)} (hs : s.length ≤ 4096) (hst : start.length ≤ 4096) (ok : Ok35 s o n c rows) :
    (∃ o2 n2 c2 rows2, BodyOK Tryz.prog (lbody Tryz.prog 35 0) 81 3 (I35 s start (o, n, c, rows)) .normal (I35 s start (o2, n2, c2, rows2)) ∧ Ok35 s o2 n2 c2 rows2 ∧ n2 < n ∧ rpF rows (sub s o n) = rpF rows2 (sub s o2 n2)) ∨
    ((rpF rows (sub s o n) = none ∨ ∃ p, rpF rows (sub s o n) = some p ∧ spRefRight start p.1 p.2.length = false) ∧ BodyOK Tryz.prog (lbody Tryz.prog 35 0) 81 3 (I35 s start (o, n, c, rows)) (.exit 0) re35) ∨
    (∃ p, rpF rows (sub s o n) = some p ∧ spRefRight start p.1 p.2.length = true ∧ BodyOK Tryz.prog (lbody Tryz.prog 35 0) 81 3 (I35 s start (o, n, c, rows)) .ret (rs35 start p.1 p.2)) := by
  have key : (spFound (sub s o n) crlf = false → BodyOK Tryz.prog (lbody Tryz.prog 35 0) 81 3 (I35 s start (o, n, c, rows)) (.exit 0) re35) ∧
    (spFound (sub s o n) crlf = true → spBefore (sub s o n) crlf = [] → spRefRight start rows (spAfter (sub s o n) crlf).length = false → BodyOK Tryz.prog (lbody Tryz.prog 35 0) 81 3 (I35 s start (o, n, c, rows)) (.exit 0) re35) ∧
    (spFound (sub s o n) crlf = true → spBefore (sub s o n) crlf ≠ [] → hasColon (spBefore (sub s o n) crlf) = false → BodyOK Tryz.prog (lbody Tryz.prog 35 0) 81 3 (I35 s start (o, n, c, rows)) (.exit 0) re35) ∧
    (spFound (sub s o n) crlf = true → spBefore (sub s o n) crlf ≠ [] → hasColon (spBefore (sub s o n) crlf) = true → ∃ o2 n2 c2, BodyOK Tryz.prog (lbody Tryz.prog 35 0) 81 3 (I35 s start (o, n, c, rows)) .normal (I35 s start (o2, n2, c2, rows ++ [hrow (spBefore (sub s o n) crlf)])) ∧ Ok35 s o2 n2 c2 (rows ++ [hrow (spBefore (sub s o n) crlf)]) ∧ sub s o2 n2 = spAfter (sub s o n) crlf ∧ n2 < n) ∧
    (spFound (sub s o n) crlf = true → spBefore (sub s o n) crlf = [] → spRefRight start rows (spAfter (sub s o n) crlf).length = true → BodyOK Tryz.prog (lbody Tryz.prog 35 0) 81 3 (I35 s start (o, n, c, rows)) .ret (rs35 start rows (spAfter (sub s o n) crlf))) := by
    cases rows with
    | nil => exact rd35z hs hst ok
    | cons r rs => exact rd35n hs hst ok
  obtain ⟨A, B, C, D, E⟩ := key
  cases hf : spFound (sub s o n) crlf with
  | false => exact .inr (.inl ⟨.inl (rpF_bad (.inl hf)), A hf⟩)
  | true =>
    by_cases hb : spBefore (sub s o n) crlf = []
    · cases hr : spRefRight start rows (spAfter (sub s o n) crlf).length with
      | false => exact .inr (.inl ⟨.inr ⟨_, rpF_end hf hb, hr⟩, B hf hb hr⟩)
      | true => exact .inr (.inr ⟨_, rpF_end hf hb, hr, E hf hb hr⟩)
    · cases hc : hasColon (spBefore (sub s o n) crlf) with
      | false => exact .inr (.inl ⟨.inl (rpF_bad (.inr ⟨hb, hc⟩)), C hf hb hc⟩)
      | true =>
        obtain ⟨o2, n2, c2, h1, h2, h3, h4⟩ := D hf hb hc
        exact .inl ⟨o2, n2, c2, _, h1, h2, h4, by rw [h3]; exact rpF_next hf hb hc⟩
theorem fail35 {s start : List UInt8} {o n c : Nat} (hs : s.length ≤ 4096) (hst : start.length ≤ 4096) (ok : Ok35 s o n c []) (hF : spRPs (sub s o n) = none ∨ ∃ p, spRPs (sub s o n) = some p ∧ spRefRight start p.1 p.2.length = false) :
    LoopOK Tryz.prog (lbody Tryz.prog 35 0) 81 (b35zI (byteRows s) start o n c) (.exit 0) re35 := by
  have hF0 : rpF [] (sub s o n) = spRPs (sub s o n) := by unfold rpF; cases spRPs (sub s o n) <;> rfl
  rw [← hF0] at hF
  refine loop_rule (X := Nat × Nat × Nat × List (List AV)) (I := I35 s start) (pre := fun x => Ok35 s x.1 x.2.1 x.2.2.1 x.2.2.2 ∧ rpF x.2.2.2 (sub s x.1 x.2.1) = rpF [] (sub s o n)) (μ := fun x => x.2.1) _ _ rfl (fun ρ => by simp [Ex.conc]) ?_ (x0 := (o, n, c, [])) (pick := []) ⟨ok, rfl⟩ ⟨by kernel_rfl, map_fst_snd (by kernel_rfl)⟩
  rintro ⟨o1, n1, c1, rows⟩ ⟨h1, h2⟩
  simp only at h1 h2
  rcases rd35 hs hst h1 with ⟨o2, n2, c2, rows2, g1, g2, g3, g4⟩ | ⟨_, g⟩ | ⟨p, g1, g2, _⟩
  · exact .inl ⟨(o2, n2, c2, rows2), ⟨g2, by rw [← h2]; exact g4.symm⟩, g3, g1⟩
  · exact .inr g
  · exfalso
    rw [h2] at g1
    rcases hF with hF | ⟨q, hq, hr⟩
    · rw [hF] at g1; cases g1
    · rw [hq] at g1; cases g1; rw [hr] at g2; cases g2
theorem good35 {s start : List UInt8} {o n c : Nat} (hs : s.length ≤ 4096) (hst : start.length ≤ 4096) (ok : Ok35 s o n c []) {p : List (List AV) × List UInt8} (hF : spRPs (sub s o n) = some p) (hR : spRefRight start p.1 p.2.length = true) :
    LoopOK Tryz.prog (lbody Tryz.prog 35 0) 81 (b35zI (byteRows s) start o n c) .ret (rs35 start p.1 p.2) := by
  have hF0 : rpF [] (sub s o n) = spRPs (sub s o n) := by unfold rpF; cases spRPs (sub s o n) <;> rfl
  rw [← hF0] at hF
  refine loop_rule (X := Nat × Nat × Nat × List (List AV)) (I := I35 s start) (pre := fun x => Ok35 s x.1 x.2.1 x.2.2.1 x.2.2.2 ∧ rpF x.2.2.2 (sub s x.1 x.2.1) = rpF [] (sub s o n)) (μ := fun x => x.2.1) _ _ rfl (fun ρ => by simp [Ex.conc]) ?_ (x0 := (o, n, c, [])) (pick := []) ⟨ok, rfl⟩ ⟨by kernel_rfl, map_fst_snd (by kernel_rfl)⟩
  rintro ⟨o1, n1, c1, rows⟩ ⟨h1, h2⟩
  simp only at h1 h2
  rcases rd35 hs hst h1 with ⟨o2, n2, c2, rows2, g1, g2, g3, g4⟩ | ⟨g, _⟩ | ⟨q, g1, g2, g3⟩
  · exact .inl ⟨(o2, n2, c2, rows2), ⟨g2, by rw [← h2]; exact g4.symm⟩, g3, g1⟩
  · exfalso
    rw [h2, hF] at g
    rcases g with g | ⟨q, g1, g2⟩
    · cases g
    · cases g1; rw [hR] at g2; cases g2
  · rw [h2, hF] at g1
    cases g1
    exact .inr g3
theorem exit35 : LoopOK Tryz.prog (lbody Tryz.prog 35 0) 81 b35eI (.exit 0) re35 := by
  refine loop_rule (X := Nat) (I := fun _ => b35eI) (pre := fun _ => True) (μ := fun _ => 0) _ _ rfl (fun ρ => by simp [Ex.conc]) ?_ (x0 := 0) (pick := []) trivial ⟨by kernel_rfl, map_fst_snd (by kernel_rfl)⟩
  intro k _
  exact .inr (body_by P15_ok (b35e_ 0) rfl trivial rfl)
theorem exit35m : LoopOK Tryz.prog (lbody Tryz.prog 35 0) 81 b35mI (.exit 0) b35mI := by
  refine loop_rule (X := Nat) (I := fun _ => b35mI) (pre := fun _ => True) (μ := fun _ => 0) _ _ rfl (fun ρ => by simp [Ex.conc]) ?_ (x0 := 0) (pick := []) trivial ⟨by kernel_rfl, map_fst_snd (by kernel_rfl)⟩
  intro k _
  exact .inr (body_by P15_ok (b35m_ 0) rfl trivial rfl)
theorem exit71n : LoopOK Tryz.prog (lbody Tryz.prog 71 0) 34 b71nI (.exit 0) e71n := by
  refine loop_rule (X := Nat) (I := fun _ => b71nI) (pre := fun _ => True) (μ := fun _ => 0) _ _ rfl (fun ρ => by simp [Ex.conc]) ?_ (x0 := 0) (pick := []) trivial ⟨by kernel_rfl, map_fst_snd (by kernel_rfl)⟩
  intro k _
  exact .inr (body_by P15_ok (b71n_E 0) rfl trivial rfl)
def PostP (w : World) (s : List UInt8) (e : Ending) (w' : World) : Prop :=
  (∃ v1 v2, e = .returned (.tuple #[.agg #[.string ⟨(spPS s).toArray⟩, v1, v2], .int .i64 (spPErr s)]) ∧ NewSl w.heap.size w' [.str, .str] (spPH s) v1 ∧ NewSl w.heap.size w' [.int .u8] (spPB s) v2) ∧ Ext w w'
theorem ref_parse_calls {w : World} {s : List UInt8} {v : Value} (gw : GW w) (hv : Reads w [.int .u8] (byteRows s) v) (hcap : ∀ a n c, v = .slice a n c → n ≤ c) :
    Calls Tryz.prog 35 #[v] w (PostP w s) := by
  have bad : ∀ (ρ : Nat → BI) (args : Array Value) (er : Int), spPOk s = false → spPErr s = er → Calls Tryz.prog 35 args w (fun e w' => e = .returned (conc ρ (.tup [.agg [.str [], .nilSl, .nilSl], .int .i64 er])) ∧ Ext w w') →
      Calls Tryz.prog 35 args w (PostP w s) := by
    intro ρ args er h1 h2 hc
    refine hc.mono fun e w' hq => ?_
    obtain ⟨rfl, he⟩ := hq
    unfold PostP
    rw [h2]
    unfold spPS spPH spPB
    rw [h1, cond_false, cond_false, cond_false]
    exact ⟨⟨_, _, rfl, NewSl.none (ρ' := ρ) (gw.ext he) rfl, NewSl.none (ρ' := ρ) (gw.ext he) rfl⟩, he⟩
  generalize hbr : byteRows s = brows at hv
  cases hv with
  | nil h =>
    have hs0 : s = [] := by
      have := congrArg List.length hbr
      rw [byteRows_length, h] at this
      exact List.length_eq_zero_iff.1 this
    have hE : HSim (fun _ => ⟨0, 0, 0, 0, false⟩) (addBlks .e 0 ([] : List Blk)) ([] : List Blk).length w := HSim.ins gw (fun i blk hi => by simp at hi)
    have hl := exit71n
    have hx := exit35m
    have ok : spPOk s = false := by rw [hs0]; rfl
    exact bad _ _ 4 ok (by rw [hs0]; rfl) (calls_pureB P15_ok (c35n_ELL 0) ⟨⟨⟨⟨⟨⟨⟨⟨⟨⟨⟨⟨⟨⟨⟨trivial, hl⟩, rfl⟩, rfl⟩, rfl⟩, rfl⟩, rfl⟩, rfl⟩, hx⟩, rfl⟩, rfl⟩, rfl⟩, rfl⟩, rfl⟩, rfl⟩, rfl⟩ hE rfl rfl rfl)
  | cells bi c h =>
    subst hbr
    have hle := hcap _ _ _ rfl
    have hE : HSim (fun _ => bi) (addBlks .e 0 [Blk.cells false [Kd.int IntKind.u8] (byteRows s)]) ([Blk.cells false [Kd.int IntKind.u8] (byteRows s)] : List Blk).length w := HSim.ins gw (fun i blk hi => by
        obtain ⟨rfl, rfl⟩ := bs1 hi
        exact ⟨Blk.sat_at (ρ := fun _ => bi) (b := 0) rfl rfl h, rfl, rfl⟩)
    have hro : ∀ c k, (addBlks .e 0 [Blk.cells false [Kd.int IntKind.u8] (byteRows s)]).get c = some k → k.isRw = false := by
      intro c k hk
      rw [addBlks_get] at hk
      split at hk
      · obtain ⟨_, rfl⟩ := bs1 hk; rfl
      · cases c <;> cases hk
    have ea : concL (fun _ => bi) [AV.sl ⟨0, 0, 0⟩ (byteRows s).length (.known c)] = [.slice (some ⟨bi.blk, bi.off, none⟩) (byteRows s).length c] := by
      simp [concL, conc, addr, capOf]
    have goal : Calls Tryz.prog 35 (concL (fun _ => bi) [AV.sl ⟨0, 0, 0⟩ (byteRows s).length (.known c)]).toArray w (PostP w s) := by
      rw [byteRows_length] at hle ⊢
      by_cases h1 : s.length ≤ 4096
      · have e1 : decide ((s.length : Int) > 4096) = false := decide_eq_false (by omega)
        have e4 : ∀ (b : Bool), b = false → (bif b then (0 : Int) else bif decide (s.length ≤ 4096) then 4 else 8) = 4 := fun b hb => by rw [hb, decide_eq_true h1]; rfl
        obtain ⟨l0, l1⟩ := loop712 (s := s) (o := 0) (n := s.length) (c := c) (by omega) hle (by omega)
        have hw : sub s 0 s.length = s := sub_all s rfl
        rw [hw] at l0 l1
        cases hf : spFound s crlf with
        | false =>
          have ok : spPOk s = false := by unfold spPOk; rw [cut4_none hf]; simp
          have hl := l0 hf
          have hx := exit35
          exact bad _ _ 4 ok (by unfold spPErr; exact e4 _ ok) (calls_pureB P15_ok (c35x_FLL (byteRows s) s.length c) ⟨⟨⟨⟨⟨⟨⟨⟨⟨⟨⟨⟨⟨⟨⟨⟨trivial, e1⟩, hl⟩, rfl⟩, rfl⟩, rfl⟩, rfl⟩, rfl⟩, rfl⟩, hx⟩, rfl⟩, rfl⟩, rfl⟩, rfl⟩, rfl⟩, rfl⟩, rfl⟩ hE rfl rfl rfl)
        | true =>
          obtain ⟨o2, n2, c2, hl, k1, k2, k3, k4⟩ := l1 hf
          have hst := len_before s crlf
          have k3' : sub s o2 n2 = spAfter s crlf := k3
          have ok2 : Ok35 s o2 n2 c2 [] := ⟨k1, k2, rfl, by simp only [List.length_nil]; omega⟩
          have hss : spRPs (spAfter s crlf) = spRP (s.length + 1) (spAfter s crlf) := by
            have := len_after s crlf
            exact rp_fuel _ _ _ (by omega) (by omega)
          cases ok : spPOk s with
          | false =>
            have hF : spRPs (sub s o2 n2) = none ∨ ∃ p, spRPs (sub s o2 n2) = some p ∧ spRefRight (spBefore s crlf) p.1 p.2.length = false := by
              rw [k3', hss]
              have := rp_ok s
              rw [ok] at this
              unfold spRPOk at this
              rw [decide_eq_true h1, hf, Bool.true_and, Bool.true_and] at this
              cases hq : spRP (s.length + 1) (spAfter s crlf) with
              | none => exact .inl rfl
              | some p => rw [hq] at this; exact .inr ⟨p, rfl, by rw [refRight_eq]; exact this⟩
            have hx := fail35 h1 (Nat.le_trans hst h1) ok2 hF
            exact bad _ _ 4 ok (by unfold spPErr; exact e4 _ ok) (calls_pureB P15_ok (c35f_FLL (byteRows s) s.length c (spBefore s crlf) o2 n2 c2) ⟨⟨⟨⟨⟨⟨⟨⟨⟨⟨⟨⟨⟨⟨⟨⟨trivial, e1⟩, hl⟩, rfl⟩, rfl⟩, rfl⟩, rfl⟩, rfl⟩, rfl⟩, hx⟩, rfl⟩, rfl⟩, rfl⟩, rfl⟩, rfl⟩, rfl⟩, rfl⟩ hE rfl rfl rfl)
          | true =>
            obtain ⟨_, r2, r3⟩ := rp_some ok
            have hR : spRefRight (spBefore s crlf) (spPRows s) (spPBody s).length = true := by
              rw [refRight_eq, r2]
              unfold spPOk at ok
              simp only [Bool.and_eq_true] at ok
              exact ok.2.2.2
            have hx0 := good35 (p := (spPRows s, spPBody s)) h1 (Nat.le_trans hst h1) ok2 (by rw [k3', hss]; exact r3) hR
            unfold rs35 at hx0
            have fin : spPErr s = 0 ∧ spPS s = spBefore s crlf ∧ spPH s = spPRows s ∧ spPB s = byteRows (spPBody s) := by
              unfold spPErr spPS spPH spPB
              rw [ok, r2]; exact ⟨rfl, rfl, rfl, rfl⟩
            obtain ⟨f1, f2, f3, f4⟩ := fin
            by_cases hb0 : (spPBody s).length = 0
            · rw [if_pos hb0] at hx0
              have hx : LoopOK Tryz.prog (lbody Tryz.prog 35 0) 81 (b35zI (byteRows s) (spBefore s crlf) o2 n2 c2) .ret (r035 (spBefore s crlf) (spPRows s) (spPRows s).length) := hx0
              refine (calls_ofB P15_ok (c35o_FLL (byteRows s) s.length c (spBefore s crlf) o2 n2 c2 (spPRows s) (spPRows s).length) ⟨⟨⟨⟨⟨⟨⟨⟨⟨⟨trivial, e1⟩, hl⟩, rfl⟩, rfl⟩, rfl⟩, rfl⟩, rfl⟩, rfl⟩, hx⟩, rfl⟩ hE rfl).mono fun e w' hq => ?_
              obtain ⟨ρ', rfl, st⟩ := hq
              have st2 : HStep (fun _ => bi) (addBlks .e 0 [Blk.cells false [Kd.int IntKind.u8] (byteRows s)]) ([Blk.cells false [Kd.int IntKind.u8] (byteRows s)] : List Blk).length w ρ' (Tr.ofList [(1, Blk.cells true [Kd.str, Kd.str] (spPRows s))]) 2 w' := st
              unfold PostP
              have f5 : byteRows (spPBody s) = [] := by rw [List.length_eq_zero_iff.1 hb0]; rfl
              rw [f1, f2, f3, f4, f5]
              exact ⟨⟨conc ρ' (.sl ⟨1, 0, 0⟩ (spPRows s).length .open_), conc ρ' .nilSl, rfl, NewSl.of_rw st2 (by rw [ofList_cons, if_pos rfl]) hro rfl rfl, NewSl.none (ρ' := ρ') (gw.ext (st2.below hro)) rfl⟩, st2.below hro⟩
            · rw [if_neg hb0] at hx0
              have hx : LoopOK Tryz.prog (lbody Tryz.prog 35 0) 81 (b35zI (byteRows s) (spBefore s crlf) o2 n2 c2) .ret (rb35 (spBefore s crlf) (spPRows s) (spPRows s).length (byteRows (spPBody s)) (spPBody s).length) := hx0
              refine (calls_ofB P15_ok (c35b_FLL (byteRows s) s.length c (spBefore s crlf) o2 n2 c2 (spPRows s) (byteRows (spPBody s)) (spPRows s).length (spPBody s).length) ⟨⟨⟨⟨⟨⟨⟨⟨⟨⟨trivial, e1⟩, hl⟩, rfl⟩, rfl⟩, rfl⟩, rfl⟩, rfl⟩, rfl⟩, hx⟩, rfl⟩ hE rfl).mono fun e w' hq => ?_
              obtain ⟨ρ', rfl, st⟩ := hq
              have st2 : HStep (fun _ => bi) (addBlks .e 0 [Blk.cells false [Kd.int IntKind.u8] (byteRows s)]) ([Blk.cells false [Kd.int IntKind.u8] (byteRows s)] : List Blk).length w ρ' (Tr.ofList [(1, Blk.cells true [Kd.str, Kd.str] (spPRows s)), (2, Blk.cells true [Kd.int IntKind.u8] (byteRows (spPBody s)))]) 3 w' := st
              unfold PostP
              rw [f1, f2, f3, f4]
              exact ⟨⟨conc ρ' (.sl ⟨1, 0, 0⟩ (spPRows s).length .open_), conc ρ' (.sl ⟨2, 0, 0⟩ (spPBody s).length .open_), rfl, NewSl.of_rw st2 (by rw [ofList_cons, if_pos rfl]) hro rfl rfl, NewSl.of_rw st2 (by rw [ofList_cons, if_neg (by decide), ofList_cons, if_pos rfl]) hro rfl (byteRows_length _).symm⟩, st2.below hro⟩
      · have e1 : decide ((s.length : Int) > 4096) = true := decide_eq_true (by omega)
        have ok : spPOk s = false := by unfold spPOk; rw [decide_eq_false h1]; rfl
        exact bad _ _ 8 ok (by unfold spPErr; rw [ok, decide_eq_false h1]; rfl) (calls_pureB P15_ok (c35x_T (byteRows s) s.length c) ⟨⟨⟨⟨⟨⟨⟨⟨trivial, e1⟩, rfl⟩, rfl⟩, rfl⟩, rfl⟩, rfl⟩, rfl⟩, rfl⟩ hE rfl rfl rfl)
    rw [ea] at goal
    exact goal
def spByteOk (r : List AV) : Bool := match r with
  | [.int .u8 n] => decide (0 ≤ n ∧ n < 256)
  | _ => false
theorem byteOk_row {r : List AV} (h : spByteOk r = true) : r = byteRow (rowByte r) := by
  unfold spByteOk at h
  split at h
  · rename_i n
    have h := of_decide_eq_true h
    simp only [byteRow, rowByte, List.getD_cons_zero, AV.toInt]
    congr 2
    rw [UInt8.toNat_ofNat']
    omega
  · cases h
theorem bytes_of {rows : List (List AV)} (h : rows.all spByteOk = true) : rows = byteRows (rows.map rowByte) := by
  unfold byteRows
  rw [List.map_map]
  conv => lhs; rw [← List.map_id rows]
  exact List.map_congr_left fun r hr => byteOk_row (List.all_eq_true.1 h r hr)
theorem byteRows_ok (l : List UInt8) : (byteRows l).all spByteOk = true := by
  unfold byteRows
  rw [List.all_map, List.all_eq_true]
  intro c _
  have := c.toNat_lt
  exact decide_eq_true (by omega)
def q35 : Entry := fun args hp nx => match args with
  | [.slq l n] => match slIn hp [.int .u8] (.slq l n) with
    | some (c1, brows) => some (c1 && (brows.all spByteOk && decide (n = 0)), .tup [.agg [.str (spPS (brows.map rowByte)), .slq nx (spPH (brows.map rowByte)).length, .slq (nx + 1) (spPB (brows.map rowByte)).length], .int .i64 (spPErr (brows.map rowByte))],
        [.cells false [.str, .str] (spPH (brows.map rowByte)), .cells false [.int .u8] (spPB (brows.map rowByte))])
    | _ => none
  | [.sl l n (.known c)] => match slIn hp [.int .u8] (.sl l n (.known c)) with
    | some (c1, brows) => some (c1 && (brows.all spByteOk && decide (n ≤ c)), .tup [.agg [.str (spPS (brows.map rowByte)), .slq nx (spPH (brows.map rowByte)).length, .slq (nx + 1) (spPB (brows.map rowByte)).length], .int .i64 (spPErr (brows.map rowByte))],
        [.cells false [.str, .str] (spPH (brows.map rowByte)), .cells false [.int .u8] (spPB (brows.map rowByte))])
    | _ => none
  | _ => none
theorem postP_entry {ρ : Nat → BI} {hp : Tr Blk} {nx : Nat} {w : World} {s : List UInt8} {vs : Array Value} (hs : HSim ρ hp nx w) (h : Calls Tryz.prog 35 vs w (PostP w s)) :
    Calls Tryz.prog 35 vs w (fun e w' => ∃ ρ', e = .returned (conc ρ' (.tup [.agg [.str (spPS s), .slq nx (spPH s).length, .slq (nx + 1) (spPB s).length], .int .i64 (spPErr s)])) ∧ (AV.tup [.agg [.str (spPS s), .slq nx (spPH s).length, .slq (nx + 1) (spPB s).length], .int .i64 (spPErr s)]).idsB (nx + [Blk.cells false [.str, .str] (spPH s), Blk.cells false [.int .u8] (spPB s)].length) = true ∧ HStep ρ hp nx w ρ' (addBlks hp nx [.cells false [.str, .str] (spPH s), .cells false [.int .u8] (spPB s)]) (nx + [Blk.cells false [.str, .str] (spPH s), Blk.cells false [.int .u8] (spPB s)].length) w') := by
  refine h.mono fun e w' hq => ?_
  obtain ⟨⟨v1, v2, rfl, ⟨b1, n1, g1⟩, b2, n2, g2⟩, he⟩ := hq
  have e1 : extB ρ nx [b1, b2] nx = b1 := by have := extB_new ρ nx [b1, b2] 0; simpa using this
  have e2 : extB ρ nx [b1, b2] (nx + 1) = b2 := by have := extB_new ρ nx [b1, b2] 1; simpa using this
  have st := HStep.bis (bs := [Blk.cells false [.str, .str] (spPH s), Blk.cells false [.int .u8] (spPB s)]) [b1, b2] hs he (fun i blk hi => by
    match i with
    | 0 => simp at hi; subst hi; exact ⟨rfl, n1, rfl, fun ρ' b hb => (g1 ρ' b hb).2⟩
    | 1 => simp at hi; subst hi; exact ⟨rfl, n2, rfl, fun ρ' b hb => (g2 ρ' b hb).2⟩
    | i + 2 => simp at hi)
  refine ⟨_, ?_, ?_, st⟩
  · have h1 := (g1 _ _ e1).1
    have h2 := (g2 _ _ e2).1
    simp only [conc, concL] at h1 h2 ⊢
    rw [h1, h2]
  · simp [AV.idsB, idsBL, blt_iff]
theorem q35_ok : EntryOK Tryz.prog 35 q35 := by
  intro args hp nx c v bs h hc ρ w hs hi
  unfold q35 at h
  split at h
  · rename_i l n
    split at h
    · rename_i c1 brows hs1
      cases h
      simp only [Bool.and_eq_true] at hc
      obtain ⟨hc1, hc2, hc3⟩ := hc
      have hk := of_decide_eq_true hc3
      have hr := slIn_spec hs hs1 hc1 rfl
      rw [bytes_of hc2] at hr
      exact postP_entry hs (ref_parse_calls hs.gw hr (fun a n' c' h => by
        simp only [conc] at h
        split at h
        · cases h; exact Nat.le_refl _
        · cases h; omega))
    · cases h
  · rename_i l n k
    split at h
    · rename_i c1 brows hs1
      cases h
      simp only [Bool.and_eq_true] at hc
      obtain ⟨hc1, hc2, hc3⟩ := hc
      have hk := of_decide_eq_true hc3
      have hr := slIn_spec hs hs1 hc1 rfl
      rw [bytes_of hc2] at hr
      exact postP_entry hs (ref_parse_calls hs.gw hr (fun a n' c' h => by simp only [conc, capOf] at h; cases h; exact hk))
    · cases h
  · cases h
end Go.Proofs.YtpdgmgkkbbndfaaGreatDoor

set_option maxRecDepth 100000
namespace Go.Proofs.YtpdgmgkkbbndfaaGreatDoor
open Go Go.Proofs Go.Proofs.YtpdgmgkkbbndfaaGreatDoor.SX
theorem sub_whl {α : Type} (l : List α) : sub l 0 (List.length l) = l := sub_all l rfl
end Go.Proofs.YtpdgmgkkbbndfaaGreatDoor

set_option maxRecDepth 100000
set_option maxHeartbeats 6400000
namespace Go.Proofs.YtpdgmgkkbbndfaaGreatDoor
open Go Go.Proofs Go.Proofs.YtpdgmgkkbbndfaaGreatDoor.SX Go.Proofs.YtpdgmgkkbbndfaaGreatDoor
open Go.ChangeShapes Go.WideShapes Go.ChangeAt Go.RowKit
theorem add_eq {a : Addr} (h : a.spot = none) (k : Nat) : a.add k = ⟨a.block, a.off + k, none⟩ := by
  obtain ⟨b, o, s⟩ := a
  have h : s = none := h
  subst h
  unfold Addr.add
  by_cases hk : k = 0
  · rw [if_pos hk, hk]; rfl
  · rw [if_neg hk]
def intAt (W : World) (b o : Nat) : Int := match W.cell? ⟨b, o, none⟩ with | some (.int _ n) => n | _ => 0
theorem byte_cell {H : Type} {enc : TypeId × Value → H} {W : World} {sp : Nat → Bool} {held : Bool} {n k t : Nat} {kk : IntKind} {a : Addr} {e : DataW H × List MemPlace} (hs : a.spot = none) (hu : Tryz.prog.underlying t = some (.int kk))
    (h : (W.cells? 0 (a.add k) 1).bind (DataW.trod enc Tryz.prog W 0 sp held n t) = some e) : ∃ z : Int, W.cell? ⟨a.block, a.off + k, none⟩ = some (.int kk z) ∧ kk.min ≤ z ∧ z ≤ kk.max := by
  obtain ⟨l, hl, ht⟩ := Option.bind_eq_some_iff.1 h
  obtain ⟨z, rfl, _, hz⟩ := DataW.trod_int hu ht
  unfold World.cells? at hl
  rw [if_pos (Nat.zero_le _)] at hl
  have hr : List.range 1 = [0] := rfl
  rw [hr] at hl
  simp only [List.mapM_cons, List.mapM_nil, Option.bind_eq_bind, Option.bind_eq_some_iff, Option.pure_def, Option.some.injEq, List.cons.injEq] at hl
  obtain ⟨y0, hy0, r, hr1, hy⟩ := hl
  subst hr1
  obtain ⟨rfl, _⟩ := hy
  rw [add_eq hs] at hy0
  refine ⟨z, by simpa [Addr.add] using hy0, ?_⟩
  unfold Lit.wf at hz
  simpa using hz
theorem bulk_mem {H : Type} : ∀ {l : List (DataW H)} {d : DataW H}, d ∈ l → Rows.uptoBulk d ≤ Rows.uptoBulkAll l
  | x :: l, d, h => by
    unfold Rows.uptoBulkAll
    rcases List.mem_cons.1 h with rfl | h
    · omega
    · have := bulk_mem h; omega
theorem bulk_pos {H : Type} (d : DataW H) : 1 ≤ Rows.uptoBulk d := by
  cases d with
  | lit l => cases l <;> simp [Rows.uptoBulk]
  | _ => simp [Rows.uptoBulk]
theorem bulk_len {H : Type} : ∀ (l : List (DataW H)), l.length ≤ Rows.uptoBulkAll l
  | [] => by simp
  | x :: l => by
    have := bulk_len l
    have := bulk_pos x
    unfold Rows.uptoBulkAll
    simp only [List.length_cons]; omega
theorem slice_has {W : World} {b0 t e : TypeId} {a : Addr} {len cap : Nat} (hu : Tryz.prog.underlying t = some (.slice e)) (h : Cell.okWide Tryz.prog W .any b0 t (.slice (some a) len cap)) : a.spot = none ∧ ∃ c tt fr, W.heap[a.block]? = some (.cells c tt fr) := by
  unfold Cell.okWide at h
  rw [hu] at h
  simp only [Cell.ok, hu] at h
  obtain ⟨_, _, _, hs, row, cells, hsh, _⟩ := h
  refine ⟨hs, ?_⟩
  unfold World.shape? at hsh
  split at hsh
  · rename_i c tt fr hh; exact ⟨c, tt, fr, hh⟩
  · cases hsh
theorem cell_in {W : World} {b o : Nat} {c : Array Value} {tt : TypeId} {fr : Nat × Nat} {v : Value} (h : W.heap[b]? = some (.cells c tt fr)) (hc : W.cell? ⟨b, o, none⟩ = some v) : c[o]? = some v := by
  unfold World.cell? at hc
  simp only at hc
  rw [h] at hc
  simpa using hc
theorem body_read {H : Type} {enc : TypeId × Value → H} {W : World} {sp : Nat → Bool} {held : Bool} {n b0 : Nat} {hv : Value} {x : DataW H × List MemPlace} (h : DataW.trod enc Tryz.prog W 0 sp held n 23 [hv] = some x) (hok : Cell.okWide Tryz.prog W .any b0 23 hv) :
    ∃ l : List UInt8, Reads W [.int .u8] (byteRows l) hv ∧ l.length ≤ Rows.uptoBulk x.1 := by
  have hc5 : Tryz.prog.cellsOf 5 = 1 := by kernel_rfl
  rcases DataW.trod_slice Tryz.underlying23 h with ⟨hx, _⟩ | ⟨a, len, cap, elems, rest, m, _, hx, ex, _, _, _, hl, hel, _, _⟩
  · cases hx
    exact ⟨[], .nil rfl, Nat.zero_le _⟩
  · cases hx
    obtain ⟨hs, c, tt, fr, hh⟩ := slice_has Tryz.underlying23 hok
    obtain ⟨b, o, sp'⟩ := a
    have hs : sp' = none := hs
    subst hs
    have key : ∀ i, i < len → ∃ z : Int, W.cell? ⟨b, o + i, none⟩ = some (.int .u8 z) ∧ 0 ≤ z ∧ z ≤ 255 := by
      intro i hi
      have h1 := hel i hi
      rw [hc5, List.getElem?_eq_getElem (by omega), Nat.mul_one] at h1
      obtain ⟨z, g0, g1, g2⟩ := byte_cell (a := ⟨b, o, none⟩) rfl Tryz.underlying5 h1
      exact ⟨z, g0, g1, g2⟩
    have hbulk : Rows.uptoBulk x.1 = Rows.uptoBulkAll (elems.map (·.1)) + Rows.uptoBulkAll (rest.map (·.1)) + 1 := by rw [ex]; rfl
    refine ⟨(List.range len).map fun i => UInt8.ofNat (intAt W b (o + i)).toNat, ?_, ?_⟩
    · have hR := Reads.cells (w := W) (ks := [.int .u8]) (rows := byteRows ((List.range len).map fun i => UInt8.ofNat (intAt W b (o + i)).toNat)) ⟨b, o, 1, cap, false⟩ cap
        ⟨rfl, c, tt, fr, hh, fun i j kd hi hj => ?_, fun h => by cases h⟩
      · rw [byteRows_length] at hR
        simpa using hR
      · have hi : i < len := by rw [byteRows_length] at hi; simpa using hi
        obtain ⟨z, g0, g1, g2⟩ := key i hi
        have hj' : j = 0 ∧ kd = .int .u8 := by
          match j with
          | 0 => simp at hj; exact ⟨rfl, hj.symm⟩
          | j + 1 => simp at hj
        obtain ⟨rfl, rfl⟩ := hj'
        have hrow : (byteRows ((List.range len).map fun i => UInt8.ofNat (intAt W b (o + i)).toNat)).getD i [] = byteRow (UInt8.ofNat (intAt W b (o + i)).toNat) := by
          simp [byteRows, List.getD_eq_getElem?_getD, hi]
        unfold cellAt
        rw [hrow]
        show c[o + (i * 1 + 0)]? = some (.int .u8 ((UInt8.ofNat (intAt W b (o + i)).toNat).toNat : Int))
        rw [show o + (i * 1 + 0) = o + i by omega, cell_in hh g0]
        unfold intAt
        rw [g0]
        simp only
        congr 2
        rw [UInt8.toNat_ofNat']
        omega
    · have := bulk_len (elems.map (·.1))
      simp only [List.length_map, List.length_range] at this ⊢
      omega
structure MsgIn (W : World) (N : Nat) (start : List UInt8) (hrows : List (List AV)) (body : List UInt8) (hv bv : Value) : Prop where
  h : Reads W [.str, .str] hrows hv
  b : Reads W [.int .u8] (byteRows body) bv
  st : start.length ≤ N
  hl : hrows.length ≤ N
  bl : body.length ≤ N
  rows : ∀ r ∈ hrows, r.length = 2 ∧ (∃ a b, r = [.str a, .str b]) ∧ (hN r).length ≤ N ∧ (hV r).length ≤ N
  cap : ∀ a n c, hv = .slice a n c → n ≤ c
end Go.Proofs.YtpdgmgkkbbndfaaGreatDoor

set_option maxRecDepth 100000
set_option maxHeartbeats 6400000
namespace Go.Proofs.YtpdgmgkkbbndfaaGreatDoor
open Go Go.Proofs Go.Proofs.YtpdgmgkkbbndfaaGreatDoor.SX
def P19 : Prims := addP (addP (addP P16 18 q18) 34 q34) 35 q35
theorem P19_ok : PrimsOK Tryz.prog P19 := addP_ok (addP_ok (addP_ok P16_ok q18_ok) q34_ok) q35_ok
theorem parse_small (s : List UInt8) : (spPS s).length ≤ 4096 ∧ (spPH s).all short = true ∧ (spPB s).length ≤ 4096 ∧ (spPH s).length ≤ 64 := by
  unfold spPS spPH spPB
  cases h : spPOk s with
  | false => exact ⟨Nat.zero_le _, rfl, Nat.zero_le _, Nat.zero_le _⟩
  | true =>
    have hr : spRight (spPStart s) (spPRows s) (spPBody s).length = true := by
      unfold spPOk at h
      simp only [Bool.and_eq_true] at h
      exact h.2.2.2
    have hz := right_sized hr
    have hs : (spPStart s).length ≤ 4096 := by
      unfold spRight at hr
      simp only [Bool.and_eq_true, decide_eq_true_eq] at hr
      omega
    rw [cond_true, cond_true, cond_true, byteRows_length]
    exact ⟨hs, List.all_eq_true.2 fun r hr => decide_eq_true (by have := hz.v r hr; omega), hz.bn, hz.n⟩
theorem reads_sl {w : World} {ks : List Kd} {rows : List (List AV)} {v : Value} (h : Reads w ks rows v) (hp : 0 < rows.length) (hk : noAny ks = true) :
    ∃ (bi : BI) (c : Nat), (∀ (ρ : Nat → BI) (b : Nat), ρ b = bi → conc ρ (.sl ⟨b, 0, 0⟩ rows.length (.known c)) = v ∧ (Blk.cells false ks rows).sat ρ w b) ∧ ∃ a, v = .slice a rows.length c := by
  cases h with
  | nil h => rw [h] at hp; exact absurd hp (by decide)
  | cells bi c h => exact ⟨bi, c, fun ρ b hb => ⟨by simp [conc, addr, capOf, hb], Blk.sat_at (ρ := fun _ => bi) (b := 0) hk hb h⟩, _, rfl⟩
theorem norm_ph (s : List UInt8) : spNorm (spPH s) = spPH s := by
  unfold spPH
  cases spPOk s with
  | false => rfl
  | true =>
    unfold spPRows spNorm
    rw [cond_true, List.map_map]
    exact List.map_congr_left fun l _ => rfl
theorem sameM_refl (s : List UInt8) (h b : List (List AV)) : spSameM s h b s h b = true := by
  unfold spSameM
  have : spEqH h h = true := by
    unfold spEqH
    rw [decide_eq_true rfl, Bool.true_and, List.all_eq_true]
    intro k _
    unfold eqAt
    simp
  rw [this]
  simp
theorem c11n_TETT (brows : List (List AV)) :
 Path (runCallB Tryz.prog P19 100 11 [AV.slq 0 (List.length brows)] (st0 [Blk.cells false [Kd.int IntKind.u8] brows] ([.as_ true, PI.ev 1, .as_ true, .as_ true]))) 1 [] (SL.mk [] [] 1) (Out.ret (AV.bool (List.map rowByte (sub (spliceRows [] (0) (sub brows 0 (List.length brows))) (0) (0 + List.length brows)) == List.map rowByte (sub brows 0 (List.length brows)))))
 ((((((((((((((((((((((((((((True ∧ (decide (List.length brows ≤ List.length brows) = true)) ∧ (decide (0 + List.length brows ≤ 0) = true)) ∧ (decide (0 + (0 + List.length brows) ≤ 0) = true)) ∧ (decide (0 + (0 + List.length brows) ≤ List.length (spliceRows [] (0) (sub brows 0 (List.length brows)))) = true)) ∧ (true = true)) ∧ (true = true)) ∧ (true = true)) ∧ (true = true)) ∧ (true = true)) ∧ (true = true)) ∧ ((decide (0 + List.length brows ≤ List.length brows) && (List.all (sub brows 0 (List.length brows)) spByteOk && decide (List.length brows = 0))) = true)) ∧ (true = true)) ∧ (true = true)) ∧ (true = true)) ∧ (true = true)) ∧ (true = true)) ∧ (true = true)) ∧ (true = true)) ∧ (true = true)) ∧ (true = true)) ∧ (true = true)) ∧ (true = true)) ∧ ((decide (0 + List.length (spPH (List.map rowByte (sub (spliceRows [] (0) (sub brows 0 (List.length brows))) (0) (0 + List.length brows)))) ≤ List.length (spPH (List.map rowByte (sub (spliceRows [] (0) (sub brows 0 (List.length brows))) (0) (0 + List.length brows))))) && (decide (0 + List.length (spPB (List.map rowByte (sub (spliceRows [] (0) (sub brows 0 (List.length brows))) (0) (0 + List.length brows)))) ≤ List.length (spPB (List.map rowByte (sub (spliceRows [] (0) (sub brows 0 (List.length brows))) (0) (0 + List.length brows))))) && (decide (List.length (sub (spPH (List.map rowByte (sub (spliceRows [] (0) (sub brows 0 (List.length brows))) (0) (0 + List.length brows)))) 0 (List.length (spPH (List.map rowByte (sub (spliceRows [] (0) (sub brows 0 (List.length brows))) (0) (0 + List.length brows)))))) ≤ 200) && true))) = true)) ∧ ((decide (0 + List.length (spNorm (sub (spPH (List.map rowByte (sub (spliceRows [] (0) (sub brows 0 (List.length brows))) (0) (0 + List.length brows)))) 0 (List.length (spPH (List.map rowByte (sub (spliceRows [] (0) (sub brows 0 (List.length brows))) (0) (0 + List.length brows))))))) ≤ List.length (spNorm (sub (spPH (List.map rowByte (sub (spliceRows [] (0) (sub brows 0 (List.length brows))) (0) (0 + List.length brows)))) 0 (List.length (spPH (List.map rowByte (sub (spliceRows [] (0) (sub brows 0 (List.length brows))) (0) (0 + List.length brows)))))))) && (decide (0 + List.length (spPB (List.map rowByte (sub (spliceRows [] (0) (sub brows 0 (List.length brows))) (0) (0 + List.length brows)))) ≤ List.length (spPB (List.map rowByte (sub (spliceRows [] (0) (sub brows 0 (List.length brows))) (0) (0 + List.length brows))))) && (decide (0 + List.length (spPH (List.map rowByte (sub brows 0 (List.length brows)))) ≤ List.length (spPH (List.map rowByte (sub brows 0 (List.length brows))))) && (decide (0 + List.length (spPB (List.map rowByte (sub brows 0 (List.length brows)))) ≤ List.length (spPB (List.map rowByte (sub brows 0 (List.length brows))))) && decide (List.length (sub (spNorm (sub (spPH (List.map rowByte (sub (spliceRows [] (0) (sub brows 0 (List.length brows))) (0) (0 + List.length brows)))) 0 (List.length (spPH (List.map rowByte (sub (spliceRows [] (0) (sub brows 0 (List.length brows))) (0) (0 + List.length brows))))))) 0 (List.length (spNorm (sub (spPH (List.map rowByte (sub (spliceRows [] (0) (sub brows 0 (List.length brows))) (0) (0 + List.length brows)))) 0 (List.length (spPH (List.map rowByte (sub (spliceRows [] (0) (sub brows 0 (List.length brows))) (0) (0 + List.length brows))))))))) ≤ 4611686018427387904))))) = true)) ∧ (spSameM (spPS (List.map rowByte (sub (spliceRows [] (0) (sub brows 0 (List.length brows))) (0) (0 + List.length brows)))) (sub (spNorm (sub (spPH (List.map rowByte (sub (spliceRows [] (0) (sub brows 0 (List.length brows))) (0) (0 + List.length brows)))) 0 (List.length (spPH (List.map rowByte (sub (spliceRows [] (0) (sub brows 0 (List.length brows))) (0) (0 + List.length brows))))))) 0 (List.length (spNorm (sub (spPH (List.map rowByte (sub (spliceRows [] (0) (sub brows 0 (List.length brows))) (0) (0 + List.length brows)))) 0 (List.length (spPH (List.map rowByte (sub (spliceRows [] (0) (sub brows 0 (List.length brows))) (0) (0 + List.length brows))))))))) (sub (spPB (List.map rowByte (sub (spliceRows [] (0) (sub brows 0 (List.length brows))) (0) (0 + List.length brows)))) 0 (List.length (spPB (List.map rowByte (sub (spliceRows [] (0) (sub brows 0 (List.length brows))) (0) (0 + List.length brows)))))) (spPS (List.map rowByte (sub brows 0 (List.length brows)))) (sub (spPH (List.map rowByte (sub brows 0 (List.length brows)))) 0 (List.length (spPH (List.map rowByte (sub brows 0 (List.length brows)))))) (sub (spPB (List.map rowByte (sub brows 0 (List.length brows)))) 0 (List.length (spPB (List.map rowByte (sub brows 0 (List.length brows)))))) = true)) ∧ ((spPErr (List.map rowByte (sub (spliceRows [] (0) (sub brows 0 (List.length brows))) (0) (0 + List.length brows))) == spPErr (List.map rowByte (sub brows 0 (List.length brows)))) = true)) ∧ (decide (0 + (0 + List.length brows) ≤ List.length (spliceRows [] (0) (sub brows 0 (List.length brows)))) = true)) ∧ (decide (0 + List.length brows ≤ List.length brows) = true)) := by unfold Path; kernel_rfl
theorem c11k_FETT (brows : List (List AV)) (c : Nat) :
 Path (runCallB Tryz.prog P19 100 11 [AV.sl (Loc.mk 0 0 0) (List.length brows) (Cap.known c)] (st0 [Blk.cells false [Kd.int IntKind.u8] brows] ([.as_ false, PI.ev 1, .as_ true, .as_ true]))) 1 [] (SL.mk [] [] 1) (Out.ret (AV.bool (List.map rowByte (sub (sub brows 0 (List.length brows)) (0) (0 + List.length brows)) == List.map rowByte (sub brows 0 (List.length brows)))))
 (((((((((((((((((((((((((((((True ∧ (decide (0 + List.length brows ≤ List.length brows) = true)) ∧ (decide (0 + List.length brows ≤ 0) = false)) ∧ (true = true)) ∧ (decide ((0 + List.length brows) * 1 ≤ 140737488355328) = true)) ∧ (decide (0 + (0 + List.length brows) ≤ List.length (sub brows 0 (List.length brows))) = true)) ∧ (true = true)) ∧ (true = true)) ∧ (true = true)) ∧ (true = true)) ∧ (true = true)) ∧ (true = true)) ∧ ((decide (0 + List.length brows ≤ List.length brows) && (List.all (sub brows 0 (List.length brows)) spByteOk && decide (List.length brows ≤ c))) = true)) ∧ (true = true)) ∧ (true = true)) ∧ (true = true)) ∧ (true = true)) ∧ (true = true)) ∧ (true = true)) ∧ (true = true)) ∧ (true = true)) ∧ (true = true)) ∧ (true = true)) ∧ (true = true)) ∧ ((decide (0 + List.length (spPH (List.map rowByte (sub (sub brows 0 (List.length brows)) (0) (0 + List.length brows)))) ≤ List.length (spPH (List.map rowByte (sub (sub brows 0 (List.length brows)) (0) (0 + List.length brows))))) && (decide (0 + List.length (spPB (List.map rowByte (sub (sub brows 0 (List.length brows)) (0) (0 + List.length brows)))) ≤ List.length (spPB (List.map rowByte (sub (sub brows 0 (List.length brows)) (0) (0 + List.length brows))))) && (decide (List.length (sub (spPH (List.map rowByte (sub (sub brows 0 (List.length brows)) (0) (0 + List.length brows)))) 0 (List.length (spPH (List.map rowByte (sub (sub brows 0 (List.length brows)) (0) (0 + List.length brows)))))) ≤ 200) && true))) = true)) ∧ ((decide (0 + List.length (spNorm (sub (spPH (List.map rowByte (sub (sub brows 0 (List.length brows)) (0) (0 + List.length brows)))) 0 (List.length (spPH (List.map rowByte (sub (sub brows 0 (List.length brows)) (0) (0 + List.length brows))))))) ≤ List.length (spNorm (sub (spPH (List.map rowByte (sub (sub brows 0 (List.length brows)) (0) (0 + List.length brows)))) 0 (List.length (spPH (List.map rowByte (sub (sub brows 0 (List.length brows)) (0) (0 + List.length brows)))))))) && (decide (0 + List.length (spPB (List.map rowByte (sub (sub brows 0 (List.length brows)) (0) (0 + List.length brows)))) ≤ List.length (spPB (List.map rowByte (sub (sub brows 0 (List.length brows)) (0) (0 + List.length brows))))) && (decide (0 + List.length (spPH (List.map rowByte (sub brows 0 (List.length brows)))) ≤ List.length (spPH (List.map rowByte (sub brows 0 (List.length brows))))) && (decide (0 + List.length (spPB (List.map rowByte (sub brows 0 (List.length brows)))) ≤ List.length (spPB (List.map rowByte (sub brows 0 (List.length brows))))) && decide (List.length (sub (spNorm (sub (spPH (List.map rowByte (sub (sub brows 0 (List.length brows)) (0) (0 + List.length brows)))) 0 (List.length (spPH (List.map rowByte (sub (sub brows 0 (List.length brows)) (0) (0 + List.length brows))))))) 0 (List.length (spNorm (sub (spPH (List.map rowByte (sub (sub brows 0 (List.length brows)) (0) (0 + List.length brows)))) 0 (List.length (spPH (List.map rowByte (sub (sub brows 0 (List.length brows)) (0) (0 + List.length brows))))))))) ≤ 4611686018427387904))))) = true)) ∧ (spSameM (spPS (List.map rowByte (sub (sub brows 0 (List.length brows)) (0) (0 + List.length brows)))) (sub (spNorm (sub (spPH (List.map rowByte (sub (sub brows 0 (List.length brows)) (0) (0 + List.length brows)))) 0 (List.length (spPH (List.map rowByte (sub (sub brows 0 (List.length brows)) (0) (0 + List.length brows))))))) 0 (List.length (spNorm (sub (spPH (List.map rowByte (sub (sub brows 0 (List.length brows)) (0) (0 + List.length brows)))) 0 (List.length (spPH (List.map rowByte (sub (sub brows 0 (List.length brows)) (0) (0 + List.length brows))))))))) (sub (spPB (List.map rowByte (sub (sub brows 0 (List.length brows)) (0) (0 + List.length brows)))) 0 (List.length (spPB (List.map rowByte (sub (sub brows 0 (List.length brows)) (0) (0 + List.length brows)))))) (spPS (List.map rowByte (sub brows 0 (List.length brows)))) (sub (spPH (List.map rowByte (sub brows 0 (List.length brows)))) 0 (List.length (spPH (List.map rowByte (sub brows 0 (List.length brows)))))) (sub (spPB (List.map rowByte (sub brows 0 (List.length brows)))) 0 (List.length (spPB (List.map rowByte (sub brows 0 (List.length brows)))))) = true)) ∧ ((spPErr (List.map rowByte (sub (sub brows 0 (List.length brows)) (0) (0 + List.length brows))) == spPErr (List.map rowByte (sub brows 0 (List.length brows)))) = true)) ∧ (decide (0 + (0 + List.length brows) ≤ List.length (sub brows 0 (List.length brows))) = true)) ∧ (decide (0 + List.length brows ≤ List.length brows) = true)) := by unfold Path; kernel_rfl
theorem parses_calls {w : World} {s : List UInt8} {v : Value} (gw : GW w) (hv : Reads w [.int .u8] (byteRows s) v) (hcl : s.length ≤ 1048576) (hcap : ∀ a n c, v = .slice a n c → n ≤ c) :
    Calls Tryz.prog 11 #[v] w (fun e w' => e = .returned (.bool true) ∧ RowKit.Below w.heap.size w w') := by
  obtain ⟨n1, n2, n3, n4⟩ := parse_small (List.map rowByte (byteRows s))
  have hbo := byteRows_ok s
  by_cases h0 : s.length = 0
  · have hs0 : s = [] := List.length_eq_zero_iff.1 h0
    subst hs0
    obtain ⟨y1, hy1⟩ := hv.bi gw rfl
    have hE : HSim (fun _ => y1) (addBlks .e 0 [Blk.cells false [Kd.int IntKind.u8] (byteRows [])]) ([Blk.cells false [Kd.int IntKind.u8] (byteRows [])] : List Blk).length w := HSim.ins gw (fun i blk hi => by
        obtain ⟨rfl, rfl⟩ := bs1 hi
        exact ⟨(hy1 _ 0 rfl).2, rfl, rfl⟩)
    have hcall := calls_pureB P19_ok (c11n_TETT (byteRows [])) (by refine ⟨⟨⟨⟨⟨⟨⟨⟨⟨⟨⟨⟨⟨⟨⟨⟨⟨⟨⟨⟨⟨⟨⟨⟨⟨⟨⟨⟨trivial, ?_⟩, ?_⟩, ?_⟩, ?_⟩, rfl⟩, rfl⟩, rfl⟩, rfl⟩, rfl⟩, rfl⟩, ?_⟩, rfl⟩, rfl⟩, rfl⟩, rfl⟩, rfl⟩, rfl⟩, rfl⟩, rfl⟩, rfl⟩, rfl⟩, rfl⟩, ?_⟩, ?_⟩, ?_⟩, ?_⟩, ?_⟩, ?_⟩ <;> (first | rfl | decide)) hE rfl rfl rfl
    have ea : concL (fun _ => y1) [AV.slq 0 (byteRows []).length] = [v] := by
      simp only [concL]
      rw [(hy1 (fun _ => y1) 0 rfl).1]
    rw [ea] at hcall
    refine hcall.mono fun e w' hx => ?_
    obtain ⟨rfl, hb⟩ := hx
    exact ⟨rfl, hb⟩
  · obtain ⟨y1, c, hy1, a1, ha1⟩ := reads_sl hv (by rw [byteRows_length]; omega) rfl
    have hcc := hcap _ _ _ ha1
    obtain ⟨brows, hbr⟩ : ∃ b, b = byteRows s := ⟨_, rfl⟩
    have hbl : brows.length = s.length := by rw [hbr, byteRows_length]
    rw [← hbr] at hy1 ha1 hcc hbo n1 n2 n3 n4
    have hE : HSim (fun _ => y1) (addBlks .e 0 [Blk.cells false [Kd.int IntKind.u8] brows]) ([Blk.cells false [Kd.int IntKind.u8] brows] : List Blk).length w := HSim.ins gw (fun i blk hi => by
        obtain ⟨rfl, rfl⟩ := bs1 hi
        exact ⟨(hy1 _ 0 rfl).2, rfl, rfl⟩)
    have hcall := calls_pureB P19_ok (c11k_FETT brows c) (by refine ⟨⟨⟨⟨⟨⟨⟨⟨⟨⟨⟨⟨⟨⟨⟨⟨⟨⟨⟨⟨⟨⟨⟨⟨⟨⟨⟨⟨⟨trivial, ?_⟩, ?_⟩, rfl⟩, ?_⟩, ?_⟩, rfl⟩, rfl⟩, rfl⟩, rfl⟩, rfl⟩, rfl⟩, ?_⟩, rfl⟩, rfl⟩, rfl⟩, rfl⟩, rfl⟩, rfl⟩, rfl⟩, rfl⟩, rfl⟩, rfl⟩, rfl⟩, ?_⟩, ?_⟩, ?_⟩, ?_⟩, ?_⟩, ?_⟩ <;> (first | rfl | exact decide_eq_true (by omega) | exact decide_eq_false (by omega) | ((try simp only [Nat.zero_add, sub_whl]); simp only [norm_ph, sameM_refl, hbo, Bool.and_eq_true, decide_eq_true_eq, and_true, true_and, eq_self, beq_self_eq_true] <;> omega) | ((try simp only [Nat.zero_add, sub_whl]); simp only [norm_ph, sameM_refl, hbo, Bool.and_eq_true, decide_eq_true_eq, and_true, true_and, eq_self, beq_self_eq_true]))) hE rfl rfl rfl
    have ea : concL (fun _ => y1) [AV.sl ⟨0, 0, 0⟩ brows.length (.known c)] = [v] := by
      simp only [concL]
      rw [(hy1 (fun _ => y1) 0 rfl).1]
    rw [ea] at hcall
    refine hcall.mono fun e w' hx => ?_
    obtain ⟨rfl, hb⟩ := hx
    refine ⟨?_, hb⟩
    simp only [Nat.zero_add, sub_whl, conc, beq_self_eq_true]
end Go.Proofs.YtpdgmgkkbbndfaaGreatDoor

set_option maxRecDepth 100000
set_option maxHeartbeats 6400000
namespace Go.Proofs.YtpdgmgkkbbndfaaGreatDoor
open Go Go.Proofs Go.Proofs.YtpdgmgkkbbndfaaGreatDoor.SX Go.Proofs.YtpdgmgkkbbndfaaGreatDoor
open Go.ChangeShapes Go.WideShapes Go.ChangeAt Go.RowKit
theorem bytes_arg {H : Type} {enc : TypeId × Value → H} {W : World} {sp : Nat → Bool} {held : Bool} {b0 N : Nat} {v : Value} {d : DataW H} {ps : List MemPlace} (h : DataW.Trod enc Tryz.prog W 0 sp held 23 v d ps) (hok : Value.okWide Tryz.prog W .any b0 23 v) (hN : Rows.uptoBulk d ≤ N) :
    ∃ l : List UInt8, Reads W [.int .u8] (byteRows l) v ∧ l.length ≤ N ∧ ∀ a n c, v = .slice a n c → n ≤ c := by
  unfold Value.okWide at hok
  rw [Tryz.underlying23] at hok
  have ok1 : Cell.okWide Tryz.prog W .any b0 23 v := hok
  obtain ⟨a, n, c, rfl⟩ : ∃ a n c, v = .slice a n c := by
    have ok2 := ok1
    unfold Cell.okWide at ok2
    rw [Tryz.underlying23] at ok2
    simp only [Cell.ok, Tryz.underlying23] at ok2
    cases v <;> simp at ok2 ⊢
  obtain ⟨fuel, hf⟩ := h
  obtain ⟨l, h1, h2⟩ := body_read (x := (d, ps)) (show DataW.trod enc Tryz.prog W 0 sp held fuel 23 [.slice a n c] = some (d, ps) from hf) ok1
  refine ⟨l, h1, Nat.le_trans h2 hN, fun a' n' c' he => ?_⟩
  cases he
  unfold Cell.okWide at ok1
  rw [Tryz.underlying23] at ok1
  simp only [Cell.ok, Tryz.underlying23] at ok1
  cases a with
  | none => cases n <;> cases c <;> simp at ok1 ⊢
  | some a => exact ok1.1
end Go.Proofs.YtpdgmgkkbbndfaaGreatDoor

