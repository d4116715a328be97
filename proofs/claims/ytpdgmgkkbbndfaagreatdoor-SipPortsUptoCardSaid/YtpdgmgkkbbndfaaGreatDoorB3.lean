/- Part 4 of the proof: texts that the last one builds upon. Conditions: as each theorem says. -/
import Derived.Test.YtpdgmgkkbbndfaaGreatDoorB2
import Derived.Shelf.LaysM
import Derived.Shelf.Bytes.Bytes
import Derived.Shelf.LaysC
import Derived.Shelf.Bytes.GrowKept
import Derived.Shelf.Bytes.WriteStringKept
import Derived.Shelf.Bytes.WriteAny
import Derived.Shelf.Bytes.Small
import Derived.Test.YtpdgmgkkbbndfaaGreatDoorProg
import Derived.Lib.BufferKept
import Derived.Lib.BufferOld
import Derived.Lib.Strings
import Derived.WalkKit
import Derived.BigCall
import Derived.Shelf.Strings.Split
set_option linter.unusedSectionVars false
set_option linter.unusedSimpArgs false
set_option linter.unusedVariables false
set_option maxRecDepth 100000
namespace Go.Proofs.YtpdgmgkkbbndfaaGreatDoor
open Go Go.Proofs Go.Proofs.YtpdgmgkkbbndfaaGreatDoor.SX
def b23zI (start hs ts : List UInt8) (n m mn : Nat) (p tp : Int) (mrows hrows : List (List AV)) (k : Int) : SL := ⟨[(12, .ptr ⟨4, 0, 0⟩), (13, .ptr ⟨7, 0, 0⟩), (14, .ptr ⟨8, 0, 0⟩), (15, .ptr ⟨10, 0, 0⟩), (64, .sl ⟨9, 0, 0⟩ n .open_), (65, .int .i64 n), (66, .int .i64 k)], [(2, .cells false [.int .u16, .int .u16] mrows), (8, .cells true [.str, .str, .int .i64, .int .i64, .any] [[.str hs, .str ts, .int .i64 p, .int .i64 tp, .slq 2 mn]]), (9, .cells true [.str, .str] hrows), (10, .cells true [.str, .any, .any] [[.str start, .sl ⟨9, 0, 0⟩ n .open_, .nilSl]])], 13⟩
def b23oI (start hs ts : List UInt8) (n m mn : Nat) (p tp : Int) (mrows hrows : List (List AV)) (k : Int) : SL := ⟨[(12, .ptr ⟨4, 0, 0⟩), (13, .ptr ⟨7, 0, 0⟩), (14, .ptr ⟨8, 0, 0⟩), (15, .ptr ⟨10, 0, 0⟩), (64, .sl ⟨9, 0, 0⟩ n .open_), (65, .int .i64 n), (66, .int .i64 k)], [(2, .cells false [.int .u16, .int .u16] mrows), (8, .cells true [.str, .str, .int .i64, .int .i64, .any] [[.str hs, .str ts, .int .i64 p, .int .i64 tp, .slq 2 mn]]), (9, .cells true [.str, .str] hrows), (10, .cells true [.str, .any, .any] [[.str start, .sl ⟨9, 0, 0⟩ n .open_, .sl ⟨13, 0, 0⟩ m .open_]])], 14⟩
def b23zk0 (start hs ts : List UInt8) (n m mn : Nat) (p tp : Int) (mrows hrows : List (List AV)) (k : Int) : Bool := decide (k < (↑n : Int))
def b23zk1 (start hs ts : List UInt8) (n m mn : Nat) (p tp : Int) (mrows hrows : List (List AV)) (k : Int) : Bool := decide ((0 : Int) ≤ k ∧ k < (↑n : Int))
def b23zk2 (start hs ts : List UInt8) (n m mn : Nat) (p tp : Int) (mrows hrows : List (List AV)) (k : Int) : Bool := decide (0 + Int.toNat k < List.length hrows)
def b23zk3 (start hs ts : List UInt8) (n m mn : Nat) (p tp : Int) (mrows hrows : List (List AV)) (k : Int) : Bool := decide (List.length (AV.toStr (List.getD (List.getD hrows (0 + Int.toNat k) []) (0) AV.undef)) ≤ 140737488355328)
def b23zk4 (start hs ts : List UInt8) (n m mn : Nat) (p tp : Int) (mrows hrows : List (List AV)) (k : Int) : Bool := spLow (AV.toStr (List.getD (List.getD hrows (0 + Int.toNat k) []) (0) AV.undef)) == [(118 : UInt8), (105 : UInt8), (97 : UInt8)]
def b23zk5 (start hs ts : List UInt8) (n m mn : Nat) (p tp : Int) (mrows hrows : List (List AV)) (k : Int) : Bool := (decide (0 + mn ≤ List.length mrows) && decide (List.length (AV.toStr (List.getD (List.getD hrows (0 + Int.toNat k) []) (1) AV.undef)) ≤ 4294967200 ∧ 12 ≤ 4294967200 ∧ List.length hs ≤ 140737488355328 ∧ List.length ts ≤ 140737488355328 ∧ (Int.negSucc (9223372036854775807) ≤ tp ∧ tp ≤ (9223372036854775807 : Int)) ∧ ([(59 : UInt8)] = [(62 : UInt8), (59 : UInt8)] ∨ [(59 : UInt8)] = [(59 : UInt8)])))
def b23zk6 (start hs ts : List UInt8) (n m mn : Nat) (p tp : Int) (mrows hrows : List (List AV)) (k : Int) : Bool := decide (1 < List.length (List.getD hrows (0 + Int.toNat k) []))
theorem b23z_TT (start : List UInt8) (hs : List UInt8) (ts : List UInt8) (n : Nat) (m : Nat) (mn : Nat) (p : Int) (tp : Int) (mrows : List (List AV)) (hrows : List (List AV)) (k : Int) :
 Path (run Tryz.prog P6w 100 (lbody Tryz.prog 23 0) (SL.mp 113 ([pT, pT]) (b23zI start hs ts n m mn p tp mrows hrows k))) 13 [] (b23zI (start) (hs) (ts) (n) (m) (mn) (p) (tp) (mrows) (setAt hrows (0 + Int.toNat k) (1) (AV.str (spBehind hs ts (AV.toStr (List.getD (List.getD hrows (0 + Int.toNat k) []) (1) AV.undef)) [(83 : UInt8), (73 : UInt8), (80 : UInt8), (47 : UInt8), (50 : UInt8), (46 : UInt8), (48 : UInt8), (47 : UInt8), (85 : UInt8), (68 : UInt8), (80 : UInt8), (32 : UInt8)] [(59 : UInt8)] p tp))) (IntKind.wrap IntKind.i64 (k + (1 : Int)))) (Ex.normal)
 (((((((((((((((((True ∧ b23zk0 start hs ts n m mn p tp mrows hrows k = true) ∧ b23zk1 start hs ts n m mn p tp mrows hrows k = true) ∧ b23zk2 start hs ts n m mn p tp mrows hrows k = true) ∧ true = true) ∧ true = true) ∧ true = true) ∧ true = true) ∧ true = true) ∧ b23zk3 start hs ts n m mn p tp mrows hrows k = true) ∧ b23zk4 start hs ts n m mn p tp mrows hrows k = true) ∧ true = true) ∧ true = true) ∧ true = true) ∧ b23zk5 start hs ts n m mn p tp mrows hrows k = true) ∧ b23zk1 start hs ts n m mn p tp mrows hrows k = true) ∧ b23zk2 start hs ts n m mn p tp mrows hrows k = true) ∧ b23zk6 start hs ts n m mn p tp mrows hrows k = true) := by unfold Path; kernel_rfl
def b23zk7 (start hs ts : List UInt8) (n m mn : Nat) (p tp : Int) (mrows hrows : List (List AV)) (k : Int) : Bool := spLow (AV.toStr (List.getD (List.getD hrows (0 + Int.toNat k) []) (0) AV.undef)) == [(99 : UInt8), (111 : UInt8), (110 : UInt8), (116 : UInt8), (97 : UInt8), (99 : UInt8), (116 : UInt8)]
def b23zk8 (start hs ts : List UInt8) (n m mn : Nat) (p tp : Int) (mrows hrows : List (List AV)) (k : Int) : Bool := (decide (0 + mn ≤ List.length mrows) && decide (List.length (AV.toStr (List.getD (List.getD hrows (0 + Int.toNat k) []) (1) AV.undef)) ≤ 4294967200 ∧ 1 ≤ 4294967200 ∧ List.length hs ≤ 140737488355328 ∧ List.length ts ≤ 140737488355328 ∧ (Int.negSucc (9223372036854775807) ≤ tp ∧ tp ≤ (9223372036854775807 : Int)) ∧ ([(62 : UInt8), (59 : UInt8)] = [(62 : UInt8), (59 : UInt8)] ∨ [(62 : UInt8), (59 : UInt8)] = [(59 : UInt8)])))
theorem b23z_TFT (start : List UInt8) (hs : List UInt8) (ts : List UInt8) (n : Nat) (m : Nat) (mn : Nat) (p : Int) (tp : Int) (mrows : List (List AV)) (hrows : List (List AV)) (k : Int) :
 Path (run Tryz.prog P6w 100 (lbody Tryz.prog 23 0) (SL.mp 113 ([pT, pF, pT]) (b23zI start hs ts n m mn p tp mrows hrows k))) 13 [] (b23zI (start) (hs) (ts) (n) (m) (mn) (p) (tp) (mrows) (setAt hrows (0 + Int.toNat k) (1) (AV.str (spBehind hs ts (AV.toStr (List.getD (List.getD hrows (0 + Int.toNat k) []) (1) AV.undef)) [(64 : UInt8)] [(62 : UInt8), (59 : UInt8)] p tp))) (IntKind.wrap IntKind.i64 (k + (1 : Int)))) (Ex.normal)
 ((((((((((((((((((True ∧ b23zk0 start hs ts n m mn p tp mrows hrows k = true) ∧ b23zk1 start hs ts n m mn p tp mrows hrows k = true) ∧ b23zk2 start hs ts n m mn p tp mrows hrows k = true) ∧ true = true) ∧ true = true) ∧ true = true) ∧ true = true) ∧ true = true) ∧ b23zk3 start hs ts n m mn p tp mrows hrows k = true) ∧ b23zk4 start hs ts n m mn p tp mrows hrows k = false) ∧ b23zk7 start hs ts n m mn p tp mrows hrows k = true) ∧ true = true) ∧ true = true) ∧ true = true) ∧ b23zk8 start hs ts n m mn p tp mrows hrows k = true) ∧ b23zk1 start hs ts n m mn p tp mrows hrows k = true) ∧ b23zk2 start hs ts n m mn p tp mrows hrows k = true) ∧ b23zk6 start hs ts n m mn p tp mrows hrows k = true) := by unfold Path; kernel_rfl
def b23zk9 (start hs ts : List UInt8) (n m mn : Nat) (p tp : Int) (mrows hrows : List (List AV)) (k : Int) : Bool := spLow (AV.toStr (List.getD (List.getD hrows (0 + Int.toNat k) []) (0) AV.undef)) == [(99 : UInt8), (111 : UInt8), (110 : UInt8), (116 : UInt8), (101 : UInt8), (110 : UInt8), (116 : UInt8), (45 : UInt8), (108 : UInt8), (101 : UInt8), (110 : UInt8), (103 : UInt8), (116 : UInt8), (104 : UInt8)]
theorem b23z_TFFT (start : List UInt8) (hs : List UInt8) (ts : List UInt8) (n : Nat) (m : Nat) (mn : Nat) (p : Int) (tp : Int) (mrows : List (List AV)) (hrows : List (List AV)) (k : Int) :
 Path (run Tryz.prog P6w 100 (lbody Tryz.prog 23 0) (SL.mp 113 ([pT, pF, pF, pT]) (b23zI start hs ts n m mn p tp mrows hrows k))) 13 [] (b23zI (start) (hs) (ts) (n) (m) (mn) (p) (tp) (mrows) (setAt hrows (0 + Int.toNat k) (1) (AV.str [(48 : UInt8)])) (IntKind.wrap IntKind.i64 (k + (1 : Int)))) (Ex.normal)
 ((((((((((((((((((True ∧ b23zk0 start hs ts n m mn p tp mrows hrows k = true) ∧ b23zk1 start hs ts n m mn p tp mrows hrows k = true) ∧ b23zk2 start hs ts n m mn p tp mrows hrows k = true) ∧ true = true) ∧ true = true) ∧ true = true) ∧ true = true) ∧ true = true) ∧ b23zk3 start hs ts n m mn p tp mrows hrows k = true) ∧ b23zk4 start hs ts n m mn p tp mrows hrows k = false) ∧ b23zk7 start hs ts n m mn p tp mrows hrows k = false) ∧ b23zk9 start hs ts n m mn p tp mrows hrows k = true) ∧ true = true) ∧ true = true) ∧ true = true) ∧ b23zk1 start hs ts n m mn p tp mrows hrows k = true) ∧ b23zk2 start hs ts n m mn p tp mrows hrows k = true) ∧ b23zk6 start hs ts n m mn p tp mrows hrows k = true) := by unfold Path; kernel_rfl
theorem b23z_TFFF (start : List UInt8) (hs : List UInt8) (ts : List UInt8) (n : Nat) (m : Nat) (mn : Nat) (p : Int) (tp : Int) (mrows : List (List AV)) (hrows : List (List AV)) (k : Int) :
 Path (run Tryz.prog P6w 100 (lbody Tryz.prog 23 0) (SL.mp 113 ([pT, pF, pF, pF]) (b23zI start hs ts n m mn p tp mrows hrows k))) 13 [] (b23zI (start) (hs) (ts) (n) (m) (mn) (p) (tp) (mrows) (hrows) (IntKind.wrap IntKind.i64 (k + (1 : Int)))) (Ex.normal)
 ((((((((((((True ∧ b23zk0 start hs ts n m mn p tp mrows hrows k = true) ∧ b23zk1 start hs ts n m mn p tp mrows hrows k = true) ∧ b23zk2 start hs ts n m mn p tp mrows hrows k = true) ∧ true = true) ∧ true = true) ∧ true = true) ∧ true = true) ∧ true = true) ∧ b23zk3 start hs ts n m mn p tp mrows hrows k = true) ∧ b23zk4 start hs ts n m mn p tp mrows hrows k = false) ∧ b23zk7 start hs ts n m mn p tp mrows hrows k = false) ∧ b23zk9 start hs ts n m mn p tp mrows hrows k = false) := by unfold Path; kernel_rfl
theorem b23z_F (start : List UInt8) (hs : List UInt8) (ts : List UInt8) (n : Nat) (m : Nat) (mn : Nat) (p : Int) (tp : Int) (mrows : List (List AV)) (hrows : List (List AV)) (k : Int) :
 Path (run Tryz.prog P6w 100 (lbody Tryz.prog 23 0) (SL.mp 113 ([pF]) (b23zI start hs ts n m mn p tp mrows hrows k))) 13 [] (b23zI (start) (hs) (ts) (n) (m) (mn) (p) (tp) (mrows) (hrows) (k)) (Ex.exit 2)
 (True ∧ b23zk0 start hs ts n m mn p tp mrows hrows k = false) := by unfold Path; kernel_rfl
def b23z_cls (start hs ts : List UInt8) (n m mn : Nat) (p tp : Int) (mrows hrows : List (List AV)) (k : Int) : Nat := (bif b23zk0 start hs ts n m mn p tp mrows hrows k then (bif b23zk4 start hs ts n m mn p tp mrows hrows k then 0 else (bif b23zk7 start hs ts n m mn p tp mrows hrows k then 1 else (bif b23zk9 start hs ts n m mn p tp mrows hrows k then 2 else 3))) else 4)
theorem b23z_c0 (start hs ts : List UInt8) (n m mn : Nat) (p tp : Int) (mrows hrows : List (List AV)) (k : Int) (h : b23z_cls start hs ts n m mn p tp mrows hrows k = 0) (m0 : b23zk0 start hs ts n m mn p tp mrows hrows k = true → b23zk1 start hs ts n m mn p tp mrows hrows k = true) (m1 : b23zk0 start hs ts n m mn p tp mrows hrows k = true → b23zk2 start hs ts n m mn p tp mrows hrows k = true) (m2 : b23zk0 start hs ts n m mn p tp mrows hrows k = true → b23zk3 start hs ts n m mn p tp mrows hrows k = true) (m3 : b23zk0 start hs ts n m mn p tp mrows hrows k = true → b23zk4 start hs ts n m mn p tp mrows hrows k = true → b23zk5 start hs ts n m mn p tp mrows hrows k = true) (m4 : b23zk0 start hs ts n m mn p tp mrows hrows k = true → b23zk4 start hs ts n m mn p tp mrows hrows k = true → b23zk6 start hs ts n m mn p tp mrows hrows k = true) : BodyOK Tryz.prog (lbody Tryz.prog 23 0) 113 13 (b23zI start hs ts n m mn p tp mrows hrows k) (Ex.normal) (b23zI (start) (hs) (ts) (n) (m) (mn) (p) (tp) (mrows) (setAt hrows (0 + Int.toNat k) (1) (AV.str (spBehind hs ts (AV.toStr (List.getD (List.getD hrows (0 + Int.toNat k) []) (1) AV.undef)) [(83 : UInt8), (73 : UInt8), (80 : UInt8), (47 : UInt8), (50 : UInt8), (46 : UInt8), (48 : UInt8), (47 : UInt8), (85 : UInt8), (68 : UInt8), (80 : UInt8), (32 : UInt8)] [(59 : UInt8)] p tp))) (IntKind.wrap IntKind.i64 (k + (1 : Int)))) := by
  unfold b23z_cls at h
  cases q1 : b23zk0 start hs ts n m mn p tp mrows hrows k with
  | true =>
    rw [q1, cond_true] at h
    cases q2 : b23zk4 start hs ts n m mn p tp mrows hrows k with
    | true =>
      rw [q2, cond_true] at h
      exact body_by P6w_ok (b23z_TT start hs ts n m mn p tp mrows hrows k) rfl (by simp only [q1, q2, (m0 q1), (m1 q1), (m2 q1), (m3 q1 q2), (m4 q1 q2), eq_self, and_true, true_and]) rfl
    | false =>
      rw [q2, cond_false] at h
      cases q3 : b23zk7 start hs ts n m mn p tp mrows hrows k with
      | true =>
        rw [q3, cond_true] at h
        exact absurd h (by decide)
      | false =>
        rw [q3, cond_false] at h
        cases q4 : b23zk9 start hs ts n m mn p tp mrows hrows k with
        | true =>
          rw [q4, cond_true] at h
          exact absurd h (by decide)
        | false =>
          rw [q4, cond_false] at h
          exact absurd h (by decide)
  | false =>
    rw [q1, cond_false] at h
    exact absurd h (by decide)
theorem b23z_c1 (start hs ts : List UInt8) (n m mn : Nat) (p tp : Int) (mrows hrows : List (List AV)) (k : Int) (h : b23z_cls start hs ts n m mn p tp mrows hrows k = 1) (m0 : b23zk0 start hs ts n m mn p tp mrows hrows k = true → b23zk1 start hs ts n m mn p tp mrows hrows k = true) (m1 : b23zk0 start hs ts n m mn p tp mrows hrows k = true → b23zk2 start hs ts n m mn p tp mrows hrows k = true) (m2 : b23zk0 start hs ts n m mn p tp mrows hrows k = true → b23zk3 start hs ts n m mn p tp mrows hrows k = true) (m3 : b23zk0 start hs ts n m mn p tp mrows hrows k = true → b23zk4 start hs ts n m mn p tp mrows hrows k = false → b23zk7 start hs ts n m mn p tp mrows hrows k = true → b23zk8 start hs ts n m mn p tp mrows hrows k = true) (m4 : b23zk0 start hs ts n m mn p tp mrows hrows k = true → b23zk4 start hs ts n m mn p tp mrows hrows k = false → b23zk7 start hs ts n m mn p tp mrows hrows k = true → b23zk6 start hs ts n m mn p tp mrows hrows k = true) : BodyOK Tryz.prog (lbody Tryz.prog 23 0) 113 13 (b23zI start hs ts n m mn p tp mrows hrows k) (Ex.normal) (b23zI (start) (hs) (ts) (n) (m) (mn) (p) (tp) (mrows) (setAt hrows (0 + Int.toNat k) (1) (AV.str (spBehind hs ts (AV.toStr (List.getD (List.getD hrows (0 + Int.toNat k) []) (1) AV.undef)) [(64 : UInt8)] [(62 : UInt8), (59 : UInt8)] p tp))) (IntKind.wrap IntKind.i64 (k + (1 : Int)))) := by
  unfold b23z_cls at h
  cases q1 : b23zk0 start hs ts n m mn p tp mrows hrows k with
  | true =>
    rw [q1, cond_true] at h
    cases q2 : b23zk4 start hs ts n m mn p tp mrows hrows k with
    | true =>
      rw [q2, cond_true] at h
      exact absurd h (by decide)
    | false =>
      rw [q2, cond_false] at h
      cases q3 : b23zk7 start hs ts n m mn p tp mrows hrows k with
      | true =>
        rw [q3, cond_true] at h
        exact body_by P6w_ok (b23z_TFT start hs ts n m mn p tp mrows hrows k) rfl (by simp only [q1, q2, q3, (m0 q1), (m1 q1), (m2 q1), (m3 q1 q2 q3), (m4 q1 q2 q3), eq_self, and_true, true_and]) rfl
      | false =>
        rw [q3, cond_false] at h
        cases q4 : b23zk9 start hs ts n m mn p tp mrows hrows k with
        | true =>
          rw [q4, cond_true] at h
          exact absurd h (by decide)
        | false =>
          rw [q4, cond_false] at h
          exact absurd h (by decide)
  | false =>
    rw [q1, cond_false] at h
    exact absurd h (by decide)
theorem b23z_c2 (start hs ts : List UInt8) (n m mn : Nat) (p tp : Int) (mrows hrows : List (List AV)) (k : Int) (h : b23z_cls start hs ts n m mn p tp mrows hrows k = 2) (m0 : b23zk0 start hs ts n m mn p tp mrows hrows k = true → b23zk1 start hs ts n m mn p tp mrows hrows k = true) (m1 : b23zk0 start hs ts n m mn p tp mrows hrows k = true → b23zk2 start hs ts n m mn p tp mrows hrows k = true) (m2 : b23zk0 start hs ts n m mn p tp mrows hrows k = true → b23zk3 start hs ts n m mn p tp mrows hrows k = true) (m3 : b23zk0 start hs ts n m mn p tp mrows hrows k = true → b23zk4 start hs ts n m mn p tp mrows hrows k = false → b23zk7 start hs ts n m mn p tp mrows hrows k = false → b23zk9 start hs ts n m mn p tp mrows hrows k = true → b23zk6 start hs ts n m mn p tp mrows hrows k = true) : BodyOK Tryz.prog (lbody Tryz.prog 23 0) 113 13 (b23zI start hs ts n m mn p tp mrows hrows k) (Ex.normal) (b23zI (start) (hs) (ts) (n) (m) (mn) (p) (tp) (mrows) (setAt hrows (0 + Int.toNat k) (1) (AV.str [(48 : UInt8)])) (IntKind.wrap IntKind.i64 (k + (1 : Int)))) := by
  unfold b23z_cls at h
  cases q1 : b23zk0 start hs ts n m mn p tp mrows hrows k with
  | true =>
    rw [q1, cond_true] at h
    cases q2 : b23zk4 start hs ts n m mn p tp mrows hrows k with
    | true =>
      rw [q2, cond_true] at h
      exact absurd h (by decide)
    | false =>
      rw [q2, cond_false] at h
      cases q3 : b23zk7 start hs ts n m mn p tp mrows hrows k with
      | true =>
        rw [q3, cond_true] at h
        exact absurd h (by decide)
      | false =>
        rw [q3, cond_false] at h
        cases q4 : b23zk9 start hs ts n m mn p tp mrows hrows k with
        | true =>
          rw [q4, cond_true] at h
          exact body_by P6w_ok (b23z_TFFT start hs ts n m mn p tp mrows hrows k) rfl (by simp only [q1, q2, q3, q4, (m0 q1), (m1 q1), (m2 q1), (m3 q1 q2 q3 q4), eq_self, and_true, true_and]) rfl
        | false =>
          rw [q4, cond_false] at h
          exact absurd h (by decide)
  | false =>
    rw [q1, cond_false] at h
    exact absurd h (by decide)
theorem b23z_c3 (start hs ts : List UInt8) (n m mn : Nat) (p tp : Int) (mrows hrows : List (List AV)) (k : Int) (h : b23z_cls start hs ts n m mn p tp mrows hrows k = 3) (m0 : b23zk0 start hs ts n m mn p tp mrows hrows k = true → b23zk1 start hs ts n m mn p tp mrows hrows k = true) (m1 : b23zk0 start hs ts n m mn p tp mrows hrows k = true → b23zk2 start hs ts n m mn p tp mrows hrows k = true) (m2 : b23zk0 start hs ts n m mn p tp mrows hrows k = true → b23zk3 start hs ts n m mn p tp mrows hrows k = true) : BodyOK Tryz.prog (lbody Tryz.prog 23 0) 113 13 (b23zI start hs ts n m mn p tp mrows hrows k) (Ex.normal) (b23zI (start) (hs) (ts) (n) (m) (mn) (p) (tp) (mrows) (hrows) (IntKind.wrap IntKind.i64 (k + (1 : Int)))) := by
  unfold b23z_cls at h
  cases q1 : b23zk0 start hs ts n m mn p tp mrows hrows k with
  | true =>
    rw [q1, cond_true] at h
    cases q2 : b23zk4 start hs ts n m mn p tp mrows hrows k with
    | true =>
      rw [q2, cond_true] at h
      exact absurd h (by decide)
    | false =>
      rw [q2, cond_false] at h
      cases q3 : b23zk7 start hs ts n m mn p tp mrows hrows k with
      | true =>
        rw [q3, cond_true] at h
        exact absurd h (by decide)
      | false =>
        rw [q3, cond_false] at h
        cases q4 : b23zk9 start hs ts n m mn p tp mrows hrows k with
        | true =>
          rw [q4, cond_true] at h
          exact absurd h (by decide)
        | false =>
          rw [q4, cond_false] at h
          exact body_by P6w_ok (b23z_TFFF start hs ts n m mn p tp mrows hrows k) rfl (by simp only [q1, q2, q3, q4, (m0 q1), (m1 q1), (m2 q1), eq_self, and_true, true_and]) rfl
  | false =>
    rw [q1, cond_false] at h
    exact absurd h (by decide)
theorem b23z_c4 (start hs ts : List UInt8) (n m mn : Nat) (p tp : Int) (mrows hrows : List (List AV)) (k : Int) (h : b23z_cls start hs ts n m mn p tp mrows hrows k = 4)  : BodyOK Tryz.prog (lbody Tryz.prog 23 0) 113 13 (b23zI start hs ts n m mn p tp mrows hrows k) (Ex.exit 2) (b23zI (start) (hs) (ts) (n) (m) (mn) (p) (tp) (mrows) (hrows) (k)) := by
  unfold b23z_cls at h
  cases q1 : b23zk0 start hs ts n m mn p tp mrows hrows k with
  | true =>
    rw [q1, cond_true] at h
    cases q2 : b23zk4 start hs ts n m mn p tp mrows hrows k with
    | true =>
      rw [q2, cond_true] at h
      exact absurd h (by decide)
    | false =>
      rw [q2, cond_false] at h
      cases q3 : b23zk7 start hs ts n m mn p tp mrows hrows k with
      | true =>
        rw [q3, cond_true] at h
        exact absurd h (by decide)
      | false =>
        rw [q3, cond_false] at h
        cases q4 : b23zk9 start hs ts n m mn p tp mrows hrows k with
        | true =>
          rw [q4, cond_true] at h
          exact absurd h (by decide)
        | false =>
          rw [q4, cond_false] at h
          exact absurd h (by decide)
  | false =>
    rw [q1, cond_false] at h
    exact body_by P6w_ok (b23z_F start hs ts n m mn p tp mrows hrows k) rfl (by simp only [q1, eq_self, and_true, true_and]) rfl
def b23ok0 (start hs ts : List UInt8) (n m mn : Nat) (p tp : Int) (mrows hrows : List (List AV)) (k : Int) : Bool := decide (k < (↑n : Int))
def b23ok1 (start hs ts : List UInt8) (n m mn : Nat) (p tp : Int) (mrows hrows : List (List AV)) (k : Int) : Bool := decide ((0 : Int) ≤ k ∧ k < (↑n : Int))
def b23ok2 (start hs ts : List UInt8) (n m mn : Nat) (p tp : Int) (mrows hrows : List (List AV)) (k : Int) : Bool := decide (0 + Int.toNat k < List.length hrows)
def b23ok3 (start hs ts : List UInt8) (n m mn : Nat) (p tp : Int) (mrows hrows : List (List AV)) (k : Int) : Bool := decide (List.length (AV.toStr (List.getD (List.getD hrows (0 + Int.toNat k) []) (0) AV.undef)) ≤ 140737488355328)
def b23ok4 (start hs ts : List UInt8) (n m mn : Nat) (p tp : Int) (mrows hrows : List (List AV)) (k : Int) : Bool := spLow (AV.toStr (List.getD (List.getD hrows (0 + Int.toNat k) []) (0) AV.undef)) == [(118 : UInt8), (105 : UInt8), (97 : UInt8)]
def b23ok5 (start hs ts : List UInt8) (n m mn : Nat) (p tp : Int) (mrows hrows : List (List AV)) (k : Int) : Bool := (decide (0 + mn ≤ List.length mrows) && decide (List.length (AV.toStr (List.getD (List.getD hrows (0 + Int.toNat k) []) (1) AV.undef)) ≤ 4294967200 ∧ 12 ≤ 4294967200 ∧ List.length hs ≤ 140737488355328 ∧ List.length ts ≤ 140737488355328 ∧ (Int.negSucc (9223372036854775807) ≤ tp ∧ tp ≤ (9223372036854775807 : Int)) ∧ ([(59 : UInt8)] = [(62 : UInt8), (59 : UInt8)] ∨ [(59 : UInt8)] = [(59 : UInt8)])))
def b23ok6 (start hs ts : List UInt8) (n m mn : Nat) (p tp : Int) (mrows hrows : List (List AV)) (k : Int) : Bool := decide (1 < List.length (List.getD hrows (0 + Int.toNat k) []))
theorem b23o_TT (start : List UInt8) (hs : List UInt8) (ts : List UInt8) (n : Nat) (m : Nat) (mn : Nat) (p : Int) (tp : Int) (mrows : List (List AV)) (hrows : List (List AV)) (k : Int) :
 Path (run Tryz.prog P6w 100 (lbody Tryz.prog 23 0) (SL.mp 113 ([pT, pT]) (b23oI start hs ts n m mn p tp mrows hrows k))) 14 [] (b23oI (start) (hs) (ts) (n) (m) (mn) (p) (tp) (mrows) (setAt hrows (0 + Int.toNat k) (1) (AV.str (spBehind hs ts (AV.toStr (List.getD (List.getD hrows (0 + Int.toNat k) []) (1) AV.undef)) [(83 : UInt8), (73 : UInt8), (80 : UInt8), (47 : UInt8), (50 : UInt8), (46 : UInt8), (48 : UInt8), (47 : UInt8), (85 : UInt8), (68 : UInt8), (80 : UInt8), (32 : UInt8)] [(59 : UInt8)] p tp))) (IntKind.wrap IntKind.i64 (k + (1 : Int)))) (Ex.normal)
 (((((((((((((((((True ∧ b23ok0 start hs ts n m mn p tp mrows hrows k = true) ∧ b23ok1 start hs ts n m mn p tp mrows hrows k = true) ∧ b23ok2 start hs ts n m mn p tp mrows hrows k = true) ∧ true = true) ∧ true = true) ∧ true = true) ∧ true = true) ∧ true = true) ∧ b23ok3 start hs ts n m mn p tp mrows hrows k = true) ∧ b23ok4 start hs ts n m mn p tp mrows hrows k = true) ∧ true = true) ∧ true = true) ∧ true = true) ∧ b23ok5 start hs ts n m mn p tp mrows hrows k = true) ∧ b23ok1 start hs ts n m mn p tp mrows hrows k = true) ∧ b23ok2 start hs ts n m mn p tp mrows hrows k = true) ∧ b23ok6 start hs ts n m mn p tp mrows hrows k = true) := by unfold Path; kernel_rfl
def b23ok7 (start hs ts : List UInt8) (n m mn : Nat) (p tp : Int) (mrows hrows : List (List AV)) (k : Int) : Bool := spLow (AV.toStr (List.getD (List.getD hrows (0 + Int.toNat k) []) (0) AV.undef)) == [(99 : UInt8), (111 : UInt8), (110 : UInt8), (116 : UInt8), (97 : UInt8), (99 : UInt8), (116 : UInt8)]
def b23ok8 (start hs ts : List UInt8) (n m mn : Nat) (p tp : Int) (mrows hrows : List (List AV)) (k : Int) : Bool := (decide (0 + mn ≤ List.length mrows) && decide (List.length (AV.toStr (List.getD (List.getD hrows (0 + Int.toNat k) []) (1) AV.undef)) ≤ 4294967200 ∧ 1 ≤ 4294967200 ∧ List.length hs ≤ 140737488355328 ∧ List.length ts ≤ 140737488355328 ∧ (Int.negSucc (9223372036854775807) ≤ tp ∧ tp ≤ (9223372036854775807 : Int)) ∧ ([(62 : UInt8), (59 : UInt8)] = [(62 : UInt8), (59 : UInt8)] ∨ [(62 : UInt8), (59 : UInt8)] = [(59 : UInt8)])))
theorem b23o_TFT (start : List UInt8) (hs : List UInt8) (ts : List UInt8) (n : Nat) (m : Nat) (mn : Nat) (p : Int) (tp : Int) (mrows : List (List AV)) (hrows : List (List AV)) (k : Int) :
 Path (run Tryz.prog P6w 100 (lbody Tryz.prog 23 0) (SL.mp 113 ([pT, pF, pT]) (b23oI start hs ts n m mn p tp mrows hrows k))) 14 [] (b23oI (start) (hs) (ts) (n) (m) (mn) (p) (tp) (mrows) (setAt hrows (0 + Int.toNat k) (1) (AV.str (spBehind hs ts (AV.toStr (List.getD (List.getD hrows (0 + Int.toNat k) []) (1) AV.undef)) [(64 : UInt8)] [(62 : UInt8), (59 : UInt8)] p tp))) (IntKind.wrap IntKind.i64 (k + (1 : Int)))) (Ex.normal)
 ((((((((((((((((((True ∧ b23ok0 start hs ts n m mn p tp mrows hrows k = true) ∧ b23ok1 start hs ts n m mn p tp mrows hrows k = true) ∧ b23ok2 start hs ts n m mn p tp mrows hrows k = true) ∧ true = true) ∧ true = true) ∧ true = true) ∧ true = true) ∧ true = true) ∧ b23ok3 start hs ts n m mn p tp mrows hrows k = true) ∧ b23ok4 start hs ts n m mn p tp mrows hrows k = false) ∧ b23ok7 start hs ts n m mn p tp mrows hrows k = true) ∧ true = true) ∧ true = true) ∧ true = true) ∧ b23ok8 start hs ts n m mn p tp mrows hrows k = true) ∧ b23ok1 start hs ts n m mn p tp mrows hrows k = true) ∧ b23ok2 start hs ts n m mn p tp mrows hrows k = true) ∧ b23ok6 start hs ts n m mn p tp mrows hrows k = true) := by unfold Path; kernel_rfl
def b23ok9 (start hs ts : List UInt8) (n m mn : Nat) (p tp : Int) (mrows hrows : List (List AV)) (k : Int) : Bool := spLow (AV.toStr (List.getD (List.getD hrows (0 + Int.toNat k) []) (0) AV.undef)) == [(99 : UInt8), (111 : UInt8), (110 : UInt8), (116 : UInt8), (101 : UInt8), (110 : UInt8), (116 : UInt8), (45 : UInt8), (108 : UInt8), (101 : UInt8), (110 : UInt8), (103 : UInt8), (116 : UInt8), (104 : UInt8)]
def b23ok10 (start hs ts : List UInt8) (n m mn : Nat) (p tp : Int) (mrows hrows : List (List AV)) (k : Int) : Bool := decide (Int.negSucc (9223372036854775807) ≤ (↑m : Int) ∧ (↑m : Int) ≤ (9223372036854775807 : Int))
theorem b23o_TFFT (start : List UInt8) (hs : List UInt8) (ts : List UInt8) (n : Nat) (m : Nat) (mn : Nat) (p : Int) (tp : Int) (mrows : List (List AV)) (hrows : List (List AV)) (k : Int) :
 Path (run Tryz.prog P6w 100 (lbody Tryz.prog 23 0) (SL.mp 113 ([pT, pF, pF, pT]) (b23oI start hs ts n m mn p tp mrows hrows k))) 14 [] (b23oI (start) (hs) (ts) (n) (m) (mn) (p) (tp) (mrows) (setAt hrows (0 + Int.toNat k) (1) (AV.str (spItoa (↑m : Int)))) (IntKind.wrap IntKind.i64 (k + (1 : Int)))) (Ex.normal)
 ((((((((((((((((((True ∧ b23ok0 start hs ts n m mn p tp mrows hrows k = true) ∧ b23ok1 start hs ts n m mn p tp mrows hrows k = true) ∧ b23ok2 start hs ts n m mn p tp mrows hrows k = true) ∧ true = true) ∧ true = true) ∧ true = true) ∧ true = true) ∧ true = true) ∧ b23ok3 start hs ts n m mn p tp mrows hrows k = true) ∧ b23ok4 start hs ts n m mn p tp mrows hrows k = false) ∧ b23ok7 start hs ts n m mn p tp mrows hrows k = false) ∧ b23ok9 start hs ts n m mn p tp mrows hrows k = true) ∧ true = true) ∧ true = true) ∧ b23ok10 start hs ts n m mn p tp mrows hrows k = true) ∧ b23ok1 start hs ts n m mn p tp mrows hrows k = true) ∧ b23ok2 start hs ts n m mn p tp mrows hrows k = true) ∧ b23ok6 start hs ts n m mn p tp mrows hrows k = true) := by unfold Path; kernel_rfl
theorem b23o_TFFF (start : List UInt8) (hs : List UInt8) (ts : List UInt8) (n : Nat) (m : Nat) (mn : Nat) (p : Int) (tp : Int) (mrows : List (List AV)) (hrows : List (List AV)) (k : Int) :
 Path (run Tryz.prog P6w 100 (lbody Tryz.prog 23 0) (SL.mp 113 ([pT, pF, pF, pF]) (b23oI start hs ts n m mn p tp mrows hrows k))) 14 [] (b23oI (start) (hs) (ts) (n) (m) (mn) (p) (tp) (mrows) (hrows) (IntKind.wrap IntKind.i64 (k + (1 : Int)))) (Ex.normal)
 ((((((((((((True ∧ b23ok0 start hs ts n m mn p tp mrows hrows k = true) ∧ b23ok1 start hs ts n m mn p tp mrows hrows k = true) ∧ b23ok2 start hs ts n m mn p tp mrows hrows k = true) ∧ true = true) ∧ true = true) ∧ true = true) ∧ true = true) ∧ true = true) ∧ b23ok3 start hs ts n m mn p tp mrows hrows k = true) ∧ b23ok4 start hs ts n m mn p tp mrows hrows k = false) ∧ b23ok7 start hs ts n m mn p tp mrows hrows k = false) ∧ b23ok9 start hs ts n m mn p tp mrows hrows k = false) := by unfold Path; kernel_rfl
theorem b23o_F (start : List UInt8) (hs : List UInt8) (ts : List UInt8) (n : Nat) (m : Nat) (mn : Nat) (p : Int) (tp : Int) (mrows : List (List AV)) (hrows : List (List AV)) (k : Int) :
 Path (run Tryz.prog P6w 100 (lbody Tryz.prog 23 0) (SL.mp 113 ([pF]) (b23oI start hs ts n m mn p tp mrows hrows k))) 14 [] (b23oI (start) (hs) (ts) (n) (m) (mn) (p) (tp) (mrows) (hrows) (k)) (Ex.exit 2)
 (True ∧ b23ok0 start hs ts n m mn p tp mrows hrows k = false) := by unfold Path; kernel_rfl
def b23o_cls (start hs ts : List UInt8) (n m mn : Nat) (p tp : Int) (mrows hrows : List (List AV)) (k : Int) : Nat := (bif b23ok0 start hs ts n m mn p tp mrows hrows k then (bif b23ok4 start hs ts n m mn p tp mrows hrows k then 0 else (bif b23ok7 start hs ts n m mn p tp mrows hrows k then 1 else (bif b23ok9 start hs ts n m mn p tp mrows hrows k then 2 else 3))) else 4)
theorem b23o_c0 (start hs ts : List UInt8) (n m mn : Nat) (p tp : Int) (mrows hrows : List (List AV)) (k : Int) (h : b23o_cls start hs ts n m mn p tp mrows hrows k = 0) (m0 : b23ok0 start hs ts n m mn p tp mrows hrows k = true → b23ok1 start hs ts n m mn p tp mrows hrows k = true) (m1 : b23ok0 start hs ts n m mn p tp mrows hrows k = true → b23ok2 start hs ts n m mn p tp mrows hrows k = true) (m2 : b23ok0 start hs ts n m mn p tp mrows hrows k = true → b23ok3 start hs ts n m mn p tp mrows hrows k = true) (m3 : b23ok0 start hs ts n m mn p tp mrows hrows k = true → b23ok4 start hs ts n m mn p tp mrows hrows k = true → b23ok5 start hs ts n m mn p tp mrows hrows k = true) (m4 : b23ok0 start hs ts n m mn p tp mrows hrows k = true → b23ok4 start hs ts n m mn p tp mrows hrows k = true → b23ok6 start hs ts n m mn p tp mrows hrows k = true) : BodyOK Tryz.prog (lbody Tryz.prog 23 0) 113 14 (b23oI start hs ts n m mn p tp mrows hrows k) (Ex.normal) (b23oI (start) (hs) (ts) (n) (m) (mn) (p) (tp) (mrows) (setAt hrows (0 + Int.toNat k) (1) (AV.str (spBehind hs ts (AV.toStr (List.getD (List.getD hrows (0 + Int.toNat k) []) (1) AV.undef)) [(83 : UInt8), (73 : UInt8), (80 : UInt8), (47 : UInt8), (50 : UInt8), (46 : UInt8), (48 : UInt8), (47 : UInt8), (85 : UInt8), (68 : UInt8), (80 : UInt8), (32 : UInt8)] [(59 : UInt8)] p tp))) (IntKind.wrap IntKind.i64 (k + (1 : Int)))) := by
  unfold b23o_cls at h
  cases q1 : b23ok0 start hs ts n m mn p tp mrows hrows k with
  | true =>
    rw [q1, cond_true] at h
    cases q2 : b23ok4 start hs ts n m mn p tp mrows hrows k with
    | true =>
      rw [q2, cond_true] at h
      exact body_by P6w_ok (b23o_TT start hs ts n m mn p tp mrows hrows k) rfl (by simp only [q1, q2, (m0 q1), (m1 q1), (m2 q1), (m3 q1 q2), (m4 q1 q2), eq_self, and_true, true_and]) rfl
    | false =>
      rw [q2, cond_false] at h
      cases q3 : b23ok7 start hs ts n m mn p tp mrows hrows k with
      | true =>
        rw [q3, cond_true] at h
        exact absurd h (by decide)
      | false =>
        rw [q3, cond_false] at h
        cases q4 : b23ok9 start hs ts n m mn p tp mrows hrows k with
        | true =>
          rw [q4, cond_true] at h
          exact absurd h (by decide)
        | false =>
          rw [q4, cond_false] at h
          exact absurd h (by decide)
  | false =>
    rw [q1, cond_false] at h
    exact absurd h (by decide)
theorem b23o_c1 (start hs ts : List UInt8) (n m mn : Nat) (p tp : Int) (mrows hrows : List (List AV)) (k : Int) (h : b23o_cls start hs ts n m mn p tp mrows hrows k = 1) (m0 : b23ok0 start hs ts n m mn p tp mrows hrows k = true → b23ok1 start hs ts n m mn p tp mrows hrows k = true) (m1 : b23ok0 start hs ts n m mn p tp mrows hrows k = true → b23ok2 start hs ts n m mn p tp mrows hrows k = true) (m2 : b23ok0 start hs ts n m mn p tp mrows hrows k = true → b23ok3 start hs ts n m mn p tp mrows hrows k = true) (m3 : b23ok0 start hs ts n m mn p tp mrows hrows k = true → b23ok4 start hs ts n m mn p tp mrows hrows k = false → b23ok7 start hs ts n m mn p tp mrows hrows k = true → b23ok8 start hs ts n m mn p tp mrows hrows k = true) (m4 : b23ok0 start hs ts n m mn p tp mrows hrows k = true → b23ok4 start hs ts n m mn p tp mrows hrows k = false → b23ok7 start hs ts n m mn p tp mrows hrows k = true → b23ok6 start hs ts n m mn p tp mrows hrows k = true) : BodyOK Tryz.prog (lbody Tryz.prog 23 0) 113 14 (b23oI start hs ts n m mn p tp mrows hrows k) (Ex.normal) (b23oI (start) (hs) (ts) (n) (m) (mn) (p) (tp) (mrows) (setAt hrows (0 + Int.toNat k) (1) (AV.str (spBehind hs ts (AV.toStr (List.getD (List.getD hrows (0 + Int.toNat k) []) (1) AV.undef)) [(64 : UInt8)] [(62 : UInt8), (59 : UInt8)] p tp))) (IntKind.wrap IntKind.i64 (k + (1 : Int)))) := by
  unfold b23o_cls at h
  cases q1 : b23ok0 start hs ts n m mn p tp mrows hrows k with
  | true =>
    rw [q1, cond_true] at h
    cases q2 : b23ok4 start hs ts n m mn p tp mrows hrows k with
    | true =>
      rw [q2, cond_true] at h
      exact absurd h (by decide)
    | false =>
      rw [q2, cond_false] at h
      cases q3 : b23ok7 start hs ts n m mn p tp mrows hrows k with
      | true =>
        rw [q3, cond_true] at h
        exact body_by P6w_ok (b23o_TFT start hs ts n m mn p tp mrows hrows k) rfl (by simp only [q1, q2, q3, (m0 q1), (m1 q1), (m2 q1), (m3 q1 q2 q3), (m4 q1 q2 q3), eq_self, and_true, true_and]) rfl
      | false =>
        rw [q3, cond_false] at h
        cases q4 : b23ok9 start hs ts n m mn p tp mrows hrows k with
        | true =>
          rw [q4, cond_true] at h
          exact absurd h (by decide)
        | false =>
          rw [q4, cond_false] at h
          exact absurd h (by decide)
  | false =>
    rw [q1, cond_false] at h
    exact absurd h (by decide)
theorem b23o_c2 (start hs ts : List UInt8) (n m mn : Nat) (p tp : Int) (mrows hrows : List (List AV)) (k : Int) (h : b23o_cls start hs ts n m mn p tp mrows hrows k = 2) (m0 : b23ok0 start hs ts n m mn p tp mrows hrows k = true → b23ok1 start hs ts n m mn p tp mrows hrows k = true) (m1 : b23ok0 start hs ts n m mn p tp mrows hrows k = true → b23ok2 start hs ts n m mn p tp mrows hrows k = true) (m2 : b23ok0 start hs ts n m mn p tp mrows hrows k = true → b23ok3 start hs ts n m mn p tp mrows hrows k = true) (m3 : b23ok0 start hs ts n m mn p tp mrows hrows k = true → b23ok4 start hs ts n m mn p tp mrows hrows k = false → b23ok7 start hs ts n m mn p tp mrows hrows k = false → b23ok9 start hs ts n m mn p tp mrows hrows k = true → b23ok10 start hs ts n m mn p tp mrows hrows k = true) (m4 : b23ok0 start hs ts n m mn p tp mrows hrows k = true → b23ok4 start hs ts n m mn p tp mrows hrows k = false → b23ok7 start hs ts n m mn p tp mrows hrows k = false → b23ok9 start hs ts n m mn p tp mrows hrows k = true → b23ok6 start hs ts n m mn p tp mrows hrows k = true) : BodyOK Tryz.prog (lbody Tryz.prog 23 0) 113 14 (b23oI start hs ts n m mn p tp mrows hrows k) (Ex.normal) (b23oI (start) (hs) (ts) (n) (m) (mn) (p) (tp) (mrows) (setAt hrows (0 + Int.toNat k) (1) (AV.str (spItoa (↑m : Int)))) (IntKind.wrap IntKind.i64 (k + (1 : Int)))) := by
  unfold b23o_cls at h
  cases q1 : b23ok0 start hs ts n m mn p tp mrows hrows k with
  | true =>
    rw [q1, cond_true] at h
    cases q2 : b23ok4 start hs ts n m mn p tp mrows hrows k with
    | true =>
      rw [q2, cond_true] at h
      exact absurd h (by decide)
    | false =>
      rw [q2, cond_false] at h
      cases q3 : b23ok7 start hs ts n m mn p tp mrows hrows k with
      | true =>
        rw [q3, cond_true] at h
        exact absurd h (by decide)
      | false =>
        rw [q3, cond_false] at h
        cases q4 : b23ok9 start hs ts n m mn p tp mrows hrows k with
        | true =>
          rw [q4, cond_true] at h
          exact body_by P6w_ok (b23o_TFFT start hs ts n m mn p tp mrows hrows k) rfl (by simp only [q1, q2, q3, q4, (m0 q1), (m1 q1), (m2 q1), (m3 q1 q2 q3 q4), (m4 q1 q2 q3 q4), eq_self, and_true, true_and]) rfl
        | false =>
          rw [q4, cond_false] at h
          exact absurd h (by decide)
  | false =>
    rw [q1, cond_false] at h
    exact absurd h (by decide)
theorem b23o_c3 (start hs ts : List UInt8) (n m mn : Nat) (p tp : Int) (mrows hrows : List (List AV)) (k : Int) (h : b23o_cls start hs ts n m mn p tp mrows hrows k = 3) (m0 : b23ok0 start hs ts n m mn p tp mrows hrows k = true → b23ok1 start hs ts n m mn p tp mrows hrows k = true) (m1 : b23ok0 start hs ts n m mn p tp mrows hrows k = true → b23ok2 start hs ts n m mn p tp mrows hrows k = true) (m2 : b23ok0 start hs ts n m mn p tp mrows hrows k = true → b23ok3 start hs ts n m mn p tp mrows hrows k = true) : BodyOK Tryz.prog (lbody Tryz.prog 23 0) 113 14 (b23oI start hs ts n m mn p tp mrows hrows k) (Ex.normal) (b23oI (start) (hs) (ts) (n) (m) (mn) (p) (tp) (mrows) (hrows) (IntKind.wrap IntKind.i64 (k + (1 : Int)))) := by
  unfold b23o_cls at h
  cases q1 : b23ok0 start hs ts n m mn p tp mrows hrows k with
  | true =>
    rw [q1, cond_true] at h
    cases q2 : b23ok4 start hs ts n m mn p tp mrows hrows k with
    | true =>
      rw [q2, cond_true] at h
      exact absurd h (by decide)
    | false =>
      rw [q2, cond_false] at h
      cases q3 : b23ok7 start hs ts n m mn p tp mrows hrows k with
      | true =>
        rw [q3, cond_true] at h
        exact absurd h (by decide)
      | false =>
        rw [q3, cond_false] at h
        cases q4 : b23ok9 start hs ts n m mn p tp mrows hrows k with
        | true =>
          rw [q4, cond_true] at h
          exact absurd h (by decide)
        | false =>
          rw [q4, cond_false] at h
          exact body_by P6w_ok (b23o_TFFF start hs ts n m mn p tp mrows hrows k) rfl (by simp only [q1, q2, q3, q4, (m0 q1), (m1 q1), (m2 q1), eq_self, and_true, true_and]) rfl
  | false =>
    rw [q1, cond_false] at h
    exact absurd h (by decide)
theorem b23o_c4 (start hs ts : List UInt8) (n m mn : Nat) (p tp : Int) (mrows hrows : List (List AV)) (k : Int) (h : b23o_cls start hs ts n m mn p tp mrows hrows k = 4)  : BodyOK Tryz.prog (lbody Tryz.prog 23 0) 113 14 (b23oI start hs ts n m mn p tp mrows hrows k) (Ex.exit 2) (b23oI (start) (hs) (ts) (n) (m) (mn) (p) (tp) (mrows) (hrows) (k)) := by
  unfold b23o_cls at h
  cases q1 : b23ok0 start hs ts n m mn p tp mrows hrows k with
  | true =>
    rw [q1, cond_true] at h
    cases q2 : b23ok4 start hs ts n m mn p tp mrows hrows k with
    | true =>
      rw [q2, cond_true] at h
      exact absurd h (by decide)
    | false =>
      rw [q2, cond_false] at h
      cases q3 : b23ok7 start hs ts n m mn p tp mrows hrows k with
      | true =>
        rw [q3, cond_true] at h
        exact absurd h (by decide)
      | false =>
        rw [q3, cond_false] at h
        cases q4 : b23ok9 start hs ts n m mn p tp mrows hrows k with
        | true =>
          rw [q4, cond_true] at h
          exact absurd h (by decide)
        | false =>
          rw [q4, cond_false] at h
          exact absurd h (by decide)
  | false =>
    rw [q1, cond_false] at h
    exact body_by P6w_ok (b23o_F start hs ts n m mn p tp mrows hrows k) rfl (by simp only [q1, eq_self, and_true, true_and]) rfl
def sgVia : List UInt8 := [118, 105, 97]
def sgContact : List UInt8 := [99, 111, 110, 116, 97, 99, 116]
def mkVia : List UInt8 := [83, 73, 80, 47, 50, 46, 48, 47, 85, 68, 80, 32]
def spHdr (hs ts : List UInt8) (p tp : Int) (m : Nat) (r : List AV) : List AV :=
  bif spLow (hN r) == sgVia then r.set 1 (.str (spBehind hs ts (hV r) mkVia [59] p tp)) else
  bif spLow (hN r) == sgContact then r.set 1 (.str (spBehind hs ts (hV r) [64] [62, 59] p tp)) else
  bif spLow (hN r) == sgLen then r.set 1 (.str (spItoa (m : Int))) else r
def hdrK (f : List AV → List AV) (rows : List (List AV)) (k : Nat) : List (List AV) := (rows.take k).map f ++ rows.drop k
theorem hdrK_length (f : List AV → List AV) (rows : List (List AV)) (k : Nat) : (hdrK f rows k).length = rows.length := by simp [hdrK]; omega
theorem hdrK_get {f : List AV → List AV} {rows : List (List AV)} {k : Nat} (h : k < rows.length) : (hdrK f rows k)[k]? = some rows[k] := by
  unfold hdrK
  have hl : ((rows.take k).map f).length = k := by simp; omega
  rw [List.getElem?_append_right (by omega), hl, Nat.sub_self, List.getElem?_drop, Nat.add_zero, List.getElem?_eq_getElem h]
theorem hdrK_row {f : List AV → List AV} {rows : List (List AV)} {k : Nat} (h : k < rows.length) : List.getD (hdrK f rows k) (0 + Int.toNat (k : Int)) [] = rows[k] := by
  rw [Nat.zero_add, Int.toNat_natCast, List.getD_eq_getElem?_getD, hdrK_get h]; rfl
theorem hdrK_succ {f : List AV → List AV} {rows : List (List AV)} {k : Nat} (h : k < rows.length) : (hdrK f rows k).set (0 + Int.toNat (k : Int)) (f rows[k]) = hdrK f rows (k + 1) := by
  rw [Nat.zero_add, Int.toNat_natCast]
  unfold hdrK
  have hl : ((rows.take k).map f).length = k := by simp; omega
  rw [List.set_append_right _ _ (by omega), hl, Nat.sub_self, take_snoc h, List.map_append, List.append_assoc, List.drop_eq_getElem_cons h]
  rfl
theorem hdrK_same {f : List AV → List AV} {rows : List (List AV)} {k : Nat} (h : k < rows.length) (hf : f rows[k] = rows[k]) : hdrK f rows k = hdrK f rows (k + 1) := by
  have hl : k < (hdrK f rows k).length := by rw [hdrK_length]; exact h
  have hg := hdrK_get (f := f) h
  rw [List.getElem?_eq_getElem hl] at hg
  have hg := Option.some.inj hg
  rw [← hdrK_succ h, hf, Nat.zero_add, Int.toNat_natCast, ← hg, List.set_getElem_self]
theorem setAt_row {f : List AV → List AV} {rows : List (List AV)} {k j : Nat} {v : AV} (h : k < rows.length) : setAt (hdrK f rows k) (0 + Int.toNat (k : Int)) j v = (hdrK f rows k).set (0 + Int.toNat (k : Int)) (rows[k].set j v) := by
  unfold setAt
  rw [hdrK_row h]
structure HdrOK (hs ts : List UInt8) (tp : Int) (rows mrows : List (List AV)) : Prop where
  len : rows.length ≤ 4611686018427387904
  short : rows.all short = true
  two : ∀ r ∈ rows, r.length = 2
  hs : hs.length ≤ 140737488355328
  ts : ts.length ≤ 140737488355328
  tp : -9223372036854775808 ≤ tp ∧ tp ≤ 9223372036854775807
theorem hdrz_round {start hs ts : List UInt8} {m : Nat} {p tp : Int} {rows mrows : List (List AV)} (ho : HdrOK hs ts tp rows mrows) (hm : m ≤ 4611686018427387904) {k : Nat} (h : k < rows.length) :
    BodyOK Tryz.prog (lbody Tryz.prog 23 0) 113 13 (b23zI start hs ts rows.length m mrows.length p tp mrows (hdrK (spHdr hs ts p tp 0) rows k) k) .normal (b23zI start hs ts rows.length m mrows.length p tp mrows (hdrK (spHdr hs ts p tp 0) rows (k + 1)) ((k + 1 : Nat) : Int)) := by
  have hlen := ho.len
  have hsh := short_at ho.short h
  have h2 := ho.two rows[k] (List.getElem_mem h)
  have hhs := ho.hs
  have hts := ho.ts
  have htp := ho.tp
  have hw := succ64 (n := rows.length) h (by omega)
  have hr : List.getD (hdrK (spHdr hs ts p tp 0) rows k) (0 + Int.toNat (k : Int)) [] = rows[k] := hdrK_row h
  have hl : (hdrK (spHdr hs ts p tp 0) rows k).length = rows.length := hdrK_length _ _ _
  have e0 : b23zk0 start hs ts rows.length m mrows.length p tp mrows (hdrK (spHdr hs ts p tp 0) rows k) k = true := decide_eq_true (by omega)
  have e1 : b23zk1 start hs ts rows.length m mrows.length p tp mrows (hdrK (spHdr hs ts p tp 0) rows k) k = true := decide_eq_true (by omega)
  have e2 : b23zk2 start hs ts rows.length m mrows.length p tp mrows (hdrK (spHdr hs ts p tp 0) rows k) k = true := by unfold b23zk2; rw [hl]; exact decide_eq_true (by simp; omega)
  have e3 : b23zk3 start hs ts rows.length m mrows.length p tp mrows (hdrK (spHdr hs ts p tp 0) rows k) k = true := by unfold b23zk3; rw [hr]; exact decide_eq_true (by have := hsh.1; unfold hN at this; omega)
  have e5 : b23zk5 start hs ts rows.length m mrows.length p tp mrows (hdrK (spHdr hs ts p tp 0) rows k) k = true := by
    unfold b23zk5; rw [hr, Bool.and_eq_true]; exact ⟨decide_eq_true (by omega), decide_eq_true ⟨by have := hsh.2; unfold hV at this; omega, by decide, hhs, hts, htp, .inr rfl⟩⟩
  have e6 : b23zk6 start hs ts rows.length m mrows.length p tp mrows (hdrK (spHdr hs ts p tp 0) rows k) k = true := by unfold b23zk6; rw [hr]; exact decide_eq_true (by omega)
  have e8 : b23zk8 start hs ts rows.length m mrows.length p tp mrows (hdrK (spHdr hs ts p tp 0) rows k) k = true := by
    unfold b23zk8; rw [hr, Bool.and_eq_true]; exact ⟨decide_eq_true (by omega), decide_eq_true ⟨by have := hsh.2; unfold hV at this; omega, by decide, hhs, hts, htp, .inl rfl⟩⟩
  have q4 : b23zk4 start hs ts rows.length m mrows.length p tp mrows (hdrK (spHdr hs ts p tp 0) rows k) k = (spLow (hN rows[k]) == sgVia) := by unfold b23zk4; rw [hr]; rfl
  have q7 : b23zk7 start hs ts rows.length m mrows.length p tp mrows (hdrK (spHdr hs ts p tp 0) rows k) k = (spLow (hN rows[k]) == sgContact) := by unfold b23zk7; rw [hr]; rfl
  have q9 : b23zk9 start hs ts rows.length m mrows.length p tp mrows (hdrK (spHdr hs ts p tp 0) rows k) k = (spLow (hN rows[k]) == sgLen) := by unfold b23zk9; rw [hr]; rfl
  cases a4 : spLow (hN rows[k]) == sgVia with
  | true =>
    have hf : spHdr hs ts p tp 0 rows[k] = rows[k].set 1 (.str (spBehind hs ts (hV rows[k]) mkVia [59] p tp)) := by unfold spHdr; rw [a4]; rfl
    refine BodyOK.to (b23z_c0 start hs ts rows.length m mrows.length p tp mrows _ k (by unfold b23z_cls; rw [e0, q4, a4]; rfl) (fun _ => e1) (fun _ => e2) (fun _ => e3) (fun _ _ => e5) (fun _ _ => e6)) ?_
    rw [hr, setAt_row h, hw]
    rw [← hdrK_succ h, hf]; rfl
  | false =>
    cases a7 : spLow (hN rows[k]) == sgContact with
    | true =>
      have hf : spHdr hs ts p tp 0 rows[k] = rows[k].set 1 (.str (spBehind hs ts (hV rows[k]) [64] [62, 59] p tp)) := by unfold spHdr; rw [a4, a7]; rfl
      refine BodyOK.to (b23z_c1 start hs ts rows.length m mrows.length p tp mrows _ k (by unfold b23z_cls; rw [e0, q4, a4, q7, a7]; rfl) (fun _ => e1) (fun _ => e2) (fun _ => e3) (fun _ _ _ => e8) (fun _ _ _ => e6)) ?_
      rw [hr, setAt_row h, hw]
      rw [← hdrK_succ h, hf]; rfl
    | false =>
      cases a9 : spLow (hN rows[k]) == sgLen with
      | true =>
        have hf : spHdr hs ts p tp 0 rows[k] = rows[k].set 1 (.str (spItoa ((0 : Nat) : Int))) := by unfold spHdr; rw [a4, a7, a9]; rfl
        refine BodyOK.to (b23z_c2 start hs ts rows.length m mrows.length p tp mrows _ k (by unfold b23z_cls; rw [e0, q4, a4, q7, a7, q9, a9]; rfl) (fun _ => e1) (fun _ => e2) (fun _ => e3) (fun _ _ _ _ => e6)) ?_
        rw [setAt_row h, hw]
        rw [← hdrK_succ h, hf, show spItoa ((0 : Nat) : Int) = [48] by kernel_rfl]
      | false =>
        have hf : spHdr hs ts p tp 0 rows[k] = rows[k] := by unfold spHdr; rw [a4, a7, a9]; rfl
        refine BodyOK.to (b23z_c3 start hs ts rows.length m mrows.length p tp mrows _ k (by unfold b23z_cls; rw [e0, q4, a4, q7, a7, q9, a9]; rfl) (fun _ => e1) (fun _ => e2) (fun _ => e3)) ?_
        rw [hw, hdrK_same h hf]
theorem hdrz_loop {start hs ts : List UInt8} {m : Nat} {p tp : Int} {rows mrows : List (List AV)} (ho : HdrOK hs ts tp rows mrows) (hm : m ≤ 4611686018427387904) :
    LoopOK Tryz.prog (lbody Tryz.prog 23 0) 113 (b23zI start hs ts rows.length m mrows.length p tp mrows rows 0) (.exit 2) (b23zI start hs ts rows.length m mrows.length p tp mrows (rows.map (spHdr hs ts p tp 0)) rows.length) := by
  refine loop_rule (E := b23zI start hs ts rows.length m mrows.length p tp mrows rows 0) (I := fun k : Nat => b23zI start hs ts rows.length m mrows.length p tp mrows (hdrK (spHdr hs ts p tp 0) rows k) k) (pre := fun k => k ≤ rows.length) (μ := fun k => rows.length - k) _ _ rfl (fun ρ => by simp [Ex.conc]) ?_ (x0 := 0) (pick := []) (Nat.zero_le _) ⟨by kernel_rfl, map_fst_snd (by kernel_rfl)⟩
  intro k hk
  by_cases hkl : k < rows.length
  · left
    exact ⟨k + 1, by omega, by omega, hdrz_round ho hm hkl⟩
  · right
    have hk' : k = rows.length := by omega
    subst hk'
    have hx := b23z_c4 start hs ts rows.length m mrows.length p tp mrows (hdrK (spHdr hs ts p tp 0) rows rows.length) rows.length (by unfold b23z_cls b23zk0; rw [decide_eq_false (by omega)]; rfl)
    have e : hdrK (spHdr hs ts p tp 0) rows rows.length = rows.map (spHdr hs ts p tp 0) := by unfold hdrK; rw [List.take_length, List.drop_length, List.append_nil]
    rw [e] at hx ⊢
    exact hx
theorem hdro_round {start hs ts : List UInt8} {m : Nat} {p tp : Int} {rows mrows : List (List AV)} (ho : HdrOK hs ts tp rows mrows) (hm : m ≤ 4611686018427387904) {k : Nat} (h : k < rows.length) :
    BodyOK Tryz.prog (lbody Tryz.prog 23 0) 113 14 (b23oI start hs ts rows.length m mrows.length p tp mrows (hdrK (spHdr hs ts p tp m) rows k) k) .normal (b23oI start hs ts rows.length m mrows.length p tp mrows (hdrK (spHdr hs ts p tp m) rows (k + 1)) ((k + 1 : Nat) : Int)) := by
  have hlen := ho.len
  have hsh := short_at ho.short h
  have h2 := ho.two rows[k] (List.getElem_mem h)
  have hhs := ho.hs
  have hts := ho.ts
  have htp := ho.tp
  have hw := succ64 (n := rows.length) h (by omega)
  have hr : List.getD (hdrK (spHdr hs ts p tp m) rows k) (0 + Int.toNat (k : Int)) [] = rows[k] := hdrK_row h
  have hl : (hdrK (spHdr hs ts p tp m) rows k).length = rows.length := hdrK_length _ _ _
  have e0 : b23ok0 start hs ts rows.length m mrows.length p tp mrows (hdrK (spHdr hs ts p tp m) rows k) k = true := decide_eq_true (by omega)
  have e1 : b23ok1 start hs ts rows.length m mrows.length p tp mrows (hdrK (spHdr hs ts p tp m) rows k) k = true := decide_eq_true (by omega)
  have e2 : b23ok2 start hs ts rows.length m mrows.length p tp mrows (hdrK (spHdr hs ts p tp m) rows k) k = true := by unfold b23ok2; rw [hl]; exact decide_eq_true (by simp; omega)
  have e3 : b23ok3 start hs ts rows.length m mrows.length p tp mrows (hdrK (spHdr hs ts p tp m) rows k) k = true := by unfold b23ok3; rw [hr]; exact decide_eq_true (by have := hsh.1; unfold hN at this; omega)
  have e5 : b23ok5 start hs ts rows.length m mrows.length p tp mrows (hdrK (spHdr hs ts p tp m) rows k) k = true := by
    unfold b23ok5; rw [hr, Bool.and_eq_true]; exact ⟨decide_eq_true (by omega), decide_eq_true ⟨by have := hsh.2; unfold hV at this; omega, by decide, hhs, hts, htp, .inr rfl⟩⟩
  have e6 : b23ok6 start hs ts rows.length m mrows.length p tp mrows (hdrK (spHdr hs ts p tp m) rows k) k = true := by unfold b23ok6; rw [hr]; exact decide_eq_true (by omega)
  have e8 : b23ok8 start hs ts rows.length m mrows.length p tp mrows (hdrK (spHdr hs ts p tp m) rows k) k = true := by
    unfold b23ok8; rw [hr, Bool.and_eq_true]; exact ⟨decide_eq_true (by omega), decide_eq_true ⟨by have := hsh.2; unfold hV at this; omega, by decide, hhs, hts, htp, .inl rfl⟩⟩
  have q4 : b23ok4 start hs ts rows.length m mrows.length p tp mrows (hdrK (spHdr hs ts p tp m) rows k) k = (spLow (hN rows[k]) == sgVia) := by unfold b23ok4; rw [hr]; rfl
  have q7 : b23ok7 start hs ts rows.length m mrows.length p tp mrows (hdrK (spHdr hs ts p tp m) rows k) k = (spLow (hN rows[k]) == sgContact) := by unfold b23ok7; rw [hr]; rfl
  have q9 : b23ok9 start hs ts rows.length m mrows.length p tp mrows (hdrK (spHdr hs ts p tp m) rows k) k = (spLow (hN rows[k]) == sgLen) := by unfold b23ok9; rw [hr]; rfl
  have e10 : b23ok10 start hs ts rows.length m mrows.length p tp mrows (hdrK (spHdr hs ts p tp m) rows k) k = true := decide_eq_true (by omega)
  cases a4 : spLow (hN rows[k]) == sgVia with
  | true =>
    have hf : spHdr hs ts p tp m rows[k] = rows[k].set 1 (.str (spBehind hs ts (hV rows[k]) mkVia [59] p tp)) := by unfold spHdr; rw [a4]; rfl
    refine BodyOK.to (b23o_c0 start hs ts rows.length m mrows.length p tp mrows _ k (by unfold b23o_cls; rw [e0, q4, a4]; rfl) (fun _ => e1) (fun _ => e2) (fun _ => e3) (fun _ _ => e5) (fun _ _ => e6)) ?_
    rw [hr, setAt_row h, hw]
    rw [← hdrK_succ h, hf]; rfl
  | false =>
    cases a7 : spLow (hN rows[k]) == sgContact with
    | true =>
      have hf : spHdr hs ts p tp m rows[k] = rows[k].set 1 (.str (spBehind hs ts (hV rows[k]) [64] [62, 59] p tp)) := by unfold spHdr; rw [a4, a7]; rfl
      refine BodyOK.to (b23o_c1 start hs ts rows.length m mrows.length p tp mrows _ k (by unfold b23o_cls; rw [e0, q4, a4, q7, a7]; rfl) (fun _ => e1) (fun _ => e2) (fun _ => e3) (fun _ _ _ => e8) (fun _ _ _ => e6)) ?_
      rw [hr, setAt_row h, hw]
      rw [← hdrK_succ h, hf]; rfl
    | false =>
      cases a9 : spLow (hN rows[k]) == sgLen with
      | true =>
        have hf : spHdr hs ts p tp m rows[k] = rows[k].set 1 (.str (spItoa ((m : Nat) : Int))) := by unfold spHdr; rw [a4, a7, a9]; rfl
        refine BodyOK.to (b23o_c2 start hs ts rows.length m mrows.length p tp mrows _ k (by unfold b23o_cls; rw [e0, q4, a4, q7, a7, q9, a9]; rfl) (fun _ => e1) (fun _ => e2) (fun _ => e3) (fun _ _ _ _ => e10) (fun _ _ _ _ => e6)) ?_
        rw [setAt_row h, hw]
        rw [← hdrK_succ h, hf]
      | false =>
        have hf : spHdr hs ts p tp m rows[k] = rows[k] := by unfold spHdr; rw [a4, a7, a9]; rfl
        refine BodyOK.to (b23o_c3 start hs ts rows.length m mrows.length p tp mrows _ k (by unfold b23o_cls; rw [e0, q4, a4, q7, a7, q9, a9]; rfl) (fun _ => e1) (fun _ => e2) (fun _ => e3)) ?_
        rw [hw, hdrK_same h hf]
theorem hdro_loop {start hs ts : List UInt8} {m : Nat} {p tp : Int} {rows mrows : List (List AV)} (ho : HdrOK hs ts tp rows mrows) (hm : m ≤ 4611686018427387904) :
    LoopOK Tryz.prog (lbody Tryz.prog 23 0) 113 (b23oI start hs ts rows.length m mrows.length p tp mrows rows 0) (.exit 2) (b23oI start hs ts rows.length m mrows.length p tp mrows (rows.map (spHdr hs ts p tp m)) rows.length) := by
  refine loop_rule (E := b23oI start hs ts rows.length m mrows.length p tp mrows rows 0) (I := fun k : Nat => b23oI start hs ts rows.length m mrows.length p tp mrows (hdrK (spHdr hs ts p tp m) rows k) k) (pre := fun k => k ≤ rows.length) (μ := fun k => rows.length - k) _ _ rfl (fun ρ => by simp [Ex.conc]) ?_ (x0 := 0) (pick := []) (Nat.zero_le _) ⟨by kernel_rfl, map_fst_snd (by kernel_rfl)⟩
  intro k hk
  by_cases hkl : k < rows.length
  · left
    exact ⟨k + 1, by omega, by omega, hdro_round ho hm hkl⟩
  · right
    have hk' : k = rows.length := by omega
    subst hk'
    have hx := b23o_c4 start hs ts rows.length m mrows.length p tp mrows (hdrK (spHdr hs ts p tp m) rows rows.length) rows.length (by unfold b23o_cls b23ok0; rw [decide_eq_false (by omega)]; rfl)
    have e : hdrK (spHdr hs ts p tp m) rows rows.length = rows.map (spHdr hs ts p tp m) := by unfold hdrK; rw [List.take_length, List.drop_length, List.append_nil]
    rw [e] at hx ⊢
    exact hx
end Go.Proofs.YtpdgmgkkbbndfaaGreatDoor

set_option maxRecDepth 100000
namespace Go.Proofs.YtpdgmgkkbbndfaaGreatDoor
open Go Go.Proofs Go.Proofs.YtpdgmgkkbbndfaaGreatDoor.SX
def I23 (start hs ts : List UInt8) (n : Nat) (p tp : Int) (mrows : List (List AV)) (brows : List (List AV)) : SL := ⟨[(51, .fn (.func 76) [] [.ptr ⟨11, 0, 0⟩]), (14, .ptr ⟨8, 0, 0⟩), (15, .ptr ⟨10, 0, 0⟩)], [(2, .cells false [.int .u16, .int .u16] mrows), (8, .cells true [.str, .str, .int .i64, .int .i64, .any] [[.str hs, .str ts, .int .i64 p, .int .i64 tp, .slq 2 mrows.length]]), (10, .cells true [.str, .any, .any] [[.str start, .sl ⟨9, 0, 0⟩ n .open_, .nilSl]]), (11, .cells true [.any] [[.slq 1 brows.length]]), (1, .cells false [.int .u8] brows)], 12⟩
def S23z (start hs ts : List UInt8) (n : Nat) (p tp : Int) (mrows : List (List AV)) : SL := ⟨[], [(2, .cells false [.int .u16, .int .u16] mrows), (8, .cells true [.str, .str, .int .i64, .int .i64, .any] [[.str hs, .str ts, .int .i64 p, .int .i64 tp, .slq 2 mrows.length]]), (10, .cells true [.str, .any, .any] [[.str start, .sl ⟨9, 0, 0⟩ n .open_, .nilSl]]), (12, .mark)], 13⟩
def S23o (start hs ts : List UInt8) (n : Nat) (p tp : Int) (mrows : List (List AV)) (rows : List (List AV)) : SL := ⟨[], [(2, .cells false [.int .u16, .int .u16] mrows), (8, .cells true [.str, .str, .int .i64, .int .i64, .any] [[.str hs, .str ts, .int .i64 p, .int .i64 tp, .slq 2 mrows.length]]), (10, .cells true [.str, .any, .any] [[.str start, .sl ⟨9, 0, 0⟩ n .open_, .sl ⟨13, 0, 0⟩ rows.length .open_]]), (12, .mark), (13, .cells true [.int .u8] rows)], 14⟩
def A23z (l e : List UInt8) (start hs ts : List UInt8) (n : Nat) (p tp : Int) (mrows : List (List AV)) : SL := ⟨[(53, .str e), (52, .str l), (51, .fn (.func 76) [] [.ptr ⟨11, 0, 0⟩]), (14, .ptr ⟨8, 0, 0⟩), (15, .ptr ⟨10, 0, 0⟩)], [(2, .cells false [.int .u16, .int .u16] mrows), (8, .cells true [.str, .str, .int .i64, .int .i64, .any] [[.str hs, .str ts, .int .i64 p, .int .i64 tp, .slq 2 mrows.length]]), (10, .cells true [.str, .any, .any] [[.str start, .sl ⟨9, 0, 0⟩ n .open_, .nilSl]]), (12, .mark)], 13⟩
def A23o (l e : List UInt8) (start hs ts : List UInt8) (n : Nat) (p tp : Int) (mrows : List (List AV)) (rows : List (List AV)) : SL := ⟨[(53, .str e), (52, .str l), (51, .fn (.func 76) [] [.ptr ⟨11, 0, 0⟩]), (14, .ptr ⟨8, 0, 0⟩), (15, .ptr ⟨10, 0, 0⟩)], [(2, .cells false [.int .u16, .int .u16] mrows), (8, .cells true [.str, .str, .int .i64, .int .i64, .any] [[.str hs, .str ts, .int .i64 p, .int .i64 tp, .slq 2 mrows.length]]), (10, .cells true [.str, .any, .any] [[.str start, .sl ⟨9, 0, 0⟩ n .open_, .sl ⟨13, 0, 0⟩ rows.length .open_]]), (12, .mark), (13, .cells true [.int .u8] rows)], 14⟩
def B23z (l e : List UInt8) (start hs ts : List UInt8) (n : Nat) (p tp : Int) (mrows : List (List AV)) : SL := ⟨[(14, .ptr ⟨8, 0, 0⟩), (15, .ptr ⟨10, 0, 0⟩), (16, .str l), (17, .str e)], [(2, .cells false [.int .u16, .int .u16] mrows), (8, .cells true [.str, .str, .int .i64, .int .i64, .any] [[.str hs, .str ts, .int .i64 p, .int .i64 tp, .slq 2 mrows.length]]), (10, .cells true [.str, .any, .any] [[.str start, .sl ⟨9, 0, 0⟩ n .open_, .nilSl]]), (12, .mark)], 13⟩
def B23o (l e : List UInt8) (start hs ts : List UInt8) (n : Nat) (p tp : Int) (mrows : List (List AV)) (rows : List (List AV)) : SL := ⟨[(14, .ptr ⟨8, 0, 0⟩), (15, .ptr ⟨10, 0, 0⟩), (16, .str l), (17, .str e)], [(2, .cells false [.int .u16, .int .u16] mrows), (8, .cells true [.str, .str, .int .i64, .int .i64, .any] [[.str hs, .str ts, .int .i64 p, .int .i64 tp, .slq 2 mrows.length]]), (10, .cells true [.str, .any, .any] [[.str start, .sl ⟨9, 0, 0⟩ n .open_, .sl ⟨13, 0, 0⟩ rows.length .open_]]), (12, .mark), (13, .cells true [.int .u8] rows)], 14⟩
theorem r23az (l e : List UInt8) (start hs ts : List UInt8) (n : Nat) (p tp : Int) (mrows : List (List AV)) : Path (runR Tryz.prog P6w 100 (rAs (rcode Tryz.prog 23 0)) (SL.mp 113 [] (A23z l e start hs ts n p tp mrows))) 13 [] (B23z l e start hs ts n p tp mrows) (Ex.normal) True := by unfold Path; kernel_rfl
theorem r23ao (l e : List UInt8) (start hs ts : List UInt8) (n : Nat) (p tp : Int) (mrows : List (List AV)) (rows : List (List AV)) : Path (runR Tryz.prog P6w 100 (rAs (rcode Tryz.prog 23 0)) (SL.mp 113 [] (A23o l e start hs ts n p tp mrows rows))) 13 [13] (B23o l e start hs ts n p tp mrows rows) (Ex.normal) True := by unfold Path; kernel_rfl
def spLineOut (hs ts : List UInt8) (mrows : List (List AV)) (q : List UInt8 × List UInt8) : List UInt8 := spLine hs ts q.1 mrows ++ q.2
def k23a (l hs ts : List UInt8) (mrows : List (List AV)) : Bool := (decide (0 + mrows.length ≤ List.length mrows) && decide (List.length l ≤ 4294967200 ∧ List.length hs ≤ 140737488355328 ∧ List.length ts ≤ 140737488355328 ∧ List.length (sub mrows 0 mrows.length) ≤ 4611686018427387904))
theorem r23bT (l e : List UInt8) (start hs ts : List UInt8) (n : Nat) (p tp : Int) (mrows : List (List AV)) :
 Path (runR Tryz.prog P6w 100 (rBo (rcode Tryz.prog 23 0)) (SL.mp 113 ([.as_ true]) (B23z l e start hs ts n p tp mrows))) 13 [] ⟨[], [(2, .cells false [.int .u16, .int .u16] mrows), (8, .cells true [.str, .str, .int .i64, .int .i64, .any] [[.str hs, .str ts, .int .i64 p, .int .i64 tp, .slq 2 mrows.length]]), (10, .cells true [.str, .any, .any] [[.str start, .sl ⟨9, 0, 0⟩ n .open_, .sl ⟨13, 0, 0⟩ (List.length (spLine hs ts l (sub mrows 0 mrows.length) ++ e)) .open_]]), (12, .mark), (13, .cells true [.int .u8] (List.map byteRow (spLine hs ts l (sub mrows 0 mrows.length) ++ e)))], 14⟩ (Ex.normal)
 ((((((((True ∧ (true = true)) ∧ (true = true)) ∧ (k23a l hs ts mrows = true)) ∧ (decide (List.length (spLine hs ts l (sub mrows 0 mrows.length)) + List.length e ≤ 9223372036854775807) = true)) ∧ (decide (0 < List.length (spLine hs ts l (sub mrows 0 mrows.length) ++ e)) = true)) ∧ (decide (List.length (spLine hs ts l (sub mrows 0 mrows.length) ++ e) * 1 ≤ 140737488355328) = true)) ∧ (true = true)) ∧ (true = true)) := by unfold Path; kernel_rfl
theorem r23bF (l e : List UInt8) (start hs ts : List UInt8) (n : Nat) (p tp : Int) (mrows : List (List AV)) :
 Path (runR Tryz.prog P6w 100 (rBo (rcode Tryz.prog 23 0)) (SL.mp 113 ([.as_ false]) (B23z l e start hs ts n p tp mrows))) 13 [] (S23z start hs ts n p tp mrows) (Ex.normal)
 (((((((True ∧ (true = true)) ∧ (true = true)) ∧ (k23a l hs ts mrows = true)) ∧ (decide (List.length (spLine hs ts l (sub mrows 0 mrows.length)) + List.length e ≤ 9223372036854775807) = true)) ∧ (decide (0 < List.length (spLine hs ts l (sub mrows 0 mrows.length) ++ e)) = false)) ∧ (true = true)) ∧ (true = true)) := by unfold Path; kernel_rfl
theorem r23d (l e : List UInt8) (start hs ts : List UInt8) (n : Nat) (p tp : Int) (mrows : List (List AV)) (rows : List (List AV)) :
 Path (runR Tryz.prog P6w 100 (rBo (rcode Tryz.prog 23 0)) (SL.mp 113 ([]) (B23o l e start hs ts n p tp mrows rows))) 13 [14] ⟨[], [(2, .cells false [.int .u16, .int .u16] mrows), (8, .cells true [.str, .str, .int .i64, .int .i64, .any] [[.str hs, .str ts, .int .i64 p, .int .i64 tp, .slq 2 mrows.length]]), (10, .cells true [.str, .any, .any] [[.str start, .sl ⟨9, 0, 0⟩ n .open_, .sl ⟨13, 0, 0⟩ (rows.length + List.length (spLine hs ts l (sub mrows 0 mrows.length) ++ e)) .open_]]), (12, .mark), (13, .cells true [.int .u8] (rows ++ List.map byteRow (spLine hs ts l (sub mrows 0 mrows.length) ++ e)))], 14⟩ (Ex.normal)
 ((((((((True ∧ (true = true)) ∧ (true = true)) ∧ (k23a l hs ts mrows = true)) ∧ (decide (List.length (spLine hs ts l (sub mrows 0 mrows.length)) + List.length e ≤ 9223372036854775807) = true)) ∧ (decide (0 = 0 ∧ rows.length = List.length rows) = true)) ∧ (decide ((rows.length + List.length (spLine hs ts l (sub mrows 0 mrows.length) ++ e)) * 1 ≤ 140737488355328) = true)) ∧ (true = true)) ∧ (true = true)) := by unfold Path; kernel_rfl
def outB (hs ts : List UInt8) (mrows : List (List AV)) (l : List (List UInt8 × List UInt8)) : List UInt8 := (l.map (spLineOut hs ts mrows)).flatten
theorem outB_succ {hs ts : List UInt8} {mrows : List (List AV)} {l : List (List UInt8 × List UInt8)} {k : Nat} (h : k < l.length) : outB hs ts mrows (l.take (k + 1)) = outB hs ts mrows (l.take k) ++ spLineOut hs ts mrows l[k] := by
  unfold outB
  rw [take_snoc h, List.map_append, List.flatten_append]
  simp
def S23 (start hs ts : List UInt8) (n : Nat) (p tp : Int) (mrows : List (List AV)) (bs : List UInt8) : SL := match bs with
  | [] => S23z start hs ts n p tp mrows
  | c :: l => S23o start hs ts n p tp mrows (byteRows (c :: l))
def A23 (l e : List UInt8) (start hs ts : List UInt8) (n : Nat) (p tp : Int) (mrows : List (List AV)) (bs : List UInt8) : SL := match bs with
  | [] => A23z l e start hs ts n p tp mrows
  | c :: r => A23o l e start hs ts n p tp mrows (byteRows (c :: r))
def B23 (l e : List UInt8) (start hs ts : List UInt8) (n : Nat) (p tp : Int) (mrows : List (List AV)) (bs : List UInt8) : SL := match bs with
  | [] => B23z l e start hs ts n p tp mrows
  | c :: r => B23o l e start hs ts n p tp mrows (byteRows (c :: r))
structure LineOK (hs ts : List UInt8) (mrows : List (List AV)) (lst : List (List UInt8 × List UInt8)) : Prop where
  hsl : hs.length ≤ 140737488355328
  tsl : ts.length ≤ 140737488355328
  m : mrows.length ≤ 4611686018427387904
  line : ∀ q ∈ lst, q.1.length ≤ 4294967200
  out : (outB hs ts mrows lst).length ≤ 140737488355328
theorem outB_le {hs ts : List UInt8} {mrows : List (List AV)} {lst : List (List UInt8 × List UInt8)} (k : Nat) : (outB hs ts mrows (lst.take k)).length ≤ (outB hs ts mrows lst).length := by
  have : lst = lst.take k ++ lst.drop k := (List.take_append_drop k lst).symm
  conv => rhs; rw [this]
  unfold outB
  rw [List.map_append, List.flatten_append, List.length_append]
  exact Nat.le_add_right _ _
theorem round23 {start hs ts : List UInt8} {n : Nat} {p tp : Int} {mrows : List (List AV)} {lst : List (List UInt8 × List UInt8)} (ho : LineOK hs ts mrows lst) {k : Nat} (h : k < lst.length) :
    BodyR Tryz.prog (rBo (rcode Tryz.prog 23 0)) 113 13 (B23 lst[k].1 lst[k].2 start hs ts n p tp mrows (outB hs ts mrows (lst.take k))) .normal (S23 start hs ts n p tp mrows (outB hs ts mrows (lst.take (k + 1)))) := by
  have hl := ho.line lst[k] (List.getElem_mem h)
  have hhs := ho.hsl; have hts := ho.tsl; have hm := ho.m
  have hout := ho.out
  have hle := outB_le (hs := hs) (ts := ts) (mrows := mrows) (lst := lst) (k + 1)
  have hs' := sub_all mrows rfl
  rw [outB_succ h] at hle ⊢
  have hk : k23a lst[k].1 hs ts mrows = true := by
    unfold k23a; rw [Bool.and_eq_true, hs']; exact ⟨decide_eq_true (by omega), decide_eq_true ⟨hl, hhs, hts, hm⟩⟩
  have ht : spLineOut hs ts mrows lst[k] = spLine hs ts lst[k].1 (sub mrows 0 mrows.length) ++ lst[k].2 := by rw [hs']; rfl
  rw [List.length_append] at hle
  have hlt : (spLine hs ts lst[k].1 (sub mrows 0 mrows.length)).length + lst[k].2.length = (spLineOut hs ts mrows lst[k]).length := by rw [ht, List.length_append]
  generalize outB hs ts mrows (lst.take k) = bs at hle ⊢
  have e1 : decide (List.length (spLine hs ts lst[k].1 (sub mrows 0 mrows.length)) + List.length lst[k].2 ≤ 9223372036854775807) = true := decide_eq_true (by omega)
  cases bs with
  | nil =>
    rw [List.nil_append]
    cases hc : spLineOut hs ts mrows lst[k] with
    | nil =>
      have e2 : decide (0 < List.length (spLine hs ts lst[k].1 (sub mrows 0 mrows.length) ++ lst[k].2)) = false := by rw [← ht, hc]; rfl
      exact body_ofR P6w_ok (r23bF lst[k].1 lst[k].2 start hs ts n p tp mrows) ⟨⟨⟨⟨⟨⟨⟨trivial, rfl⟩, rfl⟩, hk⟩, e1⟩, e2⟩, rfl⟩, rfl⟩ rfl
    | cons c r =>
      have e2 : decide (0 < List.length (spLine hs ts lst[k].1 (sub mrows 0 mrows.length) ++ lst[k].2)) = true := by rw [← ht, hc]; rfl
      have e3 : decide (List.length (spLine hs ts lst[k].1 (sub mrows 0 mrows.length) ++ lst[k].2) * 1 ≤ 140737488355328) = true := decide_eq_true (by rw [← ht]; omega)
      have hx := body_ofR P6w_ok (r23bT lst[k].1 lst[k].2 start hs ts n p tp mrows) ⟨⟨⟨⟨⟨⟨⟨⟨trivial, rfl⟩, rfl⟩, hk⟩, e1⟩, e2⟩, e3⟩, rfl⟩, rfl⟩ rfl
      rw [← ht, hc] at hx
      have e4 : (c :: r).length = (byteRows (c :: r)).length := (byteRows_length _).symm
      rw [e4] at hx
      exact hx
  | cons c r =>
    have e3 : decide (((byteRows (c :: r)).length + List.length (spLine hs ts lst[k].1 (sub mrows 0 mrows.length) ++ lst[k].2)) * 1 ≤ 140737488355328) = true := decide_eq_true (by rw [← ht, byteRows_length]; omega)
    have hx := body_ofR P6w_ok (r23d lst[k].1 lst[k].2 start hs ts n p tp mrows (byteRows (c :: r))) ⟨⟨⟨⟨⟨⟨⟨⟨trivial, rfl⟩, rfl⟩, hk⟩, e1⟩, decide_eq_true ⟨rfl, rfl⟩⟩, e3⟩, rfl⟩, rfl⟩ rfl
    rw [← ht] at hx
    have e4 : byteRows (c :: r) ++ List.map byteRow (spLineOut hs ts mrows lst[k]) = byteRows (c :: r ++ spLineOut hs ts mrows lst[k]) := by unfold byteRows; rw [List.map_append]
    have e5 : (byteRows (c :: r)).length + (spLineOut hs ts mrows lst[k]).length = (byteRows (c :: r ++ spLineOut hs ts mrows lst[k])).length := by rw [byteRows_length, byteRows_length, List.length_append]
    rw [e4, e5] at hx
    exact hx
theorem assign23 {l e start hs ts : List UInt8} {n : Nat} {p tp : Int} {mrows : List (List AV)} (bs : List UInt8) :
    BodyR Tryz.prog (rAs (rcode Tryz.prog 23 0)) 113 13 (A23 l e start hs ts n p tp mrows bs) .normal (B23 l e start hs ts n p tp mrows bs) := by
  cases bs with
  | nil => exact body_ofR P6w_ok (r23az l e start hs ts n p tp mrows) trivial rfl
  | cons c r => exact body_ofR P6w_ok (r23ao l e start hs ts n p tp mrows (byteRows (c :: r))) trivial rfl
theorem hent76 : ∀ (args : Array Value) (w : World), (callFunc 76 args).run Tryz.prog w = .ok (.enter 76 args) w := by
  intro args w
  have hfn : Tryz.prog.funcs[76]? = some Tryz.f76 := by kernel_rfl
  have h1 : ¬ (Tryz.f76.name = "runtime.NumGoroutine") := by decide
  have h2 : ¬ (Tryz.f76.body = none) := by
    intro h
    have : Tryz.f76.body.isSome = true := by kernel_rfl
    rw [h] at this; cases this
  simp [callFunc, go_sem, hfn]
  rw [if_neg h1, if_neg h2]
theorem rcode23 : rcode Tryz.prog 23 0 = .rangeFunc (.tmp 51) #[52, 53] (rAs (rcode Tryz.prog 23 0)) (rBo (rcode Tryz.prog 23 0)) := by kernel_rfl
theorem range23 {start hs ts : List UInt8} {n : Nat} {p tp : Int} {mrows brows : List (List AV)} (ho : LineOK hs ts mrows (spLines (brows.map rowByte))) (hb : brows.length < 4294967280) :
    RangeOK Tryz.prog (rcode Tryz.prog 23 0) 113 (I23 start hs ts n p tp mrows brows) (S23 start hs ts n p tp mrows (outB hs ts mrows (spLines (brows.map rowByte)))) := by
  rw [rcode23]
  have hx := range_rule (P := Tryz.prog) (t := 51) (p0 := 52) (p1 := 53) (assign := rAs (rcode Tryz.prog 23 0)) (body := rBo (rcode Tryz.prog 23 0)) (nt := 113) (I := I23 start hs ts n p tp mrows brows) (f := 76) (caps := [.ptr ⟨11, 0, 0⟩])
    (S := fun k => S23 start hs ts n p tp mrows (outB hs ts mrows ((spLines (brows.map rowByte)).take k)))
    (B := fun k => B23 ((spLines (brows.map rowByte)).getD k ([], [])).1 ((spLines (brows.map rowByte)).getD k ([], [])).2 start hs ts n p tp mrows (outB hs ts mrows ((spLines (brows.map rowByte)).take k)))
    (N := (spLines (brows.map rowByte)).length) (arg := fun k => (.str ((spLines (brows.map rowByte)).getD k ([], [])).1, .str ((spLines (brows.map rowByte)).getD k ([], [])).2))
    hent76 rfl (by decide) (by decide) (by decide) (fun k hk => ⟨rfl, rfl⟩) (pick := []) ⟨by kernel_rfl, map_fst_snd (by kernel_rfl)⟩ ?_ ?_ ?_
  · rw [List.take_length] at hx; exact hx
  · intro k hk
    have hA := assign23 (l := ((spLines (brows.map rowByte)).getD k ([], [])).1) (e := ((spLines (brows.map rowByte)).getD k ([], [])).2) (start := start) (hs := hs) (ts := ts) (n := n) (p := p) (tp := tp) (mrows := mrows) (outB hs ts mrows ((spLines (brows.map rowByte)).take k))
    generalize outB hs ts mrows ((spLines (brows.map rowByte)).take k) = bs at hA ⊢
    cases bs with
    | nil => exact hA
    | cons c r => exact hA
  · intro k hk
    have hg : (spLines (brows.map rowByte)).getD k ([], []) = (spLines (brows.map rowByte))[k] := by rw [List.getD_eq_getElem?_getD, List.getElem?_eq_getElem hk]; rfl
    simp only [hg]
    exact round23 ho hk
  · intro ρ w hs
    exact iter76 hs (b := 11) (c := 1) rfl rfl rfl hb
end Go.Proofs.YtpdgmgkkbbndfaaGreatDoor

set_option maxRecDepth 100000
namespace Go.Proofs.YtpdgmgkkbbndfaaGreatDoor
open Go Go.Proofs Go.Proofs.YtpdgmgkkbbndfaaGreatDoor.SX
theorem len_line (hs ts s : List UInt8) (rows : List (List AV)) : (spLine hs ts s rows).length ≤ 2 * s.length + ts.length + 40 := by
  have h1 := len_suf s (sgOrig ++ hs)
  have h2 := len_medA s
  have h3 := len_medB s
  have h4 := len_itoa (isOf (List.getD rows (Int.toNat (spIdx rows (spMedN s))) [])) (wrap64_range _)
  have h5 : sgConn.length = 9 := rfl
  have h6 : sgOrig.length = 8 := rfl
  unfold spLine
  cases s == sgConn ++ hs with
  | true => simp only [cond_true, List.length_append]; omega
  | false =>
    cases spHasSuf s (sgOrig ++ hs) && spHasPre (spTrimSuf s (sgOrig ++ hs)) [111, 61] with
    | true => simp only [cond_true, cond_false, List.length_append]; omega
    | false =>
      cases decide (spIdx rows (spMedN s) < 0) with
      | true => simp only [cond_true, cond_false]; omega
      | false => simp only [cond_false, List.length_append]; omega
theorem len_lines : ∀ (n : Nat) (s : List UInt8), (spLinesF n s).length ≤ n ∧ ∀ q ∈ spLinesF n s, q.1.length ≤ s.length ∧ q.2.length ≤ 2
  | 0, s => ⟨Nat.le_refl _, fun q hq => by cases hq⟩
  | n + 1, s => by
    have h1 := len_before s [13, 10]
    have h2 := len_after s [13, 10]
    have ih := len_lines n (spAfter s [13, 10])
    unfold spLinesF
    cases spFound s [13, 10] with
    | true =>
      rw [cond_true]
      refine ⟨by simp only [List.length_cons]; omega, fun q hq => ?_⟩
      rcases List.mem_cons.1 hq with rfl | hq
      · exact ⟨h1, Nat.le_refl _⟩
      · have := ih.2 q hq; omega
    | false =>
      rw [cond_false]
      refine ⟨by simp, fun q hq => ?_⟩
      rcases List.mem_cons.1 hq with rfl | hq
      · exact ⟨h1, Nat.zero_le _⟩
      · cases hq
theorem len_outB {hs ts : List UInt8} {mrows : List (List AV)} {c : Nat} : ∀ (l : List (List UInt8 × List UInt8)), (∀ q ∈ l, (spLineOut hs ts mrows q).length ≤ c) → (outB hs ts mrows l).length ≤ l.length * c
  | [], _ => by simp [outB]
  | q :: l, h => by
    have ih := len_outB l fun q' hq => h q' (List.mem_cons_of_mem _ hq)
    have h0 := h q (List.mem_cons_self ..)
    unfold outB at ih ⊢
    simp only [List.map_cons, List.flatten_cons, List.length_append, List.length_cons, Nat.add_mul]
    omega
theorem len_behind (hs ts s mark signs : List UInt8) (p tp : Int) (h : -9223372036854775808 ≤ tp ∧ tp ≤ 9223372036854775807) : (spBehind hs ts s mark signs p tp).length ≤ 3 * s.length + mark.length + ts.length + 22 := by
  have h1 := len_before s mark
  have h2 := len_after s mark
  have h3 := len_sub (spAfter s mark) 0 (spEnd (spAfter s mark) signs)
  have h4 := len_sub (spAfter s mark) (spEnd (spAfter s mark) signs) ((spAfter s mark).length - spEnd (spAfter s mark) signs)
  have h5 := len_place hs ts (sub (spAfter s mark) 0 (spEnd (spAfter s mark) signs)) p tp h
  unfold spBehind
  cases !spFound s mark with
  | true => rw [cond_true]; omega
  | false => simp only [cond_false, List.length_append]; omega
theorem hN_set (r : List AV) (x : AV) : hN (r.set 1 x) = hN r := by
  unfold hN
  cases r with
  | nil => rfl
  | cons a l => rfl
theorem hV_set {r : List AV} (h : r.length = 2) (s : List UInt8) : hV (r.set 1 (.str s)) = s := by
  match r, h with
  | [a, b], _ => rfl
theorem hdr_spec (hs ts : List UInt8) (p tp : Int) (m : Nat) {r : List AV} (h : r.length = 2) :
    hN (spHdr hs ts p tp m r) = hN r ∧ hV (spHdr hs ts p tp m r) = (bif spLow (hN r) == sgVia then spBehind hs ts (hV r) mkVia [59] p tp else bif spLow (hN r) == sgContact then spBehind hs ts (hV r) [64] [62, 59] p tp else bif spLow (hN r) == sgLen then spItoa (m : Int) else hV r)
    ∧ (spHdr hs ts p tp m r).length = 2 := by
  unfold spHdr
  cases spLow (hN r) == sgVia with
  | true => exact ⟨hN_set _ _, hV_set h _, by simp [h]⟩
  | false =>
    cases spLow (hN r) == sgContact with
    | true => exact ⟨hN_set _ _, hV_set h _, by simp [h]⟩
    | false =>
      cases spLow (hN r) == sgLen with
      | true => exact ⟨hN_set _ _, hV_set h _, by simp [h]⟩
      | false => exact ⟨rfl, rfl, h⟩
def rwBody (host to_ : Int) (mrows brows : List (List AV)) : List UInt8 := outB (spDotted host) (spDotted to_) mrows (spLines (brows.map rowByte))
def rwHdrs (host to_ port toPort : Int) (mrows hrows brows : List (List AV)) : List (List AV) :=
  hrows.map (spHdr (spDotted host) (spDotted to_) (IntKind.wrap .i64 port) (IntKind.wrap .i64 toPort) (rwBody host to_ mrows brows).length)
def rwOk (start : List UInt8) (host to_ port toPort : Int) (mrows hrows brows : List (List AV)) : Bool :=
  spRight start hrows brows.length && spRight start (rwHdrs host to_ port toPort mrows hrows brows) (rwBody host to_ mrows brows).length
def spRwH (start : List UInt8) (host to_ port toPort : Int) (mrows hrows brows : List (List AV)) : List (List AV) :=
  bif rwOk start host to_ port toPort mrows hrows brows then rwHdrs host to_ port toPort mrows hrows brows else hrows
def spRwB (start : List UInt8) (host to_ port toPort : Int) (mrows hrows brows : List (List AV)) : List (List AV) :=
  bif rwOk start host to_ port toPort mrows hrows brows then byteRows (rwBody host to_ mrows brows) else brows
theorem hSize_mem {rows : List (List AV)} {r : List AV} (h : r ∈ rows) : hLen r ≤ hSize rows := by
  unfold hSize
  induction rows with
  | nil => cases h
  | cons a l ih =>
    simp only [List.map_cons, List.sum_cons]
    rcases List.mem_cons.1 h with rfl | h
    · omega
    · have := ih h; omega
structure Sized (start : List UInt8) (rows : List (List AV)) (bn : Nat) : Prop where
  n : rows.length ≤ 64
  pos : 0 < rows.length
  bn : bn ≤ 4096
  v : ∀ r ∈ rows, (hV r).length ≤ 4096 ∧ (hN r).length ≤ 4096
theorem right_sized {start : List UInt8} {rows : List (List AV)} {bn : Nat} (h : spRight start rows bn = true) : Sized start rows bn := by
  unfold spRight at h
  simp only [Bool.and_eq_true, decide_eq_true_eq] at h
  obtain ⟨_, _, h3, _, h5, h6⟩ := h
  refine ⟨h3, ?_, by omega, fun r hr => ?_⟩
  · cases rows with
    | nil => simp [nLens] at h5
    | cons a l => simp
  · have := hSize_mem hr
    unfold hLen at this
    omega
theorem rw_lines {host to_ : Int} {mrows brows : List (List AV)} (hb : brows.length ≤ 4096) (hm : mrows.length ≤ 4611686018427387904) :
    LineOK (spDotted host) (spDotted to_) mrows (spLines (brows.map rowByte)) ∧ (rwBody host to_ mrows brows).length ≤ 40000000 := by
  have h1 := len_dotted host
  have h2 := len_dotted to_
  have h3 := len_lines ((brows.map rowByte).length + 1) (brows.map rowByte)
  have h4 : (brows.map rowByte).length = brows.length := by simp
  have h5 : (rwBody host to_ mrows brows).length ≤ (spLines (brows.map rowByte)).length * 8321 := by
    refine len_outB _ fun q hq => ?_
    have h6 := h3.2 q hq
    have h7 := len_line (spDotted host) (spDotted to_) q.1 mrows
    unfold spLineOut
    simp only [List.length_append]
    omega
  have h8 : (spLines (brows.map rowByte)).length ≤ 4097 := by
    have := h3.1; unfold spLines; omega
  have h9 : (rwBody host to_ mrows brows).length ≤ 4097 * 8321 := Nat.le_trans h5 (Nat.mul_le_mul_right _ h8)
  refine ⟨⟨by omega, by omega, hm, fun q hq => ?_, ?_⟩, by omega⟩
  · have h6 := h3.2 q hq; omega
  · have : (outB (spDotted host) (spDotted to_) mrows (spLines (brows.map rowByte))).length ≤ 4097 * 8321 := h9
    omega
theorem rw_hdrs {start : List UInt8} {host to_ port toPort : Int} {mrows hrows brows : List (List AV)} (hs : Sized start hrows brows.length) (h2 : ∀ r ∈ hrows, r.length = 2) (hm : mrows.length ≤ 4611686018427387904) :
    HdrOK (spDotted host) (spDotted to_) (IntKind.wrap .i64 toPort) hrows mrows ∧ (rwHdrs host to_ port toPort mrows hrows brows).all short = true ∧ ∀ r ∈ rwHdrs host to_ port toPort mrows hrows brows, r.length = 2 := by
  have h1 := len_dotted host
  have h3 := len_dotted to_
  refine ⟨⟨by have := hs.n; omega, List.all_eq_true.2 fun r hr => ?_, h2, by omega, by omega, wrap64_range _⟩, List.all_eq_true.2 fun r hr => ?_, fun r hr => ?_⟩
  · have := hs.v r hr
    exact decide_eq_true (by omega)
  · unfold rwHdrs at hr
    obtain ⟨r0, hr0, rfl⟩ := List.mem_map.1 hr
    obtain ⟨e1, e2, _⟩ := hdr_spec (spDotted host) (spDotted to_) (IntKind.wrap .i64 port) (IntKind.wrap .i64 toPort) (rwBody host to_ mrows brows).length (h2 r0 hr0)
    have hv := hs.v r0 hr0
    have b1 := len_behind (spDotted host) (spDotted to_) (hV r0) mkVia [59] (IntKind.wrap .i64 port) (IntKind.wrap .i64 toPort) (wrap64_range _)
    have b2 := len_behind (spDotted host) (spDotted to_) (hV r0) [64] [62, 59] (IntKind.wrap .i64 port) (IntKind.wrap .i64 toPort) (wrap64_range _)
    have b3 : mkVia.length = 12 := rfl
    have hb := (rw_lines (host := host) (to_ := to_) hs.bn hm).2
    have b4 := len_itoa ((rwBody host to_ mrows brows).length : Int) (by omega)
    unfold short
    rw [e1, e2]
    refine decide_eq_true ⟨by omega, ?_⟩
    cases spLow (hN r0) == sgVia with
    | true => rw [cond_true]; omega
    | false =>
      cases spLow (hN r0) == sgContact with
      | true => rw [cond_false, cond_true]; simp only [List.length_cons, List.length_nil] at b2; omega
      | false =>
        cases spLow (hN r0) == sgLen with
        | true =>
          simp only [cond_false, cond_true]; omega
        | false => simp only [cond_false]; omega
  · unfold rwHdrs at hr
    obtain ⟨r0, hr0, rfl⟩ := List.mem_map.1 hr
    exact (hdr_spec _ _ _ _ _ (h2 r0 hr0)).2.2
end Go.Proofs.YtpdgmgkkbbndfaaGreatDoor

set_option maxRecDepth 100000
set_option maxHeartbeats 4000000
namespace Go.Proofs.YtpdgmgkkbbndfaaGreatDoor
open Go Go.Proofs Go.Proofs.YtpdgmgkkbbndfaaGreatDoor.SX
theorem c23nP (start : List UInt8) (hrows : List (List AV)) (brows : List (List AV)) (mrows : List (List AV)) (host : Int) (to_ : Int) (port : Int) (toPort : Int) :
 Path (runCallB Tryz.prog P6o 100 23 [AV.agg [AV.str start, AV.slq 0 (List.length hrows), AV.slq 1 (List.length brows)], AV.int IntKind.u32 host, AV.int IntKind.u32 to_, AV.int IntKind.u16 port, AV.int IntKind.u16 toPort, AV.slq 2 (List.length mrows)] (st0 [Blk.cells false [Kd.str, Kd.str] hrows, Blk.cells false [Kd.int IntKind.u8] brows, Blk.cells false [Kd.int IntKind.u16, Kd.int IntKind.u16] mrows] ([.as_ true]))) 3 [5, 6] (SL.mk [] [(3, .cells false [Kd.str, Kd.str] (sub hrows 0 (List.length hrows))), (4, .cells false [Kd.int IntKind.u8] (sub brows 0 (List.length brows)))] 5) (Out.ret (ren (sig 3 [5, 6]) (AV.agg [AV.str start, AV.slq 3 (List.length (sub hrows 0 (List.length hrows))), AV.slq 4 (List.length (sub brows 0 (List.length brows)))])))
 (((((((((((((((((((((((((((((((((((((True ∧ (true = true)) ∧ (true = true)) ∧ (true = true)) ∧ ((decide (0 + List.length hrows ≤ List.length hrows) && decide (List.length (sub hrows 0 (List.length hrows)) ≤ 4398046511104)) = true)) ∧ ((decide (0 + List.length brows ≤ List.length brows) && decide (List.length (sub brows 0 (List.length brows)) ≤ 140737488355328)) = true)) ∧ (true = true)) ∧ (true = true)) ∧ (true = true)) ∧ (true = true)) ∧ (true = true)) ∧ (true = true)) ∧ ((decide (0 + List.length brows ≤ List.length brows) && decide (List.length (sub brows 0 (List.length brows)) ≤ 140737488355328)) = true)) ∧ (true = true)) ∧ (true = true)) ∧ (true = true)) ∧ (true = true)) ∧ (true = true)) ∧ (true = true)) ∧ ((decide (0 + List.length hrows ≤ List.length hrows) && decide (List.length (sub hrows 0 (List.length hrows)) ≤ 4398046511104)) = true)) ∧ ((decide (0 + List.length brows ≤ List.length brows) && decide (List.length (sub brows 0 (List.length brows)) ≤ 140737488355328)) = true)) ∧ (true = true)) ∧ (true = true)) ∧ (true = true)) ∧ (true = true)) ∧ (true = true)) ∧ (true = true)) ∧ (true = true)) ∧ ((decide (0 + List.length hrows ≤ List.length hrows) && (decide (0 + List.length brows ≤ List.length brows) && decide (List.length start ≤ 4294967200 ∧ List.all (sub hrows 0 (List.length hrows)) short = true ∧ List.length (sub brows 0 (List.length brows)) ≤ 140737488355328))) = true)) ∧ ((!spRight start (sub hrows 0 (List.length hrows)) (List.length (sub brows 0 (List.length brows)))) = true)) ∧ (true = true)) ∧ (true = true)) ∧ (true = true)) ∧ (true = true)) ∧ (true = true)) ∧ (true = true)) ∧ (true = true)) ∧ (true = true))  := by unfold Path; kernel_rfl
theorem c23n (start : List UInt8) (hrows : List (List AV)) (brows : List (List AV)) (mrows : List (List AV)) (host : Int) (to_ : Int) (port : Int) (toPort : Int) {ρ : Nat → BI} {w : World} (hE : HSim ρ (addBlks .e 0 [Blk.cells false [Kd.str, Kd.str] hrows, Blk.cells false [Kd.int IntKind.u8] brows, Blk.cells false [Kd.int IntKind.u16, Kd.int IntKind.u16] mrows]) ([Blk.cells false [Kd.str, Kd.str] hrows, Blk.cells false [Kd.int IntKind.u8] brows, Blk.cells false [Kd.int IntKind.u16, Kd.int IntKind.u16] mrows] : List Blk).length w)
    (h0 : (decide (0 + List.length hrows ≤ List.length hrows) && decide (List.length (sub hrows 0 (List.length hrows)) ≤ 4398046511104)) = true)
    (h1 : (decide (0 + List.length brows ≤ List.length brows) && decide (List.length (sub brows 0 (List.length brows)) ≤ 140737488355328)) = true)
    (h2 : (decide (0 + List.length hrows ≤ List.length hrows) && (decide (0 + List.length brows ≤ List.length brows) && decide (List.length start ≤ 4294967200 ∧ List.all (sub hrows 0 (List.length hrows)) short = true ∧ List.length (sub brows 0 (List.length brows)) ≤ 140737488355328))) = true)
    (h3 : (!spRight start (sub hrows 0 (List.length hrows)) (List.length (sub brows 0 (List.length brows)))) = true) :
    Calls Tryz.prog 23 (concL ρ [AV.agg [AV.str start, AV.slq 0 (List.length hrows), AV.slq 1 (List.length brows)], AV.int IntKind.u32 host, AV.int IntKind.u32 to_, AV.int IntKind.u16 port, AV.int IntKind.u16 toPort, AV.slq 2 (List.length mrows)]).toArray w (fun e w' => ∃ ρ', e = .returned (conc ρ' (AV.agg [AV.str start, AV.slq 3 (List.length (sub hrows 0 (List.length hrows))), AV.slq 4 (List.length (sub brows 0 (List.length brows)))])) ∧ HStep ρ (addBlks .e 0 [Blk.cells false [Kd.str, Kd.str] hrows, Blk.cells false [Kd.int IntKind.u8] brows, Blk.cells false [Kd.int IntKind.u16, Kd.int IntKind.u16] mrows]) ([Blk.cells false [Kd.str, Kd.str] hrows, Blk.cells false [Kd.int IntKind.u8] brows, Blk.cells false [Kd.int IntKind.u16, Kd.int IntKind.u16] mrows] : List Blk).length w ρ' (Tr.ofList [(3, .cells false [Kd.str, Kd.str] (sub hrows 0 (List.length hrows))), (4, .cells false [Kd.int IntKind.u8] (sub brows 0 (List.length brows)))]) 5 w') :=
  calls_ofB P6o_ok (c23nP start hrows brows mrows host to_ port toPort) ⟨⟨⟨⟨⟨⟨⟨⟨⟨⟨⟨⟨⟨⟨⟨⟨⟨⟨⟨⟨⟨⟨⟨⟨⟨⟨⟨⟨⟨⟨⟨⟨⟨⟨⟨⟨⟨trivial, rfl⟩, rfl⟩, rfl⟩, h0⟩, h1⟩, rfl⟩, rfl⟩, rfl⟩, rfl⟩, rfl⟩, rfl⟩, h1⟩, rfl⟩, rfl⟩, rfl⟩, rfl⟩, rfl⟩, rfl⟩, h0⟩, h1⟩, rfl⟩, rfl⟩, rfl⟩, rfl⟩, rfl⟩, rfl⟩, rfl⟩, h2⟩, h3⟩, rfl⟩, rfl⟩, rfl⟩, rfl⟩, rfl⟩, rfl⟩, rfl⟩, rfl⟩ hE rfl
theorem c23zTP (start : List UInt8) (hrows : List (List AV)) (brows : List (List AV)) (mrows : List (List AV)) (hrows2 : List (List AV)) (brows2 : List (List AV)) (host : Int) (to_ : Int) (port : Int) (toPort : Int) (m : Nat) :
 Path (runCallB Tryz.prog P6w 100 23 [AV.agg [AV.str start, AV.slq 0 (List.length hrows), AV.slq 1 (List.length brows)], AV.int IntKind.u32 host, AV.int IntKind.u32 to_, AV.int IntKind.u16 port, AV.int IntKind.u16 toPort, AV.slq 2 (List.length mrows)] (st0 [Blk.cells false [Kd.str, Kd.str] hrows, Blk.cells false [Kd.int IntKind.u8] brows, Blk.cells false [Kd.int IntKind.u16, Kd.int IntKind.u16] mrows] ([.as_ false, PI.loop (SL.mk [(51, AV.fn (Fn.func (76 : FuncId)) [] [AV.ptr (Loc.mk 11 0 0)]), (14, AV.ptr (Loc.mk 8 0 0)), (15, AV.ptr (Loc.mk 10 0 0))] [(2, Blk.cells false [Kd.int IntKind.u16, Kd.int IntKind.u16] mrows), (8, Blk.cells true [Kd.str, Kd.str, Kd.int IntKind.i64, Kd.int IntKind.i64, Kd.any] [[AV.str (spDotted host), AV.str (spDotted to_), AV.int IntKind.i64 (IntKind.wrap IntKind.i64 port), AV.int IntKind.i64 (IntKind.wrap IntKind.i64 toPort), AV.slq 2 (List.length mrows)]]), (10, Blk.cells true [Kd.str, Kd.any, Kd.any] [[AV.str start, AV.sl (Loc.mk 9 0 0) (List.length (sub hrows 0 (List.length hrows))) Cap.open_, AV.nilSl]]), (11, Blk.cells true [Kd.any] [[AV.slq 1 (List.length brows)]]), (1, Blk.cells false [Kd.int IntKind.u8] brows)] 12) Ex.normal (SL.mk [] [(2, Blk.cells false [Kd.int IntKind.u16, Kd.int IntKind.u16] mrows), (8, Blk.cells true [Kd.str, Kd.str, Kd.int IntKind.i64, Kd.int IntKind.i64, Kd.any] [[AV.str (spDotted host), AV.str (spDotted to_), AV.int IntKind.i64 (IntKind.wrap IntKind.i64 port), AV.int IntKind.i64 (IntKind.wrap IntKind.i64 toPort), AV.slq 2 (List.length mrows)]]), (10, Blk.cells true [Kd.str, Kd.any, Kd.any] [[AV.str start, AV.sl (Loc.mk 9 0 0) (List.length (sub hrows 0 (List.length hrows))) Cap.open_, AV.nilSl]]), (12, Blk.mark)] 13), PI.loop (b23zI start (spDotted host) (spDotted to_) (List.length (sub hrows 0 (List.length hrows))) m (List.length mrows) (IntKind.wrap IntKind.i64 port) (IntKind.wrap IntKind.i64 toPort) mrows (sub hrows 0 (List.length hrows)) (0 : Int)) (Ex.exit 2) (b23zI start (spDotted host) (spDotted to_) (List.length (sub hrows 0 (List.length hrows))) m (List.length mrows) (IntKind.wrap IntKind.i64 port) (IntKind.wrap IntKind.i64 toPort) mrows hrows2 (↑(List.length (sub hrows 0 (List.length hrows))) : Int)), .as_ true]))) 3 [5, 6] (SL.mk [] [(3, .cells true [Kd.str, Kd.str] (sub hrows 0 (List.length hrows))), (4, .cells false [Kd.int IntKind.u8] (sub brows 0 (List.length brows)))] 5) (Out.ret (ren (sig 3 [5, 6]) (AV.agg [AV.str start, AV.sl (Loc.mk 3 0 0) (List.length (sub hrows 0 (List.length hrows))) Cap.open_, AV.slq 4 (List.length (sub brows 0 (List.length brows)))])))
 ((((((((((((((((((((((((((((((((((((((((((((((((((((((((((((((((((((((((True ∧ (true = true)) ∧ (true = true)) ∧ (true = true)) ∧ ((decide (0 + List.length hrows ≤ List.length hrows) && decide (0 < List.length (sub hrows 0 (List.length hrows)) ∧ List.length (sub hrows 0 (List.length hrows)) ≤ 4398046511104)) = true)) ∧ ((decide (0 + List.length brows ≤ List.length brows) && decide (List.length (sub brows 0 (List.length brows)) ≤ 140737488355328)) = true)) ∧ (true = true)) ∧ (true = true)) ∧ (true = true)) ∧ (true = true)) ∧ (true = true)) ∧ (true = true)) ∧ ((decide (0 + List.length brows ≤ List.length brows) && decide (List.length (sub brows 0 (List.length brows)) ≤ 140737488355328)) = true)) ∧ (true = true)) ∧ (true = true)) ∧ (true = true)) ∧ (true = true)) ∧ (true = true)) ∧ (true = true)) ∧ ((decide (0 + List.length hrows ≤ List.length hrows) && decide (0 < List.length (sub hrows 0 (List.length hrows)) ∧ List.length (sub hrows 0 (List.length hrows)) ≤ 4398046511104)) = true)) ∧ ((decide (0 + List.length brows ≤ List.length brows) && decide (List.length (sub brows 0 (List.length brows)) ≤ 140737488355328)) = true)) ∧ (true = true)) ∧ (true = true)) ∧ (true = true)) ∧ (true = true)) ∧ (true = true)) ∧ (true = true)) ∧ (true = true)) ∧ ((decide (0 + List.length hrows ≤ List.length hrows) && (decide (0 + List.length brows ≤ List.length brows) && decide (List.length start ≤ 4294967200 ∧ List.all (sub hrows 0 (List.length hrows)) short = true ∧ List.length (sub brows 0 (List.length brows)) ≤ 140737488355328))) = true)) ∧ ((!spRight start (sub hrows 0 (List.length hrows)) (List.length (sub brows 0 (List.length brows)))) = false)) ∧ (true = true)) ∧ (true = true)) ∧ (true = true)) ∧ (true = true)) ∧ (true = true)) ∧ (true = true)) ∧ (true = true)) ∧ (true = true)) ∧ (true = true)) ∧ (true = true)) ∧ (true = true)) ∧ (true = true)) ∧ (true = true)) ∧ (true = true)) ∧ ((decide (0 + List.length hrows ≤ List.length hrows) && decide (0 < List.length (sub hrows 0 (List.length hrows)) ∧ List.length (sub hrows 0 (List.length hrows)) ≤ 4398046511104)) = true)) ∧ (true = true)) ∧ (true = true)) ∧ (true = true)) ∧ (true = true)) ∧ (true = true)) ∧ (true = true)) ∧ ((decide (0 + List.length hrows ≤ List.length hrows) && decide (0 < List.length (sub hrows 0 (List.length hrows)) ∧ List.length (sub hrows 0 (List.length hrows)) ≤ 4398046511104)) = true)) ∧ (true = true)) ∧ (true = true)) ∧ (true = true)) ∧ (true = true)) ∧ (true = true)) ∧ (true = true)) ∧ (true = true)) ∧ (RangeOK Tryz.prog (rcode Tryz.prog 23 0) (113) (SL.mk [(51, AV.fn (Fn.func 76) [] [AV.ptr (Loc.mk 11 0 0)]), (14, AV.ptr (Loc.mk 8 0 0)), (15, AV.ptr (Loc.mk 10 0 0))] [(2, Blk.cells false [Kd.int IntKind.u16, Kd.int IntKind.u16] mrows), (8, Blk.cells true [Kd.str, Kd.str, Kd.int IntKind.i64, Kd.int IntKind.i64, Kd.any] [[AV.str (spDotted host), AV.str (spDotted to_), AV.int IntKind.i64 (IntKind.wrap IntKind.i64 port), AV.int IntKind.i64 (IntKind.wrap IntKind.i64 toPort), AV.slq 2 (List.length mrows)]]), (10, Blk.cells true [Kd.str, Kd.any, Kd.any] [[AV.str start, AV.sl (Loc.mk 9 0 0) (List.length (sub hrows 0 (List.length hrows))) Cap.open_, AV.nilSl]]), (11, Blk.cells true [Kd.any] [[AV.slq 1 (List.length brows)]]), (1, Blk.cells false [Kd.int IntKind.u8] brows)] 12) (SL.mk [] [(2, Blk.cells false [Kd.int IntKind.u16, Kd.int IntKind.u16] mrows), (8, Blk.cells true [Kd.str, Kd.str, Kd.int IntKind.i64, Kd.int IntKind.i64, Kd.any] [[AV.str (spDotted host), AV.str (spDotted to_), AV.int IntKind.i64 (IntKind.wrap IntKind.i64 port), AV.int IntKind.i64 (IntKind.wrap IntKind.i64 toPort), AV.slq 2 (List.length mrows)]]), (10, Blk.cells true [Kd.str, Kd.any, Kd.any] [[AV.str start, AV.sl (Loc.mk 9 0 0) (List.length (sub hrows 0 (List.length hrows))) Cap.open_, AV.nilSl]]), (12, Blk.mark)] 13))) ∧ (true = true)) ∧ (LoopOK Tryz.prog (lbody Tryz.prog 23 0) (113) (SL.mk [(12, AV.ptr (Loc.mk 4 0 0)), (13, AV.ptr (Loc.mk 7 0 0)), (14, AV.ptr (Loc.mk 8 0 0)), (15, AV.ptr (Loc.mk 10 0 0)), (64, AV.sl (Loc.mk 9 0 0) (List.length (sub hrows 0 (List.length hrows))) Cap.open_), (65, AV.int IntKind.i64 (↑(List.length (sub hrows 0 (List.length hrows))) : Int)), (66, AV.int IntKind.i64 (0 : Int))] [(2, Blk.cells false [Kd.int IntKind.u16, Kd.int IntKind.u16] mrows), (8, Blk.cells true [Kd.str, Kd.str, Kd.int IntKind.i64, Kd.int IntKind.i64, Kd.any] [[AV.str (spDotted host), AV.str (spDotted to_), AV.int IntKind.i64 (IntKind.wrap IntKind.i64 port), AV.int IntKind.i64 (IntKind.wrap IntKind.i64 toPort), AV.slq 2 (List.length mrows)]]), (9, Blk.cells true [Kd.str, Kd.str] (sub hrows 0 (List.length hrows))), (10, Blk.cells true [Kd.str, Kd.any, Kd.any] [[AV.str start, AV.sl (Loc.mk 9 0 0) (List.length (sub hrows 0 (List.length hrows))) Cap.open_, AV.nilSl]])] 13) (Ex.exit 2) (SL.mk [(12, AV.ptr (Loc.mk 4 0 0)), (13, AV.ptr (Loc.mk 7 0 0)), (14, AV.ptr (Loc.mk 8 0 0)), (15, AV.ptr (Loc.mk 10 0 0)), (64, AV.sl (Loc.mk 9 0 0) (List.length (sub hrows 0 (List.length hrows))) Cap.open_), (65, AV.int IntKind.i64 (↑(List.length (sub hrows 0 (List.length hrows))) : Int)), (66, AV.int IntKind.i64 (↑(List.length (sub hrows 0 (List.length hrows))) : Int))] [(2, Blk.cells false [Kd.int IntKind.u16, Kd.int IntKind.u16] mrows), (8, Blk.cells true [Kd.str, Kd.str, Kd.int IntKind.i64, Kd.int IntKind.i64, Kd.any] [[AV.str (spDotted host), AV.str (spDotted to_), AV.int IntKind.i64 (IntKind.wrap IntKind.i64 port), AV.int IntKind.i64 (IntKind.wrap IntKind.i64 toPort), AV.slq 2 (List.length mrows)]]), (9, Blk.cells true [Kd.str, Kd.str] hrows2), (10, Blk.cells true [Kd.str, Kd.any, Kd.any] [[AV.str start, AV.sl (Loc.mk 9 0 0) (List.length (sub hrows 0 (List.length hrows))) Cap.open_, AV.nilSl]])] 13))) ∧ (true = true)) ∧ ((decide (0 + List.length (sub hrows 0 (List.length hrows)) ≤ List.length hrows2) && (true && decide (List.length start ≤ 4294967200 ∧ List.all (sub hrows2 0 (List.length (sub hrows 0 (List.length hrows)))) short = true ∧ 0 ≤ 140737488355328))) = true)) ∧ ((!spRight start (sub hrows2 0 (List.length (sub hrows 0 (List.length hrows)))) 0) = true)) ∧ (true = true)) ∧ (true = true)) ∧ (true = true)) ∧ (true = true)) ∧ (true = true)) ∧ (true = true)) ∧ (true = true)) ∧ (true = true))  := by unfold Path; kernel_rfl
theorem c23zT (start : List UInt8) (hrows : List (List AV)) (brows : List (List AV)) (mrows : List (List AV)) (hrows2 : List (List AV)) (brows2 : List (List AV)) (host : Int) (to_ : Int) (port : Int) (toPort : Int) (m : Nat) {ρ : Nat → BI} {w : World} (hE : HSim ρ (addBlks .e 0 [Blk.cells false [Kd.str, Kd.str] hrows, Blk.cells false [Kd.int IntKind.u8] brows, Blk.cells false [Kd.int IntKind.u16, Kd.int IntKind.u16] mrows]) ([Blk.cells false [Kd.str, Kd.str] hrows, Blk.cells false [Kd.int IntKind.u8] brows, Blk.cells false [Kd.int IntKind.u16, Kd.int IntKind.u16] mrows] : List Blk).length w)
    (h0 : (decide (0 + List.length hrows ≤ List.length hrows) && decide (0 < List.length (sub hrows 0 (List.length hrows)) ∧ List.length (sub hrows 0 (List.length hrows)) ≤ 4398046511104)) = true)
    (h1 : (decide (0 + List.length brows ≤ List.length brows) && decide (List.length (sub brows 0 (List.length brows)) ≤ 140737488355328)) = true)
    (h2 : (decide (0 + List.length hrows ≤ List.length hrows) && (decide (0 + List.length brows ≤ List.length brows) && decide (List.length start ≤ 4294967200 ∧ List.all (sub hrows 0 (List.length hrows)) short = true ∧ List.length (sub brows 0 (List.length brows)) ≤ 140737488355328))) = true)
    (h3 : (!spRight start (sub hrows 0 (List.length hrows)) (List.length (sub brows 0 (List.length brows)))) = false)
    (h4 : RangeOK Tryz.prog (rcode Tryz.prog 23 0) (113) (SL.mk [(51, AV.fn (Fn.func 76) [] [AV.ptr (Loc.mk 11 0 0)]), (14, AV.ptr (Loc.mk 8 0 0)), (15, AV.ptr (Loc.mk 10 0 0))] [(2, Blk.cells false [Kd.int IntKind.u16, Kd.int IntKind.u16] mrows), (8, Blk.cells true [Kd.str, Kd.str, Kd.int IntKind.i64, Kd.int IntKind.i64, Kd.any] [[AV.str (spDotted host), AV.str (spDotted to_), AV.int IntKind.i64 (IntKind.wrap IntKind.i64 port), AV.int IntKind.i64 (IntKind.wrap IntKind.i64 toPort), AV.slq 2 (List.length mrows)]]), (10, Blk.cells true [Kd.str, Kd.any, Kd.any] [[AV.str start, AV.sl (Loc.mk 9 0 0) (List.length (sub hrows 0 (List.length hrows))) Cap.open_, AV.nilSl]]), (11, Blk.cells true [Kd.any] [[AV.slq 1 (List.length brows)]]), (1, Blk.cells false [Kd.int IntKind.u8] brows)] 12) (SL.mk [] [(2, Blk.cells false [Kd.int IntKind.u16, Kd.int IntKind.u16] mrows), (8, Blk.cells true [Kd.str, Kd.str, Kd.int IntKind.i64, Kd.int IntKind.i64, Kd.any] [[AV.str (spDotted host), AV.str (spDotted to_), AV.int IntKind.i64 (IntKind.wrap IntKind.i64 port), AV.int IntKind.i64 (IntKind.wrap IntKind.i64 toPort), AV.slq 2 (List.length mrows)]]), (10, Blk.cells true [Kd.str, Kd.any, Kd.any] [[AV.str start, AV.sl (Loc.mk 9 0 0) (List.length (sub hrows 0 (List.length hrows))) Cap.open_, AV.nilSl]]), (12, Blk.mark)] 13))
    (h5 : LoopOK Tryz.prog (lbody Tryz.prog 23 0) (113) (SL.mk [(12, AV.ptr (Loc.mk 4 0 0)), (13, AV.ptr (Loc.mk 7 0 0)), (14, AV.ptr (Loc.mk 8 0 0)), (15, AV.ptr (Loc.mk 10 0 0)), (64, AV.sl (Loc.mk 9 0 0) (List.length (sub hrows 0 (List.length hrows))) Cap.open_), (65, AV.int IntKind.i64 (↑(List.length (sub hrows 0 (List.length hrows))) : Int)), (66, AV.int IntKind.i64 (0 : Int))] [(2, Blk.cells false [Kd.int IntKind.u16, Kd.int IntKind.u16] mrows), (8, Blk.cells true [Kd.str, Kd.str, Kd.int IntKind.i64, Kd.int IntKind.i64, Kd.any] [[AV.str (spDotted host), AV.str (spDotted to_), AV.int IntKind.i64 (IntKind.wrap IntKind.i64 port), AV.int IntKind.i64 (IntKind.wrap IntKind.i64 toPort), AV.slq 2 (List.length mrows)]]), (9, Blk.cells true [Kd.str, Kd.str] (sub hrows 0 (List.length hrows))), (10, Blk.cells true [Kd.str, Kd.any, Kd.any] [[AV.str start, AV.sl (Loc.mk 9 0 0) (List.length (sub hrows 0 (List.length hrows))) Cap.open_, AV.nilSl]])] 13) (Ex.exit 2) (SL.mk [(12, AV.ptr (Loc.mk 4 0 0)), (13, AV.ptr (Loc.mk 7 0 0)), (14, AV.ptr (Loc.mk 8 0 0)), (15, AV.ptr (Loc.mk 10 0 0)), (64, AV.sl (Loc.mk 9 0 0) (List.length (sub hrows 0 (List.length hrows))) Cap.open_), (65, AV.int IntKind.i64 (↑(List.length (sub hrows 0 (List.length hrows))) : Int)), (66, AV.int IntKind.i64 (↑(List.length (sub hrows 0 (List.length hrows))) : Int))] [(2, Blk.cells false [Kd.int IntKind.u16, Kd.int IntKind.u16] mrows), (8, Blk.cells true [Kd.str, Kd.str, Kd.int IntKind.i64, Kd.int IntKind.i64, Kd.any] [[AV.str (spDotted host), AV.str (spDotted to_), AV.int IntKind.i64 (IntKind.wrap IntKind.i64 port), AV.int IntKind.i64 (IntKind.wrap IntKind.i64 toPort), AV.slq 2 (List.length mrows)]]), (9, Blk.cells true [Kd.str, Kd.str] hrows2), (10, Blk.cells true [Kd.str, Kd.any, Kd.any] [[AV.str start, AV.sl (Loc.mk 9 0 0) (List.length (sub hrows 0 (List.length hrows))) Cap.open_, AV.nilSl]])] 13))
    (h6 : (decide (0 + List.length (sub hrows 0 (List.length hrows)) ≤ List.length hrows2) && (true && decide (List.length start ≤ 4294967200 ∧ List.all (sub hrows2 0 (List.length (sub hrows 0 (List.length hrows)))) short = true ∧ 0 ≤ 140737488355328))) = true)
    (h7 : (!spRight start (sub hrows2 0 (List.length (sub hrows 0 (List.length hrows)))) 0) = true) :
    Calls Tryz.prog 23 (concL ρ [AV.agg [AV.str start, AV.slq 0 (List.length hrows), AV.slq 1 (List.length brows)], AV.int IntKind.u32 host, AV.int IntKind.u32 to_, AV.int IntKind.u16 port, AV.int IntKind.u16 toPort, AV.slq 2 (List.length mrows)]).toArray w (fun e w' => ∃ ρ', e = .returned (conc ρ' (AV.agg [AV.str start, AV.sl (Loc.mk 3 0 0) (List.length (sub hrows 0 (List.length hrows))) Cap.open_, AV.slq 4 (List.length (sub brows 0 (List.length brows)))])) ∧ HStep ρ (addBlks .e 0 [Blk.cells false [Kd.str, Kd.str] hrows, Blk.cells false [Kd.int IntKind.u8] brows, Blk.cells false [Kd.int IntKind.u16, Kd.int IntKind.u16] mrows]) ([Blk.cells false [Kd.str, Kd.str] hrows, Blk.cells false [Kd.int IntKind.u8] brows, Blk.cells false [Kd.int IntKind.u16, Kd.int IntKind.u16] mrows] : List Blk).length w ρ' (Tr.ofList [(3, .cells true [Kd.str, Kd.str] (sub hrows 0 (List.length hrows))), (4, .cells false [Kd.int IntKind.u8] (sub brows 0 (List.length brows)))]) 5 w') :=
  calls_ofB P6w_ok (c23zTP start hrows brows mrows hrows2 brows2 host to_ port toPort m) ⟨⟨⟨⟨⟨⟨⟨⟨⟨⟨⟨⟨⟨⟨⟨⟨⟨⟨⟨⟨⟨⟨⟨⟨⟨⟨⟨⟨⟨⟨⟨⟨⟨⟨⟨⟨⟨⟨⟨⟨⟨⟨⟨⟨⟨⟨⟨⟨⟨⟨⟨⟨⟨⟨⟨⟨⟨⟨⟨⟨⟨⟨⟨⟨⟨⟨⟨⟨⟨⟨⟨⟨trivial, rfl⟩, rfl⟩, rfl⟩, h0⟩, h1⟩, rfl⟩, rfl⟩, rfl⟩, rfl⟩, rfl⟩, rfl⟩, h1⟩, rfl⟩, rfl⟩, rfl⟩, rfl⟩, rfl⟩, rfl⟩, h0⟩, h1⟩, rfl⟩, rfl⟩, rfl⟩, rfl⟩, rfl⟩, rfl⟩, rfl⟩, h2⟩, h3⟩, rfl⟩, rfl⟩, rfl⟩, rfl⟩, rfl⟩, rfl⟩, rfl⟩, rfl⟩, rfl⟩, rfl⟩, rfl⟩, rfl⟩, rfl⟩, rfl⟩, h0⟩, rfl⟩, rfl⟩, rfl⟩, rfl⟩, rfl⟩, rfl⟩, h0⟩, rfl⟩, rfl⟩, rfl⟩, rfl⟩, rfl⟩, rfl⟩, rfl⟩, h4⟩, rfl⟩, h5⟩, rfl⟩, h6⟩, h7⟩, rfl⟩, rfl⟩, rfl⟩, rfl⟩, rfl⟩, rfl⟩, rfl⟩, rfl⟩ hE rfl
theorem c23zFP (start : List UInt8) (hrows : List (List AV)) (brows : List (List AV)) (mrows : List (List AV)) (hrows2 : List (List AV)) (brows2 : List (List AV)) (host : Int) (to_ : Int) (port : Int) (toPort : Int) (m : Nat) :
 Path (runCallB Tryz.prog P6w 100 23 [AV.agg [AV.str start, AV.slq 0 (List.length hrows), AV.slq 1 (List.length brows)], AV.int IntKind.u32 host, AV.int IntKind.u32 to_, AV.int IntKind.u16 port, AV.int IntKind.u16 toPort, AV.slq 2 (List.length mrows)] (st0 [Blk.cells false [Kd.str, Kd.str] hrows, Blk.cells false [Kd.int IntKind.u8] brows, Blk.cells false [Kd.int IntKind.u16, Kd.int IntKind.u16] mrows] ([.as_ false, PI.loop (SL.mk [(51, AV.fn (Fn.func (76 : FuncId)) [] [AV.ptr (Loc.mk 11 0 0)]), (14, AV.ptr (Loc.mk 8 0 0)), (15, AV.ptr (Loc.mk 10 0 0))] [(2, Blk.cells false [Kd.int IntKind.u16, Kd.int IntKind.u16] mrows), (8, Blk.cells true [Kd.str, Kd.str, Kd.int IntKind.i64, Kd.int IntKind.i64, Kd.any] [[AV.str (spDotted host), AV.str (spDotted to_), AV.int IntKind.i64 (IntKind.wrap IntKind.i64 port), AV.int IntKind.i64 (IntKind.wrap IntKind.i64 toPort), AV.slq 2 (List.length mrows)]]), (10, Blk.cells true [Kd.str, Kd.any, Kd.any] [[AV.str start, AV.sl (Loc.mk 9 0 0) (List.length (sub hrows 0 (List.length hrows))) Cap.open_, AV.nilSl]]), (11, Blk.cells true [Kd.any] [[AV.slq 1 (List.length brows)]]), (1, Blk.cells false [Kd.int IntKind.u8] brows)] 12) Ex.normal (SL.mk [] [(2, Blk.cells false [Kd.int IntKind.u16, Kd.int IntKind.u16] mrows), (8, Blk.cells true [Kd.str, Kd.str, Kd.int IntKind.i64, Kd.int IntKind.i64, Kd.any] [[AV.str (spDotted host), AV.str (spDotted to_), AV.int IntKind.i64 (IntKind.wrap IntKind.i64 port), AV.int IntKind.i64 (IntKind.wrap IntKind.i64 toPort), AV.slq 2 (List.length mrows)]]), (10, Blk.cells true [Kd.str, Kd.any, Kd.any] [[AV.str start, AV.sl (Loc.mk 9 0 0) (List.length (sub hrows 0 (List.length hrows))) Cap.open_, AV.nilSl]]), (12, Blk.mark)] 13), PI.loop (b23zI start (spDotted host) (spDotted to_) (List.length (sub hrows 0 (List.length hrows))) m (List.length mrows) (IntKind.wrap IntKind.i64 port) (IntKind.wrap IntKind.i64 toPort) mrows (sub hrows 0 (List.length hrows)) (0 : Int)) (Ex.exit 2) (b23zI start (spDotted host) (spDotted to_) (List.length (sub hrows 0 (List.length hrows))) m (List.length mrows) (IntKind.wrap IntKind.i64 port) (IntKind.wrap IntKind.i64 toPort) mrows hrows2 (↑(List.length (sub hrows 0 (List.length hrows))) : Int)), .as_ false]))) 3 [9] (SL.mk [] [(3, .cells true [Kd.str, Kd.str] hrows2)] 4) (Out.ret (ren (sig 3 [9]) (AV.agg [AV.str start, AV.sl (Loc.mk 3 0 0) (List.length (sub hrows 0 (List.length hrows))) Cap.open_, AV.nilSl])))
 ((((((((((((((((((((((((((((((((((((((((((((((((((((((((((((((((((((((((True ∧ (true = true)) ∧ (true = true)) ∧ (true = true)) ∧ ((decide (0 + List.length hrows ≤ List.length hrows) && decide (0 < List.length (sub hrows 0 (List.length hrows)) ∧ List.length (sub hrows 0 (List.length hrows)) ≤ 4398046511104)) = true)) ∧ ((decide (0 + List.length brows ≤ List.length brows) && decide (List.length (sub brows 0 (List.length brows)) ≤ 140737488355328)) = true)) ∧ (true = true)) ∧ (true = true)) ∧ (true = true)) ∧ (true = true)) ∧ (true = true)) ∧ (true = true)) ∧ ((decide (0 + List.length brows ≤ List.length brows) && decide (List.length (sub brows 0 (List.length brows)) ≤ 140737488355328)) = true)) ∧ (true = true)) ∧ (true = true)) ∧ (true = true)) ∧ (true = true)) ∧ (true = true)) ∧ (true = true)) ∧ ((decide (0 + List.length hrows ≤ List.length hrows) && decide (0 < List.length (sub hrows 0 (List.length hrows)) ∧ List.length (sub hrows 0 (List.length hrows)) ≤ 4398046511104)) = true)) ∧ ((decide (0 + List.length brows ≤ List.length brows) && decide (List.length (sub brows 0 (List.length brows)) ≤ 140737488355328)) = true)) ∧ (true = true)) ∧ (true = true)) ∧ (true = true)) ∧ (true = true)) ∧ (true = true)) ∧ (true = true)) ∧ (true = true)) ∧ ((decide (0 + List.length hrows ≤ List.length hrows) && (decide (0 + List.length brows ≤ List.length brows) && decide (List.length start ≤ 4294967200 ∧ List.all (sub hrows 0 (List.length hrows)) short = true ∧ List.length (sub brows 0 (List.length brows)) ≤ 140737488355328))) = true)) ∧ ((!spRight start (sub hrows 0 (List.length hrows)) (List.length (sub brows 0 (List.length brows)))) = false)) ∧ (true = true)) ∧ (true = true)) ∧ (true = true)) ∧ (true = true)) ∧ (true = true)) ∧ (true = true)) ∧ (true = true)) ∧ (true = true)) ∧ (true = true)) ∧ (true = true)) ∧ (true = true)) ∧ (true = true)) ∧ (true = true)) ∧ (true = true)) ∧ ((decide (0 + List.length hrows ≤ List.length hrows) && decide (0 < List.length (sub hrows 0 (List.length hrows)) ∧ List.length (sub hrows 0 (List.length hrows)) ≤ 4398046511104)) = true)) ∧ (true = true)) ∧ (true = true)) ∧ (true = true)) ∧ (true = true)) ∧ (true = true)) ∧ (true = true)) ∧ ((decide (0 + List.length hrows ≤ List.length hrows) && decide (0 < List.length (sub hrows 0 (List.length hrows)) ∧ List.length (sub hrows 0 (List.length hrows)) ≤ 4398046511104)) = true)) ∧ (true = true)) ∧ (true = true)) ∧ (true = true)) ∧ (true = true)) ∧ (true = true)) ∧ (true = true)) ∧ (true = true)) ∧ (RangeOK Tryz.prog (rcode Tryz.prog 23 0) (113) (SL.mk [(51, AV.fn (Fn.func 76) [] [AV.ptr (Loc.mk 11 0 0)]), (14, AV.ptr (Loc.mk 8 0 0)), (15, AV.ptr (Loc.mk 10 0 0))] [(2, Blk.cells false [Kd.int IntKind.u16, Kd.int IntKind.u16] mrows), (8, Blk.cells true [Kd.str, Kd.str, Kd.int IntKind.i64, Kd.int IntKind.i64, Kd.any] [[AV.str (spDotted host), AV.str (spDotted to_), AV.int IntKind.i64 (IntKind.wrap IntKind.i64 port), AV.int IntKind.i64 (IntKind.wrap IntKind.i64 toPort), AV.slq 2 (List.length mrows)]]), (10, Blk.cells true [Kd.str, Kd.any, Kd.any] [[AV.str start, AV.sl (Loc.mk 9 0 0) (List.length (sub hrows 0 (List.length hrows))) Cap.open_, AV.nilSl]]), (11, Blk.cells true [Kd.any] [[AV.slq 1 (List.length brows)]]), (1, Blk.cells false [Kd.int IntKind.u8] brows)] 12) (SL.mk [] [(2, Blk.cells false [Kd.int IntKind.u16, Kd.int IntKind.u16] mrows), (8, Blk.cells true [Kd.str, Kd.str, Kd.int IntKind.i64, Kd.int IntKind.i64, Kd.any] [[AV.str (spDotted host), AV.str (spDotted to_), AV.int IntKind.i64 (IntKind.wrap IntKind.i64 port), AV.int IntKind.i64 (IntKind.wrap IntKind.i64 toPort), AV.slq 2 (List.length mrows)]]), (10, Blk.cells true [Kd.str, Kd.any, Kd.any] [[AV.str start, AV.sl (Loc.mk 9 0 0) (List.length (sub hrows 0 (List.length hrows))) Cap.open_, AV.nilSl]]), (12, Blk.mark)] 13))) ∧ (true = true)) ∧ (LoopOK Tryz.prog (lbody Tryz.prog 23 0) (113) (SL.mk [(12, AV.ptr (Loc.mk 4 0 0)), (13, AV.ptr (Loc.mk 7 0 0)), (14, AV.ptr (Loc.mk 8 0 0)), (15, AV.ptr (Loc.mk 10 0 0)), (64, AV.sl (Loc.mk 9 0 0) (List.length (sub hrows 0 (List.length hrows))) Cap.open_), (65, AV.int IntKind.i64 (↑(List.length (sub hrows 0 (List.length hrows))) : Int)), (66, AV.int IntKind.i64 (0 : Int))] [(2, Blk.cells false [Kd.int IntKind.u16, Kd.int IntKind.u16] mrows), (8, Blk.cells true [Kd.str, Kd.str, Kd.int IntKind.i64, Kd.int IntKind.i64, Kd.any] [[AV.str (spDotted host), AV.str (spDotted to_), AV.int IntKind.i64 (IntKind.wrap IntKind.i64 port), AV.int IntKind.i64 (IntKind.wrap IntKind.i64 toPort), AV.slq 2 (List.length mrows)]]), (9, Blk.cells true [Kd.str, Kd.str] (sub hrows 0 (List.length hrows))), (10, Blk.cells true [Kd.str, Kd.any, Kd.any] [[AV.str start, AV.sl (Loc.mk 9 0 0) (List.length (sub hrows 0 (List.length hrows))) Cap.open_, AV.nilSl]])] 13) (Ex.exit 2) (SL.mk [(12, AV.ptr (Loc.mk 4 0 0)), (13, AV.ptr (Loc.mk 7 0 0)), (14, AV.ptr (Loc.mk 8 0 0)), (15, AV.ptr (Loc.mk 10 0 0)), (64, AV.sl (Loc.mk 9 0 0) (List.length (sub hrows 0 (List.length hrows))) Cap.open_), (65, AV.int IntKind.i64 (↑(List.length (sub hrows 0 (List.length hrows))) : Int)), (66, AV.int IntKind.i64 (↑(List.length (sub hrows 0 (List.length hrows))) : Int))] [(2, Blk.cells false [Kd.int IntKind.u16, Kd.int IntKind.u16] mrows), (8, Blk.cells true [Kd.str, Kd.str, Kd.int IntKind.i64, Kd.int IntKind.i64, Kd.any] [[AV.str (spDotted host), AV.str (spDotted to_), AV.int IntKind.i64 (IntKind.wrap IntKind.i64 port), AV.int IntKind.i64 (IntKind.wrap IntKind.i64 toPort), AV.slq 2 (List.length mrows)]]), (9, Blk.cells true [Kd.str, Kd.str] hrows2), (10, Blk.cells true [Kd.str, Kd.any, Kd.any] [[AV.str start, AV.sl (Loc.mk 9 0 0) (List.length (sub hrows 0 (List.length hrows))) Cap.open_, AV.nilSl]])] 13))) ∧ (true = true)) ∧ ((decide (0 + List.length (sub hrows 0 (List.length hrows)) ≤ List.length hrows2) && (true && decide (List.length start ≤ 4294967200 ∧ List.all (sub hrows2 0 (List.length (sub hrows 0 (List.length hrows)))) short = true ∧ 0 ≤ 140737488355328))) = true)) ∧ ((!spRight start (sub hrows2 0 (List.length (sub hrows 0 (List.length hrows)))) 0) = false)) ∧ (true = true)) ∧ (true = true)) ∧ (true = true)) ∧ (true = true)) ∧ (true = true)) ∧ (true = true)) ∧ (true = true)) ∧ (true = true))  := by unfold Path; kernel_rfl
theorem c23zF (start : List UInt8) (hrows : List (List AV)) (brows : List (List AV)) (mrows : List (List AV)) (hrows2 : List (List AV)) (brows2 : List (List AV)) (host : Int) (to_ : Int) (port : Int) (toPort : Int) (m : Nat) {ρ : Nat → BI} {w : World} (hE : HSim ρ (addBlks .e 0 [Blk.cells false [Kd.str, Kd.str] hrows, Blk.cells false [Kd.int IntKind.u8] brows, Blk.cells false [Kd.int IntKind.u16, Kd.int IntKind.u16] mrows]) ([Blk.cells false [Kd.str, Kd.str] hrows, Blk.cells false [Kd.int IntKind.u8] brows, Blk.cells false [Kd.int IntKind.u16, Kd.int IntKind.u16] mrows] : List Blk).length w)
    (h0 : (decide (0 + List.length hrows ≤ List.length hrows) && decide (0 < List.length (sub hrows 0 (List.length hrows)) ∧ List.length (sub hrows 0 (List.length hrows)) ≤ 4398046511104)) = true)
    (h1 : (decide (0 + List.length brows ≤ List.length brows) && decide (List.length (sub brows 0 (List.length brows)) ≤ 140737488355328)) = true)
    (h2 : (decide (0 + List.length hrows ≤ List.length hrows) && (decide (0 + List.length brows ≤ List.length brows) && decide (List.length start ≤ 4294967200 ∧ List.all (sub hrows 0 (List.length hrows)) short = true ∧ List.length (sub brows 0 (List.length brows)) ≤ 140737488355328))) = true)
    (h3 : (!spRight start (sub hrows 0 (List.length hrows)) (List.length (sub brows 0 (List.length brows)))) = false)
    (h4 : RangeOK Tryz.prog (rcode Tryz.prog 23 0) (113) (SL.mk [(51, AV.fn (Fn.func 76) [] [AV.ptr (Loc.mk 11 0 0)]), (14, AV.ptr (Loc.mk 8 0 0)), (15, AV.ptr (Loc.mk 10 0 0))] [(2, Blk.cells false [Kd.int IntKind.u16, Kd.int IntKind.u16] mrows), (8, Blk.cells true [Kd.str, Kd.str, Kd.int IntKind.i64, Kd.int IntKind.i64, Kd.any] [[AV.str (spDotted host), AV.str (spDotted to_), AV.int IntKind.i64 (IntKind.wrap IntKind.i64 port), AV.int IntKind.i64 (IntKind.wrap IntKind.i64 toPort), AV.slq 2 (List.length mrows)]]), (10, Blk.cells true [Kd.str, Kd.any, Kd.any] [[AV.str start, AV.sl (Loc.mk 9 0 0) (List.length (sub hrows 0 (List.length hrows))) Cap.open_, AV.nilSl]]), (11, Blk.cells true [Kd.any] [[AV.slq 1 (List.length brows)]]), (1, Blk.cells false [Kd.int IntKind.u8] brows)] 12) (SL.mk [] [(2, Blk.cells false [Kd.int IntKind.u16, Kd.int IntKind.u16] mrows), (8, Blk.cells true [Kd.str, Kd.str, Kd.int IntKind.i64, Kd.int IntKind.i64, Kd.any] [[AV.str (spDotted host), AV.str (spDotted to_), AV.int IntKind.i64 (IntKind.wrap IntKind.i64 port), AV.int IntKind.i64 (IntKind.wrap IntKind.i64 toPort), AV.slq 2 (List.length mrows)]]), (10, Blk.cells true [Kd.str, Kd.any, Kd.any] [[AV.str start, AV.sl (Loc.mk 9 0 0) (List.length (sub hrows 0 (List.length hrows))) Cap.open_, AV.nilSl]]), (12, Blk.mark)] 13))
    (h5 : LoopOK Tryz.prog (lbody Tryz.prog 23 0) (113) (SL.mk [(12, AV.ptr (Loc.mk 4 0 0)), (13, AV.ptr (Loc.mk 7 0 0)), (14, AV.ptr (Loc.mk 8 0 0)), (15, AV.ptr (Loc.mk 10 0 0)), (64, AV.sl (Loc.mk 9 0 0) (List.length (sub hrows 0 (List.length hrows))) Cap.open_), (65, AV.int IntKind.i64 (↑(List.length (sub hrows 0 (List.length hrows))) : Int)), (66, AV.int IntKind.i64 (0 : Int))] [(2, Blk.cells false [Kd.int IntKind.u16, Kd.int IntKind.u16] mrows), (8, Blk.cells true [Kd.str, Kd.str, Kd.int IntKind.i64, Kd.int IntKind.i64, Kd.any] [[AV.str (spDotted host), AV.str (spDotted to_), AV.int IntKind.i64 (IntKind.wrap IntKind.i64 port), AV.int IntKind.i64 (IntKind.wrap IntKind.i64 toPort), AV.slq 2 (List.length mrows)]]), (9, Blk.cells true [Kd.str, Kd.str] (sub hrows 0 (List.length hrows))), (10, Blk.cells true [Kd.str, Kd.any, Kd.any] [[AV.str start, AV.sl (Loc.mk 9 0 0) (List.length (sub hrows 0 (List.length hrows))) Cap.open_, AV.nilSl]])] 13) (Ex.exit 2) (SL.mk [(12, AV.ptr (Loc.mk 4 0 0)), (13, AV.ptr (Loc.mk 7 0 0)), (14, AV.ptr (Loc.mk 8 0 0)), (15, AV.ptr (Loc.mk 10 0 0)), (64, AV.sl (Loc.mk 9 0 0) (List.length (sub hrows 0 (List.length hrows))) Cap.open_), (65, AV.int IntKind.i64 (↑(List.length (sub hrows 0 (List.length hrows))) : Int)), (66, AV.int IntKind.i64 (↑(List.length (sub hrows 0 (List.length hrows))) : Int))] [(2, Blk.cells false [Kd.int IntKind.u16, Kd.int IntKind.u16] mrows), (8, Blk.cells true [Kd.str, Kd.str, Kd.int IntKind.i64, Kd.int IntKind.i64, Kd.any] [[AV.str (spDotted host), AV.str (spDotted to_), AV.int IntKind.i64 (IntKind.wrap IntKind.i64 port), AV.int IntKind.i64 (IntKind.wrap IntKind.i64 toPort), AV.slq 2 (List.length mrows)]]), (9, Blk.cells true [Kd.str, Kd.str] hrows2), (10, Blk.cells true [Kd.str, Kd.any, Kd.any] [[AV.str start, AV.sl (Loc.mk 9 0 0) (List.length (sub hrows 0 (List.length hrows))) Cap.open_, AV.nilSl]])] 13))
    (h6 : (decide (0 + List.length (sub hrows 0 (List.length hrows)) ≤ List.length hrows2) && (true && decide (List.length start ≤ 4294967200 ∧ List.all (sub hrows2 0 (List.length (sub hrows 0 (List.length hrows)))) short = true ∧ 0 ≤ 140737488355328))) = true)
    (h7 : (!spRight start (sub hrows2 0 (List.length (sub hrows 0 (List.length hrows)))) 0) = false) :
    Calls Tryz.prog 23 (concL ρ [AV.agg [AV.str start, AV.slq 0 (List.length hrows), AV.slq 1 (List.length brows)], AV.int IntKind.u32 host, AV.int IntKind.u32 to_, AV.int IntKind.u16 port, AV.int IntKind.u16 toPort, AV.slq 2 (List.length mrows)]).toArray w (fun e w' => ∃ ρ', e = .returned (conc ρ' (AV.agg [AV.str start, AV.sl (Loc.mk 3 0 0) (List.length (sub hrows 0 (List.length hrows))) Cap.open_, AV.nilSl])) ∧ HStep ρ (addBlks .e 0 [Blk.cells false [Kd.str, Kd.str] hrows, Blk.cells false [Kd.int IntKind.u8] brows, Blk.cells false [Kd.int IntKind.u16, Kd.int IntKind.u16] mrows]) ([Blk.cells false [Kd.str, Kd.str] hrows, Blk.cells false [Kd.int IntKind.u8] brows, Blk.cells false [Kd.int IntKind.u16, Kd.int IntKind.u16] mrows] : List Blk).length w ρ' (Tr.ofList [(3, .cells true [Kd.str, Kd.str] hrows2)]) 4 w') :=
  calls_ofB P6w_ok (c23zFP start hrows brows mrows hrows2 brows2 host to_ port toPort m) ⟨⟨⟨⟨⟨⟨⟨⟨⟨⟨⟨⟨⟨⟨⟨⟨⟨⟨⟨⟨⟨⟨⟨⟨⟨⟨⟨⟨⟨⟨⟨⟨⟨⟨⟨⟨⟨⟨⟨⟨⟨⟨⟨⟨⟨⟨⟨⟨⟨⟨⟨⟨⟨⟨⟨⟨⟨⟨⟨⟨⟨⟨⟨⟨⟨⟨⟨⟨⟨⟨⟨⟨trivial, rfl⟩, rfl⟩, rfl⟩, h0⟩, h1⟩, rfl⟩, rfl⟩, rfl⟩, rfl⟩, rfl⟩, rfl⟩, h1⟩, rfl⟩, rfl⟩, rfl⟩, rfl⟩, rfl⟩, rfl⟩, h0⟩, h1⟩, rfl⟩, rfl⟩, rfl⟩, rfl⟩, rfl⟩, rfl⟩, rfl⟩, h2⟩, h3⟩, rfl⟩, rfl⟩, rfl⟩, rfl⟩, rfl⟩, rfl⟩, rfl⟩, rfl⟩, rfl⟩, rfl⟩, rfl⟩, rfl⟩, rfl⟩, rfl⟩, h0⟩, rfl⟩, rfl⟩, rfl⟩, rfl⟩, rfl⟩, rfl⟩, h0⟩, rfl⟩, rfl⟩, rfl⟩, rfl⟩, rfl⟩, rfl⟩, rfl⟩, h4⟩, rfl⟩, h5⟩, rfl⟩, h6⟩, h7⟩, rfl⟩, rfl⟩, rfl⟩, rfl⟩, rfl⟩, rfl⟩, rfl⟩, rfl⟩ hE rfl
theorem c23oTP (start : List UInt8) (hrows : List (List AV)) (brows : List (List AV)) (mrows : List (List AV)) (hrows2 : List (List AV)) (brows2 : List (List AV)) (host : Int) (to_ : Int) (port : Int) (toPort : Int) (m : Nat) :
 Path (runCallB Tryz.prog P6w 100 23 [AV.agg [AV.str start, AV.slq 0 (List.length hrows), AV.slq 1 (List.length brows)], AV.int IntKind.u32 host, AV.int IntKind.u32 to_, AV.int IntKind.u16 port, AV.int IntKind.u16 toPort, AV.slq 2 (List.length mrows)] (st0 [Blk.cells false [Kd.str, Kd.str] hrows, Blk.cells false [Kd.int IntKind.u8] brows, Blk.cells false [Kd.int IntKind.u16, Kd.int IntKind.u16] mrows] ([.as_ false, PI.loop (SL.mk [(51, AV.fn (Fn.func (76 : FuncId)) [] [AV.ptr (Loc.mk 11 0 0)]), (14, AV.ptr (Loc.mk 8 0 0)), (15, AV.ptr (Loc.mk 10 0 0))] [(2, Blk.cells false [Kd.int IntKind.u16, Kd.int IntKind.u16] mrows), (8, Blk.cells true [Kd.str, Kd.str, Kd.int IntKind.i64, Kd.int IntKind.i64, Kd.any] [[AV.str (spDotted host), AV.str (spDotted to_), AV.int IntKind.i64 (IntKind.wrap IntKind.i64 port), AV.int IntKind.i64 (IntKind.wrap IntKind.i64 toPort), AV.slq 2 (List.length mrows)]]), (10, Blk.cells true [Kd.str, Kd.any, Kd.any] [[AV.str start, AV.sl (Loc.mk 9 0 0) (List.length (sub hrows 0 (List.length hrows))) Cap.open_, AV.nilSl]]), (11, Blk.cells true [Kd.any] [[AV.slq 1 (List.length brows)]]), (1, Blk.cells false [Kd.int IntKind.u8] brows)] 12) Ex.normal (SL.mk [] [(2, Blk.cells false [Kd.int IntKind.u16, Kd.int IntKind.u16] mrows), (8, Blk.cells true [Kd.str, Kd.str, Kd.int IntKind.i64, Kd.int IntKind.i64, Kd.any] [[AV.str (spDotted host), AV.str (spDotted to_), AV.int IntKind.i64 (IntKind.wrap IntKind.i64 port), AV.int IntKind.i64 (IntKind.wrap IntKind.i64 toPort), AV.slq 2 (List.length mrows)]]), (10, Blk.cells true [Kd.str, Kd.any, Kd.any] [[AV.str start, AV.sl (Loc.mk 9 0 0) (List.length (sub hrows 0 (List.length hrows))) Cap.open_, AV.sl (Loc.mk 13 0 0) m Cap.open_]]), (12, Blk.mark), (13, Blk.cells true [Kd.int IntKind.u8] brows2)] 14), PI.loop (b23oI start (spDotted host) (spDotted to_) (List.length (sub hrows 0 (List.length hrows))) m (List.length mrows) (IntKind.wrap IntKind.i64 port) (IntKind.wrap IntKind.i64 toPort) mrows (sub hrows 0 (List.length hrows)) (0 : Int)) (Ex.exit 2) (b23oI start (spDotted host) (spDotted to_) (List.length (sub hrows 0 (List.length hrows))) m (List.length mrows) (IntKind.wrap IntKind.i64 port) (IntKind.wrap IntKind.i64 toPort) mrows hrows2 (↑(List.length (sub hrows 0 (List.length hrows))) : Int)), .as_ true]))) 3 [5, 6] (SL.mk [] [(3, .cells true [Kd.str, Kd.str] (sub hrows 0 (List.length hrows))), (4, .cells false [Kd.int IntKind.u8] (sub brows 0 (List.length brows)))] 5) (Out.ret (ren (sig 3 [5, 6]) (AV.agg [AV.str start, AV.sl (Loc.mk 3 0 0) (List.length (sub hrows 0 (List.length hrows))) Cap.open_, AV.slq 4 (List.length (sub brows 0 (List.length brows)))])))
 ((((((((((((((((((((((((((((((((((((((((((((((((((((((((((((((((((((((((True ∧ (true = true)) ∧ (true = true)) ∧ (true = true)) ∧ ((decide (0 + List.length hrows ≤ List.length hrows) && decide (0 < List.length (sub hrows 0 (List.length hrows)) ∧ List.length (sub hrows 0 (List.length hrows)) ≤ 4398046511104)) = true)) ∧ ((decide (0 + List.length brows ≤ List.length brows) && decide (List.length (sub brows 0 (List.length brows)) ≤ 140737488355328)) = true)) ∧ (true = true)) ∧ (true = true)) ∧ (true = true)) ∧ (true = true)) ∧ (true = true)) ∧ (true = true)) ∧ ((decide (0 + List.length brows ≤ List.length brows) && decide (List.length (sub brows 0 (List.length brows)) ≤ 140737488355328)) = true)) ∧ (true = true)) ∧ (true = true)) ∧ (true = true)) ∧ (true = true)) ∧ (true = true)) ∧ (true = true)) ∧ ((decide (0 + List.length hrows ≤ List.length hrows) && decide (0 < List.length (sub hrows 0 (List.length hrows)) ∧ List.length (sub hrows 0 (List.length hrows)) ≤ 4398046511104)) = true)) ∧ ((decide (0 + List.length brows ≤ List.length brows) && decide (List.length (sub brows 0 (List.length brows)) ≤ 140737488355328)) = true)) ∧ (true = true)) ∧ (true = true)) ∧ (true = true)) ∧ (true = true)) ∧ (true = true)) ∧ (true = true)) ∧ (true = true)) ∧ ((decide (0 + List.length hrows ≤ List.length hrows) && (decide (0 + List.length brows ≤ List.length brows) && decide (List.length start ≤ 4294967200 ∧ List.all (sub hrows 0 (List.length hrows)) short = true ∧ List.length (sub brows 0 (List.length brows)) ≤ 140737488355328))) = true)) ∧ ((!spRight start (sub hrows 0 (List.length hrows)) (List.length (sub brows 0 (List.length brows)))) = false)) ∧ (true = true)) ∧ (true = true)) ∧ (true = true)) ∧ (true = true)) ∧ (true = true)) ∧ (true = true)) ∧ (true = true)) ∧ (true = true)) ∧ (true = true)) ∧ (true = true)) ∧ (true = true)) ∧ (true = true)) ∧ (true = true)) ∧ (true = true)) ∧ ((decide (0 + List.length hrows ≤ List.length hrows) && decide (0 < List.length (sub hrows 0 (List.length hrows)) ∧ List.length (sub hrows 0 (List.length hrows)) ≤ 4398046511104)) = true)) ∧ (true = true)) ∧ (true = true)) ∧ (true = true)) ∧ (true = true)) ∧ (true = true)) ∧ (true = true)) ∧ ((decide (0 + List.length hrows ≤ List.length hrows) && decide (0 < List.length (sub hrows 0 (List.length hrows)) ∧ List.length (sub hrows 0 (List.length hrows)) ≤ 4398046511104)) = true)) ∧ (true = true)) ∧ (true = true)) ∧ (true = true)) ∧ (true = true)) ∧ (true = true)) ∧ (true = true)) ∧ (true = true)) ∧ (RangeOK Tryz.prog (rcode Tryz.prog 23 0) (113) (SL.mk [(51, AV.fn (Fn.func 76) [] [AV.ptr (Loc.mk 11 0 0)]), (14, AV.ptr (Loc.mk 8 0 0)), (15, AV.ptr (Loc.mk 10 0 0))] [(2, Blk.cells false [Kd.int IntKind.u16, Kd.int IntKind.u16] mrows), (8, Blk.cells true [Kd.str, Kd.str, Kd.int IntKind.i64, Kd.int IntKind.i64, Kd.any] [[AV.str (spDotted host), AV.str (spDotted to_), AV.int IntKind.i64 (IntKind.wrap IntKind.i64 port), AV.int IntKind.i64 (IntKind.wrap IntKind.i64 toPort), AV.slq 2 (List.length mrows)]]), (10, Blk.cells true [Kd.str, Kd.any, Kd.any] [[AV.str start, AV.sl (Loc.mk 9 0 0) (List.length (sub hrows 0 (List.length hrows))) Cap.open_, AV.nilSl]]), (11, Blk.cells true [Kd.any] [[AV.slq 1 (List.length brows)]]), (1, Blk.cells false [Kd.int IntKind.u8] brows)] 12) (SL.mk [] [(2, Blk.cells false [Kd.int IntKind.u16, Kd.int IntKind.u16] mrows), (8, Blk.cells true [Kd.str, Kd.str, Kd.int IntKind.i64, Kd.int IntKind.i64, Kd.any] [[AV.str (spDotted host), AV.str (spDotted to_), AV.int IntKind.i64 (IntKind.wrap IntKind.i64 port), AV.int IntKind.i64 (IntKind.wrap IntKind.i64 toPort), AV.slq 2 (List.length mrows)]]), (10, Blk.cells true [Kd.str, Kd.any, Kd.any] [[AV.str start, AV.sl (Loc.mk 9 0 0) (List.length (sub hrows 0 (List.length hrows))) Cap.open_, AV.sl (Loc.mk 13 0 0) m Cap.open_]]), (12, Blk.mark), (13, Blk.cells true [Kd.int IntKind.u8] brows2)] 14))) ∧ (true = true)) ∧ (LoopOK Tryz.prog (lbody Tryz.prog 23 0) (113) (SL.mk [(12, AV.ptr (Loc.mk 4 0 0)), (13, AV.ptr (Loc.mk 7 0 0)), (14, AV.ptr (Loc.mk 8 0 0)), (15, AV.ptr (Loc.mk 10 0 0)), (64, AV.sl (Loc.mk 9 0 0) (List.length (sub hrows 0 (List.length hrows))) Cap.open_), (65, AV.int IntKind.i64 (↑(List.length (sub hrows 0 (List.length hrows))) : Int)), (66, AV.int IntKind.i64 (0 : Int))] [(2, Blk.cells false [Kd.int IntKind.u16, Kd.int IntKind.u16] mrows), (8, Blk.cells true [Kd.str, Kd.str, Kd.int IntKind.i64, Kd.int IntKind.i64, Kd.any] [[AV.str (spDotted host), AV.str (spDotted to_), AV.int IntKind.i64 (IntKind.wrap IntKind.i64 port), AV.int IntKind.i64 (IntKind.wrap IntKind.i64 toPort), AV.slq 2 (List.length mrows)]]), (9, Blk.cells true [Kd.str, Kd.str] (sub hrows 0 (List.length hrows))), (10, Blk.cells true [Kd.str, Kd.any, Kd.any] [[AV.str start, AV.sl (Loc.mk 9 0 0) (List.length (sub hrows 0 (List.length hrows))) Cap.open_, AV.sl (Loc.mk 13 0 0) m Cap.open_]])] 14) (Ex.exit 2) (SL.mk [(12, AV.ptr (Loc.mk 4 0 0)), (13, AV.ptr (Loc.mk 7 0 0)), (14, AV.ptr (Loc.mk 8 0 0)), (15, AV.ptr (Loc.mk 10 0 0)), (64, AV.sl (Loc.mk 9 0 0) (List.length (sub hrows 0 (List.length hrows))) Cap.open_), (65, AV.int IntKind.i64 (↑(List.length (sub hrows 0 (List.length hrows))) : Int)), (66, AV.int IntKind.i64 (↑(List.length (sub hrows 0 (List.length hrows))) : Int))] [(2, Blk.cells false [Kd.int IntKind.u16, Kd.int IntKind.u16] mrows), (8, Blk.cells true [Kd.str, Kd.str, Kd.int IntKind.i64, Kd.int IntKind.i64, Kd.any] [[AV.str (spDotted host), AV.str (spDotted to_), AV.int IntKind.i64 (IntKind.wrap IntKind.i64 port), AV.int IntKind.i64 (IntKind.wrap IntKind.i64 toPort), AV.slq 2 (List.length mrows)]]), (9, Blk.cells true [Kd.str, Kd.str] hrows2), (10, Blk.cells true [Kd.str, Kd.any, Kd.any] [[AV.str start, AV.sl (Loc.mk 9 0 0) (List.length (sub hrows 0 (List.length hrows))) Cap.open_, AV.sl (Loc.mk 13 0 0) m Cap.open_]])] 14))) ∧ (true = true)) ∧ ((decide (0 + List.length (sub hrows 0 (List.length hrows)) ≤ List.length hrows2) && (decide (0 + m ≤ List.length brows2) && decide (List.length start ≤ 4294967200 ∧ List.all (sub hrows2 0 (List.length (sub hrows 0 (List.length hrows)))) short = true ∧ List.length (sub brows2 0 m) ≤ 140737488355328))) = true)) ∧ ((!spRight start (sub hrows2 0 (List.length (sub hrows 0 (List.length hrows)))) (List.length (sub brows2 0 m))) = true)) ∧ (true = true)) ∧ (true = true)) ∧ (true = true)) ∧ (true = true)) ∧ (true = true)) ∧ (true = true)) ∧ (true = true)) ∧ (true = true))  := by unfold Path; kernel_rfl
theorem c23oT (start : List UInt8) (hrows : List (List AV)) (brows : List (List AV)) (mrows : List (List AV)) (hrows2 : List (List AV)) (brows2 : List (List AV)) (host : Int) (to_ : Int) (port : Int) (toPort : Int) (m : Nat) {ρ : Nat → BI} {w : World} (hE : HSim ρ (addBlks .e 0 [Blk.cells false [Kd.str, Kd.str] hrows, Blk.cells false [Kd.int IntKind.u8] brows, Blk.cells false [Kd.int IntKind.u16, Kd.int IntKind.u16] mrows]) ([Blk.cells false [Kd.str, Kd.str] hrows, Blk.cells false [Kd.int IntKind.u8] brows, Blk.cells false [Kd.int IntKind.u16, Kd.int IntKind.u16] mrows] : List Blk).length w)
    (h0 : (decide (0 + List.length hrows ≤ List.length hrows) && decide (0 < List.length (sub hrows 0 (List.length hrows)) ∧ List.length (sub hrows 0 (List.length hrows)) ≤ 4398046511104)) = true)
    (h1 : (decide (0 + List.length brows ≤ List.length brows) && decide (List.length (sub brows 0 (List.length brows)) ≤ 140737488355328)) = true)
    (h2 : (decide (0 + List.length hrows ≤ List.length hrows) && (decide (0 + List.length brows ≤ List.length brows) && decide (List.length start ≤ 4294967200 ∧ List.all (sub hrows 0 (List.length hrows)) short = true ∧ List.length (sub brows 0 (List.length brows)) ≤ 140737488355328))) = true)
    (h3 : (!spRight start (sub hrows 0 (List.length hrows)) (List.length (sub brows 0 (List.length brows)))) = false)
    (h4 : RangeOK Tryz.prog (rcode Tryz.prog 23 0) (113) (SL.mk [(51, AV.fn (Fn.func 76) [] [AV.ptr (Loc.mk 11 0 0)]), (14, AV.ptr (Loc.mk 8 0 0)), (15, AV.ptr (Loc.mk 10 0 0))] [(2, Blk.cells false [Kd.int IntKind.u16, Kd.int IntKind.u16] mrows), (8, Blk.cells true [Kd.str, Kd.str, Kd.int IntKind.i64, Kd.int IntKind.i64, Kd.any] [[AV.str (spDotted host), AV.str (spDotted to_), AV.int IntKind.i64 (IntKind.wrap IntKind.i64 port), AV.int IntKind.i64 (IntKind.wrap IntKind.i64 toPort), AV.slq 2 (List.length mrows)]]), (10, Blk.cells true [Kd.str, Kd.any, Kd.any] [[AV.str start, AV.sl (Loc.mk 9 0 0) (List.length (sub hrows 0 (List.length hrows))) Cap.open_, AV.nilSl]]), (11, Blk.cells true [Kd.any] [[AV.slq 1 (List.length brows)]]), (1, Blk.cells false [Kd.int IntKind.u8] brows)] 12) (SL.mk [] [(2, Blk.cells false [Kd.int IntKind.u16, Kd.int IntKind.u16] mrows), (8, Blk.cells true [Kd.str, Kd.str, Kd.int IntKind.i64, Kd.int IntKind.i64, Kd.any] [[AV.str (spDotted host), AV.str (spDotted to_), AV.int IntKind.i64 (IntKind.wrap IntKind.i64 port), AV.int IntKind.i64 (IntKind.wrap IntKind.i64 toPort), AV.slq 2 (List.length mrows)]]), (10, Blk.cells true [Kd.str, Kd.any, Kd.any] [[AV.str start, AV.sl (Loc.mk 9 0 0) (List.length (sub hrows 0 (List.length hrows))) Cap.open_, AV.sl (Loc.mk 13 0 0) m Cap.open_]]), (12, Blk.mark), (13, Blk.cells true [Kd.int IntKind.u8] brows2)] 14))
    (h5 : LoopOK Tryz.prog (lbody Tryz.prog 23 0) (113) (SL.mk [(12, AV.ptr (Loc.mk 4 0 0)), (13, AV.ptr (Loc.mk 7 0 0)), (14, AV.ptr (Loc.mk 8 0 0)), (15, AV.ptr (Loc.mk 10 0 0)), (64, AV.sl (Loc.mk 9 0 0) (List.length (sub hrows 0 (List.length hrows))) Cap.open_), (65, AV.int IntKind.i64 (↑(List.length (sub hrows 0 (List.length hrows))) : Int)), (66, AV.int IntKind.i64 (0 : Int))] [(2, Blk.cells false [Kd.int IntKind.u16, Kd.int IntKind.u16] mrows), (8, Blk.cells true [Kd.str, Kd.str, Kd.int IntKind.i64, Kd.int IntKind.i64, Kd.any] [[AV.str (spDotted host), AV.str (spDotted to_), AV.int IntKind.i64 (IntKind.wrap IntKind.i64 port), AV.int IntKind.i64 (IntKind.wrap IntKind.i64 toPort), AV.slq 2 (List.length mrows)]]), (9, Blk.cells true [Kd.str, Kd.str] (sub hrows 0 (List.length hrows))), (10, Blk.cells true [Kd.str, Kd.any, Kd.any] [[AV.str start, AV.sl (Loc.mk 9 0 0) (List.length (sub hrows 0 (List.length hrows))) Cap.open_, AV.sl (Loc.mk 13 0 0) m Cap.open_]])] 14) (Ex.exit 2) (SL.mk [(12, AV.ptr (Loc.mk 4 0 0)), (13, AV.ptr (Loc.mk 7 0 0)), (14, AV.ptr (Loc.mk 8 0 0)), (15, AV.ptr (Loc.mk 10 0 0)), (64, AV.sl (Loc.mk 9 0 0) (List.length (sub hrows 0 (List.length hrows))) Cap.open_), (65, AV.int IntKind.i64 (↑(List.length (sub hrows 0 (List.length hrows))) : Int)), (66, AV.int IntKind.i64 (↑(List.length (sub hrows 0 (List.length hrows))) : Int))] [(2, Blk.cells false [Kd.int IntKind.u16, Kd.int IntKind.u16] mrows), (8, Blk.cells true [Kd.str, Kd.str, Kd.int IntKind.i64, Kd.int IntKind.i64, Kd.any] [[AV.str (spDotted host), AV.str (spDotted to_), AV.int IntKind.i64 (IntKind.wrap IntKind.i64 port), AV.int IntKind.i64 (IntKind.wrap IntKind.i64 toPort), AV.slq 2 (List.length mrows)]]), (9, Blk.cells true [Kd.str, Kd.str] hrows2), (10, Blk.cells true [Kd.str, Kd.any, Kd.any] [[AV.str start, AV.sl (Loc.mk 9 0 0) (List.length (sub hrows 0 (List.length hrows))) Cap.open_, AV.sl (Loc.mk 13 0 0) m Cap.open_]])] 14))
    (h6 : (decide (0 + List.length (sub hrows 0 (List.length hrows)) ≤ List.length hrows2) && (decide (0 + m ≤ List.length brows2) && decide (List.length start ≤ 4294967200 ∧ List.all (sub hrows2 0 (List.length (sub hrows 0 (List.length hrows)))) short = true ∧ List.length (sub brows2 0 m) ≤ 140737488355328))) = true)
    (h7 : (!spRight start (sub hrows2 0 (List.length (sub hrows 0 (List.length hrows)))) (List.length (sub brows2 0 m))) = true) :
    Calls Tryz.prog 23 (concL ρ [AV.agg [AV.str start, AV.slq 0 (List.length hrows), AV.slq 1 (List.length brows)], AV.int IntKind.u32 host, AV.int IntKind.u32 to_, AV.int IntKind.u16 port, AV.int IntKind.u16 toPort, AV.slq 2 (List.length mrows)]).toArray w (fun e w' => ∃ ρ', e = .returned (conc ρ' (AV.agg [AV.str start, AV.sl (Loc.mk 3 0 0) (List.length (sub hrows 0 (List.length hrows))) Cap.open_, AV.slq 4 (List.length (sub brows 0 (List.length brows)))])) ∧ HStep ρ (addBlks .e 0 [Blk.cells false [Kd.str, Kd.str] hrows, Blk.cells false [Kd.int IntKind.u8] brows, Blk.cells false [Kd.int IntKind.u16, Kd.int IntKind.u16] mrows]) ([Blk.cells false [Kd.str, Kd.str] hrows, Blk.cells false [Kd.int IntKind.u8] brows, Blk.cells false [Kd.int IntKind.u16, Kd.int IntKind.u16] mrows] : List Blk).length w ρ' (Tr.ofList [(3, .cells true [Kd.str, Kd.str] (sub hrows 0 (List.length hrows))), (4, .cells false [Kd.int IntKind.u8] (sub brows 0 (List.length brows)))]) 5 w') :=
  calls_ofB P6w_ok (c23oTP start hrows brows mrows hrows2 brows2 host to_ port toPort m) ⟨⟨⟨⟨⟨⟨⟨⟨⟨⟨⟨⟨⟨⟨⟨⟨⟨⟨⟨⟨⟨⟨⟨⟨⟨⟨⟨⟨⟨⟨⟨⟨⟨⟨⟨⟨⟨⟨⟨⟨⟨⟨⟨⟨⟨⟨⟨⟨⟨⟨⟨⟨⟨⟨⟨⟨⟨⟨⟨⟨⟨⟨⟨⟨⟨⟨⟨⟨⟨⟨⟨⟨trivial, rfl⟩, rfl⟩, rfl⟩, h0⟩, h1⟩, rfl⟩, rfl⟩, rfl⟩, rfl⟩, rfl⟩, rfl⟩, h1⟩, rfl⟩, rfl⟩, rfl⟩, rfl⟩, rfl⟩, rfl⟩, h0⟩, h1⟩, rfl⟩, rfl⟩, rfl⟩, rfl⟩, rfl⟩, rfl⟩, rfl⟩, h2⟩, h3⟩, rfl⟩, rfl⟩, rfl⟩, rfl⟩, rfl⟩, rfl⟩, rfl⟩, rfl⟩, rfl⟩, rfl⟩, rfl⟩, rfl⟩, rfl⟩, rfl⟩, h0⟩, rfl⟩, rfl⟩, rfl⟩, rfl⟩, rfl⟩, rfl⟩, h0⟩, rfl⟩, rfl⟩, rfl⟩, rfl⟩, rfl⟩, rfl⟩, rfl⟩, h4⟩, rfl⟩, h5⟩, rfl⟩, h6⟩, h7⟩, rfl⟩, rfl⟩, rfl⟩, rfl⟩, rfl⟩, rfl⟩, rfl⟩, rfl⟩ hE rfl
theorem c23oFP (start : List UInt8) (hrows : List (List AV)) (brows : List (List AV)) (mrows : List (List AV)) (hrows2 : List (List AV)) (brows2 : List (List AV)) (host : Int) (to_ : Int) (port : Int) (toPort : Int) (m : Nat) :
 Path (runCallB Tryz.prog P6w 100 23 [AV.agg [AV.str start, AV.slq 0 (List.length hrows), AV.slq 1 (List.length brows)], AV.int IntKind.u32 host, AV.int IntKind.u32 to_, AV.int IntKind.u16 port, AV.int IntKind.u16 toPort, AV.slq 2 (List.length mrows)] (st0 [Blk.cells false [Kd.str, Kd.str] hrows, Blk.cells false [Kd.int IntKind.u8] brows, Blk.cells false [Kd.int IntKind.u16, Kd.int IntKind.u16] mrows] ([.as_ false, PI.loop (SL.mk [(51, AV.fn (Fn.func (76 : FuncId)) [] [AV.ptr (Loc.mk 11 0 0)]), (14, AV.ptr (Loc.mk 8 0 0)), (15, AV.ptr (Loc.mk 10 0 0))] [(2, Blk.cells false [Kd.int IntKind.u16, Kd.int IntKind.u16] mrows), (8, Blk.cells true [Kd.str, Kd.str, Kd.int IntKind.i64, Kd.int IntKind.i64, Kd.any] [[AV.str (spDotted host), AV.str (spDotted to_), AV.int IntKind.i64 (IntKind.wrap IntKind.i64 port), AV.int IntKind.i64 (IntKind.wrap IntKind.i64 toPort), AV.slq 2 (List.length mrows)]]), (10, Blk.cells true [Kd.str, Kd.any, Kd.any] [[AV.str start, AV.sl (Loc.mk 9 0 0) (List.length (sub hrows 0 (List.length hrows))) Cap.open_, AV.nilSl]]), (11, Blk.cells true [Kd.any] [[AV.slq 1 (List.length brows)]]), (1, Blk.cells false [Kd.int IntKind.u8] brows)] 12) Ex.normal (SL.mk [] [(2, Blk.cells false [Kd.int IntKind.u16, Kd.int IntKind.u16] mrows), (8, Blk.cells true [Kd.str, Kd.str, Kd.int IntKind.i64, Kd.int IntKind.i64, Kd.any] [[AV.str (spDotted host), AV.str (spDotted to_), AV.int IntKind.i64 (IntKind.wrap IntKind.i64 port), AV.int IntKind.i64 (IntKind.wrap IntKind.i64 toPort), AV.slq 2 (List.length mrows)]]), (10, Blk.cells true [Kd.str, Kd.any, Kd.any] [[AV.str start, AV.sl (Loc.mk 9 0 0) (List.length (sub hrows 0 (List.length hrows))) Cap.open_, AV.sl (Loc.mk 13 0 0) m Cap.open_]]), (12, Blk.mark), (13, Blk.cells true [Kd.int IntKind.u8] brows2)] 14), PI.loop (b23oI start (spDotted host) (spDotted to_) (List.length (sub hrows 0 (List.length hrows))) m (List.length mrows) (IntKind.wrap IntKind.i64 port) (IntKind.wrap IntKind.i64 toPort) mrows (sub hrows 0 (List.length hrows)) (0 : Int)) (Ex.exit 2) (b23oI start (spDotted host) (spDotted to_) (List.length (sub hrows 0 (List.length hrows))) m (List.length mrows) (IntKind.wrap IntKind.i64 port) (IntKind.wrap IntKind.i64 toPort) mrows hrows2 (↑(List.length (sub hrows 0 (List.length hrows))) : Int)), .as_ false]))) 3 [9, 13] (SL.mk [] [(3, .cells true [Kd.str, Kd.str] hrows2), (4, .cells true [Kd.int IntKind.u8] brows2)] 5) (Out.ret (ren (sig 3 [9, 13]) (AV.agg [AV.str start, AV.sl (Loc.mk 3 0 0) (List.length (sub hrows 0 (List.length hrows))) Cap.open_, AV.sl (Loc.mk 4 0 0) m Cap.open_])))
 ((((((((((((((((((((((((((((((((((((((((((((((((((((((((((((((((((((((((True ∧ (true = true)) ∧ (true = true)) ∧ (true = true)) ∧ ((decide (0 + List.length hrows ≤ List.length hrows) && decide (0 < List.length (sub hrows 0 (List.length hrows)) ∧ List.length (sub hrows 0 (List.length hrows)) ≤ 4398046511104)) = true)) ∧ ((decide (0 + List.length brows ≤ List.length brows) && decide (List.length (sub brows 0 (List.length brows)) ≤ 140737488355328)) = true)) ∧ (true = true)) ∧ (true = true)) ∧ (true = true)) ∧ (true = true)) ∧ (true = true)) ∧ (true = true)) ∧ ((decide (0 + List.length brows ≤ List.length brows) && decide (List.length (sub brows 0 (List.length brows)) ≤ 140737488355328)) = true)) ∧ (true = true)) ∧ (true = true)) ∧ (true = true)) ∧ (true = true)) ∧ (true = true)) ∧ (true = true)) ∧ ((decide (0 + List.length hrows ≤ List.length hrows) && decide (0 < List.length (sub hrows 0 (List.length hrows)) ∧ List.length (sub hrows 0 (List.length hrows)) ≤ 4398046511104)) = true)) ∧ ((decide (0 + List.length brows ≤ List.length brows) && decide (List.length (sub brows 0 (List.length brows)) ≤ 140737488355328)) = true)) ∧ (true = true)) ∧ (true = true)) ∧ (true = true)) ∧ (true = true)) ∧ (true = true)) ∧ (true = true)) ∧ (true = true)) ∧ ((decide (0 + List.length hrows ≤ List.length hrows) && (decide (0 + List.length brows ≤ List.length brows) && decide (List.length start ≤ 4294967200 ∧ List.all (sub hrows 0 (List.length hrows)) short = true ∧ List.length (sub brows 0 (List.length brows)) ≤ 140737488355328))) = true)) ∧ ((!spRight start (sub hrows 0 (List.length hrows)) (List.length (sub brows 0 (List.length brows)))) = false)) ∧ (true = true)) ∧ (true = true)) ∧ (true = true)) ∧ (true = true)) ∧ (true = true)) ∧ (true = true)) ∧ (true = true)) ∧ (true = true)) ∧ (true = true)) ∧ (true = true)) ∧ (true = true)) ∧ (true = true)) ∧ (true = true)) ∧ (true = true)) ∧ ((decide (0 + List.length hrows ≤ List.length hrows) && decide (0 < List.length (sub hrows 0 (List.length hrows)) ∧ List.length (sub hrows 0 (List.length hrows)) ≤ 4398046511104)) = true)) ∧ (true = true)) ∧ (true = true)) ∧ (true = true)) ∧ (true = true)) ∧ (true = true)) ∧ (true = true)) ∧ ((decide (0 + List.length hrows ≤ List.length hrows) && decide (0 < List.length (sub hrows 0 (List.length hrows)) ∧ List.length (sub hrows 0 (List.length hrows)) ≤ 4398046511104)) = true)) ∧ (true = true)) ∧ (true = true)) ∧ (true = true)) ∧ (true = true)) ∧ (true = true)) ∧ (true = true)) ∧ (true = true)) ∧ (RangeOK Tryz.prog (rcode Tryz.prog 23 0) (113) (SL.mk [(51, AV.fn (Fn.func 76) [] [AV.ptr (Loc.mk 11 0 0)]), (14, AV.ptr (Loc.mk 8 0 0)), (15, AV.ptr (Loc.mk 10 0 0))] [(2, Blk.cells false [Kd.int IntKind.u16, Kd.int IntKind.u16] mrows), (8, Blk.cells true [Kd.str, Kd.str, Kd.int IntKind.i64, Kd.int IntKind.i64, Kd.any] [[AV.str (spDotted host), AV.str (spDotted to_), AV.int IntKind.i64 (IntKind.wrap IntKind.i64 port), AV.int IntKind.i64 (IntKind.wrap IntKind.i64 toPort), AV.slq 2 (List.length mrows)]]), (10, Blk.cells true [Kd.str, Kd.any, Kd.any] [[AV.str start, AV.sl (Loc.mk 9 0 0) (List.length (sub hrows 0 (List.length hrows))) Cap.open_, AV.nilSl]]), (11, Blk.cells true [Kd.any] [[AV.slq 1 (List.length brows)]]), (1, Blk.cells false [Kd.int IntKind.u8] brows)] 12) (SL.mk [] [(2, Blk.cells false [Kd.int IntKind.u16, Kd.int IntKind.u16] mrows), (8, Blk.cells true [Kd.str, Kd.str, Kd.int IntKind.i64, Kd.int IntKind.i64, Kd.any] [[AV.str (spDotted host), AV.str (spDotted to_), AV.int IntKind.i64 (IntKind.wrap IntKind.i64 port), AV.int IntKind.i64 (IntKind.wrap IntKind.i64 toPort), AV.slq 2 (List.length mrows)]]), (10, Blk.cells true [Kd.str, Kd.any, Kd.any] [[AV.str start, AV.sl (Loc.mk 9 0 0) (List.length (sub hrows 0 (List.length hrows))) Cap.open_, AV.sl (Loc.mk 13 0 0) m Cap.open_]]), (12, Blk.mark), (13, Blk.cells true [Kd.int IntKind.u8] brows2)] 14))) ∧ (true = true)) ∧ (LoopOK Tryz.prog (lbody Tryz.prog 23 0) (113) (SL.mk [(12, AV.ptr (Loc.mk 4 0 0)), (13, AV.ptr (Loc.mk 7 0 0)), (14, AV.ptr (Loc.mk 8 0 0)), (15, AV.ptr (Loc.mk 10 0 0)), (64, AV.sl (Loc.mk 9 0 0) (List.length (sub hrows 0 (List.length hrows))) Cap.open_), (65, AV.int IntKind.i64 (↑(List.length (sub hrows 0 (List.length hrows))) : Int)), (66, AV.int IntKind.i64 (0 : Int))] [(2, Blk.cells false [Kd.int IntKind.u16, Kd.int IntKind.u16] mrows), (8, Blk.cells true [Kd.str, Kd.str, Kd.int IntKind.i64, Kd.int IntKind.i64, Kd.any] [[AV.str (spDotted host), AV.str (spDotted to_), AV.int IntKind.i64 (IntKind.wrap IntKind.i64 port), AV.int IntKind.i64 (IntKind.wrap IntKind.i64 toPort), AV.slq 2 (List.length mrows)]]), (9, Blk.cells true [Kd.str, Kd.str] (sub hrows 0 (List.length hrows))), (10, Blk.cells true [Kd.str, Kd.any, Kd.any] [[AV.str start, AV.sl (Loc.mk 9 0 0) (List.length (sub hrows 0 (List.length hrows))) Cap.open_, AV.sl (Loc.mk 13 0 0) m Cap.open_]])] 14) (Ex.exit 2) (SL.mk [(12, AV.ptr (Loc.mk 4 0 0)), (13, AV.ptr (Loc.mk 7 0 0)), (14, AV.ptr (Loc.mk 8 0 0)), (15, AV.ptr (Loc.mk 10 0 0)), (64, AV.sl (Loc.mk 9 0 0) (List.length (sub hrows 0 (List.length hrows))) Cap.open_), (65, AV.int IntKind.i64 (↑(List.length (sub hrows 0 (List.length hrows))) : Int)), (66, AV.int IntKind.i64 (↑(List.length (sub hrows 0 (List.length hrows))) : Int))] [(2, Blk.cells false [Kd.int IntKind.u16, Kd.int IntKind.u16] mrows), (8, Blk.cells true [Kd.str, Kd.str, Kd.int IntKind.i64, Kd.int IntKind.i64, Kd.any] [[AV.str (spDotted host), AV.str (spDotted to_), AV.int IntKind.i64 (IntKind.wrap IntKind.i64 port), AV.int IntKind.i64 (IntKind.wrap IntKind.i64 toPort), AV.slq 2 (List.length mrows)]]), (9, Blk.cells true [Kd.str, Kd.str] hrows2), (10, Blk.cells true [Kd.str, Kd.any, Kd.any] [[AV.str start, AV.sl (Loc.mk 9 0 0) (List.length (sub hrows 0 (List.length hrows))) Cap.open_, AV.sl (Loc.mk 13 0 0) m Cap.open_]])] 14))) ∧ (true = true)) ∧ ((decide (0 + List.length (sub hrows 0 (List.length hrows)) ≤ List.length hrows2) && (decide (0 + m ≤ List.length brows2) && decide (List.length start ≤ 4294967200 ∧ List.all (sub hrows2 0 (List.length (sub hrows 0 (List.length hrows)))) short = true ∧ List.length (sub brows2 0 m) ≤ 140737488355328))) = true)) ∧ ((!spRight start (sub hrows2 0 (List.length (sub hrows 0 (List.length hrows)))) (List.length (sub brows2 0 m))) = false)) ∧ (true = true)) ∧ (true = true)) ∧ (true = true)) ∧ (true = true)) ∧ (true = true)) ∧ (true = true)) ∧ (true = true)) ∧ (true = true))  := by unfold Path; kernel_rfl
theorem c23oF (start : List UInt8) (hrows : List (List AV)) (brows : List (List AV)) (mrows : List (List AV)) (hrows2 : List (List AV)) (brows2 : List (List AV)) (host : Int) (to_ : Int) (port : Int) (toPort : Int) (m : Nat) {ρ : Nat → BI} {w : World} (hE : HSim ρ (addBlks .e 0 [Blk.cells false [Kd.str, Kd.str] hrows, Blk.cells false [Kd.int IntKind.u8] brows, Blk.cells false [Kd.int IntKind.u16, Kd.int IntKind.u16] mrows]) ([Blk.cells false [Kd.str, Kd.str] hrows, Blk.cells false [Kd.int IntKind.u8] brows, Blk.cells false [Kd.int IntKind.u16, Kd.int IntKind.u16] mrows] : List Blk).length w)
    (h0 : (decide (0 + List.length hrows ≤ List.length hrows) && decide (0 < List.length (sub hrows 0 (List.length hrows)) ∧ List.length (sub hrows 0 (List.length hrows)) ≤ 4398046511104)) = true)
    (h1 : (decide (0 + List.length brows ≤ List.length brows) && decide (List.length (sub brows 0 (List.length brows)) ≤ 140737488355328)) = true)
    (h2 : (decide (0 + List.length hrows ≤ List.length hrows) && (decide (0 + List.length brows ≤ List.length brows) && decide (List.length start ≤ 4294967200 ∧ List.all (sub hrows 0 (List.length hrows)) short = true ∧ List.length (sub brows 0 (List.length brows)) ≤ 140737488355328))) = true)
    (h3 : (!spRight start (sub hrows 0 (List.length hrows)) (List.length (sub brows 0 (List.length brows)))) = false)
    (h4 : RangeOK Tryz.prog (rcode Tryz.prog 23 0) (113) (SL.mk [(51, AV.fn (Fn.func 76) [] [AV.ptr (Loc.mk 11 0 0)]), (14, AV.ptr (Loc.mk 8 0 0)), (15, AV.ptr (Loc.mk 10 0 0))] [(2, Blk.cells false [Kd.int IntKind.u16, Kd.int IntKind.u16] mrows), (8, Blk.cells true [Kd.str, Kd.str, Kd.int IntKind.i64, Kd.int IntKind.i64, Kd.any] [[AV.str (spDotted host), AV.str (spDotted to_), AV.int IntKind.i64 (IntKind.wrap IntKind.i64 port), AV.int IntKind.i64 (IntKind.wrap IntKind.i64 toPort), AV.slq 2 (List.length mrows)]]), (10, Blk.cells true [Kd.str, Kd.any, Kd.any] [[AV.str start, AV.sl (Loc.mk 9 0 0) (List.length (sub hrows 0 (List.length hrows))) Cap.open_, AV.nilSl]]), (11, Blk.cells true [Kd.any] [[AV.slq 1 (List.length brows)]]), (1, Blk.cells false [Kd.int IntKind.u8] brows)] 12) (SL.mk [] [(2, Blk.cells false [Kd.int IntKind.u16, Kd.int IntKind.u16] mrows), (8, Blk.cells true [Kd.str, Kd.str, Kd.int IntKind.i64, Kd.int IntKind.i64, Kd.any] [[AV.str (spDotted host), AV.str (spDotted to_), AV.int IntKind.i64 (IntKind.wrap IntKind.i64 port), AV.int IntKind.i64 (IntKind.wrap IntKind.i64 toPort), AV.slq 2 (List.length mrows)]]), (10, Blk.cells true [Kd.str, Kd.any, Kd.any] [[AV.str start, AV.sl (Loc.mk 9 0 0) (List.length (sub hrows 0 (List.length hrows))) Cap.open_, AV.sl (Loc.mk 13 0 0) m Cap.open_]]), (12, Blk.mark), (13, Blk.cells true [Kd.int IntKind.u8] brows2)] 14))
    (h5 : LoopOK Tryz.prog (lbody Tryz.prog 23 0) (113) (SL.mk [(12, AV.ptr (Loc.mk 4 0 0)), (13, AV.ptr (Loc.mk 7 0 0)), (14, AV.ptr (Loc.mk 8 0 0)), (15, AV.ptr (Loc.mk 10 0 0)), (64, AV.sl (Loc.mk 9 0 0) (List.length (sub hrows 0 (List.length hrows))) Cap.open_), (65, AV.int IntKind.i64 (↑(List.length (sub hrows 0 (List.length hrows))) : Int)), (66, AV.int IntKind.i64 (0 : Int))] [(2, Blk.cells false [Kd.int IntKind.u16, Kd.int IntKind.u16] mrows), (8, Blk.cells true [Kd.str, Kd.str, Kd.int IntKind.i64, Kd.int IntKind.i64, Kd.any] [[AV.str (spDotted host), AV.str (spDotted to_), AV.int IntKind.i64 (IntKind.wrap IntKind.i64 port), AV.int IntKind.i64 (IntKind.wrap IntKind.i64 toPort), AV.slq 2 (List.length mrows)]]), (9, Blk.cells true [Kd.str, Kd.str] (sub hrows 0 (List.length hrows))), (10, Blk.cells true [Kd.str, Kd.any, Kd.any] [[AV.str start, AV.sl (Loc.mk 9 0 0) (List.length (sub hrows 0 (List.length hrows))) Cap.open_, AV.sl (Loc.mk 13 0 0) m Cap.open_]])] 14) (Ex.exit 2) (SL.mk [(12, AV.ptr (Loc.mk 4 0 0)), (13, AV.ptr (Loc.mk 7 0 0)), (14, AV.ptr (Loc.mk 8 0 0)), (15, AV.ptr (Loc.mk 10 0 0)), (64, AV.sl (Loc.mk 9 0 0) (List.length (sub hrows 0 (List.length hrows))) Cap.open_), (65, AV.int IntKind.i64 (↑(List.length (sub hrows 0 (List.length hrows))) : Int)), (66, AV.int IntKind.i64 (↑(List.length (sub hrows 0 (List.length hrows))) : Int))] [(2, Blk.cells false [Kd.int IntKind.u16, Kd.int IntKind.u16] mrows), (8, Blk.cells true [Kd.str, Kd.str, Kd.int IntKind.i64, Kd.int IntKind.i64, Kd.any] [[AV.str (spDotted host), AV.str (spDotted to_), AV.int IntKind.i64 (IntKind.wrap IntKind.i64 port), AV.int IntKind.i64 (IntKind.wrap IntKind.i64 toPort), AV.slq 2 (List.length mrows)]]), (9, Blk.cells true [Kd.str, Kd.str] hrows2), (10, Blk.cells true [Kd.str, Kd.any, Kd.any] [[AV.str start, AV.sl (Loc.mk 9 0 0) (List.length (sub hrows 0 (List.length hrows))) Cap.open_, AV.sl (Loc.mk 13 0 0) m Cap.open_]])] 14))
    (h6 : (decide (0 + List.length (sub hrows 0 (List.length hrows)) ≤ List.length hrows2) && (decide (0 + m ≤ List.length brows2) && decide (List.length start ≤ 4294967200 ∧ List.all (sub hrows2 0 (List.length (sub hrows 0 (List.length hrows)))) short = true ∧ List.length (sub brows2 0 m) ≤ 140737488355328))) = true)
    (h7 : (!spRight start (sub hrows2 0 (List.length (sub hrows 0 (List.length hrows)))) (List.length (sub brows2 0 m))) = false) :
    Calls Tryz.prog 23 (concL ρ [AV.agg [AV.str start, AV.slq 0 (List.length hrows), AV.slq 1 (List.length brows)], AV.int IntKind.u32 host, AV.int IntKind.u32 to_, AV.int IntKind.u16 port, AV.int IntKind.u16 toPort, AV.slq 2 (List.length mrows)]).toArray w (fun e w' => ∃ ρ', e = .returned (conc ρ' (AV.agg [AV.str start, AV.sl (Loc.mk 3 0 0) (List.length (sub hrows 0 (List.length hrows))) Cap.open_, AV.sl (Loc.mk 4 0 0) m Cap.open_])) ∧ HStep ρ (addBlks .e 0 [Blk.cells false [Kd.str, Kd.str] hrows, Blk.cells false [Kd.int IntKind.u8] brows, Blk.cells false [Kd.int IntKind.u16, Kd.int IntKind.u16] mrows]) ([Blk.cells false [Kd.str, Kd.str] hrows, Blk.cells false [Kd.int IntKind.u8] brows, Blk.cells false [Kd.int IntKind.u16, Kd.int IntKind.u16] mrows] : List Blk).length w ρ' (Tr.ofList [(3, .cells true [Kd.str, Kd.str] hrows2), (4, .cells true [Kd.int IntKind.u8] brows2)]) 5 w') :=
  calls_ofB P6w_ok (c23oFP start hrows brows mrows hrows2 brows2 host to_ port toPort m) ⟨⟨⟨⟨⟨⟨⟨⟨⟨⟨⟨⟨⟨⟨⟨⟨⟨⟨⟨⟨⟨⟨⟨⟨⟨⟨⟨⟨⟨⟨⟨⟨⟨⟨⟨⟨⟨⟨⟨⟨⟨⟨⟨⟨⟨⟨⟨⟨⟨⟨⟨⟨⟨⟨⟨⟨⟨⟨⟨⟨⟨⟨⟨⟨⟨⟨⟨⟨⟨⟨⟨⟨trivial, rfl⟩, rfl⟩, rfl⟩, h0⟩, h1⟩, rfl⟩, rfl⟩, rfl⟩, rfl⟩, rfl⟩, rfl⟩, h1⟩, rfl⟩, rfl⟩, rfl⟩, rfl⟩, rfl⟩, rfl⟩, h0⟩, h1⟩, rfl⟩, rfl⟩, rfl⟩, rfl⟩, rfl⟩, rfl⟩, rfl⟩, h2⟩, h3⟩, rfl⟩, rfl⟩, rfl⟩, rfl⟩, rfl⟩, rfl⟩, rfl⟩, rfl⟩, rfl⟩, rfl⟩, rfl⟩, rfl⟩, rfl⟩, rfl⟩, h0⟩, rfl⟩, rfl⟩, rfl⟩, rfl⟩, rfl⟩, rfl⟩, h0⟩, rfl⟩, rfl⟩, rfl⟩, rfl⟩, rfl⟩, rfl⟩, rfl⟩, h4⟩, rfl⟩, h5⟩, rfl⟩, h6⟩, h7⟩, rfl⟩, rfl⟩, rfl⟩, rfl⟩, rfl⟩, rfl⟩, rfl⟩, rfl⟩ hE rfl
end Go.Proofs.YtpdgmgkkbbndfaaGreatDoor

set_option maxRecDepth 100000
set_option maxHeartbeats 4000000
namespace Go.Proofs.YtpdgmgkkbbndfaaGreatDoor
open Go Go.Proofs Go.Proofs.YtpdgmgkkbbndfaaGreatDoor.SX
def NewSl (n0 : Nat) (w' : World) (ks : List Kd) (rows : List (List AV)) (v : Value) : Prop :=
  ∃ bi : BI, (n0 ≤ bi.blk ∨ bi.blk < NG) ∧ ∀ (ρ : Nat → BI) (b : Nat), ρ b = bi → conc ρ (.slq b rows.length) = v ∧ (Blk.cells false ks rows).sat ρ w' b
theorem NewSl.of_ro {ρ ρ' : Nat → BI} {hp hp' : Tr Blk} {nx nx' : Nat} {w w' : World} (st : HStep ρ hp nx w ρ' hp' nx' w') {b n : Nat} {ks : List Kd} {rows : List (List AV)} (hb : hp'.get b = some (.cells false ks rows)) (hge : nx ≤ b) (hk : noAny ks = true) (hn : n = rows.length) :
    NewSl w.heap.size w' ks rows (conc ρ' (.slq b n)) := by
  subst hn
  refine ⟨ρ' b, st.own.fresh b _ hge hb rfl, fun ρ'' b'' h => ⟨by simp [conc, h], Blk.sat_at hk h (st.sim.sat _ _ hb)⟩⟩
theorem NewSl.of_rw {ρ ρ' : Nat → BI} {hp hp' : Tr Blk} {nx nx' : Nat} {w w' : World} (st : HStep ρ hp nx w ρ' hp' nx' w') {b n : Nat} {ks : List Kd} {rows : List (List AV)} {c : Cap} (hb : hp'.get b = some (.cells true ks rows))
    (hro : ∀ c k, hp.get c = some k → k.isRw = false) (hk : noAny ks = true) (hn : n = rows.length) : NewSl w.heap.size w' ks rows (conc ρ' (.sl ⟨b, 0, 0⟩ n c)) := by
  have hz := ((st.sim.sat b _ hb).2.choose_spec.choose_spec.choose_spec.2.2 rfl).1
  exact (ReadsN.of_step st hb hro rfl hk hn hz).bi st.sim.gw hk
theorem NewSl.none {ρ' : Nat → BI} {n0 : Nat} {w' : World} {ks : List Kd} (gw : GW w') (hk : noAny ks = true) : NewSl n0 w' ks [] (conc ρ' .nilSl) :=
  (ReadsN.nil (n0 := n0) rfl).bi gw hk
def IsMsg (n0 : Nat) (w' : World) (start : List UInt8) (r1 r2 : List (List AV)) (v : Value) : Prop :=
  ∃ v1 v2, v = .agg #[.string ⟨start.toArray⟩, v1, v2] ∧ NewSl n0 w' [.str, .str] r1 v1 ∧ NewSl n0 w' [.int .u8] r2 v2
theorem entry_msg {P : Program} {f : Nat} {vs : Array Value} {ρ : Nat → BI} {hp : Tr Blk} {nx : Nat} {w : World} {start : List UInt8} {r1 r2 : List (List AV)} (hs : HSim ρ hp nx w)
    (h : Calls P f vs w (fun e w' => (∃ v, e = .returned v ∧ IsMsg w.heap.size w' start r1 r2 v) ∧ Ext w w')) :
    Calls P f vs w (fun e w' => ∃ ρ', e = .returned (conc ρ' (.agg [.str start, .slq nx r1.length, .slq (nx + 1) r2.length])) ∧ (AV.agg [.str start, .slq nx r1.length, .slq (nx + 1) r2.length]).idsB (nx + [Blk.cells false [.str, .str] r1, Blk.cells false [.int .u8] r2].length) = true
      ∧ HStep ρ hp nx w ρ' (addBlks hp nx [Blk.cells false [.str, .str] r1, Blk.cells false [.int .u8] r2]) (nx + [Blk.cells false [.str, .str] r1, Blk.cells false [.int .u8] r2].length) w') := by
  refine h.mono fun e w' hq => ?_
  obtain ⟨⟨v, rfl, v1, v2, rfl, ⟨b1, n1, g1⟩, b2, n2, g2⟩, he⟩ := hq
  have e1 : extB ρ nx [b1, b2] nx = b1 := by have := extB_new ρ nx [b1, b2] 0; simpa using this
  have e2 : extB ρ nx [b1, b2] (nx + 1) = b2 := by have := extB_new ρ nx [b1, b2] 1; simpa using this
  have st := HStep.bis (bs := [Blk.cells false [.str, .str] r1, Blk.cells false [.int .u8] r2]) [b1, b2] hs he (fun i blk hi => by
    match i with
    | 0 => simp at hi; subst hi; exact ⟨rfl, n1, rfl, fun ρ' b hb => (g1 ρ' b hb).2⟩
    | 1 => simp at hi; subst hi; exact ⟨rfl, n2, rfl, fun ρ' b hb => (g2 ρ' b hb).2⟩
    | i + 2 => simp at hi)
  refine ⟨_, ?_, ?_, st⟩
  · have h1 := (g1 _ _ e1).1
    have h2 := (g2 _ _ e2).1
    simp only [conc, concL] at h1 h2 ⊢
    rw [h1, h2]
  · simp [AV.idsB, idsBL, blt_iff]
def ins23 (hrows brows mrows : List (List AV)) : List Blk := [Blk.cells false [Kd.str, Kd.str] hrows, Blk.cells false [Kd.int IntKind.u8] brows, Blk.cells false [Kd.int IntKind.u16, Kd.int IntKind.u16] mrows]
theorem ro23 {hrows brows mrows : List (List AV)} : ∀ c k, (addBlks .e 0 (ins23 hrows brows mrows)).get c = some k → k.isRw = false := by
  intro c k hk
  rw [addBlks_get] at hk
  split at hk
  · have := List.mem_of_getElem? hk
    simp only [ins23, List.mem_cons, List.not_mem_nil, or_false] at this
    rcases this with rfl | rfl | rfl <;> rfl
  · cases c <;> cases hk
theorem rw23 {start : List UInt8} {hrows brows mrows : List (List AV)} {host to_ port toPort : Int} {ρ : Nat → BI} {w : World} (hE : HSim ρ (addBlks .e 0 (ins23 hrows brows mrows)) (ins23 hrows brows mrows).length w)
    (hst : start.length ≤ 4294967200) (hsh : hrows.all short = true) (hhl : hrows.length ≤ 4398046511104) (hbl : brows.length ≤ 140737488355328) (hml : mrows.length ≤ 4611686018427387904) (h2 : ∀ r ∈ hrows, r.length = 2) :
    Calls Tryz.prog 23 (concL ρ [AV.agg [AV.str start, AV.slq 0 (List.length hrows), AV.slq 1 (List.length brows)], AV.int IntKind.u32 host, AV.int IntKind.u32 to_, AV.int IntKind.u16 port, AV.int IntKind.u16 toPort, AV.slq 2 (List.length mrows)]).toArray w
      (fun e w' => (∃ v, e = .returned v ∧ IsMsg w.heap.size w' start (spRwH start host to_ port toPort mrows hrows brows) (spRwB start host to_ port toPort mrows hrows brows) v) ∧ Ext w w') := by
  have eh : sub hrows 0 (List.length hrows) = hrows := sub_all hrows rfl
  have eb : sub brows 0 (List.length brows) = brows := sub_all brows rfl
  cases h1 : spRight start hrows brows.length with
  | false =>
    have e0 : rwOk start host to_ port toPort mrows hrows brows = false := by unfold rwOk; rw [h1]; rfl
    unfold spRwH spRwB
    rw [e0, cond_false, cond_false]
    refine (c23n start hrows brows mrows host to_ port toPort hE (by simp only [eh, Bool.and_eq_true, decide_eq_true_eq]; omega) (by simp only [eb, Bool.and_eq_true, decide_eq_true_eq]; omega)
      (by simp only [eh, eb, Bool.and_eq_true, decide_eq_true_eq]; exact ⟨by omega, by omega, hst, hsh, hbl⟩) (by rw [eh, eb, h1]; rfl)).mono fun e w' hq => ?_
    obtain ⟨ρ', rfl, st⟩ := hq
    rw [eh, eb] at st
    rw [eh, eb]
    refine ⟨⟨_, rfl, _, _, rfl, NewSl.of_ro st (b := 3) (by rw [ofList_cons, if_pos rfl]) (show 3 ≤ 3 from Nat.le_refl 3) rfl rfl, NewSl.of_ro st (b := 4) (by rw [ofList_cons, if_neg (by decide), ofList_cons, if_pos rfl]) (show 3 ≤ 4 from Nat.le_succ 3) rfl rfl⟩, st.below ro23⟩
  | true =>
    have hz := right_sized h1
    obtain ⟨hline, hlen⟩ := rw_lines (host := host) (to_ := to_) (mrows := mrows) hz.bn hml
    obtain ⟨hhdr, hsh2, ht2⟩ := rw_hdrs (host := host) (to_ := to_) (port := port) (toPort := toPort) hz h2 hml
    have hbn := hz.bn
    have hpos := hz.pos
    have hR := range23 (start := start) (n := hrows.length) (p := IntKind.wrap .i64 port) (tp := IntKind.wrap .i64 toPort) hline (by omega)
    have a0 : (decide (0 + List.length hrows ≤ List.length hrows) && decide (0 < List.length (sub hrows 0 (List.length hrows)) ∧ List.length (sub hrows 0 (List.length hrows)) ≤ 4398046511104)) = true := by
      simp only [eh, Bool.and_eq_true, decide_eq_true_eq]; omega
    have a1 : (decide (0 + List.length brows ≤ List.length brows) && decide (List.length (sub brows 0 (List.length brows)) ≤ 140737488355328)) = true := by
      simp only [eb, Bool.and_eq_true, decide_eq_true_eq]; omega
    have a2 : (decide (0 + List.length hrows ≤ List.length hrows) && (decide (0 + List.length brows ≤ List.length brows) && decide (List.length start ≤ 4294967200 ∧ List.all (sub hrows 0 (List.length hrows)) short = true ∧ List.length (sub brows 0 (List.length brows)) ≤ 140737488355328))) = true := by
      simp only [eh, eb, Bool.and_eq_true, decide_eq_true_eq]; exact ⟨by omega, by omega, hst, hsh, hbl⟩
    have a3 : (!spRight start (sub hrows 0 (List.length hrows)) (List.length (sub brows 0 (List.length brows)))) = false := by rw [eh, eb, h1]; rfl
    have hl2 : (rwHdrs host to_ port toPort mrows hrows brows).length = hrows.length := by simp [rwHdrs]
    have es : sub (rwHdrs host to_ port toPort mrows hrows brows) 0 hrows.length = rwHdrs host to_ port toPort mrows hrows brows := sub_all _ hl2.symm
    cases hb : rwBody host to_ mrows brows with
    | nil =>
      have hR : RangeOK Tryz.prog (rcode Tryz.prog 23 0) 113 (I23 start (spDotted host) (spDotted to_) hrows.length (IntKind.wrap .i64 port) (IntKind.wrap .i64 toPort) mrows brows) (S23z start (spDotted host) (spDotted to_) hrows.length (IntKind.wrap .i64 port) (IntKind.wrap .i64 toPort) mrows) := by
        have hb' : outB (spDotted host) (spDotted to_) mrows (spLines (brows.map rowByte)) = [] := hb
        rw [hb'] at hR; exact hR
      have hL := hdrz_loop (start := start) (m := 0) (p := IntKind.wrap .i64 port) hhdr (by omega)
      have eH : hrows.map (spHdr (spDotted host) (spDotted to_) (IntKind.wrap .i64 port) (IntKind.wrap .i64 toPort) 0) = rwHdrs host to_ port toPort mrows hrows brows := by unfold rwHdrs; rw [hb]; rfl
      rw [eH] at hL
      have a6 : (decide (0 + List.length (sub hrows 0 (List.length hrows)) ≤ List.length (rwHdrs host to_ port toPort mrows hrows brows)) && (true && decide (List.length start ≤ 4294967200 ∧ List.all (sub (rwHdrs host to_ port toPort mrows hrows brows) 0 (List.length (sub hrows 0 (List.length hrows)))) short = true ∧ 0 ≤ 140737488355328))) = true := by
        simp only [eh, es, Bool.and_eq_true, decide_eq_true_eq]; exact ⟨by omega, trivial, hst, hsh2, by omega⟩
      cases h3 : spRight start (rwHdrs host to_ port toPort mrows hrows brows) (rwBody host to_ mrows brows).length with
      | false =>
        have e0 : rwOk start host to_ port toPort mrows hrows brows = false := by unfold rwOk; rw [h1, h3]; rfl
        unfold spRwH spRwB
        rw [e0, cond_false, cond_false]
        rw [hb] at h3
        refine (c23zT start hrows brows mrows (rwHdrs host to_ port toPort mrows hrows brows) [] host to_ port toPort 0 hE a0 a1 a2 a3 (by rw [eh]; exact hR) (by rw [eh]; exact hL) a6 (by rw [eh, es]; exact (congrArg not h3))).mono fun e w' hq => ?_
        obtain ⟨ρ', rfl, st⟩ := hq
        rw [eh, eb] at st
        rw [eh, eb]
        exact ⟨⟨_, rfl, _, _, rfl, NewSl.of_rw st (b := 3) (by rw [ofList_cons, if_pos rfl]) ro23 rfl rfl, NewSl.of_ro st (b := 4) (by rw [ofList_cons, if_neg (by decide), ofList_cons, if_pos rfl]) (show 3 ≤ 4 from Nat.le_succ 3) rfl rfl⟩, st.below ro23⟩
      | true =>
        have e0 : rwOk start host to_ port toPort mrows hrows brows = true := by unfold rwOk; rw [h1, h3]; rfl
        unfold spRwH spRwB
        rw [e0, cond_true, cond_true]
        rw [hb] at h3
        refine (c23zF start hrows brows mrows (rwHdrs host to_ port toPort mrows hrows brows) [] host to_ port toPort 0 hE a0 a1 a2 a3 (by rw [eh]; exact hR) (by rw [eh]; exact hL) a6 (by rw [eh, es]; exact (congrArg not h3))).mono fun e w' hq => ?_
        obtain ⟨ρ', rfl, st⟩ := hq
        rw [eh]
        rw [hb]
        exact ⟨⟨_, rfl, _, _, rfl, NewSl.of_rw st (b := 3) (by rw [ofList_cons, if_pos rfl]) ro23 rfl hl2.symm, NewSl.none st.sim.gw rfl⟩, st.below ro23⟩
    | cons x xs =>
      have hR : RangeOK Tryz.prog (rcode Tryz.prog 23 0) 113 (I23 start (spDotted host) (spDotted to_) hrows.length (IntKind.wrap .i64 port) (IntKind.wrap .i64 toPort) mrows brows) (S23o start (spDotted host) (spDotted to_) hrows.length (IntKind.wrap .i64 port) (IntKind.wrap .i64 toPort) mrows (byteRows (rwBody host to_ mrows brows))) := by
        have hb' : outB (spDotted host) (spDotted to_) mrows (spLines (brows.map rowByte)) = x :: xs := hb
        rw [hb'] at hR; rw [hb]; exact hR
      have hm : (byteRows (rwBody host to_ mrows brows)).length = (rwBody host to_ mrows brows).length := byteRows_length _
      have hL := hdro_loop (start := start) (m := (byteRows (rwBody host to_ mrows brows)).length) (p := IntKind.wrap .i64 port) hhdr (by omega)
      have eH : hrows.map (spHdr (spDotted host) (spDotted to_) (IntKind.wrap .i64 port) (IntKind.wrap .i64 toPort) (byteRows (rwBody host to_ mrows brows)).length) = rwHdrs host to_ port toPort mrows hrows brows := by unfold rwHdrs; rw [hm]
      rw [eH] at hL
      have ebb : sub (byteRows (rwBody host to_ mrows brows)) 0 (byteRows (rwBody host to_ mrows brows)).length = byteRows (rwBody host to_ mrows brows) := sub_all _ rfl
      have a6 : (decide (0 + List.length (sub hrows 0 (List.length hrows)) ≤ List.length (rwHdrs host to_ port toPort mrows hrows brows)) && (decide (0 + (byteRows (rwBody host to_ mrows brows)).length ≤ List.length (byteRows (rwBody host to_ mrows brows))) && decide (List.length start ≤ 4294967200 ∧ List.all (sub (rwHdrs host to_ port toPort mrows hrows brows) 0 (List.length (sub hrows 0 (List.length hrows)))) short = true ∧ List.length (sub (byteRows (rwBody host to_ mrows brows)) 0 (byteRows (rwBody host to_ mrows brows)).length) ≤ 140737488355328))) = true := by
        simp only [eh, es, ebb, Bool.and_eq_true, decide_eq_true_eq]; exact ⟨by omega, by omega, hst, hsh2, by omega⟩
      cases h3 : spRight start (rwHdrs host to_ port toPort mrows hrows brows) (rwBody host to_ mrows brows).length with
      | false =>
        have e0 : rwOk start host to_ port toPort mrows hrows brows = false := by unfold rwOk; rw [h1, h3]; rfl
        unfold spRwH spRwB
        rw [e0, cond_false, cond_false]
        rw [← hm] at h3
        refine (c23oT start hrows brows mrows (rwHdrs host to_ port toPort mrows hrows brows) (byteRows (rwBody host to_ mrows brows)) host to_ port toPort (byteRows (rwBody host to_ mrows brows)).length hE a0 a1 a2 a3 (by rw [eh]; exact hR) (by rw [eh]; exact hL) a6 (by rw [eh, es, ebb]; exact (congrArg not h3))).mono fun e w' hq => ?_
        obtain ⟨ρ', rfl, st⟩ := hq
        rw [eh, eb] at st
        rw [eh, eb]
        exact ⟨⟨_, rfl, _, _, rfl, NewSl.of_rw st (b := 3) (by rw [ofList_cons, if_pos rfl]) ro23 rfl rfl, NewSl.of_ro st (b := 4) (by rw [ofList_cons, if_neg (by decide), ofList_cons, if_pos rfl]) (show 3 ≤ 4 from Nat.le_succ 3) rfl rfl⟩, st.below ro23⟩
      | true =>
        have e0 : rwOk start host to_ port toPort mrows hrows brows = true := by unfold rwOk; rw [h1, h3]; rfl
        unfold spRwH spRwB
        rw [e0, cond_true, cond_true]
        rw [← hm] at h3
        refine (c23oF start hrows brows mrows (rwHdrs host to_ port toPort mrows hrows brows) (byteRows (rwBody host to_ mrows brows)) host to_ port toPort (byteRows (rwBody host to_ mrows brows)).length hE a0 a1 a2 a3 (by rw [eh]; exact hR) (by rw [eh]; exact hL) a6 (by rw [eh, es, ebb]; exact (congrArg not h3))).mono fun e w' hq => ?_
        obtain ⟨ρ', rfl, st⟩ := hq
        rw [eh]
        exact ⟨⟨_, rfl, _, _, rfl, NewSl.of_rw st (b := 3) (by rw [ofList_cons, if_pos rfl]) ro23 rfl hl2.symm, NewSl.of_rw st (b := 4) (by rw [ofList_cons, if_neg (by decide), ofList_cons, if_pos rfl]) ro23 rfl rfl⟩, st.below ro23⟩
end Go.Proofs.YtpdgmgkkbbndfaaGreatDoor

set_option maxRecDepth 100000
namespace Go.Proofs.YtpdgmgkkbbndfaaGreatDoor
open Go Go.Proofs Go.Proofs.YtpdgmgkkbbndfaaGreatDoor.SX
def twoB (r : List AV) : Bool := Nat.beq r.length 2
def q23 : Entry := fun args hp nx => match args with
  | [.agg [.str start, hv, bv], .int .u32 host, .int .u32 to_, .int .u16 port, .int .u16 toPort, mv] => match slIn hp [.str, .str] hv, slIn hp [.int .u8] bv, slIn hp [.int .u16, .int .u16] mv with
    | some (c1, hrows), some (c2, brows), some (c3, mrows) =>
      some (c1 && (c2 && (c3 && decide (start.length ≤ 4294967200 ∧ hrows.all short = true ∧ hrows.length ≤ 4398046511104 ∧ brows.length ≤ 140737488355328 ∧ mrows.length ≤ 4611686018427387904 ∧ hrows.all twoB = true))),
        .agg [.str start, .slq nx (spRwH start host to_ port toPort mrows hrows brows).length, .slq (nx + 1) (spRwB start host to_ port toPort mrows hrows brows).length],
        [.cells false [.str, .str] (spRwH start host to_ port toPort mrows hrows brows), .cells false [.int .u8] (spRwB start host to_ port toPort mrows hrows brows)])
    | _, _, _ => none
  | _ => none
theorem three_in {w : World} {r1 r2 r3 : List (List AV)} {v1 v2 v3 : Value} (gw : GW w) (h1 : Reads w [.str, .str] r1 v1) (h2 : Reads w [.int .u8] r2 v2) (h3 : Reads w [.int .u16, .int .u16] r3 v3) :
    ∃ ρ0 : Nat → BI, HSim ρ0 (addBlks .e 0 (ins23 r1 r2 r3)) (ins23 r1 r2 r3).length w ∧ conc ρ0 (.slq 0 r1.length) = v1 ∧ conc ρ0 (.slq 1 r2.length) = v2 ∧ conc ρ0 (.slq 2 r3.length) = v3 := by
  obtain ⟨b1, hb1⟩ := h1.bi gw rfl
  obtain ⟨b2, hb2⟩ := h2.bi gw rfl
  obtain ⟨b3, hb3⟩ := h3.bi gw rfl
  refine ⟨fun i => if i = 0 then b1 else if i = 1 then b2 else b3, HSim.ins gw (fun i blk hi => ?_), (hb1 _ 0 rfl).1, (hb2 _ 1 rfl).1, (hb3 _ 2 rfl).1⟩
  match i with
  | 0 => simp [ins23] at hi; subst hi; exact ⟨(hb1 _ 0 rfl).2, rfl, rfl⟩
  | 1 => simp [ins23] at hi; subst hi; exact ⟨(hb2 _ 1 rfl).2, rfl, rfl⟩
  | 2 => simp [ins23] at hi; subst hi; exact ⟨(hb3 _ 2 rfl).2, rfl, rfl⟩
  | i + 3 => simp [ins23] at hi
theorem q23_ok : EntryOK Tryz.prog 23 q23 := by
  intro args hp nx c v bs h hc ρ w hs hi
  unfold q23 at h
  split at h
  · rename_i start hv bv host to_ port toPort mv
    split at h
    · rename_i c1 hrows c2 brows c3 mrows hs1 hs2 hs3
      cases h
      simp only [Bool.and_eq_true] at hc
      obtain ⟨hc1, hc2, hc3, hc4⟩ := hc
      obtain ⟨g1, g2, g3, g4, g5, g6⟩ := of_decide_eq_true hc4
      obtain ⟨ρ0, hE, e1, e2, e3⟩ := three_in hs.gw (slIn_spec hs hs1 hc1 rfl) (slIn_spec hs hs2 hc2 rfl) (slIn_spec hs hs3 hc3 rfl)
      have hcall := rw23 (host := host) (to_ := to_) (port := port) (toPort := toPort) hE g1 g2 g3 g4 g5 (fun r hr => Nat.eq_of_beq_eq_true (List.all_eq_true.1 g6 r hr))
      have ea : concL ρ0 [AV.agg [AV.str start, AV.slq 0 (List.length hrows), AV.slq 1 (List.length brows)], AV.int IntKind.u32 host, AV.int IntKind.u32 to_, AV.int IntKind.u16 port, AV.int IntKind.u16 toPort, AV.slq 2 (List.length mrows)]
          = concL ρ [AV.agg [.str start, hv, bv], .int .u32 host, .int .u32 to_, .int .u16 port, .int .u16 toPort, mv] := by
        show [Value.agg (concL ρ0 [AV.str start, .slq 0 hrows.length, .slq 1 brows.length]).toArray, conc ρ0 (.int .u32 host), conc ρ0 (.int .u32 to_), conc ρ0 (.int .u16 port), conc ρ0 (.int .u16 toPort), conc ρ0 (.slq 2 mrows.length)] = _
        simp only [concL]
        rw [e1, e2, e3]
        rfl
      rw [ea] at hcall
      exact entry_msg hs hcall
    · cases h
  · cases h
def P7 : Prims := addP P6 23 q23
theorem P7_ok : PrimsOK Tryz.prog P7 := addP_ok P6_ok q23_ok
end Go.Proofs.YtpdgmgkkbbndfaaGreatDoor

set_option maxRecDepth 100000
namespace Go.Proofs.YtpdgmgkkbbndfaaGreatDoor
open Go Go.Proofs Go.Proofs.YtpdgmgkkbbndfaaGreatDoor.SX
theorem c22_T (m : Int) :
 Path (runCallB Tryz.prog (addP Pr 22 (qDig m)) 100 22 [AV.int IntKind.i64 m] (st0 [] ([.as_ true]))) 0 [] ⟨[], [], 0⟩ (Out.ret (AV.str [rowByte [AV.int IntKind.u8 (IntKind.wrap IntKind.u8 (IntKind.wrap IntKind.i64 ((48 : Int) + m)))]]))
 ((True ∧ (decide (m < (10 : Int)) = true)) ∧ (true = true)) := by unfold Path; kernel_rfl
theorem c22_F (m : Int) :
 Path (runCallB Tryz.prog (addP Pr 22 (qDig m)) 100 22 [AV.int IntKind.i64 m] (st0 [] ([.as_ false]))) 0 [] ⟨[], [], 0⟩ (Out.ret (AV.str (spDigits (Int.toNat (IntKind.wrap IntKind.i64 (Int.tdiv m (10 : Int)))) ++ [rowByte [AV.int IntKind.u8 (IntKind.wrap IntKind.u8 (IntKind.wrap IntKind.i64 ((48 : Int) + Int.tmod m (10 : Int))))]])))
 (((((((((True ∧ (decide (m < (10 : Int)) = false)) ∧ (true = true)) ∧ (true = true)) ∧ (decide ((0 : Int) ≤ IntKind.wrap IntKind.i64 (Int.tdiv m (10 : Int)) ∧ IntKind.wrap IntKind.i64 (Int.tdiv m (10 : Int)) < m) = true)) ∧ (true = true)) ∧ (decide (List.length (spDigits (Int.toNat (IntKind.wrap IntKind.i64 (Int.tdiv m (10 : Int))))) + 1 ≤ 9223372036854775807) = true)) ∧ (true = true)) ∧ (decide ((0 : Int) ≤ IntKind.wrap IntKind.i64 (Int.tdiv m (10 : Int)) ∧ IntKind.wrap IntKind.i64 (Int.tdiv m (10 : Int)) < m) = true)) ∧ (decide (List.length (spDigits (Int.toNat (IntKind.wrap IntKind.i64 (Int.tdiv m (10 : Int))))) + 1 ≤ 9223372036854775807) = true)) := by unfold Path; kernel_rfl
theorem qDig22 : ∀ N : Nat, N ≤ 9223372036854775808 → EntryOK Tryz.prog 22 (qDig N) := by
  intro N
  induction N using Nat.strongRecOn with
  | ind N ih =>
    intro hN args hp nx c v bs h hc ρ w hs hi
    unfold qDig at h
    split at h
    · rename_i m
      cases h
      obtain ⟨h0, h1⟩ := of_decide_eq_true hc
      refine entry_pure hs rfl ?_
      have hE : HSim ρ (addBlks .e 0 []) ([] : List Blk).length w := HSim.ins hs.gw (fun i blk hi => by simp at hi)
      have hm : ((m.toNat : Nat) : Int) = m := by omega
      have hP : PrimsOK Tryz.prog (addP Pr 22 (qDig m)) := by
        have := ih m.toNat (by omega) (by omega)
        rw [hm] at this
        exact addP_ok Pr_ok this
      by_cases hlt : m < 10
      · rw [spDigits_lt (by omega), ← dig_row h0 hlt]
        exact calls_pureB hP (c22_T m) ⟨⟨trivial, by simpa using hlt⟩, rfl⟩ hE rfl rfl rfl
      · have hq : Int.tdiv m 10 = ((m.toNat / 10 : Nat) : Int) := by
          rw [Int.tdiv_eq_ediv_of_nonneg h0]; omega
        have hr : Int.tmod m 10 = ((m.toNat % 10 : Nat) : Int) := by
          rw [Int.tmod_eq_emod_of_nonneg h0]; omega
        have hw : IntKind.wrap IntKind.i64 (Int.tdiv m 10) = ((m.toNat / 10 : Nat) : Int) := by rw [hq]; exact IntWalk.i64_in _ (by omega)
        have e : spDigits m.toNat = spDigits (Int.toNat (IntKind.wrap IntKind.i64 (Int.tdiv m 10))) ++ [rowByte [AV.int IntKind.u8 (IntKind.wrap IntKind.u8 (IntKind.wrap IntKind.i64 (48 + Int.tmod m 10)))]] := by
          rw [spDigits_ge (by omega), hw, hr, dig_row (by omega) (by omega)]; rfl
        rw [e]
        have hl := spDigits_len (m.toNat / 10)
        have hl2 : (spDigits (Int.toNat (IntKind.wrap IntKind.i64 (Int.tdiv m 10)))).length + 1 ≤ 9223372036854775807 := by
          rw [hw]; show (spDigits (m.toNat / 10)).length + 1 ≤ _; omega
        have hc1 : (0 : Int) ≤ IntKind.wrap IntKind.i64 (Int.tdiv m 10) ∧ IntKind.wrap IntKind.i64 (Int.tdiv m 10) < m := by rw [hw]; omega
        exact calls_pureB hP (c22_F m) (by simp only [decide_eq_true_eq, decide_eq_false_iff_not, eq_self, and_true, true_and]; exact ⟨⟨⟨⟨hlt, hc1⟩, hl2⟩, hc1⟩, hl2⟩) hE rfl rfl rfl
    · cases h
theorem digits_itoa (n : Nat) : spDigits n = spItoa (n : Int) := by
  have h : ∀ n : Nat, spDigits n = Lib.decDigits n := by
    intro n
    induction n using Nat.strongRecOn with
    | ind n ih =>
      rw [Lib.decDigits]
      by_cases h : n < 10
      · rw [spDigits_lt h, dif_pos h]
      · rw [spDigits_ge h, dif_neg h, ih (n / 10) (by omega)]
  unfold spItoa Lib.itoa
  rw [if_neg (by omega), h]
  rfl
def q22 : Entry := fun args hp nx => match args with
  | [.int .i64 m] => some (decide (0 ≤ m ∧ m < 9223372036854775808), .str (spItoa m), [])
  | _ => none
theorem q22_ok : EntryOK Tryz.prog 22 q22 := by
  intro args hp nx c v bs h hc ρ w hs hi
  unfold q22 at h
  split at h
  · rename_i m
    cases h
    obtain ⟨h0, h1⟩ := of_decide_eq_true hc
    have := qDig22 9223372036854775808 (Nat.le_refl _) [.int .i64 m] hp nx true (.str (spDigits m.toNat)) [] (by show some _ = some _; rw [decide_eq_true (show (0:Int) ≤ m ∧ m < ((9223372036854775808 : Nat) : Int) from ⟨h0, h1⟩)]) rfl ρ w hs hi
    rw [digits_itoa, show ((m.toNat : Nat) : Int) = m by omega] at this
    exact this
  · cases h
def P8 : Prims := addP P7 22 q22
theorem P8_ok : PrimsOK Tryz.prog P8 := addP_ok P7_ok q22_ok
end Go.Proofs.YtpdgmgkkbbndfaaGreatDoor

set_option maxRecDepth 100000
namespace Go.Proofs.YtpdgmgkkbbndfaaGreatDoor
open Go Go.Proofs Go.Proofs.YtpdgmgkkbbndfaaGreatDoor.SX
theorem c21_ (a : Int) :
 Path (runCallB Tryz.prog P8 100 21 [AV.int IntKind.u32 a] (st0 [] ([]))) 0 [] (SL.mk [] [] 0) (Out.ret (AV.str (spItoa (IntKind.wrap IntKind.i64 (Int.fdiv a (16777216 : Int))) ++ [(46 : UInt8)] ++ spItoa (IntKind.wrap IntKind.i64 (bitsI BinOp.and IntKind.u32 (Int.fdiv a (65536 : Int)) (255 : Int))) ++ [(46 : UInt8)] ++ spItoa (IntKind.wrap IntKind.i64 (bitsI BinOp.and IntKind.u32 (Int.fdiv a (256 : Int)) (255 : Int))) ++ [(46 : UInt8)] ++ spItoa (IntKind.wrap IntKind.i64 (bitsI BinOp.and IntKind.u32 a (255 : Int))))))
 (((((((((((((True ∧ (true = true)) ∧ (decide ((0 : Int) ≤ IntKind.wrap IntKind.i64 (Int.fdiv a (16777216 : Int)) ∧ IntKind.wrap IntKind.i64 (Int.fdiv a (16777216 : Int)) < (9223372036854775808 : Int)) = true)) ∧ (decide (List.length (spItoa (IntKind.wrap IntKind.i64 (Int.fdiv a (16777216 : Int)))) + 1 ≤ 9223372036854775807) = true)) ∧ (true = true)) ∧ (decide ((0 : Int) ≤ IntKind.wrap IntKind.i64 (bitsI BinOp.and IntKind.u32 (Int.fdiv a (65536 : Int)) (255 : Int)) ∧ IntKind.wrap IntKind.i64 (bitsI BinOp.and IntKind.u32 (Int.fdiv a (65536 : Int)) (255 : Int)) < (9223372036854775808 : Int)) = true)) ∧ (decide (List.length (spItoa (IntKind.wrap IntKind.i64 (Int.fdiv a (16777216 : Int))) ++ [(46 : UInt8)]) + List.length (spItoa (IntKind.wrap IntKind.i64 (bitsI BinOp.and IntKind.u32 (Int.fdiv a (65536 : Int)) (255 : Int)))) ≤ 9223372036854775807) = true)) ∧ (decide (List.length (spItoa (IntKind.wrap IntKind.i64 (Int.fdiv a (16777216 : Int))) ++ [(46 : UInt8)] ++ spItoa (IntKind.wrap IntKind.i64 (bitsI BinOp.and IntKind.u32 (Int.fdiv a (65536 : Int)) (255 : Int)))) + 1 ≤ 9223372036854775807) = true)) ∧ (true = true)) ∧ (decide ((0 : Int) ≤ IntKind.wrap IntKind.i64 (bitsI BinOp.and IntKind.u32 (Int.fdiv a (256 : Int)) (255 : Int)) ∧ IntKind.wrap IntKind.i64 (bitsI BinOp.and IntKind.u32 (Int.fdiv a (256 : Int)) (255 : Int)) < (9223372036854775808 : Int)) = true)) ∧ (decide (List.length (spItoa (IntKind.wrap IntKind.i64 (Int.fdiv a (16777216 : Int))) ++ [(46 : UInt8)] ++ spItoa (IntKind.wrap IntKind.i64 (bitsI BinOp.and IntKind.u32 (Int.fdiv a (65536 : Int)) (255 : Int))) ++ [(46 : UInt8)]) + List.length (spItoa (IntKind.wrap IntKind.i64 (bitsI BinOp.and IntKind.u32 (Int.fdiv a (256 : Int)) (255 : Int)))) ≤ 9223372036854775807) = true)) ∧ (decide (List.length (spItoa (IntKind.wrap IntKind.i64 (Int.fdiv a (16777216 : Int))) ++ [(46 : UInt8)] ++ spItoa (IntKind.wrap IntKind.i64 (bitsI BinOp.and IntKind.u32 (Int.fdiv a (65536 : Int)) (255 : Int))) ++ [(46 : UInt8)] ++ spItoa (IntKind.wrap IntKind.i64 (bitsI BinOp.and IntKind.u32 (Int.fdiv a (256 : Int)) (255 : Int)))) + 1 ≤ 9223372036854775807) = true)) ∧ (decide ((0 : Int) ≤ IntKind.wrap IntKind.i64 (bitsI BinOp.and IntKind.u32 a (255 : Int)) ∧ IntKind.wrap IntKind.i64 (bitsI BinOp.and IntKind.u32 a (255 : Int)) < (9223372036854775808 : Int)) = true)) ∧ (decide (List.length (spItoa (IntKind.wrap IntKind.i64 (Int.fdiv a (16777216 : Int))) ++ [(46 : UInt8)] ++ spItoa (IntKind.wrap IntKind.i64 (bitsI BinOp.and IntKind.u32 (Int.fdiv a (65536 : Int)) (255 : Int))) ++ [(46 : UInt8)] ++ spItoa (IntKind.wrap IntKind.i64 (bitsI BinOp.and IntKind.u32 (Int.fdiv a (256 : Int)) (255 : Int))) ++ [(46 : UInt8)]) + List.length (spItoa (IntKind.wrap IntKind.i64 (bitsI BinOp.and IntKind.u32 a (255 : Int)))) ≤ 9223372036854775807) = true)) := by unfold Path; kernel_rfl
theorem and255 {x : Int} (h0 : 0 ≤ x) (h1 : x < 4294967296) : bitsI .and .u32 x 255 = x % 256 := by
  obtain ⟨n, rfl⟩ := Int.eq_ofNat_of_zero_le h0
  unfold bitsI
  show IntKind.wrap .u32 (((BitVec.ofInt 32 (n : Int)) &&& BitVec.ofInt 32 255).toNat : Int) = _
  rw [BitVec.toNat_and]
  have e1 : (BitVec.ofInt 32 (n : Int)).toNat = n := by
    rw [BitVec.toNat_ofInt]; omega
  have e2 : (BitVec.ofInt 32 255).toNat = 2 ^ 8 - 1 := by decide
  rw [e1, e2, Nat.and_two_pow_sub_one_eq_mod, IntKind.wrap_u32]
  omega
theorem oct_top {a : Int} (h0 : 0 ≤ a) (h1 : a < 4294967296) : IntKind.wrap IntKind.i64 (Int.fdiv a 16777216) = octet a 16777216 := by
  unfold octet
  rw [Int.fdiv_eq_ediv_of_nonneg _ (by decide), IntKind.wrap_u8, IntKind.wrap_i64, IntKind.wrap_i64]
  omega
theorem oct_mid {a d : Int} (h0 : 0 ≤ a) (h1 : a < 4294967296) (hd : d = 65536 ∨ d = 256 ∨ d = 1) : IntKind.wrap IntKind.i64 (bitsI BinOp.and IntKind.u32 (Int.fdiv a d) 255) = octet a d := by
  unfold octet
  have e : Int.fdiv a d = a / d := Int.fdiv_eq_ediv_of_nonneg _ (by omega)
  rw [e]
  have hx : 0 ≤ a / d ∧ a / d < 4294967296 := by rcases hd with rfl | rfl | rfl <;> omega
  rw [and255 hx.1 hx.2, IntKind.wrap_u8]
def q21 : Entry := fun args hp nx => match args with
  | [.int .u32 a] => some (decide (0 ≤ a ∧ a < 4294967296), .str (spDotted a), [])
  | _ => none
theorem q21_ok : EntryOK Tryz.prog 21 q21 := by
  intro args hp nx c v bs h hc ρ w hs hi
  unfold q21 at h
  split at h
  · rename_i a
    cases h
    obtain ⟨h0, h1⟩ := of_decide_eq_true hc
    refine entry_pure hs rfl ?_
    have hE : HSim ρ (addBlks .e 0 []) ([] : List Blk).length w := HSim.ins hs.gw (fun i blk hi => by simp at hi)
    have hp := c21_ a
    have e1 := oct_top h0 h1
    have e2 := oct_mid h0 h1 (d := 65536) (.inl rfl)
    have e3 := oct_mid h0 h1 (d := 256) (.inr (.inl rfl))
    have e4 := oct_mid h0 h1 (d := 1) (.inr (.inr rfl))
    rw [show Int.fdiv a 1 = a by rw [Int.fdiv_eq_ediv_of_nonneg _ (by decide)]; omega] at e4
    rw [e1, e2, e3, e4] at hp
    have g1 := octet_range a 16777216; have g2 := octet_range a 65536; have g3 := octet_range a 256; have g4 := octet_range a 1
    have l1 := len_itoa _ (show -9223372036854775808 ≤ octet a 16777216 ∧ octet a 16777216 ≤ 9223372036854775807 by omega)
    have l2 := len_itoa _ (show -9223372036854775808 ≤ octet a 65536 ∧ octet a 65536 ≤ 9223372036854775807 by omega)
    have l3 := len_itoa _ (show -9223372036854775808 ≤ octet a 256 ∧ octet a 256 ≤ 9223372036854775807 by omega)
    have l4 := len_itoa _ (show -9223372036854775808 ≤ octet a 1 ∧ octet a 1 ≤ 9223372036854775807 by omega)
    have e5 : spDotted a = spItoa (octet a 16777216) ++ [46] ++ spItoa (octet a 65536) ++ [46] ++ spItoa (octet a 256) ++ [46] ++ spItoa (octet a 1) := by unfold spDotted; rw [join4]
    rw [e5]
    refine calls_pureB P8_ok hp ?_ hE rfl rfl rfl
    simp only [decide_eq_true_eq, List.length_append, List.length_cons, List.length_nil, eq_self, true_and, and_true]
    omega
  · cases h
def P9 : Prims := addP P8 21 q21
theorem P9_ok : PrimsOK Tryz.prog P9 := addP_ok P8_ok q21_ok
end Go.Proofs.YtpdgmgkkbbndfaaGreatDoor

set_option maxRecDepth 100000
namespace Go.Proofs.YtpdgmgkkbbndfaaGreatDoor
open Go Go.Proofs Go.Proofs.YtpdgmgkkbbndfaaGreatDoor.SX
theorem parse_snoc : ∀ (l : List UInt8) (acc u : Nat) (d : Nat), Lib.parseUint10 acc l = .ok u → u < 1000000000000000000 → d < 10 → Lib.parseUint10 acc (l ++ [UInt8.ofNat (48 + d)]) = .ok (u * 10 + d)
  | [], acc, u, d, h, hu, hd => by
    simp only [Lib.parseUint10] at h
    cases h
    have e : (UInt8.ofNat (48 + d)).toNat = 48 + d := by rw [UInt8.toNat_ofNat']; omega
    simp only [List.nil_append, Lib.parseUint10, e]
    rw [if_pos (by omega), if_neg (by omega), if_neg (by omega)]
    congr 1
    omega
  | c :: r, acc, u, d, h, hu, hd => by
    simp only [Lib.parseUint10, List.cons_append] at h ⊢
    split at h
    · rename_i h1
      rw [if_pos h1]
      split at h
      · cases h
      · rename_i h2
        rw [if_neg h2]
        split at h
        · cases h
        · rename_i h3
          rw [if_neg h3]
          exact parse_snoc r _ u d h hu hd
    · cases h
theorem parse_dec (n : Nat) (h : n < 1000000000000000000) : Lib.parseUint10 0 (Lib.decDigits n) = .ok n := by
  induction n using Nat.strongRecOn with
  | ind n ih =>
    rw [Lib.decDigits]
    by_cases h0 : n < 10
    · rw [dif_pos h0]
      have := parse_snoc [] 0 0 n rfl (by omega) h0
      simpa using this
    · rw [dif_neg h0]
      have := parse_snoc _ 0 _ (n % 10) (ih (n / 10) (by omega) (by omega)) (by omega) (by omega)
      rw [this]
      congr 1
      omega
def isDig (c : UInt8) : Bool := decide (48 ≤ c.toNat ∧ c.toNat ≤ 57)
theorem dec_dig (n : Nat) : (Lib.decDigits n).all isDig = true ∧ Lib.decDigits n ≠ [] := by
  induction n using Nat.strongRecOn with
  | ind n ih =>
    rw [Lib.decDigits]
    have e : ∀ d, d < 10 → isDig (UInt8.ofNat (48 + d)) = true := fun d hd => by
      have : (UInt8.ofNat (48 + d)).toNat = 48 + d := by rw [UInt8.toNat_ofNat']; omega
      unfold isDig; rw [this]; exact decide_eq_true (by omega)
    by_cases h0 : n < 10
    · rw [dif_pos h0]
      exact ⟨by rw [List.all_cons, e n h0]; rfl, by simp⟩
    · rw [dif_neg h0, List.all_append]
      have := (ih (n / 10) (by omega)).1
      exact ⟨by rw [this, List.all_cons, e (n % 10) (by omega)]; rfl, by simp⟩
theorem itoa_nat (n : Nat) : spItoa (n : Int) = Lib.decDigits n := Lib.itoa_nonneg n
theorem atoi_itoa (n : Nat) (h : n < 1000000000000000000) : Lib.atoiAll (spItoa (n : Int)) = .ok (n : Int) := by
  have hp := parse_dec n h
  obtain ⟨hd, hn⟩ := dec_dig n
  rw [itoa_nat]
  cases hl : Lib.decDigits n with
  | nil => exact absurd hl hn
  | cons c r =>
    rw [hl] at hp hd
    simp only [List.all_cons, Bool.and_eq_true] at hd
    have hc := of_decide_eq_true hd.1
    unfold Lib.atoiAll
    simp only
    rw [if_neg (by omega)]
    unfold Lib.parseMag
    rw [if_neg (by simp), hp]
    simp only
    rw [if_neg (by omega), if_neg (by omega), if_neg (by omega)]
theorem numeral_itoa (n : Nat) (h0 : 1 ≤ n) (h1 : n ≤ 65535) : spNumeral (spItoa (n : Int)) = (n : Int) := by
  have h := atoi_itoa n (by omega)
  have e1 : spAtoiOk (spItoa (n : Int)) = true := by unfold spAtoiOk; rw [h]; rfl
  have e2 : spAtoi (spItoa (n : Int)) = n := by unfold spAtoi; rw [h]; rfl
  unfold spNumeral
  rw [e1, cond_true]
  have e3 : c96_cls (spItoa (n : Int)) = 1 := by
    unfold c96_cls c96k1 c96k2 c96k4
    rw [e2, decide_eq_false (by omega), decide_eq_false (by omega)]
    simp
  rw [e3, e2]
  rfl
theorem numeral_inv {s : List UInt8} (h : spNumeral s ≠ 0) : s = spItoa (spNumeral s) ∧ 1 ≤ spNumeral s ∧ spNumeral s ≤ 65535 := by
  unfold spNumeral at h ⊢
  cases h1 : spAtoiOk s with
  | false => rw [h1, cond_false] at h; exact absurd rfl h
  | true =>
    rw [h1, cond_true] at h
    rw [cond_true]
    unfold c96_cls c96k1 c96k2 c96k4 at h ⊢
    by_cases h2 : spAtoi s < 1
    · simp [h2] at h
    · by_cases h3 : spAtoi s > 65535
      · simp [h2, h3] at h
      · cases h4 : (!spItoa (spAtoi s) == s) with
        | true => simp [h2, h3, h4] at h
        | false =>
          simp only [decide_eq_false h2, decide_eq_false h3, cond_false, show Nat.beq 1 0 = false from rfl]
          have h5 : spItoa (spAtoi s) = s := by simpa using h4
          exact ⟨h5.symm, by omega, by omega⟩
theorem cut_char {x : UInt8} {a r : List UInt8} (h : ∀ c ∈ a, c ≠ x) : spBefore (a ++ x :: r) [x] = a ∧ spAfter (a ++ x :: r) [x] = r ∧ spFound (a ++ x :: r) [x] = true := by
  have hi : ∀ a : List UInt8, (∀ c ∈ a, c ≠ x) → Lib.index (a ++ x :: r) [x] = (a.length : Int) := by
    intro a
    induction a with
    | nil => intro _; simp [Lib.index]
    | cons c a ih =>
      intro h
      have hc : c ≠ x := h c (List.mem_cons_self ..)
      have := ih fun d hd => h d (List.mem_cons_of_mem _ hd)
      simp only [List.cons_append, Lib.index, this]
      have e : ([x] : List UInt8).isPrefixOf (c :: (a ++ x :: r)) = false := by simp [List.isPrefixOf, Ne.symm hc]
      rw [e]
      simp only [Bool.false_eq_true, if_false, List.length_cons]
      rw [if_neg (by simp)]
      omega
  have := hi a h
  unfold spBefore spAfter spFound Lib.cut
  rw [this, if_pos (by omega)]
  refine ⟨?_, ?_, rfl⟩
  · simp
  · simp [List.drop_append]
end Go.Proofs.YtpdgmgkkbbndfaaGreatDoor

set_option maxRecDepth 100000
namespace Go.Proofs.YtpdgmgkkbbndfaaGreatDoor
open Go Go.Proofs Go.Proofs.YtpdgmgkkbbndfaaGreatDoor.SX
def hp (a p : Int) : List UInt8 := spDotted a ++ [58] ++ spItoa p
def v1 (h : List UInt8) : List UInt8 := mkVia ++ (h ++ [59, 120])
def v2 (h : List UInt8) : List UInt8 := [60, 115, 105, 112, 58, 97] ++ 64 :: (h ++ [62])
end Go.Proofs.YtpdgmgkkbbndfaaGreatDoor

namespace Go.Proofs
open Go.Shelf
def Tryz.b_laysM251_ren : Go.Shelf.Ren := ⟨fun | 251 => 84 | n => n, fun | 130 => 134 | 3 => 3 | 4 => 4 | 0 => 0 | 93 => 95 | 37 => 23 | 91 => 93 | 5 => 5 | n => n, fun | n => n⟩
theorem Tryz.b_laysM251 : Go.Proofs.LaysM.n251 Tryz.prog Tryz.b_laysM251_ren := {
  mixed := by kernel_rfl
  f251 := Tryz.func84.trans (congrArg some (by kernel_rfl))
  t0 := Tryz.underlying0
  a0 := Tryz.isAgg0
  z0 := Tryz.sizeOf0
  v0 := Tryz.zeroValue0
  t3 := Tryz.underlying3
  a3 := Tryz.isAgg3
  z3 := Tryz.sizeOf3
  v3 := Tryz.zeroValue3
  t4 := Tryz.underlying4
  a4 := Tryz.isAgg4
  z4 := Tryz.sizeOf4
  v4 := Tryz.zeroValue4
  t37 := Tryz.underlying23
  a37 := Tryz.isAgg23
  z37 := Tryz.sizeOf23
  v37 := Tryz.zeroValue23
  t93 := Tryz.underlying95
  a93 := Tryz.isAgg95
  z93 := Tryz.sizeOf95
  v93 := Tryz.zeroValue95
  t130 := Tryz.underlying134
  a130 := Tryz.isAgg134
  z130 := Tryz.sizeOf134
  v130 := Tryz.zeroValue134
  t5 := Tryz.underlying5
  a5 := Tryz.isAgg5
  z5 := Tryz.sizeOf5
  v5 := Tryz.zeroValue5
  t91 := Tryz.underlying93
  a91 := Tryz.isAgg93
  z91 := Tryz.sizeOf93
  v91 := Tryz.zeroValue93
  i0 := by kernel_rfl
  i3 := by kernel_rfl
  i4 := by kernel_rfl
  i5 := by kernel_rfl
  i37 := by kernel_rfl
  i91 := by kernel_rfl
  i93 := by kernel_rfl
  i130 := by kernel_rfl }
def Tryz.b_laysM183_ren : Go.Shelf.Ren := ⟨fun | 183 => 55 | n => n, fun | 130 => 134 | 37 => 23 | 0 => 0 | 93 => 95 | 3 => 3 | 5 => 5 | 91 => 93 | n => n, fun | n => n⟩
theorem Tryz.b_laysM183 : Go.Proofs.LaysM.n183 Tryz.prog Tryz.b_laysM183_ren := {
  mixed := by kernel_rfl
  f183 := Tryz.func55.trans (congrArg some (by kernel_rfl))
  t0 := Tryz.underlying0
  a0 := Tryz.isAgg0
  z0 := Tryz.sizeOf0
  v0 := Tryz.zeroValue0
  t3 := Tryz.underlying3
  a3 := Tryz.isAgg3
  z3 := Tryz.sizeOf3
  v3 := Tryz.zeroValue3
  t37 := Tryz.underlying23
  a37 := Tryz.isAgg23
  z37 := Tryz.sizeOf23
  v37 := Tryz.zeroValue23
  t93 := Tryz.underlying95
  a93 := Tryz.isAgg95
  z93 := Tryz.sizeOf95
  v93 := Tryz.zeroValue95
  t130 := Tryz.underlying134
  a130 := Tryz.isAgg134
  z130 := Tryz.sizeOf134
  v130 := Tryz.zeroValue134
  t5 := Tryz.underlying5
  a5 := Tryz.isAgg5
  z5 := Tryz.sizeOf5
  v5 := Tryz.zeroValue5
  t91 := Tryz.underlying93
  a91 := Tryz.isAgg93
  z91 := Tryz.sizeOf93
  v91 := Tryz.zeroValue93
  i0 := by kernel_rfl
  i3 := by kernel_rfl
  i5 := by kernel_rfl
  i37 := by kernel_rfl
  i91 := by kernel_rfl
  i93 := by kernel_rfl
  i130 := by kernel_rfl }
open Go.RowKit in
theorem Tryz.Buffer_Bytes (B b : Nat) (bs : List Value) (w : World) (h : Lib.IsBuffer 95 5 B b bs w) :
    Calls Tryz.prog 55 #[.pointer (some ⟨b, 0, none⟩)] w fun e w' => ∃ v, e = .returned v ∧ w'.ownsRow B 5 1 v bs.length bs ∧ ∃ n, w' = w.drewN n := Any.Buffer_Bytes Tryz.b_laysM183 B b bs w h
open Go.RowKit in
theorem Tryz.Buffer_tryGrow_kept (B b n : Nat) (bs : List Value) (w : World) (h : Lib.IsBuffer 95 5 B b bs w) :
    Calls Tryz.prog 84 #[.pointer (some ⟨b, 0, none⟩), .int .i64 n] w fun e w' =>
      (e = .returned (.tuple #[.int .i64 bs.length, .bool true]) ∧ ∃ xs, xs.length = n ∧ Lib.IsBuffer 95 5 B b (bs ++ xs) w' ∧ Below B w w' ∧ Lib.OthersKept 5 (some b) w w') ∨
      (e = .returned (.tuple #[.int .i64 0, .bool false]) ∧ w' = w ∧ Lib.NoRoom b n w) := Any.Buffer_tryGrow_kept Tryz.b_laysM251 B b n bs w h
def Tryz.b_laysM178_ren : Go.Shelf.Ren := ⟨fun | 178 => 53 | 251 => 84 | 252 => 85 | 181 => 109 | 184 => 110 | 290 => 111 | 324 => 131 | n => n, fun | 130 => 134 | 9 => 9 | 3 => 3 | 75 => 97 | 0 => 0 | 93 => 95 | 91 => 93 | 131 => 135 | 4 => 4 | 37 => 23 | 20 => 20 | 80 => 156 | 5 => 5 | n => n, fun | 14 => 0 | n => n⟩
theorem Tryz.b_laysM178 : Go.Proofs.LaysM.n178 Tryz.prog Tryz.b_laysM178_ren := {
  mixed := by kernel_rfl
  f178 := Tryz.func53.trans (congrArg some (by kernel_rfl))
  f181 := Tryz.func109.trans (congrArg some (by kernel_rfl))
  f184 := Tryz.func110.trans (congrArg some (by kernel_rfl))
  f251 := Tryz.func84.trans (congrArg some (by kernel_rfl))
  f252 := Tryz.func85.trans (congrArg some (by kernel_rfl))
  f290 := Tryz.func111.trans (congrArg some (by kernel_rfl))
  f324 := Tryz.func131.trans (congrArg some (by kernel_rfl))
  t0 := Tryz.underlying0
  a0 := Tryz.isAgg0
  z0 := Tryz.sizeOf0
  v0 := Tryz.zeroValue0
  t3 := Tryz.underlying3
  a3 := Tryz.isAgg3
  z3 := Tryz.sizeOf3
  v3 := Tryz.zeroValue3
  t4 := Tryz.underlying4
  a4 := Tryz.isAgg4
  z4 := Tryz.sizeOf4
  v4 := Tryz.zeroValue4
  t9 := Tryz.underlying9
  a9 := Tryz.isAgg9
  z9 := Tryz.sizeOf9
  v9 := Tryz.zeroValue9
  t20 := Tryz.underlying20
  a20 := Tryz.isAgg20
  z20 := Tryz.sizeOf20
  v20 := Tryz.zeroValue20
  t37 := Tryz.underlying23
  a37 := Tryz.isAgg23
  z37 := Tryz.sizeOf23
  v37 := Tryz.zeroValue23
  t75 := Tryz.underlying97
  a75 := Tryz.isAgg97
  z75 := Tryz.sizeOf97
  v75 := Tryz.zeroValue97
  t91 := Tryz.underlying93
  a91 := Tryz.isAgg93
  z91 := Tryz.sizeOf93
  v91 := Tryz.zeroValue93
  t93 := Tryz.underlying95
  a93 := Tryz.isAgg95
  z93 := Tryz.sizeOf95
  v93 := Tryz.zeroValue95
  t130 := Tryz.underlying134
  a130 := Tryz.isAgg134
  z130 := Tryz.sizeOf134
  v130 := Tryz.zeroValue134
  t131 := Tryz.underlying135
  a131 := Tryz.isAgg135
  z131 := Tryz.sizeOf135
  v131 := Tryz.zeroValue135
  g14 := by kernel_rfl
  t5 := Tryz.underlying5
  a5 := Tryz.isAgg5
  z5 := Tryz.sizeOf5
  v5 := Tryz.zeroValue5
  t80 := Tryz.underlying156
  a80 := Tryz.isAgg156
  z80 := Tryz.sizeOf156
  v80 := Tryz.zeroValue156
  i0 := by kernel_rfl
  i3 := by kernel_rfl
  i4 := by kernel_rfl
  i5 := by kernel_rfl
  i9 := by kernel_rfl
  i20 := by kernel_rfl
  i37 := by kernel_rfl
  i75 := by kernel_rfl
  i80 := by kernel_rfl
  i91 := by kernel_rfl
  i93 := by kernel_rfl
  i130 := by kernel_rfl
  i131 := by kernel_rfl
  m14 := by kernel_rfl }
open Go.RowKit in
theorem Tryz.Buffer_WriteString_kept (B b : Nat) (bs : List Value) (s : ByteArray) (w : World) (h : Lib.IsBuffer 95 5 B b bs w) (hBw : B ≤ w.heap.size) (h1 : ∀ v ∈ bs, v.oneCell' = true) (hlim : bs.length + s.size ≤ 140737488355328) :
    Calls Tryz.prog 53 #[.pointer (some ⟨b, 0, none⟩), .string s] w fun e w' => e = .returned (.tuple #[.int .i64 s.size, .nilIface]) ∧ Lib.IsBuffer 95 5 B b (bs ++ Lib.byteCells s.data.toList) w' ∧ Below B w w' ∧ Lib.OthersKept 5 (some b) w w' := Any.Buffer_WriteString_kept Tryz.b_laysM178 B b bs s w h hBw h1 hlim
def Tryz.b_laysM180_ren : Go.Shelf.Ren := ⟨fun | 180 => 54 | 251 => 84 | 252 => 85 | 181 => 109 | 184 => 110 | 290 => 111 | 324 => 131 | n => n, fun | 130 => 134 | 37 => 23 | 3 => 3 | 75 => 97 | 0 => 0 | 93 => 95 | 91 => 93 | 131 => 135 | 4 => 4 | 20 => 20 | 5 => 5 | 80 => 156 | 9 => 9 | n => n, fun | 14 => 0 | n => n⟩
theorem Tryz.b_laysM180 : Go.Proofs.LaysM.n180 Tryz.prog Tryz.b_laysM180_ren := {
  mixed := by kernel_rfl
  f180 := Tryz.func54.trans (congrArg some (by kernel_rfl))
  f181 := Tryz.func109.trans (congrArg some (by kernel_rfl))
  f184 := Tryz.func110.trans (congrArg some (by kernel_rfl))
  f251 := Tryz.func84.trans (congrArg some (by kernel_rfl))
  f252 := Tryz.func85.trans (congrArg some (by kernel_rfl))
  f290 := Tryz.func111.trans (congrArg some (by kernel_rfl))
  f324 := Tryz.func131.trans (congrArg some (by kernel_rfl))
  t0 := Tryz.underlying0
  a0 := Tryz.isAgg0
  z0 := Tryz.sizeOf0
  v0 := Tryz.zeroValue0
  t3 := Tryz.underlying3
  a3 := Tryz.isAgg3
  z3 := Tryz.sizeOf3
  v3 := Tryz.zeroValue3
  t4 := Tryz.underlying4
  a4 := Tryz.isAgg4
  z4 := Tryz.sizeOf4
  v4 := Tryz.zeroValue4
  t20 := Tryz.underlying20
  a20 := Tryz.isAgg20
  z20 := Tryz.sizeOf20
  v20 := Tryz.zeroValue20
  t37 := Tryz.underlying23
  a37 := Tryz.isAgg23
  z37 := Tryz.sizeOf23
  v37 := Tryz.zeroValue23
  t75 := Tryz.underlying97
  a75 := Tryz.isAgg97
  z75 := Tryz.sizeOf97
  v75 := Tryz.zeroValue97
  t91 := Tryz.underlying93
  a91 := Tryz.isAgg93
  z91 := Tryz.sizeOf93
  v91 := Tryz.zeroValue93
  t93 := Tryz.underlying95
  a93 := Tryz.isAgg95
  z93 := Tryz.sizeOf95
  v93 := Tryz.zeroValue95
  t130 := Tryz.underlying134
  a130 := Tryz.isAgg134
  z130 := Tryz.sizeOf134
  v130 := Tryz.zeroValue134
  t131 := Tryz.underlying135
  a131 := Tryz.isAgg135
  z131 := Tryz.sizeOf135
  v131 := Tryz.zeroValue135
  g14 := by kernel_rfl
  t5 := Tryz.underlying5
  a5 := Tryz.isAgg5
  z5 := Tryz.sizeOf5
  v5 := Tryz.zeroValue5
  t9 := Tryz.underlying9
  a9 := Tryz.isAgg9
  z9 := Tryz.sizeOf9
  v9 := Tryz.zeroValue9
  t80 := Tryz.underlying156
  a80 := Tryz.isAgg156
  z80 := Tryz.sizeOf156
  v80 := Tryz.zeroValue156
  i0 := by kernel_rfl
  i3 := by kernel_rfl
  i4 := by kernel_rfl
  i5 := by kernel_rfl
  i9 := by kernel_rfl
  i20 := by kernel_rfl
  i37 := by kernel_rfl
  i75 := by kernel_rfl
  i80 := by kernel_rfl
  i91 := by kernel_rfl
  i93 := by kernel_rfl
  i130 := by kernel_rfl
  i131 := by kernel_rfl
  m14 := by kernel_rfl }
open Go.RowKit in
theorem Tryz.Buffer_Write_any (B b : Nat) (bs cs : List Value) (a : Addr) (n c : Nat) (w : World) (h : Lib.IsBuffer 95 5 B b bs w) (hBw : B ≤ w.heap.size) (h1 : ∀ v ∈ bs, v.oneCell' = true) (hn : cs.length = n) (hab : a.block ≠ b) (hsrc : ∀ j v, cs[j]? = some v → w.cell? (a.add j) = some v) (h1c : ∀ v ∈ cs, v.oneCell' = true) (hlim : bs.length + n ≤ 140737488355328) :
    Calls Tryz.prog 54 #[.pointer (some ⟨b, 0, none⟩), .slice (some a) n c] w fun e w' => e = .returned (.tuple #[.int .i64 n, .nilIface]) ∧ Lib.IsBuffer 95 5 B b (bs ++ cs) w' ∧ Below B w w' ∧ Lib.OthersKept 5 (some b) w w' := Any.Buffer_Write_any Tryz.b_laysM180 B b bs cs a n c w h hBw h1 hn hab hsrc h1c hlim
end Go.Proofs

set_option maxRecDepth 100000
set_option maxHeartbeats 6400000
namespace Go.Proofs.YtpdgmgkkbbndfaaGreatDoor
open Go Go.Proofs Go.RowKit Go.Shelf
theorem buf_write_nil (B b : Nat) (bs : List Value) (w : World) (h : Lib.IsBuffer 95 5 B b bs w) :
    Calls Tryz.prog 54 #[.pointer (some ⟨b, 0, none⟩), .slice none 0 0] w fun e w' => e = .returned (.tuple #[.int .i64 0, .nilIface]) ∧ Lib.IsBuffer 95 5 B b bs w' ∧ Below B w w' := by
  obtain ⟨hB, v0, lr, hbk, -, -⟩ := id h
  have c2 : w.cell? ⟨b, 2, none⟩ = some (.int .i8 lr) := by rw [Lib.cell_of_heap hbk]; rfl
  have f2 : w.frozen? ⟨b, 2, none⟩ = false := Lib.frozen_of_heap hbk 2
  have h' := h.setLast 0
  have hbel0 : Below B w (w.setCell ⟨b, 2, none⟩ (.int .i8 0)) := (Below.refl B w).setCell (p := ⟨b, 2, none⟩) hB _
  clear hbk v0
  have hinfo : (Tryz.prog.info? 5).map (·.size) = some 1 := by kernel_rfl
  have hce : ∀ d dLen dCap W, (Builtin.copy_ #[23, 23] 3 #[.slice d dLen dCap, .slice none 0 0]).run Tryz.prog W = .ok (goInt 0) W := fun d dLen dCap W => run_copy_none W 23 23 3 5 d none dLen dCap 0 0 Tryz.underlying23 hinfo (by simp)
  have hT : ∀ W, Lib.IsBuffer 95 5 B b bs W → Calls Tryz.prog 84 #[.pointer (some ⟨b, 0, none⟩), .int .i64 0] W _ := fun W hW => Tryz.Buffer_tryGrow_kept B b 0 bs W hW
  go_enter Tryz.func54, Tryz.ntmps54
  go_wp2_with (go_at_call 84; refine (hT _ ?_).mono ?_)
  · exact h'
  rintro e W1 (⟨rfl, xs, hxl, hI, hbel, hk⟩ | ⟨rfl, rfl, hnr⟩)
  · clear h' c2 f2 hT
    have hx0 : xs = [] := List.eq_nil_of_length_eq_zero hxl
    subst hx0
    rw [List.append_nil] at hI
    obtain ⟨-, lr2, hc⟩ := hI.cases
    rcases hc with ⟨hb0, hbk2⟩ | ⟨g, cap, cur, hbk2, -, -, hnc, hcm, -, -, -⟩
    · subst hb0
      have d0 : W1.cell? ⟨b, 0, none⟩ = some (.slice none 0 0) := by rw [Lib.cell_of_heap hbk2]; rfl
      go_wp2
      all_goals (go_ret2; first | exact ⟨rfl, hI, hbel0.trans hbel⟩ | exact ⟨by simp, by simpa using hI, hbel0.trans hbel⟩)
    · have d0 : W1.cell? ⟨b, 0, none⟩ = some (.slice (some ⟨g, 0, none⟩) bs.length cap) := by rw [Lib.cell_of_heap hbk2]; rfl
      unfold maxLen at hcm
      go_wp2
      all_goals (go_ret2; first | exact ⟨rfl, hI, hbel0.trans hbel⟩ | exact ⟨by simp, by simpa using hI, hbel0.trans hbel⟩)
  · obtain ⟨_, _, _, _, hlt⟩ := hnr
    omega
end Go.Proofs.YtpdgmgkkbbndfaaGreatDoor

set_option maxRecDepth 100000
set_option maxHeartbeats 6400000
namespace Go.Proofs.YtpdgmgkkbbndfaaGreatDoor
open Go Go.Proofs Go.Proofs.YtpdgmgkkbbndfaaGreatDoor.SX Go.RowKit
theorem right_reads {w : World} {start : List UInt8} {hrows brows : List (List AV)} {hv bv : Value} (gw : GW w) (h1 : Reads w [.str, .str] hrows hv) (h2 : Reads w [.int .u8] brows bv)
    (hst : start.length ≤ 4294967200) (hsh : hrows.all short = true) (hbn : brows.length ≤ 140737488355328) :
    Calls Tryz.prog 26 #[.agg #[.string ⟨start.toArray⟩, hv, bv]] w (fun e w' => e = .returned (.bool (spRight start hrows brows.length)) ∧ Below w.heap.size w w') := by
  obtain ⟨b1, hb1⟩ := h1.bi gw rfl
  obtain ⟨b2, hb2⟩ := h2.bi gw rfl
  obtain ⟨ρ0, hρ0⟩ : ∃ ρ0 : Nat → BI, (fun i => if i = 0 then b1 else b2) = ρ0 := ⟨_, rfl⟩
  have g1 := hb1 ρ0 0 (by rw [← hρ0]; rfl)
  have g2 := hb2 ρ0 1 (by rw [← hρ0]; rfl)
  have hE : HSim ρ0 (addBlks .e 0 [.cells false [.str, .str] hrows, .cells false [.int .u8] brows]) ([.cells false [.str, .str] hrows, .cells false [.int .u8] brows] : List Blk).length w :=
    HSim.ins gw (fun i blk hi => by
      match i with
      | 0 => simp at hi; subst hi; exact ⟨g1.2, rfl, rfl⟩
      | 1 => simp at hi; subst hi; exact ⟨g2.2, rfl, rfl⟩
      | i + 2 => simp at hi)
  have hcall := right_calls hE hst hsh hbn
  have e1 : concL ρ0 [AV.agg [.str start, .slq 0 hrows.length, .slq 1 brows.length]] = [.agg #[.string ⟨start.toArray⟩, hv, bv]] := by
    show [Value.agg (concL ρ0 [AV.str start, .slq 0 hrows.length, .slq 1 brows.length]).toArray] = _
    simp only [concL]
    rw [g1.1, g2.1]
    rfl
  rw [e1] at hcall
  exact hcall
theorem hdr_cells {w : World} {hrows : List (List AV)} {hv : Value} (h : Reads w [.str, .str] hrows hv) (hp : 0 < hrows.length) :
    ∃ bk off c, hv = .slice (some ⟨bk, off, none⟩) hrows.length c ∧ bk < w.heap.size ∧ ∀ k (h : k < hrows.length), w.cell? ⟨bk, off + k * 2, none⟩ = some (.string ⟨(hN hrows[k]).toArray⟩) ∧ w.cell? ⟨bk, off + k * 2 + 1, none⟩ = some (.string ⟨(hV hrows[k]).toArray⟩) := by
  cases h with
  | nil h => rw [h] at hp; exact absurd hp (by decide)
  | cells bi c h =>
    refine ⟨bi.blk, bi.off, c, rfl, Blk.sat_lt h, fun k hk => ?_⟩
    obtain ⟨hz, cs, t, fr, g1, g2, g3⟩ := h
    have hz : bi.sz = 2 := hz
    have hr : hrows.getD k [] = hrows[k] := by rw [List.getD_eq_getElem?_getD, List.getElem?_eq_getElem hk]; rfl
    have a0 := g2 k 0 .str hk rfl
    have a1 := g2 k 1 .str hk rfl
    simp only [hz] at a0 a1
    constructor
    · simp only [World.cell?]
      rw [g1]
      simp only
      rw [show bi.off + k * 2 = bi.off + (k * 2 + 0) by omega, a0]
      unfold cellAt
      rw [hr]
      rfl
    · simp only [World.cell?]
      rw [g1]
      simp only
      rw [show bi.off + k * 2 + 1 = bi.off + (k * 2 + 1) by omega, a1]
      unfold cellAt
      rw [hr]
      rfl
def hdrLine (r : List AV) : List UInt8 := hN r ++ [58, 32] ++ hV r ++ [13, 10]
def hdrText (rows : List (List AV)) : List UInt8 := (rows.map hdrLine).flatten
theorem hdrText_len (rows : List (List AV)) : (hdrText rows).length = hSize rows := by
  unfold hdrText hSize
  induction rows with
  | nil => rfl
  | cons r l ih =>
    simp only [List.map_cons, List.flatten_cons, List.length_append, List.sum_cons, ih]
    unfold hdrLine hLen
    simp only [List.length_append, List.length_cons, List.length_nil]
    omega
theorem hSize_take (rows : List (List AV)) (k : Nat) : hSize (rows.take k) ≤ hSize rows := by
  have e : hSize rows = hSize (rows.take k) + hSize (rows.drop k) := by
    unfold hSize
    conv => lhs; rw [← List.take_append_drop k rows]
    rw [List.map_append, List.sum_append]
  omega
theorem right_size {start : List UInt8} {rows : List (List AV)} {bn : Nat} (h : spRight start rows bn = true) : start.length + 4 + bn + hSize rows ≤ 4096 := by
  unfold spRight at h
  simp only [Bool.and_eq_true, decide_eq_true_eq] at h
  exact h.2.2.2.2.2
def rowCells (rows : List (List AV)) : List Value := rows.map fun r => Value.int .u8 (AV.toInt (r.getD 0 .undef))
theorem rowCells_bytes (l : List UInt8) : rowCells (byteRows l) = Lib.byteCells l := by
  unfold rowCells byteRows Lib.byteCells
  rw [List.map_map]
  rfl
theorem NewSl.of_owns {w' : World} {b n0 n : Nat} {v : Value} {rows : List (List AV)} (h : w'.ownsRow b 5 1 v n (rowCells rows)) (hn : n = rows.length) (hp : 0 < n) (hb : n0 ≤ b) : NewSl n0 w' [.int .u8] rows v := by
  obtain ⟨hl, (⟨_, h0⟩ | ⟨g, cap, cur, rfl, hg, hheap, hnc, hcm, hcs, htk⟩)⟩ := h
  · omega
  · subst hn
    refine ⟨⟨g, 0, 1, cap, false⟩, .inl (by show n0 ≤ g; omega), fun ρ b' hb' => ⟨by simp [conc, hb'], by rw [hb']; rfl, cur, 5, (0, 0), by rw [hb']; exact hheap, fun i j kd hi hj => ?_, fun h => by cases h⟩⟩
    have hj0 : j = 0 ∧ kd = .int .u8 := by
      match j with
      | 0 => simp at hj; exact ⟨rfl, hj.symm⟩
      | j + 1 => simp at hj
    obtain ⟨rfl, rfl⟩ := hj0
    rw [hb']
    show cur[0 + (i * 1 + 0)]? = _
    rw [show 0 + (i * 1 + 0) = i by omega]
    have h1 : (rowCells rows)[i]? = some (Value.int .u8 (AV.toInt (rows[i].getD 0 .undef))) := by
      unfold rowCells
      rw [List.getElem?_map, List.getElem?_eq_getElem hi]
      rfl
    rw [← htk, List.getElem?_take, if_pos (by omega), Array.getElem?_toList] at h1
    rw [h1]
    unfold cellAt
    have hr : rows.getD i [] = rows[i] := by rw [List.getD_eq_getElem?_getD, List.getElem?_eq_getElem hi]; rfl
    rw [hr]
    rfl
theorem body_cells {w : World} {brows : List (List AV)} {bv : Value} (h : Reads w [.int .u8] brows bv) :
    (bv = .slice none 0 0 ∧ brows = []) ∨ ∃ bk off c, bv = .slice (some ⟨bk, off, none⟩) brows.length c ∧ bk < w.heap.size ∧ ∀ j v, (rowCells brows)[j]? = some v → w.cell? ((⟨bk, off, none⟩ : Addr).add j) = some v := by
  cases h with
  | nil h => exact .inl ⟨rfl, h⟩
  | cells bi c h =>
    refine .inr ⟨bi.blk, bi.off, c, rfl, Blk.sat_lt h, fun j v hj => ?_⟩
    obtain ⟨hz, cs, t, fr, g1, g2, g3⟩ := h
    have hz : bi.sz = 1 := hz
    have hjl : j < brows.length := by
      rcases Nat.lt_or_ge j brows.length with h' | h'
      · exact h'
      · unfold rowCells at hj; rw [List.getElem?_map, List.getElem?_eq_none h'] at hj; cases hj
    have hv : v = Value.int .u8 (AV.toInt (brows[j].getD 0 .undef)) := by
      unfold rowCells at hj
      rw [List.getElem?_map, List.getElem?_eq_getElem hjl] at hj
      exact (Option.some.inj hj).symm
    subst hv
    have a0 := g2 j 0 (.int .u8) hjl rfl
    simp only [hz] at a0
    rw [Lib.addr_add]
    simp only [World.cell?]
    rw [g1]
    simp only
    rw [show bi.off + j = bi.off + (j * 1 + 0) by omega, a0]
    unfold cellAt
    have hr : brows.getD j [] = brows[j] := by rw [List.getD_eq_getElem?_getD, List.getElem?_eq_getElem hjl]; rfl
    rw [hr]
    rfl
theorem build_good {w : World} {start : List UInt8} {hrows brows : List (List AV)} {hv bv : Value} (gw : GW w) (h1 : Reads w [.str, .str] hrows hv) (h2 : Reads w [.int .u8] brows bv)
    (hst : start.length ≤ 4294967200) (hsh : hrows.all short = true) (hbn : brows.length ≤ 140737488355328) (hgood : spRight start hrows brows.length = true) :
    Calls Tryz.prog 24 #[.agg #[.string ⟨start.toArray⟩, hv, bv]] w (fun e w' => (∃ v, e = .returned (.tuple #[v, .int .i64 0]) ∧ NewSl w.heap.size w' [.int .u8] (byteRows (start ++ [13, 10] ++ hdrText hrows ++ [13, 10]) ++ brows) v) ∧ Below w.heap.size w w') := by
  have hs := right_sized hgood
  obtain ⟨bk, off, c, rfl, hbk, hcells⟩ := hdr_cells h1 hs.pos
  have hr := fun (w1 : World) (hx : Below w.heap.size w w1) => right_reads (gw.ext hx) (h1.ext hx) (h2.ext hx) hst hsh hbn
  go_enter Tryz.func24, Tryz.ntmps24
  go_wp2_with (go_at_call 26; refine (hr _ ?_).mono ?_; refine Hid.out ?_)
  · exact (Below.refl _ w).alloc (Nat.le_refl _) _
  refine Lib.hid ?_
  rintro e W1 ⟨rfl, hx1⟩
  rw [hgood]
  have hsz0 : (w.alloc (.cells #[.string ⟨start.toArray⟩, .slice (some ⟨bk, off, none⟩) hrows.length c, bv] 25)).heap.size = w.heap.size + 1 := by simp
  have hbox : W1.heap[w.heap.size]? = some (.cells #[.string ⟨start.toArray⟩, .slice (some ⟨bk, off, none⟩) hrows.length c, bv] 25 (0, 0)) := by
    rw [hx1.block _ (by rw [hsz0]; omega)]
    exact heap_alloc_new w _
  have hw1 : w.heap.size + 1 ≤ W1.heap.size := by have := hx1.size; rw [hsz0] at this; exact this
  have hB1 : Below w.heap.size w W1 := ((Below.refl _ w).alloc (Nat.le_refl _) _).trans (hx1.mono (by rw [hsz0]; omega))
  clear hx1 hsz0
  have hI1 : Lib.IsBuffer 95 5 W1.heap.size W1.heap.size [] (W1.alloc (.cells #[.slice none 0 0, .int .i64 0, .int .i8 0] 95)) := Lib.fresh_isBuffer 95 5 W1
  have hbx2 : (W1.alloc (.cells #[.slice none 0 0, .int .i64 0, .int .i8 0] 95)).heap[w.heap.size]? = some (.cells #[.string ⟨start.toArray⟩, .slice (some ⟨bk, off, none⟩) hrows.length c, bv] 25 (0, 0)) := by
    rw [heap_alloc_old W1 _ (by omega)]; exact hbox
  have c0 : (W1.alloc (.cells #[.slice none 0 0, .int .i64 0, .int .i8 0] 95)).cell? ⟨w.heap.size, 0, none⟩ = some (.string ⟨start.toArray⟩) := by rw [Lib.cell_of_heap hbx2]; rfl
  have es : (⟨start.toArray⟩ ++ ⟨#[13, 10]⟩ : ByteArray).data.toList = start ++ [13, 10] := by simp
  have el : (⟨start.toArray⟩ ++ ⟨#[13, 10]⟩ : ByteArray).size = start.length + 2 := by rw [Lib.size_eq, es]; simp
  go_wp2_with (go_at_call 53; refine (Tryz.Buffer_WriteString_kept W1.heap.size W1.heap.size [] _ _ hI1 (by simp) (by simp) (by rw [el]; simp only [List.length_nil]; omega)).mono ?_; refine Hid.out ?_)
  refine Lib.hid ?_
  rintro e W2 ⟨rfl, hI2, hb2, -⟩
  rw [es, List.nil_append] at hI2
  have hx2 : W2.heap[w.heap.size]? = some (.cells #[.string ⟨start.toArray⟩, .slice (some ⟨bk, off, none⟩) hrows.length c, bv] 25 (0, 0)) := by
    rw [hb2.block _ (by omega)]; exact hbx2
  have hsz2 : W1.heap.size ≤ W2.heap.size := by have := hb2.size; simp at this; omega
  have hB2 : Below w.heap.size w W2 := (hB1.alloc (by omega) _).trans (hb2.mono (by omega))
  have hgb : w.heap.size < W1.heap.size := by omega
  clear hI1 hbx2 c0 hb2 hbox hw1 hB1 hr es
  generalize W1.heap.size = b at *
  clear W1
  have c1 : W2.cell? ⟨w.heap.size, 1, none⟩ = some (.slice (some ⟨bk, off, none⟩) hrows.length c) := by rw [Lib.cell_of_heap hx2]; rfl
  go_wp2
  go_loopw [17] (fun i wr => ∃ k : Nat, k ≤ hrows.length ∧ i = .int .i64 k ∧ Lib.IsBuffer 95 5 b b (Lib.byteCells (start ++ [13, 10] ++ hdrText (hrows.take k))) wr
      ∧ wr.heap[w.heap.size]? = some (.cells #[.string ⟨start.toArray⟩, .slice (some ⟨bk, off, none⟩) hrows.length c, bv] 25 (0, 0)) ∧ b ≤ wr.heap.size ∧ Below w.heap.size w wr)
    (fun i _ => hrows.length - (intOf i).toNat)
  case atStart => exact ⟨0, Nat.zero_le _, rfl, by simpa [hdrText] using hI2, hx2, hsz2, hB2⟩
  case round =>
    obtain ⟨k, hk, rfl, hI, hx, hsz, hB⟩ := hrel
    clear hI2 hx2 hsz2 hB2 c1
    by_cases hlt : k < hrows.length
    · have k0 := (hB.cell (p := ⟨bk, off + k * 2, none⟩) hbk).trans (hcells k hlt).1
      have k1 := (hB.cell (p := ⟨bk, off + k * 2 + 1, none⟩) hbk).trans (hcells k hlt).2
      obtain ⟨lv, ln⟩ := hs.v _ (List.getElem_mem hlt)
      have z1 : (⟨(hN hrows[k]).toArray⟩ ++ ⟨#[58, 32]⟩ : ByteArray).size = (hN hrows[k]).length + 2 := by rw [Lib.size_eq]; simp
      have z2 : (⟨(hN hrows[k]).toArray⟩ ++ ⟨#[58, 32]⟩ ++ ⟨(hV hrows[k]).toArray⟩ : ByteArray).size = (hN hrows[k]).length + 2 + (hV hrows[k]).length := by rw [Lib.size_eq]; simp; omega
      have z3 : (⟨(hN hrows[k]).toArray⟩ ++ ⟨#[58, 32]⟩ ++ ⟨(hV hrows[k]).toArray⟩ ++ ⟨#[13, 10]⟩ : ByteArray).data.toList = hdrLine hrows[k] := by unfold hdrLine; simp
      have z4 : (⟨(hN hrows[k]).toArray⟩ ++ ⟨#[58, 32]⟩ ++ ⟨(hV hrows[k]).toArray⟩ ++ ⟨#[13, 10]⟩ : ByteArray).size = (hN hrows[k]).length + (hV hrows[k]).length + 4 := by rw [Lib.size_eq, z3]; unfold hdrLine; simp; omega
      have hL := hdrText_len (hrows.take k)
      have hT := hSize_take hrows k
      have hR := right_size hgood
      go_wp2_with (go_at_call 53; refine (Tryz.Buffer_WriteString_kept b b _ _ _ (hI.alloc _) (by simp; omega) (Lib.byteCells_one _) (by rw [Lib.byteCells_length, z4]; simp only [List.length_append, List.length_cons, List.length_nil, hL]; omega)).mono ?_; refine Hid.out ?_)
      refine Lib.hid ?_
      rintro e W3 ⟨rfl, hI3, hb3, -⟩
      rw [z3, ← Lib.byteCells_append] at hI3
      have hx3 : W3.heap[w.heap.size]? = some (.cells #[.string ⟨start.toArray⟩, .slice (some ⟨bk, off, none⟩) hrows.length c, bv] 25 (0, 0)) := by
        rw [hb3.block _ hgb, heap_alloc_old wr _ (by omega)]; exact hx
      have hsz3 : b ≤ W3.heap.size := by have := hb3.size; simp at this; omega
      have hB3 : Below w.heap.size w W3 := (hB.alloc (by omega) _).trans (hb3.mono (by omega))
      have e3 : start ++ [13, 10] ++ hdrText (hrows.take k) ++ hdrLine hrows[k] = start ++ [13, 10] ++ hdrText (hrows.take (k + 1)) := by
        unfold hdrText
        rw [take_snoc hlt, List.map_append, List.flatten_append]
        simp
      rw [e3] at hI3
      have hwr : wrap64 ((k : Int) + 1) = ((k + 1 : Nat) : Int) := by have := hs.n; unfold wrap64; omega
      clear hI hx hsz hB k0 k1 z1 z2 z3 z4 hL hT hR hb3 e3
      go_wp2
      go_roundw
      case rel => exact ⟨k + 1, Nat.succ_le_of_lt hlt, congrArg (Value.int .i64) hwr, hI3, hx3, hsz3, hB3⟩
      case measure =>
        rw [hwr]
        show hrows.length - (k + 1) < hrows.length - k
        exact Nat.sub_lt_sub_left hlt (Nat.lt_succ_self k)
    · have hk' : k = hrows.length := Nat.le_antisymm hk (Nat.le_of_not_lt hlt)
      subst hk'
      rw [List.take_length] at hI
      have hL := hdrText_len hrows
      have hR := right_size hgood
      have c2 : wr.cell? ⟨w.heap.size, 2, none⟩ = some bv := by rw [Lib.cell_of_heap hx]; rfl
      go_wp2_with (go_at_call 53; refine (Tryz.Buffer_WriteString_kept b b _ _ _ hI hsz (Lib.byteCells_one _) (by rw [Lib.byteCells_length]; simp only [List.length_append, List.length_cons, List.length_nil, hL]; show _ + 2 ≤ _; omega)).mono ?_; refine Hid.out ?_)
      refine Lib.hid ?_
      intro e W3 he hI3 hb3 _
      subst he
      rw [← Lib.byteCells_append] at hI3
      have e5 : start ++ 13 :: 10 :: hdrText hrows ++ [13, 10] = start ++ [13, 10] ++ hdrText hrows ++ [13, 10] := by simp
      rw [e5] at hI3
      have hx3 : W3.heap[w.heap.size]? = some (.cells #[.string ⟨start.toArray⟩, .slice (some ⟨bk, off, none⟩) hrows.length c, bv] 25 (0, 0)) := (hb3.block _ hgb).trans hx
      have hsz3 : b ≤ W3.heap.size := Nat.le_trans hsz hb3.size
      have hB3 : Below w.heap.size w W3 := hB.trans (hb3.mono (Nat.le_of_lt hgb))
      have d2 : W3.cell? ⟨w.heap.size, 2, none⟩ = some bv := by rw [Lib.cell_of_heap hx3]; rfl
      have hlen : (start ++ [13, 10] ++ hdrText hrows ++ [13, 10]).length + brows.length ≤ 4096 := by simp only [List.length_append, List.length_cons, List.length_nil, hL]; omega
      have hpos : 0 < (start ++ [13, 10] ++ hdrText hrows ++ [13, 10]).length := by simp only [List.length_append, List.length_cons, List.length_nil]; omega
      clear hI hx hsz hB c2 hL hR hb3 e5 hcells hk hlt h1
      obtain ⟨pre, hpre⟩ : ∃ pre, pre = start ++ [13, 10] ++ hdrText hrows ++ [13, 10] := ⟨_, rfl⟩
      rw [← hpre] at hI3 hlen hpos
      have hpre := Lib.hid hpre
      have fin : ∀ (v : Value) (w' : World) (rows : List (List AV)), rows = byteRows pre ++ brows → w'.ownsRow b 5 1 v rows.length (rowCells rows) → NewSl w.heap.size w' [.int .u8] (byteRows pre ++ brows) v := by
        intro v w' rows hr ho
        subst hr
        exact NewSl.of_owns ho rfl (by rw [List.length_append, byteRows_length]; omega) (Nat.le_of_lt hgb)
      have hcut : rowCells (byteRows pre ++ brows) = Lib.byteCells pre ++ rowCells brows := by
        unfold rowCells
        rw [List.map_append]
        show rowCells (byteRows pre) ++ _ = _
        rw [rowCells_bytes]
      have hone : ∀ v ∈ rowCells brows, v.oneCell' = true := by
        intro v hv
        unfold rowCells at hv
        obtain ⟨r, _, rfl⟩ := List.mem_map.1 hv
        rfl
      rcases body_cells h2 with ⟨rfl, rfl⟩ | ⟨bk2, off2, cc, rfl, hlt2, hsrc⟩
      · go_wp2_with (go_at_call 54; refine (buf_write_nil b b _ _ hI3).mono ?_; refine Hid.out ?_)
        intro e W4 hq4
        obtain ⟨rfl, hI4, hb4⟩ := hq4
        go_wp2_with (go_at_call 55; refine (Tryz.Buffer_Bytes b b _ _ hI4).mono ?_; refine Hid.out ?_)
        intro e W5 hq5
        obtain ⟨v, rfl, ho, nn, rfl⟩ := hq5
        have ho := fin v _ (byteRows pre ++ []) rfl (by rw [hcut, List.length_append, byteRows_length]; simpa [rowCells, Lib.byteCells_length] using ho)
        have hB4 : Below w.heap.size w (W4.drewN nn) := (hB3.trans (hb4.mono (Nat.le_of_lt hgb))).trans ⟨rfl, rfl, rfl, Nat.le_refl _, fun _ _ => rfl⟩
        have hpre := hpre.out
        rw [hpre] at ho
        have ho := Lib.hid ho
        clear hpre fin hcut
        go_wp2
        go_ret2
        exact ⟨⟨v, rfl, ho.out⟩, hB4⟩
      · have hlt3 : bk2 < W3.heap.size := Nat.lt_of_lt_of_le hlt2 hB3.size
        go_wp2_with (go_at_call 54; refine (Tryz.Buffer_Write_any b b _ (rowCells brows) ⟨bk2, off2, none⟩ brows.length cc _ hI3 hsz3 (Lib.byteCells_one _) (by simp [rowCells]) (by show bk2 ≠ b; omega) (fun j v hj => (hB3.cell (p := (⟨bk2, off2, none⟩ : Addr).add j) (by rw [Lib.block_add]; exact hlt2)).trans (hsrc j v hj)) hone (by rw [Lib.byteCells_length]; omega)).mono ?_; refine Hid.out ?_)
        intro e W4 hq4
        obtain ⟨rfl, hI4, hb4, -⟩ := hq4
        go_wp2_with (go_at_call 55; refine (Tryz.Buffer_Bytes b b _ _ hI4).mono ?_; refine Hid.out ?_)
        intro e W5 hq5
        obtain ⟨v, rfl, ho, nn, rfl⟩ := hq5
        have ho := fin v _ (byteRows pre ++ brows) rfl (by rw [hcut, List.length_append, byteRows_length]; simpa [rowCells, Lib.byteCells_length] using ho)
        have hB4 : Below w.heap.size w (W4.drewN nn) := (hB3.trans (hb4.mono (Nat.le_of_lt hgb))).trans ⟨rfl, rfl, rfl, Nat.le_refl _, fun _ _ => rfl⟩
        have hpre := hpre.out
        rw [hpre] at ho
        have ho := Lib.hid ho
        clear hpre fin hcut
        go_wp2
        go_ret2
        exact ⟨⟨v, rfl, ho.out⟩, hB4⟩
end Go.Proofs.YtpdgmgkkbbndfaaGreatDoor

set_option maxRecDepth 100000
set_option maxHeartbeats 6400000
namespace Go.Proofs.YtpdgmgkkbbndfaaGreatDoor
open Go Go.Proofs Go.Proofs.YtpdgmgkkbbndfaaGreatDoor.SX Go.RowKit
theorem build_bad {w : World} {start : List UInt8} {hrows brows : List (List AV)} {hv bv : Value} (gw : GW w) (h1 : Reads w [.str, .str] hrows hv) (h2 : Reads w [.int .u8] brows bv)
    (hst : start.length ≤ 4294967200) (hsh : hrows.all short = true) (hbn : brows.length ≤ 140737488355328) (hbad : spRight start hrows brows.length = false) :
    Calls Tryz.prog 24 #[.agg #[.string ⟨start.toArray⟩, hv, bv]] w (fun e w' => e = .returned (.tuple #[.slice none 0 0, .int .i64 4]) ∧ Below w.heap.size w w') := by
  have hr := fun (w1 : World) (hx : Below w.heap.size w w1) => right_reads (gw.ext hx) (h1.ext hx) (h2.ext hx) hst hsh hbn
  go_enter Tryz.func24, Tryz.ntmps24
  go_wp2_with (go_at_call 26; refine (hr _ ?_).mono ?_; refine Hid.out ?_)
  · exact (Below.refl _ w).alloc (Nat.le_refl _) _
  refine Lib.hid ?_
  rintro e W1 ⟨rfl, hx1⟩
  rw [hbad]
  have hsz0 : (w.alloc (.cells #[.string ⟨start.toArray⟩, hv, bv] 25)).heap.size = w.heap.size + 1 := by simp
  have hB1 : Below w.heap.size w W1 := ((Below.refl _ w).alloc (Nat.le_refl _) _).trans (hx1.mono (by rw [hsz0]; omega))
  go_wp2
  go_ret2
  exact ⟨rfl, hB1⟩
def spBuildB (start : List UInt8) (hrows brows : List (List AV)) : List (List AV) :=
  bif spRight start hrows brows.length then byteRows (start ++ [13, 10] ++ hdrText hrows ++ [13, 10]) ++ brows else []
def spBuildE (start : List UInt8) (hrows brows : List (List AV)) : Int := bif spRight start hrows brows.length then 0 else 4
theorem build_calls {w : World} {start : List UInt8} {hrows brows : List (List AV)} {hv bv : Value} (gw : GW w) (h1 : Reads w [.str, .str] hrows hv) (h2 : Reads w [.int .u8] brows bv)
    (hst : start.length ≤ 4294967200) (hsh : hrows.all short = true) (hbn : brows.length ≤ 140737488355328) :
    Calls Tryz.prog 24 #[.agg #[.string ⟨start.toArray⟩, hv, bv]] w (fun e w' => (∃ v, e = .returned (.tuple #[v, .int .i64 (spBuildE start hrows brows)]) ∧ NewSl w.heap.size w' [.int .u8] (spBuildB start hrows brows) v) ∧ Ext w w') := by
  unfold spBuildB spBuildE
  cases h : spRight start hrows brows.length with
  | true => exact build_good gw h1 h2 hst hsh hbn h
  | false =>
    refine (build_bad gw h1 h2 hst hsh hbn h).mono fun e w' hq => ?_
    obtain ⟨rfl, hb⟩ := hq
    exact ⟨⟨_, rfl, NewSl.none (ρ' := fun _ => ⟨0, 0, 0, 0, false⟩) (gw.ext hb) rfl⟩, hb⟩
def q24 : Entry := fun args hp nx => match args with
  | [.agg [.str start, hv, bv]] => match slIn hp [.str, .str] hv, slIn hp [.int .u8] bv with
    | some (c1, hrows), some (c2, brows) =>
      some (c1 && (c2 && decide (start.length ≤ 4294967200 ∧ hrows.all short = true ∧ brows.length ≤ 140737488355328)),
        .tup [.slq nx (spBuildB start hrows brows).length, .int .i64 (spBuildE start hrows brows)], [.cells false [.int .u8] (spBuildB start hrows brows)])
    | _, _ => none
  | _ => none
theorem q24_ok : EntryOK Tryz.prog 24 q24 := by
  intro args hp nx c v bs h hc ρ w hs hi
  unfold q24 at h
  split at h
  · rename_i start hv bv
    split at h
    · rename_i c1 hrows c2 brows hs1 hs2
      cases h
      simp only [Bool.and_eq_true] at hc
      obtain ⟨hc1, hc2, hc3⟩ := hc
      obtain ⟨g1, g2, g3⟩ := of_decide_eq_true hc3
      have hcall := build_calls hs.gw (slIn_spec hs hs1 hc1 rfl) (slIn_spec hs hs2 hc2 rfl) g1 g2 g3
      have ea : (concL ρ [AV.agg [.str start, hv, bv]]).toArray = #[.agg #[.string ⟨start.toArray⟩, conc ρ hv, conc ρ bv]] := rfl
      rw [ea]
      refine hcall.mono fun e w' hq => ?_
      obtain ⟨⟨v, rfl, b1, n1, k1⟩, he⟩ := hq
      have e1 : extB ρ nx [b1] nx = b1 := by have := extB_new ρ nx [b1] 0; simpa using this
      have st := HStep.bis (bs := [Blk.cells false [.int .u8] (spBuildB start hrows brows)]) [b1] hs he (fun i blk hi => by
        match i with
        | 0 => simp at hi; subst hi; exact ⟨rfl, n1, rfl, fun ρ' b hb => (k1 ρ' b hb).2⟩
        | i + 1 => simp at hi)
      refine ⟨_, ?_, ?_, st⟩
      · have h1 := (k1 _ _ e1).1
        simp only [conc, concL] at h1 ⊢
        rw [h1]
      · simp [AV.idsB, idsBL, blt_iff]
    · cases h
  · cases h
def P10 : Prims := addP P9 24 q24
theorem P10_ok : PrimsOK Tryz.prog P10 := addP_ok P9_ok q24_ok
end Go.Proofs.YtpdgmgkkbbndfaaGreatDoor

set_option maxRecDepth 100000
set_option maxHeartbeats 6400000
namespace Go.Proofs.YtpdgmgkkbbndfaaGreatDoor
open Go Go.Proofs Go.Proofs.YtpdgmgkkbbndfaaGreatDoor.SX
theorem c18_EEE :
 Path (runCallB Tryz.prog P10 100 18 [] (st0 [] ([PI.ev 1, PI.ev 1, PI.ev 1]))) 0 [] (SL.mk [] [] 0) (Out.ret (AV.bool true))
 (((((((((((((((((((((True ∧ (true = true)) ∧ (true = true)) ∧ (true = true)) ∧ (true = true)) ∧ (true = true)) ∧ (true = true)) ∧ (true = true)) ∧ (true = true)) ∧ (true = true)) ∧ (true = true)) ∧ (true = true)) ∧ (true = true)) ∧ (true = true)) ∧ (true = true)) ∧ (true = true)) ∧ (true = true)) ∧ (true = true)) ∧ (true = true)) ∧ (true = true)) ∧ (true = true)) ∧ (true = true)) := by unfold Path; kernel_rfl
def q18 : Entry := fun args hp nx => match args with
  | [] => some (true, .bool true, [])
  | _ => none
theorem q18_ok : EntryOK Tryz.prog 18 q18 := by
  intro args hp nx c v bs h hc ρ w hs hi
  unfold q18 at h
  split at h
  · cases h
    have hE : HSim ρ (addBlks .e 0 []) ([] : List Blk).length w := HSim.ins hs.gw (fun i blk hi => by simp at hi)
    exact entry_pure hs rfl (calls_pureB P10_ok c18_EEE (by simp only [eq_self, and_self]) hE rfl rfl rfl)
  · cases h
end Go.Proofs.YtpdgmgkkbbndfaaGreatDoor

set_option maxRecDepth 100000
namespace Go.Proofs.YtpdgmgkkbbndfaaGreatDoor
open Go Go.Proofs Go.Proofs.YtpdgmgkkbbndfaaGreatDoor.SX
end Go.Proofs.YtpdgmgkkbbndfaaGreatDoor

set_option maxRecDepth 100000
namespace Go.Proofs.YtpdgmgkkbbndfaaGreatDoor
open Go Go.Proofs Go.Proofs.YtpdgmgkkbbndfaaGreatDoor.SX
theorem cut_none {s t : List UInt8} (h : spFound s t = false) : spBefore s t = s := by
  unfold spFound Lib.cut at h
  unfold spBefore Lib.cut
  split at h
  · cases h
  · rename_i hi; rw [if_neg hi]
end Go.Proofs.YtpdgmgkkbbndfaaGreatDoor

set_option maxRecDepth 100000
set_option maxHeartbeats 1600000
namespace Go.Proofs.YtpdgmgkkbbndfaaGreatDoor
open Go Go.Proofs Go.Proofs.YtpdgmgkkbbndfaaGreatDoor.SX
theorem occ_at {t : List UInt8} {k : Nat} (h : k + 1 < t.length) : Lib.occAt t [13, 10] k = ((t[k] == 13) && (t[k + 1] == 10)) := by
  unfold Lib.occAt
  rw [List.drop_eq_getElem_cons (show k < t.length by omega), List.drop_eq_getElem_cons h]
  rw [Bool.eq_iff_iff]
  simp only [List.isPrefixOf, Bool.and_true, Bool.and_eq_true, beq_iff_eq]
  exact ⟨fun h => ⟨h.1.symm, h.2.symm⟩, fun h => ⟨h.1.symm, h.2.symm⟩⟩
theorem occ_end {t : List UInt8} {k : Nat} (h : t.length ≤ k + 1) : Lib.occAt t [13, 10] k = false := by
  unfold Lib.occAt
  cases hp : ([13, 10] : List UInt8).isPrefixOf (t.drop k) with
  | false => rfl
  | true =>
    rw [List.isPrefixOf_iff_prefix] at hp
    have := hp.length_le
    simp only [List.length_drop, List.length_cons, List.length_nil] at this
    omega
theorem sub_at {s : List UInt8} {o n k : Nat} (h : o + n ≤ s.length) (hk : k < n) : ∃ (h1 : k < (sub s o n).length) (h2 : o + k < s.length), (sub s o n)[k] = s[o + k] := by
  refine ⟨by rw [sub_length h]; exact hk, by omega, ?_⟩
  have := sub_get (l := s) (i := o) hk
  rw [List.getElem?_eq_getElem (by rw [sub_length h]; exact hk), List.getElem?_eq_getElem (show o + k < s.length by omega)] at this
  exact Option.some.inj this
theorem sub_map {α β : Type} (f : α → β) (l : List α) (i n : Nat) : (sub l i n).map f = sub (l.map f) i n := by simp [sub]
def b711I (brows : List (List AV)) (o n c : Nat) (k : Int) : SL := ⟨[(0, .sl ⟨0, o, 0⟩ n (.known c)), (5, .int .i64 k)], [(0, .cells false [.int .u8] brows)], 1⟩
def r711 (brows : List (List AV)) (l : List UInt8) (o2 n2 c2 : Nat) : SL := ⟨[(2, .str l), (3, .sl ⟨0, o2, 0⟩ n2 (.known c2)), (4, .lit true)], [(0, .cells false [.int .u8] brows)], 1⟩
def e711 (brows : List (List AV)) : SL := ⟨[], [(0, .cells false [.int .u8] brows)], 1⟩
theorem b711_TTT (brows : List (List AV)) (o : Nat) (n : Nat) (c : Nat) (k : Int) :
 Path (run Tryz.prog Pr 100 (lbody Tryz.prog 71 0) (SL.mp 34 ([.as_ true, .as_ true, .as_ true]) (b711I brows o n c k))) 1 [] (r711 brows (List.map rowByte (sub brows o (Int.toNat k - 0))) (cutI (some (AV.int IntKind.i64 (IntKind.wrap IntKind.i64 (k + (2 : Int))))) (↑c : Int) (IntKind.wrap IntKind.i64 (k + (2 : Int))) o) (Int.toNat (↑n : Int) - Int.toNat (IntKind.wrap IntKind.i64 (k + (2 : Int)))) (Int.toNat (↑c : Int) - Int.toNat (IntKind.wrap IntKind.i64 (k + (2 : Int))))) (Ex.ret)
 ((((((((((True ∧ (decide (IntKind.wrap IntKind.i64 (k + (1 : Int)) < (↑n : Int)) = true)) ∧ (decide ((0 : Int) ≤ k ∧ k < (↑n : Int)) = true)) ∧ (decide (o + Int.toNat k < List.length brows) = true)) ∧ ((AV.toInt (List.getD (List.getD brows (o + Int.toNat k) []) (0) AV.undef) == (13 : Int)) = true)) ∧ (decide ((0 : Int) ≤ IntKind.wrap IntKind.i64 (k + (1 : Int)) ∧ IntKind.wrap IntKind.i64 (k + (1 : Int)) < (↑n : Int)) = true)) ∧ (decide (o + Int.toNat (IntKind.wrap IntKind.i64 (k + (1 : Int))) < List.length brows) = true)) ∧ ((AV.toInt (List.getD (List.getD brows (o + Int.toNat (IntKind.wrap IntKind.i64 (k + (1 : Int)))) []) (0) AV.undef) == (10 : Int)) = true)) ∧ (decide ((0 : Int) ≤ (0 : Int) ∧ (0 : Int) ≤ k ∧ k ≤ (↑c : Int) ∧ (↑c : Int) ≤ (↑c : Int)) = true)) ∧ (decide (o + (Int.toNat k - 0) ≤ List.length brows) = true)) ∧ (decide ((0 : Int) ≤ IntKind.wrap IntKind.i64 (k + (2 : Int)) ∧ IntKind.wrap IntKind.i64 (k + (2 : Int)) ≤ (↑n : Int) ∧ (↑n : Int) ≤ (↑c : Int) ∧ (↑c : Int) ≤ (↑c : Int)) = true)) := by unfold Path; kernel_rfl
theorem b711_TTF (brows : List (List AV)) (o : Nat) (n : Nat) (c : Nat) (k : Int) :
 Path (run Tryz.prog Pr 100 (lbody Tryz.prog 71 0) (SL.mp 34 ([.as_ true, .as_ true, .as_ false]) (b711I brows o n c k))) 1 [] (b711I (brows) (o) (n) (c) (IntKind.wrap IntKind.i64 (k + (1 : Int)))) (Ex.normal)
 (((((((True ∧ (decide (IntKind.wrap IntKind.i64 (k + (1 : Int)) < (↑n : Int)) = true)) ∧ (decide ((0 : Int) ≤ k ∧ k < (↑n : Int)) = true)) ∧ (decide (o + Int.toNat k < List.length brows) = true)) ∧ ((AV.toInt (List.getD (List.getD brows (o + Int.toNat k) []) (0) AV.undef) == (13 : Int)) = true)) ∧ (decide ((0 : Int) ≤ IntKind.wrap IntKind.i64 (k + (1 : Int)) ∧ IntKind.wrap IntKind.i64 (k + (1 : Int)) < (↑n : Int)) = true)) ∧ (decide (o + Int.toNat (IntKind.wrap IntKind.i64 (k + (1 : Int))) < List.length brows) = true)) ∧ ((AV.toInt (List.getD (List.getD brows (o + Int.toNat (IntKind.wrap IntKind.i64 (k + (1 : Int)))) []) (0) AV.undef) == (10 : Int)) = false)) := by unfold Path; kernel_rfl
theorem b711_TF (brows : List (List AV)) (o : Nat) (n : Nat) (c : Nat) (k : Int) :
 Path (run Tryz.prog Pr 100 (lbody Tryz.prog 71 0) (SL.mp 34 ([.as_ true, .as_ false]) (b711I brows o n c k))) 1 [] (b711I (brows) (o) (n) (c) (IntKind.wrap IntKind.i64 (k + (1 : Int)))) (Ex.normal)
 ((((True ∧ (decide (IntKind.wrap IntKind.i64 (k + (1 : Int)) < (↑n : Int)) = true)) ∧ (decide ((0 : Int) ≤ k ∧ k < (↑n : Int)) = true)) ∧ (decide (o + Int.toNat k < List.length brows) = true)) ∧ ((AV.toInt (List.getD (List.getD brows (o + Int.toNat k) []) (0) AV.undef) == (13 : Int)) = false)) := by unfold Path; kernel_rfl
theorem b711_F (brows : List (List AV)) (o : Nat) (n : Nat) (c : Nat) (k : Int) :
 Path (run Tryz.prog Pr 100 (lbody Tryz.prog 71 0) (SL.mp 34 ([.as_ false]) (b711I brows o n c k))) 1 [] (e711 brows) (Ex.exit 0)
 (True ∧ (decide (IntKind.wrap IntKind.i64 (k + (1 : Int)) < (↑n : Int)) = false)) := by unfold Path; kernel_rfl
theorem round711 {s : List UInt8} {o n c k : Nat} (ho : o + n ≤ s.length) (hc : n ≤ c) (hs : s.length ≤ 1048576) (hk : k + 1 < n) :
    (Lib.occAt (sub s o n) [13, 10] k = false → BodyOK Tryz.prog (lbody Tryz.prog 71 0) 34 1 (b711I (byteRows s) o n c k) .normal (b711I (byteRows s) o n c ((k + 1 : Nat) : Int))) ∧
    (Lib.occAt (sub s o n) [13, 10] k = true → ∃ o2 n2 c2, BodyOK Tryz.prog (lbody Tryz.prog 71 0) 34 1 (b711I (byteRows s) o n c k) .ret (r711 (byteRows s) ((sub s o n).take k) o2 n2 c2) ∧ o2 + n2 ≤ s.length ∧ n2 ≤ c2 ∧ sub s o2 n2 = (sub s o n).drop (k + 2) ∧ n2 + (k + 2) = n) := by
  obtain ⟨x1, x2, x3⟩ := sub_at ho (show k < n by omega)
  obtain ⟨y1, y2, y3⟩ := sub_at ho hk
  have w1 : IntKind.wrap IntKind.i64 ((k : Int) + 1) = ((k + 1 : Nat) : Int) := succ64 (n := n) (by omega) (by omega)
  have w2 : IntKind.wrap IntKind.i64 ((k : Int) + 2) = ((k + 2 : Nat) : Int) := by rw [IntWalk.i64_in _ (by omega)]; omega
  have b1 : AV.toInt (List.getD (List.getD (byteRows s) (o + Int.toNat (k : Int)) []) 0 AV.undef) = ((sub s o n)[k].toNat : Int) := by rw [Int.toNat_natCast, byte_at x2, x3]
  have b2 : AV.toInt (List.getD (List.getD (byteRows s) (o + Int.toNat (IntKind.wrap IntKind.i64 ((k : Int) + 1))) []) 0 AV.undef) = ((sub s o n)[k + 1].toNat : Int) := by
    rw [w1, Int.toNat_natCast]
    have := byte_at y2
    rw [this, y3]
  have i1 : ∀ (a : UInt8), (((a.toNat : Nat) : Int) == 13) = (a == 13) := fun a => u8i a 13
  have i2 : ∀ (a : UInt8), (((a.toNat : Nat) : Int) == 10) = (a == 10) := fun a => u8i a 10
  have c0 : decide (IntKind.wrap IntKind.i64 ((k : Int) + (1 : Int)) < (n : Int)) = true := decide_eq_true (by rw [w1]; omega)
  have c1 : decide ((0 : Int) ≤ (k : Int) ∧ (k : Int) < (n : Int)) = true := decide_eq_true (by omega)
  have c2 : decide (o + Int.toNat (k : Int) < List.length (byteRows s)) = true := decide_eq_true (by rw [byteRows_length, Int.toNat_natCast]; exact x2)
  have c3 : decide ((0 : Int) ≤ IntKind.wrap IntKind.i64 ((k : Int) + (1 : Int)) ∧ IntKind.wrap IntKind.i64 ((k : Int) + (1 : Int)) < (n : Int)) = true := decide_eq_true (by rw [w1]; omega)
  have c4 : decide (o + Int.toNat (IntKind.wrap IntKind.i64 ((k : Int) + (1 : Int))) < List.length (byteRows s)) = true := decide_eq_true (by rw [byteRows_length, w1, Int.toNat_natCast]; omega)
  have hl : (sub s o n).length = n := sub_length ho
  have hoc := occ_at (t := sub s o n) (k := k) (by rw [hl]; exact hk)
  rw [hoc]
  refine ⟨fun h => ?_, fun h => ?_⟩
  · cases h1 : (sub s o n)[k] == 13 with
    | false =>
      have q1 : (AV.toInt (List.getD (List.getD (byteRows s) (o + Int.toNat (k : Int)) []) 0 AV.undef) == (13 : Int)) = false := by rw [b1, i1]; exact h1
      exact body_by Pr_ok (b711_TF (byteRows s) o n c k) (by rw [w1]) ⟨⟨⟨⟨trivial, c0⟩, c1⟩, c2⟩, q1⟩ rfl
    | true =>
      have q1 : (AV.toInt (List.getD (List.getD (byteRows s) (o + Int.toNat (k : Int)) []) 0 AV.undef) == (13 : Int)) = true := by rw [b1, i1]; exact h1
      have q2 : (AV.toInt (List.getD (List.getD (byteRows s) (o + Int.toNat (IntKind.wrap IntKind.i64 ((k : Int) + (1 : Int)))) []) 0 AV.undef) == (10 : Int)) = false := by rw [b2, i2]; rw [h1, Bool.true_and] at h; exact h
      exact body_by Pr_ok (b711_TTF (byteRows s) o n c k) (by rw [w1]) ⟨⟨⟨⟨⟨⟨⟨trivial, c0⟩, c1⟩, c2⟩, q1⟩, c3⟩, c4⟩, q2⟩ rfl
  · rw [Bool.and_eq_true] at h
    have q1 : (AV.toInt (List.getD (List.getD (byteRows s) (o + Int.toNat (k : Int)) []) 0 AV.undef) == (13 : Int)) = true := by rw [b1, i1]; exact h.1
    have q2 : (AV.toInt (List.getD (List.getD (byteRows s) (o + Int.toNat (IntKind.wrap IntKind.i64 ((k : Int) + (1 : Int)))) []) 0 AV.undef) == (10 : Int)) = true := by rw [b2, i2]; exact h.2
    have c5 : decide ((0 : Int) ≤ (0 : Int) ∧ (0 : Int) ≤ (k : Int) ∧ (k : Int) ≤ (c : Int) ∧ (c : Int) ≤ (c : Int)) = true := decide_eq_true (by omega)
    have c6 : decide (o + (Int.toNat (k : Int) - 0) ≤ List.length (byteRows s)) = true := decide_eq_true (by rw [byteRows_length, Int.toNat_natCast]; omega)
    have c7 : decide ((0 : Int) ≤ IntKind.wrap IntKind.i64 ((k : Int) + (2 : Int)) ∧ IntKind.wrap IntKind.i64 ((k : Int) + (2 : Int)) ≤ (n : Int) ∧ (n : Int) ≤ (c : Int) ∧ (c : Int) ≤ (c : Int)) = true := decide_eq_true (by rw [w2]; omega)
    have e1 : List.map rowByte (sub (byteRows s) o (Int.toNat (k : Int) - 0)) = (sub s o n).take k := by
      rw [sub_map, rowsB, Int.toNat_natCast, Nat.sub_zero]
      unfold sub
      rw [List.take_take, Nat.min_eq_left (by omega)]
    have hb := body_by Pr_ok (b711_TTT (byteRows s) o n c k) (by rw [e1]) ⟨⟨⟨⟨⟨⟨⟨⟨⟨⟨trivial, c0⟩, c1⟩, c2⟩, q1⟩, c3⟩, c4⟩, q2⟩, c5⟩, c6⟩, c7⟩ rfl
    refine ⟨_, _, _, hb, ?_, ?_, ?_, ?_⟩
    · rw [w2, Int.toNat_natCast, Int.toNat_natCast]
      unfold cutI
      simp only
      split <;> (try simp only [Int.toNat_natCast]) <;> omega
    · rw [w2, Int.toNat_natCast, Int.toNat_natCast, Int.toNat_natCast]; omega
    · rw [w2, Int.toNat_natCast, Int.toNat_natCast]
      unfold cutI
      simp only
      split
      · have : n - (k + 2) = 0 := by omega
        rw [this]
        have : List.drop (k + 2) (sub s o n) = [] := List.drop_eq_nil_of_le (by rw [hl]; omega)
        rw [this]; simp [sub]
      · rw [Int.toNat_natCast]
        unfold sub
        rw [List.drop_take, List.drop_drop]
    · rw [w2, Int.toNat_natCast, Int.toNat_natCast]; omega
theorem loop711 {s : List UInt8} {o n c : Nat} (ho : o + n ≤ s.length) (hc : n ≤ c) (hs : s.length ≤ 1048576) :
    (spFound (sub s o n) [13, 10] = false → LoopOK Tryz.prog (lbody Tryz.prog 71 0) 34 (b711I (byteRows s) o n c 0) (.exit 0) (e711 (byteRows s))) ∧
    (spFound (sub s o n) [13, 10] = true → ∃ o2 n2 c2, LoopOK Tryz.prog (lbody Tryz.prog 71 0) 34 (b711I (byteRows s) o n c 0) .ret (r711 (byteRows s) (spBefore (sub s o n) [13, 10]) o2 n2 c2) ∧ o2 + n2 ≤ s.length ∧ n2 ≤ c2 ∧ sub s o2 n2 = spAfter (sub s o n) [13, 10] ∧ n2 + 2 ≤ n) := by
  have hl : (sub s o n).length = n := sub_length ho
  rcases Lib.index_spec (sub s o n) [13, 10] with ⟨h1, h2⟩ | ⟨i, h1, h2, h3, h4⟩
  · have hf : spFound (sub s o n) [13, 10] = false := by
      unfold spFound Lib.cut
      rw [h1]; rfl
    refine ⟨fun _ => ?_, fun h => (by rw [hf] at h; cases h)⟩
    refine loop_rule (X := Nat) (I := fun k => b711I (byteRows s) o n c (k : Int)) (pre := fun k => k ≤ n) (μ := fun k => n - k) _ _ rfl (fun ρ => by simp [Ex.conc]) ?_ (x0 := 0) (pick := []) (Nat.zero_le _) ⟨by kernel_rfl, map_fst_snd (by kernel_rfl)⟩
    intro k hk
    by_cases hkn : k + 1 < n
    · left
      exact ⟨k + 1, by omega, by omega, (round711 ho hc hs hkn).1 (h2 k (by rw [hl]; omega))⟩
    · right
      have w1 : IntKind.wrap IntKind.i64 ((k : Int) + 1) = ((k + 1 : Nat) : Int) := succ64 (n := n + 1) (by omega) (by omega)
      exact body_by Pr_ok (b711_F (byteRows s) o n c k) rfl ⟨trivial, decide_eq_false (by rw [w1]; omega)⟩ rfl
  · have hin : i + 1 < n := by
      by_cases h : i + 1 < n
      · exact h
      · rw [occ_end (by rw [hl]; omega)] at h3; cases h3
    have hf : spFound (sub s o n) [13, 10] = true := by
      unfold spFound Lib.cut
      rw [h1, if_pos (show 0 ≤ (i : Int) by omega)]
    have hb : spBefore (sub s o n) [13, 10] = (sub s o n).take i := by
      unfold spBefore Lib.cut
      rw [h1, if_pos (show 0 ≤ (i : Int) by omega), Int.toNat_natCast]
    have ha : spAfter (sub s o n) [13, 10] = (sub s o n).drop (i + 2) := by
      unfold spAfter Lib.cut
      rw [h1, if_pos (show 0 ≤ (i : Int) by omega), Int.toNat_natCast]; rfl
    refine ⟨fun h => (by rw [hf] at h; cases h), fun _ => ?_⟩
    obtain ⟨o2, n2, c2, hbody, e1, e2, e3, e4⟩ := (round711 ho hc hs hin).2 h3
    refine ⟨o2, n2, c2, ?_, e1, e2, by rw [ha]; exact e3, by omega⟩
    rw [hb]
    refine loop_rule (X := Nat) (I := fun k => b711I (byteRows s) o n c (k : Int)) (pre := fun k => k ≤ i) (μ := fun k => i - k) _ _ rfl (fun ρ => by simp [Ex.conc]) ?_ (x0 := 0) (pick := []) (Nat.zero_le _) ⟨by kernel_rfl, map_fst_snd (by kernel_rfl)⟩
    intro k hk
    by_cases hki : k = i
    · right; subst hki; exact hbody
    · left
      exact ⟨k + 1, by omega, by omega, (round711 ho hc hs (by omega)).1 (h4 k (by omega))⟩
def b713I (brows : List (List AV)) (o n c : Nat) (k : Int) : SL := ⟨[(0, .sl ⟨0, o, 0⟩ n (.known c)), (5, .int .i64 k)], [(0, .cells false [.int .u8] brows)], 3⟩
def r713 (brows : List (List AV)) (l : List UInt8) (o2 n2 c2 : Nat) : SL := ⟨[(2, .str l), (3, .sl ⟨0, o2, 0⟩ n2 (.known c2)), (4, .lit true)], [(0, .cells false [.int .u8] brows)], 3⟩
def e713 (brows : List (List AV)) : SL := ⟨[], [(0, .cells false [.int .u8] brows)], 3⟩
theorem b713_TTT (brows : List (List AV)) (o : Nat) (n : Nat) (c : Nat) (k : Int) :
 Path (run Tryz.prog Pr 100 (lbody Tryz.prog 71 0) (SL.mp 34 ([.as_ true, .as_ true, .as_ true]) (b713I brows o n c k))) 3 [] (r713 brows (List.map rowByte (sub brows o (Int.toNat k - 0))) (cutI (some (AV.int IntKind.i64 (IntKind.wrap IntKind.i64 (k + (2 : Int))))) (↑c : Int) (IntKind.wrap IntKind.i64 (k + (2 : Int))) o) (Int.toNat (↑n : Int) - Int.toNat (IntKind.wrap IntKind.i64 (k + (2 : Int)))) (Int.toNat (↑c : Int) - Int.toNat (IntKind.wrap IntKind.i64 (k + (2 : Int))))) (Ex.ret)
 ((((((((((True ∧ (decide (IntKind.wrap IntKind.i64 (k + (1 : Int)) < (↑n : Int)) = true)) ∧ (decide ((0 : Int) ≤ k ∧ k < (↑n : Int)) = true)) ∧ (decide (o + Int.toNat k < List.length brows) = true)) ∧ ((AV.toInt (List.getD (List.getD brows (o + Int.toNat k) []) (0) AV.undef) == (13 : Int)) = true)) ∧ (decide ((0 : Int) ≤ IntKind.wrap IntKind.i64 (k + (1 : Int)) ∧ IntKind.wrap IntKind.i64 (k + (1 : Int)) < (↑n : Int)) = true)) ∧ (decide (o + Int.toNat (IntKind.wrap IntKind.i64 (k + (1 : Int))) < List.length brows) = true)) ∧ ((AV.toInt (List.getD (List.getD brows (o + Int.toNat (IntKind.wrap IntKind.i64 (k + (1 : Int)))) []) (0) AV.undef) == (10 : Int)) = true)) ∧ (decide ((0 : Int) ≤ (0 : Int) ∧ (0 : Int) ≤ k ∧ k ≤ (↑c : Int) ∧ (↑c : Int) ≤ (↑c : Int)) = true)) ∧ (decide (o + (Int.toNat k - 0) ≤ List.length brows) = true)) ∧ (decide ((0 : Int) ≤ IntKind.wrap IntKind.i64 (k + (2 : Int)) ∧ IntKind.wrap IntKind.i64 (k + (2 : Int)) ≤ (↑n : Int) ∧ (↑n : Int) ≤ (↑c : Int) ∧ (↑c : Int) ≤ (↑c : Int)) = true)) := by unfold Path; kernel_rfl
theorem b713_TTF (brows : List (List AV)) (o : Nat) (n : Nat) (c : Nat) (k : Int) :
 Path (run Tryz.prog Pr 100 (lbody Tryz.prog 71 0) (SL.mp 34 ([.as_ true, .as_ true, .as_ false]) (b713I brows o n c k))) 3 [] (b713I (brows) (o) (n) (c) (IntKind.wrap IntKind.i64 (k + (1 : Int)))) (Ex.normal)
 (((((((True ∧ (decide (IntKind.wrap IntKind.i64 (k + (1 : Int)) < (↑n : Int)) = true)) ∧ (decide ((0 : Int) ≤ k ∧ k < (↑n : Int)) = true)) ∧ (decide (o + Int.toNat k < List.length brows) = true)) ∧ ((AV.toInt (List.getD (List.getD brows (o + Int.toNat k) []) (0) AV.undef) == (13 : Int)) = true)) ∧ (decide ((0 : Int) ≤ IntKind.wrap IntKind.i64 (k + (1 : Int)) ∧ IntKind.wrap IntKind.i64 (k + (1 : Int)) < (↑n : Int)) = true)) ∧ (decide (o + Int.toNat (IntKind.wrap IntKind.i64 (k + (1 : Int))) < List.length brows) = true)) ∧ ((AV.toInt (List.getD (List.getD brows (o + Int.toNat (IntKind.wrap IntKind.i64 (k + (1 : Int)))) []) (0) AV.undef) == (10 : Int)) = false)) := by unfold Path; kernel_rfl
theorem b713_TF (brows : List (List AV)) (o : Nat) (n : Nat) (c : Nat) (k : Int) :
 Path (run Tryz.prog Pr 100 (lbody Tryz.prog 71 0) (SL.mp 34 ([.as_ true, .as_ false]) (b713I brows o n c k))) 3 [] (b713I (brows) (o) (n) (c) (IntKind.wrap IntKind.i64 (k + (1 : Int)))) (Ex.normal)
 ((((True ∧ (decide (IntKind.wrap IntKind.i64 (k + (1 : Int)) < (↑n : Int)) = true)) ∧ (decide ((0 : Int) ≤ k ∧ k < (↑n : Int)) = true)) ∧ (decide (o + Int.toNat k < List.length brows) = true)) ∧ ((AV.toInt (List.getD (List.getD brows (o + Int.toNat k) []) (0) AV.undef) == (13 : Int)) = false)) := by unfold Path; kernel_rfl
theorem b713_F (brows : List (List AV)) (o : Nat) (n : Nat) (c : Nat) (k : Int) :
 Path (run Tryz.prog Pr 100 (lbody Tryz.prog 71 0) (SL.mp 34 ([.as_ false]) (b713I brows o n c k))) 3 [] (e713 brows) (Ex.exit 0)
 (True ∧ (decide (IntKind.wrap IntKind.i64 (k + (1 : Int)) < (↑n : Int)) = false)) := by unfold Path; kernel_rfl
theorem round713 {s : List UInt8} {o n c k : Nat} (ho : o + n ≤ s.length) (hc : n ≤ c) (hs : s.length ≤ 1048576) (hk : k + 1 < n) :
    (Lib.occAt (sub s o n) [13, 10] k = false → BodyOK Tryz.prog (lbody Tryz.prog 71 0) 34 3 (b713I (byteRows s) o n c k) .normal (b713I (byteRows s) o n c ((k + 1 : Nat) : Int))) ∧
    (Lib.occAt (sub s o n) [13, 10] k = true → ∃ o2 n2 c2, BodyOK Tryz.prog (lbody Tryz.prog 71 0) 34 3 (b713I (byteRows s) o n c k) .ret (r713 (byteRows s) ((sub s o n).take k) o2 n2 c2) ∧ o2 + n2 ≤ s.length ∧ n2 ≤ c2 ∧ sub s o2 n2 = (sub s o n).drop (k + 2) ∧ n2 + (k + 2) = n) := by
  obtain ⟨x1, x2, x3⟩ := sub_at ho (show k < n by omega)
  obtain ⟨y1, y2, y3⟩ := sub_at ho hk
  have w1 : IntKind.wrap IntKind.i64 ((k : Int) + 1) = ((k + 1 : Nat) : Int) := succ64 (n := n) (by omega) (by omega)
  have w2 : IntKind.wrap IntKind.i64 ((k : Int) + 2) = ((k + 2 : Nat) : Int) := by rw [IntWalk.i64_in _ (by omega)]; omega
  have b1 : AV.toInt (List.getD (List.getD (byteRows s) (o + Int.toNat (k : Int)) []) 0 AV.undef) = ((sub s o n)[k].toNat : Int) := by rw [Int.toNat_natCast, byte_at x2, x3]
  have b2 : AV.toInt (List.getD (List.getD (byteRows s) (o + Int.toNat (IntKind.wrap IntKind.i64 ((k : Int) + 1))) []) 0 AV.undef) = ((sub s o n)[k + 1].toNat : Int) := by
    rw [w1, Int.toNat_natCast]
    have := byte_at y2
    rw [this, y3]
  have i1 : ∀ (a : UInt8), (((a.toNat : Nat) : Int) == 13) = (a == 13) := fun a => u8i a 13
  have i2 : ∀ (a : UInt8), (((a.toNat : Nat) : Int) == 10) = (a == 10) := fun a => u8i a 10
  have c0 : decide (IntKind.wrap IntKind.i64 ((k : Int) + (1 : Int)) < (n : Int)) = true := decide_eq_true (by rw [w1]; omega)
  have c1 : decide ((0 : Int) ≤ (k : Int) ∧ (k : Int) < (n : Int)) = true := decide_eq_true (by omega)
  have c2 : decide (o + Int.toNat (k : Int) < List.length (byteRows s)) = true := decide_eq_true (by rw [byteRows_length, Int.toNat_natCast]; exact x2)
  have c3 : decide ((0 : Int) ≤ IntKind.wrap IntKind.i64 ((k : Int) + (1 : Int)) ∧ IntKind.wrap IntKind.i64 ((k : Int) + (1 : Int)) < (n : Int)) = true := decide_eq_true (by rw [w1]; omega)
  have c4 : decide (o + Int.toNat (IntKind.wrap IntKind.i64 ((k : Int) + (1 : Int))) < List.length (byteRows s)) = true := decide_eq_true (by rw [byteRows_length, w1, Int.toNat_natCast]; omega)
  have hl : (sub s o n).length = n := sub_length ho
  have hoc := occ_at (t := sub s o n) (k := k) (by rw [hl]; exact hk)
  rw [hoc]
  refine ⟨fun h => ?_, fun h => ?_⟩
  · cases h1 : (sub s o n)[k] == 13 with
    | false =>
      have q1 : (AV.toInt (List.getD (List.getD (byteRows s) (o + Int.toNat (k : Int)) []) 0 AV.undef) == (13 : Int)) = false := by rw [b1, i1]; exact h1
      exact body_by Pr_ok (b713_TF (byteRows s) o n c k) (by rw [w1]) ⟨⟨⟨⟨trivial, c0⟩, c1⟩, c2⟩, q1⟩ rfl
    | true =>
      have q1 : (AV.toInt (List.getD (List.getD (byteRows s) (o + Int.toNat (k : Int)) []) 0 AV.undef) == (13 : Int)) = true := by rw [b1, i1]; exact h1
      have q2 : (AV.toInt (List.getD (List.getD (byteRows s) (o + Int.toNat (IntKind.wrap IntKind.i64 ((k : Int) + (1 : Int)))) []) 0 AV.undef) == (10 : Int)) = false := by rw [b2, i2]; rw [h1, Bool.true_and] at h; exact h
      exact body_by Pr_ok (b713_TTF (byteRows s) o n c k) (by rw [w1]) ⟨⟨⟨⟨⟨⟨⟨trivial, c0⟩, c1⟩, c2⟩, q1⟩, c3⟩, c4⟩, q2⟩ rfl
  · rw [Bool.and_eq_true] at h
    have q1 : (AV.toInt (List.getD (List.getD (byteRows s) (o + Int.toNat (k : Int)) []) 0 AV.undef) == (13 : Int)) = true := by rw [b1, i1]; exact h.1
    have q2 : (AV.toInt (List.getD (List.getD (byteRows s) (o + Int.toNat (IntKind.wrap IntKind.i64 ((k : Int) + (1 : Int)))) []) 0 AV.undef) == (10 : Int)) = true := by rw [b2, i2]; exact h.2
    have c5 : decide ((0 : Int) ≤ (0 : Int) ∧ (0 : Int) ≤ (k : Int) ∧ (k : Int) ≤ (c : Int) ∧ (c : Int) ≤ (c : Int)) = true := decide_eq_true (by omega)
    have c6 : decide (o + (Int.toNat (k : Int) - 0) ≤ List.length (byteRows s)) = true := decide_eq_true (by rw [byteRows_length, Int.toNat_natCast]; omega)
    have c7 : decide ((0 : Int) ≤ IntKind.wrap IntKind.i64 ((k : Int) + (2 : Int)) ∧ IntKind.wrap IntKind.i64 ((k : Int) + (2 : Int)) ≤ (n : Int) ∧ (n : Int) ≤ (c : Int) ∧ (c : Int) ≤ (c : Int)) = true := decide_eq_true (by rw [w2]; omega)
    have e1 : List.map rowByte (sub (byteRows s) o (Int.toNat (k : Int) - 0)) = (sub s o n).take k := by
      rw [sub_map, rowsB, Int.toNat_natCast, Nat.sub_zero]
      unfold sub
      rw [List.take_take, Nat.min_eq_left (by omega)]
    have hb := body_by Pr_ok (b713_TTT (byteRows s) o n c k) (by rw [e1]) ⟨⟨⟨⟨⟨⟨⟨⟨⟨⟨trivial, c0⟩, c1⟩, c2⟩, q1⟩, c3⟩, c4⟩, q2⟩, c5⟩, c6⟩, c7⟩ rfl
    refine ⟨_, _, _, hb, ?_, ?_, ?_, ?_⟩
    · rw [w2, Int.toNat_natCast, Int.toNat_natCast]
      unfold cutI
      simp only
      split <;> (try simp only [Int.toNat_natCast]) <;> omega
    · rw [w2, Int.toNat_natCast, Int.toNat_natCast, Int.toNat_natCast]; omega
    · rw [w2, Int.toNat_natCast, Int.toNat_natCast]
      unfold cutI
      simp only
      split
      · have : n - (k + 2) = 0 := by omega
        rw [this]
        have : List.drop (k + 2) (sub s o n) = [] := List.drop_eq_nil_of_le (by rw [hl]; omega)
        rw [this]; simp [sub]
      · rw [Int.toNat_natCast]
        unfold sub
        rw [List.drop_take, List.drop_drop]
    · rw [w2, Int.toNat_natCast, Int.toNat_natCast]; omega
theorem loop713 {s : List UInt8} {o n c : Nat} (ho : o + n ≤ s.length) (hc : n ≤ c) (hs : s.length ≤ 1048576) :
    (spFound (sub s o n) [13, 10] = false → LoopOK Tryz.prog (lbody Tryz.prog 71 0) 34 (b713I (byteRows s) o n c 0) (.exit 0) (e713 (byteRows s))) ∧
    (spFound (sub s o n) [13, 10] = true → ∃ o2 n2 c2, LoopOK Tryz.prog (lbody Tryz.prog 71 0) 34 (b713I (byteRows s) o n c 0) .ret (r713 (byteRows s) (spBefore (sub s o n) [13, 10]) o2 n2 c2) ∧ o2 + n2 ≤ s.length ∧ n2 ≤ c2 ∧ sub s o2 n2 = spAfter (sub s o n) [13, 10] ∧ n2 + 2 ≤ n) := by
  have hl : (sub s o n).length = n := sub_length ho
  rcases Lib.index_spec (sub s o n) [13, 10] with ⟨h1, h2⟩ | ⟨i, h1, h2, h3, h4⟩
  · have hf : spFound (sub s o n) [13, 10] = false := by
      unfold spFound Lib.cut
      rw [h1]; rfl
    refine ⟨fun _ => ?_, fun h => (by rw [hf] at h; cases h)⟩
    refine loop_rule (X := Nat) (I := fun k => b713I (byteRows s) o n c (k : Int)) (pre := fun k => k ≤ n) (μ := fun k => n - k) _ _ rfl (fun ρ => by simp [Ex.conc]) ?_ (x0 := 0) (pick := []) (Nat.zero_le _) ⟨by kernel_rfl, map_fst_snd (by kernel_rfl)⟩
    intro k hk
    by_cases hkn : k + 1 < n
    · left
      exact ⟨k + 1, by omega, by omega, (round713 ho hc hs hkn).1 (h2 k (by rw [hl]; omega))⟩
    · right
      have w1 : IntKind.wrap IntKind.i64 ((k : Int) + 1) = ((k + 1 : Nat) : Int) := succ64 (n := n + 1) (by omega) (by omega)
      exact body_by Pr_ok (b713_F (byteRows s) o n c k) rfl ⟨trivial, decide_eq_false (by rw [w1]; omega)⟩ rfl
  · have hin : i + 1 < n := by
      by_cases h : i + 1 < n
      · exact h
      · rw [occ_end (by rw [hl]; omega)] at h3; cases h3
    have hf : spFound (sub s o n) [13, 10] = true := by
      unfold spFound Lib.cut
      rw [h1, if_pos (show 0 ≤ (i : Int) by omega)]
    have hb : spBefore (sub s o n) [13, 10] = (sub s o n).take i := by
      unfold spBefore Lib.cut
      rw [h1, if_pos (show 0 ≤ (i : Int) by omega), Int.toNat_natCast]
    have ha : spAfter (sub s o n) [13, 10] = (sub s o n).drop (i + 2) := by
      unfold spAfter Lib.cut
      rw [h1, if_pos (show 0 ≤ (i : Int) by omega), Int.toNat_natCast]; rfl
    refine ⟨fun h => (by rw [hf] at h; cases h), fun _ => ?_⟩
    obtain ⟨o2, n2, c2, hbody, e1, e2, e3, e4⟩ := (round713 ho hc hs hin).2 h3
    refine ⟨o2, n2, c2, ?_, e1, e2, by rw [ha]; exact e3, by omega⟩
    rw [hb]
    refine loop_rule (X := Nat) (I := fun k => b713I (byteRows s) o n c (k : Int)) (pre := fun k => k ≤ i) (μ := fun k => i - k) _ _ rfl (fun ρ => by simp [Ex.conc]) ?_ (x0 := 0) (pick := []) (Nat.zero_le _) ⟨by kernel_rfl, map_fst_snd (by kernel_rfl)⟩
    intro k hk
    by_cases hki : k = i
    · right; subst hki; exact hbody
    · left
      exact ⟨k + 1, by omega, by omega, (round713 ho hc hs (by omega)).1 (h4 k (by omega))⟩
end Go.Proofs.YtpdgmgkkbbndfaaGreatDoor

namespace Go.Proofs
open Go.Shelf
end Go.Proofs

set_option maxRecDepth 100000
namespace Go.Proofs.YtpdgmgkkbbndfaaGreatDoor
open Go Go.Proofs Go.Proofs.YtpdgmgkkbbndfaaGreatDoor.SX
def crlf : List UInt8 := [13, 10]
def spSplit (s : List UInt8) : List (List UInt8) := (spLines s).map Prod.fst
theorem split_pos (s : List UInt8) : 0 < (spSplit s).length := by
  unfold spSplit spLines spLinesF
  cases spFound s [13, 10] <;> simp
end Go.Proofs.YtpdgmgkkbbndfaaGreatDoor

set_option maxRecDepth 100000
set_option maxHeartbeats 1600000
namespace Go.Proofs.YtpdgmgkkbbndfaaGreatDoor
open Go Go.Proofs Go.Proofs.YtpdgmgkkbbndfaaGreatDoor.SX
def c4 : List UInt8 := [13, 10, 13, 10]
def colon : List UInt8 := [58, 32]
def hrow (l : List UInt8) : List AV := [.str (spBefore l colon), .str (spAfter l colon)]
structure LsOK (lrows : List (List AV)) (o m : Nat) (ls : List (List UInt8)) : Prop where
  len : ls.length = m
  le : m ≤ 5000
  at_ : ∀ k (h : k < ls.length), lrows.getD (o + k) [] = [AV.str ls[k]] ∧ o + k < lrows.length
  sz : ∀ l ∈ ls, l.length < 4294967281
end Go.Proofs.YtpdgmgkkbbndfaaGreatDoor

set_option maxRecDepth 100000
namespace Go.Proofs.YtpdgmgkkbbndfaaGreatDoor
open Go Go.Proofs Go.Proofs.YtpdgmgkkbbndfaaGreatDoor.SX
end Go.Proofs.YtpdgmgkkbbndfaaGreatDoor

set_option maxRecDepth 100000
namespace Go.Proofs.YtpdgmgkkbbndfaaGreatDoor
open Go Go.Proofs Go.Proofs.YtpdgmgkkbbndfaaGreatDoor.SX
end Go.Proofs.YtpdgmgkkbbndfaaGreatDoor

set_option maxRecDepth 100000
set_option maxHeartbeats 1600000
namespace Go.Proofs.YtpdgmgkkbbndfaaGreatDoor
open Go Go.Proofs Go.Proofs.YtpdgmgkkbbndfaaGreatDoor.SX
structure SzOK (start : List UInt8) (rows : List (List AV)) (bn : Nat) : Prop where
  st : start.length ≤ 4294967200
  len : rows.length ≤ 1000
  short : rows.all short = true
  bn : bn ≤ 140737488355328
theorem msg_ins0 {w : World} {r1 r2 : List (List AV)} {v1 v2 : Value} (gw : GW w) (h1 : Reads w [.str, .str] r1 v1) (h2 : Reads w [.int .u8] r2 v2) :
    ∃ ρ0 : Nat → BI, HSim ρ0 (addBlks .e 0 [Blk.cells false [Kd.str, Kd.str] r1, Blk.cells false [Kd.int IntKind.u8] r2]) ([Blk.cells false [Kd.str, Kd.str] r1, Blk.cells false [Kd.int IntKind.u8] r2] : List Blk).length w ∧ conc ρ0 (.slq 0 r1.length) = v1 ∧ conc ρ0 (.slq 1 r2.length) = v2 := by
  obtain ⟨b1, hb1⟩ := h1.bi gw rfl
  obtain ⟨b2, hb2⟩ := h2.bi gw rfl
  refine ⟨fun i => if i = 0 then b1 else b2, HSim.ins gw (fun i blk hi => ?_), (hb1 _ 0 rfl).1, (hb2 _ 1 rfl).1⟩
  match i with
  | 0 => simp at hi; subst hi; exact ⟨(hb1 _ 0 rfl).2, rfl, rfl⟩
  | 1 => simp at hi; subst hi; exact ⟨(hb2 _ 1 rfl).2, rfl, rfl⟩
  | i + 2 => simp at hi
theorem two_ro {ρ : Nat → BI} {hp : Tr Blk} {nx : Nat} {w : World} {hv bv : AV} {c1 c2 : Bool} {hrows brows : List (List AV)} (hs : HSim ρ hp nx w) (hs1 : slIn hp [.str, .str] hv = some (c1, hrows)) (hc1 : c1 = true) (hs2 : slIn hp [.int .u8] bv = some (c2, brows)) (hc2 : c2 = true) :
    ∃ ρ0 : Nat → BI, HSim ρ0 (addBlks .e 0 [Blk.cells false [Kd.str, Kd.str] hrows, Blk.cells false [Kd.int IntKind.u8] brows]) ([Blk.cells false [Kd.str, Kd.str] hrows, Blk.cells false [Kd.int IntKind.u8] brows] : List Blk).length w ∧ conc ρ0 (.slq 0 hrows.length) = conc ρ hv ∧ conc ρ0 (.slq 1 brows.length) = conc ρ bv :=
  msg_ins0 hs.gw (slIn_spec hs hs1 hc1 rfl) (slIn_spec hs hs2 hc2 rfl)
end Go.Proofs.YtpdgmgkkbbndfaaGreatDoor

