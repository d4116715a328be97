/- Part 4 of the proof: texts that the last one builds upon. Conditions: as each theorem says. -/
import Derived.Test.YtpdgmgkkbbndfaaGreatDoorB2
import Derived.Shelf.Strings.Split
import Derived.Test.YtpdgmgkkbbndfaaGreatDoorProg
import Derived.Shelf.LaysM
import Derived.Shelf.Bytes.Bytes
import Derived.Shelf.LaysC
import Derived.Shelf.Bytes.GrowKept
import Derived.Shelf.Bytes.WriteStringKept
import Derived.Shelf.Bytes.WriteAny
import Derived.Shelf.Bytes.Small
import Derived.Lib.BufferKept
import Derived.Lib.BufferOld
import Derived.Lib.Strings
import Derived.WalkKit
import Derived.BigCall
set_option linter.unusedSectionVars false
set_option linter.unusedSimpArgs false
set_option linter.unusedVariables false
set_option maxRecDepth 100000
namespace Go.Proofs.YtpdgmgkkbbndfaaGreatDoor
open Go Go.Proofs Go.Proofs.YtpdgmgkkbbndfaaGreatDoor.SX
def b23zI (start hs ts : List UInt8) (n m mn : Nat) (p tp : Int) (mrows hrows : List (List AV)) (k : Int) : SL := ⟨[(12, .ptr ⟨4, 0, 0⟩), (13, .ptr ⟨7, 0, 0⟩), (14, .ptr ⟨8, 0, 0⟩), (15, .ptr ⟨10, 0, 0⟩), (64, .sl ⟨9, 0, 0⟩ n .open_), (65, .int .i64 n), (66, .int .i64 k)], [(2, .cells false [.int .u16, .int .u16] mrows), (8, .cells true [.str, .str, .int .i64, .int .i64, .any] [[.str hs, .str ts, .int .i64 p, .int .i64 tp, .slq 2 mn]]), (9, .cells true [.str, .str] hrows), (10, .cells true [.str, .any, .any] [[.str start, .sl ⟨9, 0, 0⟩ n .open_, .nilSl]])], 13⟩
def b23oI (start hs ts : List UInt8) (n m mn : Nat) (p tp : Int) (mrows hrows : List (List AV)) (k : Int) : SL := ⟨[(12, .ptr ⟨4, 0, 0⟩), (13, .ptr ⟨7, 0, 0⟩), (14, .ptr ⟨8, 0, 0⟩), (15, .ptr ⟨10, 0, 0⟩), (64, .sl ⟨9, 0, 0⟩ n .open_), (65, .int .i64 n), (66, .int .i64 k)], [(2, .cells false [.int .u16, .int .u16] mrows), (8, .cells true [.str, .str, .int .i64, .int .i64, .any] [[.str hs, .str ts, .int .i64 p, .int .i64 tp, .slq 2 mn]]), (9, .cells true [.str, .str] hrows), (10, .cells true [.str, .any, .any] [[.str start, .sl ⟨9, 0, 0⟩ n .open_, .sl ⟨13, 0, 0⟩ m .open_]])], 14⟩
def b23zk0 (start hs ts : List UInt8) (n m mn : Nat) (p tp : Int) (mrows hrows : List (List AV)) (k : Int) : Bool := decide (k < (↑n : Int))
def b23zk1 (start hs ts : List UInt8) (n m mn : Nat) (p tp : Int) (mrows hrows : List (List AV)) (k : Int) : Bool := decide ((0 : Int) ≤ k ∧ k < (↑n : Int))
def b23zk2 (start hs ts : List UInt8) (n m mn : Nat) (p tp : Int) (mrows hrows : List (List AV)) (k : Int) : Bool := decide (0 + Int.toNat k < List.length hrows)
def b23zk3 (start hs ts : List UInt8) (n m mn : Nat) (p tp : Int) (mrows hrows : List (List AV)) (k : Int) : Bool := decide (List.length (AV.toStr (List.getD (List.getD hrows (0 + Int.toNat k) []) (0) AV.undef)) ≤ 140737488355328)
def b23zk4 (start hs ts : List UInt8) (n m mn : Nat) (p tp : Int) (mrows hrows : List (List AV)) (k : Int) : Bool := spLow (AV.toStr (List.getD (List.getD hrows (0 + Int.toNat k) []) (0) AV.undef)) == [(118 : UInt8), (105 : UInt8), (97 : UInt8)]
def b23zk5 (start hs ts : List UInt8) (n m mn : Nat) (p tp : Int) (mrows hrows : List (List AV)) (k : Int) : Bool := (decide (0 + mn ≤ List.length mrows) && decide (List.length (AV.toStr (List.getD (List.getD hrows (0 + Int.toNat k) []) (1) AV.undef)) ≤ 4294967200 ∧ 12 ≤ 4294967200 ∧ List.length hs ≤ 140737488355328 ∧ List.length ts ≤ 140737488355328 ∧ (Int.negSucc (9223372036854775807) ≤ tp ∧ tp ≤ (9223372036854775807 : Int)) ∧ ([(59 : UInt8)] = [(62 : UInt8), (59 : UInt8)] ∨ [(59 : UInt8)] = [(59 : UInt8)])))
def b23zk6 (start hs ts : List UInt8) (n m mn : Nat) (p tp : Int) (mrows hrows : List (List AV)) (k : Int) : Bool := decide (1 < List.length (List.getD hrows (0 + Int.toNat k) []))
theorem b23z_TT (start : List UInt8) (hs : List UInt8) (ts : List UInt8) (n : Nat) (m : Nat) (mn : Nat) (p : Int) (tp : Int) (mrows : List (List AV)) (hrows : List (List AV)) (k : Int) :
 Path (run Tryz.prog P6w 100 (lbody Tryz.prog 23 0) (SL.mp 113 ([pT, pT]) (b23zI start hs ts n m mn p tp mrows hrows k))) 13 [] (b23zI (start) (hs) (ts) (n) (m) (mn) (p) (tp) (mrows) (setAt hrows (0 + Int.toNat k) (1) (AV.str (spBehind hs ts (AV.toStr (List.getD (List.getD hrows (0 + Int.toNat k) []) (1) AV.undef)) [(83 : UInt8), (73 : UInt8), (80 : UInt8), (47 : UInt8), (50 : UInt8), (46 : UInt8), (48 : UInt8), (47 : UInt8), (85 : UInt8), (68 : UInt8), (80 : UInt8), (32 : UInt8)] [(59 : UInt8)] p tp))) (IntKind.wrap IntKind.i64 (k + (1 : Int)))) (Ex.normal)
 (((((((((((((((((True ∧ b23zk0 start hs ts n m mn p tp mrows hrows k = true) ∧ b23zk1 start hs ts n m mn p tp mrows hrows k = true) ∧ b23zk2 start hs ts n m mn p tp mrows hrows k = true) ∧ true = true) ∧ true = true) ∧ true = true) ∧ true = true) ∧ true = true) ∧ b23zk3 start hs ts n m mn p tp mrows hrows k = true) ∧ b23zk4 start hs ts n m mn p tp mrows hrows k = true) ∧ true = true) ∧ true = true) ∧ true = true) ∧ b23zk5 start hs ts n m mn p tp mrows hrows k = true) ∧ b23zk1 start hs ts n m mn p tp mrows hrows k = true) ∧ b23zk2 start hs ts n m mn p tp mrows hrows k = true) ∧ b23zk6 start hs ts n m mn p tp mrows hrows k = true) := by unfold Path; kernel_rfl
def b23zk7 (start hs ts : List UInt8) (n m mn : Nat) (p tp : Int) (mrows hrows : List (List AV)) (k : Int) : Bool := spLow (AV.toStr (List.getD (List.getD hrows (0 + Int.toNat k) []) (0) AV.undef)) == [(99 : UInt8), (111 : UInt8), (110 : UInt8), (116 : UInt8), (97 : UInt8), (99 : UInt8), (116 : UInt8)]
def b23zk8 (start hs ts : List UInt8) (n m mn : Nat) (p tp : Int) (mrows hrows : List (List AV)) (k : Int) : Bool := (decide (0 + mn ≤ List.length mrows) && decide (List.length (AV.toStr (List.getD (List.getD hrows (0 + Int.toNat k) []) (1) AV.undef)) ≤ 4294967200 ∧ 1 ≤ 4294967200 ∧ List.length hs ≤ 140737488355328 ∧ List.length ts ≤ 140737488355328 ∧ (Int.negSucc (9223372036854775807) ≤ tp ∧ tp ≤ (9223372036854775807 : Int)) ∧ ([(62 : UInt8), (59 : UInt8)] = [(62 : UInt8), (59 : UInt8)] ∨ [(62 : UInt8), (59 : UInt8)] = [(59 : UInt8)])))
theorem b23z_TFT (start : List UInt8) (hs : List UInt8) (ts : List UInt8) (n : Nat) (m : Nat) (mn : Nat) (p : Int) (tp : Int) (mrows : List (List AV)) (hrows : List (List AV)) (k : Int) :
 Path (run Tryz.prog P6w 100 (lbody Tryz.prog 23 0) (SL.mp 113 ([pT, pF, pT]) (b23zI start hs ts n m mn p tp mrows hrows k))) 13 [] (b23zI (start) (hs) (ts) (n) (m) (mn) (p) (tp) (mrows) (setAt hrows (0 + Int.toNat k) (1) (AV.str (spBehind hs ts (AV.toStr (List.getD (List.getD hrows (0 + Int.toNat k) []) (1) AV.undef)) [(64 : UInt8)] [(62 : UInt8), (59 : UInt8)] p tp))) (IntKind.wrap IntKind.i64 (k + (1 : Int)))) (Ex.normal)
 ((((((((((((((((((True ∧ b23zk0 start hs ts n m mn p tp mrows hrows k = true) ∧ b23zk1 start hs ts n m mn p tp mrows hrows k = true) ∧ b23zk2 start hs ts n m mn p tp mrows hrows k = true) ∧ true = true) ∧ true = true) ∧ true = true) ∧ true = true) ∧ true = true) ∧ b23zk3 start hs ts n m mn p tp mrows hrows k = true) ∧ b23zk4 start hs ts n m mn p tp mrows hrows k = false) ∧ b23zk7 start hs ts n m mn p tp mrows hrows k = true) ∧ true = true) ∧ true = true) ∧ true = true) ∧ b23zk8 start hs ts n m mn p tp mrows hrows k = true) ∧ b23zk1 start hs ts n m mn p tp mrows hrows k = true) ∧ b23zk2 start hs ts n m mn p tp mrows hrows k = true) ∧ b23zk6 start hs ts n m mn p tp mrows hrows k = true) := by unfold Path; kernel_rfl
def b23zk9 (start hs ts : List UInt8) (n m mn : Nat) (p tp : Int) (mrows hrows : List (List AV)) (k : Int) : Bool := spLow (AV.toStr (List.getD (List.getD hrows (0 + Int.toNat k) []) (0) AV.undef)) == [(99 : UInt8), (111 : UInt8), (110 : UInt8), (116 : UInt8), (101 : UInt8), (110 : UInt8), (116 : UInt8), (45 : UInt8), (108 : UInt8), (101 : UInt8), (110 : UInt8), (103 : UInt8), (116 : UInt8), (104 : UInt8)]
theorem b23z_TFFT (start : List UInt8) (hs : List UInt8) (ts : List UInt8) (n : Nat) (m : Nat) (mn : Nat) (p : Int) (tp : Int) (mrows : List (List AV)) (hrows : List (List AV)) (k : Int) :
 Path (run Tryz.prog P6w 100 (lbody Tryz.prog 23 0) (SL.mp 113 ([pT, pF, pF, pT]) (b23zI start hs ts n m mn p tp mrows hrows k))) 13 [] (b23zI (start) (hs) (ts) (n) (m) (mn) (p) (tp) (mrows) (setAt hrows (0 + Int.toNat k) (1) (AV.str [(48 : UInt8)])) (IntKind.wrap IntKind.i64 (k + (1 : Int)))) (Ex.normal)
 ((((((((((((((((((True ∧ b23zk0 start hs ts n m mn p tp mrows hrows k = true) ∧ b23zk1 start hs ts n m mn p tp mrows hrows k = true) ∧ b23zk2 start hs ts n m mn p tp mrows hrows k = true) ∧ true = true) ∧ true = true) ∧ true = true) ∧ true = true) ∧ true = true) ∧ b23zk3 start hs ts n m mn p tp mrows hrows k = true) ∧ b23zk4 start hs ts n m mn p tp mrows hrows k = false) ∧ b23zk7 start hs ts n m mn p tp mrows hrows k = false) ∧ b23zk9 start hs ts n m mn p tp mrows hrows k = true) ∧ true = true) ∧ true = true) ∧ true = true) ∧ b23zk1 start hs ts n m mn p tp mrows hrows k = true) ∧ b23zk2 start hs ts n m mn p tp mrows hrows k = true) ∧ b23zk6 start hs ts n m mn p tp mrows hrows k = true) := by unfold Path; kernel_rfl
theorem b23z_TFFF (start : List UInt8) (hs : List UInt8) (ts : List UInt8) (n : Nat) (m : Nat) (mn : Nat) (p : Int) (tp : Int) (mrows : List (List AV)) (hrows : List (List AV)) (k : Int) :
 Path (run Tryz.prog P6w 100 (lbody Tryz.prog 23 0) (SL.mp 113 ([pT, pF, pF, pF]) (b23zI start hs ts n m mn p tp mrows hrows k))) 13 [] (b23zI (start) (hs) (ts) (n) (m) (mn) (p) (tp) (mrows) (hrows) (IntKind.wrap IntKind.i64 (k + (1 : Int)))) (Ex.normal)
 ((((((((((((True ∧ b23zk0 start hs ts n m mn p tp mrows hrows k = true) ∧ b23zk1 start hs ts n m mn p tp mrows hrows k = true) ∧ b23zk2 start hs ts n m mn p tp mrows hrows k = true) ∧ true = true) ∧ true = true) ∧ true = true) ∧ true = true) ∧ true = true) ∧ b23zk3 start hs ts n m mn p tp mrows hrows k = true) ∧ b23zk4 start hs ts n m mn p tp mrows hrows k = false) ∧ b23zk7 start hs ts n m mn p tp mrows hrows k = false) ∧ b23zk9 start hs ts n m mn p tp mrows hrows k = false) := by unfold Path; kernel_rfl
theorem b23z_F (start : List UInt8) (hs : List UInt8) (ts : List UInt8) (n : Nat) (m : Nat) (mn : Nat) (p : Int) (tp : Int) (mrows : List (List AV)) (hrows : List (List AV)) (k : Int) :
 Path (run Tryz.prog P6w 100 (lbody Tryz.prog 23 0) (SL.mp 113 ([pF]) (b23zI start hs ts n m mn p tp mrows hrows k))) 13 [] (b23zI (start) (hs) (ts) (n) (m) (mn) (p) (tp) (mrows) (hrows) (k)) (Ex.exit 2)
 (True ∧ b23zk0 start hs ts n m mn p tp mrows hrows k = false) := by unfold Path; kernel_rfl
def b23z_cls (start hs ts : List UInt8) (n m mn : Nat) (p tp : Int) (mrows hrows : List (List AV)) (k : Int) : Nat := (bif b23zk0 start hs ts n m mn p tp mrows hrows k then (bif b23zk4 start hs ts n m mn p tp mrows hrows k then 0 else (bif b23zk7 start hs ts n m mn p tp mrows hrows k then 1 else (bif b23zk9 start hs ts n m mn p tp mrows hrows k then 2 else 3))) else 4)
theorem b23z_c0 (start hs ts : List UInt8) (n m mn : Nat) (p tp : Int) (mrows hrows : List (List AV)) (k : Int) (h : b23z_cls start hs ts n m mn p tp mrows hrows k = 0) (m0 : b23zk0 start hs ts n m mn p tp mrows hrows k = true → b23zk1 start hs ts n m mn p tp mrows hrows k = true) (m1 : b23zk0 start hs ts n m mn p tp mrows hrows k = true → b23zk2 start hs ts n m mn p tp mrows hrows k = true) (m2 : b23zk0 start hs ts n m mn p tp mrows hrows k = true → b23zk3 start hs ts n m mn p tp mrows hrows k = true) (m3 : b23zk0 start hs ts n m mn p tp mrows hrows k = true → b23zk4 start hs ts n m mn p tp mrows hrows k = true → b23zk5 start hs ts n m mn p tp mrows hrows k = true) (m4 : b23zk0 start hs ts n m mn p tp mrows hrows k = true → b23zk4 start hs ts n m mn p tp mrows hrows k = true → b23zk6 start hs ts n m mn p tp mrows hrows k = true) : BodyOK Tryz.prog (lbody Tryz.prog 23 0) 113 13 (b23zI start hs ts n m mn p tp mrows hrows k) (Ex.normal) (b23zI (start) (hs) (ts) (n) (m) (mn) (p) (tp) (mrows) (setAt hrows (0 + Int.toNat k) (1) (AV.str (spBehind hs ts (AV.toStr (List.getD (List.getD hrows (0 + Int.toNat k) []) (1) AV.undef)) [(83 : UInt8), (73 : UInt8), (80 : UInt8), (47 : UInt8), (50 : UInt8), (46 : UInt8), (48 : UInt8), (47 : UInt8), (85 : UInt8), (68 : UInt8), (80 : UInt8), (32 : UInt8)] [(59 : UInt8)] p tp))) (IntKind.wrap IntKind.i64 (k + (1 : Int)))) := by
  unfold b23z_cls at h
  cases q1 : b23zk0 start hs ts n m mn p tp mrows hrows k with
  | true =>
    rw [q1, cond_true] at h
    cases q2 : b23zk4 start hs ts n m mn p tp mrows hrows k with
    | true =>
      rw [q2, cond_true] at h
      exact body_by P6w_ok (b23z_TT start hs ts n m mn p tp mrows hrows k) rfl (by simp only [q1, q2, (m0 q1), (m1 q1), (m2 q1), (m3 q1 q2), (m4 q1 q2), eq_self, and_true, true_and]) rfl
    | false =>
      rw [q2, cond_false] at h
      cases q3 : b23zk7 start hs ts n m mn p tp mrows hrows k with
      | true =>
        rw [q3, cond_true] at h
        exact absurd h (by decide)
      | false =>
        rw [q3, cond_false] at h
        cases q4 : b23zk9 start hs ts n m mn p tp mrows hrows k with
        | true =>
          rw [q4, cond_true] at h
          exact absurd h (by decide)
        | false =>
          rw [q4, cond_false] at h
          exact absurd h (by decide)
  | false =>
    rw [q1, cond_false] at h
    exact absurd h (by decide)
theorem b23z_c1 (start hs ts : List UInt8) (n m mn : Nat) (p tp : Int) (mrows hrows : List (List AV)) (k : Int) (h : b23z_cls start hs ts n m mn p tp mrows hrows k = 1) (m0 : b23zk0 start hs ts n m mn p tp mrows hrows k = true → b23zk1 start hs ts n m mn p tp mrows hrows k = true) (m1 : b23zk0 start hs ts n m mn p tp mrows hrows k = true → b23zk2 start hs ts n m mn p tp mrows hrows k = true) (m2 : b23zk0 start hs ts n m mn p tp mrows hrows k = true → b23zk3 start hs ts n m mn p tp mrows hrows k = true) (m3 : b23zk0 start hs ts n m mn p tp mrows hrows k = true → b23zk4 start hs ts n m mn p tp mrows hrows k = false → b23zk7 start hs ts n m mn p tp mrows hrows k = true → b23zk8 start hs ts n m mn p tp mrows hrows k = true) (m4 : b23zk0 start hs ts n m mn p tp mrows hrows k = true → b23zk4 start hs ts n m mn p tp mrows hrows k = false → b23zk7 start hs ts n m mn p tp mrows hrows k = true → b23zk6 start hs ts n m mn p tp mrows hrows k = true) : BodyOK Tryz.prog (lbody Tryz.prog 23 0) 113 13 (b23zI start hs ts n m mn p tp mrows hrows k) (Ex.normal) (b23zI (start) (hs) (ts) (n) (m) (mn) (p) (tp) (mrows) (setAt hrows (0 + Int.toNat k) (1) (AV.str (spBehind hs ts (AV.toStr (List.getD (List.getD hrows (0 + Int.toNat k) []) (1) AV.undef)) [(64 : UInt8)] [(62 : UInt8), (59 : UInt8)] p tp))) (IntKind.wrap IntKind.i64 (k + (1 : Int)))) := by
  unfold b23z_cls at h
  cases q1 : b23zk0 start hs ts n m mn p tp mrows hrows k with
  | true =>
    rw [q1, cond_true] at h
    cases q2 : b23zk4 start hs ts n m mn p tp mrows hrows k with
    | true =>
      rw [q2, cond_true] at h
      exact absurd h (by decide)
    | false =>
      rw [q2, cond_false] at h
      cases q3 : b23zk7 start hs ts n m mn p tp mrows hrows k with
      | true =>
        rw [q3, cond_true] at h
        exact body_by P6w_ok (b23z_TFT start hs ts n m mn p tp mrows hrows k) rfl (by simp only [q1, q2, q3, (m0 q1), (m1 q1), (m2 q1), (m3 q1 q2 q3), (m4 q1 q2 q3), eq_self, and_true, true_and]) rfl
      | false =>
        rw [q3, cond_false] at h
        cases q4 : b23zk9 start hs ts n m mn p tp mrows hrows k with
        | true =>
          rw [q4, cond_true] at h
          exact absurd h (by decide)
        | false =>
          rw [q4, cond_false] at h
          exact absurd h (by decide)
  | false =>
    rw [q1, cond_false] at h
    exact absurd h (by decide)
theorem b23z_c2 (start hs ts : List UInt8) (n m mn : Nat) (p tp : Int) (mrows hrows : List (List AV)) (k : Int) (h : b23z_cls start hs ts n m mn p tp mrows hrows k = 2) (m0 : b23zk0 start hs ts n m mn p tp mrows hrows k = true → b23zk1 start hs ts n m mn p tp mrows hrows k = true) (m1 : b23zk0 start hs ts n m mn p tp mrows hrows k = true → b23zk2 start hs ts n m mn p tp mrows hrows k = true) (m2 : b23zk0 start hs ts n m mn p tp mrows hrows k = true → b23zk3 start hs ts n m mn p tp mrows hrows k = true) (m3 : b23zk0 start hs ts n m mn p tp mrows hrows k = true → b23zk4 start hs ts n m mn p tp mrows hrows k = false → b23zk7 start hs ts n m mn p tp mrows hrows k = false → b23zk9 start hs ts n m mn p tp mrows hrows k = true → b23zk6 start hs ts n m mn p tp mrows hrows k = true) : BodyOK Tryz.prog (lbody Tryz.prog 23 0) 113 13 (b23zI start hs ts n m mn p tp mrows hrows k) (Ex.normal) (b23zI (start) (hs) (ts) (n) (m) (mn) (p) (tp) (mrows) (setAt hrows (0 + Int.toNat k) (1) (AV.str [(48 : UInt8)])) (IntKind.wrap IntKind.i64 (k + (1 : Int)))) := by
  unfold b23z_cls at h
  cases q1 : b23zk0 start hs ts n m mn p tp mrows hrows k with
  | true =>
    rw [q1, cond_true] at h
    cases q2 : b23zk4 start hs ts n m mn p tp mrows hrows k with
    | true =>
      rw [q2, cond_true] at h
      exact absurd h (by decide)
    | false =>
      rw [q2, cond_false] at h
      cases q3 : b23zk7 start hs ts n m mn p tp mrows hrows k with
      | true =>
        rw [q3, cond_true] at h
        exact absurd h (by decide)
      | false =>
        rw [q3, cond_false] at h
        cases q4 : b23zk9 start hs ts n m mn p tp mrows hrows k with
        | true =>
          rw [q4, cond_true] at h
          exact body_by P6w_ok (b23z_TFFT start hs ts n m mn p tp mrows hrows k) rfl (by simp only [q1, q2, q3, q4, (m0 q1), (m1 q1), (m2 q1), (m3 q1 q2 q3 q4), eq_self, and_true, true_and]) rfl
        | false =>
          rw [q4, cond_false] at h
          exact absurd h (by decide)
  | false =>
    rw [q1, cond_false] at h
    exact absurd h (by decide)
theorem b23z_c3 (start hs ts : List UInt8) (n m mn : Nat) (p tp : Int) (mrows hrows : List (List AV)) (k : Int) (h : b23z_cls start hs ts n m mn p tp mrows hrows k = 3) (m0 : b23zk0 start hs ts n m mn p tp mrows hrows k = true → b23zk1 start hs ts n m mn p tp mrows hrows k = true) (m1 : b23zk0 start hs ts n m mn p tp mrows hrows k = true → b23zk2 start hs ts n m mn p tp mrows hrows k = true) (m2 : b23zk0 start hs ts n m mn p tp mrows hrows k = true → b23zk3 start hs ts n m mn p tp mrows hrows k = true) : BodyOK Tryz.prog (lbody Tryz.prog 23 0) 113 13 (b23zI start hs ts n m mn p tp mrows hrows k) (Ex.normal) (b23zI (start) (hs) (ts) (n) (m) (mn) (p) (tp) (mrows) (hrows) (IntKind.wrap IntKind.i64 (k + (1 : Int)))) := by
  unfold b23z_cls at h
  cases q1 : b23zk0 start hs ts n m mn p tp mrows hrows k with
  | true =>
    rw [q1, cond_true] at h
    cases q2 : b23zk4 start hs ts n m mn p tp mrows hrows k with
    | true =>
      rw [q2, cond_true] at h
      exact absurd h (by decide)
    | false =>
      rw [q2, cond_false] at h
      cases q3 : b23zk7 start hs ts n m mn p tp mrows hrows k with
      | true =>
        rw [q3, cond_true] at h
        exact absurd h (by decide)
      | false =>
        rw [q3, cond_false] at h
        cases q4 : b23zk9 start hs ts n m mn p tp mrows hrows k with
        | true =>
          rw [q4, cond_true] at h
          exact absurd h (by decide)
        | false =>
          rw [q4, cond_false] at h
          exact body_by P6w_ok (b23z_TFFF start hs ts n m mn p tp mrows hrows k) rfl (by simp only [q1, q2, q3, q4, (m0 q1), (m1 q1), (m2 q1), eq_self, and_true, true_and]) rfl
  | false =>
    rw [q1, cond_false] at h
    exact absurd h (by decide)
theorem b23z_c4 (start hs ts : List UInt8) (n m mn : Nat) (p tp : Int) (mrows hrows : List (List AV)) (k : Int) (h : b23z_cls start hs ts n m mn p tp mrows hrows k = 4)  : BodyOK Tryz.prog (lbody Tryz.prog 23 0) 113 13 (b23zI start hs ts n m mn p tp mrows hrows k) (Ex.exit 2) (b23zI (start) (hs) (ts) (n) (m) (mn) (p) (tp) (mrows) (hrows) (k)) := by
  unfold b23z_cls at h
  cases q1 : b23zk0 start hs ts n m mn p tp mrows hrows k with
  | true =>
    rw [q1, cond_true] at h
    cases q2 : b23zk4 start hs ts n m mn p tp mrows hrows k with
    | true =>
      rw [q2, cond_true] at h
      exact absurd h (by decide)
    | false =>
      rw [q2, cond_false] at h
      cases q3 : b23zk7 start hs ts n m mn p tp mrows hrows k with
      | true =>
        rw [q3, cond_true] at h
        exact absurd h (by decide)
      | false =>
        rw [q3, cond_false] at h
        cases q4 : b23zk9 start hs ts n m mn p tp mrows hrows k with
        | true =>
          rw [q4, cond_true] at h
          exact absurd h (by decide)
        | false =>
          rw [q4, cond_false] at h
          exact absurd h (by decide)
  | false =>
    rw [q1, cond_false] at h
    exact body_by P6w_ok (b23z_F start hs ts n m mn p tp mrows hrows k) rfl (by simp only [q1, eq_self, and_true, true_and]) rfl
def b23ok0 (start hs ts : List UInt8) (n m mn : Nat) (p tp : Int) (mrows hrows : List (List AV)) (k : Int) : Bool := decide (k < (↑n : Int))
def b23ok1 (start hs ts : List UInt8) (n m mn : Nat) (p tp : Int) (mrows hrows : List (List AV)) (k : Int) : Bool := decide ((0 : Int) ≤ k ∧ k < (↑n : Int))
def b23ok2 (start hs ts : List UInt8) (n m mn : Nat) (p tp : Int) (mrows hrows : List (List AV)) (k : Int) : Bool := decide (0 + Int.toNat k < List.length hrows)
def b23ok3 (start hs ts : List UInt8) (n m mn : Nat) (p tp : Int) (mrows hrows : List (List AV)) (k : Int) : Bool := decide (List.length (AV.toStr (List.getD (List.getD hrows (0 + Int.toNat k) []) (0) AV.undef)) ≤ 140737488355328)
def b23ok4 (start hs ts : List UInt8) (n m mn : Nat) (p tp : Int) (mrows hrows : List (List AV)) (k : Int) : Bool := spLow (AV.toStr (List.getD (List.getD hrows (0 + Int.toNat k) []) (0) AV.undef)) == [(118 : UInt8), (105 : UInt8), (97 : UInt8)]
def b23ok5 (start hs ts : List UInt8) (n m mn : Nat) (p tp : Int) (mrows hrows : List (List AV)) (k : Int) : Bool := (decide (0 + mn ≤ List.length mrows) && decide (List.length (AV.toStr (List.getD (List.getD hrows (0 + Int.toNat k) []) (1) AV.undef)) ≤ 4294967200 ∧ 12 ≤ 4294967200 ∧ List.length hs ≤ 140737488355328 ∧ List.length ts ≤ 140737488355328 ∧ (Int.negSucc (9223372036854775807) ≤ tp ∧ tp ≤ (9223372036854775807 : Int)) ∧ ([(59 : UInt8)] = [(62 : UInt8), (59 : UInt8)] ∨ [(59 : UInt8)] = [(59 : UInt8)])))
def b23ok6 (start hs ts : List UInt8) (n m mn : Nat) (p tp : Int) (mrows hrows : List (List AV)) (k : Int) : Bool := decide (1 < List.length (List.getD hrows (0 + Int.toNat k) []))
theorem b23o_TT (start : List UInt8) (hs : List UInt8) (ts : List UInt8) (n : Nat) (m : Nat) (mn : Nat) (p : Int) (tp : Int) (mrows : List (List AV)) (hrows : List (List AV)) (k : Int) :
 Path (run Tryz.prog P6w 100 (lbody Tryz.prog 23 0) (SL.mp 113 ([pT, pT]) (b23oI start hs ts n m mn p tp mrows hrows k))) 14 [] (b23oI (start) (hs) (ts) (n) (m) (mn) (p) (tp) (mrows) (setAt hrows (0 + Int.toNat k) (1) (AV.str (spBehind hs ts (AV.toStr (List.getD (List.getD hrows (0 + Int.toNat k) []) (1) AV.undef)) [(83 : UInt8), (73 : UInt8), (80 : UInt8), (47 : UInt8), (50 : UInt8), (46 : UInt8), (48 : UInt8), (47 : UInt8), (85 : UInt8), (68 : UInt8), (80 : UInt8), (32 : UInt8)] [(59 : UInt8)] p tp))) (IntKind.wrap IntKind.i64 (k + (1 : Int)))) (Ex.normal)
 (((((((((((((((((True ∧ b23ok0 start hs ts n m mn p tp mrows hrows k = true) ∧ b23ok1 start hs ts n m mn p tp mrows hrows k = true) ∧ b23ok2 start hs ts n m mn p tp mrows hrows k = true) ∧ true = true) ∧ true = true) ∧ true = true) ∧ true = true) ∧ true = true) ∧ b23ok3 start hs ts n m mn p tp mrows hrows k = true) ∧ b23ok4 start hs ts n m mn p tp mrows hrows k = true) ∧ true = true) ∧ true = true) ∧ true = true) ∧ b23ok5 start hs ts n m mn p tp mrows hrows k = true) ∧ b23ok1 start hs ts n m mn p tp mrows hrows k = true) ∧ b23ok2 start hs ts n m mn p tp mrows hrows k = true) ∧ b23ok6 start hs ts n m mn p tp mrows hrows k = true) := by unfold Path; kernel_rfl
def b23ok7 (start hs ts : List UInt8) (n m mn : Nat) (p tp : Int) (mrows hrows : List (List AV)) (k : Int) : Bool := spLow (AV.toStr (List.getD (List.getD hrows (0 + Int.toNat k) []) (0) AV.undef)) == [(99 : UInt8), (111 : UInt8), (110 : UInt8), (116 : UInt8), (97 : UInt8), (99 : UInt8), (116 : UInt8)]
def b23ok8 (start hs ts : List UInt8) (n m mn : Nat) (p tp : Int) (mrows hrows : List (List AV)) (k : Int) : Bool := (decide (0 + mn ≤ List.length mrows) && decide (List.length (AV.toStr (List.getD (List.getD hrows (0 + Int.toNat k) []) (1) AV.undef)) ≤ 4294967200 ∧ 1 ≤ 4294967200 ∧ List.length hs ≤ 140737488355328 ∧ List.length ts ≤ 140737488355328 ∧ (Int.negSucc (9223372036854775807) ≤ tp ∧ tp ≤ (9223372036854775807 : Int)) ∧ ([(62 : UInt8), (59 : UInt8)] = [(62 : UInt8), (59 : UInt8)] ∨ [(62 : UInt8), (59 : UInt8)] = [(59 : UInt8)])))
theorem b23o_TFT (start : List UInt8) (hs : List UInt8) (ts : List UInt8) (n : Nat) (m : Nat) (mn : Nat) (p : Int) (tp : Int) (mrows : List (List AV)) (hrows : List (List AV)) (k : Int) :
 Path (run Tryz.prog P6w 100 (lbody Tryz.prog 23 0) (SL.mp 113 ([pT, pF, pT]) (b23oI start hs ts n m mn p tp mrows hrows k))) 14 [] (b23oI (start) (hs) (ts) (n) (m) (mn) (p) (tp) (mrows) (setAt hrows (0 + Int.toNat k) (1) (AV.str (spBehind hs ts (AV.toStr (List.getD (List.getD hrows (0 + Int.toNat k) []) (1) AV.undef)) [(64 : UInt8)] [(62 : UInt8), (59 : UInt8)] p tp))) (IntKind.wrap IntKind.i64 (k + (1 : Int)))) (Ex.normal)
 ((((((((((((((((((True ∧ b23ok0 start hs ts n m mn p tp mrows hrows k = true) ∧ b23ok1 start hs ts n m mn p tp mrows hrows k = true) ∧ b23ok2 start hs ts n m mn p tp mrows hrows k = true) ∧ true = true) ∧ true = true) ∧ true = true) ∧ true = true) ∧ true = true) ∧ b23ok3 start hs ts n m mn p tp mrows hrows k = true) ∧ b23ok4 start hs ts n m mn p tp mrows hrows k = false) ∧ b23ok7 start hs ts n m mn p tp mrows hrows k = true) ∧ true = true) ∧ true = true) ∧ true = true) ∧ b23ok8 start hs ts n m mn p tp mrows hrows k = true) ∧ b23ok1 start hs ts n m mn p tp mrows hrows k = true) ∧ b23ok2 start hs ts n m mn p tp mrows hrows k = true) ∧ b23ok6 start hs ts n m mn p tp mrows hrows k = true) := by unfold Path; kernel_rfl
def b23ok9 (start hs ts : List UInt8) (n m mn : Nat) (p tp : Int) (mrows hrows : List (List AV)) (k : Int) : Bool := spLow (AV.toStr (List.getD (List.getD hrows (0 + Int.toNat k) []) (0) AV.undef)) == [(99 : UInt8), (111 : UInt8), (110 : UInt8), (116 : UInt8), (101 : UInt8), (110 : UInt8), (116 : UInt8), (45 : UInt8), (108 : UInt8), (101 : UInt8), (110 : UInt8), (103 : UInt8), (116 : UInt8), (104 : UInt8)]
def b23ok10 (start hs ts : List UInt8) (n m mn : Nat) (p tp : Int) (mrows hrows : List (List AV)) (k : Int) : Bool := decide (Int.negSucc (9223372036854775807) ≤ (↑m : Int) ∧ (↑m : Int) ≤ (9223372036854775807 : Int))
theorem b23o_TFFT (start : List UInt8) (hs : List UInt8) (ts : List UInt8) (n : Nat) (m : Nat) (mn : Nat) (p : Int) (tp : Int) (mrows : List (List AV)) (hrows : List (List AV)) (k : Int) :
 Path (run Tryz.prog P6w 100 (lbody Tryz.prog 23 0) (SL.mp 113 ([pT, pF, pF, pT]) (b23oI start hs ts n m mn p tp mrows hrows k))) 14 [] (b23oI (start) (hs) (ts) (n) (m) (mn) (p) (tp) (mrows) (setAt hrows (0 + Int.toNat k) (1) (AV.str (spItoa (↑m : Int)))) (IntKind.wrap IntKind.i64 (k + (1 : Int)))) (Ex.normal)
 ((((((((((((((((((True ∧ b23ok0 start hs ts n m mn p tp mrows hrows k = true) ∧ b23ok1 start hs ts n m mn p tp mrows hrows k = true) ∧ b23ok2 start hs ts n m mn p tp mrows hrows k = true) ∧ true = true) ∧ true = true) ∧ true = true) ∧ true = true) ∧ true = true) ∧ b23ok3 start hs ts n m mn p tp mrows hrows k = true) ∧ b23ok4 start hs ts n m mn p tp mrows hrows k = false) ∧ b23ok7 start hs ts n m mn p tp mrows hrows k = false) ∧ b23ok9 start hs ts n m mn p tp mrows hrows k = true) ∧ true = true) ∧ true = true) ∧ b23ok10 start hs ts n m mn p tp mrows hrows k = true) ∧ b23ok1 start hs ts n m mn p tp mrows hrows k = true) ∧ b23ok2 start hs ts n m mn p tp mrows hrows k = true) ∧ b23ok6 start hs ts n m mn p tp mrows hrows k = true) := by unfold Path; kernel_rfl
theorem b23o_TFFF (start : List UInt8) (hs : List UInt8) (ts : List UInt8) (n : Nat) (m : Nat) (mn : Nat) (p : Int) (tp : Int) (mrows : List (List AV)) (hrows : List (List AV)) (k : Int) :
 Path (run Tryz.prog P6w 100 (lbody Tryz.prog 23 0) (SL.mp 113 ([pT, pF, pF, pF]) (b23oI start hs ts n m mn p tp mrows hrows k))) 14 [] (b23oI (start) (hs) (ts) (n) (m) (mn) (p) (tp) (mrows) (hrows) (IntKind.wrap IntKind.i64 (k + (1 : Int)))) (Ex.normal)
 ((((((((((((True ∧ b23ok0 start hs ts n m mn p tp mrows hrows k = true) ∧ b23ok1 start hs ts n m mn p tp mrows hrows k = true) ∧ b23ok2 start hs ts n m mn p tp mrows hrows k = true) ∧ true = true) ∧ true = true) ∧ true = true) ∧ true = true) ∧ true = true) ∧ b23ok3 start hs ts n m mn p tp mrows hrows k = true) ∧ b23ok4 start hs ts n m mn p tp mrows hrows k = false) ∧ b23ok7 start hs ts n m mn p tp mrows hrows k = false) ∧ b23ok9 start hs ts n m mn p tp mrows hrows k = false) := by unfold Path; kernel_rfl
theorem b23o_F (start : List UInt8) (hs : List UInt8) (ts : List UInt8) (n : Nat) (m : Nat) (mn : Nat) (p : Int) (tp : Int) (mrows : List (List AV)) (hrows : List (List AV)) (k : Int) :
 Path (run Tryz.prog P6w 100 (lbody Tryz.prog 23 0) (SL.mp 113 ([pF]) (b23oI start hs ts n m mn p tp mrows hrows k))) 14 [] (b23oI (start) (hs) (ts) (n) (m) (mn) (p) (tp) (mrows) (hrows) (k)) (Ex.exit 2)
 (True ∧ b23ok0 start hs ts n m mn p tp mrows hrows k = false) := by unfold Path; kernel_rfl
def b23o_cls (start hs ts : List UInt8) (n m mn : Nat) (p tp : Int) (mrows hrows : List (List AV)) (k : Int) : Nat := (bif b23ok0 start hs ts n m mn p tp mrows hrows k then (bif b23ok4 start hs ts n m mn p tp mrows hrows k then 0 else (bif b23ok7 start hs ts n m mn p tp mrows hrows k then 1 else (bif b23ok9 start hs ts n m mn p tp mrows hrows k then 2 else 3))) else 4)
theorem b23o_c0 (start hs ts : List UInt8) (n m mn : Nat) (p tp : Int) (mrows hrows : List (List AV)) (k : Int) (h : b23o_cls start hs ts n m mn p tp mrows hrows k = 0) (m0 : b23ok0 start hs ts n m mn p tp mrows hrows k = true → b23ok1 start hs ts n m mn p tp mrows hrows k = true) (m1 : b23ok0 start hs ts n m mn p tp mrows hrows k = true → b23ok2 start hs ts n m mn p tp mrows hrows k = true) (m2 : b23ok0 start hs ts n m mn p tp mrows hrows k = true → b23ok3 start hs ts n m mn p tp mrows hrows k = true) (m3 : b23ok0 start hs ts n m mn p tp mrows hrows k = true → b23ok4 start hs ts n m mn p tp mrows hrows k = true → b23ok5 start hs ts n m mn p tp mrows hrows k = true) (m4 : b23ok0 start hs ts n m mn p tp mrows hrows k = true → b23ok4 start hs ts n m mn p tp mrows hrows k = true → b23ok6 start hs ts n m mn p tp mrows hrows k = true) : BodyOK Tryz.prog (lbody Tryz.prog 23 0) 113 14 (b23oI start hs ts n m mn p tp mrows hrows k) (Ex.normal) (b23oI (start) (hs) (ts) (n) (m) (mn) (p) (tp) (mrows) (setAt hrows (0 + Int.toNat k) (1) (AV.str (spBehind hs ts (AV.toStr (List.getD (List.getD hrows (0 + Int.toNat k) []) (1) AV.undef)) [(83 : UInt8), (73 : UInt8), (80 : UInt8), (47 : UInt8), (50 : UInt8), (46 : UInt8), (48 : UInt8), (47 : UInt8), (85 : UInt8), (68 : UInt8), (80 : UInt8), (32 : UInt8)] [(59 : UInt8)] p tp))) (IntKind.wrap IntKind.i64 (k + (1 : Int)))) := by
  unfold b23o_cls at h
  cases q1 : b23ok0 start hs ts n m mn p tp mrows hrows k with
  | true =>
    rw [q1, cond_true] at h
    cases q2 : b23ok4 start hs ts n m mn p tp mrows hrows k with
    | true =>
      rw [q2, cond_true] at h
      exact body_by P6w_ok (b23o_TT start hs ts n m mn p tp mrows hrows k) rfl (by simp only [q1, q2, (m0 q1), (m1 q1), (m2 q1), (m3 q1 q2), (m4 q1 q2), eq_self, and_true, true_and]) rfl
    | false =>
      rw [q2, cond_false] at h
      cases q3 : b23ok7 start hs ts n m mn p tp mrows hrows k with
      | true =>
        rw [q3, cond_true] at h
        exact absurd h (by decide)
      | false =>
        rw [q3, cond_false] at h
        cases q4 : b23ok9 start hs ts n m mn p tp mrows hrows k with
        | true =>
          rw [q4, cond_true] at h
          exact absurd h (by decide)
        | false =>
          rw [q4, cond_false] at h
          exact absurd h (by decide)
  | false =>
    rw [q1, cond_false] at h
    exact absurd h (by decide)
theorem b23o_c1 (start hs ts : List UInt8) (n m mn : Nat) (p tp : Int) (mrows hrows : List (List AV)) (k : Int) (h : b23o_cls start hs ts n m mn p tp mrows hrows k = 1) (m0 : b23ok0 start hs ts n m mn p tp mrows hrows k = true → b23ok1 start hs ts n m mn p tp mrows hrows k = true) (m1 : b23ok0 start hs ts n m mn p tp mrows hrows k = true → b23ok2 start hs ts n m mn p tp mrows hrows k = true) (m2 : b23ok0 start hs ts n m mn p tp mrows hrows k = true → b23ok3 start hs ts n m mn p tp mrows hrows k = true) (m3 : b23ok0 start hs ts n m mn p tp mrows hrows k = true → b23ok4 start hs ts n m mn p tp mrows hrows k = false → b23ok7 start hs ts n m mn p tp mrows hrows k = true → b23ok8 start hs ts n m mn p tp mrows hrows k = true) (m4 : b23ok0 start hs ts n m mn p tp mrows hrows k = true → b23ok4 start hs ts n m mn p tp mrows hrows k = false → b23ok7 start hs ts n m mn p tp mrows hrows k = true → b23ok6 start hs ts n m mn p tp mrows hrows k = true) : BodyOK Tryz.prog (lbody Tryz.prog 23 0) 113 14 (b23oI start hs ts n m mn p tp mrows hrows k) (Ex.normal) (b23oI (start) (hs) (ts) (n) (m) (mn) (p) (tp) (mrows) (setAt hrows (0 + Int.toNat k) (1) (AV.str (spBehind hs ts (AV.toStr (List.getD (List.getD hrows (0 + Int.toNat k) []) (1) AV.undef)) [(64 : UInt8)] [(62 : UInt8), (59 : UInt8)] p tp))) (IntKind.wrap IntKind.i64 (k + (1 : Int)))) := by
  unfold b23o_cls at h
  cases q1 : b23ok0 start hs ts n m mn p tp mrows hrows k with
  | true =>
    rw [q1, cond_true] at h
    cases q2 : b23ok4 start hs ts n m mn p tp mrows hrows k with
    | true =>
      rw [q2, cond_true] at h
      exact absurd h (by decide)
    | false =>
      rw [q2, cond_false] at h
      cases q3 : b23ok7 start hs ts n m mn p tp mrows hrows k with
      | true =>
        rw [q3, cond_true] at h
        exact body_by P6w_ok (b23o_TFT start hs ts n m mn p tp mrows hrows k) rfl (by simp only [q1, q2, q3, (m0 q1), (m1 q1), (m2 q1), (m3 q1 q2 q3), (m4 q1 q2 q3), eq_self, and_true, true_and]) rfl
      | false =>
        rw [q3, cond_false] at h
        cases q4 : b23ok9 start hs ts n m mn p tp mrows hrows k with
        | true =>
          rw [q4, cond_true] at h
          exact absurd h (by decide)
        | false =>
          rw [q4, cond_false] at h
          exact absurd h (by decide)
  | false =>
    rw [q1, cond_false] at h
    exact absurd h (by decide)
theorem b23o_c2 (start hs ts : List UInt8) (n m mn : Nat) (p tp : Int) (mrows hrows : List (List AV)) (k : Int) (h : b23o_cls start hs ts n m mn p tp mrows hrows k = 2) (m0 : b23ok0 start hs ts n m mn p tp mrows hrows k = true → b23ok1 start hs ts n m mn p tp mrows hrows k = true) (m1 : b23ok0 start hs ts n m mn p tp mrows hrows k = true → b23ok2 start hs ts n m mn p tp mrows hrows k = true) (m2 : b23ok0 start hs ts n m mn p tp mrows hrows k = true → b23ok3 start hs ts n m mn p tp mrows hrows k = true) (m3 : b23ok0 start hs ts n m mn p tp mrows hrows k = true → b23ok4 start hs ts n m mn p tp mrows hrows k = false → b23ok7 start hs ts n m mn p tp mrows hrows k = false → b23ok9 start hs ts n m mn p tp mrows hrows k = true → b23ok10 start hs ts n m mn p tp mrows hrows k = true) (m4 : b23ok0 start hs ts n m mn p tp mrows hrows k = true → b23ok4 start hs ts n m mn p tp mrows hrows k = false → b23ok7 start hs ts n m mn p tp mrows hrows k = false → b23ok9 start hs ts n m mn p tp mrows hrows k = true → b23ok6 start hs ts n m mn p tp mrows hrows k = true) : BodyOK Tryz.prog (lbody Tryz.prog 23 0) 113 14 (b23oI start hs ts n m mn p tp mrows hrows k) (Ex.normal) (b23oI (start) (hs) (ts) (n) (m) (mn) (p) (tp) (mrows) (setAt hrows (0 + Int.toNat k) (1) (AV.str (spItoa (↑m : Int)))) (IntKind.wrap IntKind.i64 (k + (1 : Int)))) := by
  unfold b23o_cls at h
  cases q1 : b23ok0 start hs ts n m mn p tp mrows hrows k with
  | true =>
    rw [q1, cond_true] at h
    cases q2 : b23ok4 start hs ts n m mn p tp mrows hrows k with
    | true =>
      rw [q2, cond_true] at h
      exact absurd h (by decide)
    | false =>
      rw [q2, cond_false] at h
      cases q3 : b23ok7 start hs ts n m mn p tp mrows hrows k with
      | true =>
        rw [q3, cond_true] at h
        exact absurd h (by decide)
      | false =>
        rw [q3, cond_false] at h
        cases q4 : b23ok9 start hs ts n m mn p tp mrows hrows k with
        | true =>
          rw [q4, cond_true] at h
          exact body_by P6w_ok (b23o_TFFT start hs ts n m mn p tp mrows hrows k) rfl (by simp only [q1, q2, q3, q4, (m0 q1), (m1 q1), (m2 q1), (m3 q1 q2 q3 q4), (m4 q1 q2 q3 q4), eq_self, and_true, true_and]) rfl
        | false =>
          rw [q4, cond_false] at h
          exact absurd h (by decide)
  | false =>
    rw [q1, cond_false] at h
    exact absurd h (by decide)
theorem b23o_c3 (start hs ts : List UInt8) (n m mn : Nat) (p tp : Int) (mrows hrows : List (List AV)) (k : Int) (h : b23o_cls start hs ts n m mn p tp mrows hrows k = 3) (m0 : b23ok0 start hs ts n m mn p tp mrows hrows k = true → b23ok1 start hs ts n m mn p tp mrows hrows k = true) (m1 : b23ok0 start hs ts n m mn p tp mrows hrows k = true → b23ok2 start hs ts n m mn p tp mrows hrows k = true) (m2 : b23ok0 start hs ts n m mn p tp mrows hrows k = true → b23ok3 start hs ts n m mn p tp mrows hrows k = true) : BodyOK Tryz.prog (lbody Tryz.prog 23 0) 113 14 (b23oI start hs ts n m mn p tp mrows hrows k) (Ex.normal) (b23oI (start) (hs) (ts) (n) (m) (mn) (p) (tp) (mrows) (hrows) (IntKind.wrap IntKind.i64 (k + (1 : Int)))) := by
  unfold b23o_cls at h
  cases q1 : b23ok0 start hs ts n m mn p tp mrows hrows k with
  | true =>
    rw [q1, cond_true] at h
    cases q2 : b23ok4 start hs ts n m mn p tp mrows hrows k with
    | true =>
      rw [q2, cond_true] at h
      exact absurd h (by decide)
    | false =>
      rw [q2, cond_false] at h
      cases q3 : b23ok7 start hs ts n m mn p tp mrows hrows k with
      | true =>
        rw [q3, cond_true] at h
        exact absurd h (by decide)
      | false =>
        rw [q3, cond_false] at h
        cases q4 : b23ok9 start hs ts n m mn p tp mrows hrows k with
        | true =>
          rw [q4, cond_true] at h
          exact absurd h (by decide)
        | false =>
          rw [q4, cond_false] at h
          exact body_by P6w_ok (b23o_TFFF start hs ts n m mn p tp mrows hrows k) rfl (by simp only [q1, q2, q3, q4, (m0 q1), (m1 q1), (m2 q1), eq_self, and_true, true_and]) rfl
  | false =>
    rw [q1, cond_false] at h
    exact absurd h (by decide)
theorem b23o_c4 (start hs ts : List UInt8) (n m mn : Nat) (p tp : Int) (mrows hrows : List (List AV)) (k : Int) (h : b23o_cls start hs ts n m mn p tp mrows hrows k = 4)  : BodyOK Tryz.prog (lbody Tryz.prog 23 0) 113 14 (b23oI start hs ts n m mn p tp mrows hrows k) (Ex.exit 2) (b23oI (start) (hs) (ts) (n) (m) (mn) (p) (tp) (mrows) (hrows) (k)) := by
  unfold b23o_cls at h
  cases q1 : b23ok0 start hs ts n m mn p tp mrows hrows k with
  | true =>
    rw [q1, cond_true] at h
    cases q2 : b23ok4 start hs ts n m mn p tp mrows hrows k with
    | true =>
      rw [q2, cond_true] at h
      exact absurd h (by decide)
    | false =>
      rw [q2, cond_false] at h
      cases q3 : b23ok7 start hs ts n m mn p tp mrows hrows k with
      | true =>
        rw [q3, cond_true] at h
        exact absurd h (by decide)
      | false =>
        rw [q3, cond_false] at h
        cases q4 : b23ok9 start hs ts n m mn p tp mrows hrows k with
        | true =>
          rw [q4, cond_true] at h
          exact absurd h (by decide)
        | false =>
          rw [q4, cond_false] at h
          exact absurd h (by decide)
  | false =>
    rw [q1, cond_false] at h
    exact body_by P6w_ok (b23o_F start hs ts n m mn p tp mrows hrows k) rfl (by simp only [q1, eq_self, and_true, true_and]) rfl
def sgVia : List UInt8 := [118, 105, 97]
def sgContact : List UInt8 := [99, 111, 110, 116, 97, 99, 116]
def mkVia : List UInt8 := [83, 73, 80, 47, 50, 46, 48, 47, 85, 68, 80, 32]
def spHdr (hs ts : List UInt8) (p tp : Int) (m : Nat) (r : List AV) : List AV :=
  bif spLow (hN r) == sgVia then r.set 1 (.str (spBehind hs ts (hV r) mkVia [59] p tp)) else
  bif spLow (hN r) == sgContact then r.set 1 (.str (spBehind hs ts (hV r) [64] [62, 59] p tp)) else
  bif spLow (hN r) == sgLen then r.set 1 (.str (spItoa (m : Int))) else r
def hdrK (f : List AV → List AV) (rows : List (List AV)) (k : Nat) : List (List AV) := (rows.take k).map f ++ rows.drop k
theorem hdrK_length (f : List AV → List AV) (rows : List (List AV)) (k : Nat) : (hdrK f rows k).length = rows.length := by simp [hdrK]; omega
theorem hdrK_get {f : List AV → List AV} {rows : List (List AV)} {k : Nat} (h : k < rows.length) : (hdrK f rows k)[k]? = some rows[k] := by
  unfold hdrK
  have hl : ((rows.take k).map f).length = k := by simp; omega
  rw [List.getElem?_append_right (by omega), hl, Nat.sub_self, List.getElem?_drop, Nat.add_zero, List.getElem?_eq_getElem h]
theorem hdrK_row {f : List AV → List AV} {rows : List (List AV)} {k : Nat} (h : k < rows.length) : List.getD (hdrK f rows k) (0 + Int.toNat (k : Int)) [] = rows[k] := by
  rw [Nat.zero_add, Int.toNat_natCast, List.getD_eq_getElem?_getD, hdrK_get h]; rfl
theorem hdrK_succ {f : List AV → List AV} {rows : List (List AV)} {k : Nat} (h : k < rows.length) : (hdrK f rows k).set (0 + Int.toNat (k : Int)) (f rows[k]) = hdrK f rows (k + 1) := by
  rw [Nat.zero_add, Int.toNat_natCast]
  unfold hdrK
  have hl : ((rows.take k).map f).length = k := by simp; omega
  rw [List.set_append_right _ _ (by omega), hl, Nat.sub_self, take_snoc h, List.map_append, List.append_assoc, List.drop_eq_getElem_cons h]
  rfl
theorem hdrK_same {f : List AV → List AV} {rows : List (List AV)} {k : Nat} (h : k < rows.length) (hf : f rows[k] = rows[k]) : hdrK f rows k = hdrK f rows (k + 1) := by
  have hl : k < (hdrK f rows k).length := by rw [hdrK_length]; exact h
  have hg := hdrK_get (f := f) h
  rw [List.getElem?_eq_getElem hl] at hg
  have hg := Option.some.inj hg
  rw [← hdrK_succ h, hf, Nat.zero_add, Int.toNat_natCast, ← hg, List.set_getElem_self]
theorem setAt_row {f : List AV → List AV} {rows : List (List AV)} {k j : Nat} {v : AV} (h : k < rows.length) : setAt (hdrK f rows k) (0 + Int.toNat (k : Int)) j v = (hdrK f rows k).set (0 + Int.toNat (k : Int)) (rows[k].set j v) := by
  unfold setAt
  rw [hdrK_row h]
structure HdrOK (hs ts : List UInt8) (tp : Int) (rows mrows : List (List AV)) : Prop where
  len : rows.length ≤ 4611686018427387904
  short : rows.all short = true
  two : ∀ r ∈ rows, r.length = 2
  hs : hs.length ≤ 140737488355328
  ts : ts.length ≤ 140737488355328
  tp : -9223372036854775808 ≤ tp ∧ tp ≤ 9223372036854775807
theorem hdrz_round {start hs ts : List UInt8} {m : Nat} {p tp : Int} {rows mrows : List (List AV)} (ho : HdrOK hs ts tp rows mrows) (hm : m ≤ 4611686018427387904) {k : Nat} (h : k < rows.length) :
    BodyOK Tryz.prog (lbody Tryz.prog 23 0) 113 13 (b23zI start hs ts rows.length m mrows.length p tp mrows (hdrK (spHdr hs ts p tp 0) rows k) k) .normal (b23zI start hs ts rows.length m mrows.length p tp mrows (hdrK (spHdr hs ts p tp 0) rows (k + 1)) ((k + 1 : Nat) : Int)) := by
  have hlen := ho.len
  have hsh := short_at ho.short h
  have h2 := ho.two rows[k] (List.getElem_mem h)
  have hhs := ho.hs
  have hts := ho.ts
  have htp := ho.tp
  have hw := succ64 (n := rows.length) h (by omega)
  have hr : List.getD (hdrK (spHdr hs ts p tp 0) rows k) (0 + Int.toNat (k : Int)) [] = rows[k] := hdrK_row h
  have hl : (hdrK (spHdr hs ts p tp 0) rows k).length = rows.length := hdrK_length _ _ _
  have e0 : b23zk0 start hs ts rows.length m mrows.length p tp mrows (hdrK (spHdr hs ts p tp 0) rows k) k = true := decide_eq_true (by omega)
  have e1 : b23zk1 start hs ts rows.length m mrows.length p tp mrows (hdrK (spHdr hs ts p tp 0) rows k) k = true := decide_eq_true (by omega)
  have e2 : b23zk2 start hs ts rows.length m mrows.length p tp mrows (hdrK (spHdr hs ts p tp 0) rows k) k = true := by unfold b23zk2; rw [hl]; exact decide_eq_true (by simp; omega)
  have e3 : b23zk3 start hs ts rows.length m mrows.length p tp mrows (hdrK (spHdr hs ts p tp 0) rows k) k = true := by unfold b23zk3; rw [hr]; exact decide_eq_true (by have := hsh.1; unfold hN at this; omega)
  have e5 : b23zk5 start hs ts rows.length m mrows.length p tp mrows (hdrK (spHdr hs ts p tp 0) rows k) k = true := by
    unfold b23zk5; rw [hr, Bool.and_eq_true]; exact ⟨decide_eq_true (by omega), decide_eq_true ⟨by have := hsh.2; unfold hV at this; omega, by decide, hhs, hts, htp, .inr rfl⟩⟩
  have e6 : b23zk6 start hs ts rows.length m mrows.length p tp mrows (hdrK (spHdr hs ts p tp 0) rows k) k = true := by unfold b23zk6; rw [hr]; exact decide_eq_true (by omega)
  have e8 : b23zk8 start hs ts rows.length m mrows.length p tp mrows (hdrK (spHdr hs ts p tp 0) rows k) k = true := by
    unfold b23zk8; rw [hr, Bool.and_eq_true]; exact ⟨decide_eq_true (by omega), decide_eq_true ⟨by have := hsh.2; unfold hV at this; omega, by decide, hhs, hts, htp, .inl rfl⟩⟩
  have q4 : b23zk4 start hs ts rows.length m mrows.length p tp mrows (hdrK (spHdr hs ts p tp 0) rows k) k = (spLow (hN rows[k]) == sgVia) := by unfold b23zk4; rw [hr]; rfl
  have q7 : b23zk7 start hs ts rows.length m mrows.length p tp mrows (hdrK (spHdr hs ts p tp 0) rows k) k = (spLow (hN rows[k]) == sgContact) := by unfold b23zk7; rw [hr]; rfl
  have q9 : b23zk9 start hs ts rows.length m mrows.length p tp mrows (hdrK (spHdr hs ts p tp 0) rows k) k = (spLow (hN rows[k]) == sgLen) := by unfold b23zk9; rw [hr]; rfl
  cases a4 : spLow (hN rows[k]) == sgVia with
  | true =>
    have hf : spHdr hs ts p tp 0 rows[k] = rows[k].set 1 (.str (spBehind hs ts (hV rows[k]) mkVia [59] p tp)) := by unfold spHdr; rw [a4]; rfl
    refine BodyOK.to (b23z_c0 start hs ts rows.length m mrows.length p tp mrows _ k (by unfold b23z_cls; rw [e0, q4, a4]; rfl) (fun _ => e1) (fun _ => e2) (fun _ => e3) (fun _ _ => e5) (fun _ _ => e6)) ?_
    rw [hr, setAt_row h, hw]
    rw [← hdrK_succ h, hf]; rfl
  | false =>
    cases a7 : spLow (hN rows[k]) == sgContact with
    | true =>
      have hf : spHdr hs ts p tp 0 rows[k] = rows[k].set 1 (.str (spBehind hs ts (hV rows[k]) [64] [62, 59] p tp)) := by unfold spHdr; rw [a4, a7]; rfl
      refine BodyOK.to (b23z_c1 start hs ts rows.length m mrows.length p tp mrows _ k (by unfold b23z_cls; rw [e0, q4, a4, q7, a7]; rfl) (fun _ => e1) (fun _ => e2) (fun _ => e3) (fun _ _ _ => e8) (fun _ _ _ => e6)) ?_
      rw [hr, setAt_row h, hw]
      rw [← hdrK_succ h, hf]; rfl
    | false =>
      cases a9 : spLow (hN rows[k]) == sgLen with
      | true =>
        have hf : spHdr hs ts p tp 0 rows[k] = rows[k].set 1 (.str (spItoa ((0 : Nat) : Int))) := by unfold spHdr; rw [a4, a7, a9]; rfl
        refine BodyOK.to (b23z_c2 start hs ts rows.length m mrows.length p tp mrows _ k (by unfold b23z_cls; rw [e0, q4, a4, q7, a7, q9, a9]; rfl) (fun _ => e1) (fun _ => e2) (fun _ => e3) (fun _ _ _ _ => e6)) ?_
        rw [setAt_row h, hw]
        rw [← hdrK_succ h, hf, show spItoa ((0 : Nat) : Int) = [48] by kernel_rfl]
      | false =>
        have hf : spHdr hs ts p tp 0 rows[k] = rows[k] := by unfold spHdr; rw [a4, a7, a9]; rfl
        refine BodyOK.to (b23z_c3 start hs ts rows.length m mrows.length p tp mrows _ k (by unfold b23z_cls; rw [e0, q4, a4, q7, a7, q9, a9]; rfl) (fun _ => e1) (fun _ => e2) (fun _ => e3)) ?_
        rw [hw, hdrK_same h hf]
theorem hdrz_loop {start hs ts : List UInt8} {m : Nat} {p tp : Int} {rows mrows : List (List AV)} (ho : HdrOK hs ts tp rows mrows) (hm : m ≤ 4611686018427387904) :
    LoopOK Tryz.prog (lbody Tryz.prog 23 0) 113 (b23zI start hs ts rows.length m mrows.length p tp mrows rows 0) (.exit 2) (b23zI start hs ts rows.length m mrows.length p tp mrows (rows.map (spHdr hs ts p tp 0)) rows.length) := by
  refine loop_rule (E := b23zI start hs ts rows.length m mrows.length p tp mrows rows 0) (I := fun k : Nat => b23zI start hs ts rows.length m mrows.length p tp mrows (hdrK (spHdr hs ts p tp 0) rows k) k) (pre := fun k => k ≤ rows.length) (μ := fun k => rows.length - k) _ _ rfl (fun ρ => by simp [Ex.conc]) ?_ (x0 := 0) (pick := []) (Nat.zero_le _) ⟨by kernel_rfl, map_fst_snd (by kernel_rfl)⟩
  intro k hk
  by_cases hkl : k < rows.length
  · left
    exact ⟨k + 1, by omega, by omega, hdrz_round ho hm hkl⟩
  · right
    have hk' : k = rows.length := by omega
    subst hk'
    have hx := b23z_c4 start hs ts rows.length m mrows.length p tp mrows (hdrK (spHdr hs ts p tp 0) rows rows.length) rows.length (by unfold b23z_cls b23zk0; rw [decide_eq_false (by omega)]; rfl)
    have e : hdrK (spHdr hs ts p tp 0) rows rows.length = rows.map (spHdr hs ts p tp 0) := by unfold hdrK; rw [List.take_length, List.drop_length, List.append_nil]
    rw [e] at hx ⊢
    exact hx
theorem hdro_round {start hs ts : List UInt8} {m : Nat} {p tp : Int} {rows mrows : List (List AV)} (ho : HdrOK hs ts tp rows mrows) (hm : m ≤ 4611686018427387904) {k : Nat} (h : k < rows.length) :
    BodyOK Tryz.prog (lbody Tryz.prog 23 0) 113 14 (b23oI start hs ts rows.length m mrows.length p tp mrows (hdrK (spHdr hs ts p tp m) rows k) k) .normal (b23oI start hs ts rows.length m mrows.length p tp mrows (hdrK (spHdr hs ts p tp m) rows (k + 1)) ((k + 1 : Nat) : Int)) := by
  have hlen := ho.len
  have hsh := short_at ho.short h
  have h2 := ho.two rows[k] (List.getElem_mem h)
  have hhs := ho.hs
  have hts := ho.ts
  have htp := ho.tp
  have hw := succ64 (n := rows.length) h (by omega)
  have hr : List.getD (hdrK (spHdr hs ts p tp m) rows k) (0 + Int.toNat (k : Int)) [] = rows[k] := hdrK_row h
  have hl : (hdrK (spHdr hs ts p tp m) rows k).length = rows.length := hdrK_length _ _ _
  have e0 : b23ok0 start hs ts rows.length m mrows.length p tp mrows (hdrK (spHdr hs ts p tp m) rows k) k = true := decide_eq_true (by omega)
  have e1 : b23ok1 start hs ts rows.length m mrows.length p tp mrows (hdrK (spHdr hs ts p tp m) rows k) k = true := decide_eq_true (by omega)
  have e2 : b23ok2 start hs ts rows.length m mrows.length p tp mrows (hdrK (spHdr hs ts p tp m) rows k) k = true := by unfold b23ok2; rw [hl]; exact decide_eq_true (by simp; omega)
  have e3 : b23ok3 start hs ts rows.length m mrows.length p tp mrows (hdrK (spHdr hs ts p tp m) rows k) k = true := by unfold b23ok3; rw [hr]; exact decide_eq_true (by have := hsh.1; unfold hN at this; omega)
  have e5 : b23ok5 start hs ts rows.length m mrows.length p tp mrows (hdrK (spHdr hs ts p tp m) rows k) k = true := by
    unfold b23ok5; rw [hr, Bool.and_eq_true]; exact ⟨decide_eq_true (by omega), decide_eq_true ⟨by have := hsh.2; unfold hV at this; omega, by decide, hhs, hts, htp, .inr rfl⟩⟩
  have e6 : b23ok6 start hs ts rows.length m mrows.length p tp mrows (hdrK (spHdr hs ts p tp m) rows k) k = true := by unfold b23ok6; rw [hr]; exact decide_eq_true (by omega)
  have e8 : b23ok8 start hs ts rows.length m mrows.length p tp mrows (hdrK (spHdr hs ts p tp m) rows k) k = true := by
    unfold b23ok8; rw [hr, Bool.and_eq_true]; exact ⟨decide_eq_true (by omega), decide_eq_true ⟨by have := hsh.2; unfold hV at this; omega, by decide, hhs, hts, htp, .inl rfl⟩⟩
  have q4 : b23ok4 start hs ts rows.length m mrows.length p tp mrows (hdrK (spHdr hs ts p tp m) rows k) k = (spLow (hN rows[k]) == sgVia) := by unfold b23ok4; rw [hr]; rfl
  have q7 : b23ok7 start hs ts rows.length m mrows.length p tp mrows (hdrK (spHdr hs ts p tp m) rows k) k = (spLow (hN rows[k]) == sgContact) := by unfold b23ok7; rw [hr]; rfl
  have q9 : b23ok9 start hs ts rows.length m mrows.length p tp mrows (hdrK (spHdr hs ts p tp m) rows k) k = (spLow (hN rows[k]) == sgLen) := by unfold b23ok9; rw [hr]; rfl
  have e10 : b23ok10 start hs ts rows.length m mrows.length p tp mrows (hdrK (spHdr hs ts p tp m) rows k) k = true := decide_eq_true (by omega)
  cases a4 : spLow (hN rows[k]) == sgVia with
  | true =>
    have hf : spHdr hs ts p tp m rows[k] = rows[k].set 1 (.str (spBehind hs ts (hV rows[k]) mkVia [59] p tp)) := by unfold spHdr; rw [a4]; rfl
    refine BodyOK.to (b23o_c0 start hs ts rows.length m mrows.length p tp mrows _ k (by unfold b23o_cls; rw [e0, q4, a4]; rfl) (fun _ => e1) (fun _ => e2) (fun _ => e3) (fun _ _ => e5) (fun _ _ => e6)) ?_
    rw [hr, setAt_row h, hw]
    rw [← hdrK_succ h, hf]; rfl
  | false =>
    cases a7 : spLow (hN rows[k]) == sgContact with
    | true =>
      have hf : spHdr hs ts p tp m rows[k] = rows[k].set 1 (.str (spBehind hs ts (hV rows[k]) [64] [62, 59] p tp)) := by unfold spHdr; rw [a4, a7]; rfl
      refine BodyOK.to (b23o_c1 start hs ts rows.length m mrows.length p tp mrows _ k (by unfold b23o_cls; rw [e0, q4, a4, q7, a7]; rfl) (fun _ => e1) (fun _ => e2) (fun _ => e3) (fun _ _ _ => e8) (fun _ _ _ => e6)) ?_
      rw [hr, setAt_row h, hw]
      rw [← hdrK_succ h, hf]; rfl
    | false =>
      cases a9 : spLow (hN rows[k]) == sgLen with
      | true =>
        have hf : spHdr hs ts p tp m rows[k] = rows[k].set 1 (.str (spItoa ((m : Nat) : Int))) := by unfold spHdr; rw [a4, a7, a9]; rfl
        refine BodyOK.to (b23o_c2 start hs ts rows.length m mrows.length p tp mrows _ k (by unfold b23o_cls; rw [e0, q4, a4, q7, a7, q9, a9]; rfl) (fun _ => e1) (fun _ => e2) (fun _ => e3) (fun _ _ _ _ => e10) (fun _ _ _ _ => e6)) ?_
        rw [setAt_row h, hw]
        rw [← hdrK_succ h, hf]
      | false =>
        have hf : spHdr hs ts p tp m rows[k] = rows[k] := by unfold spHdr; rw [a4, a7, a9]; rfl
        refine BodyOK.to (b23o_c3 start hs ts rows.length m mrows.length p tp mrows _ k (by unfold b23o_cls; rw [e0, q4, a4, q7, a7, q9, a9]; rfl) (fun _ => e1) (fun _ => e2) (fun _ => e3)) ?_
        rw [hw, hdrK_same h hf]
theorem hdro_loop {start hs ts : List UInt8} {m : Nat} {p tp : Int} {rows mrows : List (List AV)} (ho : HdrOK hs ts tp rows mrows) (hm : m ≤ 4611686018427387904) :
    LoopOK Tryz.prog (lbody Tryz.prog 23 0) 113 (b23oI start hs ts rows.length m mrows.length p tp mrows rows 0) (.exit 2) (b23oI start hs ts rows.length m mrows.length p tp mrows (rows.map (spHdr hs ts p tp m)) rows.length) := by
  refine loop_rule (E := b23oI start hs ts rows.length m mrows.length p tp mrows rows 0) (I := fun k : Nat => b23oI start hs ts rows.length m mrows.length p tp mrows (hdrK (spHdr hs ts p tp m) rows k) k) (pre := fun k => k ≤ rows.length) (μ := fun k => rows.length - k) _ _ rfl (fun ρ => by simp [Ex.conc]) ?_ (x0 := 0) (pick := []) (Nat.zero_le _) ⟨by kernel_rfl, map_fst_snd (by kernel_rfl)⟩
  intro k hk
  by_cases hkl : k < rows.length
  · left
    exact ⟨k + 1, by omega, by omega, hdro_round ho hm hkl⟩
  · right
    have hk' : k = rows.length := by omega
    subst hk'
    have hx := b23o_c4 start hs ts rows.length m mrows.length p tp mrows (hdrK (spHdr hs ts p tp m) rows rows.length) rows.length (by unfold b23o_cls b23ok0; rw [decide_eq_false (by omega)]; rfl)
    have e : hdrK (spHdr hs ts p tp m) rows rows.length = rows.map (spHdr hs ts p tp m) := by unfold hdrK; rw [List.take_length, List.drop_length, List.append_nil]
    rw [e] at hx ⊢
    exact hx
end Go.Proofs.YtpdgmgkkbbndfaaGreatDoor

set_option maxRecDepth 100000
namespace Go.Proofs.YtpdgmgkkbbndfaaGreatDoor
open Go Go.Proofs Go.Proofs.YtpdgmgkkbbndfaaGreatDoor.SX
def I23 (start hs ts : List UInt8) (n : Nat) (p tp : Int) (mrows : List (List AV)) (brows : List (List AV)) : SL := ⟨[(51, .fn (.func 76) [] [.ptr ⟨11, 0, 0⟩]), (14, .ptr ⟨8, 0, 0⟩), (15, .ptr ⟨10, 0, 0⟩)], [(2, .cells false [.int .u16, .int .u16] mrows), (8, .cells true [.str, .str, .int .i64, .int .i64, .any] [[.str hs, .str ts, .int .i64 p, .int .i64 tp, .slq 2 mrows.length]]), (10, .cells true [.str, .any, .any] [[.str start, .sl ⟨9, 0, 0⟩ n .open_, .nilSl]]), (11, .cells true [.any] [[.slq 1 brows.length]]), (1, .cells false [.int .u8] brows)], 12⟩
def S23z (start hs ts : List UInt8) (n : Nat) (p tp : Int) (mrows : List (List AV)) : SL := ⟨[], [(2, .cells false [.int .u16, .int .u16] mrows), (8, .cells true [.str, .str, .int .i64, .int .i64, .any] [[.str hs, .str ts, .int .i64 p, .int .i64 tp, .slq 2 mrows.length]]), (10, .cells true [.str, .any, .any] [[.str start, .sl ⟨9, 0, 0⟩ n .open_, .nilSl]]), (12, .mark)], 13⟩
def S23o (start hs ts : List UInt8) (n : Nat) (p tp : Int) (mrows : List (List AV)) (rows : List (List AV)) : SL := ⟨[], [(2, .cells false [.int .u16, .int .u16] mrows), (8, .cells true [.str, .str, .int .i64, .int .i64, .any] [[.str hs, .str ts, .int .i64 p, .int .i64 tp, .slq 2 mrows.length]]), (10, .cells true [.str, .any, .any] [[.str start, .sl ⟨9, 0, 0⟩ n .open_, .sl ⟨13, 0, 0⟩ rows.length .open_]]), (12, .mark), (13, .cells true [.int .u8] rows)], 14⟩
def A23z (l e : List UInt8) (start hs ts : List UInt8) (n : Nat) (p tp : Int) (mrows : List (List AV)) : SL := ⟨[(53, .str e), (52, .str l), (51, .fn (.func 76) [] [.ptr ⟨11, 0, 0⟩]), (14, .ptr ⟨8, 0, 0⟩), (15, .ptr ⟨10, 0, 0⟩)], [(2, .cells false [.int .u16, .int .u16] mrows), (8, .cells true [.str, .str, .int .i64, .int .i64, .any] [[.str hs, .str ts, .int .i64 p, .int .i64 tp, .slq 2 mrows.length]]), (10, .cells true [.str, .any, .any] [[.str start, .sl ⟨9, 0, 0⟩ n .open_, .nilSl]]), (12, .mark)], 13⟩
def A23o (l e : List UInt8) (start hs ts : List UInt8) (n : Nat) (p tp : Int) (mrows : List (List AV)) (rows : List (List AV)) : SL := ⟨[(53, .str e), (52, .str l), (51, .fn (.func 76) [] [.ptr ⟨11, 0, 0⟩]), (14, .ptr ⟨8, 0, 0⟩), (15, .ptr ⟨10, 0, 0⟩)], [(2, .cells false [.int .u16, .int .u16] mrows), (8, .cells true [.str, .str, .int .i64, .int .i64, .any] [[.str hs, .str ts, .int .i64 p, .int .i64 tp, .slq 2 mrows.length]]), (10, .cells true [.str, .any, .any] [[.str start, .sl ⟨9, 0, 0⟩ n .open_, .sl ⟨13, 0, 0⟩ rows.length .open_]]), (12, .mark), (13, .cells true [.int .u8] rows)], 14⟩
def B23z (l e : List UInt8) (start hs ts : List UInt8) (n : Nat) (p tp : Int) (mrows : List (List AV)) : SL := ⟨[(14, .ptr ⟨8, 0, 0⟩), (15, .ptr ⟨10, 0, 0⟩), (16, .str l), (17, .str e)], [(2, .cells false [.int .u16, .int .u16] mrows), (8, .cells true [.str, .str, .int .i64, .int .i64, .any] [[.str hs, .str ts, .int .i64 p, .int .i64 tp, .slq 2 mrows.length]]), (10, .cells true [.str, .any, .any] [[.str start, .sl ⟨9, 0, 0⟩ n .open_, .nilSl]]), (12, .mark)], 13⟩
def B23o (l e : List UInt8) (start hs ts : List UInt8) (n : Nat) (p tp : Int) (mrows : List (List AV)) (rows : List (List AV)) : SL := ⟨[(14, .ptr ⟨8, 0, 0⟩), (15, .ptr ⟨10, 0, 0⟩), (16, .str l), (17, .str e)], [(2, .cells false [.int .u16, .int .u16] mrows), (8, .cells true [.str, .str, .int .i64, .int .i64, .any] [[.str hs, .str ts, .int .i64 p, .int .i64 tp, .slq 2 mrows.length]]), (10, .cells true [.str, .any, .any] [[.str start, .sl ⟨9, 0, 0⟩ n .open_, .sl ⟨13, 0, 0⟩ rows.length .open_]]), (12, .mark), (13, .cells true [.int .u8] rows)], 14⟩
theorem r23az (l e : List UInt8) (start hs ts : List UInt8) (n : Nat) (p tp : Int) (mrows : List (List AV)) : Path (runR Tryz.prog P6w 100 (rAs (rcode Tryz.prog 23 0)) (SL.mp 113 [] (A23z l e start hs ts n p tp mrows))) 13 [] (B23z l e start hs ts n p tp mrows) (Ex.normal) True := by unfold Path; kernel_rfl
theorem r23ao (l e : List UInt8) (start hs ts : List UInt8) (n : Nat) (p tp : Int) (mrows : List (List AV)) (rows : List (List AV)) : Path (runR Tryz.prog P6w 100 (rAs (rcode Tryz.prog 23 0)) (SL.mp 113 [] (A23o l e start hs ts n p tp mrows rows))) 13 [13] (B23o l e start hs ts n p tp mrows rows) (Ex.normal) True := by unfold Path; kernel_rfl
def spLineOut (hs ts : List UInt8) (mrows : List (List AV)) (q : List UInt8 × List UInt8) : List UInt8 := spLine hs ts q.1 mrows ++ q.2
def k23a (l hs ts : List UInt8) (mrows : List (List AV)) : Bool := (decide (0 + mrows.length ≤ List.length mrows) && decide (List.length l ≤ 4294967200 ∧ List.length hs ≤ 140737488355328 ∧ List.length ts ≤ 140737488355328 ∧ List.length (sub mrows 0 mrows.length) ≤ 4611686018427387904))
theorem r23bT (l e : List UInt8) (start hs ts : List UInt8) (n : Nat) (p tp : Int) (mrows : List (List AV)) :
 Path (runR Tryz.prog P6w 100 (rBo (rcode Tryz.prog 23 0)) (SL.mp 113 ([.as_ true]) (B23z l e start hs ts n p tp mrows))) 13 [] ⟨[], [(2, .cells false [.int .u16, .int .u16] mrows), (8, .cells true [.str, .str, .int .i64, .int .i64, .any] [[.str hs, .str ts, .int .i64 p, .int .i64 tp, .slq 2 mrows.length]]), (10, .cells true [.str, .any, .any] [[.str start, .sl ⟨9, 0, 0⟩ n .open_, .sl ⟨13, 0, 0⟩ (List.length (spLine hs ts l (sub mrows 0 mrows.length) ++ e)) .open_]]), (12, .mark), (13, .cells true [.int .u8] (List.map byteRow (spLine hs ts l (sub mrows 0 mrows.length) ++ e)))], 14⟩ (Ex.normal)
 ((((((((True ∧ (true = true)) ∧ (true = true)) ∧ (k23a l hs ts mrows = true)) ∧ (decide (List.length (spLine hs ts l (sub mrows 0 mrows.length)) + List.length e ≤ 9223372036854775807) = true)) ∧ (decide (0 < List.length (spLine hs ts l (sub mrows 0 mrows.length) ++ e)) = true)) ∧ (decide (List.length (spLine hs ts l (sub mrows 0 mrows.length) ++ e) * 1 ≤ 140737488355328) = true)) ∧ (true = true)) ∧ (true = true)) := by unfold Path; kernel_rfl
theorem r23bF (l e : List UInt8) (start hs ts : List UInt8) (n : Nat) (p tp : Int) (mrows : List (List AV)) :
 Path (runR Tryz.prog P6w 100 (rBo (rcode Tryz.prog 23 0)) (SL.mp 113 ([.as_ false]) (B23z l e start hs ts n p tp mrows))) 13 [] (S23z start hs ts n p tp mrows) (Ex.normal)
 (((((((True ∧ (true = true)) ∧ (true = true)) ∧ (k23a l hs ts mrows = true)) ∧ (decide (List.length (spLine hs ts l (sub mrows 0 mrows.length)) + List.length e ≤ 9223372036854775807) = true)) ∧ (decide (0 < List.length (spLine hs ts l (sub mrows 0 mrows.length) ++ e)) = false)) ∧ (true = true)) ∧ (true = true)) := by unfold Path; kernel_rfl
theorem r23d (l e : List UInt8) (start hs ts : List UInt8) (n : Nat) (p tp : Int) (mrows : List (List AV)) (rows : List (List AV)) :
 Path (runR Tryz.prog P6w 100 (rBo (rcode Tryz.prog 23 0)) (SL.mp 113 ([]) (B23o l e start hs ts n p tp mrows rows))) 13 [14] ⟨[], [(2, .cells false [.int .u16, .int .u16] mrows), (8, .cells true [.str, .str, .int .i64, .int .i64, .any] [[.str hs, .str ts, .int .i64 p, .int .i64 tp, .slq 2 mrows.length]]), (10, .cells true [.str, .any, .any] [[.str start, .sl ⟨9, 0, 0⟩ n .open_, .sl ⟨13, 0, 0⟩ (rows.length + List.length (spLine hs ts l (sub mrows 0 mrows.length) ++ e)) .open_]]), (12, .mark), (13, .cells true [.int .u8] (rows ++ List.map byteRow (spLine hs ts l (sub mrows 0 mrows.length) ++ e)))], 14⟩ (Ex.normal)
 ((((((((True ∧ (true = true)) ∧ (true = true)) ∧ (k23a l hs ts mrows = true)) ∧ (decide (List.length (spLine hs ts l (sub mrows 0 mrows.length)) + List.length e ≤ 9223372036854775807) = true)) ∧ (decide (0 = 0 ∧ rows.length = List.length rows) = true)) ∧ (decide ((rows.length + List.length (spLine hs ts l (sub mrows 0 mrows.length) ++ e)) * 1 ≤ 140737488355328) = true)) ∧ (true = true)) ∧ (true = true)) := by unfold Path; kernel_rfl
def outB (hs ts : List UInt8) (mrows : List (List AV)) (l : List (List UInt8 × List UInt8)) : List UInt8 := (l.map (spLineOut hs ts mrows)).flatten
theorem outB_succ {hs ts : List UInt8} {mrows : List (List AV)} {l : List (List UInt8 × List UInt8)} {k : Nat} (h : k < l.length) : outB hs ts mrows (l.take (k + 1)) = outB hs ts mrows (l.take k) ++ spLineOut hs ts mrows l[k] := by
  unfold outB
  rw [take_snoc h, List.map_append, List.flatten_append]
  simp
def S23 (start hs ts : List UInt8) (n : Nat) (p tp : Int) (mrows : List (List AV)) (bs : List UInt8) : SL := match bs with
  | [] => S23z start hs ts n p tp mrows
  | c :: l => S23o start hs ts n p tp mrows (byteRows (c :: l))
def A23 (l e : List UInt8) (start hs ts : List UInt8) (n : Nat) (p tp : Int) (mrows : List (List AV)) (bs : List UInt8) : SL := match bs with
  | [] => A23z l e start hs ts n p tp mrows
  | c :: r => A23o l e start hs ts n p tp mrows (byteRows (c :: r))
def B23 (l e : List UInt8) (start hs ts : List UInt8) (n : Nat) (p tp : Int) (mrows : List (List AV)) (bs : List UInt8) : SL := match bs with
  | [] => B23z l e start hs ts n p tp mrows
  | c :: r => B23o l e start hs ts n p tp mrows (byteRows (c :: r))
structure LineOK (hs ts : List UInt8) (mrows : List (List AV)) (lst : List (List UInt8 × List UInt8)) : Prop where
  hsl : hs.length ≤ 140737488355328
  tsl : ts.length ≤ 140737488355328
  m : mrows.length ≤ 4611686018427387904
  line : ∀ q ∈ lst, q.1.length ≤ 4294967200
  out : (outB hs ts mrows lst).length ≤ 140737488355328
theorem outB_le {hs ts : List UInt8} {mrows : List (List AV)} {lst : List (List UInt8 × List UInt8)} (k : Nat) : (outB hs ts mrows (lst.take k)).length ≤ (outB hs ts mrows lst).length := by
  have : lst = lst.take k ++ lst.drop k := (List.take_append_drop k lst).symm
  conv => rhs; rw [this]
  unfold outB
  rw [List.map_append, List.flatten_append, List.length_append]
  exact Nat.le_add_right _ _
theorem round23 {start hs ts : List UInt8} {n : Nat} {p tp : Int} {mrows : List (List AV)} {lst : List (List UInt8 × List UInt8)} (ho : LineOK hs ts mrows lst) {k : Nat} (h : k < lst.length) :
    BodyR Tryz.prog (rBo (rcode Tryz.prog 23 0)) 113 13 (B23 lst[k].1 lst[k].2 start hs ts n p tp mrows (outB hs ts mrows (lst.take k))) .normal (S23 start hs ts n p tp mrows (outB hs ts mrows (lst.take (k + 1)))) := by
  have hl := ho.line lst[k] (List.getElem_mem h)
  have hhs := ho.hsl; have hts := ho.tsl; have hm := ho.m
  have hout := ho.out
  have hle := outB_le (hs := hs) (ts := ts) (mrows := mrows) (lst := lst) (k + 1)
  have hs' := sub_all mrows rfl
  rw [outB_succ h] at hle ⊢
  have hk : k23a lst[k].1 hs ts mrows = true := by
    unfold k23a; rw [Bool.and_eq_true, hs']; exact ⟨decide_eq_true (by omega), decide_eq_true ⟨hl, hhs, hts, hm⟩⟩
  have ht : spLineOut hs ts mrows lst[k] = spLine hs ts lst[k].1 (sub mrows 0 mrows.length) ++ lst[k].2 := by rw [hs']; rfl
  rw [List.length_append] at hle
  have hlt : (spLine hs ts lst[k].1 (sub mrows 0 mrows.length)).length + lst[k].2.length = (spLineOut hs ts mrows lst[k]).length := by rw [ht, List.length_append]
  generalize outB hs ts mrows (lst.take k) = bs at hle ⊢
  have e1 : decide (List.length (spLine hs ts lst[k].1 (sub mrows 0 mrows.length)) + List.length lst[k].2 ≤ 9223372036854775807) = true := decide_eq_true (by omega)
  cases bs with
  | nil =>
    rw [List.nil_append]
    cases hc : spLineOut hs ts mrows lst[k] with
    | nil =>
      have e2 : decide (0 < List.length (spLine hs ts lst[k].1 (sub mrows 0 mrows.length) ++ lst[k].2)) = false := by rw [← ht, hc]; rfl
      exact body_ofR P6w_ok (r23bF lst[k].1 lst[k].2 start hs ts n p tp mrows) ⟨⟨⟨⟨⟨⟨⟨trivial, rfl⟩, rfl⟩, hk⟩, e1⟩, e2⟩, rfl⟩, rfl⟩ rfl
    | cons c r =>
      have e2 : decide (0 < List.length (spLine hs ts lst[k].1 (sub mrows 0 mrows.length) ++ lst[k].2)) = true := by rw [← ht, hc]; rfl
      have e3 : decide (List.length (spLine hs ts lst[k].1 (sub mrows 0 mrows.length) ++ lst[k].2) * 1 ≤ 140737488355328) = true := decide_eq_true (by rw [← ht]; omega)
      have hx := body_ofR P6w_ok (r23bT lst[k].1 lst[k].2 start hs ts n p tp mrows) ⟨⟨⟨⟨⟨⟨⟨⟨trivial, rfl⟩, rfl⟩, hk⟩, e1⟩, e2⟩, e3⟩, rfl⟩, rfl⟩ rfl
      rw [← ht, hc] at hx
      have e4 : (c :: r).length = (byteRows (c :: r)).length := (byteRows_length _).symm
      rw [e4] at hx
      exact hx
  | cons c r =>
    have e3 : decide (((byteRows (c :: r)).length + List.length (spLine hs ts lst[k].1 (sub mrows 0 mrows.length) ++ lst[k].2)) * 1 ≤ 140737488355328) = true := decide_eq_true (by rw [← ht, byteRows_length]; omega)
    have hx := body_ofR P6w_ok (r23d lst[k].1 lst[k].2 start hs ts n p tp mrows (byteRows (c :: r))) ⟨⟨⟨⟨⟨⟨⟨⟨trivial, rfl⟩, rfl⟩, hk⟩, e1⟩, decide_eq_true ⟨rfl, rfl⟩⟩, e3⟩, rfl⟩, rfl⟩ rfl
    rw [← ht] at hx
    have e4 : byteRows (c :: r) ++ List.map byteRow (spLineOut hs ts mrows lst[k]) = byteRows (c :: r ++ spLineOut hs ts mrows lst[k]) := by unfold byteRows; rw [List.map_append]
    have e5 : (byteRows (c :: r)).length + (spLineOut hs ts mrows lst[k]).length = (byteRows (c :: r ++ spLineOut hs ts mrows lst[k])).length := by rw [byteRows_length, byteRows_length, List.length_append]
    rw [e4, e5] at hx
    exact hx
theorem assign23 {l e start hs ts : List UInt8} {n : Nat} {p tp : Int} {mrows : List (List AV)} (bs : List UInt8) :
    BodyR Tryz.prog (rAs (rcode Tryz.prog 23 0)) 113 13 (A23 l e start hs ts n p tp mrows bs) .normal (B23 l e start hs ts n p tp mrows bs) := by
  cases bs with
  | nil => exact body_ofR P6w_ok (r23az l e start hs ts n p tp mrows) trivial rfl
  | cons c r => exact body_ofR P6w_ok (r23ao l e start hs ts n p tp mrows (byteRows (c :: r))) trivial rfl
theorem hent76 : ∀ (args : Array Value) (w : World), (callFunc 76 args).run Tryz.prog w = .ok (.enter 76 args) w := by
  intro args w
  have hfn : Tryz.prog.funcs[76]? = some Tryz.f76 := by kernel_rfl
  have h1 : ¬ (Tryz.f76.name = "runtime.NumGoroutine") := by decide
  have h2 : ¬ (Tryz.f76.body = none) := by
    intro h
    have : Tryz.f76.body.isSome = true := by kernel_rfl
    rw [h] at this; cases this
  simp [callFunc, go_sem, hfn]
  rw [if_neg h1, if_neg h2]
theorem rcode23 : rcode Tryz.prog 23 0 = .rangeFunc (.tmp 51) #[52, 53] (rAs (rcode Tryz.prog 23 0)) (rBo (rcode Tryz.prog 23 0)) := by kernel_rfl
theorem range23 {start hs ts : List UInt8} {n : Nat} {p tp : Int} {mrows brows : List (List AV)} (ho : LineOK hs ts mrows (spLines (brows.map rowByte))) (hb : brows.length < 4294967280) :
    RangeOK Tryz.prog (rcode Tryz.prog 23 0) 113 (I23 start hs ts n p tp mrows brows) (S23 start hs ts n p tp mrows (outB hs ts mrows (spLines (brows.map rowByte)))) := by
  rw [rcode23]
  have hx := range_rule (P := Tryz.prog) (t := 51) (p0 := 52) (p1 := 53) (assign := rAs (rcode Tryz.prog 23 0)) (body := rBo (rcode Tryz.prog 23 0)) (nt := 113) (I := I23 start hs ts n p tp mrows brows) (f := 76) (caps := [.ptr ⟨11, 0, 0⟩])
    (S := fun k => S23 start hs ts n p tp mrows (outB hs ts mrows ((spLines (brows.map rowByte)).take k)))
    (B := fun k => B23 ((spLines (brows.map rowByte)).getD k ([], [])).1 ((spLines (brows.map rowByte)).getD k ([], [])).2 start hs ts n p tp mrows (outB hs ts mrows ((spLines (brows.map rowByte)).take k)))
    (N := (spLines (brows.map rowByte)).length) (arg := fun k => (.str ((spLines (brows.map rowByte)).getD k ([], [])).1, .str ((spLines (brows.map rowByte)).getD k ([], [])).2))
    hent76 rfl (by decide) (by decide) (by decide) (fun k hk => ⟨rfl, rfl⟩) (pick := []) ⟨by kernel_rfl, map_fst_snd (by kernel_rfl)⟩ ?_ ?_ ?_
  · rw [List.take_length] at hx; exact hx
  · intro k hk
    have hA := assign23 (l := ((spLines (brows.map rowByte)).getD k ([], [])).1) (e := ((spLines (brows.map rowByte)).getD k ([], [])).2) (start := start) (hs := hs) (ts := ts) (n := n) (p := p) (tp := tp) (mrows := mrows) (outB hs ts mrows ((spLines (brows.map rowByte)).take k))
    generalize outB hs ts mrows ((spLines (brows.map rowByte)).take k) = bs at hA ⊢
    cases bs with
    | nil => exact hA
    | cons c r => exact hA
  · intro k hk
    have hg : (spLines (brows.map rowByte)).getD k ([], []) = (spLines (brows.map rowByte))[k] := by rw [List.getD_eq_getElem?_getD, List.getElem?_eq_getElem hk]; rfl
    simp only [hg]
    exact round23 ho hk
  · intro ρ w hs
    exact iter76 hs (b := 11) (c := 1) rfl rfl rfl hb
end Go.Proofs.YtpdgmgkkbbndfaaGreatDoor

set_option maxRecDepth 100000
namespace Go.Proofs.YtpdgmgkkbbndfaaGreatDoor
open Go Go.Proofs Go.Proofs.YtpdgmgkkbbndfaaGreatDoor.SX
theorem len_line (hs ts s : List UInt8) (rows : List (List AV)) : (spLine hs ts s rows).length ≤ 2 * s.length + ts.length + 40 := by
  have h1 := len_suf s (sgOrig ++ hs)
  have h2 := len_medA s
  have h3 := len_medB s
  have h4 := len_itoa (isOf (List.getD rows (Int.toNat (spIdx rows (spMedN s))) [])) (wrap64_range _)
  have h5 : sgConn.length = 9 := rfl
  have h6 : sgOrig.length = 8 := rfl
  unfold spLine
  cases s == sgConn ++ hs with
  | true => simp only [cond_true, List.length_append]; omega
  | false =>
    cases spHasSuf s (sgOrig ++ hs) && spHasPre (spTrimSuf s (sgOrig ++ hs)) [111, 61] with
    | true => simp only [cond_true, cond_false, List.length_append]; omega
    | false =>
      cases decide (spIdx rows (spMedN s) < 0) with
      | true => simp only [cond_true, cond_false]; omega
      | false => simp only [cond_false, List.length_append]; omega
theorem len_lines : ∀ (n : Nat) (s : List UInt8), (spLinesF n s).length ≤ n ∧ ∀ q ∈ spLinesF n s, q.1.length ≤ s.length ∧ q.2.length ≤ 2
  | 0, s => ⟨Nat.le_refl _, fun q hq => by cases hq⟩
  | n + 1, s => by
    have h1 := len_before s [13, 10]
    have h2 := len_after s [13, 10]
    have ih := len_lines n (spAfter s [13, 10])
    unfold spLinesF
    cases spFound s [13, 10] with
    | true =>
      rw [cond_true]
      refine ⟨by simp only [List.length_cons]; omega, fun q hq => ?_⟩
      rcases List.mem_cons.1 hq with rfl | hq
      · exact ⟨h1, Nat.le_refl _⟩
      · have := ih.2 q hq; omega
    | false =>
      rw [cond_false]
      refine ⟨by simp, fun q hq => ?_⟩
      rcases List.mem_cons.1 hq with rfl | hq
      · exact ⟨h1, Nat.zero_le _⟩
      · cases hq
theorem len_outB {hs ts : List UInt8} {mrows : List (List AV)} {c : Nat} : ∀ (l : List (List UInt8 × List UInt8)), (∀ q ∈ l, (spLineOut hs ts mrows q).length ≤ c) → (outB hs ts mrows l).length ≤ l.length * c
  | [], _ => by simp [outB]
  | q :: l, h => by
    have ih := len_outB l fun q' hq => h q' (List.mem_cons_of_mem _ hq)
    have h0 := h q (List.mem_cons_self ..)
    unfold outB at ih ⊢
    simp only [List.map_cons, List.flatten_cons, List.length_append, List.length_cons, Nat.add_mul]
    omega
theorem len_behind (hs ts s mark signs : List UInt8) (p tp : Int) (h : -9223372036854775808 ≤ tp ∧ tp ≤ 9223372036854775807) : (spBehind hs ts s mark signs p tp).length ≤ 3 * s.length + mark.length + ts.length + 22 := by
  have h1 := len_before s mark
  have h2 := len_after s mark
  have h3 := len_sub (spAfter s mark) 0 (spEnd (spAfter s mark) signs)
  have h4 := len_sub (spAfter s mark) (spEnd (spAfter s mark) signs) ((spAfter s mark).length - spEnd (spAfter s mark) signs)
  have h5 := len_place hs ts (sub (spAfter s mark) 0 (spEnd (spAfter s mark) signs)) p tp h
  unfold spBehind
  cases !spFound s mark with
  | true => rw [cond_true]; omega
  | false => simp only [cond_false, List.length_append]; omega
theorem hN_set (r : List AV) (x : AV) : hN (r.set 1 x) = hN r := by
  unfold hN
  cases r with
  | nil => rfl
  | cons a l => rfl
theorem hV_set {r : List AV} (h : r.length = 2) (s : List UInt8) : hV (r.set 1 (.str s)) = s := by
  match r, h with
  | [a, b], _ => rfl
theorem hdr_spec (hs ts : List UInt8) (p tp : Int) (m : Nat) {r : List AV} (h : r.length = 2) :
    hN (spHdr hs ts p tp m r) = hN r ∧ hV (spHdr hs ts p tp m r) = (bif spLow (hN r) == sgVia then spBehind hs ts (hV r) mkVia [59] p tp else bif spLow (hN r) == sgContact then spBehind hs ts (hV r) [64] [62, 59] p tp else bif spLow (hN r) == sgLen then spItoa (m : Int) else hV r)
    ∧ (spHdr hs ts p tp m r).length = 2 := by
  unfold spHdr
  cases spLow (hN r) == sgVia with
  | true => exact ⟨hN_set _ _, hV_set h _, by simp [h]⟩
  | false =>
    cases spLow (hN r) == sgContact with
    | true => exact ⟨hN_set _ _, hV_set h _, by simp [h]⟩
    | false =>
      cases spLow (hN r) == sgLen with
      | true => exact ⟨hN_set _ _, hV_set h _, by simp [h]⟩
      | false => exact ⟨rfl, rfl, h⟩
def rwBody (host to_ : Int) (mrows brows : List (List AV)) : List UInt8 := outB (spDotted host) (spDotted to_) mrows (spLines (brows.map rowByte))
def rwHdrs (host to_ port toPort : Int) (mrows hrows brows : List (List AV)) : List (List AV) :=
  hrows.map (spHdr (spDotted host) (spDotted to_) (IntKind.wrap .i64 port) (IntKind.wrap .i64 toPort) (rwBody host to_ mrows brows).length)
def rwOk (start : List UInt8) (host to_ port toPort : Int) (mrows hrows brows : List (List AV)) : Bool :=
  spRight start hrows brows.length && spRight start (rwHdrs host to_ port toPort mrows hrows brows) (rwBody host to_ mrows brows).length
def spRwH (start : List UInt8) (host to_ port toPort : Int) (mrows hrows brows : List (List AV)) : List (List AV) :=
  bif rwOk start host to_ port toPort mrows hrows brows then rwHdrs host to_ port toPort mrows hrows brows else hrows
def spRwB (start : List UInt8) (host to_ port toPort : Int) (mrows hrows brows : List (List AV)) : List (List AV) :=
  bif rwOk start host to_ port toPort mrows hrows brows then byteRows (rwBody host to_ mrows brows) else brows
theorem hSize_mem {rows : List (List AV)} {r : List AV} (h : r ∈ rows) : hLen r ≤ hSize rows := by
  unfold hSize
  induction rows with
  | nil => cases h
  | cons a l ih =>
    simp only [List.map_cons, List.sum_cons]
    rcases List.mem_cons.1 h with rfl | h
    · omega
    · have := ih h; omega
structure Sized (start : List UInt8) (rows : List (List AV)) (bn : Nat) : Prop where
  n : rows.length ≤ 64
  pos : 0 < rows.length
  bn : bn ≤ 4096
  v : ∀ r ∈ rows, (hV r).length ≤ 4096 ∧ (hN r).length ≤ 4096
theorem right_sized {start : List UInt8} {rows : List (List AV)} {bn : Nat} (h : spRight start rows bn = true) : Sized start rows bn := by
  unfold spRight at h
  simp only [Bool.and_eq_true, decide_eq_true_eq] at h
  obtain ⟨_, _, h3, _, h5, h6⟩ := h
  refine ⟨h3, ?_, by omega, fun r hr => ?_⟩
  · cases rows with
    | nil => simp [nLens] at h5
    | cons a l => simp
  · have := hSize_mem hr
    unfold hLen at this
    omega
theorem rw_lines {host to_ : Int} {mrows brows : List (List AV)} (hb : brows.length ≤ 4096) (hm : mrows.length ≤ 4611686018427387904) :
    LineOK (spDotted host) (spDotted to_) mrows (spLines (brows.map rowByte)) ∧ (rwBody host to_ mrows brows).length ≤ 40000000 := by
  have h1 := len_dotted host
  have h2 := len_dotted to_
  have h3 := len_lines ((brows.map rowByte).length + 1) (brows.map rowByte)
  have h4 : (brows.map rowByte).length = brows.length := by simp
  have h5 : (rwBody host to_ mrows brows).length ≤ (spLines (brows.map rowByte)).length * 8321 := by
    refine len_outB _ fun q hq => ?_
    have h6 := h3.2 q hq
    have h7 := len_line (spDotted host) (spDotted to_) q.1 mrows
    unfold spLineOut
    simp only [List.length_append]
    omega
  have h8 : (spLines (brows.map rowByte)).length ≤ 4097 := by
    have := h3.1; unfold spLines; omega
  have h9 : (rwBody host to_ mrows brows).length ≤ 4097 * 8321 := Nat.le_trans h5 (Nat.mul_le_mul_right _ h8)
  refine ⟨⟨by omega, by omega, hm, fun q hq => ?_, ?_⟩, by omega⟩
  · have h6 := h3.2 q hq; omega
  · have : (outB (spDotted host) (spDotted to_) mrows (spLines (brows.map rowByte))).length ≤ 4097 * 8321 := h9
    omega
theorem rw_hdrs {start : List UInt8} {host to_ port toPort : Int} {mrows hrows brows : List (List AV)} (hs : Sized start hrows brows.length) (h2 : ∀ r ∈ hrows, r.length = 2) (hm : mrows.length ≤ 4611686018427387904) :
    HdrOK (spDotted host) (spDotted to_) (IntKind.wrap .i64 toPort) hrows mrows ∧ (rwHdrs host to_ port toPort mrows hrows brows).all short = true ∧ ∀ r ∈ rwHdrs host to_ port toPort mrows hrows brows, r.length = 2 := by
  have h1 := len_dotted host
  have h3 := len_dotted to_
  refine ⟨⟨by have := hs.n; omega, List.all_eq_true.2 fun r hr => ?_, h2, by omega, by omega, wrap64_range _⟩, List.all_eq_true.2 fun r hr => ?_, fun r hr => ?_⟩
  · have := hs.v r hr
    exact decide_eq_true (by omega)
  · unfold rwHdrs at hr
    obtain ⟨r0, hr0, rfl⟩ := List.mem_map.1 hr
    obtain ⟨e1, e2, _⟩ := hdr_spec (spDotted host) (spDotted to_) (IntKind.wrap .i64 port) (IntKind.wrap .i64 toPort) (rwBody host to_ mrows brows).length (h2 r0 hr0)
    have hv := hs.v r0 hr0
    have b1 := len_behind (spDotted host) (spDotted to_) (hV r0) mkVia [59] (IntKind.wrap .i64 port) (IntKind.wrap .i64 toPort) (wrap64_range _)
    have b2 := len_behind (spDotted host) (spDotted to_) (hV r0) [64] [62, 59] (IntKind.wrap .i64 port) (IntKind.wrap .i64 toPort) (wrap64_range _)
    have b3 : mkVia.length = 12 := rfl
    have hb := (rw_lines (host := host) (to_ := to_) hs.bn hm).2
    have b4 := len_itoa ((rwBody host to_ mrows brows).length : Int) (by omega)
    unfold short
    rw [e1, e2]
    refine decide_eq_true ⟨by omega, ?_⟩
    cases spLow (hN r0) == sgVia with
    | true => rw [cond_true]; omega
    | false =>
      cases spLow (hN r0) == sgContact with
      | true => rw [cond_false, cond_true]; simp only [List.length_cons, List.length_nil] at b2; omega
      | false =>
        cases spLow (hN r0) == sgLen with
        | true =>
          simp only [cond_false, cond_true]; omega
        | false => simp only [cond_false]; omega
  · unfold rwHdrs at hr
    obtain ⟨r0, hr0, rfl⟩ := List.mem_map.1 hr
    exact (hdr_spec _ _ _ _ _ (h2 r0 hr0)).2.2
end Go.Proofs.YtpdgmgkkbbndfaaGreatDoor

set_option maxRecDepth 100000
set_option maxHeartbeats 4000000
namespace Go.Proofs.YtpdgmgkkbbndfaaGreatDoor
open Go Go.Proofs Go.Proofs.YtpdgmgkkbbndfaaGreatDoor.SX
theorem c23nP (start : List UInt8) (hrows : List (List AV)) (brows : List (List AV)) (mrows : List (List AV)) (host : Int) (to_ : Int) (port : Int) (toPort : Int) :
 Path (runCallB Tryz.prog P6o 100 23 [AV.agg [AV.str start, AV.slq 0 (List.length hrows), AV.slq 1 (List.length brows)], AV.int IntKind.u32 host, AV.int IntKind.u32 to_, AV.int IntKind.u16 port, AV.int IntKind.u16 toPort, AV.slq 2 (List.length mrows)] (st0 [Blk.cells false [Kd.str, Kd.str] hrows, Blk.cells false [Kd.int IntKind.u8] brows, Blk.cells false [Kd.int IntKind.u16, Kd.int IntKind.u16] mrows] ([.as_ true]))) 3 [5, 6] (SL.mk [] [(3, .cells false [Kd.str, Kd.str] (sub hrows 0 (List.length hrows))), (4, .cells false [Kd.int IntKind.u8] (sub brows 0 (List.length brows)))] 5) (Out.ret (ren (sig 3 [5, 6]) (AV.agg [AV.str start, AV.slq 3 (List.length (sub hrows 0 (List.length hrows))), AV.slq 4 (List.length (sub brows 0 (List.length brows)))])))
 (((((((((((((((((((((((((((((((((((((True ∧ (true = true)) ∧ (true = true)) ∧ (true = true)) ∧ ((decide (0 + List.length hrows ≤ List.length hrows) && decide (List.length (sub hrows 0 (List.length hrows)) ≤ 4398046511104)) = true)) ∧ ((decide (0 + List.length brows ≤ List.length brows) && decide (List.length (sub brows 0 (List.length brows)) ≤ 140737488355328)) = true)) ∧ (true = true)) ∧ (true = true)) ∧ (true = true)) ∧ (true = true)) ∧ (true = true)) ∧ (true = true)) ∧ ((decide (0 + List.length brows ≤ List.length brows) && decide (List.length (sub brows 0 (List.length brows)) ≤ 140737488355328)) = true)) ∧ (true = true)) ∧ (true = true)) ∧ (true = true)) ∧ (true = true)) ∧ (true = true)) ∧ (true = true)) ∧ ((decide (0 + List.length hrows ≤ List.length hrows) && decide (List.length (sub hrows 0 (List.length hrows)) ≤ 4398046511104)) = true)) ∧ ((decide (0 + List.length brows ≤ List.length brows) && decide (List.length (sub brows 0 (List.length brows)) ≤ 140737488355328)) = true)) ∧ (true = true)) ∧ (true = true)) ∧ (true = true)) ∧ (true = true)) ∧ (true = true)) ∧ (true = true)) ∧ (true = true)) ∧ ((decide (0 + List.length hrows ≤ List.length hrows) && (decide (0 + List.length brows ≤ List.length brows) && decide (List.length start ≤ 4294967200 ∧ List.all (sub hrows 0 (List.length hrows)) short = true ∧ List.length (sub brows 0 (List.length brows)) ≤ 140737488355328))) = true)) ∧ ((!spRight start (sub hrows 0 (List.length hrows)) (List.length (sub brows 0 (List.length brows)))) = true)) ∧ (true = true)) ∧ (true = true)) ∧ (true = true)) ∧ (true = true)) ∧ (true = true)) ∧ (true = true)) ∧ (true = true)) ∧ (true = true))  := by unfold Path; kernel_rfl
theorem c23n (start : List UInt8) (hrows : List (List AV)) (brows : List (List AV)) (mrows : List (List AV)) (host : Int) (to_ : Int) (port : Int) (toPort : Int) {ρ : Nat → BI} {w : World} (hE : HSim ρ (addBlks .e 0 [Blk.cells false [Kd.str, Kd.str] hrows, Blk.cells false [Kd.int IntKind.u8] brows, Blk.cells false [Kd.int IntKind.u16, Kd.int IntKind.u16] mrows]) ([Blk.cells false [Kd.str, Kd.str] hrows, Blk.cells false [Kd.int IntKind.u8] brows, Blk.cells false [Kd.int IntKind.u16, Kd.int IntKind.u16] mrows] : List Blk).length w)
    (h0 : (decide (0 + List.length hrows ≤ List.length hrows) && decide (List.length (sub hrows 0 (List.length hrows)) ≤ 4398046511104)) = true)
    (h1 : (decide (0 + List.length brows ≤ List.length brows) && decide (List.length (sub brows 0 (List.length brows)) ≤ 140737488355328)) = true)
    (h2 : (decide (0 + List.length hrows ≤ List.length hrows) && (decide (0 + List.length brows ≤ List.length brows) && decide (List.length start ≤ 4294967200 ∧ List.all (sub hrows 0 (List.length hrows)) short = true ∧ List.length (sub brows 0 (List.length brows)) ≤ 140737488355328))) = true)
    (h3 : (!spRight start (sub hrows 0 (List.length hrows)) (List.length (sub brows 0 (List.length brows)))) = true) :
    Calls Tryz.prog 23 (concL ρ [AV.agg [AV.str start, AV.slq 0 (List.length hrows), AV.slq 1 (List.length brows)], AV.int IntKind.u32 host, AV.int IntKind.u32 to_, AV.int IntKind.u16 port, AV.int IntKind.u16 toPort, AV.slq 2 (List.length mrows)]).toArray w (fun e w' => ∃ ρ', e = .returned (conc ρ' (AV.agg [AV.str start, AV.slq 3 (List.length (sub hrows 0 (List.length hrows))), AV.slq 4 (List.length (sub brows 0 (List.length brows)))])) ∧ HStep ρ (addBlks .e 0 [Blk.cells false [Kd.str, Kd.str] hrows, Blk.cells false [Kd.int IntKind.u8] brows, Blk.cells false [Kd.int IntKind.u16, Kd.int IntKind.u16] mrows]) ([Blk.cells false [Kd.str, Kd.str] hrows, Blk.cells false [Kd.int IntKind.u8] brows, Blk.cells false [Kd.int IntKind.u16, Kd.int IntKind.u16] mrows] : List Blk).length w ρ' (Tr.ofList [(3, .cells false [Kd.str, Kd.str] (sub hrows 0 (List.length hrows))), (4, .cells false [Kd.int IntKind.u8] (sub brows 0 (List.length brows)))]) 5 w') :=
  calls_ofB P6o_ok (c23nP start hrows brows mrows host to_ port toPort) ⟨⟨⟨⟨⟨⟨⟨⟨⟨⟨⟨⟨⟨⟨⟨⟨⟨⟨⟨⟨⟨⟨⟨⟨⟨⟨⟨⟨⟨⟨⟨⟨⟨⟨⟨⟨⟨trivial, rfl⟩, rfl⟩, rfl⟩, h0⟩, h1⟩, rfl⟩, rfl⟩, rfl⟩, rfl⟩, rfl⟩, rfl⟩, h1⟩, rfl⟩, rfl⟩, rfl⟩, rfl⟩, rfl⟩, rfl⟩, h0⟩, h1⟩, rfl⟩, rfl⟩, rfl⟩, rfl⟩, rfl⟩, rfl⟩, rfl⟩, h2⟩, h3⟩, rfl⟩, rfl⟩, rfl⟩, rfl⟩, rfl⟩, rfl⟩, rfl⟩, rfl⟩ hE rfl
theorem c23zTP (start : List UInt8) (hrows : List (List AV)) (brows : List (List AV)) (mrows : List (List AV)) (hrows2 : List (List AV)) (brows2 : List (List AV)) (host : Int) (to_ : Int) (port : Int) (toPort : Int) (m : Nat) :
 Path (runCallB Tryz.prog P6w 100 23 [AV.agg [AV.str start, AV.slq 0 (List.length hrows), AV.slq 1 (List.length brows)], AV.int IntKind.u32 host, AV.int IntKind.u32 to_, AV.int IntKind.u16 port, AV.int IntKind.u16 toPort, AV.slq 2 (List.length mrows)] (st0 [Blk.cells false [Kd.str, Kd.str] hrows, Blk.cells false [Kd.int IntKind.u8] brows, Blk.cells false [Kd.int IntKind.u16, Kd.int IntKind.u16] mrows] ([.as_ false, PI.loop (SL.mk [(51, AV.fn (Fn.func (76 : FuncId)) [] [AV.ptr (Loc.mk 11 0 0)]), (14, AV.ptr (Loc.mk 8 0 0)), (15, AV.ptr (Loc.mk 10 0 0))] [(2, Blk.cells false [Kd.int IntKind.u16, Kd.int IntKind.u16] mrows), (8, Blk.cells true [Kd.str, Kd.str, Kd.int IntKind.i64, Kd.int IntKind.i64, Kd.any] [[AV.str (spDotted host), AV.str (spDotted to_), AV.int IntKind.i64 (IntKind.wrap IntKind.i64 port), AV.int IntKind.i64 (IntKind.wrap IntKind.i64 toPort), AV.slq 2 (List.length mrows)]]), (10, Blk.cells true [Kd.str, Kd.any, Kd.any] [[AV.str start, AV.sl (Loc.mk 9 0 0) (List.length (sub hrows 0 (List.length hrows))) Cap.open_, AV.nilSl]]), (11, Blk.cells true [Kd.any] [[AV.slq 1 (List.length brows)]]), (1, Blk.cells false [Kd.int IntKind.u8] brows)] 12) Ex.normal (SL.mk [] [(2, Blk.cells false [Kd.int IntKind.u16, Kd.int IntKind.u16] mrows), (8, Blk.cells true [Kd.str, Kd.str, Kd.int IntKind.i64, Kd.int IntKind.i64, Kd.any] [[AV.str (spDotted host), AV.str (spDotted to_), AV.int IntKind.i64 (IntKind.wrap IntKind.i64 port), AV.int IntKind.i64 (IntKind.wrap IntKind.i64 toPort), AV.slq 2 (List.length mrows)]]), (10, Blk.cells true [Kd.str, Kd.any, Kd.any] [[AV.str start, AV.sl (Loc.mk 9 0 0) (List.length (sub hrows 0 (List.length hrows))) Cap.open_, AV.nilSl]]), (12, Blk.mark)] 13), PI.loop (b23zI start (spDotted host) (spDotted to_) (List.length (sub hrows 0 (List.length hrows))) m (List.length mrows) (IntKind.wrap IntKind.i64 port) (IntKind.wrap IntKind.i64 toPort) mrows (sub hrows 0 (List.length hrows)) (0 : Int)) (Ex.exit 2) (b23zI start (spDotted host) (spDotted to_) (List.length (sub hrows 0 (List.length hrows))) m (List.length mrows) (IntKind.wrap IntKind.i64 port) (IntKind.wrap IntKind.i64 toPort) mrows hrows2 (↑(List.length (sub hrows 0 (List.length hrows))) : Int)), .as_ true]))) 3 [5, 6] (SL.mk [] [(3, .cells true [Kd.str, Kd.str] (sub hrows 0 (List.length hrows))), (4, .cells false [Kd.int IntKind.u8] (sub brows 0 (List.length brows)))] 5) (Out.ret (ren (sig 3 [5, 6]) (AV.agg [AV.str start, AV.sl (Loc.mk 3 0 0) (List.length (sub hrows 0 (List.length hrows))) Cap.open_, AV.slq 4 (List.length (sub brows 0 (List.length brows)))])))
 ((((((((((((((((((((((((((((((((((((((((((((((((((((((((((((((((((((((((True ∧ (true = true)) ∧ (true = true)) ∧ (true = true)) ∧ ((decide (0 + List.length hrows ≤ List.length hrows) && decide (0 < List.length (sub hrows 0 (List.length hrows)) ∧ List.length (sub hrows 0 (List.length hrows)) ≤ 4398046511104)) = true)) ∧ ((decide (0 + List.length brows ≤ List.length brows) && decide (List.length (sub brows 0 (List.length brows)) ≤ 140737488355328)) = true)) ∧ (true = true)) ∧ (true = true)) ∧ (true = true)) ∧ (true = true)) ∧ (true = true)) ∧ (true = true)) ∧ ((decide (0 + List.length brows ≤ List.length brows) && decide (List.length (sub brows 0 (List.length brows)) ≤ 140737488355328)) = true)) ∧ (true = true)) ∧ (true = true)) ∧ (true = true)) ∧ (true = true)) ∧ (true = true)) ∧ (true = true)) ∧ ((decide (0 + List.length hrows ≤ List.length hrows) && decide (0 < List.length (sub hrows 0 (List.length hrows)) ∧ List.length (sub hrows 0 (List.length hrows)) ≤ 4398046511104)) = true)) ∧ ((decide (0 + List.length brows ≤ List.length brows) && decide (List.length (sub brows 0 (List.length brows)) ≤ 140737488355328)) = true)) ∧ (true = true)) ∧ (true = true)) ∧ (true = true)) ∧ (true = true)) ∧ (true = true)) ∧ (true = true)) ∧ (true = true)) ∧ ((decide (0 + List.length hrows ≤ List.length hrows) && (decide (0 + List.length brows ≤ List.length brows) && decide (List.length start ≤ 4294967200 ∧ List.all (sub hrows 0 (List.length hrows)) short = true ∧ List.length (sub brows 0 (List.length brows)) ≤ 140737488355328))) = true)) ∧ ((!spRight start (sub hrows 0 (List.length hrows)) (List.length (sub brows 0 (List.length brows)))) = false)) ∧ (true = true)) ∧ (true = true)) ∧ (true = true)) ∧ (true = true)) ∧ (true = true)) ∧ (true = true)) ∧ (true = true)) ∧ (true = true)) ∧ (true = true)) ∧ (true = true)) ∧ (true = true)) ∧ (true = true)) ∧ (true = true)) ∧ (true = true)) ∧ ((decide (0 + List.length hrows ≤ List.length hrows) && decide (0 < List.length (sub hrows 0 (List.length hrows)) ∧ List.length (sub hrows 0 (List.length hrows)) ≤ 4398046511104)) = true)) ∧ (true = true)) ∧ (true = true)) ∧ (true = true)) ∧ (true = true)) ∧ (true = true)) ∧ (true = true)) ∧ ((decide (0 + List.length hrows ≤ List.length hrows) && decide (0 < List.length (sub hrows 0 (List.length hrows)) ∧ List.length (sub hrows 0 (List.length hrows)) ≤ 4398046511104)) = true)) ∧ (true = true)) ∧ (true = true)) ∧ (true = true)) ∧ (true = true)) ∧ (true = true)) ∧ (true = true)) ∧ (true = true)) ∧ (RangeOK Tryz.prog (rcode Tryz.prog 23 0) (113) (SL.mk [(51, AV.fn (Fn.func 76) [] [AV.ptr (Loc.mk 11 0 0)]), (14, AV.ptr (Loc.mk 8 0 0)), (15, AV.ptr (Loc.mk 10 0 0))] [(2, Blk.cells false [Kd.int IntKind.u16, Kd.int IntKind.u16] mrows), (8, Blk.cells true [Kd.str, Kd.str, Kd.int IntKind.i64, Kd.int IntKind.i64, Kd.any] [[AV.str (spDotted host), AV.str (spDotted to_), AV.int IntKind.i64 (IntKind.wrap IntKind.i64 port), AV.int IntKind.i64 (IntKind.wrap IntKind.i64 toPort), AV.slq 2 (List.length mrows)]]), (10, Blk.cells true [Kd.str, Kd.any, Kd.any] [[AV.str start, AV.sl (Loc.mk 9 0 0) (List.length (sub hrows 0 (List.length hrows))) Cap.open_, AV.nilSl]]), (11, Blk.cells true [Kd.any] [[AV.slq 1 (List.length brows)]]), (1, Blk.cells false [Kd.int IntKind.u8] brows)] 12) (SL.mk [] [(2, Blk.cells false [Kd.int IntKind.u16, Kd.int IntKind.u16] mrows), (8, Blk.cells true [Kd.str, Kd.str, Kd.int IntKind.i64, Kd.int IntKind.i64, Kd.any] [[AV.str (spDotted host), AV.str (spDotted to_), AV.int IntKind.i64 (IntKind.wrap IntKind.i64 port), AV.int IntKind.i64 (IntKind.wrap IntKind.i64 toPort), AV.slq 2 (List.length mrows)]]), (10, Blk.cells true [Kd.str, Kd.any, Kd.any] [[AV.str start, AV.sl (Loc.mk 9 0 0) (List.length (sub hrows 0 (List.length hrows))) Cap.open_, AV.nilSl]]), (12, Blk.mark)] 13))) ∧ (true = true)) ∧ (LoopOK Tryz.prog (lbody Tryz.prog 23 0) (113) (SL.mk [(12, AV.ptr (Loc.mk 4 0 0)), (13, AV.ptr (Loc.mk 7 0 0)), (14, AV.ptr (Loc.mk 8 0 0)), (15, AV.ptr (Loc.mk 10 0 0)), (64, AV.sl (Loc.mk 9 0 0) (List.length (sub hrows 0 (List.length hrows))) Cap.open_), (65, AV.int IntKind.i64 (↑(List.length (sub hrows 0 (List.length hrows))) : Int)), (66, AV.int IntKind.i64 (0 : Int))] [(2, Blk.cells false [Kd.int IntKind.u16, Kd.int IntKind.u16] mrows), (8, Blk.cells true [Kd.str, Kd.str, Kd.int IntKind.i64, Kd.int IntKind.i64, Kd.any] [[AV.str (spDotted host), AV.str (spDotted to_), AV.int IntKind.i64 (IntKind.wrap IntKind.i64 port), AV.int IntKind.i64 (IntKind.wrap IntKind.i64 toPort), AV.slq 2 (List.length mrows)]]), (9, Blk.cells true [Kd.str, Kd.str] (sub hrows 0 (List.length hrows))), (10, Blk.cells true [Kd.str, Kd.any, Kd.any] [[AV.str start, AV.sl (Loc.mk 9 0 0) (List.length (sub hrows 0 (List.length hrows))) Cap.open_, AV.nilSl]])] 13) (Ex.exit 2) (SL.mk [(12, AV.ptr (Loc.mk 4 0 0)), (13, AV.ptr (Loc.mk 7 0 0)), (14, AV.ptr (Loc.mk 8 0 0)), (15, AV.ptr (Loc.mk 10 0 0)), (64, AV.sl (Loc.mk 9 0 0) (List.length (sub hrows 0 (List.length hrows))) Cap.open_), (65, AV.int IntKind.i64 (↑(List.length (sub hrows 0 (List.length hrows))) : Int)), (66, AV.int IntKind.i64 (↑(List.length (sub hrows 0 (List.length hrows))) : Int))] [(2, Blk.cells false [Kd.int IntKind.u16, Kd.int IntKind.u16] mrows), (8, Blk.cells true [Kd.str, Kd.str, Kd.int IntKind.i64, Kd.int IntKind.i64, Kd.any] [[AV.str (spDotted host), AV.str (spDotted to_), AV.int IntKind.i64 (IntKind.wrap IntKind.i64 port), AV.int IntKind.i64 (IntKind.wrap IntKind.i64 toPort), AV.slq 2 (List.length mrows)]]), (9, Blk.cells true [Kd.str, Kd.str] hrows2), (10, Blk.cells true [Kd.str, Kd.any, Kd.any] [[AV.str start, AV.sl (Loc.mk 9 0 0) (List.length (sub hrows 0 (List.length hrows))) Cap.open_, AV.nilSl]])] 13))) ∧ (true = true)) ∧ ((decide (0 + List.length (sub hrows 0 (List.length hrows)) ≤ List.length hrows2) && (true && decide (List.length start ≤ 4294967200 ∧ List.all (sub hrows2 0 (List.length (sub hrows 0 (List.length hrows)))) short = true ∧ 0 ≤ 140737488355328))) = true)) ∧ ((!spRight start (sub hrows2 0 (List.length (sub hrows 0 (List.length hrows)))) 0) = true)) ∧ (true = true)) ∧ (true = true)) ∧ (true = true)) ∧ (true = true)) ∧ (true = true)) ∧ (true = true)) ∧ (true = true)) ∧ (true = true))  := by unfold Path; kernel_rfl
theorem c23zT (start : List UInt8) (hrows : List (List AV)) (brows : List (List AV)) (mrows : List (List AV)) (hrows2 : List (List AV)) (brows2 : List (List AV)) (host : Int) (to_ : Int) (port : Int) (toPort : Int) (m : Nat) {ρ : Nat → BI} {w : World} (hE : HSim ρ (addBlks .e 0 [Blk.cells false [Kd.str, Kd.str] hrows, Blk.cells false [Kd.int IntKind.u8] brows, Blk.cells false [Kd.int IntKind.u16, Kd.int IntKind.u16] mrows]) ([Blk.cells false [Kd.str, Kd.str] hrows, Blk.cells false [Kd.int IntKind.u8] brows, Blk.cells false [Kd.int IntKind.u16, Kd.int IntKind.u16] mrows] : List Blk).length w)
    (h0 : (decide (0 + List.length hrows ≤ List.length hrows) && decide (0 < List.length (sub hrows 0 (List.length hrows)) ∧ List.length (sub hrows 0 (List.length hrows)) ≤ 4398046511104)) = true)
    (h1 : (decide (0 + List.length brows ≤ List.length brows) && decide (List.length (sub brows 0 (List.length brows)) ≤ 140737488355328)) = true)
    (h2 : (decide (0 + List.length hrows ≤ List.length hrows) && (decide (0 + List.length brows ≤ List.length brows) && decide (List.length start ≤ 4294967200 ∧ List.all (sub hrows 0 (List.length hrows)) short = true ∧ List.length (sub brows 0 (List.length brows)) ≤ 140737488355328))) = true)
    (h3 : (!spRight start (sub hrows 0 (List.length hrows)) (List.length (sub brows 0 (List.length brows)))) = false)
    (h4 : RangeOK Tryz.prog (rcode Tryz.prog 23 0) (113) (SL.mk [(51, AV.fn (Fn.func 76) [] [AV.ptr (Loc.mk 11 0 0)]), (14, AV.ptr (Loc.mk 8 0 0)), (15, AV.ptr (Loc.mk 10 0 0))] [(2, Blk.cells false [Kd.int IntKind.u16, Kd.int IntKind.u16] mrows), (8, Blk.cells true [Kd.str, Kd.str, Kd.int IntKind.i64, Kd.int IntKind.i64, Kd.any] [[AV.str (spDotted host), AV.str (spDotted to_), AV.int IntKind.i64 (IntKind.wrap IntKind.i64 port), AV.int IntKind.i64 (IntKind.wrap IntKind.i64 toPort), AV.slq 2 (List.length mrows)]]), (10, Blk.cells true [Kd.str, Kd.any, Kd.any] [[AV.str start, AV.sl (Loc.mk 9 0 0) (List.length (sub hrows 0 (List.length hrows))) Cap.open_, AV.nilSl]]), (11, Blk.cells true [Kd.any] [[AV.slq 1 (List.length brows)]]), (1, Blk.cells false [Kd.int IntKind.u8] brows)] 12) (SL.mk [] [(2, Blk.cells false [Kd.int IntKind.u16, Kd.int IntKind.u16] mrows), (8, Blk.cells true [Kd.str, Kd.str, Kd.int IntKind.i64, Kd.int IntKind.i64, Kd.any] [[AV.str (spDotted host), AV.str (spDotted to_), AV.int IntKind.i64 (IntKind.wrap IntKind.i64 port), AV.int IntKind.i64 (IntKind.wrap IntKind.i64 toPort), AV.slq 2 (List.length mrows)]]), (10, Blk.cells true [Kd.str, Kd.any, Kd.any] [[AV.str start, AV.sl (Loc.mk 9 0 0) (List.length (sub hrows 0 (List.length hrows))) Cap.open_, AV.nilSl]]), (12, Blk.mark)] 13))
    (h5 : LoopOK Tryz.prog (lbody Tryz.prog 23 0) (113) (SL.mk [(12, AV.ptr (Loc.mk 4 0 0)), (13, AV.ptr (Loc.mk 7 0 0)), (14, AV.ptr (Loc.mk 8 0 0)), (15, AV.ptr (Loc.mk 10 0 0)), (64, AV.sl (Loc.mk 9 0 0) (List.length (sub hrows 0 (List.length hrows))) Cap.open_), (65, AV.int IntKind.i64 (↑(List.length (sub hrows 0 (List.length hrows))) : Int)), (66, AV.int IntKind.i64 (0 : Int))] [(2, Blk.cells false [Kd.int IntKind.u16, Kd.int IntKind.u16] mrows), (8, Blk.cells true [Kd.str, Kd.str, Kd.int IntKind.i64, Kd.int IntKind.i64, Kd.any] [[AV.str (spDotted host), AV.str (spDotted to_), AV.int IntKind.i64 (IntKind.wrap IntKind.i64 port), AV.int IntKind.i64 (IntKind.wrap IntKind.i64 toPort), AV.slq 2 (List.length mrows)]]), (9, Blk.cells true [Kd.str, Kd.str] (sub hrows 0 (List.length hrows))), (10, Blk.cells true [Kd.str, Kd.any, Kd.any] [[AV.str start, AV.sl (Loc.mk 9 0 0) (List.length (sub hrows 0 (List.length hrows))) Cap.open_, AV.nilSl]])] 13) (Ex.exit 2) (SL.mk [(12, AV.ptr (Loc.mk 4 0 0)), (13, AV.ptr (Loc.mk 7 0 0)), (14, AV.ptr (Loc.mk 8 0 0)), (15, AV.ptr (Loc.mk 10 0 0)), (64, AV.sl (Loc.mk 9 0 0) (List.length (sub hrows 0 (List.length hrows))) Cap.open_), (65, AV.int IntKind.i64 (↑(List.length (sub hrows 0 (List.length hrows))) : Int)), (66, AV.int IntKind.i64 (↑(List.length (sub hrows 0 (List.length hrows))) : Int))] [(2, Blk.cells false [Kd.int IntKind.u16, Kd.int IntKind.u16] mrows), (8, Blk.cells true [Kd.str, Kd.str, Kd.int IntKind.i64, Kd.int IntKind.i64, Kd.any] [[AV.str (spDotted host), AV.str (spDotted to_), AV.int IntKind.i64 (IntKind.wrap IntKind.i64 port), AV.int IntKind.i64 (IntKind.wrap IntKind.i64 toPort), AV.slq 2 (List.length mrows)]]), (9, Blk.cells true [Kd.str, Kd.str] hrows2), (10, Blk.cells true [Kd.str, Kd.any, Kd.any] [[AV.str start, AV.sl (Loc.mk 9 0 0) (List.length (sub hrows 0 (List.length hrows))) Cap.open_, AV.nilSl]])] 13))
    (h6 : (decide (0 + List.length (sub hrows 0 (List.length hrows)) ≤ List.length hrows2) && (true && decide (List.length start ≤ 4294967200 ∧ List.all (sub hrows2 0 (List.length (sub hrows 0 (List.length hrows)))) short = true ∧ 0 ≤ 140737488355328))) = true)
    (h7 : (!spRight start (sub hrows2 0 (List.length (sub hrows 0 (List.length hrows)))) 0) = true) :
    Calls Tryz.prog 23 (concL ρ [AV.agg [AV.str start, AV.slq 0 (List.length hrows), AV.slq 1 (List.length brows)], AV.int IntKind.u32 host, AV.int IntKind.u32 to_, AV.int IntKind.u16 port, AV.int IntKind.u16 toPort, AV.slq 2 (List.length mrows)]).toArray w (fun e w' => ∃ ρ', e = .returned (conc ρ' (AV.agg [AV.str start, AV.sl (Loc.mk 3 0 0) (List.length (sub hrows 0 (List.length hrows))) Cap.open_, AV.slq 4 (List.length (sub brows 0 (List.length brows)))])) ∧ HStep ρ (addBlks .e 0 [Blk.cells false [Kd.str, Kd.str] hrows, Blk.cells false [Kd.int IntKind.u8] brows, Blk.cells false [Kd.int IntKind.u16, Kd.int IntKind.u16] mrows]) ([Blk.cells false [Kd.str, Kd.str] hrows, Blk.cells false [Kd.int IntKind.u8] brows, Blk.cells false [Kd.int IntKind.u16, Kd.int IntKind.u16] mrows] : List Blk).length w ρ' (Tr.ofList [(3, .cells true [Kd.str, Kd.str] (sub hrows 0 (List.length hrows))), (4, .cells false [Kd.int IntKind.u8] (sub brows 0 (List.length brows)))]) 5 w') :=
  calls_ofB P6w_ok (c23zTP start hrows brows mrows hrows2 brows2 host to_ port toPort m) ⟨⟨⟨⟨⟨⟨⟨⟨⟨⟨⟨⟨⟨⟨⟨⟨⟨⟨⟨⟨⟨⟨⟨⟨⟨⟨⟨⟨⟨⟨⟨⟨⟨⟨⟨⟨⟨⟨⟨⟨⟨⟨⟨⟨⟨⟨⟨⟨⟨⟨⟨⟨⟨⟨⟨⟨⟨⟨⟨⟨⟨⟨⟨⟨⟨⟨⟨⟨⟨⟨⟨⟨trivial, rfl⟩, rfl⟩, rfl⟩, h0⟩, h1⟩, rfl⟩, rfl⟩, rfl⟩, rfl⟩, rfl⟩, rfl⟩, h1⟩, rfl⟩, rfl⟩, rfl⟩, rfl⟩, rfl⟩, rfl⟩, h0⟩, h1⟩, rfl⟩, rfl⟩, rfl⟩, rfl⟩, rfl⟩, rfl⟩, rfl⟩, h2⟩, h3⟩, rfl⟩, rfl⟩, rfl⟩, rfl⟩, rfl⟩, rfl⟩, rfl⟩, rfl⟩, rfl⟩, rfl⟩, rfl⟩, rfl⟩, rfl⟩, rfl⟩, h0⟩, rfl⟩, rfl⟩, rfl⟩, rfl⟩, rfl⟩, rfl⟩, h0⟩, rfl⟩, rfl⟩, rfl⟩, rfl⟩, rfl⟩, rfl⟩, rfl⟩, h4⟩, rfl⟩, h5⟩, rfl⟩, h6⟩, h7⟩, rfl⟩, rfl⟩, rfl⟩, rfl⟩, rfl⟩, rfl⟩, rfl⟩, rfl⟩ hE rfl
theorem c23zFP (start : List UInt8) (hrows : List (List AV)) (brows : List (List AV)) (mrows : List (List AV)) (hrows2 : List (List AV)) (brows2 : List (List AV)) (host : Int) (to_ : Int) (port : Int) (toPort : Int) (m : Nat) :
 Path (runCallB Tryz.prog P6w 100 23 [AV.agg [AV.str start, AV.slq 0 (List.length hrows), AV.slq 1 (List.length brows)], AV.int IntKind.u32 host, AV.int IntKind.u32 to_, AV.int IntKind.u16 port, AV.int IntKind.u16 toPort, AV.slq 2 (List.length mrows)] (st0 [Blk.cells false [Kd.str, Kd.str] hrows, Blk.cells false [Kd.int IntKind.u8] brows, Blk.cells false [Kd.int IntKind.u16, Kd.int IntKind.u16] mrows] ([.as_ false, PI.loop (SL.mk [(51, AV.fn (Fn.func (76 : FuncId)) [] [AV.ptr (Loc.mk 11 0 0)]), (14, AV.ptr (Loc.mk 8 0 0)), (15, AV.ptr (Loc.mk 10 0 0))] [(2, Blk.cells false [Kd.int IntKind.u16, Kd.int IntKind.u16] mrows), (8, Blk.cells true [Kd.str, Kd.str, Kd.int IntKind.i64, Kd.int IntKind.i64, Kd.any] [[AV.str (spDotted host), AV.str (spDotted to_), AV.int IntKind.i64 (IntKind.wrap IntKind.i64 port), AV.int IntKind.i64 (IntKind.wrap IntKind.i64 toPort), AV.slq 2 (List.length mrows)]]), (10, Blk.cells true [Kd.str, Kd.any, Kd.any] [[AV.str start, AV.sl (Loc.mk 9 0 0) (List.length (sub hrows 0 (List.length hrows))) Cap.open_, AV.nilSl]]), (11, Blk.cells true [Kd.any] [[AV.slq 1 (List.length brows)]]), (1, Blk.cells false [Kd.int IntKind.u8] brows)] 12) Ex.normal (SL.mk [] [(2, Blk.cells false [Kd.int IntKind.u16, Kd.int IntKind.u16] mrows), (8, Blk.cells true [Kd.str, Kd.str, Kd.int IntKind.i64, Kd.int IntKind.i64, Kd.any] [[AV.str (spDotted host), AV.str (spDotted to_), AV.int IntKind.i64 (IntKind.wrap IntKind.i64 port), AV.int IntKind.i64 (IntKind.wrap IntKind.i64 toPort), AV.slq 2 (List.length mrows)]]), (10, Blk.cells true [Kd.str, Kd.any, Kd.any] [[AV.str start, AV.sl (Loc.mk 9 0 0) (List.length (sub hrows 0 (List.length hrows))) Cap.open_, AV.nilSl]]), (12, Blk.mark)] 13), PI.loop (b23zI start (spDotted host) (spDotted to_) (List.length (sub hrows 0 (List.length hrows))) m (List.length mrows) (IntKind.wrap IntKind.i64 port) (IntKind.wrap IntKind.i64 toPort) mrows (sub hrows 0 (List.length hrows)) (0 : Int)) (Ex.exit 2) (b23zI start (spDotted host) (spDotted to_) (List.length (sub hrows 0 (List.length hrows))) m (List.length mrows) (IntKind.wrap IntKind.i64 port) (IntKind.wrap IntKind.i64 toPort) mrows hrows2 (↑(List.length (sub hrows 0 (List.length hrows))) : Int)), .as_ false]))) 3 [9] (SL.mk [] [(3, .cells true [Kd.str, Kd.str] hrows2)] 4) (Out.ret (ren (sig 3 [9]) (AV.agg [AV.str start, AV.sl (Loc.mk 3 0 0) (List.length (sub hrows 0 (List.length hrows))) Cap.open_, AV.nilSl])))
 ((((((((((((((((((((((((((((((((((((((((((((((((((((((((((((((((((((((((True ∧ (true = true)) ∧ (true = true)) ∧ (true = true)) ∧ ((decide (0 + List.length hrows ≤ List.length hrows) && decide (0 < List.length (sub hrows 0 (List.length hrows)) ∧ List.length (sub hrows 0 (List.length hrows)) ≤ 4398046511104)) = true)) ∧ ((decide (0 + List.length brows ≤ List.length brows) && decide (List.length (sub brows 0 (List.length brows)) ≤ 140737488355328)) = true)) ∧ (true = true)) ∧ (true = true)) ∧ (true = true)) ∧ (true = true)) ∧ (true = true)) ∧ (true = true)) ∧ ((decide (0 + List.length brows ≤ List.length brows) && decide (List.length (sub brows 0 (List.length brows)) ≤ 140737488355328)) = true)) ∧ (true = true)) ∧ (true = true)) ∧ (true = true)) ∧ (true = true)) ∧ (true = true)) ∧ (true = true)) ∧ ((decide (0 + List.length hrows ≤ List.length hrows) && decide (0 < List.length (sub hrows 0 (List.length hrows)) ∧ List.length (sub hrows 0 (List.length hrows)) ≤ 4398046511104)) = true)) ∧ ((decide (0 + List.length brows ≤ List.length brows) && decide (List.length (sub brows 0 (List.length brows)) ≤ 140737488355328)) = true)) ∧ (true = true)) ∧ (true = true)) ∧ (true = true)) ∧ (true = true)) ∧ (true = true)) ∧ (true = true)) ∧ (true = true)) ∧ ((decide (0 + List.length hrows ≤ List.length hrows) && (decide (0 + List.length brows ≤ List.length brows) && decide (List.length start ≤ 4294967200 ∧ List.all (sub hrows 0 (List.length hrows)) short = true ∧ List.length (sub brows 0 (List.length brows)) ≤ 140737488355328))) = true)) ∧ ((!spRight start (sub hrows 0 (List.length hrows)) (List.length (sub brows 0 (List.length brows)))) = false)) ∧ (true = true)) ∧ (true = true)) ∧ (true = true)) ∧ (true = true)) ∧ (true = true)) ∧ (true = true)) ∧ (true = true)) ∧ (true = true)) ∧ (true = true)) ∧ (true = true)) ∧ (true = true)) ∧ (true = true)) ∧ (true = true)) ∧ (true = true)) ∧ ((decide (0 + List.length hrows ≤ List.length hrows) && decide (0 < List.length (sub hrows 0 (List.length hrows)) ∧ List.length (sub hrows 0 (List.length hrows)) ≤ 4398046511104)) = true)) ∧ (true = true)) ∧ (true = true)) ∧ (true = true)) ∧ (true = true)) ∧ (true = true)) ∧ (true = true)) ∧ ((decide (0 + List.length hrows ≤ List.length hrows) && decide (0 < List.length (sub hrows 0 (List.length hrows)) ∧ List.length (sub hrows 0 (List.length hrows)) ≤ 4398046511104)) = true)) ∧ (true = true)) ∧ (true = true)) ∧ (true = true)) ∧ (true = true)) ∧ (true = true)) ∧ (true = true)) ∧ (true = true)) ∧ (RangeOK Tryz.prog (rcode Tryz.prog 23 0) (113) (SL.mk [(51, AV.fn (Fn.func 76) [] [AV.ptr (Loc.mk 11 0 0)]), (14, AV.ptr (Loc.mk 8 0 0)), (15, AV.ptr (Loc.mk 10 0 0))] [(2, Blk.cells false [Kd.int IntKind.u16, Kd.int IntKind.u16] mrows), (8, Blk.cells true [Kd.str, Kd.str, Kd.int IntKind.i64, Kd.int IntKind.i64, Kd.any] [[AV.str (spDotted host), AV.str (spDotted to_), AV.int IntKind.i64 (IntKind.wrap IntKind.i64 port), AV.int IntKind.i64 (IntKind.wrap IntKind.i64 toPort), AV.slq 2 (List.length mrows)]]), (10, Blk.cells true [Kd.str, Kd.any, Kd.any] [[AV.str start, AV.sl (Loc.mk 9 0 0) (List.length (sub hrows 0 (List.length hrows))) Cap.open_, AV.nilSl]]), (11, Blk.cells true [Kd.any] [[AV.slq 1 (List.length brows)]]), (1, Blk.cells false [Kd.int IntKind.u8] brows)] 12) (SL.mk [] [(2, Blk.cells false [Kd.int IntKind.u16, Kd.int IntKind.u16] mrows), (8, Blk.cells true [Kd.str, Kd.str, Kd.int IntKind.i64, Kd.int IntKind.i64, Kd.any] [[AV.str (spDotted host), AV.str (spDotted to_), AV.int IntKind.i64 (IntKind.wrap IntKind.i64 port), AV.int IntKind.i64 (IntKind.wrap IntKind.i64 toPort), AV.slq 2 (List.length mrows)]]), (10, Blk.cells true [Kd.str, Kd.any, Kd.any] [[AV.str start, AV.sl (Loc.mk 9 0 0) (List.length (sub hrows 0 (List.length hrows))) Cap.open_, AV.nilSl]]), (12, Blk.mark)] 13))) ∧ (true = true)) ∧ (LoopOK Tryz.prog (lbody Tryz.prog 23 0) (113) (SL.mk [(12, AV.ptr (Loc.mk 4 0 0)), (13, AV.ptr (Loc.mk 7 0 0)), (14, AV.ptr (Loc.mk 8 0 0)), (15, AV.ptr (Loc.mk 10 0 0)), (64, AV.sl (Loc.mk 9 0 0) (List.length (sub hrows 0 (List.length hrows))) Cap.open_), (65, AV.int IntKind.i64 (↑(List.length (sub hrows 0 (List.length hrows))) : Int)), (66, AV.int IntKind.i64 (0 : Int))] [(2, Blk.cells false [Kd.int IntKind.u16, Kd.int IntKind.u16] mrows), (8, Blk.cells true [Kd.str, Kd.str, Kd.int IntKind.i64, Kd.int IntKind.i64, Kd.any] [[AV.str (spDotted host), AV.str (spDotted to_), AV.int IntKind.i64 (IntKind.wrap IntKind.i64 port), AV.int IntKind.i64 (IntKind.wrap IntKind.i64 toPort), AV.slq 2 (List.length mrows)]]), (9, Blk.cells true [Kd.str, Kd.str] (sub hrows 0 (List.length hrows))), (10, Blk.cells true [Kd.str, Kd.any, Kd.any] [[AV.str start, AV.sl (Loc.mk 9 0 0) (List.length (sub hrows 0 (List.length hrows))) Cap.open_, AV.nilSl]])] 13) (Ex.exit 2) (SL.mk [(12, AV.ptr (Loc.mk 4 0 0)), (13, AV.ptr (Loc.mk 7 0 0)), (14, AV.ptr (Loc.mk 8 0 0)), (15, AV.ptr (Loc.mk 10 0 0)), (64, AV.sl (Loc.mk 9 0 0) (List.length (sub hrows 0 (List.length hrows))) Cap.open_), (65, AV.int IntKind.i64 (↑(List.length (sub hrows 0 (List.length hrows))) : Int)), (66, AV.int IntKind.i64 (↑(List.length (sub hrows 0 (List.length hrows))) : Int))] [(2, Blk.cells false [Kd.int IntKind.u16, Kd.int IntKind.u16] mrows), (8, Blk.cells true [Kd.str, Kd.str, Kd.int IntKind.i64, Kd.int IntKind.i64, Kd.any] [[AV.str (spDotted host), AV.str (spDotted to_), AV.int IntKind.i64 (IntKind.wrap IntKind.i64 port), AV.int IntKind.i64 (IntKind.wrap IntKind.i64 toPort), AV.slq 2 (List.length mrows)]]), (9, Blk.cells true [Kd.str, Kd.str] hrows2), (10, Blk.cells true [Kd.str, Kd.any, Kd.any] [[AV.str start, AV.sl (Loc.mk 9 0 0) (List.length (sub hrows 0 (List.length hrows))) Cap.open_, AV.nilSl]])] 13))) ∧ (true = true)) ∧ ((decide (0 + List.length (sub hrows 0 (List.length hrows)) ≤ List.length hrows2) && (true && decide (List.length start ≤ 4294967200 ∧ List.all (sub hrows2 0 (List.length (sub hrows 0 (List.length hrows)))) short = true ∧ 0 ≤ 140737488355328))) = true)) ∧ ((!spRight start (sub hrows2 0 (List.length (sub hrows 0 (List.length hrows)))) 0) = false)) ∧ (true = true)) ∧ (true = true)) ∧ (true = true)) ∧ (true = true)) ∧ (true = true)) ∧ (true = true)) ∧ (true = true)) ∧ (true = true))  := by unfold Path; kernel_rfl
theorem c23zF (start : List UInt8) (hrows : List (List AV)) (brows : List (List AV)) (mrows : List (List AV)) (hrows2 : List (List AV)) (brows2 : List (List AV)) (host : Int) (to_ : Int) (port : Int) (toPort : Int) (m : Nat) {ρ : Nat → BI} {w : World} (hE : HSim ρ (addBlks .e 0 [Blk.cells false [Kd.str, Kd.str] hrows, Blk.cells false [Kd.int IntKind.u8] brows, Blk.cells false [Kd.int IntKind.u16, Kd.int IntKind.u16] mrows]) ([Blk.cells false [Kd.str, Kd.str] hrows, Blk.cells false [Kd.int IntKind.u8] brows, Blk.cells false [Kd.int IntKind.u16, Kd.int IntKind.u16] mrows] : List Blk).length w)
    (h0 : (decide (0 + List.length hrows ≤ List.length hrows) && decide (0 < List.length (sub hrows 0 (List.length hrows)) ∧ List.length (sub hrows 0 (List.length hrows)) ≤ 4398046511104)) = true)
    (h1 : (decide (0 + List.length brows ≤ List.length brows) && decide (List.length (sub brows 0 (List.length brows)) ≤ 140737488355328)) = true)
    (h2 : (decide (0 + List.length hrows ≤ List.length hrows) && (decide (0 + List.length brows ≤ List.length brows) && decide (List.length start ≤ 4294967200 ∧ List.all (sub hrows 0 (List.length hrows)) short = true ∧ List.length (sub brows 0 (List.length brows)) ≤ 140737488355328))) = true)
    (h3 : (!spRight start (sub hrows 0 (List.length hrows)) (List.length (sub brows 0 (List.length brows)))) = false)
    (h4 : RangeOK Tryz.prog (rcode Tryz.prog 23 0) (113) (SL.mk [(51, AV.fn (Fn.func 76) [] [AV.ptr (Loc.mk 11 0 0)]), (14, AV.ptr (Loc.mk 8 0 0)), (15, AV.ptr (Loc.mk 10 0 0))] [(2, Blk.cells false [Kd.int IntKind.u16, Kd.int IntKind.u16] mrows), (8, Blk.cells true [Kd.str, Kd.str, Kd.int IntKind.i64, Kd.int IntKind.i64, Kd.any] [[AV.str (spDotted host), AV.str (spDotted to_), AV.int IntKind.i64 (IntKind.wrap IntKind.i64 port), AV.int IntKind.i64 (IntKind.wrap IntKind.i64 toPort), AV.slq 2 (List.length mrows)]]), (10, Blk.cells true [Kd.str, Kd.any, Kd.any] [[AV.str start, AV.sl (Loc.mk 9 0 0) (List.length (sub hrows 0 (List.length hrows))) Cap.open_, AV.nilSl]]), (11, Blk.cells true [Kd.any] [[AV.slq 1 (List.length brows)]]), (1, Blk.cells false [Kd.int IntKind.u8] brows)] 12) (SL.mk [] [(2, Blk.cells false [Kd.int IntKind.u16, Kd.int IntKind.u16] mrows), (8, Blk.cells true [Kd.str, Kd.str, Kd.int IntKind.i64, Kd.int IntKind.i64, Kd.any] [[AV.str (spDotted host), AV.str (spDotted to_), AV.int IntKind.i64 (IntKind.wrap IntKind.i64 port), AV.int IntKind.i64 (IntKind.wrap IntKind.i64 toPort), AV.slq 2 (List.length mrows)]]), (10, Blk.cells true [Kd.str, Kd.any, Kd.any] [[AV.str start, AV.sl (Loc.mk 9 0 0) (List.length (sub hrows 0 (List.length hrows))) Cap.open_, AV.nilSl]]), (12, Blk.mark)] 13))
    (h5 : LoopOK Tryz.prog (lbody Tryz.prog 23 0) (113) (SL.mk [(12, AV.ptr (Loc.mk 4 0 0)), (13, AV.ptr (Loc.mk 7 0 0)), (14, AV.ptr (Loc.mk 8 0 0)), (15, AV.ptr (Loc.mk 10 0 0)), (64, AV.sl (Loc.mk 9 0 0) (List.length (sub hrows 0 (List.length hrows))) Cap.open_), (65, AV.int IntKind.i64 (↑(List.length (sub hrows 0 (List.length hrows))) : Int)), (66, AV.int IntKind.i64 (0 : Int))] [(2, Blk.cells false [Kd.int IntKind.u16, Kd.int IntKind.u16] mrows), (8, Blk.cells true [Kd.str, Kd.str, Kd.int IntKind.i64, Kd.int IntKind.i64, Kd.any] [[AV.str (spDotted host), AV.str (spDotted to_), AV.int IntKind.i64 (IntKind.wrap IntKind.i64 port), AV.int IntKind.i64 (IntKind.wrap IntKind.i64 toPort), AV.slq 2 (List.length mrows)]]), (9, Blk.cells true [Kd.str, Kd.str] (sub hrows 0 (List.length hrows))), (10, Blk.cells true [Kd.str, Kd.any, Kd.any] [[AV.str start, AV.sl (Loc.mk 9 0 0) (List.length (sub hrows 0 (List.length hrows))) Cap.open_, AV.nilSl]])] 13) (Ex.exit 2) (SL.mk [(12, AV.ptr (Loc.mk 4 0 0)), (13, AV.ptr (Loc.mk 7 0 0)), (14, AV.ptr (Loc.mk 8 0 0)), (15, AV.ptr (Loc.mk 10 0 0)), (64, AV.sl (Loc.mk 9 0 0) (List.length (sub hrows 0 (List.length hrows))) Cap.open_), (65, AV.int IntKind.i64 (↑(List.length (sub hrows 0 (List.length hrows))) : Int)), (66, AV.int IntKind.i64 (↑(List.length (sub hrows 0 (List.length hrows))) : Int))] [(2, Blk.cells false [Kd.int IntKind.u16, Kd.int IntKind.u16] mrows), (8, Blk.cells true [Kd.str, Kd.str, Kd.int IntKind.i64, Kd.int IntKind.i64, Kd.any] [[AV.str (spDotted host), AV.str (spDotted to_), AV.int IntKind.i64 (IntKind.wrap IntKind.i64 port), AV.int IntKind.i64 (IntKind.wrap IntKind.i64 toPort), AV.slq 2 (List.length mrows)]]), (9, Blk.cells true [Kd.str, Kd.str] hrows2), (10, Blk.cells true [Kd.str, Kd.any, Kd.any] [[AV.str start, AV.sl (Loc.mk 9 0 0) (List.length (sub hrows 0 (List.length hrows))) Cap.open_, AV.nilSl]])] 13))
    (h6 : (decide (0 + List.length (sub hrows 0 (List.length hrows)) ≤ List.length hrows2) && (true && decide (List.length start ≤ 4294967200 ∧ List.all (sub hrows2 0 (List.length (sub hrows 0 (List.length hrows)))) short = true ∧ 0 ≤ 140737488355328))) = true)
    (h7 : (!spRight start (sub hrows2 0 (List.length (sub hrows 0 (List.length hrows)))) 0) = false) :
    Calls Tryz.prog 23 (concL ρ [AV.agg [AV.str start, AV.slq 0 (List.length hrows), AV.slq 1 (List.length brows)], AV.int IntKind.u32 host, AV.int IntKind.u32 to_, AV.int IntKind.u16 port, AV.int IntKind.u16 toPort, AV.slq 2 (List.length mrows)]).toArray w (fun e w' => ∃ ρ', e = .returned (conc ρ' (AV.agg [AV.str start, AV.sl (Loc.mk 3 0 0) (List.length (sub hrows 0 (List.length hrows))) Cap.open_, AV.nilSl])) ∧ HStep ρ (addBlks .e 0 [Blk.cells false [Kd.str, Kd.str] hrows, Blk.cells false [Kd.int IntKind.u8] brows, Blk.cells false [Kd.int IntKind.u16, Kd.int IntKind.u16] mrows]) ([Blk.cells false [Kd.str, Kd.str] hrows, Blk.cells false [Kd.int IntKind.u8] brows, Blk.cells false [Kd.int IntKind.u16, Kd.int IntKind.u16] mrows] : List Blk).length w ρ' (Tr.ofList [(3, .cells true [Kd.str, Kd.str] hrows2)]) 4 w') :=
  calls_ofB P6w_ok (c23zFP start hrows brows mrows hrows2 brows2 host to_ port toPort m) ⟨⟨⟨⟨⟨⟨⟨⟨⟨⟨⟨⟨⟨⟨⟨⟨⟨⟨⟨⟨⟨⟨⟨⟨⟨⟨⟨⟨⟨⟨⟨⟨⟨⟨⟨⟨⟨⟨⟨⟨⟨⟨⟨⟨⟨⟨⟨⟨⟨⟨⟨⟨⟨⟨⟨⟨⟨⟨⟨⟨⟨⟨⟨⟨⟨⟨⟨⟨⟨⟨⟨⟨trivial, rfl⟩, rfl⟩, rfl⟩, h0⟩, h1⟩, rfl⟩, rfl⟩, rfl⟩, rfl⟩, rfl⟩, rfl⟩, h1⟩, rfl⟩, rfl⟩, rfl⟩, rfl⟩, rfl⟩, rfl⟩, h0⟩, h1⟩, rfl⟩, rfl⟩, rfl⟩, rfl⟩, rfl⟩, rfl⟩, rfl⟩, h2⟩, h3⟩, rfl⟩, rfl⟩, rfl⟩, rfl⟩, rfl⟩, rfl⟩, rfl⟩, rfl⟩, rfl⟩, rfl⟩, rfl⟩, rfl⟩, rfl⟩, rfl⟩, h0⟩, rfl⟩, rfl⟩, rfl⟩, rfl⟩, rfl⟩, rfl⟩, h0⟩, rfl⟩, rfl⟩, rfl⟩, rfl⟩, rfl⟩, rfl⟩, rfl⟩, h4⟩, rfl⟩, h5⟩, rfl⟩, h6⟩, h7⟩, rfl⟩, rfl⟩, rfl⟩, rfl⟩, rfl⟩, rfl⟩, rfl⟩, rfl⟩ hE rfl
theorem c23oTP (start : List UInt8) (hrows : List (List AV)) (brows : List (List AV)) (mrows : List (List AV)) (hrows2 : List (List AV)) (brows2 : List (List AV)) (host : Int) (to_ : Int) (port : Int) (toPort : Int) (m : Nat) :
 Path (runCallB Tryz.prog P6w 100 23 [AV.agg [AV.str start, AV.slq 0 (List.length hrows), AV.slq 1 (List.length brows)], AV.int IntKind.u32 host, AV.int IntKind.u32 to_, AV.int IntKind.u16 port, AV.int IntKind.u16 toPort, AV.slq 2 (List.length mrows)] (st0 [Blk.cells false [Kd.str, Kd.str] hrows, Blk.cells false [Kd.int IntKind.u8] brows, Blk.cells false [Kd.int IntKind.u16, Kd.int IntKind.u16] mrows] ([.as_ false, PI.loop (SL.mk [(51, AV.fn (Fn.func (76 : FuncId)) [] [AV.ptr (Loc.mk 11 0 0)]), (14, AV.ptr (Loc.mk 8 0 0)), (15, AV.ptr (Loc.mk 10 0 0))] [(2, Blk.cells false [Kd.int IntKind.u16, Kd.int IntKind.u16] mrows), (8, Blk.cells true [Kd.str, Kd.str, Kd.int IntKind.i64, Kd.int IntKind.i64, Kd.any] [[AV.str (spDotted host), AV.str (spDotted to_), AV.int IntKind.i64 (IntKind.wrap IntKind.i64 port), AV.int IntKind.i64 (IntKind.wrap IntKind.i64 toPort), AV.slq 2 (List.length mrows)]]), (10, Blk.cells true [Kd.str, Kd.any, Kd.any] [[AV.str start, AV.sl (Loc.mk 9 0 0) (List.length (sub hrows 0 (List.length hrows))) Cap.open_, AV.nilSl]]), (11, Blk.cells true [Kd.any] [[AV.slq 1 (List.length brows)]]), (1, Blk.cells false [Kd.int IntKind.u8] brows)] 12) Ex.normal (SL.mk [] [(2, Blk.cells false [Kd.int IntKind.u16, Kd.int IntKind.u16] mrows), (8, Blk.cells true [Kd.str, Kd.str, Kd.int IntKind.i64, Kd.int IntKind.i64, Kd.any] [[AV.str (spDotted host), AV.str (spDotted to_), AV.int IntKind.i64 (IntKind.wrap IntKind.i64 port), AV.int IntKind.i64 (IntKind.wrap IntKind.i64 toPort), AV.slq 2 (List.length mrows)]]), (10, Blk.cells true [Kd.str, Kd.any, Kd.any] [[AV.str start, AV.sl (Loc.mk 9 0 0) (List.length (sub hrows 0 (List.length hrows))) Cap.open_, AV.sl (Loc.mk 13 0 0) m Cap.open_]]), (12, Blk.mark), (13, Blk.cells true [Kd.int IntKind.u8] brows2)] 14), PI.loop (b23oI start (spDotted host) (spDotted to_) (List.length (sub hrows 0 (List.length hrows))) m (List.length mrows) (IntKind.wrap IntKind.i64 port) (IntKind.wrap IntKind.i64 toPort) mrows (sub hrows 0 (List.length hrows)) (0 : Int)) (Ex.exit 2) (b23oI start (spDotted host) (spDotted to_) (List.length (sub hrows 0 (List.length hrows))) m (List.length mrows) (IntKind.wrap IntKind.i64 port) (IntKind.wrap IntKind.i64 toPort) mrows hrows2 (↑(List.length (sub hrows 0 (List.length hrows))) : Int)), .as_ true]))) 3 [5, 6] (SL.mk [] [(3, .cells true [Kd.str, Kd.str] (sub hrows 0 (List.length hrows))), (4, .cells false [Kd.int IntKind.u8] (sub brows 0 (List.length brows)))] 5) (Out.ret (ren (sig 3 [5, 6]) (AV.agg [AV.str start, AV.sl (Loc.mk 3 0 0) (List.length (sub hrows 0 (List.length hrows))) Cap.open_, AV.slq 4 (List.length (sub brows 0 (List.length brows)))])))
 ((((((((((((((((((((((((((((((((((((((((((((((((((((((((((((((((((((((((True ∧ (true = true)) ∧ (true = true)) ∧ (true = true)) ∧ ((decide (0 + List.length hrows ≤ List.length hrows) && decide (0 < List.length (sub hrows 0 (List.length hrows)) ∧ List.length (sub hrows 0 (List.length hrows)) ≤ 4398046511104)) = true)) ∧ ((decide (0 + List.length brows ≤ List.length brows) && decide (List.length (sub brows 0 (List.length brows)) ≤ 140737488355328)) = true)) ∧ (true = true)) ∧ (true = true)) ∧ (true = true)) ∧ (true = true)) ∧ (true = true)) ∧ (true = true)) ∧ ((decide (0 + List.length brows ≤ List.length brows) && decide (List.length (sub brows 0 (List.length brows)) ≤ 140737488355328)) = true)) ∧ (true = true)) ∧ (true = true)) ∧ (true = true)) ∧ (true = true)) ∧ (true = true)) ∧ (true = true)) ∧ ((decide (0 + List.length hrows ≤ List.length hrows) && decide (0 < List.length (sub hrows 0 (List.length hrows)) ∧ List.length (sub hrows 0 (List.length hrows)) ≤ 4398046511104)) = true)) ∧ ((decide (0 + List.length brows ≤ List.length brows) && decide (List.length (sub brows 0 (List.length brows)) ≤ 140737488355328)) = true)) ∧ (true = true)) ∧ (true = true)) ∧ (true = true)) ∧ (true = true)) ∧ (true = true)) ∧ (true = true)) ∧ (true = true)) ∧ ((decide (0 + List.length hrows ≤ List.length hrows) && (decide (0 + List.length brows ≤ List.length brows) && decide (List.length start ≤ 4294967200 ∧ List.all (sub hrows 0 (List.length hrows)) short = true ∧ List.length (sub brows 0 (List.length brows)) ≤ 140737488355328))) = true)) ∧ ((!spRight start (sub hrows 0 (List.length hrows)) (List.length (sub brows 0 (List.length brows)))) = false)) ∧ (true = true)) ∧ (true = true)) ∧ (true = true)) ∧ (true = true)) ∧ (true = true)) ∧ (true = true)) ∧ (true = true)) ∧ (true = true)) ∧ (true = true)) ∧ (true = true)) ∧ (true = true)) ∧ (true = true)) ∧ (true = true)) ∧ (true = true)) ∧ ((decide (0 + List.length hrows ≤ List.length hrows) && decide (0 < List.length (sub hrows 0 (List.length hrows)) ∧ List.length (sub hrows 0 (List.length hrows)) ≤ 4398046511104)) = true)) ∧ (true = true)) ∧ (true = true)) ∧ (true = true)) ∧ (true = true)) ∧ (true = true)) ∧ (true = true)) ∧ ((decide (0 + List.length hrows ≤ List.length hrows) && decide (0 < List.length (sub hrows 0 (List.length hrows)) ∧ List.length (sub hrows 0 (List.length hrows)) ≤ 4398046511104)) = true)) ∧ (true = true)) ∧ (true = true)) ∧ (true = true)) ∧ (true = true)) ∧ (true = true)) ∧ (true = true)) ∧ (true = true)) ∧ (RangeOK Tryz.prog (rcode Tryz.prog 23 0) (113) (SL.mk [(51, AV.fn (Fn.func 76) [] [AV.ptr (Loc.mk 11 0 0)]), (14, AV.ptr (Loc.mk 8 0 0)), (15, AV.ptr (Loc.mk 10 0 0))] [(2, Blk.cells false [Kd.int IntKind.u16, Kd.int IntKind.u16] mrows), (8, Blk.cells true [Kd.str, Kd.str, Kd.int IntKind.i64, Kd.int IntKind.i64, Kd.any] [[AV.str (spDotted host), AV.str (spDotted to_), AV.int IntKind.i64 (IntKind.wrap IntKind.i64 port), AV.int IntKind.i64 (IntKind.wrap IntKind.i64 toPort), AV.slq 2 (List.length mrows)]]), (10, Blk.cells true [Kd.str, Kd.any, Kd.any] [[AV.str start, AV.sl (Loc.mk 9 0 0) (List.length (sub hrows 0 (List.length hrows))) Cap.open_, AV.nilSl]]), (11, Blk.cells true [Kd.any] [[AV.slq 1 (List.length brows)]]), (1, Blk.cells false [Kd.int IntKind.u8] brows)] 12) (SL.mk [] [(2, Blk.cells false [Kd.int IntKind.u16, Kd.int IntKind.u16] mrows), (8, Blk.cells true [Kd.str, Kd.str, Kd.int IntKind.i64, Kd.int IntKind.i64, Kd.any] [[AV.str (spDotted host), AV.str (spDotted to_), AV.int IntKind.i64 (IntKind.wrap IntKind.i64 port), AV.int IntKind.i64 (IntKind.wrap IntKind.i64 toPort), AV.slq 2 (List.length mrows)]]), (10, Blk.cells true [Kd.str, Kd.any, Kd.any] [[AV.str start, AV.sl (Loc.mk 9 0 0) (List.length (sub hrows 0 (List.length hrows))) Cap.open_, AV.sl (Loc.mk 13 0 0) m Cap.open_]]), (12, Blk.mark), (13, Blk.cells true [Kd.int IntKind.u8] brows2)] 14))) ∧ (true = true)) ∧ (LoopOK Tryz.prog (lbody Tryz.prog 23 0) (113) (SL.mk [(12, AV.ptr (Loc.mk 4 0 0)), (13, AV.ptr (Loc.mk 7 0 0)), (14, AV.ptr (Loc.mk 8 0 0)), (15, AV.ptr (Loc.mk 10 0 0)), (64, AV.sl (Loc.mk 9 0 0) (List.length (sub hrows 0 (List.length hrows))) Cap.open_), (65, AV.int IntKind.i64 (↑(List.length (sub hrows 0 (List.length hrows))) : Int)), (66, AV.int IntKind.i64 (0 : Int))] [(2, Blk.cells false [Kd.int IntKind.u16, Kd.int IntKind.u16] mrows), (8, Blk.cells true [Kd.str, Kd.str, Kd.int IntKind.i64, Kd.int IntKind.i64, Kd.any] [[AV.str (spDotted host), AV.str (spDotted to_), AV.int IntKind.i64 (IntKind.wrap IntKind.i64 port), AV.int IntKind.i64 (IntKind.wrap IntKind.i64 toPort), AV.slq 2 (List.length mrows)]]), (9, Blk.cells true [Kd.str, Kd.str] (sub hrows 0 (List.length hrows))), (10, Blk.cells true [Kd.str, Kd.any, Kd.any] [[AV.str start, AV.sl (Loc.mk 9 0 0) (List.length (sub hrows 0 (List.length hrows))) Cap.open_, AV.sl (Loc.mk 13 0 0) m Cap.open_]])] 14) (Ex.exit 2) (SL.mk [(12, AV.ptr (Loc.mk 4 0 0)), (13, AV.ptr (Loc.mk 7 0 0)), (14, AV.ptr (Loc.mk 8 0 0)), (15, AV.ptr (Loc.mk 10 0 0)), (64, AV.sl (Loc.mk 9 0 0) (List.length (sub hrows 0 (List.length hrows))) Cap.open_), (65, AV.int IntKind.i64 (↑(List.length (sub hrows 0 (List.length hrows))) : Int)), (66, AV.int IntKind.i64 (↑(List.length (sub hrows 0 (List.length hrows))) : Int))] [(2, Blk.cells false [Kd.int IntKind.u16, Kd.int IntKind.u16] mrows), (8, Blk.cells true [Kd.str, Kd.str, Kd.int IntKind.i64, Kd.int IntKind.i64, Kd.any] [[AV.str (spDotted host), AV.str (spDotted to_), AV.int IntKind.i64 (IntKind.wrap IntKind.i64 port), AV.int IntKind.i64 (IntKind.wrap IntKind.i64 toPort), AV.slq 2 (List.length mrows)]]), (9, Blk.cells true [Kd.str, Kd.str] hrows2), (10, Blk.cells true [Kd.str, Kd.any, Kd.any] [[AV.str start, AV.sl (Loc.mk 9 0 0) (List.length (sub hrows 0 (List.length hrows))) Cap.open_, AV.sl (Loc.mk 13 0 0) m Cap.open_]])] 14))) ∧ (true = true)) ∧ ((decide (0 + List.length (sub hrows 0 (List.length hrows)) ≤ List.length hrows2) && (decide (0 + m ≤ List.length brows2) && decide (List.length start ≤ 4294967200 ∧ List.all (sub hrows2 0 (List.length (sub hrows 0 (List.length hrows)))) short = true ∧ List.length (sub brows2 0 m) ≤ 140737488355328))) = true)) ∧ ((!spRight start (sub hrows2 0 (List.length (sub hrows 0 (List.length hrows)))) (List.length (sub brows2 0 m))) = true)) ∧ (true = true)) ∧ (true = true)) ∧ (true = true)) ∧ (true = true)) ∧ (true = true)) ∧ (true = true)) ∧ (true = true)) ∧ (true = true))  := by unfold Path; kernel_rfl
theorem c23oT (start : List UInt8) (hrows : List (List AV)) (brows : List (List AV)) (mrows : List (List AV)) (hrows2 : List (List AV)) (brows2 : List (List AV)) (host : Int) (to_ : Int) (port : Int) (toPort : Int) (m : Nat) {ρ : Nat → BI} {w : World} (hE : HSim ρ (addBlks .e 0 [Blk.cells false [Kd.str, Kd.str] hrows, Blk.cells false [Kd.int IntKind.u8] brows, Blk.cells false [Kd.int IntKind.u16, Kd.int IntKind.u16] mrows]) ([Blk.cells false [Kd.str, Kd.str] hrows, Blk.cells false [Kd.int IntKind.u8] brows, Blk.cells false [Kd.int IntKind.u16, Kd.int IntKind.u16] mrows] : List Blk).length w)
    (h0 : (decide (0 + List.length hrows ≤ List.length hrows) && decide (0 < List.length (sub hrows 0 (List.length hrows)) ∧ List.length (sub hrows 0 (List.length hrows)) ≤ 4398046511104)) = true)
    (h1 : (decide (0 + List.length brows ≤ List.length brows) && decide (List.length (sub brows 0 (List.length brows)) ≤ 140737488355328)) = true)
    (h2 : (decide (0 + List.length hrows ≤ List.length hrows) && (decide (0 + List.length brows ≤ List.length brows) && decide (List.length start ≤ 4294967200 ∧ List.all (sub hrows 0 (List.length hrows)) short = true ∧ List.length (sub brows 0 (List.length brows)) ≤ 140737488355328))) = true)
    (h3 : (!spRight start (sub hrows 0 (List.length hrows)) (List.length (sub brows 0 (List.length brows)))) = false)
    (h4 : RangeOK Tryz.prog (rcode Tryz.prog 23 0) (113) (SL.mk [(51, AV.fn (Fn.func 76) [] [AV.ptr (Loc.mk 11 0 0)]), (14, AV.ptr (Loc.mk 8 0 0)), (15, AV.ptr (Loc.mk 10 0 0))] [(2, Blk.cells false [Kd.int IntKind.u16, Kd.int IntKind.u16] mrows), (8, Blk.cells true [Kd.str, Kd.str, Kd.int IntKind.i64, Kd.int IntKind.i64, Kd.any] [[AV.str (spDotted host), AV.str (spDotted to_), AV.int IntKind.i64 (IntKind.wrap IntKind.i64 port), AV.int IntKind.i64 (IntKind.wrap IntKind.i64 toPort), AV.slq 2 (List.length mrows)]]), (10, Blk.cells true [Kd.str, Kd.any, Kd.any] [[AV.str start, AV.sl (Loc.mk 9 0 0) (List.length (sub hrows 0 (List.length hrows))) Cap.open_, AV.nilSl]]), (11, Blk.cells true [Kd.any] [[AV.slq 1 (List.length brows)]]), (1, Blk.cells false [Kd.int IntKind.u8] brows)] 12) (SL.mk [] [(2, Blk.cells false [Kd.int IntKind.u16, Kd.int IntKind.u16] mrows), (8, Blk.cells true [Kd.str, Kd.str, Kd.int IntKind.i64, Kd.int IntKind.i64, Kd.any] [[AV.str (spDotted host), AV.str (spDotted to_), AV.int IntKind.i64 (IntKind.wrap IntKind.i64 port), AV.int IntKind.i64 (IntKind.wrap IntKind.i64 toPort), AV.slq 2 (List.length mrows)]]), (10, Blk.cells true [Kd.str, Kd.any, Kd.any] [[AV.str start, AV.sl (Loc.mk 9 0 0) (List.length (sub hrows 0 (List.length hrows))) Cap.open_, AV.sl (Loc.mk 13 0 0) m Cap.open_]]), (12, Blk.mark), (13, Blk.cells true [Kd.int IntKind.u8] brows2)] 14))
    (h5 : LoopOK Tryz.prog (lbody Tryz.prog 23 0) (113) (SL.mk [(12, AV.ptr (Loc.mk 4 0 0)), (13, AV.ptr (Loc.mk 7 0 0)), (14, AV.ptr (Loc.mk 8 0 0)), (15, AV.ptr (Loc.mk 10 0 0)), (64, AV.sl (Loc.mk 9 0 0) (List.length (sub hrows 0 (List.length hrows))) Cap.open_), (65, AV.int IntKind.i64 (↑(List.length (sub hrows 0 (List.length hrows))) : Int)), (66, AV.int IntKind.i64 (0 : Int))] [(2, Blk.cells false [Kd.int IntKind.u16, Kd.int IntKind.u16] mrows), (8, Blk.cells true [Kd.str, Kd.str, Kd.int IntKind.i64, Kd.int IntKind.i64, Kd.any] [[AV.str (spDotted host), AV.str (spDotted to_), AV.int IntKind.i64 (IntKind.wrap IntKind.i64 port), AV.int IntKind.i64 (IntKind.wrap IntKind.i64 toPort), AV.slq 2 (List.length mrows)]]), (9, Blk.cells true [Kd.str, Kd.str] (sub hrows 0 (List.length hrows))), (10, Blk.cells true [Kd.str, Kd.any, Kd.any] [[AV.str start, AV.sl (Loc.mk 9 0 0) (List.length (sub hrows 0 (List.length hrows))) Cap.open_, AV.sl (Loc.mk 13 0 0) m Cap.open_]])] 14) (Ex.exit 2) (SL.mk [(12, AV.ptr (Loc.mk 4 0 0)), (13, AV.ptr (Loc.mk 7 0 0)), (14, AV.ptr (Loc.mk 8 0 0)), (15, AV.ptr (Loc.mk 10 0 0)), (64, AV.sl (Loc.mk 9 0 0) (List.length (sub hrows 0 (List.length hrows))) Cap.open_), (65, AV.int IntKind.i64 (↑(List.length (sub hrows 0 (List.length hrows))) : Int)), (66, AV.int IntKind.i64 (↑(List.length (sub hrows 0 (List.length hrows))) : Int))] [(2, Blk.cells false [Kd.int IntKind.u16, Kd.int IntKind.u16] mrows), (8, Blk.cells true [Kd.str, Kd.str, Kd.int IntKind.i64, Kd.int IntKind.i64, Kd.any] [[AV.str (spDotted host), AV.str (spDotted to_), AV.int IntKind.i64 (IntKind.wrap IntKind.i64 port), AV.int IntKind.i64 (IntKind.wrap IntKind.i64 toPort), AV.slq 2 (List.length mrows)]]), (9, Blk.cells true [Kd.str, Kd.str] hrows2), (10, Blk.cells true [Kd.str, Kd.any, Kd.any] [[AV.str start, AV.sl (Loc.mk 9 0 0) (List.length (sub hrows 0 (List.length hrows))) Cap.open_, AV.sl (Loc.mk 13 0 0) m Cap.open_]])] 14))
    (h6 : (decide (0 + List.length (sub hrows 0 (List.length hrows)) ≤ List.length hrows2) && (decide (0 + m ≤ List.length brows2) && decide (List.length start ≤ 4294967200 ∧ List.all (sub hrows2 0 (List.length (sub hrows 0 (List.length hrows)))) short = true ∧ List.length (sub brows2 0 m) ≤ 140737488355328))) = true)
    (h7 : (!spRight start (sub hrows2 0 (List.length (sub hrows 0 (List.length hrows)))) (List.length (sub brows2 0 m))) = true) :
    Calls Tryz.prog 23 (concL ρ [AV.agg [AV.str start, AV.slq 0 (List.length hrows), AV.slq 1 (List.length brows)], AV.int IntKind.u32 host, AV.int IntKind.u32 to_, AV.int IntKind.u16 port, AV.int IntKind.u16 toPort, AV.slq 2 (List.length mrows)]).toArray w (fun e w' => ∃ ρ', e = .returned (conc ρ' (AV.agg [AV.str start, AV.sl (Loc.mk 3 0 0) (List.length (sub hrows 0 (List.length hrows))) Cap.open_, AV.slq 4 (List.length (sub brows 0 (List.length brows)))])) ∧ HStep ρ (addBlks .e 0 [Blk.cells false [Kd.str, Kd.str] hrows, Blk.cells false [Kd.int IntKind.u8] brows, Blk.cells false [Kd.int IntKind.u16, Kd.int IntKind.u16] mrows]) ([Blk.cells false [Kd.str, Kd.str] hrows, Blk.cells false [Kd.int IntKind.u8] brows, Blk.cells false [Kd.int IntKind.u16, Kd.int IntKind.u16] mrows] : List Blk).length w ρ' (Tr.ofList [(3, .cells true [Kd.str, Kd.str] (sub hrows 0 (List.length hrows))), (4, .cells false [Kd.int IntKind.u8] (sub brows 0 (List.length brows)))]) 5 w') :=
  calls_ofB P6w_ok (c23oTP start hrows brows mrows hrows2 brows2 host to_ port toPort m) ⟨⟨⟨⟨⟨⟨⟨⟨⟨⟨⟨⟨⟨⟨⟨⟨⟨⟨⟨⟨⟨⟨⟨⟨⟨⟨⟨⟨⟨⟨⟨⟨⟨⟨⟨⟨⟨⟨⟨⟨⟨⟨⟨⟨⟨⟨⟨⟨⟨⟨⟨⟨⟨⟨⟨⟨⟨⟨⟨⟨⟨⟨⟨⟨⟨⟨⟨⟨⟨⟨⟨⟨trivial, rfl⟩, rfl⟩, rfl⟩, h0⟩, h1⟩, rfl⟩, rfl⟩, rfl⟩, rfl⟩, rfl⟩, rfl⟩, h1⟩, rfl⟩, rfl⟩, rfl⟩, rfl⟩, rfl⟩, rfl⟩, h0⟩, h1⟩, rfl⟩, rfl⟩, rfl⟩, rfl⟩, rfl⟩, rfl⟩, rfl⟩, h2⟩, h3⟩, rfl⟩, rfl⟩, rfl⟩, rfl⟩, rfl⟩, rfl⟩, rfl⟩, rfl⟩, rfl⟩, rfl⟩, rfl⟩, rfl⟩, rfl⟩, rfl⟩, h0⟩, rfl⟩, rfl⟩, rfl⟩, rfl⟩, rfl⟩, rfl⟩, h0⟩, rfl⟩, rfl⟩, rfl⟩, rfl⟩, rfl⟩, rfl⟩, rfl⟩, h4⟩, rfl⟩, h5⟩, rfl⟩, h6⟩, h7⟩, rfl⟩, rfl⟩, rfl⟩, rfl⟩, rfl⟩, rfl⟩, rfl⟩, rfl⟩ hE rfl
theorem c23oFP (start : List UInt8) (hrows : List (List AV)) (brows : List (List AV)) (mrows : List (List AV)) (hrows2 : List (List AV)) (brows2 : List (List AV)) (host : Int) (to_ : Int) (port : Int) (toPort : Int) (m : Nat) :
 Path (runCallB Tryz.prog P6w 100 23 [AV.agg [AV.str start, AV.slq 0 (List.length hrows), AV.slq 1 (List.length brows)], AV.int IntKind.u32 host, AV.int IntKind.u32 to_, AV.int IntKind.u16 port, AV.int IntKind.u16 toPort, AV.slq 2 (List.length mrows)] (st0 [Blk.cells false [Kd.str, Kd.str] hrows, Blk.cells false [Kd.int IntKind.u8] brows, Blk.cells false [Kd.int IntKind.u16, Kd.int IntKind.u16] mrows] ([.as_ false, PI.loop (SL.mk [(51, AV.fn (Fn.func (76 : FuncId)) [] [AV.ptr (Loc.mk 11 0 0)]), (14, AV.ptr (Loc.mk 8 0 0)), (15, AV.ptr (Loc.mk 10 0 0))] [(2, Blk.cells false [Kd.int IntKind.u16, Kd.int IntKind.u16] mrows), (8, Blk.cells true [Kd.str, Kd.str, Kd.int IntKind.i64, Kd.int IntKind.i64, Kd.any] [[AV.str (spDotted host), AV.str (spDotted to_), AV.int IntKind.i64 (IntKind.wrap IntKind.i64 port), AV.int IntKind.i64 (IntKind.wrap IntKind.i64 toPort), AV.slq 2 (List.length mrows)]]), (10, Blk.cells true [Kd.str, Kd.any, Kd.any] [[AV.str start, AV.sl (Loc.mk 9 0 0) (List.length (sub hrows 0 (List.length hrows))) Cap.open_, AV.nilSl]]), (11, Blk.cells true [Kd.any] [[AV.slq 1 (List.length brows)]]), (1, Blk.cells false [Kd.int IntKind.u8] brows)] 12) Ex.normal (SL.mk [] [(2, Blk.cells false [Kd.int IntKind.u16, Kd.int IntKind.u16] mrows), (8, Blk.cells true [Kd.str, Kd.str, Kd.int IntKind.i64, Kd.int IntKind.i64, Kd.any] [[AV.str (spDotted host), AV.str (spDotted to_), AV.int IntKind.i64 (IntKind.wrap IntKind.i64 port), AV.int IntKind.i64 (IntKind.wrap IntKind.i64 toPort), AV.slq 2 (List.length mrows)]]), (10, Blk.cells true [Kd.str, Kd.any, Kd.any] [[AV.str start, AV.sl (Loc.mk 9 0 0) (List.length (sub hrows 0 (List.length hrows))) Cap.open_, AV.sl (Loc.mk 13 0 0) m Cap.open_]]), (12, Blk.mark), (13, Blk.cells true [Kd.int IntKind.u8] brows2)] 14), PI.loop (b23oI start (spDotted host) (spDotted to_) (List.length (sub hrows 0 (List.length hrows))) m (List.length mrows) (IntKind.wrap IntKind.i64 port) (IntKind.wrap IntKind.i64 toPort) mrows (sub hrows 0 (List.length hrows)) (0 : Int)) (Ex.exit 2) (b23oI start (spDotted host) (spDotted to_) (List.length (sub hrows 0 (List.length hrows))) m (List.length mrows) (IntKind.wrap IntKind.i64 port) (IntKind.wrap IntKind.i64 toPort) mrows hrows2 (↑(List.length (sub hrows 0 (List.length hrows))) : Int)), .as_ false]))) 3 [9, 13] (SL.mk [] [(3, .cells true [Kd.str, Kd.str] hrows2), (4, .cells true [Kd.int IntKind.u8] brows2)] 5) (Out.ret (ren (sig 3 [9, 13]) (AV.agg [AV.str start, AV.sl (Loc.mk 3 0 0) (List.length (sub hrows 0 (List.length hrows))) Cap.open_, AV.sl (Loc.mk 4 0 0) m Cap.open_])))
 ((((((((((((((((((((((((((((((((((((((((((((((((((((((((((((((((((((((((True ∧ (true = true)) ∧ (true = true)) ∧ (true = true)) ∧ ((decide (0 + List.length hrows ≤ List.length hrows) && decide (0 < List.length (sub hrows 0 (List.length hrows)) ∧ List.length (sub hrows 0 (List.length hrows)) ≤ 4398046511104)) = true)) ∧ ((decide (0 + List.length brows ≤ List.length brows) && decide (List.length (sub brows 0 (List.length brows)) ≤ 140737488355328)) = true)) ∧ (true = true)) ∧ (true = true)) ∧ (true = true)) ∧ (true = true)) ∧ (true = true)) ∧ (true = true)) ∧ ((decide (0 + List.length brows ≤ List.length brows) && decide (List.length (sub brows 0 (List.length brows)) ≤ 140737488355328)) = true)) ∧ (true = true)) ∧ (true = true)) ∧ (true = true)) ∧ (true = true)) ∧ (true = true)) ∧ (true = true)) ∧ ((decide (0 + List.length hrows ≤ List.length hrows) && decide (0 < List.length (sub hrows 0 (List.length hrows)) ∧ List.length (sub hrows 0 (List.length hrows)) ≤ 4398046511104)) = true)) ∧ ((decide (0 + List.length brows ≤ List.length brows) && decide (List.length (sub brows 0 (List.length brows)) ≤ 140737488355328)) = true)) ∧ (true = true)) ∧ (true = true)) ∧ (true = true)) ∧ (true = true)) ∧ (true = true)) ∧ (true = true)) ∧ (true = true)) ∧ ((decide (0 + List.length hrows ≤ List.length hrows) && (decide (0 + List.length brows ≤ List.length brows) && decide (List.length start ≤ 4294967200 ∧ List.all (sub hrows 0 (List.length hrows)) short = true ∧ List.length (sub brows 0 (List.length brows)) ≤ 140737488355328))) = true)) ∧ ((!spRight start (sub hrows 0 (List.length hrows)) (List.length (sub brows 0 (List.length brows)))) = false)) ∧ (true = true)) ∧ (true = true)) ∧ (true = true)) ∧ (true = true)) ∧ (true = true)) ∧ (true = true)) ∧ (true = true)) ∧ (true = true)) ∧ (true = true)) ∧ (true = true)) ∧ (true = true)) ∧ (true = true)) ∧ (true = true)) ∧ (true = true)) ∧ ((decide (0 + List.length hrows ≤ List.length hrows) && decide (0 < List.length (sub hrows 0 (List.length hrows)) ∧ List.length (sub hrows 0 (List.length hrows)) ≤ 4398046511104)) = true)) ∧ (true = true)) ∧ (true = true)) ∧ (true = true)) ∧ (true = true)) ∧ (true = true)) ∧ (true = true)) ∧ ((decide (0 + List.length hrows ≤ List.length hrows) && decide (0 < List.length (sub hrows 0 (List.length hrows)) ∧ List.length (sub hrows 0 (List.length hrows)) ≤ 4398046511104)) = true)) ∧ (true = true)) ∧ (true = true)) ∧ (true = true)) ∧ (true = true)) ∧ (true = true)) ∧ (true = true)) ∧ (true = true)) ∧ (RangeOK Tryz.prog (rcode Tryz.prog 23 0) (113) (SL.mk [(51, AV.fn (Fn.func 76) [] [AV.ptr (Loc.mk 11 0 0)]), (14, AV.ptr (Loc.mk 8 0 0)), (15, AV.ptr (Loc.mk 10 0 0))] [(2, Blk.cells false [Kd.int IntKind.u16, Kd.int IntKind.u16] mrows), (8, Blk.cells true [Kd.str, Kd.str, Kd.int IntKind.i64, Kd.int IntKind.i64, Kd.any] [[AV.str (spDotted host), AV.str (spDotted to_), AV.int IntKind.i64 (IntKind.wrap IntKind.i64 port), AV.int IntKind.i64 (IntKind.wrap IntKind.i64 toPort), AV.slq 2 (List.length mrows)]]), (10, Blk.cells true [Kd.str, Kd.any, Kd.any] [[AV.str start, AV.sl (Loc.mk 9 0 0) (List.length (sub hrows 0 (List.length hrows))) Cap.open_, AV.nilSl]]), (11, Blk.cells true [Kd.any] [[AV.slq 1 (List.length brows)]]), (1, Blk.cells false [Kd.int IntKind.u8] brows)] 12) (SL.mk [] [(2, Blk.cells false [Kd.int IntKind.u16, Kd.int IntKind.u16] mrows), (8, Blk.cells true [Kd.str, Kd.str, Kd.int IntKind.i64, Kd.int IntKind.i64, Kd.any] [[AV.str (spDotted host), AV.str (spDotted to_), AV.int IntKind.i64 (IntKind.wrap IntKind.i64 port), AV.int IntKind.i64 (IntKind.wrap IntKind.i64 toPort), AV.slq 2 (List.length mrows)]]), (10, Blk.cells true [Kd.str, Kd.any, Kd.any] [[AV.str start, AV.sl (Loc.mk 9 0 0) (List.length (sub hrows 0 (List.length hrows))) Cap.open_, AV.sl (Loc.mk 13 0 0) m Cap.open_]]), (12, Blk.mark), (13, Blk.cells true [Kd.int IntKind.u8] brows2)] 14))) ∧ (true = true)) ∧ (LoopOK Tryz.prog (lbody Tryz.prog 23 0) (113) (SL.mk [(12, AV.ptr (Loc.mk 4 0 0)), (13, AV.ptr (Loc.mk 7 0 0)), (14, AV.ptr (Loc.mk 8 0 0)), (15, AV.ptr (Loc.mk 10 0 0)), (64, AV.sl (Loc.mk 9 0 0) (List.length (sub hrows 0 (List.length hrows))) Cap.open_), (65, AV.int IntKind.i64 (↑(List.length (sub hrows 0 (List.length hrows))) : Int)), (66, AV.int IntKind.i64 (0 : Int))] [(2, Blk.cells false [Kd.int IntKind.u16, Kd.int IntKind.u16] mrows), (8, Blk.cells true [Kd.str, Kd.str, Kd.int IntKind.i64, Kd.int IntKind.i64, Kd.any] [[AV.str (spDotted host), AV.str (spDotted to_), AV.int IntKind.i64 (IntKind.wrap IntKind.i64 port), AV.int IntKind.i64 (IntKind.wrap IntKind.i64 toPort), AV.slq 2 (List.length mrows)]]), (9, Blk.cells true [Kd.str, Kd.str] (sub hrows 0 (List.length hrows))), (10, Blk.cells true [Kd.str, Kd.any, Kd.any] [[AV.str start, AV.sl (Loc.mk 9 0 0) (List.length (sub hrows 0 (List.length hrows))) Cap.open_, AV.sl (Loc.mk 13 0 0) m Cap.open_]])] 14) (Ex.exit 2) (SL.mk [(12, AV.ptr (Loc.mk 4 0 0)), (13, AV.ptr (Loc.mk 7 0 0)), (14, AV.ptr (Loc.mk 8 0 0)), (15, AV.ptr (Loc.mk 10 0 0)), (64, AV.sl (Loc.mk 9 0 0) (List.length (sub hrows 0 (List.length hrows))) Cap.open_), (65, AV.int IntKind.i64 (↑(List.length (sub hrows 0 (List.length hrows))) : Int)), (66, AV.int IntKind.i64 (↑(List.length (sub hrows 0 (List.length hrows))) : Int))] [(2, Blk.cells false [Kd.int IntKind.u16, Kd.int IntKind.u16] mrows), (8, Blk.cells true [Kd.str, Kd.str, Kd.int IntKind.i64, Kd.int IntKind.i64, Kd.any] [[AV.str (spDotted host), AV.str (spDotted to_), AV.int IntKind.i64 (IntKind.wrap IntKind.i64 port), AV.int IntKind.i64 (IntKind.wrap IntKind.i64 toPort), AV.slq 2 (List.length mrows)]]), (9, Blk.cells true [Kd.str, Kd.str] hrows2), (10, Blk.cells true [Kd.str, Kd.any, Kd.any] [[AV.str start, AV.sl (Loc.mk 9 0 0) (List.length (sub hrows 0 (List.length hrows))) Cap.open_, AV.sl (Loc.mk 13 0 0) m Cap.open_]])] 14))) ∧ (true = true)) ∧ ((decide (0 + List.length (sub hrows 0 (List.length hrows)) ≤ List.length hrows2) && (decide (0 + m ≤ List.length brows2) && decide (List.length start ≤ 4294967200 ∧ List.all (sub hrows2 0 (List.length (sub hrows 0 (List.length hrows)))) short = true ∧ List.length (sub brows2 0 m) ≤ 140737488355328))) = true)) ∧ ((!spRight start (sub hrows2 0 (List.length (sub hrows 0 (List.length hrows)))) (List.length (sub brows2 0 m))) = false)) ∧ (true = true)) ∧ (true = true)) ∧ (true = true)) ∧ (true = true)) ∧ (true = true)) ∧ (true = true)) ∧ (true = true)) ∧ (true = true))  := by unfold Path; kernel_rfl
theorem c23oF (start : List UInt8) (hrows : List (List AV)) (brows : List (List AV)) (mrows : List (List AV)) (hrows2 : List (List AV)) (brows2 : List (List AV)) (host : Int) (to_ : Int) (port : Int) (toPort : Int) (m : Nat) {ρ : Nat → BI} {w : World} (hE : HSim ρ (addBlks .e 0 [Blk.cells false [Kd.str, Kd.str] hrows, Blk.cells false [Kd.int IntKind.u8] brows, Blk.cells false [Kd.int IntKind.u16, Kd.int IntKind.u16] mrows]) ([Blk.cells false [Kd.str, Kd.str] hrows, Blk.cells false [Kd.int IntKind.u8] brows, Blk.cells false [Kd.int IntKind.u16, Kd.int IntKind.u16] mrows] : List Blk).length w)
    (h0 : (decide (0 + List.length hrows ≤ List.length hrows) && decide (0 < List.length (sub hrows 0 (List.length hrows)) ∧ List.length (sub hrows 0 (List.length hrows)) ≤ 4398046511104)) = true)
    (h1 : (decide (0 + List.length brows ≤ List.length brows) && decide (List.length (sub brows 0 (List.length brows)) ≤ 140737488355328)) = true)
    (h2 : (decide (0 + List.length hrows ≤ List.length hrows) && (decide (0 + List.length brows ≤ List.length brows) && decide (List.length start ≤ 4294967200 ∧ List.all (sub hrows 0 (List.length hrows)) short = true ∧ List.length (sub brows 0 (List.length brows)) ≤ 140737488355328))) = true)
    (h3 : (!spRight start (sub hrows 0 (List.length hrows)) (List.length (sub brows 0 (List.length brows)))) = false)
    (h4 : RangeOK Tryz.prog (rcode Tryz.prog 23 0) (113) (SL.mk [(51, AV.fn (Fn.func 76) [] [AV.ptr (Loc.mk 11 0 0)]), (14, AV.ptr (Loc.mk 8 0 0)), (15, AV.ptr (Loc.mk 10 0 0))] [(2, Blk.cells false [Kd.int IntKind.u16, Kd.int IntKind.u16] mrows), (8, Blk.cells true [Kd.str, Kd.str, Kd.int IntKind.i64, Kd.int IntKind.i64, Kd.any] [[AV.str (spDotted host), AV.str (spDotted to_), AV.int IntKind.i64 (IntKind.wrap IntKind.i64 port), AV.int IntKind.i64 (IntKind.wrap IntKind.i64 toPort), AV.slq 2 (List.length mrows)]]), (10, Blk.cells true [Kd.str, Kd.any, Kd.any] [[AV.str start, AV.sl (Loc.mk 9 0 0) (List.length (sub hrows 0 (List.length hrows))) Cap.open_, AV.nilSl]]), (11, Blk.cells true [Kd.any] [[AV.slq 1 (List.length brows)]]), (1, Blk.cells false [Kd.int IntKind.u8] brows)] 12) (SL.mk [] [(2, Blk.cells false [Kd.int IntKind.u16, Kd.int IntKind.u16] mrows), (8, Blk.cells true [Kd.str, Kd.str, Kd.int IntKind.i64, Kd.int IntKind.i64, Kd.any] [[AV.str (spDotted host), AV.str (spDotted to_), AV.int IntKind.i64 (IntKind.wrap IntKind.i64 port), AV.int IntKind.i64 (IntKind.wrap IntKind.i64 toPort), AV.slq 2 (List.length mrows)]]), (10, Blk.cells true [Kd.str, Kd.any, Kd.any] [[AV.str start, AV.sl (Loc.mk 9 0 0) (List.length (sub hrows 0 (List.length hrows))) Cap.open_, AV.sl (Loc.mk 13 0 0) m Cap.open_]]), (12, Blk.mark), (13, Blk.cells true [Kd.int IntKind.u8] brows2)] 14))
    (h5 : LoopOK Tryz.prog (lbody Tryz.prog 23 0) (113) (SL.mk [(12, AV.ptr (Loc.mk 4 0 0)), (13, AV.ptr (Loc.mk 7 0 0)), (14, AV.ptr (Loc.mk 8 0 0)), (15, AV.ptr (Loc.mk 10 0 0)), (64, AV.sl (Loc.mk 9 0 0) (List.length (sub hrows 0 (List.length hrows))) Cap.open_), (65, AV.int IntKind.i64 (↑(List.length (sub hrows 0 (List.length hrows))) : Int)), (66, AV.int IntKind.i64 (0 : Int))] [(2, Blk.cells false [Kd.int IntKind.u16, Kd.int IntKind.u16] mrows), (8, Blk.cells true [Kd.str, Kd.str, Kd.int IntKind.i64, Kd.int IntKind.i64, Kd.any] [[AV.str (spDotted host), AV.str (spDotted to_), AV.int IntKind.i64 (IntKind.wrap IntKind.i64 port), AV.int IntKind.i64 (IntKind.wrap IntKind.i64 toPort), AV.slq 2 (List.length mrows)]]), (9, Blk.cells true [Kd.str, Kd.str] (sub hrows 0 (List.length hrows))), (10, Blk.cells true [Kd.str, Kd.any, Kd.any] [[AV.str start, AV.sl (Loc.mk 9 0 0) (List.length (sub hrows 0 (List.length hrows))) Cap.open_, AV.sl (Loc.mk 13 0 0) m Cap.open_]])] 14) (Ex.exit 2) (SL.mk [(12, AV.ptr (Loc.mk 4 0 0)), (13, AV.ptr (Loc.mk 7 0 0)), (14, AV.ptr (Loc.mk 8 0 0)), (15, AV.ptr (Loc.mk 10 0 0)), (64, AV.sl (Loc.mk 9 0 0) (List.length (sub hrows 0 (List.length hrows))) Cap.open_), (65, AV.int IntKind.i64 (↑(List.length (sub hrows 0 (List.length hrows))) : Int)), (66, AV.int IntKind.i64 (↑(List.length (sub hrows 0 (List.length hrows))) : Int))] [(2, Blk.cells false [Kd.int IntKind.u16, Kd.int IntKind.u16] mrows), (8, Blk.cells true [Kd.str, Kd.str, Kd.int IntKind.i64, Kd.int IntKind.i64, Kd.any] [[AV.str (spDotted host), AV.str (spDotted to_), AV.int IntKind.i64 (IntKind.wrap IntKind.i64 port), AV.int IntKind.i64 (IntKind.wrap IntKind.i64 toPort), AV.slq 2 (List.length mrows)]]), (9, Blk.cells true [Kd.str, Kd.str] hrows2), (10, Blk.cells true [Kd.str, Kd.any, Kd.any] [[AV.str start, AV.sl (Loc.mk 9 0 0) (List.length (sub hrows 0 (List.length hrows))) Cap.open_, AV.sl (Loc.mk 13 0 0) m Cap.open_]])] 14))
    (h6 : (decide (0 + List.length (sub hrows 0 (List.length hrows)) ≤ List.length hrows2) && (decide (0 + m ≤ List.length brows2) && decide (List.length start ≤ 4294967200 ∧ List.all (sub hrows2 0 (List.length (sub hrows 0 (List.length hrows)))) short = true ∧ List.length (sub brows2 0 m) ≤ 140737488355328))) = true)
    (h7 : (!spRight start (sub hrows2 0 (List.length (sub hrows 0 (List.length hrows)))) (List.length (sub brows2 0 m))) = false) :
    Calls Tryz.prog 23 (concL ρ [AV.agg [AV.str start, AV.slq 0 (List.length hrows), AV.slq 1 (List.length brows)], AV.int IntKind.u32 host, AV.int IntKind.u32 to_, AV.int IntKind.u16 port, AV.int IntKind.u16 toPort, AV.slq 2 (List.length mrows)]).toArray w (fun e w' => ∃ ρ', e = .returned (conc ρ' (AV.agg [AV.str start, AV.sl (Loc.mk 3 0 0) (List.length (sub hrows 0 (List.length hrows))) Cap.open_, AV.sl (Loc.mk 4 0 0) m Cap.open_])) ∧ HStep ρ (addBlks .e 0 [Blk.cells false [Kd.str, Kd.str] hrows, Blk.cells false [Kd.int IntKind.u8] brows, Blk.cells false [Kd.int IntKind.u16, Kd.int IntKind.u16] mrows]) ([Blk.cells false [Kd.str, Kd.str] hrows, Blk.cells false [Kd.int IntKind.u8] brows, Blk.cells false [Kd.int IntKind.u16, Kd.int IntKind.u16] mrows] : List Blk).length w ρ' (Tr.ofList [(3, .cells true [Kd.str, Kd.str] hrows2), (4, .cells true [Kd.int IntKind.u8] brows2)]) 5 w') :=
  calls_ofB P6w_ok (c23oFP start hrows brows mrows hrows2 brows2 host to_ port toPort m) ⟨⟨⟨⟨⟨⟨⟨⟨⟨⟨⟨⟨⟨⟨⟨⟨⟨⟨⟨⟨⟨⟨⟨⟨⟨⟨⟨⟨⟨⟨⟨⟨⟨⟨⟨⟨⟨⟨⟨⟨⟨⟨⟨⟨⟨⟨⟨⟨⟨⟨⟨⟨⟨⟨⟨⟨⟨⟨⟨⟨⟨⟨⟨⟨⟨⟨⟨⟨⟨⟨⟨⟨trivial, rfl⟩, rfl⟩, rfl⟩, h0⟩, h1⟩, rfl⟩, rfl⟩, rfl⟩, rfl⟩, rfl⟩, rfl⟩, h1⟩, rfl⟩, rfl⟩, rfl⟩, rfl⟩, rfl⟩, rfl⟩, h0⟩, h1⟩, rfl⟩, rfl⟩, rfl⟩, rfl⟩, rfl⟩, rfl⟩, rfl⟩, h2⟩, h3⟩, rfl⟩, rfl⟩, rfl⟩, rfl⟩, rfl⟩, rfl⟩, rfl⟩, rfl⟩, rfl⟩, rfl⟩, rfl⟩, rfl⟩, rfl⟩, rfl⟩, h0⟩, rfl⟩, rfl⟩, rfl⟩, rfl⟩, rfl⟩, rfl⟩, h0⟩, rfl⟩, rfl⟩, rfl⟩, rfl⟩, rfl⟩, rfl⟩, rfl⟩, h4⟩, rfl⟩, h5⟩, rfl⟩, h6⟩, h7⟩, rfl⟩, rfl⟩, rfl⟩, rfl⟩, rfl⟩, rfl⟩, rfl⟩, rfl⟩ hE rfl
end Go.Proofs.YtpdgmgkkbbndfaaGreatDoor

set_option maxRecDepth 100000
set_option maxHeartbeats 4000000
namespace Go.Proofs.YtpdgmgkkbbndfaaGreatDoor
open Go Go.Proofs Go.Proofs.YtpdgmgkkbbndfaaGreatDoor.SX
def NewSl (n0 : Nat) (w' : World) (ks : List Kd) (rows : List (List AV)) (v : Value) : Prop :=
  ∃ bi : BI, (n0 ≤ bi.blk ∨ bi.blk < NG) ∧ ∀ (ρ : Nat → BI) (b : Nat), ρ b = bi → conc ρ (.slq b rows.length) = v ∧ (Blk.cells false ks rows).sat ρ w' b
theorem NewSl.of_ro {ρ ρ' : Nat → BI} {hp hp' : Tr Blk} {nx nx' : Nat} {w w' : World} (st : HStep ρ hp nx w ρ' hp' nx' w') {b n : Nat} {ks : List Kd} {rows : List (List AV)} (hb : hp'.get b = some (.cells false ks rows)) (hge : nx ≤ b) (hk : noAny ks = true) (hn : n = rows.length) :
    NewSl w.heap.size w' ks rows (conc ρ' (.slq b n)) := by
  subst hn
  refine ⟨ρ' b, st.own.fresh b _ hge hb rfl, fun ρ'' b'' h => ⟨by simp [conc, h], Blk.sat_at hk h (st.sim.sat _ _ hb)⟩⟩
theorem NewSl.of_rw {ρ ρ' : Nat → BI} {hp hp' : Tr Blk} {nx nx' : Nat} {w w' : World} (st : HStep ρ hp nx w ρ' hp' nx' w') {b n : Nat} {ks : List Kd} {rows : List (List AV)} {c : Cap} (hb : hp'.get b = some (.cells true ks rows))
    (hro : ∀ c k, hp.get c = some k → k.isRw = false) (hk : noAny ks = true) (hn : n = rows.length) : NewSl w.heap.size w' ks rows (conc ρ' (.sl ⟨b, 0, 0⟩ n c)) := by
  have hz := ((st.sim.sat b _ hb).2.choose_spec.choose_spec.choose_spec.2.2 rfl).1
  exact (ReadsN.of_step st hb hro rfl hk hn hz).bi st.sim.gw hk
theorem NewSl.none {ρ' : Nat → BI} {n0 : Nat} {w' : World} {ks : List Kd} (gw : GW w') (hk : noAny ks = true) : NewSl n0 w' ks [] (conc ρ' .nilSl) :=
  (ReadsN.nil (n0 := n0) rfl).bi gw hk
def IsMsg (n0 : Nat) (w' : World) (start : List UInt8) (r1 r2 : List (List AV)) (v : Value) : Prop :=
  ∃ v1 v2, v = .agg #[.string ⟨start.toArray⟩, v1, v2] ∧ NewSl n0 w' [.str, .str] r1 v1 ∧ NewSl n0 w' [.int .u8] r2 v2
theorem entry_msg {P : Program} {f : Nat} {vs : Array Value} {ρ : Nat → BI} {hp : Tr Blk} {nx : Nat} {w : World} {start : List UInt8} {r1 r2 : List (List AV)} (hs : HSim ρ hp nx w)
    (h : Calls P f vs w (fun e w' => (∃ v, e = .returned v ∧ IsMsg w.heap.size w' start r1 r2 v) ∧ Ext w w')) :
    Calls P f vs w (fun e w' => ∃ ρ', e = .returned (conc ρ' (.agg [.str start, .slq nx r1.length, .slq (nx + 1) r2.length])) ∧ (AV.agg [.str start, .slq nx r1.length, .slq (nx + 1) r2.length]).idsB (nx + [Blk.cells false [.str, .str] r1, Blk.cells false [.int .u8] r2].length) = true
      ∧ HStep ρ hp nx w ρ' (addBlks hp nx [Blk.cells false [.str, .str] r1, Blk.cells false [.int .u8] r2]) (nx + [Blk.cells false [.str, .str] r1, Blk.cells false [.int .u8] r2].length) w') := by
  refine h.mono fun e w' hq => ?_
  obtain ⟨⟨v, rfl, v1, v2, rfl, ⟨b1, n1, g1⟩, b2, n2, g2⟩, he⟩ := hq
  have e1 : extB ρ nx [b1, b2] nx = b1 := by have := extB_new ρ nx [b1, b2] 0; simpa using this
  have e2 : extB ρ nx [b1, b2] (nx + 1) = b2 := by have := extB_new ρ nx [b1, b2] 1; simpa using this
  have st := HStep.bis (bs := [Blk.cells false [.str, .str] r1, Blk.cells false [.int .u8] r2]) [b1, b2] hs he (fun i blk hi => by
    match i with
    | 0 => simp at hi; subst hi; exact ⟨rfl, n1, rfl, fun ρ' b hb => (g1 ρ' b hb).2⟩
    | 1 => simp at hi; subst hi; exact ⟨rfl, n2, rfl, fun ρ' b hb => (g2 ρ' b hb).2⟩
    | i + 2 => simp at hi)
  refine ⟨_, ?_, ?_, st⟩
  · have h1 := (g1 _ _ e1).1
    have h2 := (g2 _ _ e2).1
    simp only [conc, concL] at h1 h2 ⊢
    rw [h1, h2]
  · simp [AV.idsB, idsBL, blt_iff]
def ins23 (hrows brows mrows : List (List AV)) : List Blk := [Blk.cells false [Kd.str, Kd.str] hrows, Blk.cells false [Kd.int IntKind.u8] brows, Blk.cells false [Kd.int IntKind.u16, Kd.int IntKind.u16] mrows]
theorem ro23 {hrows brows mrows : List (List AV)} : ∀ c k, (addBlks .e 0 (ins23 hrows brows mrows)).get c = some k → k.isRw = false := by
  intro c k hk
  rw [addBlks_get] at hk
  split at hk
  · have := List.mem_of_getElem? hk
    simp only [ins23, List.mem_cons, List.not_mem_nil, or_false] at this
    rcases this with rfl | rfl | rfl <;> rfl
  · cases c <;> cases hk
theorem rw23 {start : List UInt8} {hrows brows mrows : List (List AV)} {host to_ port toPort : Int} {ρ : Nat → BI} {w : World} (hE : HSim ρ (addBlks .e 0 (ins23 hrows brows mrows)) (ins23 hrows brows mrows).length w)
    (hst : start.length ≤ 4294967200) (hsh : hrows.all short = true) (hhl : hrows.length ≤ 4398046511104) (hbl : brows.length ≤ 140737488355328) (hml : mrows.length ≤ 4611686018427387904) (h2 : ∀ r ∈ hrows, r.length = 2) :
    Calls Tryz.prog 23 (concL ρ [AV.agg [AV.str start, AV.slq 0 (List.length hrows), AV.slq 1 (List.length brows)], AV.int IntKind.u32 host, AV.int IntKind.u32 to_, AV.int IntKind.u16 port, AV.int IntKind.u16 toPort, AV.slq 2 (List.length mrows)]).toArray w
      (fun e w' => (∃ v, e = .returned v ∧ IsMsg w.heap.size w' start (spRwH start host to_ port toPort mrows hrows brows) (spRwB start host to_ port toPort mrows hrows brows) v) ∧ Ext w w') := by
  have eh : sub hrows 0 (List.length hrows) = hrows := sub_all hrows rfl
  have eb : sub brows 0 (List.length brows) = brows := sub_all brows rfl
  cases h1 : spRight start hrows brows.length with
  | false =>
    have e0 : rwOk start host to_ port toPort mrows hrows brows = false := by unfold rwOk; rw [h1]; rfl
    unfold spRwH spRwB
    rw [e0, cond_false, cond_false]
    refine (c23n start hrows brows mrows host to_ port toPort hE (by simp only [eh, Bool.and_eq_true, decide_eq_true_eq]; omega) (by simp only [eb, Bool.and_eq_true, decide_eq_true_eq]; omega)
      (by simp only [eh, eb, Bool.and_eq_true, decide_eq_true_eq]; exact ⟨by omega, by omega, hst, hsh, hbl⟩) (by rw [eh, eb, h1]; rfl)).mono fun e w' hq => ?_
    obtain ⟨ρ', rfl, st⟩ := hq
    rw [eh, eb] at st
    rw [eh, eb]
    refine ⟨⟨_, rfl, _, _, rfl, NewSl.of_ro st (b := 3) (by rw [ofList_cons, if_pos rfl]) (show 3 ≤ 3 from Nat.le_refl 3) rfl rfl, NewSl.of_ro st (b := 4) (by rw [ofList_cons, if_neg (by decide), ofList_cons, if_pos rfl]) (show 3 ≤ 4 from Nat.le_succ 3) rfl rfl⟩, st.below ro23⟩
  | true =>
    have hz := right_sized h1
    obtain ⟨hline, hlen⟩ := rw_lines (host := host) (to_ := to_) (mrows := mrows) hz.bn hml
    obtain ⟨hhdr, hsh2, ht2⟩ := rw_hdrs (host := host) (to_ := to_) (port := port) (toPort := toPort) hz h2 hml
    have hbn := hz.bn
    have hpos := hz.pos
    have hR := range23 (start := start) (n := hrows.length) (p := IntKind.wrap .i64 port) (tp := IntKind.wrap .i64 toPort) hline (by omega)
    have a0 : (decide (0 + List.length hrows ≤ List.length hrows) && decide (0 < List.length (sub hrows 0 (List.length hrows)) ∧ List.length (sub hrows 0 (List.length hrows)) ≤ 4398046511104)) = true := by
      simp only [eh, Bool.and_eq_true, decide_eq_true_eq]; omega
    have a1 : (decide (0 + List.length brows ≤ List.length brows) && decide (List.length (sub brows 0 (List.length brows)) ≤ 140737488355328)) = true := by
      simp only [eb, Bool.and_eq_true, decide_eq_true_eq]; omega
    have a2 : (decide (0 + List.length hrows ≤ List.length hrows) && (decide (0 + List.length brows ≤ List.length brows) && decide (List.length start ≤ 4294967200 ∧ List.all (sub hrows 0 (List.length hrows)) short = true ∧ List.length (sub brows 0 (List.length brows)) ≤ 140737488355328))) = true := by
      simp only [eh, eb, Bool.and_eq_true, decide_eq_true_eq]; exact ⟨by omega, by omega, hst, hsh, hbl⟩
    have a3 : (!spRight start (sub hrows 0 (List.length hrows)) (List.length (sub brows 0 (List.length brows)))) = false := by rw [eh, eb, h1]; rfl
    have hl2 : (rwHdrs host to_ port toPort mrows hrows brows).length = hrows.length := by simp [rwHdrs]
    have es : sub (rwHdrs host to_ port toPort mrows hrows brows) 0 hrows.length = rwHdrs host to_ port toPort mrows hrows brows := sub_all _ hl2.symm
    cases hb : rwBody host to_ mrows brows with
    | nil =>
      have hR : RangeOK Tryz.prog (rcode Tryz.prog 23 0) 113 (I23 start (spDotted host) (spDotted to_) hrows.length (IntKind.wrap .i64 port) (IntKind.wrap .i64 toPort) mrows brows) (S23z start (spDotted host) (spDotted to_) hrows.length (IntKind.wrap .i64 port) (IntKind.wrap .i64 toPort) mrows) := by
        have hb' : outB (spDotted host) (spDotted to_) mrows (spLines (brows.map rowByte)) = [] := hb
        rw [hb'] at hR; exact hR
      have hL := hdrz_loop (start := start) (m := 0) (p := IntKind.wrap .i64 port) hhdr (by omega)
      have eH : hrows.map (spHdr (spDotted host) (spDotted to_) (IntKind.wrap .i64 port) (IntKind.wrap .i64 toPort) 0) = rwHdrs host to_ port toPort mrows hrows brows := by unfold rwHdrs; rw [hb]; rfl
      rw [eH] at hL
      have a6 : (decide (0 + List.length (sub hrows 0 (List.length hrows)) ≤ List.length (rwHdrs host to_ port toPort mrows hrows brows)) && (true && decide (List.length start ≤ 4294967200 ∧ List.all (sub (rwHdrs host to_ port toPort mrows hrows brows) 0 (List.length (sub hrows 0 (List.length hrows)))) short = true ∧ 0 ≤ 140737488355328))) = true := by
        simp only [eh, es, Bool.and_eq_true, decide_eq_true_eq]; exact ⟨by omega, trivial, hst, hsh2, by omega⟩
      cases h3 : spRight start (rwHdrs host to_ port toPort mrows hrows brows) (rwBody host to_ mrows brows).length with
      | false =>
        have e0 : rwOk start host to_ port toPort mrows hrows brows = false := by unfold rwOk; rw [h1, h3]; rfl
        unfold spRwH spRwB
        rw [e0, cond_false, cond_false]
        rw [hb] at h3
        refine (c23zT start hrows brows mrows (rwHdrs host to_ port toPort mrows hrows brows) [] host to_ port toPort 0 hE a0 a1 a2 a3 (by rw [eh]; exact hR) (by rw [eh]; exact hL) a6 (by rw [eh, es]; exact (congrArg not h3))).mono fun e w' hq => ?_
        obtain ⟨ρ', rfl, st⟩ := hq
        rw [eh, eb] at st
        rw [eh, eb]
        exact ⟨⟨_, rfl, _, _, rfl, NewSl.of_rw st (b := 3) (by rw [ofList_cons, if_pos rfl]) ro23 rfl rfl, NewSl.of_ro st (b := 4) (by rw [ofList_cons, if_neg (by decide), ofList_cons, if_pos rfl]) (show 3 ≤ 4 from Nat.le_succ 3) rfl rfl⟩, st.below ro23⟩
      | true =>
        have e0 : rwOk start host to_ port toPort mrows hrows brows = true := by unfold rwOk; rw [h1, h3]; rfl
        unfold spRwH spRwB
        rw [e0, cond_true, cond_true]
        rw [hb] at h3
        refine (c23zF start hrows brows mrows (rwHdrs host to_ port toPort mrows hrows brows) [] host to_ port toPort 0 hE a0 a1 a2 a3 (by rw [eh]; exact hR) (by rw [eh]; exact hL) a6 (by rw [eh, es]; exact (congrArg not h3))).mono fun e w' hq => ?_
        obtain ⟨ρ', rfl, st⟩ := hq
        rw [eh]
        rw [hb]
        exact ⟨⟨_, rfl, _, _, rfl, NewSl.of_rw st (b := 3) (by rw [ofList_cons, if_pos rfl]) ro23 rfl hl2.symm, NewSl.none st.sim.gw rfl⟩, st.below ro23⟩
    | cons x xs =>
      have hR : RangeOK Tryz.prog (rcode Tryz.prog 23 0) 113 (I23 start (spDotted host) (spDotted to_) hrows.length (IntKind.wrap .i64 port) (IntKind.wrap .i64 toPort) mrows brows) (S23o start (spDotted host) (spDotted to_) hrows.length (IntKind.wrap .i64 port) (IntKind.wrap .i64 toPort) mrows (byteRows (rwBody host to_ mrows brows))) := by
        have hb' : outB (spDotted host) (spDotted to_) mrows (spLines (brows.map rowByte)) = x :: xs := hb
        rw [hb'] at hR; rw [hb]; exact hR
      have hm : (byteRows (rwBody host to_ mrows brows)).length = (rwBody host to_ mrows brows).length := byteRows_length _
      have hL := hdro_loop (start := start) (m := (byteRows (rwBody host to_ mrows brows)).length) (p := IntKind.wrap .i64 port) hhdr (by omega)
      have eH : hrows.map (spHdr (spDotted host) (spDotted to_) (IntKind.wrap .i64 port) (IntKind.wrap .i64 toPort) (byteRows (rwBody host to_ mrows brows)).length) = rwHdrs host to_ port toPort mrows hrows brows := by unfold rwHdrs; rw [hm]
      rw [eH] at hL
      have ebb : sub (byteRows (rwBody host to_ mrows brows)) 0 (byteRows (rwBody host to_ mrows brows)).length = byteRows (rwBody host to_ mrows brows) := sub_all _ rfl
      have a6 : (decide (0 + List.length (sub hrows 0 (List.length hrows)) ≤ List.length (rwHdrs host to_ port toPort mrows hrows brows)) && (decide (0 + (byteRows (rwBody host to_ mrows brows)).length ≤ List.length (byteRows (rwBody host to_ mrows brows))) && decide (List.length start ≤ 4294967200 ∧ List.all (sub (rwHdrs host to_ port toPort mrows hrows brows) 0 (List.length (sub hrows 0 (List.length hrows)))) short = true ∧ List.length (sub (byteRows (rwBody host to_ mrows brows)) 0 (byteRows (rwBody host to_ mrows brows)).length) ≤ 140737488355328))) = true := by
        simp only [eh, es, ebb, Bool.and_eq_true, decide_eq_true_eq]; exact ⟨by omega, by omega, hst, hsh2, by omega⟩
      cases h3 : spRight start (rwHdrs host to_ port toPort mrows hrows brows) (rwBody host to_ mrows brows).length with
      | false =>
        have e0 : rwOk start host to_ port toPort mrows hrows brows = false := by unfold rwOk; rw [h1, h3]; rfl
        unfold spRwH spRwB
        rw [e0, cond_false, cond_false]
        rw [← hm] at h3
        refine (c23oT start hrows brows mrows (rwHdrs host to_ port toPort mrows hrows brows) (byteRows (rwBody host to_ mrows brows)) host to_ port toPort (byteRows (rwBody host to_ mrows brows)).length hE a0 a1 a2 a3 (by rw [eh]; exact hR) (by rw [eh]; exact hL) a6 (by rw [eh, es, ebb]; exact (congrArg not h3))).mono fun e w' hq => ?_
        obtain ⟨ρ', rfl, st⟩ := hq
        rw [eh, eb] at st
        rw [eh, eb]
        exact ⟨⟨_, rfl, _, _, rfl, NewSl.of_rw st (b := 3) (by rw [ofList_cons, if_pos rfl]) ro23 rfl rfl, NewSl.of_ro st (b := 4) (by rw [ofList_cons, if_neg (by decide), ofList_cons, if_pos rfl]) (show 3 ≤ 4 from Nat.le_succ 3) rfl rfl⟩, st.below ro23⟩
      | true =>
        have e0 : rwOk start host to_ port toPort mrows hrows brows = true := by unfold rwOk; rw [h1, h3]; rfl
        unfold spRwH spRwB
        rw [e0, cond_true, cond_true]
        rw [← hm] at h3
        refine (c23oF start hrows brows mrows (rwHdrs host to_ port toPort mrows hrows brows) (byteRows (rwBody host to_ mrows brows)) host to_ port toPort (byteRows (rwBody host to_ mrows brows)).length hE a0 a1 a2 a3 (by rw [eh]; exact hR) (by rw [eh]; exact hL) a6 (by rw [eh, es, ebb]; exact (congrArg not h3))).mono fun e w' hq => ?_
        obtain ⟨ρ', rfl, st⟩ := hq
        rw [eh]
        exact ⟨⟨_, rfl, _, _, rfl, NewSl.of_rw st (b := 3) (by rw [ofList_cons, if_pos rfl]) ro23 rfl hl2.symm, NewSl.of_rw st (b := 4) (by rw [ofList_cons, if_neg (by decide), ofList_cons, if_pos rfl]) ro23 rfl rfl⟩, st.below ro23⟩
end Go.Proofs.YtpdgmgkkbbndfaaGreatDoor

set_option maxRecDepth 100000
set_option maxHeartbeats 1600000
namespace Go.Proofs.YtpdgmgkkbbndfaaGreatDoor
open Go Go.Proofs Go.Proofs.YtpdgmgkkbbndfaaGreatDoor.SX
def Pt : Prims := addP (addP Pr 52 q52) 94 q94
theorem Pt_ok : PrimsOK Tryz.prog Pt := addP_ok (addP_ok Pr_ok q52_ok) q94_ok
theorem c63d_EEE (a : Int) (p : Int) :
 Path (runCallB Tryz.prog Pt 100 63 [AV.int IntKind.i64 (2 : Int), AV.int IntKind.u32 a, AV.int IntKind.u16 p] (st0 [] ([PI.ev 1, PI.ev 1, PI.ev 1]))) 0 [0] (SL.mk [] [(0, .cells true [Kd.int IntKind.u8] (List.map byteRow ((124 : UInt8) :: (49 : UInt8) :: (124 : UInt8) :: (spDotted a ++ [(124 : UInt8)] ++ spItoa (IntKind.wrap IntKind.i64 p) ++ [(124 : UInt8)]))))] 1) (Out.ret (ren (sig 0 [0]) (AV.sl (Loc.mk 0 0 0) (List.length ((124 : UInt8) :: (49 : UInt8) :: (124 : UInt8) :: (spDotted a ++ [(124 : UInt8)] ++ spItoa (IntKind.wrap IntKind.i64 p) ++ [(124 : UInt8)]))) Cap.open_)))
 ((((((True ∧ (decide (Int.negSucc (9223372036854775807) ≤ IntKind.wrap IntKind.i64 p ∧ IntKind.wrap IntKind.i64 p ≤ (9223372036854775807 : Int)) = true)) ∧ (true = true)) ∧ (decide (3 + List.length (spDotted a) ≤ 9223372036854775807) = true)) ∧ (decide (List.length ((124 : UInt8) :: (49 : UInt8) :: (124 : UInt8) :: spDotted a) + 1 ≤ 9223372036854775807) = true)) ∧ (decide (List.length ((124 : UInt8) :: (49 : UInt8) :: (124 : UInt8) :: (spDotted a ++ [(124 : UInt8)])) + List.length (spItoa (IntKind.wrap IntKind.i64 p)) ≤ 9223372036854775807) = true)) ∧ (decide (List.length ((124 : UInt8) :: (49 : UInt8) :: (124 : UInt8) :: (spDotted a ++ [(124 : UInt8)] ++ spItoa (IntKind.wrap IntKind.i64 p))) + 1 ≤ 9223372036854775807) = true)) := by unfold Path; kernel_rfl
theorem c63e_EEEE (a : Int) (p : Int) :
 Path (runCallB Tryz.prog Pt 100 63 [AV.int IntKind.i64 (4 : Int), AV.int IntKind.u32 a, AV.int IntKind.u16 p] (st0 [] ([PI.ev 1, PI.ev 1, PI.ev 1, PI.ev 1]))) 0 [0] (SL.mk [] [(0, .cells true [Kd.int IntKind.u8] (List.map byteRow (spItoa (IntKind.wrap IntKind.i64 p))))] 1) (Out.ret (ren (sig 0 [0]) (AV.sl (Loc.mk 0 0 0) (List.length (spItoa (IntKind.wrap IntKind.i64 p))) Cap.open_)))
 (True ∧ (decide (Int.negSucc (9223372036854775807) ≤ IntKind.wrap IntKind.i64 p ∧ IntKind.wrap IntKind.i64 p ≤ (9223372036854775807 : Int)) = true)) := by unfold Path; kernel_rfl
def spText (k a p : Int) : List UInt8 := bif k == 2 then 124 :: 49 :: 124 :: (spDotted a ++ [124] ++ spItoa p ++ [124]) else spItoa p
theorem ftext_calls {k a p : Int} (hk : k = 2 ∨ k = 4) (hp : 0 ≤ p ∧ p ≤ 65535) {ρ : Nat → BI} {w : World} (hE : HSim ρ (addBlks .e 0 []) ([] : List Blk).length w) :
    Calls Tryz.prog 63 (concL ρ [AV.int .i64 k, .int .u32 a, .int .u16 p]).toArray w (fun e w' => (∃ v, e = .returned v ∧ NewSl w.heap.size w' [.int .u8] (byteRows (spText k a p)) v) ∧ Ext w w') := by
  have hw : IntKind.wrap IntKind.i64 p = p := IntWalk.i64_in _ (by omega)
  have hl := len_itoa p (by omega)
  have hd := len_dotted a
  have hro : ∀ c k, (addBlks .e 0 ([] : List Blk)).get c = some k → k.isRw = false := by
    intro c k hk
    rw [addBlks_get] at hk
    split at hk
    · simp at hk
    · cases c <;> cases hk
  rcases hk with rfl | rfl
  · have hc := calls_ofB Pt_ok (c63d_EEE a p) (by
      rw [hw]
      refine ⟨⟨⟨⟨⟨⟨trivial, ?_⟩, rfl⟩, ?_⟩, ?_⟩, ?_⟩, ?_⟩
      all_goals (first | exact decide_eq_true (by omega) | (simp only [decide_eq_true_eq, List.length_cons, List.length_append, List.length_nil]; omega))) hE rfl
    refine hc.mono fun e w' hq => ?_
    obtain ⟨ρ', rfl, st⟩ := hq
    have eT : spText 2 a p = 124 :: 49 :: 124 :: (spDotted a ++ [124] ++ spItoa (IntKind.wrap IntKind.i64 p) ++ [124]) := by rw [hw]; rfl
    rw [eT]
    exact ⟨⟨_, rfl, NewSl.of_rw st (by rw [ofList_cons, if_pos rfl]; rfl) hro rfl (by rw [byteRows_length])⟩, st.below hro⟩
  · have hc := calls_ofB Pt_ok (c63e_EEEE a p) (by
      rw [hw]
      refine ⟨trivial, ?_⟩
      all_goals (first | exact decide_eq_true (by omega) | (simp only [decide_eq_true_eq, List.length_cons, List.length_append, List.length_nil]; omega))) hE rfl
    refine hc.mono fun e w' hq => ?_
    obtain ⟨ρ', rfl, st⟩ := hq
    have eT : spText 4 a p = spItoa (IntKind.wrap IntKind.i64 p) := by rw [hw]; rfl
    rw [eT]
    exact ⟨⟨_, rfl, NewSl.of_rw st (by rw [ofList_cons, if_pos rfl]; rfl) hro rfl (by rw [byteRows_length])⟩, st.below hro⟩
def q63 : Entry := fun args hp nx => match args with
  | [.int .i64 k, .int .u32 a, .int .u16 p] => some (decide ((k = 2 ∨ k = 4) ∧ 0 ≤ p ∧ p ≤ 65535), .slq nx (byteRows (spText k a p)).length, [.cells false [.int .u8] (byteRows (spText k a p))])
  | _ => none
theorem q63_ok : EntryOK Tryz.prog 63 q63 := by
  intro args hp nx c v bs h hc ρ w hs hi
  unfold q63 at h
  split at h
  · rename_i k a p
    cases h
    obtain ⟨h1, h2⟩ := of_decide_eq_true hc
    have hE : HSim ρ (addBlks .e 0 []) ([] : List Blk).length w := HSim.ins hs.gw (fun i blk hi => by simp at hi)
    refine (ftext_calls h1 h2 hE).mono fun e w' hq => ?_
    obtain ⟨⟨v1, rfl, ⟨b3, n3, g3⟩⟩, he⟩ := hq
    have e1 : extB ρ nx [b3] nx = b3 := by have := extB_new ρ nx [b3] 0; simpa using this
    have st := HStep.bis (bs := [Blk.cells false [.int .u8] (byteRows (spText k a p))]) [b3] hs he (fun i blk hi => by
      obtain ⟨rfl, rfl⟩ := bs1 hi
      exact ⟨rfl, n3, rfl, fun ρ' b hb => (g3 ρ' b hb).2⟩)
    refine ⟨_, ?_, ?_, st⟩
    · have k1 := (g3 _ _ e1).1
      simp only [conc] at k1 ⊢
      rw [k1]
    · simp [AV.idsB, blt_iff]
  · cases h
end Go.Proofs.YtpdgmgkkbbndfaaGreatDoor

set_option maxRecDepth 100000
set_option maxHeartbeats 1600000
namespace Go.Proofs.YtpdgmgkkbbndfaaGreatDoor
open Go Go.Proofs Go.Proofs.YtpdgmgkkbbndfaaGreatDoor.SX
def b97I (rows : List (List AV)) (len : Nat) (n : Int) (k : Int) : SL := ⟨[(0, .slq 0 len), (1, .int .u16 n), (7, .int .i64 len), (8, .int .i64 k)], [(0, .cells false [.int .u16] rows)], 1⟩
theorem b97_TT (rows : List (List AV)) (len : Nat) (n : Int) (k : Int) :
 Path (run Tryz.prog Pr 100 (lbody Tryz.prog 97 0) (SL.mp 19 ([.as_ true, .as_ true]) (b97I rows len n k))) 1 [] (SL.mk [(4, AV.int IntKind.i64 k)] [] 1) (Ex.ret)
 (((((True ∧ (decide (k < (↑len : Int)) = true)) ∧ (decide (0 < len) = true)) ∧ (decide ((0 : Int) ≤ k ∧ k < (↑len : Int)) = true)) ∧ (decide (0 + Int.toNat k < List.length rows) = true)) ∧ ((n == AV.toInt (List.getD (List.getD rows (0 + Int.toNat k) []) (0) AV.undef)) = true)) := by unfold Path; kernel_rfl
theorem b97_TF (rows : List (List AV)) (len : Nat) (n : Int) (k : Int) :
 Path (run Tryz.prog Pr 100 (lbody Tryz.prog 97 0) (SL.mp 19 ([.as_ true, .as_ false]) (b97I rows len n k))) 1 [] (b97I (rows) (len) (n) (IntKind.wrap IntKind.i64 (k + (1 : Int)))) (Ex.normal)
 (((((True ∧ (decide (k < (↑len : Int)) = true)) ∧ (decide (0 < len) = true)) ∧ (decide ((0 : Int) ≤ k ∧ k < (↑len : Int)) = true)) ∧ (decide (0 + Int.toNat k < List.length rows) = true)) ∧ ((n == AV.toInt (List.getD (List.getD rows (0 + Int.toNat k) []) (0) AV.undef)) = false)) := by unfold Path; kernel_rfl
theorem b97_F (rows : List (List AV)) (len : Nat) (n : Int) (k : Int) :
 Path (run Tryz.prog Pr 100 (lbody Tryz.prog 97 0) (SL.mp 19 ([.as_ false]) (b97I rows len n k))) 1 [] (SL.mk [] [] 1) (Ex.exit 0)
 (True ∧ (decide (k < (↑len : Int)) = false)) := by unfold Path; kernel_rfl
theorem c65_L (rows : List (List AV)) (len : Nat) (n : Int) (j : Int) :
 Path (runCallB Tryz.prog Pr 100 65 [AV.slq 0 len, AV.int IntKind.u16 n] (st0 [Blk.cells false [Kd.int IntKind.u16] rows] ([PI.loop (b97I rows len n (0 : Int)) Ex.ret (SL.mk [(4, AV.int IntKind.i64 j)] [] 1)]))) 1 [] (SL.mk [] [] 1) (Out.ret (AV.bool (decide (j ≥ (0 : Int)))))
 (True ∧ (LoopOK Tryz.prog (lbody Tryz.prog 97 0) (19) (SL.mk [(0, AV.slq 0 len), (1, AV.int IntKind.u16 n), (7, AV.int IntKind.i64 (↑len : Int)), (8, AV.int IntKind.i64 (0 : Int))] [(0, Blk.cells false [Kd.int IntKind.u16] rows)] 1) Ex.ret (SL.mk [(4, AV.int IntKind.i64 j)] [] 1))) := by unfold Path; kernel_rfl
theorem c65_E (rows : List (List AV)) (len : Nat) (n : Int) (j : Int) :
 Path (runCallB Tryz.prog Pr 100 65 [AV.slq 0 len, AV.int IntKind.u16 n] (st0 [Blk.cells false [Kd.int IntKind.u16] rows] ([PI.loop (b97I rows len n (0 : Int)) (Ex.exit 0) (SL.mk [] [] 1)]))) 1 [] (SL.mk [] [] 1) (Out.ret (AV.bool false))
 (True ∧ (LoopOK Tryz.prog (lbody Tryz.prog 97 0) (19) (SL.mk [(0, AV.slq 0 len), (1, AV.int IntKind.u16 n), (7, AV.int IntKind.i64 (↑len : Int)), (8, AV.int IntKind.i64 (0 : Int))] [(0, Blk.cells false [Kd.int IntKind.u16] rows)] 1) (Ex.exit 0) (SL.mk [] [] 1))) := by unfold Path; kernel_rfl
def portOf (r : List AV) : Int := AV.toInt (List.getD r 0 AV.undef)
def isPort (n : Int) (r : List AV) : Bool := n == portOf r
theorem ct_step {rows : List (List AV)} {n : Int} {k : Nat} (hk : k < rows.length) (hl : rows.length ≤ 4611686018427387904) (hno : isPort n rows[k] = false) :
    BodyOK Tryz.prog (lbody Tryz.prog 97 0) 19 1 (b97I rows rows.length n k) .normal (b97I rows rows.length n ((k + 1 : Nat) : Int)) := by
  have hw := succ64 (n := rows.length) hk hl
  refine body_by Pr_ok (b97_TF rows rows.length n k) (by rw [hw]) ⟨⟨⟨⟨⟨trivial, decide_eq_true (by omega)⟩, decide_eq_true (by omega)⟩, decide_eq_true (by omega)⟩, decide_eq_true (by simp; omega)⟩, ?_⟩ rfl
  rw [row_at hk]; exact hno
theorem ct_some {rows : List (List AV)} {n : Int} {j : Nat} (hl : rows.length ≤ 4611686018427387904) (h : firstAt (isPort n) rows = some j) :
    LoopOK Tryz.prog (lbody Tryz.prog 97 0) 19 (b97I rows rows.length n 0) .ret ⟨[(4, .int .i64 (j : Int))], [], 1⟩ := by
  obtain ⟨hj, h2, h3⟩ := firstAt_some h
  refine loop_rule (E := b97I rows rows.length n 0) (I := fun k : Nat => b97I rows rows.length n k) (pre := fun k => k ≤ j) (μ := fun k => j - k) _ _ rfl (fun ρ => by simp [Ex.conc]) ?_ (x0 := 0) (pick := []) (Nat.zero_le _) ⟨by kernel_rfl, map_fst_snd (by kernel_rfl)⟩
  intro k hk
  by_cases hkj : k = j
  · right
    subst hkj
    refine body_by Pr_ok (b97_TT rows rows.length n k) rfl ⟨⟨⟨⟨⟨trivial, decide_eq_true (by omega)⟩, decide_eq_true (by omega)⟩, decide_eq_true (by omega)⟩, decide_eq_true (by simp; omega)⟩, ?_⟩ rfl
    rw [row_at hj]; exact h2
  · left
    exact ⟨k + 1, by omega, by omega, ct_step (by omega) hl (h3 k (by omega))⟩
theorem ct_none {rows : List (List AV)} {n : Int} (hl : rows.length ≤ 4611686018427387904) (h : firstAt (isPort n) rows = none) :
    LoopOK Tryz.prog (lbody Tryz.prog 97 0) 19 (b97I rows rows.length n 0) (.exit 0) ⟨[], [], 1⟩ := by
  have h3 := firstAt_none h
  refine loop_rule (E := b97I rows rows.length n 0) (I := fun k : Nat => b97I rows rows.length n k) (pre := fun k => k ≤ rows.length) (μ := fun k => rows.length - k) _ _ rfl (fun ρ => by simp [Ex.conc]) ?_ (x0 := 0) (pick := []) (Nat.zero_le _) ⟨by kernel_rfl, map_fst_snd (by kernel_rfl)⟩
  intro k hk
  by_cases hkl : k < rows.length
  · left
    exact ⟨k + 1, by omega, by omega, ct_step hkl hl (h3 k hkl)⟩
  · right
    exact body_by Pr_ok (b97_F rows rows.length n k) rfl ⟨trivial, decide_eq_false (by omega)⟩ rfl
def spHasP (rows : List (List AV)) (n : Int) : Bool := rows.any (isPort n)
theorem has_some {rows : List (List AV)} {n : Int} {j : Nat} (h : firstAt (isPort n) rows = some j) : spHasP rows n = true := by
  obtain ⟨hj, h2, _⟩ := firstAt_some h
  exact List.any_eq_true.2 ⟨_, List.getElem_mem hj, h2⟩
theorem has_none {rows : List (List AV)} {n : Int} (h : firstAt (isPort n) rows = none) : spHasP rows n = false := by
  have h3 := firstAt_none h
  unfold spHasP
  rw [List.any_eq_false]
  intro r hr
  obtain ⟨k, hk, rfl⟩ := List.getElem_of_mem hr
  rw [h3 k hk]; decide
def q65 : Entry := fun args hp nx => match args with
  | [lv, .int .u16 n] => match slIn hp [.int .u16] lv with
    | some (c, rows) => some (c && decide (rows.length ≤ 4611686018427387904), .bool (spHasP rows n), [])
    | _ => none
  | _ => none
theorem q65_ok : EntryOK Tryz.prog 65 q65 := by
  intro args hp nx c v bs h hc ρ w hs hi
  unfold q65 at h
  split at h
  · rename_i lv n
    split at h
    · rename_i c1 rows hs1
      cases h
      simp only [Bool.and_eq_true] at hc
      have hlen := of_decide_eq_true hc.2
      obtain ⟨b0, hb0⟩ := (slIn_spec hs hs1 hc.1 rfl).bi hs.gw rfl
      have hE : HSim (fun _ => b0) (addBlks .e 0 [Blk.cells false [Kd.int IntKind.u16] rows]) ([Blk.cells false [Kd.int IntKind.u16] rows] : List Blk).length w := HSim.ins hs.gw (fun i blk hi => by
        obtain ⟨rfl, rfl⟩ := bs1 hi
        exact ⟨(hb0 _ 0 rfl).2, rfl, rfl⟩)
      refine entry_pure hs rfl ?_
      have ea : (concL (fun _ => b0) [AV.slq 0 rows.length, .int .u16 n]).toArray = (concL ρ [lv, .int .u16 n]).toArray := by
        have e1 := (hb0 (fun _ => b0) 0 rfl).1
        simp only [concL]
        rw [e1]
        rfl
      rw [← ea]
      cases hf : firstAt (isPort n) rows with
      | some j =>
        rw [has_some hf]
        have hc := calls_pureB Pr_ok (c65_L rows rows.length n j) ⟨trivial, ct_some hlen hf⟩ hE rfl rfl rfl
        have hd : decide ((j : Int) ≥ 0) = true := decide_eq_true (by omega)
        rw [hd] at hc
        exact hc
      | none =>
        rw [has_none hf]
        exact calls_pureB Pr_ok (c65_E rows rows.length n 0) ⟨trivial, ct_none hlen hf⟩ hE rfl rfl rfl
    · cases h
  · cases h
end Go.Proofs.YtpdgmgkkbbndfaaGreatDoor

set_option maxRecDepth 100000
namespace Go.Proofs.YtpdgmgkkbbndfaaGreatDoor
open Go Go.Proofs Go.Proofs.YtpdgmgkkbbndfaaGreatDoor.SX
end Go.Proofs.YtpdgmgkkbbndfaaGreatDoor

set_option maxRecDepth 100000
namespace Go.Proofs.YtpdgmgkkbbndfaaGreatDoor
open Go Go.Proofs Go.Proofs.YtpdgmgkkbbndfaaGreatDoor.SX
def twoB (r : List AV) : Bool := Nat.beq r.length 2
def q23 : Entry := fun args hp nx => match args with
  | [.agg [.str start, hv, bv], .int .u32 host, .int .u32 to_, .int .u16 port, .int .u16 toPort, mv] => match slIn hp [.str, .str] hv, slIn hp [.int .u8] bv, slIn hp [.int .u16, .int .u16] mv with
    | some (c1, hrows), some (c2, brows), some (c3, mrows) =>
      some (c1 && (c2 && (c3 && decide (start.length ≤ 4294967200 ∧ hrows.all short = true ∧ hrows.length ≤ 4398046511104 ∧ brows.length ≤ 140737488355328 ∧ mrows.length ≤ 4611686018427387904 ∧ hrows.all twoB = true))),
        .agg [.str start, .slq nx (spRwH start host to_ port toPort mrows hrows brows).length, .slq (nx + 1) (spRwB start host to_ port toPort mrows hrows brows).length],
        [.cells false [.str, .str] (spRwH start host to_ port toPort mrows hrows brows), .cells false [.int .u8] (spRwB start host to_ port toPort mrows hrows brows)])
    | _, _, _ => none
  | _ => none
theorem three_in {w : World} {r1 r2 r3 : List (List AV)} {v1 v2 v3 : Value} (gw : GW w) (h1 : Reads w [.str, .str] r1 v1) (h2 : Reads w [.int .u8] r2 v2) (h3 : Reads w [.int .u16, .int .u16] r3 v3) :
    ∃ ρ0 : Nat → BI, HSim ρ0 (addBlks .e 0 (ins23 r1 r2 r3)) (ins23 r1 r2 r3).length w ∧ conc ρ0 (.slq 0 r1.length) = v1 ∧ conc ρ0 (.slq 1 r2.length) = v2 ∧ conc ρ0 (.slq 2 r3.length) = v3 := by
  obtain ⟨b1, hb1⟩ := h1.bi gw rfl
  obtain ⟨b2, hb2⟩ := h2.bi gw rfl
  obtain ⟨b3, hb3⟩ := h3.bi gw rfl
  refine ⟨fun i => if i = 0 then b1 else if i = 1 then b2 else b3, HSim.ins gw (fun i blk hi => ?_), (hb1 _ 0 rfl).1, (hb2 _ 1 rfl).1, (hb3 _ 2 rfl).1⟩
  match i with
  | 0 => simp [ins23] at hi; subst hi; exact ⟨(hb1 _ 0 rfl).2, rfl, rfl⟩
  | 1 => simp [ins23] at hi; subst hi; exact ⟨(hb2 _ 1 rfl).2, rfl, rfl⟩
  | 2 => simp [ins23] at hi; subst hi; exact ⟨(hb3 _ 2 rfl).2, rfl, rfl⟩
  | i + 3 => simp [ins23] at hi
theorem q23_ok : EntryOK Tryz.prog 23 q23 := by
  intro args hp nx c v bs h hc ρ w hs hi
  unfold q23 at h
  split at h
  · rename_i start hv bv host to_ port toPort mv
    split at h
    · rename_i c1 hrows c2 brows c3 mrows hs1 hs2 hs3
      cases h
      simp only [Bool.and_eq_true] at hc
      obtain ⟨hc1, hc2, hc3, hc4⟩ := hc
      obtain ⟨g1, g2, g3, g4, g5, g6⟩ := of_decide_eq_true hc4
      obtain ⟨ρ0, hE, e1, e2, e3⟩ := three_in hs.gw (slIn_spec hs hs1 hc1 rfl) (slIn_spec hs hs2 hc2 rfl) (slIn_spec hs hs3 hc3 rfl)
      have hcall := rw23 (host := host) (to_ := to_) (port := port) (toPort := toPort) hE g1 g2 g3 g4 g5 (fun r hr => Nat.eq_of_beq_eq_true (List.all_eq_true.1 g6 r hr))
      have ea : concL ρ0 [AV.agg [AV.str start, AV.slq 0 (List.length hrows), AV.slq 1 (List.length brows)], AV.int IntKind.u32 host, AV.int IntKind.u32 to_, AV.int IntKind.u16 port, AV.int IntKind.u16 toPort, AV.slq 2 (List.length mrows)]
          = concL ρ [AV.agg [.str start, hv, bv], .int .u32 host, .int .u32 to_, .int .u16 port, .int .u16 toPort, mv] := by
        show [Value.agg (concL ρ0 [AV.str start, .slq 0 hrows.length, .slq 1 brows.length]).toArray, conc ρ0 (.int .u32 host), conc ρ0 (.int .u32 to_), conc ρ0 (.int .u16 port), conc ρ0 (.int .u16 toPort), conc ρ0 (.slq 2 mrows.length)] = _
        simp only [concL]
        rw [e1, e2, e3]
        rfl
      rw [ea] at hcall
      exact entry_msg hs hcall
    · cases h
  · cases h
end Go.Proofs.YtpdgmgkkbbndfaaGreatDoor

set_option maxRecDepth 100000
namespace Go.Proofs.YtpdgmgkkbbndfaaGreatDoor
open Go Go.Proofs Go.Proofs.YtpdgmgkkbbndfaaGreatDoor.SX
end Go.Proofs.YtpdgmgkkbbndfaaGreatDoor

set_option maxRecDepth 100000
namespace Go.Proofs.YtpdgmgkkbbndfaaGreatDoor
open Go Go.Proofs Go.Proofs.YtpdgmgkkbbndfaaGreatDoor.SX
end Go.Proofs.YtpdgmgkkbbndfaaGreatDoor

set_option maxRecDepth 100000
namespace Go.Proofs.YtpdgmgkkbbndfaaGreatDoor
open Go Go.Proofs Go.Proofs.YtpdgmgkkbbndfaaGreatDoor.SX
end Go.Proofs.YtpdgmgkkbbndfaaGreatDoor

set_option maxRecDepth 100000
set_option maxHeartbeats 1600000
namespace Go.Proofs.YtpdgmgkkbbndfaaGreatDoor
open Go Go.Proofs Go.Proofs.YtpdgmgkkbbndfaaGreatDoor.SX
def spConn (l : List UInt8) (a : Int) : Bool := l == sgConn ++ spDotted a
end Go.Proofs.YtpdgmgkkbbndfaaGreatDoor

set_option maxRecDepth 100000
set_option maxHeartbeats 1600000
namespace Go.Proofs.YtpdgmgkkbbndfaaGreatDoor
open Go Go.Proofs Go.Proofs.YtpdgmgkkbbndfaaGreatDoor.SX
def Pp : Prims := addP P5 65 q65
theorem Pp_ok : PrimsOK Tryz.prog Pp := addP_ok P5_ok q65_ok
def B30z (l : List UInt8) (host : Int) (fb : AV) : SL := ⟨[(3, .ptr ⟨3, 0, 0⟩), (5, .ptr ⟨4, 0, 0⟩), (6, .ptr ⟨5, 0, 0⟩), (7, .str l)], [(3, .cells true [.int .u32] [[.int .u32 host]]), (4, .cells true [.any] [[.nilSl]]), (5, .cells true [.bool] [[fb]]), (7, .mark)], 8⟩
def B30o (l : List UInt8) (host : Int) (fb : AV) (rows : List (List AV)) : SL := ⟨[(3, .ptr ⟨3, 0, 0⟩), (5, .ptr ⟨4, 0, 0⟩), (6, .ptr ⟨5, 0, 0⟩), (7, .str l)], [(3, .cells true [.int .u32] [[.int .u32 host]]), (4, .cells true [.any] [[.sl ⟨8, 0, 0⟩ rows.length .open_]]), (5, .cells true [.bool] [[fb]]), (7, .mark), (8, .cells true [.int .u16] rows)], 9⟩
def I30 (host : Int) (brows : List (List AV)) : SL := ⟨[(13, .fn (.func 76) [] [.ptr ⟨6, 0, 0⟩]), (3, .ptr ⟨3, 0, 0⟩), (5, .ptr ⟨4, 0, 0⟩), (6, .ptr ⟨5, 0, 0⟩)], [(3, .cells true [.int .u32] [[.int .u32 host]]), (4, .cells true [.any] [[.nilSl]]), (5, .cells true [.bool] [[.lit false]]), (6, .cells true [.any] [[.slq 1 brows.length]]), (1, .cells false [.int .u8] brows)], 7⟩
def S30z (host : Int) (fb : AV) : SL := ⟨[], [(3, .cells true [.int .u32] [[.int .u32 host]]), (4, .cells true [.any] [[.nilSl]]), (5, .cells true [.bool] [[fb]]), (7, .mark)], 8⟩
def S30o (host : Int) (fb : AV) (rows : List (List AV)) : SL := ⟨[], [(3, .cells true [.int .u32] [[.int .u32 host]]), (4, .cells true [.any] [[.sl ⟨8, 0, 0⟩ rows.length .open_]]), (5, .cells true [.bool] [[fb]]), (7, .mark), (8, .cells true [.int .u16] rows)], 9⟩
def A30z (l e : List UInt8) (host : Int) (fb : AV) : SL := ⟨[(15, .str e), (14, .str l), (13, .fn (.func 76) [] [.ptr ⟨6, 0, 0⟩]), (3, .ptr ⟨3, 0, 0⟩), (5, .ptr ⟨4, 0, 0⟩), (6, .ptr ⟨5, 0, 0⟩)], (S30z host fb).hp, 8⟩
def A30o (l e : List UInt8) (host : Int) (fb : AV) (rows : List (List AV)) : SL := ⟨[(15, .str e), (14, .str l), (13, .fn (.func 76) [] [.ptr ⟨6, 0, 0⟩]), (3, .ptr ⟨3, 0, 0⟩), (5, .ptr ⟨4, 0, 0⟩), (6, .ptr ⟨5, 0, 0⟩)], (S30o host fb rows).hp, 9⟩
theorem r30az (l e : List UInt8) (host : Int) (fb : AV) : Path (runR Tryz.prog Pp 100 (rAs (rcode Tryz.prog 30 0)) (SL.mp 47 [] (A30z l e host fb))) 8 [] (B30z l host fb) (Ex.normal) True := by unfold Path; kernel_rfl
theorem r30ao (l e : List UInt8) (host : Int) (fb : AV) (rows : List (List AV)) : Path (runR Tryz.prog Pp 100 (rAs (rcode Tryz.prog 30 0)) (SL.mp 47 [] (A30o l e host fb rows))) 8 [8] (B30o l host fb rows) (Ex.normal) True := by unfold Path; kernel_rfl
theorem r30z_TTTE (l : List UInt8) (host : Int) (fb : AV) :
 Path (runR Tryz.prog Pp 100 (rBo (rcode Tryz.prog 30 0)) (SL.mp 47 ([.as_ true, .as_ true, .as_ true, PI.ev 1]) (B30z l host fb))) 8 [9] (S30o host (.lit true) [[AV.int IntKind.u16 (IntKind.wrap IntKind.u16 (spMedN l))]]) (Ex.normal)
 ((((((((((((True ∧ (true = true)) ∧ ((AV.toBool (List.getD [fb] 0 AV.undef)) = true)) ∧ (true = true)) ∧ (decide (List.length l ≤ 4294967200) = true)) ∧ ((decide (spMedN l > (0 : Int))) = true)) ∧ (true = true)) ∧ (true = true)) ∧ ((!spHasP [] (IntKind.wrap IntKind.u16 (spMedN l))) = true)) ∧ (true = true)) ∧ (true = true)) ∧ (true = true)) ∧ (true = true)) := by unfold Path; kernel_rfl
theorem r30z_TF (l : List UInt8) (host : Int) (fb : AV) :
 Path (runR Tryz.prog Pp 100 (rBo (rcode Tryz.prog 30 0)) (SL.mp 47 ([.as_ true, .as_ false]) (B30z l host fb))) 8 [] (S30z host (.lit true)) (Ex.normal)
 (((((True ∧ (true = true)) ∧ ((AV.toBool (List.getD [fb] 0 AV.undef)) = true)) ∧ (true = true)) ∧ (decide (List.length l ≤ 4294967200) = true)) ∧ ((decide (spMedN l > (0 : Int))) = false)) := by unfold Path; kernel_rfl
theorem r30o_TTT (l : List UInt8) (host : Int) (fb : AV) (rows : List (List AV)) :
 Path (runR Tryz.prog Pp 100 (rBo (rcode Tryz.prog 30 0)) (SL.mp 47 ([.as_ true, .as_ true, .as_ true]) (B30o l host fb rows))) 8 [10] ⟨[], [(3, .cells true [.int .u32] [[.int .u32 host]]), (4, .cells true [.any] [[.sl ⟨8, 0, 0⟩ (rows.length + 1) .open_]]), (5, .cells true [.bool] [[(.lit true)]]), (7, .mark), (8, .cells true [.int .u16] (rows ++ [[AV.int IntKind.u16 (IntKind.wrap IntKind.u16 (spMedN l))]]))], 9⟩ (Ex.normal)
 (((((((((((((True ∧ (true = true)) ∧ ((AV.toBool (List.getD [fb] 0 AV.undef)) = true)) ∧ (true = true)) ∧ (decide (List.length l ≤ 4294967200) = true)) ∧ ((decide (spMedN l > (0 : Int))) = true)) ∧ (true = true)) ∧ ((decide (0 + List.length rows ≤ List.length rows) && decide (List.length (sub rows 0 (List.length rows)) ≤ 4611686018427387904)) = true)) ∧ ((!spHasP (sub rows 0 (List.length rows)) (IntKind.wrap IntKind.u16 (spMedN l))) = true)) ∧ (true = true)) ∧ (true = true)) ∧ (decide (0 = 0 ∧ List.length rows = List.length rows) = true)) ∧ (decide ((List.length rows + 1) * 2 ≤ 140737488355328) = true)) ∧ (true = true)) := by unfold Path; kernel_rfl
theorem r30o_TTF (l : List UInt8) (host : Int) (fb : AV) (rows : List (List AV)) :
 Path (runR Tryz.prog Pp 100 (rBo (rcode Tryz.prog 30 0)) (SL.mp 47 ([.as_ true, .as_ true, .as_ false]) (B30o l host fb rows))) 8 [8] (S30o host (.lit true) rows) (Ex.normal)
 ((((((((True ∧ (true = true)) ∧ ((AV.toBool (List.getD [fb] 0 AV.undef)) = true)) ∧ (true = true)) ∧ (decide (List.length l ≤ 4294967200) = true)) ∧ ((decide (spMedN l > (0 : Int))) = true)) ∧ (true = true)) ∧ ((decide (0 + List.length rows ≤ List.length rows) && decide (List.length (sub rows 0 (List.length rows)) ≤ 4611686018427387904)) = true)) ∧ ((!spHasP (sub rows 0 (List.length rows)) (IntKind.wrap IntKind.u16 (spMedN l))) = false)) := by unfold Path; kernel_rfl
theorem r30o_TF (l : List UInt8) (host : Int) (fb : AV) (rows : List (List AV)) :
 Path (runR Tryz.prog Pp 100 (rBo (rcode Tryz.prog 30 0)) (SL.mp 47 ([.as_ true, .as_ false]) (B30o l host fb rows))) 8 [8] (S30o host (.lit true) rows) (Ex.normal)
 (((((True ∧ (true = true)) ∧ ((AV.toBool (List.getD [fb] 0 AV.undef)) = true)) ∧ (true = true)) ∧ (decide (List.length l ≤ 4294967200) = true)) ∧ ((decide (spMedN l > (0 : Int))) = false)) := by unfold Path; kernel_rfl
theorem r30z_FTTE (l : List UInt8) (host : Int) (fb : AV) :
 Path (runR Tryz.prog Pp 100 (rBo (rcode Tryz.prog 30 0)) (SL.mp 47 ([.as_ false, .as_ true, .as_ true, PI.ev 1]) (B30z l host fb))) 8 [9] (S30o host (.bool (l == (99 : UInt8) :: (61 : UInt8) :: (73 : UInt8) :: (78 : UInt8) :: (32 : UInt8) :: (73 : UInt8) :: (80 : UInt8) :: (52 : UInt8) :: (32 : UInt8) :: spDotted host)) [[AV.int IntKind.u16 (IntKind.wrap IntKind.u16 (spMedN l))]]) (Ex.normal)
 (((((((((((((((True ∧ (true = true)) ∧ ((AV.toBool (List.getD [fb] 0 AV.undef)) = false)) ∧ (true = true)) ∧ (true = true)) ∧ (decide (9 + List.length (spDotted host) ≤ 9223372036854775807) = true)) ∧ (true = true)) ∧ (decide (List.length l ≤ 4294967200) = true)) ∧ ((decide (spMedN l > (0 : Int))) = true)) ∧ (true = true)) ∧ (true = true)) ∧ ((!spHasP [] (IntKind.wrap IntKind.u16 (spMedN l))) = true)) ∧ (true = true)) ∧ (true = true)) ∧ (true = true)) ∧ (true = true)) := by unfold Path; kernel_rfl
theorem r30z_FF (l : List UInt8) (host : Int) (fb : AV) :
 Path (runR Tryz.prog Pp 100 (rBo (rcode Tryz.prog 30 0)) (SL.mp 47 ([.as_ false, .as_ false]) (B30z l host fb))) 8 [] (S30z host (.bool (l == (99 : UInt8) :: (61 : UInt8) :: (73 : UInt8) :: (78 : UInt8) :: (32 : UInt8) :: (73 : UInt8) :: (80 : UInt8) :: (52 : UInt8) :: (32 : UInt8) :: spDotted host))) (Ex.normal)
 ((((((((True ∧ (true = true)) ∧ ((AV.toBool (List.getD [fb] 0 AV.undef)) = false)) ∧ (true = true)) ∧ (true = true)) ∧ (decide (9 + List.length (spDotted host) ≤ 9223372036854775807) = true)) ∧ (true = true)) ∧ (decide (List.length l ≤ 4294967200) = true)) ∧ ((decide (spMedN l > (0 : Int))) = false)) := by unfold Path; kernel_rfl
theorem r30o_FTT (l : List UInt8) (host : Int) (fb : AV) (rows : List (List AV)) :
 Path (runR Tryz.prog Pp 100 (rBo (rcode Tryz.prog 30 0)) (SL.mp 47 ([.as_ false, .as_ true, .as_ true]) (B30o l host fb rows))) 8 [10] ⟨[], [(3, .cells true [.int .u32] [[.int .u32 host]]), (4, .cells true [.any] [[.sl ⟨8, 0, 0⟩ (rows.length + 1) .open_]]), (5, .cells true [.bool] [[(.bool (l == (99 : UInt8) :: (61 : UInt8) :: (73 : UInt8) :: (78 : UInt8) :: (32 : UInt8) :: (73 : UInt8) :: (80 : UInt8) :: (52 : UInt8) :: (32 : UInt8) :: spDotted host))]]), (7, .mark), (8, .cells true [.int .u16] (rows ++ [[AV.int IntKind.u16 (IntKind.wrap IntKind.u16 (spMedN l))]]))], 9⟩ (Ex.normal)
 ((((((((((((((((True ∧ (true = true)) ∧ ((AV.toBool (List.getD [fb] 0 AV.undef)) = false)) ∧ (true = true)) ∧ (true = true)) ∧ (decide (9 + List.length (spDotted host) ≤ 9223372036854775807) = true)) ∧ (true = true)) ∧ (decide (List.length l ≤ 4294967200) = true)) ∧ ((decide (spMedN l > (0 : Int))) = true)) ∧ (true = true)) ∧ ((decide (0 + List.length rows ≤ List.length rows) && decide (List.length (sub rows 0 (List.length rows)) ≤ 4611686018427387904)) = true)) ∧ ((!spHasP (sub rows 0 (List.length rows)) (IntKind.wrap IntKind.u16 (spMedN l))) = true)) ∧ (true = true)) ∧ (true = true)) ∧ (decide (0 = 0 ∧ List.length rows = List.length rows) = true)) ∧ (decide ((List.length rows + 1) * 2 ≤ 140737488355328) = true)) ∧ (true = true)) := by unfold Path; kernel_rfl
theorem r30o_FTF (l : List UInt8) (host : Int) (fb : AV) (rows : List (List AV)) :
 Path (runR Tryz.prog Pp 100 (rBo (rcode Tryz.prog 30 0)) (SL.mp 47 ([.as_ false, .as_ true, .as_ false]) (B30o l host fb rows))) 8 [8] (S30o host (.bool (l == (99 : UInt8) :: (61 : UInt8) :: (73 : UInt8) :: (78 : UInt8) :: (32 : UInt8) :: (73 : UInt8) :: (80 : UInt8) :: (52 : UInt8) :: (32 : UInt8) :: spDotted host)) rows) (Ex.normal)
 (((((((((((True ∧ (true = true)) ∧ ((AV.toBool (List.getD [fb] 0 AV.undef)) = false)) ∧ (true = true)) ∧ (true = true)) ∧ (decide (9 + List.length (spDotted host) ≤ 9223372036854775807) = true)) ∧ (true = true)) ∧ (decide (List.length l ≤ 4294967200) = true)) ∧ ((decide (spMedN l > (0 : Int))) = true)) ∧ (true = true)) ∧ ((decide (0 + List.length rows ≤ List.length rows) && decide (List.length (sub rows 0 (List.length rows)) ≤ 4611686018427387904)) = true)) ∧ ((!spHasP (sub rows 0 (List.length rows)) (IntKind.wrap IntKind.u16 (spMedN l))) = false)) := by unfold Path; kernel_rfl
theorem r30o_FF (l : List UInt8) (host : Int) (fb : AV) (rows : List (List AV)) :
 Path (runR Tryz.prog Pp 100 (rBo (rcode Tryz.prog 30 0)) (SL.mp 47 ([.as_ false, .as_ false]) (B30o l host fb rows))) 8 [8] (S30o host (.bool (l == (99 : UInt8) :: (61 : UInt8) :: (73 : UInt8) :: (78 : UInt8) :: (32 : UInt8) :: (73 : UInt8) :: (80 : UInt8) :: (52 : UInt8) :: (32 : UInt8) :: spDotted host)) rows) (Ex.normal)
 ((((((((True ∧ (true = true)) ∧ ((AV.toBool (List.getD [fb] 0 AV.undef)) = false)) ∧ (true = true)) ∧ (true = true)) ∧ (decide (9 + List.length (spDotted host) ≤ 9223372036854775807) = true)) ∧ (true = true)) ∧ (decide (List.length l ≤ 4294967200) = true)) ∧ ((decide (spMedN l > (0 : Int))) = false)) := by unfold Path; kernel_rfl
theorem c30z_LT (start : List UInt8) (hrows : List (List AV)) (brows : List (List AV)) (host : Int) (fb : AV) :
 Path (runCallB Tryz.prog Pp 100 30 [AV.agg [AV.str start, AV.slq 0 (List.length hrows), AV.slq 1 (List.length brows)], AV.int IntKind.u32 host] (st0 [Blk.cells false [Kd.str, Kd.str] hrows, Blk.cells false [Kd.int IntKind.u8] brows] ([PI.loop (I30 host brows) Ex.normal (S30z host fb), .as_ true]))) 2 [] (SL.mk [] [] 2) (Out.ret AV.nilSl)
 (((((True ∧ (true = true)) ∧ (true = true)) ∧ (RangeOK Tryz.prog (rcode Tryz.prog 30 0) (47) (SL.mk [(13, AV.fn (Fn.func 76) [] [AV.ptr (Loc.mk 6 0 0)]), (3, AV.ptr (Loc.mk 3 0 0)), (5, AV.ptr (Loc.mk 4 0 0)), (6, AV.ptr (Loc.mk 5 0 0))] [(3, Blk.cells true [Kd.int IntKind.u32] [[AV.int IntKind.u32 host]]), (4, Blk.cells true [Kd.any] [[AV.nilSl]]), (5, Blk.cells true [Kd.bool] [[AV.lit false]]), (6, Blk.cells true [Kd.any] [[AV.slq 1 (List.length brows)]]), (1, Blk.cells false [Kd.int IntKind.u8] brows)] 7) (SL.mk [] [(3, Blk.cells true [Kd.int IntKind.u32] [[AV.int IntKind.u32 host]]), (4, Blk.cells true [Kd.any] [[AV.nilSl]]), (5, Blk.cells true [Kd.bool] [[fb]]), (7, Blk.mark)] 8))) ∧ (true = true)) ∧ ((!AV.toBool (List.getD [fb] (0) AV.undef)) = true)) := by unfold Path; kernel_rfl
theorem c30z_LF (start : List UInt8) (hrows : List (List AV)) (brows : List (List AV)) (host : Int) (fb : AV) :
 Path (runCallB Tryz.prog Pp 100 30 [AV.agg [AV.str start, AV.slq 0 (List.length hrows), AV.slq 1 (List.length brows)], AV.int IntKind.u32 host] (st0 [Blk.cells false [Kd.str, Kd.str] hrows, Blk.cells false [Kd.int IntKind.u8] brows] ([PI.loop (I30 host brows) Ex.normal (S30z host fb), .as_ false]))) 2 [] (SL.mk [] [] 2) (Out.ret AV.nilSl)
 ((((((True ∧ (true = true)) ∧ (true = true)) ∧ (RangeOK Tryz.prog (rcode Tryz.prog 30 0) (47) (SL.mk [(13, AV.fn (Fn.func 76) [] [AV.ptr (Loc.mk 6 0 0)]), (3, AV.ptr (Loc.mk 3 0 0)), (5, AV.ptr (Loc.mk 4 0 0)), (6, AV.ptr (Loc.mk 5 0 0))] [(3, Blk.cells true [Kd.int IntKind.u32] [[AV.int IntKind.u32 host]]), (4, Blk.cells true [Kd.any] [[AV.nilSl]]), (5, Blk.cells true [Kd.bool] [[AV.lit false]]), (6, Blk.cells true [Kd.any] [[AV.slq 1 (List.length brows)]]), (1, Blk.cells false [Kd.int IntKind.u8] brows)] 7) (SL.mk [] [(3, Blk.cells true [Kd.int IntKind.u32] [[AV.int IntKind.u32 host]]), (4, Blk.cells true [Kd.any] [[AV.nilSl]]), (5, Blk.cells true [Kd.bool] [[fb]]), (7, Blk.mark)] 8))) ∧ (true = true)) ∧ ((!AV.toBool (List.getD [fb] (0) AV.undef)) = false)) ∧ (true = true)) := by unfold Path; kernel_rfl
theorem c30o_LT (start : List UInt8) (hrows : List (List AV)) (brows : List (List AV)) (host : Int) (fb : AV) (rows : List (List AV)) :
 Path (runCallB Tryz.prog Pp 100 30 [AV.agg [AV.str start, AV.slq 0 (List.length hrows), AV.slq 1 (List.length brows)], AV.int IntKind.u32 host] (st0 [Blk.cells false [Kd.str, Kd.str] hrows, Blk.cells false [Kd.int IntKind.u8] brows] ([PI.loop (I30 host brows) Ex.normal (S30o host fb rows), .as_ true]))) 2 [] (SL.mk [] [] 2) (Out.ret AV.nilSl)
 (((((True ∧ (true = true)) ∧ (true = true)) ∧ (RangeOK Tryz.prog (rcode Tryz.prog 30 0) (47) (SL.mk [(13, AV.fn (Fn.func 76) [] [AV.ptr (Loc.mk 6 0 0)]), (3, AV.ptr (Loc.mk 3 0 0)), (5, AV.ptr (Loc.mk 4 0 0)), (6, AV.ptr (Loc.mk 5 0 0))] [(3, Blk.cells true [Kd.int IntKind.u32] [[AV.int IntKind.u32 host]]), (4, Blk.cells true [Kd.any] [[AV.nilSl]]), (5, Blk.cells true [Kd.bool] [[AV.lit false]]), (6, Blk.cells true [Kd.any] [[AV.slq 1 (List.length brows)]]), (1, Blk.cells false [Kd.int IntKind.u8] brows)] 7) (SL.mk [] [(3, Blk.cells true [Kd.int IntKind.u32] [[AV.int IntKind.u32 host]]), (4, Blk.cells true [Kd.any] [[AV.sl (Loc.mk 8 0 0) (List.length rows) Cap.open_]]), (5, Blk.cells true [Kd.bool] [[fb]]), (7, Blk.mark), (8, Blk.cells true [Kd.int IntKind.u16] rows)] 9))) ∧ (true = true)) ∧ ((!AV.toBool (List.getD [fb] (0) AV.undef)) = true)) := by unfold Path; kernel_rfl
theorem c30o_LF (start : List UInt8) (hrows : List (List AV)) (brows : List (List AV)) (host : Int) (fb : AV) (rows : List (List AV)) :
 Path (runCallB Tryz.prog Pp 100 30 [AV.agg [AV.str start, AV.slq 0 (List.length hrows), AV.slq 1 (List.length brows)], AV.int IntKind.u32 host] (st0 [Blk.cells false [Kd.str, Kd.str] hrows, Blk.cells false [Kd.int IntKind.u8] brows] ([PI.loop (I30 host brows) Ex.normal (S30o host fb rows), .as_ false]))) 2 [8] (SL.mk [] [(2, .cells true [Kd.int IntKind.u16] rows)] 3) (Out.ret (ren (sig 2 [8]) (AV.sl (Loc.mk 2 0 0) (List.length rows) Cap.open_)))
 ((((((True ∧ (true = true)) ∧ (true = true)) ∧ (RangeOK Tryz.prog (rcode Tryz.prog 30 0) (47) (SL.mk [(13, AV.fn (Fn.func 76) [] [AV.ptr (Loc.mk 6 0 0)]), (3, AV.ptr (Loc.mk 3 0 0)), (5, AV.ptr (Loc.mk 4 0 0)), (6, AV.ptr (Loc.mk 5 0 0))] [(3, Blk.cells true [Kd.int IntKind.u32] [[AV.int IntKind.u32 host]]), (4, Blk.cells true [Kd.any] [[AV.nilSl]]), (5, Blk.cells true [Kd.bool] [[AV.lit false]]), (6, Blk.cells true [Kd.any] [[AV.slq 1 (List.length brows)]]), (1, Blk.cells false [Kd.int IntKind.u8] brows)] 7) (SL.mk [] [(3, Blk.cells true [Kd.int IntKind.u32] [[AV.int IntKind.u32 host]]), (4, Blk.cells true [Kd.any] [[AV.sl (Loc.mk 8 0 0) (List.length rows) Cap.open_]]), (5, Blk.cells true [Kd.bool] [[fb]]), (7, Blk.mark), (8, Blk.cells true [Kd.int IntKind.u16] rows)] 9))) ∧ (true = true)) ∧ ((!AV.toBool (List.getD [fb] (0) AV.undef)) = false)) ∧ (true = true)) := by unfold Path; kernel_rfl
def portN (l : List UInt8) : Int := IntKind.wrap IntKind.u16 (spMedN l)
def addPort (rows : List (List AV)) (l : List UInt8) : List (List AV) := bif decide (spMedN l > 0) && !spHasP rows (portN l) then rows ++ [[AV.int .u16 (portN l)]] else rows
def fbStep (host : Int) (fb : AV) (l : List UInt8) : AV := bif fb.toBool then .lit true else .bool (spConn l host)
def spPortRows (ls : List (List UInt8)) : List (List AV) := ls.foldl addPort []
def fbOf (host : Int) (ls : List (List UInt8)) : AV := ls.foldl (fbStep host) (.lit false)
theorem fb_step (host : Int) (fb : AV) (l : List UInt8) : (fbStep host fb l).toBool = (fb.toBool || spConn l host) := by
  unfold fbStep
  cases h : fb.toBool <;> rfl
theorem fb_any (host : Int) (ls : List (List UInt8)) : (fbOf host ls).toBool = ls.any (fun l => spConn l host) := by
  have key : ∀ (ls : List (List UInt8)) (fb : AV), (ls.foldl (fbStep host) fb).toBool = (fb.toBool || ls.any (fun l => spConn l host)) := by
    intro ls
    induction ls with
    | nil => intro fb; simp
    | cons l t ih => intro fb; rw [List.foldl_cons, ih, fb_step, List.any_cons, Bool.or_assoc]
  exact (key ls (.lit false)).trans (by rfl)
theorem addPort_len (rows : List (List AV)) (l : List UInt8) : (addPort rows l).length ≤ rows.length + 1 := by
  unfold addPort
  cases decide (spMedN l > 0) && !spHasP rows (portN l) <;> simp
theorem ports_len : ∀ (ls : List (List UInt8)) (rows : List (List AV)), (ls.foldl addPort rows).length ≤ rows.length + ls.length
  | [], rows => by simp
  | l :: t, rows => by
    rw [List.foldl_cons]
    have := ports_len t (addPort rows l)
    have := addPort_len rows l
    simp only [List.length_cons]; omega
def S30 (host : Int) (fb : AV) : List (List AV) → SL
  | [] => S30z host fb
  | r :: rs => S30o host fb (r :: rs)
def B30 (l : List UInt8) (host : Int) (fb : AV) : List (List AV) → SL
  | [] => B30z l host fb
  | r :: rs => B30o l host fb (r :: rs)
theorem round30 {l : List UInt8} {host : Int} {fb : AV} {rows : List (List AV)} (hl : l.length ≤ 4294967200) (hr : rows.length ≤ 4294967296) :
    BodyR Tryz.prog (rBo (rcode Tryz.prog 30 0)) 47 8 (B30 l host fb rows) .normal (S30 host (fbStep host fb l) (addPort rows l)) := by
  have cl : decide (List.length l ≤ 4294967200) = true := decide_eq_true hl
  have c9 : decide (9 + List.length (spDotted host) ≤ 9223372036854775807) = true := decide_eq_true (by have := len_dotted host; omega)
  have hp : portN l = IntKind.wrap IntKind.u16 (spMedN l) := rfl
  unfold addPort
  cases q1 : fb.toBool with
  | false =>
    have e1 : fbStep host fb l = (.bool (l == (99 : UInt8) :: (61 : UInt8) :: (73 : UInt8) :: (78 : UInt8) :: (32 : UInt8) :: (73 : UInt8) :: (80 : UInt8) :: (52 : UInt8) :: (32 : UInt8) :: spDotted host)) := by unfold fbStep; rw [q1]; rfl
    rw [e1]
    cases q2 : decide (spMedN l > 0) with
    | false =>
      rw [Bool.false_and, cond_false]
      cases rows with
      | nil => exact body_ofR Pp_ok (r30z_FF l host fb) ⟨⟨⟨⟨⟨⟨⟨⟨trivial, rfl⟩, q1⟩, rfl⟩, rfl⟩, c9⟩, rfl⟩, cl⟩, q2⟩ rfl
      | cons r rs => exact body_ofR Pp_ok (r30o_FF l host fb (r :: rs)) ⟨⟨⟨⟨⟨⟨⟨⟨trivial, rfl⟩, q1⟩, rfl⟩, rfl⟩, c9⟩, rfl⟩, cl⟩, q2⟩ rfl
    | true =>
      rw [Bool.true_and]
      cases rows with
      | nil =>
        have q3 : (!spHasP [] (IntKind.wrap IntKind.u16 (spMedN l))) = true := rfl
        exact body_ofR Pp_ok (r30z_FTTE l host fb) ⟨⟨⟨⟨⟨⟨⟨⟨⟨⟨⟨⟨⟨⟨⟨trivial, rfl⟩, q1⟩, rfl⟩, rfl⟩, c9⟩, rfl⟩, cl⟩, q2⟩, rfl⟩, rfl⟩, q3⟩, rfl⟩, rfl⟩, rfl⟩, rfl⟩ rfl
      | cons r rs =>
        have hsub : sub (r :: rs) 0 (List.length (r :: rs)) = r :: rs := sub_all _ rfl
        have cr : (decide (0 + List.length (r :: rs) ≤ List.length (r :: rs)) && decide (List.length (sub (r :: rs) 0 (List.length (r :: rs))) ≤ 4611686018427387904)) = true := by
          rw [hsub]; simp only [Bool.and_eq_true, decide_eq_true_eq]; omega
        cases hq : spHasP (r :: rs) (portN l) with
        | true =>
          have q3 : (!spHasP (sub (r :: rs) 0 (List.length (r :: rs))) (IntKind.wrap IntKind.u16 (spMedN l))) = false := by rw [hsub, ← hp, hq]; rfl
          exact body_ofR Pp_ok (r30o_FTF l host fb (r :: rs)) ⟨⟨⟨⟨⟨⟨⟨⟨⟨⟨⟨trivial, rfl⟩, q1⟩, rfl⟩, rfl⟩, c9⟩, rfl⟩, cl⟩, q2⟩, rfl⟩, cr⟩, q3⟩ rfl
        | false =>
          have q3 : (!spHasP (sub (r :: rs) 0 (List.length (r :: rs))) (IntKind.wrap IntKind.u16 (spMedN l))) = true := by rw [hsub, ← hp, hq]; rfl
          have ca : decide ((List.length (r :: rs) + 1) * 2 ≤ 140737488355328) = true := decide_eq_true (by omega)
          have hx := body_ofR Pp_ok (r30o_FTT l host fb (r :: rs)) ⟨⟨⟨⟨⟨⟨⟨⟨⟨⟨⟨⟨⟨⟨⟨⟨trivial, rfl⟩, q1⟩, rfl⟩, rfl⟩, c9⟩, rfl⟩, cl⟩, q2⟩, rfl⟩, cr⟩, q3⟩, rfl⟩, rfl⟩, (decide_eq_true ⟨rfl, rfl⟩)⟩, ca⟩, rfl⟩ rfl
          have e4 : (r :: rs).length + 1 = ((r :: rs) ++ [[AV.int IntKind.u16 (IntKind.wrap IntKind.u16 (spMedN l))]]).length := by rw [List.length_append]; rfl
          rw [e4] at hx
          exact hx
  | true =>
    have e1 : fbStep host fb l = (.lit true) := by unfold fbStep; rw [q1]; rfl
    rw [e1]
    cases q2 : decide (spMedN l > 0) with
    | false =>
      rw [Bool.false_and, cond_false]
      cases rows with
      | nil => exact body_ofR Pp_ok (r30z_TF l host fb) ⟨⟨⟨⟨⟨trivial, rfl⟩, q1⟩, rfl⟩, cl⟩, q2⟩ rfl
      | cons r rs => exact body_ofR Pp_ok (r30o_TF l host fb (r :: rs)) ⟨⟨⟨⟨⟨trivial, rfl⟩, q1⟩, rfl⟩, cl⟩, q2⟩ rfl
    | true =>
      rw [Bool.true_and]
      cases rows with
      | nil =>
        have q3 : (!spHasP [] (IntKind.wrap IntKind.u16 (spMedN l))) = true := rfl
        exact body_ofR Pp_ok (r30z_TTTE l host fb) ⟨⟨⟨⟨⟨⟨⟨⟨⟨⟨⟨⟨trivial, rfl⟩, q1⟩, rfl⟩, cl⟩, q2⟩, rfl⟩, rfl⟩, q3⟩, rfl⟩, rfl⟩, rfl⟩, rfl⟩ rfl
      | cons r rs =>
        have hsub : sub (r :: rs) 0 (List.length (r :: rs)) = r :: rs := sub_all _ rfl
        have cr : (decide (0 + List.length (r :: rs) ≤ List.length (r :: rs)) && decide (List.length (sub (r :: rs) 0 (List.length (r :: rs))) ≤ 4611686018427387904)) = true := by
          rw [hsub]; simp only [Bool.and_eq_true, decide_eq_true_eq]; omega
        cases hq : spHasP (r :: rs) (portN l) with
        | true =>
          have q3 : (!spHasP (sub (r :: rs) 0 (List.length (r :: rs))) (IntKind.wrap IntKind.u16 (spMedN l))) = false := by rw [hsub, ← hp, hq]; rfl
          exact body_ofR Pp_ok (r30o_TTF l host fb (r :: rs)) ⟨⟨⟨⟨⟨⟨⟨⟨trivial, rfl⟩, q1⟩, rfl⟩, cl⟩, q2⟩, rfl⟩, cr⟩, q3⟩ rfl
        | false =>
          have q3 : (!spHasP (sub (r :: rs) 0 (List.length (r :: rs))) (IntKind.wrap IntKind.u16 (spMedN l))) = true := by rw [hsub, ← hp, hq]; rfl
          have ca : decide ((List.length (r :: rs) + 1) * 2 ≤ 140737488355328) = true := decide_eq_true (by omega)
          have hx := body_ofR Pp_ok (r30o_TTT l host fb (r :: rs)) ⟨⟨⟨⟨⟨⟨⟨⟨⟨⟨⟨⟨⟨trivial, rfl⟩, q1⟩, rfl⟩, cl⟩, q2⟩, rfl⟩, cr⟩, q3⟩, rfl⟩, rfl⟩, (decide_eq_true ⟨rfl, rfl⟩)⟩, ca⟩, rfl⟩ rfl
          have e4 : (r :: rs).length + 1 = ((r :: rs) ++ [[AV.int IntKind.u16 (IntKind.wrap IntKind.u16 (spMedN l))]]).length := by rw [List.length_append]; rfl
          rw [e4] at hx
          exact hx
theorem rcode30 : rcode Tryz.prog 30 0 = .rangeFunc (.tmp 13) #[14, 15] (rAs (rcode Tryz.prog 30 0)) (rBo (rcode Tryz.prog 30 0)) := by kernel_rfl
theorem hent76p : ∀ (args : Array Value) (w : World), (callFunc 76 args).run Tryz.prog w = .ok (.enter 76 args) w := by
  intro args w
  have hfn : Tryz.prog.funcs[76]? = some Tryz.f76 := by kernel_rfl
  have h1 : ¬ (Tryz.f76.name = "runtime.NumGoroutine") := by decide
  have h2 : ¬ (Tryz.f76.body = none) := by
    intro h
    have : Tryz.f76.body.isSome = true := by kernel_rfl
    rw [h] at this; cases this
  simp [callFunc, go_sem, hfn]
  rw [if_neg h1, if_neg h2]
def lnOf (brows : List (List AV)) (k : Nat) : List UInt8 := ((spLines (brows.map rowByte)).getD k ([], [])).1
def lnsOf (brows : List (List AV)) : List (List UInt8) := (spLines (brows.map rowByte)).map Prod.fst
theorem take_ln {brows : List (List AV)} {k : Nat} (h : k < (spLines (brows.map rowByte)).length) : (lnsOf brows).take (k + 1) = (lnsOf brows).take k ++ [lnOf brows k] := by
  unfold lnsOf lnOf
  have h' : k < ((spLines (brows.map rowByte)).map Prod.fst).length := by rw [List.length_map]; exact h
  rw [take_snoc h', List.getElem_map]
  simp [List.getD_eq_getElem?_getD, h]
theorem range30 {host : Int} {brows : List (List AV)} (hb : brows.length ≤ 1048576) :
    RangeOK Tryz.prog (rcode Tryz.prog 30 0) 47 (I30 host brows) (S30 host (fbOf host (lnsOf brows)) (spPortRows (lnsOf brows))) := by
  obtain ⟨hl1, hl2⟩ := len_lines ((brows.map rowByte).length + 1) (brows.map rowByte)
  have hl1 : (spLines (brows.map rowByte)).length ≤ brows.length + 1 := by
    have e : (brows.map rowByte).length + 1 = brows.length + 1 := by rw [List.length_map]
    rw [← e]; exact hl1
  have hln : (lnsOf brows).length = (spLines (brows.map rowByte)).length := by unfold lnsOf; rw [List.length_map]
  rw [rcode30]
  have hx := range_rule (P := Tryz.prog) (t := 13) (p0 := 14) (p1 := 15) (assign := rAs (rcode Tryz.prog 30 0)) (body := rBo (rcode Tryz.prog 30 0)) (nt := 47) (I := I30 host brows) (f := 76) (caps := [.ptr ⟨6, 0, 0⟩])
    (S := fun k => S30 host (fbOf host ((lnsOf brows).take k)) (spPortRows ((lnsOf brows).take k)))
    (B := fun k => B30 (lnOf brows k) host (fbOf host ((lnsOf brows).take k)) (spPortRows ((lnsOf brows).take k)))
    (N := (spLines (brows.map rowByte)).length) (arg := fun k => (.str ((spLines (brows.map rowByte)).getD k ([], [])).1, .str ((spLines (brows.map rowByte)).getD k ([], [])).2))
    hent76p rfl (by decide) (by decide) (by decide) (fun k hk => ⟨rfl, rfl⟩) (pick := []) ⟨by kernel_rfl, map_fst_snd (by kernel_rfl)⟩ ?_ ?_ ?_
  · rw [← hln, List.take_length] at hx; exact hx
  · intro k hk
    show BodyR Tryz.prog (rAs (rcode Tryz.prog 30 0)) 47 8 ⟨(15, _) :: (14, _) :: (I30 host brows).tm, (S30 host (fbOf host ((lnsOf brows).take k)) (spPortRows ((lnsOf brows).take k))).hp, (S30 host (fbOf host ((lnsOf brows).take k)) (spPortRows ((lnsOf brows).take k))).nx⟩ .normal (B30 (lnOf brows k) host (fbOf host ((lnsOf brows).take k)) (spPortRows ((lnsOf brows).take k)))
    generalize spPortRows ((lnsOf brows).take k) = rows
    cases rows with
    | nil => exact body_ofR Pp_ok (r30az (lnOf brows k) ((spLines (brows.map rowByte)).getD k ([], [])).2 host (fbOf host ((lnsOf brows).take k))) trivial rfl
    | cons r rs => exact body_ofR Pp_ok (r30ao (lnOf brows k) ((spLines (brows.map rowByte)).getD k ([], [])).2 host (fbOf host ((lnsOf brows).take k)) (r :: rs)) trivial rfl
  · intro k hk
    have e1 : fbOf host ((lnsOf brows).take (k + 1)) = fbStep host (fbOf host ((lnsOf brows).take k)) (lnOf brows k) := by
      unfold fbOf; rw [take_ln hk, List.foldl_append]; rfl
    have e2 : spPortRows ((lnsOf brows).take (k + 1)) = addPort (spPortRows ((lnsOf brows).take k)) (lnOf brows k) := by
      unfold spPortRows; rw [take_ln hk, List.foldl_append]; rfl
    show BodyR Tryz.prog (rBo (rcode Tryz.prog 30 0)) 47 8 (B30 (lnOf brows k) host (fbOf host ((lnsOf brows).take k)) (spPortRows ((lnsOf brows).take k))) .normal (S30 host (fbOf host ((lnsOf brows).take (k + 1))) (spPortRows ((lnsOf brows).take (k + 1))))
    rw [e1, e2]
    have hg : (spLines (brows.map rowByte)).getD k ([], []) ∈ spLines (brows.map rowByte) := by
      rw [List.getD_eq_getElem?_getD, List.getElem?_eq_getElem hk]; exact List.getElem_mem hk
    have h1 : (lnOf brows k).length ≤ (brows.map rowByte).length := (hl2 _ hg).1
    have h2 := ports_len ((lnsOf brows).take k) []
    rw [List.length_map] at h1
    rw [List.length_take] at h2
    simp only [List.length_nil] at h2
    refine round30 (by omega) ?_
    show (((lnsOf brows).take k).foldl addPort []).length ≤ _
    omega
  · intro ρ w hs
    exact iter76 hs (b := 6) (c := 1) rfl rfl rfl (by omega)
def spPorts (host : Int) (s : List UInt8) : List (List AV) := bif ((spLines s).map Prod.fst).any (fun l => spConn l host) then spPortRows ((spLines s).map Prod.fst) else []
theorem ports_calls {start : List UInt8} {hrows brows : List (List AV)} {host : Int} {ρ : Nat → BI} {w : World} (hb : brows.length ≤ 1048576)
    (hE : HSim ρ (addBlks .e 0 [Blk.cells false [Kd.str, Kd.str] hrows, Blk.cells false [Kd.int IntKind.u8] brows]) ([Blk.cells false [Kd.str, Kd.str] hrows, Blk.cells false [Kd.int IntKind.u8] brows] : List Blk).length w) :
    Calls Tryz.prog 30 (concL ρ [.agg [.str start, .slq 0 hrows.length, .slq 1 brows.length], .int .u32 host]).toArray w (fun e w' => (∃ v, e = .returned v ∧ NewSl w.heap.size w' [.int .u16] (spPorts host (brows.map rowByte)) v) ∧ Ext w w') := by
  have hR := range30 (host := host) hb
  have hF := fb_any host (lnsOf brows)
  have hro : ∀ c k, (addBlks .e 0 [Blk.cells false [Kd.str, Kd.str] hrows, Blk.cells false [Kd.int IntKind.u8] brows]).get c = some k → k.isRw = false := by
    intro c k hk
    rw [addBlks_get] at hk
    split at hk
    · rename_i h
      match hc : c, hk with
      | 0, hk => simp at hk; subst hk; rfl
      | 1, hk => simp at hk; subst hk; rfl
      | c + 2, hk => simp at hk
    · cases c <;> cases hk
  generalize hfb : fbOf host (lnsOf brows) = fb at hR hF
  have none : ∀ (v : AV), v = .nilSl → spPorts host (brows.map rowByte) = [] → Calls Tryz.prog 30 (concL ρ [.agg [.str start, .slq 0 hrows.length, .slq 1 brows.length], .int .u32 host]).toArray w (fun e w' => e = .returned (conc ρ v) ∧ Ext w w') →
      Calls Tryz.prog 30 (concL ρ [.agg [.str start, .slq 0 hrows.length, .slq 1 brows.length], .int .u32 host]).toArray w (fun e w' => (∃ v, e = .returned v ∧ NewSl w.heap.size w' [.int .u16] (spPorts host (brows.map rowByte)) v) ∧ Ext w w') := by
    intro v hv hs hc
    subst hv
    refine hc.mono fun e w' hq => ?_
    obtain ⟨rfl, he⟩ := hq
    rw [hs]
    exact ⟨⟨_, rfl, NewSl.none (ρ' := ρ) (hE.gw.ext he) rfl⟩, he⟩
  have hSp : spPorts host (brows.map rowByte) = bif fb.toBool then spPortRows (lnsOf brows) else [] := by
    unfold spPorts
    rw [hF]; rfl
  cases hbv : fb.toBool with
  | false =>
    rw [hbv, cond_false] at hSp
    have qb : (!AV.toBool (List.getD [fb] (0) AV.undef)) = true := by show (!fb.toBool) = true; rw [hbv]; rfl
    generalize spPortRows (lnsOf brows) = rows at hR
    cases rows with
    | nil => exact none _ rfl hSp (calls_pureB Pp_ok (c30z_LT start hrows brows host fb) ⟨⟨⟨⟨⟨trivial, rfl⟩, rfl⟩, hR⟩, rfl⟩, qb⟩ hE rfl rfl rfl)
    | cons r rs => exact none _ rfl hSp (calls_pureB Pp_ok (c30o_LT start hrows brows host fb (r :: rs)) ⟨⟨⟨⟨⟨trivial, rfl⟩, rfl⟩, hR⟩, rfl⟩, qb⟩ hE rfl rfl rfl)
  | true =>
    rw [hbv, cond_true] at hSp
    have qb : (!AV.toBool (List.getD [fb] (0) AV.undef)) = false := by show (!fb.toBool) = false; rw [hbv]; rfl
    generalize hrw : spPortRows (lnsOf brows) = rows at hR hSp
    cases rows with
    | nil => exact none _ rfl hSp (calls_pureB Pp_ok (c30z_LF start hrows brows host fb) ⟨⟨⟨⟨⟨⟨trivial, rfl⟩, rfl⟩, hR⟩, rfl⟩, qb⟩, rfl⟩ hE rfl rfl rfl)
    | cons r rs =>
      refine (calls_ofB Pp_ok (c30o_LF start hrows brows host fb (r :: rs)) ⟨⟨⟨⟨⟨⟨trivial, rfl⟩, rfl⟩, hR⟩, rfl⟩, qb⟩, rfl⟩ hE rfl).mono fun e w' hq => ?_
      obtain ⟨ρ', rfl, st⟩ := hq
      have st2 : HStep ρ (addBlks .e 0 [Blk.cells false [Kd.str, Kd.str] hrows, Blk.cells false [Kd.int IntKind.u8] brows]) ([Blk.cells false [Kd.str, Kd.str] hrows, Blk.cells false [Kd.int IntKind.u8] brows] : List Blk).length w ρ' (Tr.ofList [(2, Blk.cells true [Kd.int IntKind.u16] (r :: rs))]) 3 w' := st
      rw [hSp]
      exact ⟨⟨conc ρ' (.sl ⟨2, 0, 0⟩ (r :: rs).length .open_), rfl, NewSl.of_rw st2 (by rw [ofList_cons, if_pos rfl]) hro rfl rfl⟩, st2.below hro⟩
def q30 : Entry := fun args hp nx => match args with
  | [.agg [.str start, hv, bv], .int .u32 host] => match slIn hp [.str, .str] hv, slIn hp [.int .u8] bv with
    | some (c1, hrows), some (c2, brows) => some (c1 && (c2 && decide (brows.length ≤ 1048576)), .slq nx (spPorts host (brows.map rowByte)).length, [.cells false [.int .u16] (spPorts host (brows.map rowByte))])
    | _, _ => none
  | _ => none
theorem q30_ok : EntryOK Tryz.prog 30 q30 := by
  intro args hp nx c v bs h hc ρ w hs hi
  unfold q30 at h
  split at h
  · rename_i start hv bv host
    split at h
    · rename_i c1 hrows c2 brows hs1 hs2
      cases h
      simp only [Bool.and_eq_true] at hc
      obtain ⟨hc1, hc2, hc3⟩ := hc
      obtain ⟨b1, hb1⟩ := (slIn_spec hs hs1 hc1 rfl).bi hs.gw rfl
      obtain ⟨b2, hb2⟩ := (slIn_spec hs hs2 hc2 rfl).bi hs.gw rfl
      obtain ⟨ρ0, hρ0⟩ : ∃ ρ0 : Nat → BI, (fun i => if i = 0 then b1 else b2) = ρ0 := ⟨_, rfl⟩
      have h0 : ρ0 0 = b1 := by rw [← hρ0]; rfl
      have h1 : ρ0 1 = b2 := by rw [← hρ0]; rfl
      have hE : HSim ρ0 (addBlks .e 0 [Blk.cells false [Kd.str, Kd.str] hrows, Blk.cells false [Kd.int IntKind.u8] brows]) ([Blk.cells false [Kd.str, Kd.str] hrows, Blk.cells false [Kd.int IntKind.u8] brows] : List Blk).length w := HSim.ins hs.gw (fun i blk hi => by
        match i with
        | 0 => simp at hi; subst hi; exact ⟨(hb1 ρ0 0 h0).2, rfl, rfl⟩
        | 1 => simp at hi; subst hi; exact ⟨(hb2 ρ0 1 h1).2, rfl, rfl⟩
        | i + 2 => simp at hi)
      have hcall := ports_calls (start := start) (host := host) (of_decide_eq_true hc3) hE
      have ea : concL ρ0 [AV.agg [.str start, .slq 0 hrows.length, .slq 1 brows.length], .int .u32 host] = concL ρ [AV.agg [.str start, hv, bv], .int .u32 host] := by
        show [Value.agg (concL ρ0 [AV.str start, .slq 0 hrows.length, .slq 1 brows.length]).toArray, _] = _
        simp only [concL]
        rw [(hb1 ρ0 0 h0).1, (hb2 ρ0 1 h1).1]
        rfl
      rw [ea] at hcall
      refine hcall.mono fun e w' hq => ?_
      obtain ⟨⟨v1, rfl, ⟨b3, n3, g3⟩⟩, he⟩ := hq
      have e1 : extB ρ nx [b3] nx = b3 := by have := extB_new ρ nx [b3] 0; simpa using this
      have st := HStep.bis (bs := [Blk.cells false [.int .u16] (spPorts host (brows.map rowByte))]) [b3] hs he (fun i blk hi => by
        obtain ⟨rfl, rfl⟩ := bs1 hi
        exact ⟨rfl, n3, rfl, fun ρ' b hb => (g3 ρ' b hb).2⟩)
      refine ⟨_, ?_, ?_, st⟩
      · have k1 := (g3 _ _ e1).1
        simp only [conc] at k1 ⊢
        rw [k1]
      · simp [AV.idsB, blt_iff]
    · cases h
  · cases h
end Go.Proofs.YtpdgmgkkbbndfaaGreatDoor

namespace Go.Proofs
open Go.Shelf
end Go.Proofs

set_option maxRecDepth 100000
namespace Go.Proofs.YtpdgmgkkbbndfaaGreatDoor
open Go Go.Proofs Go.Proofs.YtpdgmgkkbbndfaaGreatDoor.SX
def crlf : List UInt8 := [13, 10]
end Go.Proofs.YtpdgmgkkbbndfaaGreatDoor

set_option maxRecDepth 100000
set_option maxHeartbeats 1600000
namespace Go.Proofs.YtpdgmgkkbbndfaaGreatDoor
open Go Go.Proofs Go.Proofs.YtpdgmgkkbbndfaaGreatDoor.SX
def c4 : List UInt8 := [13, 10, 13, 10]
def colon : List UInt8 := [58, 32]
structure LsOK (lrows : List (List AV)) (o m : Nat) (ls : List (List UInt8)) : Prop where
  len : ls.length = m
  le : m ≤ 5000
  at_ : ∀ k (h : k < ls.length), lrows.getD (o + k) [] = [AV.str ls[k]] ∧ o + k < lrows.length
  sz : ∀ l ∈ ls, l.length < 4294967281
end Go.Proofs.YtpdgmgkkbbndfaaGreatDoor

namespace Go.Proofs
open Go.Shelf
end Go.Proofs

set_option maxRecDepth 100000
set_option maxHeartbeats 6400000
namespace Go.Proofs.YtpdgmgkkbbndfaaGreatDoor
open Go Go.Proofs Go.RowKit Go.Shelf
end Go.Proofs.YtpdgmgkkbbndfaaGreatDoor

set_option maxRecDepth 100000
set_option maxHeartbeats 6400000
namespace Go.Proofs.YtpdgmgkkbbndfaaGreatDoor
open Go Go.Proofs Go.Proofs.YtpdgmgkkbbndfaaGreatDoor.SX Go.RowKit
end Go.Proofs.YtpdgmgkkbbndfaaGreatDoor

set_option maxRecDepth 100000
set_option maxHeartbeats 6400000
namespace Go.Proofs.YtpdgmgkkbbndfaaGreatDoor
open Go Go.Proofs Go.Proofs.YtpdgmgkkbbndfaaGreatDoor.SX Go.RowKit
end Go.Proofs.YtpdgmgkkbbndfaaGreatDoor

set_option maxRecDepth 100000
set_option maxHeartbeats 6400000
namespace Go.Proofs.YtpdgmgkkbbndfaaGreatDoor
open Go Go.Proofs Go.Proofs.YtpdgmgkkbbndfaaGreatDoor.SX
end Go.Proofs.YtpdgmgkkbbndfaaGreatDoor

set_option maxRecDepth 100000
namespace Go.Proofs.YtpdgmgkkbbndfaaGreatDoor
open Go Go.Proofs Go.Proofs.YtpdgmgkkbbndfaaGreatDoor.SX
def b61I (r1 r2 : List (List AV)) (n m : Nat) (k : Int) : SL := ⟨[(0, .slq 0 n), (1, .slq 1 m), (12, .int .i64 n), (13, .int .i64 k)], [(0, .cells false [.str, .str] r1), (1, .cells false [.str, .str] r2)], 2⟩
theorem b61_TT (r1 : List (List AV)) (r2 : List (List AV)) (n : Nat) (m : Nat) (k : Int) :
 Path (run Tryz.prog Pr 100 (lbody Tryz.prog 61 0) (SL.mp 26 ([.as_ true, .as_ true]) (b61I r1 r2 n m k))) 2 [] (SL.mk [(4, AV.lit false)] [] 2) (Ex.ret)
 ((((((((True ∧ (decide (k < (↑n : Int)) = true)) ∧ (decide (0 < n) = true)) ∧ (decide ((0 : Int) ≤ k ∧ k < (↑n : Int)) = true)) ∧ (decide (0 + Int.toNat k < List.length r1) = true)) ∧ (decide (0 < m) = true)) ∧ (decide ((0 : Int) ≤ k ∧ k < (↑m : Int)) = true)) ∧ (decide (0 + Int.toNat k < List.length r2) = true)) ∧ ((!(AV.toStr (List.getD (List.getD r1 (0 + Int.toNat k) []) (0) AV.undef) == AV.toStr (List.getD (List.getD r2 (0 + Int.toNat k) []) (0) AV.undef) && AV.toStr (List.getD (List.getD r1 (0 + Int.toNat k) []) (1) AV.undef) == AV.toStr (List.getD (List.getD r2 (0 + Int.toNat k) []) (1) AV.undef))) = true)) := by unfold Path; kernel_rfl
theorem b61_TF (r1 : List (List AV)) (r2 : List (List AV)) (n : Nat) (m : Nat) (k : Int) :
 Path (run Tryz.prog Pr 100 (lbody Tryz.prog 61 0) (SL.mp 26 ([.as_ true, .as_ false]) (b61I r1 r2 n m k))) 2 [] (b61I (r1) (r2) (n) (m) (IntKind.wrap IntKind.i64 (k + (1 : Int)))) (Ex.normal)
 ((((((((True ∧ (decide (k < (↑n : Int)) = true)) ∧ (decide (0 < n) = true)) ∧ (decide ((0 : Int) ≤ k ∧ k < (↑n : Int)) = true)) ∧ (decide (0 + Int.toNat k < List.length r1) = true)) ∧ (decide (0 < m) = true)) ∧ (decide ((0 : Int) ≤ k ∧ k < (↑m : Int)) = true)) ∧ (decide (0 + Int.toNat k < List.length r2) = true)) ∧ ((!(AV.toStr (List.getD (List.getD r1 (0 + Int.toNat k) []) (0) AV.undef) == AV.toStr (List.getD (List.getD r2 (0 + Int.toNat k) []) (0) AV.undef) && AV.toStr (List.getD (List.getD r1 (0 + Int.toNat k) []) (1) AV.undef) == AV.toStr (List.getD (List.getD r2 (0 + Int.toNat k) []) (1) AV.undef))) = false)) := by unfold Path; kernel_rfl
theorem b61_F (r1 : List (List AV)) (r2 : List (List AV)) (n : Nat) (m : Nat) (k : Int) :
 Path (run Tryz.prog Pr 100 (lbody Tryz.prog 61 0) (SL.mp 26 ([.as_ false]) (b61I r1 r2 n m k))) 2 [] (SL.mk [] [] 2) (Ex.exit 0)
 (True ∧ (decide (k < (↑n : Int)) = false)) := by unfold Path; kernel_rfl
theorem c61a_T (r1 : List (List AV)) (r2 : List (List AV)) :
 Path (runCallB Tryz.prog Pr 100 61 [AV.slq 0 (List.length r1), AV.slq 1 (List.length r2)] (st0 [Blk.cells false [Kd.str, Kd.str] r1, Blk.cells false [Kd.str, Kd.str] r2] ([.as_ true]))) 2 [] (SL.mk [] [] 2) (Out.ret (AV.lit false))
 (True ∧ ((!(↑(List.length r1) : Int) == (↑(List.length r2) : Int)) = true)) := by unfold Path; kernel_rfl
theorem c61a_FL (r1 : List (List AV)) (r2 : List (List AV)) :
 Path (runCallB Tryz.prog Pr 100 61 [AV.slq 0 (List.length r1), AV.slq 1 (List.length r2)] (st0 [Blk.cells false [Kd.str, Kd.str] r1, Blk.cells false [Kd.str, Kd.str] r2] ([.as_ false, PI.loop (b61I r1 r2 (List.length r1) (List.length r2) (0 : Int)) Ex.ret (SL.mk [(4, AV.lit false)] [] 2)]))) 2 [] (SL.mk [] [] 2) (Out.ret (AV.lit false))
 ((True ∧ ((!(↑(List.length r1) : Int) == (↑(List.length r2) : Int)) = false)) ∧ (LoopOK Tryz.prog (lbody Tryz.prog 61 0) (26) (SL.mk [(0, AV.slq 0 (List.length r1)), (1, AV.slq 1 (List.length r2)), (12, AV.int IntKind.i64 (↑(List.length r1) : Int)), (13, AV.int IntKind.i64 (0 : Int))] [(0, Blk.cells false [Kd.str, Kd.str] r1), (1, Blk.cells false [Kd.str, Kd.str] r2)] 2) Ex.ret (SL.mk [(4, AV.lit false)] [] 2))) := by unfold Path; kernel_rfl
theorem c61b_FL (r1 : List (List AV)) (r2 : List (List AV)) :
 Path (runCallB Tryz.prog Pr 100 61 [AV.slq 0 (List.length r1), AV.slq 1 (List.length r2)] (st0 [Blk.cells false [Kd.str, Kd.str] r1, Blk.cells false [Kd.str, Kd.str] r2] ([.as_ false, PI.loop (b61I r1 r2 (List.length r1) (List.length r2) (0 : Int)) (Ex.exit 0) (SL.mk [] [] 2)]))) 2 [] (SL.mk [] [] 2) (Out.ret (AV.lit true))
 ((True ∧ ((!(↑(List.length r1) : Int) == (↑(List.length r2) : Int)) = false)) ∧ (LoopOK Tryz.prog (lbody Tryz.prog 61 0) (26) (SL.mk [(0, AV.slq 0 (List.length r1)), (1, AV.slq 1 (List.length r2)), (12, AV.int IntKind.i64 (↑(List.length r1) : Int)), (13, AV.int IntKind.i64 (0 : Int))] [(0, Blk.cells false [Kd.str, Kd.str] r1), (1, Blk.cells false [Kd.str, Kd.str] r2)] 2) (Ex.exit 0) (SL.mk [] [] 2))) := by unfold Path; kernel_rfl
theorem c62_ (r1 : List (List AV)) (r2 : List (List AV)) :
 Path (runCallB Tryz.prog Pr 100 62 [AV.slq 0 (List.length r1), AV.slq 1 (List.length r2)] (st0 [Blk.cells false [Kd.int IntKind.u8] r1, Blk.cells false [Kd.int IntKind.u8] r2] ([]))) 2 [] (SL.mk [] [] 2) (Out.ret (AV.bool (List.map rowByte (sub r1 0 (List.length r1)) == List.map rowByte (sub r2 0 (List.length r2)))))
 ((True ∧ (decide (0 + List.length r1 ≤ List.length r1) = true)) ∧ (decide (0 + List.length r2 ≤ List.length r2) = true)) := by unfold Path; kernel_rfl
def eqAt (r1 r2 : List (List AV)) (k : Nat) : Bool := hN (r1.getD (0 + k) []) == hN (r2.getD (0 + k) []) && hV (r1.getD (0 + k) []) == hV (r2.getD (0 + k) [])
def spEqH (r1 r2 : List (List AV)) : Bool := decide (r1.length = r2.length) && (List.range r1.length).all (eqAt r1 r2)
theorem eq_next {r1 r2 : List (List AV)} {k : Nat} (he : r1.length = r2.length) (hl : r1.length ≤ 4611686018427387904) (h : k < r1.length) (hk : eqAt r1 r2 k = true) :
    BodyOK Tryz.prog (lbody Tryz.prog 61 0) 26 2 (b61I r1 r2 r1.length r2.length (k : Int)) .normal (b61I r1 r2 r1.length r2.length ((k + 1 : Nat) : Int)) := by
  refine body_by Pr_ok (b61_TF r1 r2 r1.length r2.length k) (by rw [succ64 (n := r1.length) h hl]) ?_ rfl
  have e : (!eqAt r1 r2 k) = false := by rw [hk]; rfl
  exact ⟨⟨⟨⟨⟨⟨⟨⟨trivial, decide_eq_true (by omega)⟩, decide_eq_true (by omega)⟩, decide_eq_true (by omega)⟩, decide_eq_true (by omega)⟩, decide_eq_true (by omega)⟩, decide_eq_true (by omega)⟩, decide_eq_true (by omega)⟩, e⟩
theorem eq_bad {r1 r2 : List (List AV)} {k : Nat} (he : r1.length = r2.length) (h : k < r1.length) (hk : eqAt r1 r2 k = false) :
    BodyOK Tryz.prog (lbody Tryz.prog 61 0) 26 2 (b61I r1 r2 r1.length r2.length (k : Int)) .ret ⟨[(4, .lit false)], [], 2⟩ := by
  refine body_by Pr_ok (b61_TT r1 r2 r1.length r2.length k) rfl ?_ rfl
  have e : (!eqAt r1 r2 k) = true := by rw [hk]; rfl
  exact ⟨⟨⟨⟨⟨⟨⟨⟨trivial, decide_eq_true (by omega)⟩, decide_eq_true (by omega)⟩, decide_eq_true (by omega)⟩, decide_eq_true (by omega)⟩, decide_eq_true (by omega)⟩, decide_eq_true (by omega)⟩, decide_eq_true (by omega)⟩, e⟩
theorem eq_ret {r1 r2 : List (List AV)} {j : Nat} (he : r1.length = r2.length) (hl : r1.length ≤ 4611686018427387904) (h : firstAt (fun k => !eqAt r1 r2 k) (List.range r1.length) = some j) :
    LoopOK Tryz.prog (lbody Tryz.prog 61 0) 26 (b61I r1 r2 r1.length r2.length 0) .ret ⟨[(4, .lit false)], [], 2⟩ := by
  obtain ⟨hj, h2, h3⟩ := firstAt_some h
  have hj' : j < r1.length := by simpa using hj
  refine loop_rule (E := b61I r1 r2 r1.length r2.length 0) (I := fun k : Nat => b61I r1 r2 r1.length r2.length k) (pre := fun k => k ≤ j) (μ := fun k => j - k) _ _ rfl (fun ρ => by simp [Ex.conc]) ?_ (x0 := 0) (pick := []) (Nat.zero_le _) ⟨by kernel_rfl, map_fst_snd (by kernel_rfl)⟩
  intro k hk
  by_cases hkj : k = j
  · right
    subst hkj
    exact eq_bad he hj' (by simpa using h2)
  · left
    exact ⟨k + 1, by omega, by omega, eq_next he hl (by omega) (by have := h3 k (by omega); simpa using this)⟩
theorem eq_end {r1 r2 : List (List AV)} (he : r1.length = r2.length) (hl : r1.length ≤ 4611686018427387904) (h : firstAt (fun k => !eqAt r1 r2 k) (List.range r1.length) = none) :
    LoopOK Tryz.prog (lbody Tryz.prog 61 0) 26 (b61I r1 r2 r1.length r2.length 0) (.exit 0) ⟨[], [], 2⟩ := by
  have h3 := firstAt_none h
  refine loop_rule (E := b61I r1 r2 r1.length r2.length 0) (I := fun k : Nat => b61I r1 r2 r1.length r2.length k) (pre := fun k => k ≤ r1.length) (μ := fun k => r1.length - k) _ _ rfl (fun ρ => by simp [Ex.conc]) ?_ (x0 := 0) (pick := []) (Nat.zero_le _) ⟨by kernel_rfl, map_fst_snd (by kernel_rfl)⟩
  intro k hk
  by_cases hkl : k < r1.length
  · left
    exact ⟨k + 1, by omega, by omega, eq_next he hl hkl (by have := h3 k (by simpa using hkl); simpa using this)⟩
  · right
    exact body_by Pr_ok (b61_F r1 r2 r1.length r2.length k) rfl ⟨trivial, decide_eq_false (by omega)⟩ rfl
def ins61 (ks : List Kd) (r1 r2 : List (List AV)) : List Blk := [Blk.cells false ks r1, Blk.cells false ks r2]
theorem two_in {w : World} {ks : List Kd} {r1 r2 : List (List AV)} {v1 v2 : Value} (hk : noAny ks = true) (gw : GW w) (h1 : Reads w ks r1 v1) (h2 : Reads w ks r2 v2) :
    ∃ ρ0 : Nat → BI, HSim ρ0 (addBlks .e 0 (ins61 ks r1 r2)) (ins61 ks r1 r2).length w ∧ conc ρ0 (.slq 0 r1.length) = v1 ∧ conc ρ0 (.slq 1 r2.length) = v2 := by
  obtain ⟨b1, hb1⟩ := h1.bi gw hk
  obtain ⟨b2, hb2⟩ := h2.bi gw hk
  have hkk : ∀ rows : List (List AV), (Blk.cells false ks rows).idsB 2 = true := fun rows => by
    have : ks.any Kd.isAny = false := by simpa [noAny] using hk
    simp [Blk.idsB, this]
  refine ⟨fun i => if i = 0 then b1 else b2, HSim.ins gw (fun i blk hi => ?_), (hb1 _ 0 rfl).1, (hb2 _ 1 rfl).1⟩
  match i with
  | 0 => simp [ins61] at hi; subst hi; exact ⟨(hb1 _ 0 rfl).2, rfl, hkk r1⟩
  | 1 => simp [ins61] at hi; subst hi; exact ⟨(hb2 _ 1 rfl).2, rfl, hkk r2⟩
  | i + 2 => simp [ins61] at hi
def q61 : Entry := fun args hp nx => match args with
  | [v1, v2] => match slIn hp [.str, .str] v1, slIn hp [.str, .str] v2 with
    | some (c1, r1), some (c2, r2) => some (c1 && (c2 && decide (r1.length ≤ 4611686018427387904)), .bool (spEqH r1 r2), [])
    | _, _ => none
  | _ => none
theorem q61_ok : EntryOK Tryz.prog 61 q61 := by
  intro args hp nx c v bs h hc ρ w hs hi
  unfold q61 at h
  split at h
  · rename_i v1 v2
    split at h
    · rename_i c1 r1 c2 r2 hs1 hs2
      cases h
      simp only [Bool.and_eq_true] at hc
      obtain ⟨hc1, hc2, hc3⟩ := hc
      have hl := of_decide_eq_true hc3
      obtain ⟨ρ0, hE, e1, e2⟩ := two_in rfl hs.gw (slIn_spec hs hs1 hc1 rfl) (slIn_spec hs hs2 hc2 rfl)
      refine entry_pure hs rfl ?_
      have ea : concL ρ0 [AV.slq 0 r1.length, AV.slq 1 r2.length] = concL ρ [v1, v2] := by simp only [concL]; rw [e1, e2]
      rw [← ea]
      by_cases he : r1.length = r2.length
      · have q : (!((r1.length : Nat) : Int) == ((r2.length : Nat) : Int)) = false := by rw [he]; simp
        cases hf : firstAt (fun k => !eqAt r1 r2 k) (List.range r1.length) with
        | some j =>
          have ev : spEqH r1 r2 = false := by
            unfold spEqH
            cases h : (List.range r1.length).all (eqAt r1 r2) with
            | false => simp
            | true => rw [← firstAt_all] at h; rw [h] at hf; cases hf
          rw [ev]
          exact calls_pureB Pr_ok (c61a_FL r1 r2) ⟨⟨trivial, q⟩, eq_ret he hl hf⟩ hE rfl rfl rfl
        | none =>
          have ev : spEqH r1 r2 = true := by
            unfold spEqH
            rw [decide_eq_true he, firstAt_all.1 hf]; rfl
          rw [ev]
          exact calls_pureB Pr_ok (c61b_FL r1 r2) ⟨⟨trivial, q⟩, eq_end he hl hf⟩ hE rfl rfl rfl
      · have ev : spEqH r1 r2 = false := by unfold spEqH; rw [decide_eq_false he]; rfl
        rw [ev]
        have q : (!((r1.length : Nat) : Int) == ((r2.length : Nat) : Int)) = true := by simp; omega
        exact calls_pureB Pr_ok (c61a_T r1 r2) ⟨trivial, q⟩ hE rfl rfl rfl
    · cases h
  · cases h
def q62 : Entry := fun args hp nx => match args with
  | [v1, v2] => match slIn hp [.int .u8] v1, slIn hp [.int .u8] v2 with
    | some (c1, r1), some (c2, r2) => some (c1 && c2, .bool (r1.map rowByte == r2.map rowByte), [])
    | _, _ => none
  | _ => none
theorem q62_ok : EntryOK Tryz.prog 62 q62 := by
  intro args hp nx c v bs h hc ρ w hs hi
  unfold q62 at h
  split at h
  · rename_i v1 v2
    split at h
    · rename_i c1 r1 c2 r2 hs1 hs2
      cases h
      simp only [Bool.and_eq_true] at hc
      obtain ⟨hc1, hc2⟩ := hc
      obtain ⟨ρ0, hE, e1, e2⟩ := two_in rfl hs.gw (slIn_spec hs hs1 hc1 rfl) (slIn_spec hs hs2 hc2 rfl)
      refine entry_pure hs rfl ?_
      have ea : concL ρ0 [AV.slq 0 r1.length, AV.slq 1 r2.length] = concL ρ [v1, v2] := by simp only [concL]; rw [e1, e2]
      rw [← ea]
      have hp := c62_ r1 r2
      rw [sub_all r1 rfl, sub_all r2 rfl] at hp
      exact calls_pureB Pr_ok hp ⟨⟨trivial, decide_eq_true (by omega)⟩, decide_eq_true (by omega)⟩ hE rfl rfl rfl
    · cases h
  · cases h
def P12 : Prims := addP (addP Pr 61 q61) 62 q62
theorem P12_ok : PrimsOK Tryz.prog P12 := addP_ok (addP_ok Pr_ok q61_ok) q62_ok
end Go.Proofs.YtpdgmgkkbbndfaaGreatDoor

set_option maxRecDepth 100000
namespace Go.Proofs.YtpdgmgkkbbndfaaGreatDoor
open Go Go.Proofs Go.Proofs.YtpdgmgkkbbndfaaGreatDoor.SX
end Go.Proofs.YtpdgmgkkbbndfaaGreatDoor

set_option maxRecDepth 100000
namespace Go.Proofs.YtpdgmgkkbbndfaaGreatDoor
open Go Go.Proofs Go.Proofs.YtpdgmgkkbbndfaaGreatDoor.SX
end Go.Proofs.YtpdgmgkkbbndfaaGreatDoor

set_option maxRecDepth 100000
set_option maxHeartbeats 1600000
namespace Go.Proofs.YtpdgmgkkbbndfaaGreatDoor
open Go Go.Proofs Go.Proofs.YtpdgmgkkbbndfaaGreatDoor.SX
structure SzOK (start : List UInt8) (rows : List (List AV)) (bn : Nat) : Prop where
  st : start.length ≤ 4294967200
  len : rows.length ≤ 1000
  short : rows.all short = true
  bn : bn ≤ 140737488355328
end Go.Proofs.YtpdgmgkkbbndfaaGreatDoor

set_option maxRecDepth 100000
set_option maxHeartbeats 1600000
namespace Go.Proofs.YtpdgmgkkbbndfaaGreatDoor
open Go Go.Proofs Go.Proofs.YtpdgmgkkbbndfaaGreatDoor.SX
end Go.Proofs.YtpdgmgkkbbndfaaGreatDoor

set_option maxRecDepth 100000
namespace Go.Proofs.YtpdgmgkkbbndfaaGreatDoor
open Go Go.Proofs Go.Proofs.YtpdgmgkkbbndfaaGreatDoor.SX
end Go.Proofs.YtpdgmgkkbbndfaaGreatDoor

set_option maxRecDepth 100000
set_option maxHeartbeats 1600000
namespace Go.Proofs.YtpdgmgkkbbndfaaGreatDoor
open Go Go.Proofs Go.Proofs.YtpdgmgkkbbndfaaGreatDoor.SX
def edgeOK (v : List UInt8) : Bool := (v == []) || (!(((v.getD 0 (0 : UInt8)).toNat : Int) == 32) && !(((v.getD (v.length - 1) (0 : UInt8)).toNat : Int) == 32))
end Go.Proofs.YtpdgmgkkbbndfaaGreatDoor

set_option maxRecDepth 100000
set_option maxHeartbeats 1600000
namespace Go.Proofs.YtpdgmgkkbbndfaaGreatDoor
open Go Go.Proofs Go.Proofs.YtpdgmgkkbbndfaaGreatDoor.SX
end Go.Proofs.YtpdgmgkkbbndfaaGreatDoor

set_option maxRecDepth 100000
set_option maxHeartbeats 1600000
namespace Go.Proofs.YtpdgmgkkbbndfaaGreatDoor
open Go Go.Proofs Go.Proofs.YtpdgmgkkbbndfaaGreatDoor.SX
def spSameM (s1 : List UInt8) (h1 b1 : List (List AV)) (s2 : List UInt8) (h2 b2 : List (List AV)) : Bool := (s1 == s2) && (spEqH h1 h2 && (List.map rowByte b1 == List.map rowByte b2))
def ins28 (h1 b1 h2 b2 : List (List AV)) : List Blk := [Blk.cells false [Kd.str, Kd.str] h1, Blk.cells false [Kd.int IntKind.u8] b1, Blk.cells false [Kd.str, Kd.str] h2, Blk.cells false [Kd.int IntKind.u8] b2]
theorem four_in {w : World} {r1 r2 r3 r4 : List (List AV)} {v1 v2 v3 v4 : Value} (gw : GW w) (h1 : Reads w [.str, .str] r1 v1) (h2 : Reads w [.int .u8] r2 v2) (h3 : Reads w [.str, .str] r3 v3) (h4 : Reads w [.int .u8] r4 v4) :
    ∃ ρ0 : Nat → BI, HSim ρ0 (addBlks .e 0 (ins28 r1 r2 r3 r4)) (ins28 r1 r2 r3 r4).length w ∧ conc ρ0 (.slq 0 r1.length) = v1 ∧ conc ρ0 (.slq 1 r2.length) = v2 ∧ conc ρ0 (.slq 2 r3.length) = v3 ∧ conc ρ0 (.slq 3 r4.length) = v4 := by
  obtain ⟨b1, hb1⟩ := h1.bi gw rfl
  obtain ⟨b2, hb2⟩ := h2.bi gw rfl
  obtain ⟨b3, hb3⟩ := h3.bi gw rfl
  obtain ⟨b4, hb4⟩ := h4.bi gw rfl
  refine ⟨fun i => if i = 0 then b1 else if i = 1 then b2 else if i = 2 then b3 else b4, HSim.ins gw (fun i blk hi => ?_), (hb1 _ 0 rfl).1, (hb2 _ 1 rfl).1, (hb3 _ 2 rfl).1, (hb4 _ 3 rfl).1⟩
  match i with
  | 0 => simp [ins28] at hi; subst hi; exact ⟨(hb1 _ 0 rfl).2, rfl, rfl⟩
  | 1 => simp [ins28] at hi; subst hi; exact ⟨(hb2 _ 1 rfl).2, rfl, rfl⟩
  | 2 => simp [ins28] at hi; subst hi; exact ⟨(hb3 _ 2 rfl).2, rfl, rfl⟩
  | 3 => simp [ins28] at hi; subst hi; exact ⟨(hb4 _ 3 rfl).2, rfl, rfl⟩
  | i + 4 => simp [ins28] at hi
end Go.Proofs.YtpdgmgkkbbndfaaGreatDoor

set_option maxRecDepth 100000
namespace Go.Proofs.YtpdgmgkkbbndfaaGreatDoor
open Go Go.Proofs Go.Proofs.YtpdgmgkkbbndfaaGreatDoor.SX
theorem parse_snoc : ∀ (l : List UInt8) (acc u : Nat) (d : Nat), Lib.parseUint10 acc l = .ok u → u < 1000000000000000000 → d < 10 → Lib.parseUint10 acc (l ++ [UInt8.ofNat (48 + d)]) = .ok (u * 10 + d)
  | [], acc, u, d, h, hu, hd => by
    simp only [Lib.parseUint10] at h
    cases h
    have e : (UInt8.ofNat (48 + d)).toNat = 48 + d := by rw [UInt8.toNat_ofNat']; omega
    simp only [List.nil_append, Lib.parseUint10, e]
    rw [if_pos (by omega), if_neg (by omega), if_neg (by omega)]
    congr 1
    omega
  | c :: r, acc, u, d, h, hu, hd => by
    simp only [Lib.parseUint10, List.cons_append] at h ⊢
    split at h
    · rename_i h1
      rw [if_pos h1]
      split at h
      · cases h
      · rename_i h2
        rw [if_neg h2]
        split at h
        · cases h
        · rename_i h3
          rw [if_neg h3]
          exact parse_snoc r _ u d h hu hd
    · cases h
theorem parse_dec (n : Nat) (h : n < 1000000000000000000) : Lib.parseUint10 0 (Lib.decDigits n) = .ok n := by
  induction n using Nat.strongRecOn with
  | ind n ih =>
    rw [Lib.decDigits]
    by_cases h0 : n < 10
    · rw [dif_pos h0]
      have := parse_snoc [] 0 0 n rfl (by omega) h0
      simpa using this
    · rw [dif_neg h0]
      have := parse_snoc _ 0 _ (n % 10) (ih (n / 10) (by omega) (by omega)) (by omega) (by omega)
      rw [this]
      congr 1
      omega
def isDig (c : UInt8) : Bool := decide (48 ≤ c.toNat ∧ c.toNat ≤ 57)
theorem dec_dig (n : Nat) : (Lib.decDigits n).all isDig = true ∧ Lib.decDigits n ≠ [] := by
  induction n using Nat.strongRecOn with
  | ind n ih =>
    rw [Lib.decDigits]
    have e : ∀ d, d < 10 → isDig (UInt8.ofNat (48 + d)) = true := fun d hd => by
      have : (UInt8.ofNat (48 + d)).toNat = 48 + d := by rw [UInt8.toNat_ofNat']; omega
      unfold isDig; rw [this]; exact decide_eq_true (by omega)
    by_cases h0 : n < 10
    · rw [dif_pos h0]
      exact ⟨by rw [List.all_cons, e n h0]; rfl, by simp⟩
    · rw [dif_neg h0, List.all_append]
      have := (ih (n / 10) (by omega)).1
      exact ⟨by rw [this, List.all_cons, e (n % 10) (by omega)]; rfl, by simp⟩
theorem itoa_nat (n : Nat) : spItoa (n : Int) = Lib.decDigits n := Lib.itoa_nonneg n
theorem itoa_dig (n : Nat) : (spItoa (n : Int)).all isDig = true ∧ spItoa (n : Int) ≠ [] := by rw [itoa_nat]; exact dec_dig n
theorem atoi_itoa (n : Nat) (h : n < 1000000000000000000) : Lib.atoiAll (spItoa (n : Int)) = .ok (n : Int) := by
  have hp := parse_dec n h
  obtain ⟨hd, hn⟩ := dec_dig n
  rw [itoa_nat]
  cases hl : Lib.decDigits n with
  | nil => exact absurd hl hn
  | cons c r =>
    rw [hl] at hp hd
    simp only [List.all_cons, Bool.and_eq_true] at hd
    have hc := of_decide_eq_true hd.1
    unfold Lib.atoiAll
    simp only
    rw [if_neg (by omega)]
    unfold Lib.parseMag
    rw [if_neg (by simp), hp]
    simp only
    rw [if_neg (by omega), if_neg (by omega), if_neg (by omega)]
theorem numeral_itoa (n : Nat) (h0 : 1 ≤ n) (h1 : n ≤ 65535) : spNumeral (spItoa (n : Int)) = (n : Int) := by
  have h := atoi_itoa n (by omega)
  have e1 : spAtoiOk (spItoa (n : Int)) = true := by unfold spAtoiOk; rw [h]; rfl
  have e2 : spAtoi (spItoa (n : Int)) = n := by unfold spAtoi; rw [h]; rfl
  unfold spNumeral
  rw [e1, cond_true]
  have e3 : c96_cls (spItoa (n : Int)) = 1 := by
    unfold c96_cls c96k1 c96k2 c96k4
    rw [e2, decide_eq_false (by omega), decide_eq_false (by omega)]
    simp
  rw [e3, e2]
  rfl
theorem cut_char {x : UInt8} {a r : List UInt8} (h : ∀ c ∈ a, c ≠ x) : spBefore (a ++ x :: r) [x] = a ∧ spAfter (a ++ x :: r) [x] = r ∧ spFound (a ++ x :: r) [x] = true := by
  have hi : ∀ a : List UInt8, (∀ c ∈ a, c ≠ x) → Lib.index (a ++ x :: r) [x] = (a.length : Int) := by
    intro a
    induction a with
    | nil => intro _; simp [Lib.index]
    | cons c a ih =>
      intro h
      have hc : c ≠ x := h c (List.mem_cons_self ..)
      have := ih fun d hd => h d (List.mem_cons_of_mem _ hd)
      simp only [List.cons_append, Lib.index, this]
      have e : ([x] : List UInt8).isPrefixOf (c :: (a ++ x :: r)) = false := by simp [List.isPrefixOf, Ne.symm hc]
      rw [e]
      simp only [Bool.false_eq_true, if_false, List.length_cons]
      rw [if_neg (by simp)]
      omega
  have := hi a h
  unfold spBefore spAfter spFound Lib.cut
  rw [this, if_pos (by omega)]
  refine ⟨?_, ?_, rfl⟩
  · simp
  · simp [List.drop_append]
theorem cut_pre {t r : List UInt8} (h : t ≠ []) : spBefore (t ++ r) t = [] ∧ spAfter (t ++ r) t = r ∧ spFound (t ++ r) t = true := by
  have hi : Lib.index (t ++ r) t = 0 := by
    cases t with
    | nil => exact absurd rfl h
    | cons c l =>
      simp only [List.cons_append, Lib.index]
      have e : (c :: l).isPrefixOf (c :: (l ++ r)) = true := by
        rw [List.isPrefixOf_iff_prefix]; exact ⟨r, by simp⟩
      rw [e]; rfl
  unfold spBefore spAfter spFound Lib.cut
  rw [hi]
  simp
theorem firstAt_app {p : UInt8 → Bool} {c : UInt8} {r : List UInt8} : ∀ {a : List UInt8}, (∀ d ∈ a, p d = false) → p c = true → firstAt p (a ++ c :: r) = some a.length
  | [], _, hc => by simp [firstAt, hc]
  | d :: a, h, hc => by
    have := firstAt_app (r := r) (fun e he => h e (List.mem_cons_of_mem _ he)) hc
    simp [firstAt, h d (List.mem_cons_self ..), this]
theorem trim_ends {c d : UInt8} {m : List UInt8} (hc : c ≠ 32) (hd : d ≠ 32) : spTrim (c :: (m ++ [d])) [32] = c :: (m ++ [d]) := by
  unfold spTrim Lib.trimS Lib.trimRightS Lib.trimLeftS
  have e : (c :: (m ++ [d])).reverse = d :: (m.reverse ++ [c]) := by simp
  rw [e]
  simp [List.dropWhile_cons, hc, hd]
end Go.Proofs.YtpdgmgkkbbndfaaGreatDoor

set_option maxRecDepth 100000
namespace Go.Proofs.YtpdgmgkkbbndfaaGreatDoor
open Go Go.Proofs Go.Proofs.YtpdgmgkkbbndfaaGreatDoor.SX
def plainC (c : UInt8) : Bool := isDig c || (c == 46 || c == 58)
theorem dig_plain {l : List UInt8} (h : l.all isDig = true) : ∀ c ∈ l, plainC c = true := fun c hc => by
  unfold plainC; rw [List.all_eq_true.1 h c hc]; rfl
theorem itoa_plain {n : Int} (h : 0 ≤ n) : ∀ c ∈ spItoa n, plainC c = true := by
  obtain ⟨k, rfl⟩ := Int.eq_ofNat_of_zero_le h
  exact dig_plain (itoa_dig k).1
theorem dotted_plain (a : Int) : ∀ c ∈ spDotted a, plainC c = true := by
  have h1 := itoa_plain (octet_range a 16777216).1; have h2 := itoa_plain (octet_range a 65536).1; have h3 := itoa_plain (octet_range a 256).1; have h4 := itoa_plain (octet_range a 1).1
  unfold spDotted
  rw [join4]
  intro c hc
  simp only [List.mem_append, List.mem_cons, List.not_mem_nil, or_false] at hc
  rcases hc with (((((h | h) | h) | h) | h) | h) | h
  · exact h1 c h
  · subst h; rfl
  · exact h2 c h
  · subst h; rfl
  · exact h3 c h
  · subst h; rfl
  · exact h4 c h
def hp (a p : Int) : List UInt8 := spDotted a ++ [58] ++ spItoa p
theorem hp_plain {a p : Int} (h : 0 ≤ p) : ∀ c ∈ hp a p, plainC c = true := by
  unfold hp
  intro c hc
  simp only [List.mem_append, List.mem_cons, List.not_mem_nil, or_false] at hc
  rcases hc with (h1 | h1) | h1
  · exact dotted_plain a c h1
  · subst h1; rfl
  · exact itoa_plain h c h1
theorem plain_ne {c d : UInt8} (h : plainC c = true) (hd : plainC d = false) : c ≠ d := fun e => by rw [e, hd] at h; cases h
theorem hp_len {a p : Int} (h0 : 0 ≤ p) (h1 : p ≤ 65535) : (hp a p).length ≤ 109 := by
  have h2 := len_dotted a
  have h3 := len_itoa p (by omega)
  unfold hp
  simp only [List.length_append, List.length_cons, List.length_nil]; omega
theorem hasPre_app (p r : List UInt8) : spHasPre (p ++ r) p = true := by
  unfold spHasPre Lib.hasPrefix
  rw [List.isPrefixOf_iff_prefix]
  exact ⟨r, rfl⟩
theorem trimPre_app (p r : List UInt8) : spTrimPre (p ++ r) p = r := by
  unfold spTrimPre Lib.trimPrefix
  have := hasPre_app p r
  unfold spHasPre at this
  rw [this, if_pos rfl]
  simp
theorem place_hp {a b p tp : Int} (h0 : 1 ≤ p) (h1 : p ≤ 65535) : spPlace (spDotted a) (spDotted b) (hp a p) p tp = hp b tp := by
  obtain ⟨n, rfl⟩ := Int.eq_ofNat_of_zero_le (show 0 ≤ p by omega)
  have hn := numeral_itoa n (by omega) (by omega)
  unfold spPlace hp
  rw [hasPre_app, trimPre_app, hn]
  have e1 : (spDotted a ++ [58] ++ spItoa (n : Int) == spDotted a) = false := by
    rw [beq_eq_false_iff_ne]
    intro e
    have := congrArg List.length e
    simp only [List.length_append, List.length_cons, List.length_nil] at this
    omega
  have e2 : ((n : Int) == 0) = false := by rw [beq_eq_false_iff_ne]; omega
  rw [e1, e2, show ((n : Int) == (n : Int)) = true by simp]
  rfl
theorem behind_of {hs ts s mark signs b a : List UInt8} {p tp : Int} {c : UInt8} {h r : List UInt8} (h1 : spBefore s mark = b ∧ spAfter s mark = a ∧ spFound s mark = true) (h2 : a = h ++ c :: r) (h3 : ∀ d ∈ h, signs.contains d = false) (h4 : signs.contains c = true) :
    spBehind hs ts s mark signs p tp = b ++ mark ++ spPlace hs ts h p tp ++ c :: r := by
  obtain ⟨e1, e2, e3⟩ := h1
  subst h2
  unfold spBehind
  rw [e1, e2, e3]
  have e4 : spAnyAt (h ++ c :: r) signs = (h.length : Int) := by
    unfold spAnyAt
    rw [firstAt_app (p := fun c => signs.contains c) h3 h4]
  have e5 : spEnd (h ++ c :: r) signs = h.length := by
    unfold spEnd
    rw [e4, decide_eq_false (by omega)]
    rfl
  rw [e5]
  have e6 : sub (h ++ c :: r) 0 h.length = h := by simp [sub]
  have e7 : sub (h ++ c :: r) h.length ((h ++ c :: r).length - h.length) = c :: r := by simp [sub]
  rw [e6, e7]
  rfl
def v1 (h : List UInt8) : List UInt8 := mkVia ++ (h ++ [59, 120])
def v2 (h : List UInt8) : List UInt8 := [60, 115, 105, 112, 58, 97] ++ 64 :: (h ++ [62])
theorem contact_hp {a b p tp : Int} (h0 : 1 ≤ p) (h1 : p ≤ 65535) : spBehind (spDotted a) (spDotted b) (v2 (hp a p)) [64] [62, 59] p tp = v2 (hp b tp) := by
  have hpl := hp_plain (a := a) (p := p) (by omega)
  rw [show v2 (hp a p) = [60, 115, 105, 112, 58, 97] ++ 64 :: (hp a p ++ [62]) from rfl, behind_of (h := hp a p) (c := 62) (r := []) (cut_char (x := 64) (a := [60, 115, 105, 112, 58, 97]) (r := hp a p ++ [62]) (by decide)) rfl (fun d hd => ?_) rfl, place_hp h0 h1]
  · unfold v2; simp
  · have e1 := plain_ne (hpl d hd) (show plainC 62 = false by decide)
    have e2 := plain_ne (hpl d hd) (show plainC 59 = false by decide)
    simp [e1, e2]
theorem not_crlf {l : List UInt8} (h : ∀ c ∈ l, plainC c = true) : l.any isCrlf = false := by
  rw [List.any_eq_false]
  intro c hc
  have e1 := plain_ne (h c hc) (show plainC 13 = false by decide)
  have e2 := plain_ne (h c hc) (show plainC 10 = false by decide)
  simp [isCrlf, e1, e2]
theorem hdr_len (hs ts : List UInt8) (p tp : Int) (m : Nat) (v : List UInt8) : spHdr hs ts p tp m [.str [67, 111, 110, 116, 101, 110, 116, 45, 76, 101, 110, 103, 116, 104], .str v] = [.str [67, 111, 110, 116, 101, 110, 116, 45, 76, 101, 110, 103, 116, 104], .str (spItoa (m : Int))] := by
  unfold spHdr
  rw [show (spLow (hN [.str [67, 111, 110, 116, 101, 110, 116, 45, 76, 101, 110, 103, 116, 104], .str v]) == sgVia) = false by show (spLow [67, 111, 110, 116, 101, 110, 116, 45, 76, 101, 110, 103, 116, 104] == sgVia) = false; decide,
    show (spLow (hN [.str [67, 111, 110, 116, 101, 110, 116, 45, 76, 101, 110, 103, 116, 104], .str v]) == sgContact) = false by show (spLow [67, 111, 110, 116, 101, 110, 116, 45, 76, 101, 110, 103, 116, 104] == sgContact) = false; decide,
    show (spLow (hN [.str [67, 111, 110, 116, 101, 110, 116, 45, 76, 101, 110, 103, 116, 104], .str v]) == sgLen) = true by show (spLow [67, 111, 110, 116, 101, 110, 116, 45, 76, 101, 110, 103, 116, 104] == sgLen) = true; decide]
  rfl
end Go.Proofs.YtpdgmgkkbbndfaaGreatDoor

set_option maxRecDepth 100000
namespace Go.Proofs.YtpdgmgkkbbndfaaGreatDoor
open Go Go.Proofs Go.Proofs.YtpdgmgkkbbndfaaGreatDoor.SX
end Go.Proofs.YtpdgmgkkbbndfaaGreatDoor

set_option maxRecDepth 100000
namespace Go.Proofs.YtpdgmgkkbbndfaaGreatDoor
open Go Go.Proofs Go.Proofs.YtpdgmgkkbbndfaaGreatDoor.SX
end Go.Proofs.YtpdgmgkkbbndfaaGreatDoor

set_option maxRecDepth 100000
namespace Go.Proofs.YtpdgmgkkbbndfaaGreatDoor
open Go Go.Proofs Go.Proofs.YtpdgmgkkbbndfaaGreatDoor.SX
theorem dw_keep {α : Type} {p : α → Bool} {c : α} {t : List α} (h : (c :: t).dropWhile p = c :: t) : p c = false := by
  cases hp : p c with
  | false => rfl
  | true =>
    rw [List.dropWhile_cons, if_pos hp] at h
    have := (List.dropWhile_suffix p (l := t)).length_le
    rw [h] at this
    simp only [List.length_cons] at this
    omega
theorem trim_edge (v : List UInt8) : (spTrim v [32] == v) = edgeOK v := by
  rw [Bool.eq_iff_iff]
  constructor
  · intro h
    have h : spTrim v [32] = v := by simpa using h
    unfold spTrim Lib.trimS Lib.trimLeftS Lib.trimRightS at h
    have l1 := (List.dropWhile_suffix (fun x => ([32] : List UInt8).contains x) (l := (v.reverse.dropWhile (fun x => ([32] : List UInt8).contains x)).reverse)).length_le
    have l2 := List.dropWhile_suffix (fun x => ([32] : List UInt8).contains x) (l := v.reverse)
    rw [h] at l1
    have e2 : v.reverse.dropWhile (fun x => ([32] : List UInt8).contains x) = v.reverse := by
      refine l2.eq_of_length ?_
      have := l2.length_le
      simp only [List.length_reverse] at l1 this ⊢
      omega
    have e1 : v.dropWhile (fun x => ([32] : List UInt8).contains x) = v := by
      rw [e2, List.reverse_reverse] at h; exact h
    unfold edgeOK
    cases v with
    | nil => rfl
    | cons c t =>
      have n1 := dw_keep e1
      have n1 : c ≠ 32 := by simpa using n1
      have hr : ∃ d m, (c :: t).reverse = d :: m := by
        cases h3 : (c :: t).reverse with
        | nil => have := congrArg List.length h3; simp at this
        | cons d m => exact ⟨d, m, rfl⟩
      obtain ⟨d, m, hd⟩ := hr
      rw [hd] at e2
      have n2 := dw_keep e2
      have n2 : d ≠ 32 := by simpa using n2
      have ed : (c :: t).getD ((c :: t).length - 1) (0 : UInt8) = d := by
        have e3 : c :: t = m.reverse ++ [d] := by have := congrArg List.reverse hd; simpa using this
        rw [e3]
        simp [List.getD_eq_getElem?_getD]
      rw [ed]
      have a1 : ((c.toNat : Nat) : Int) ≠ 32 := fun hx => n1 (UInt8.toNat_inj.1 (by show c.toNat = 32; omega))
      have a2 : ((d.toNat : Nat) : Int) ≠ 32 := fun hx => n2 (UInt8.toNat_inj.1 (by show d.toNat = 32; omega))
      simp [a1, a2]
  · intro h
    unfold edgeOK at h
    cases v with
    | nil => rfl
    | cons c t =>
      have h0 : ((c :: t) == ([] : List UInt8)) = false := rfl
      rw [h0, Bool.false_or, Bool.and_eq_true, Bool.not_eq_true', Bool.not_eq_true', beq_eq_false_iff_ne, beq_eq_false_iff_ne] at h
      obtain ⟨n1, n2⟩ := h
      have p1 : c ≠ 32 := fun hx => n1 (by rw [hx]; rfl)
      cases hr : t.reverse with
      | nil =>
        have et : t = [] := by simpa using hr
        subst et
        unfold spTrim Lib.trimS Lib.trimLeftS Lib.trimRightS
        simp [List.dropWhile_cons, p1]
      | cons d m =>
        have et : t = m.reverse ++ [d] := by have := congrArg List.reverse hr; simpa using this
        subst et
        have p2 : d ≠ 32 := fun hx => n2 (by rw [hx]; simp [List.getD_eq_getElem?_getD])
        rw [trim_ends p1 p2]
        simp
end Go.Proofs.YtpdgmgkkbbndfaaGreatDoor

set_option maxRecDepth 100000
namespace Go.Proofs.YtpdgmgkkbbndfaaGreatDoor
open Go Go.Proofs Go.Proofs.YtpdgmgkkbbndfaaGreatDoor.SX
theorem index_ge (s t : List UInt8) : Lib.index s t = -1 ∨ 0 ≤ Lib.index s t := by
  rcases Lib.index_spec s t with ⟨h, _⟩ | ⟨i, h, _⟩
  · exact .inl h
  · exact .inr (by rw [h]; omega)
theorem cut_skip {b : UInt8} {s t : List UInt8} (h : t.isPrefixOf (b :: s) = false) :
    spFound (b :: s) t = spFound s t ∧ spBefore (b :: s) t = b :: spBefore s t ∧ spAfter (b :: s) t = spAfter s t := by
  unfold spFound spBefore spAfter Lib.cut
  have e : Lib.index (b :: s) t = if Lib.index s t == -1 then -1 else Lib.index s t + 1 := by
    rw [Lib.index, h]; rfl
  rw [e]
  rcases index_ge s t with h1 | h1
  · rw [h1]; exact ⟨rfl, rfl, rfl⟩
  · have h2 : (Lib.index s t == -1) = false := by rw [beq_eq_false_iff_ne]; omega
    have e2 : (if (Lib.index s t == -1) = true then -1 else Lib.index s t + 1) = Lib.index s t + 1 := by rw [h2]; rfl
    rw [e2, if_pos h1, if_pos (show 0 ≤ Lib.index s t + 1 by omega)]
    have h3 : (Lib.index s t + 1).toNat = (Lib.index s t).toNat + 1 := by omega
    rw [h3]
    refine ⟨rfl, rfl, ?_⟩
    show List.drop ((Lib.index s t).toNat + 1 + t.length) (b :: s) = _
    rw [show (Lib.index s t).toNat + 1 + t.length = ((Lib.index s t).toNat + t.length) + 1 by omega]
    rfl
theorem cut_hit {s t : List UInt8} (ht : t ≠ []) (h : t.isPrefixOf s = true) : spFound s t = true ∧ spBefore s t = [] ∧ spAfter s t = s.drop t.length := by
  have e : Lib.index s t = 0 := by
    cases s with
    | nil => cases t with
      | nil => exact absurd rfl ht
      | cons a t => simp at h
    | cons b s => rw [Lib.index, if_pos h]
  unfold spFound spBefore spAfter Lib.cut
  rw [e]
  refine ⟨rfl, rfl, ?_⟩
  show List.drop (Int.toNat 0 + t.length) s = _
  rw [Int.toNat_zero, Nat.zero_add]
theorem pre_no {a b : UInt8} {s t : List UInt8} (h : b ≠ a) : (a :: t).isPrefixOf (b :: s) = false := by
  rw [List.isPrefixOf]
  have : (a == b) = false := by rw [beq_eq_false_iff_ne]; exact fun h' => h h'.symm
  rw [this, Bool.false_and]
theorem cut_over {a : UInt8} {t s : List UInt8} : ∀ {l : List UInt8}, (∀ c ∈ l, c ≠ a) →
    spFound (l ++ s) (a :: t) = spFound s (a :: t) ∧ spBefore (l ++ s) (a :: t) = l ++ spBefore s (a :: t) ∧ spAfter (l ++ s) (a :: t) = spAfter s (a :: t)
  | [], _ => ⟨rfl, rfl, rfl⟩
  | b :: l, h => by
    obtain ⟨i1, i2, i3⟩ := cut_over (s := s) (t := t) (fun c hc => h c (List.mem_cons_of_mem b hc))
    obtain ⟨j1, j2, j3⟩ := cut_skip (s := l ++ s) (pre_no (s := l ++ s) (t := t) (h b (List.mem_cons_self ..)))
    exact ⟨j1.trans i1, j2.trans (by rw [i2]; rfl), j3.trans i3⟩
theorem cut_back {s t : List UInt8} (h : spFound s t = true) : s = spBefore s t ++ (t ++ spAfter s t) := by
  unfold spFound spBefore spAfter Lib.cut at *
  rcases Lib.index_spec s t with ⟨h1, _⟩ | ⟨i, h1, h2, h3, _⟩
  · rw [h1] at h; simp at h
  · rw [h1, if_pos (show 0 ≤ (i : Int) by omega), Int.toNat_natCast]
    unfold Lib.occAt at h3
    rw [List.isPrefixOf_iff_prefix] at h3
    obtain ⟨r, hr⟩ := h3
    show s = s.take i ++ (t ++ s.drop (i + t.length))
    rw [← List.drop_drop, ← hr, List.drop_left', hr, List.take_append_drop]
    rfl
theorem row_bytes_map (l : List UInt8) : (byteRows l).map rowByte = l := by
  unfold byteRows
  rw [List.map_map]
  conv => rhs; rw [← List.map_id l]
  refine List.map_congr_left fun c _ => ?_
  simp [rowByte, byteRow, AV.toInt]
def hdLine (r : List AV) : List UInt8 := hN r ++ colon ++ hV r
def hd (rows : List (List AV)) : List UInt8 := (rows.map fun r => crlf ++ hdLine r).flatten
structure GoodR (r : List AV) : Prop where
  ne : hN r ≠ []
  n13 : ∀ c ∈ hN r, c ≠ 13
  n58 : ∀ c ∈ hN r, c ≠ 58
  v13 : ∀ c ∈ hV r, c ≠ 13
end Go.Proofs.YtpdgmgkkbbndfaaGreatDoor

set_option maxRecDepth 100000
namespace Go.Proofs.YtpdgmgkkbbndfaaGreatDoor
open Go Go.Proofs Go.Proofs.YtpdgmgkkbbndfaaGreatDoor.SX
theorem linesF_fuel : ∀ (n m : Nat) (s : List UInt8), s.length < n → s.length < m → spLinesF n s = spLinesF m s
  | 0, _, _, h, _ => absurd h (Nat.not_lt_zero _)
  | _, 0, _, _, h => absurd h (Nat.not_lt_zero _)
  | n + 1, m + 1, s, h1, h2 => by
    unfold spLinesF
    cases hf : spFound s [13, 10] with
    | false => rfl
    | true =>
      have hl := congrArg List.length (cut_back hf)
      simp only [List.length_append, List.length_cons, List.length_nil] at hl
      rw [cond_true, cond_true, linesF_fuel n m _ (by omega) (by omega)]
end Go.Proofs.YtpdgmgkkbbndfaaGreatDoor

set_option maxRecDepth 100000
namespace Go.Proofs.YtpdgmgkkbbndfaaGreatDoor
open Go Go.Proofs Go.Proofs.YtpdgmgkkbbndfaaGreatDoor.SX
end Go.Proofs.YtpdgmgkkbbndfaaGreatDoor

set_option maxRecDepth 100000
namespace Go.Proofs.YtpdgmgkkbbndfaaGreatDoor
open Go Go.Proofs Go.Proofs.YtpdgmgkkbbndfaaGreatDoor.SX
theorem rowsB (l : List UInt8) : (byteRows l).map rowByte = l := by
  unfold byteRows
  rw [List.map_map]
  conv => rhs; rw [← List.map_id l]
  refine List.map_congr_left fun c _ => ?_
  simp [rowByte, byteRow, AV.toInt]
end Go.Proofs.YtpdgmgkkbbndfaaGreatDoor

set_option maxRecDepth 100000
set_option maxHeartbeats 1600000
namespace Go.Proofs.YtpdgmgkkbbndfaaGreatDoor
open Go Go.Proofs Go.Proofs.YtpdgmgkkbbndfaaGreatDoor.SX
end Go.Proofs.YtpdgmgkkbbndfaaGreatDoor

set_option maxRecDepth 100000
namespace Go.Proofs.YtpdgmgkkbbndfaaGreatDoor
open Go Go.Proofs Go.Proofs.YtpdgmgkkbbndfaaGreatDoor.SX
def isLet (c : UInt8) : Bool := (decide (97 ≤ c.toNat) && decide (c.toNat ≤ 122)) || (decide (65 ≤ c.toNat) && decide (c.toNat ≤ 90))
end Go.Proofs.YtpdgmgkkbbndfaaGreatDoor

set_option maxRecDepth 100000
namespace Go.Proofs.YtpdgmgkkbbndfaaGreatDoor
open Go Go.Proofs Go.Proofs.YtpdgmgkkbbndfaaGreatDoor.SX
end Go.Proofs.YtpdgmgkkbbndfaaGreatDoor

set_option maxRecDepth 100000
namespace Go.Proofs.YtpdgmgkkbbndfaaGreatDoor
open Go Go.Proofs Go.Proofs.YtpdgmgkkbbndfaaGreatDoor.SX
def letB : List UInt8 := [97, 98, 99, 100, 101, 102, 103, 104, 105, 106, 107, 108, 109, 110, 111, 112, 113, 114, 115, 116, 117, 118, 119, 120, 121, 122, 65, 66, 67, 68, 69, 70, 71, 72, 73, 74, 75, 76, 77, 78, 79, 80, 81, 82, 83, 84, 85, 86, 87, 88, 89, 90]
theorem let_tab : ((List.range 256).all fun n => isLet (UInt8.ofNat n) == letB.contains (UInt8.ofNat n)) = true := by decide +kernel
theorem isLet_mem (c : UInt8) : isLet c = letB.contains c := by
  have h := List.all_eq_true.1 let_tab c.toNat (List.mem_range.2 c.toNat_lt)
  have e : UInt8.ofNat c.toNat = c := by apply UInt8.toNat_inj.1; rw [UInt8.toNat_ofNat']; have := c.toNat_lt; omega
  rw [e] at h
  simpa using h
theorem trim_nil {s cs : List UInt8} : spTrim s cs = [] ↔ s.all (fun x => cs.contains x) = true := by
  unfold spTrim Lib.trimS Lib.trimLeftS Lib.trimRightS
  constructor
  · intro h
    cases hd : s.reverse.dropWhile (fun x => cs.contains x) with
    | nil =>
      have h1 : s.reverse.all (fun x => cs.contains x) = true := by
        have h2 := List.takeWhile_append_dropWhile (p := fun x => cs.contains x) (l := s.reverse)
        rw [hd, List.append_nil] at h2
        rw [← h2]; exact List.all_takeWhile
      rw [List.all_reverse] at h1
      exact h1
    | cons c t =>
      exfalso
      have hn : (cs.contains c) = false := by
        have := List.head?_dropWhile_not (fun x => cs.contains x) s.reverse
        rw [hd] at this
        exact this
      rw [hd] at h
      have h2 := List.takeWhile_append_dropWhile (p := fun x => cs.contains x) (l := (c :: t).reverse)
      rw [h, List.append_nil] at h2
      have h3 : ((c :: t).reverse).all (fun x => cs.contains x) = true := by rw [← h2]; exact List.all_takeWhile
      rw [List.all_reverse, List.all_cons, hn] at h3
      cases h3
  · intro h
    have h1 : s.reverse.dropWhile (fun x => cs.contains x) = [] := by
      have h2 : ∀ (l : List UInt8), l.all (fun x => cs.contains x) = true → l.dropWhile (fun x => cs.contains x) = [] := by
        intro l
        induction l with
        | nil => intro _; rfl
        | cons c t ih =>
          intro h
          rw [List.all_cons, Bool.and_eq_true] at h
          rw [List.dropWhile_cons, if_pos h.1]; exact ih h.2
      exact h2 _ (by rw [List.all_reverse]; exact h)
    rw [h1]; rfl
theorem med_cls (s : List UInt8) : spMedK s = true ↔ (spMedW s ≠ [] ∧ spHasPre s [109, 61] = true ∧ spFound (spTrimPre s [109, 61]) [32] = true ∧ spFound (spAfter (spTrimPre s [109, 61]) [32]) [32] = true ∧ spTrim (spMedW s) letB = []) := by
  have e7 : c64k7 s = !(spTrim (spMedW s) letB == []) := rfl
  have e2 : c64k2 s = !(spMedW s == []) := rfl
  have e4 : c64k4 s = !spHasPre s [109, 61] := rfl
  have e5 : c64k5 s = !spFound (spTrimPre s [109, 61]) [32] := rfl
  have e6 : c64k6 s = !spFound (spAfter (spTrimPre s [109, 61]) [32]) [32] := rfl
  unfold spMedK c64_cls
  rw [e7, e2, e4, e5, e6]
  cases h1 : spMedW s == [] <;> cases h2 : spHasPre s [109, 61] <;> cases h3 : spFound (spTrimPre s [109, 61]) [32] <;> cases h4 : spFound (spAfter (spTrimPre s [109, 61]) [32]) [32] <;> cases h5 : spTrim (spMedW s) letB == [] <;> simp_all
theorem pre_m (rest : List UInt8) : spTrimPre (109 :: 61 :: rest) [109, 61] = rest ∧ spHasPre (109 :: 61 :: rest) [109, 61] = true := by
  unfold spTrimPre spHasPre Lib.trimPrefix Lib.hasPrefix
  exact ⟨by simp, by simp⟩
theorem let32 {w : List UInt8} (h : w.all isLet = true) : ∀ c ∈ w, c ≠ 32 := by
  intro c hc e
  have := List.all_eq_true.1 h c hc
  rw [e] at this
  exact absurd this (by decide)
theorem dig32 {w : List UInt8} (h : w.all isDig = true) : ∀ c ∈ w, c ≠ 32 := by
  intro c hc e
  have := List.all_eq_true.1 h c hc
  rw [e] at this
  exact absurd this (by decide)
structure MedLine (l w : List UInt8) (n : Nat) (r : List UInt8) : Prop where
  eq : l = 109 :: 61 :: (w ++ 32 :: (Lib.decDigits n ++ 32 :: r))
  ne : w ≠ []
  lets : w.all isLet = true
  n1 : 1 ≤ n
  n2 : n ≤ 65535
theorem line_prog {l w r : List UInt8} {n : Nat} (h : MedLine l w n r) : spMedN l = (n : Int) ∧ spMedA l = 109 :: 61 :: w ++ [32] ∧ spMedB l = 32 :: r := by
  obtain ⟨p1, p2⟩ := pre_m (w ++ 32 :: (Lib.decDigits n ++ 32 :: r))
  obtain ⟨a1, a2, a3⟩ := cut_char (r := Lib.decDigits n ++ 32 :: r) (let32 h.lets)
  obtain ⟨b1, b2, b3⟩ := cut_char (r := r) (dig32 (dec_dig n).1)
  have hW : spMedW l = w := by unfold spMedW; rw [h.eq, p1, a1]
  have hD : spMedD l = Lib.decDigits n := by unfold spMedD; rw [h.eq, p1, a2, b1]
  have hR : spMedR l = r := by unfold spMedR; rw [h.eq, p1, a2, b2]
  have hK : spMedK l = true := by
    rw [med_cls, hW, h.eq, p1, p2, a2, a3, b3]
    refine ⟨h.ne, rfl, rfl, rfl, trim_nil.2 ?_⟩
    rw [List.all_eq_true]
    intro x hx
    rw [← isLet_mem]; exact List.all_eq_true.1 h.lets x hx
  unfold spMedN spMedA spMedB
  rw [hK, cond_true, cond_true, cond_true, hW, hD, hR]
  refine ⟨?_, rfl, rfl⟩
  have := numeral_itoa n h.n1 h.n2
  rw [itoa_nat] at this
  exact this
end Go.Proofs.YtpdgmgkkbbndfaaGreatDoor

