/- Part 5 of the proof: texts that the last one builds upon. Conditions: as each theorem says. -/
import Derived.Test.YtpdgmgkkbbndfaaGreatDoorB3
import Derived.Shelf.Strings.Split
import Derived.Test.YtpdgmgkkbbndfaaGreatDoorProg
set_option linter.unusedSectionVars false
set_option linter.unusedSimpArgs false
set_option linter.unusedVariables false
set_option maxRecDepth 100000
set_option maxHeartbeats 1600000
namespace Go.Proofs.YtpdgmgkkbbndfaaGreatDoor
open Go Go.Proofs Go.Proofs.YtpdgmgkkbbndfaaGreatDoor.SX
def P14 : Prims := addP (addP (addP (addP (addP (addP Pr 38 q38) 41 (qDig 9223372036854775808)) 42 q42) 44 q44) 43 q43) 14 q14
theorem P14_ok : PrimsOK Tryz.prog P14 := addP_ok (addP_ok (addP_ok (addP_ok (addP_ok (addP_ok Pr_ok q38_ok) (qDig41 _ (Nat.le_refl _))) q42_ok) q44_ok) q43_ok) q14_ok
def b20I (start : List UInt8) (hn bn : Nat) (hrows : List (List AV)) (ln k : Int) : SL := ⟨[(1, .ptr ⟨2, 0, 0⟩), (3, .int .i64 ln), (4, .int .i64 k)], [(0, .cells false [.str, .str] hrows), (2, .cells true [.str, .any, .any] [[.str start, .slq 0 hn, .slq 1 bn]])], 3⟩
def b20k0 (start : List UInt8) (hn bn : Nat) (hrows : List (List AV)) (ln k : Int) : Bool := decide (k < (↑hn : Int))
def b20k1 (start : List UInt8) (hn bn : Nat) (hrows : List (List AV)) (ln k : Int) : Bool := decide (0 < hn)
def b20k2 (start : List UInt8) (hn bn : Nat) (hrows : List (List AV)) (ln k : Int) : Bool := decide ((0 : Int) ≤ k ∧ k < (↑hn : Int))
def b20k3 (start : List UInt8) (hn bn : Nat) (hrows : List (List AV)) (ln k : Int) : Bool := decide (0 + Int.toNat k < List.length hrows)
def b20k4 (start : List UInt8) (hn bn : Nat) (hrows : List (List AV)) (ln k : Int) : Bool := decide (List.length (AV.toStr (List.getD (List.getD hrows (0 + Int.toNat k) []) (0) AV.undef)) ≤ 4611686018427387904)
def b20k5 (start : List UInt8) (hn bn : Nat) (hrows : List (List AV)) (ln k : Int) : Bool := !spName (AV.toStr (List.getD (List.getD hrows (0 + Int.toNat k) []) (0) AV.undef))
theorem b20_TT (start : List UInt8) (hn : Nat) (bn : Nat) (hrows : List (List AV)) (ln : Int) (k : Int) :
 Path (run Tryz.prog P14 100 (lbody Tryz.prog 20 0) (SL.mp 81 ([pT, pT]) (b20I start hn bn hrows ln k))) 3 [] (SL.mk [(2, AV.lit false)] [] 3) (Ex.ret)
 (((((((((((((True ∧ true = true) ∧ b20k0 start hn bn hrows ln k = true) ∧ true = true) ∧ b20k1 start hn bn hrows ln k = true) ∧ b20k2 start hn bn hrows ln k = true) ∧ b20k3 start hn bn hrows ln k = true) ∧ true = true) ∧ true = true) ∧ true = true) ∧ true = true) ∧ true = true) ∧ b20k4 start hn bn hrows ln k = true) ∧ b20k5 start hn bn hrows ln k = true) := by unfold Path; kernel_rfl
def b20k6 (start : List UInt8) (hn bn : Nat) (hrows : List (List AV)) (ln k : Int) : Bool := decide (List.length (AV.toStr (List.getD (List.getD hrows (0 + Int.toNat k) []) (1) AV.undef)) ≤ 4611686018427387904)
def b20k7 (start : List UInt8) (hn bn : Nat) (hrows : List (List AV)) (ln k : Int) : Bool := !spPlain (AV.toStr (List.getD (List.getD hrows (0 + Int.toNat k) []) (1) AV.undef))
theorem b20_TFT (start : List UInt8) (hn : Nat) (bn : Nat) (hrows : List (List AV)) (ln : Int) (k : Int) :
 Path (run Tryz.prog P14 100 (lbody Tryz.prog 20 0) (SL.mp 81 ([pT, pF, pT]) (b20I start hn bn hrows ln k))) 3 [] (SL.mk [(2, AV.lit false)] [] 3) (Ex.ret)
 ((((((((((((((((True ∧ true = true) ∧ b20k0 start hn bn hrows ln k = true) ∧ true = true) ∧ b20k1 start hn bn hrows ln k = true) ∧ b20k2 start hn bn hrows ln k = true) ∧ b20k3 start hn bn hrows ln k = true) ∧ true = true) ∧ true = true) ∧ true = true) ∧ true = true) ∧ true = true) ∧ b20k4 start hn bn hrows ln k = true) ∧ b20k5 start hn bn hrows ln k = false) ∧ true = true) ∧ b20k6 start hn bn hrows ln k = true) ∧ b20k7 start hn bn hrows ln k = true) := by unfold Path; kernel_rfl
def b20k8 (start : List UInt8) (hn bn : Nat) (hrows : List (List AV)) (ln k : Int) : Bool := !AV.toStr (List.getD (List.getD hrows (0 + Int.toNat k) []) (1) AV.undef) == []
def b20k9 (start : List UInt8) (hn bn : Nat) (hrows : List (List AV)) (ln k : Int) : Bool := decide ((0 : Int) ≤ (0 : Int) ∧ (0 : Int) < (↑(List.length (AV.toStr (List.getD (List.getD hrows (0 + Int.toNat k) []) (1) AV.undef))) : Int))
def b20k10 (start : List UInt8) (hn bn : Nat) (hrows : List (List AV)) (ln k : Int) : Bool := (↑(UInt8.toNat (List.getD (AV.toStr (List.getD (List.getD hrows (0 + Int.toNat k) []) (1) AV.undef)) 0 (0 : UInt8))) : Int) == (32 : Int)
theorem b20_TFFTT (start : List UInt8) (hn : Nat) (bn : Nat) (hrows : List (List AV)) (ln : Int) (k : Int) :
 Path (run Tryz.prog P14 100 (lbody Tryz.prog 20 0) (SL.mp 81 ([pT, pF, pF, pT, pT]) (b20I start hn bn hrows ln k))) 3 [] (SL.mk [(2, AV.lit false)] [] 3) (Ex.ret)
 ((((((((((((((((((((True ∧ true = true) ∧ b20k0 start hn bn hrows ln k = true) ∧ true = true) ∧ b20k1 start hn bn hrows ln k = true) ∧ b20k2 start hn bn hrows ln k = true) ∧ b20k3 start hn bn hrows ln k = true) ∧ true = true) ∧ true = true) ∧ true = true) ∧ true = true) ∧ true = true) ∧ b20k4 start hn bn hrows ln k = true) ∧ b20k5 start hn bn hrows ln k = false) ∧ true = true) ∧ b20k6 start hn bn hrows ln k = true) ∧ b20k7 start hn bn hrows ln k = false) ∧ true = true) ∧ b20k8 start hn bn hrows ln k = true) ∧ b20k9 start hn bn hrows ln k = true) ∧ b20k10 start hn bn hrows ln k = true) := by unfold Path; kernel_rfl
def b20k11 (start : List UInt8) (hn bn : Nat) (hrows : List (List AV)) (ln k : Int) : Bool := decide ((0 : Int) ≤ IntKind.wrap IntKind.i64 ((↑(List.length (AV.toStr (List.getD (List.getD hrows (0 + Int.toNat k) []) (1) AV.undef))) : Int) - (1 : Int)) ∧ IntKind.wrap IntKind.i64 ((↑(List.length (AV.toStr (List.getD (List.getD hrows (0 + Int.toNat k) []) (1) AV.undef))) : Int) - (1 : Int)) < (↑(List.length (AV.toStr (List.getD (List.getD hrows (0 + Int.toNat k) []) (1) AV.undef))) : Int))
def b20k12 (start : List UInt8) (hn bn : Nat) (hrows : List (List AV)) (ln k : Int) : Bool := (↑(UInt8.toNat (List.getD (AV.toStr (List.getD (List.getD hrows (0 + Int.toNat k) []) (1) AV.undef)) (Int.toNat (IntKind.wrap IntKind.i64 ((↑(List.length (AV.toStr (List.getD (List.getD hrows (0 + Int.toNat k) []) (1) AV.undef))) : Int) - (1 : Int)))) (0 : UInt8))) : Int) == (32 : Int)
theorem b20_TFFTFT (start : List UInt8) (hn : Nat) (bn : Nat) (hrows : List (List AV)) (ln : Int) (k : Int) :
 Path (run Tryz.prog P14 100 (lbody Tryz.prog 20 0) (SL.mp 81 ([pT, pF, pF, pT, pF, pT]) (b20I start hn bn hrows ln k))) 3 [] (SL.mk [(2, AV.lit false)] [] 3) (Ex.ret)
 ((((((((((((((((((((((True ∧ true = true) ∧ b20k0 start hn bn hrows ln k = true) ∧ true = true) ∧ b20k1 start hn bn hrows ln k = true) ∧ b20k2 start hn bn hrows ln k = true) ∧ b20k3 start hn bn hrows ln k = true) ∧ true = true) ∧ true = true) ∧ true = true) ∧ true = true) ∧ true = true) ∧ b20k4 start hn bn hrows ln k = true) ∧ b20k5 start hn bn hrows ln k = false) ∧ true = true) ∧ b20k6 start hn bn hrows ln k = true) ∧ b20k7 start hn bn hrows ln k = false) ∧ true = true) ∧ b20k8 start hn bn hrows ln k = true) ∧ b20k9 start hn bn hrows ln k = true) ∧ b20k10 start hn bn hrows ln k = false) ∧ b20k11 start hn bn hrows ln k = true) ∧ b20k12 start hn bn hrows ln k = true) := by unfold Path; kernel_rfl
def b20k13 (start : List UInt8) (hn bn : Nat) (hrows : List (List AV)) (ln k : Int) : Bool := decide (List.length (AV.toStr (List.getD (List.getD hrows (0 + Int.toNat k) []) (0) AV.undef)) ≤ 140737488355328)
def b20k14 (start : List UInt8) (hn bn : Nat) (hrows : List (List AV)) (ln k : Int) : Bool := List.map lowerC (AV.toStr (List.getD (List.getD hrows (0 + Int.toNat k) []) (0) AV.undef)) == [(99 : UInt8), (111 : UInt8), (110 : UInt8), (116 : UInt8), (101 : UInt8), (110 : UInt8), (116 : UInt8), (45 : UInt8), (108 : UInt8), (101 : UInt8), (110 : UInt8), (103 : UInt8), (116 : UInt8), (104 : UInt8)]
def b20k15 (start : List UInt8) (hn bn : Nat) (hrows : List (List AV)) (ln k : Int) : Bool := decide ((0 : Int) ≤ (↑bn : Int) ∧ (↑bn : Int) < (9223372036854775808 : Int))
def b20k16 (start : List UInt8) (hn bn : Nat) (hrows : List (List AV)) (ln k : Int) : Bool := !AV.toStr (List.getD (List.getD hrows (0 + Int.toNat k) []) (1) AV.undef) == spDigits (Int.toNat (↑bn : Int))
theorem b20_TFFTFFTT (start : List UInt8) (hn : Nat) (bn : Nat) (hrows : List (List AV)) (ln : Int) (k : Int) :
 Path (run Tryz.prog P14 100 (lbody Tryz.prog 20 0) (SL.mp 81 ([pT, pF, pF, pT, pF, pF, pT, pT]) (b20I start hn bn hrows ln k))) 3 [] (SL.mk [(2, AV.lit false)] [] 3) (Ex.ret)
 (((((((((((((((((((((((((((((True ∧ true = true) ∧ b20k0 start hn bn hrows ln k = true) ∧ true = true) ∧ b20k1 start hn bn hrows ln k = true) ∧ b20k2 start hn bn hrows ln k = true) ∧ b20k3 start hn bn hrows ln k = true) ∧ true = true) ∧ true = true) ∧ true = true) ∧ true = true) ∧ true = true) ∧ b20k4 start hn bn hrows ln k = true) ∧ b20k5 start hn bn hrows ln k = false) ∧ true = true) ∧ b20k6 start hn bn hrows ln k = true) ∧ b20k7 start hn bn hrows ln k = false) ∧ true = true) ∧ b20k8 start hn bn hrows ln k = true) ∧ b20k9 start hn bn hrows ln k = true) ∧ b20k10 start hn bn hrows ln k = false) ∧ b20k11 start hn bn hrows ln k = true) ∧ b20k12 start hn bn hrows ln k = false) ∧ true = true) ∧ b20k13 start hn bn hrows ln k = true) ∧ b20k14 start hn bn hrows ln k = true) ∧ true = true) ∧ true = true) ∧ b20k15 start hn bn hrows ln k = true) ∧ b20k16 start hn bn hrows ln k = true) := by unfold Path; kernel_rfl
theorem b20_TFFTFFTF (start : List UInt8) (hn : Nat) (bn : Nat) (hrows : List (List AV)) (ln : Int) (k : Int) :
 Path (run Tryz.prog P14 100 (lbody Tryz.prog 20 0) (SL.mp 81 ([pT, pF, pF, pT, pF, pF, pT, pF]) (b20I start hn bn hrows ln k))) 3 [] (b20I (start) (hn) (bn) (hrows) (IntKind.wrap IntKind.i64 (ln + (1 : Int))) (IntKind.wrap IntKind.i64 (k + (1 : Int)))) (Ex.normal)
 (((((((((((((((((((((((((((((True ∧ true = true) ∧ b20k0 start hn bn hrows ln k = true) ∧ true = true) ∧ b20k1 start hn bn hrows ln k = true) ∧ b20k2 start hn bn hrows ln k = true) ∧ b20k3 start hn bn hrows ln k = true) ∧ true = true) ∧ true = true) ∧ true = true) ∧ true = true) ∧ true = true) ∧ b20k4 start hn bn hrows ln k = true) ∧ b20k5 start hn bn hrows ln k = false) ∧ true = true) ∧ b20k6 start hn bn hrows ln k = true) ∧ b20k7 start hn bn hrows ln k = false) ∧ true = true) ∧ b20k8 start hn bn hrows ln k = true) ∧ b20k9 start hn bn hrows ln k = true) ∧ b20k10 start hn bn hrows ln k = false) ∧ b20k11 start hn bn hrows ln k = true) ∧ b20k12 start hn bn hrows ln k = false) ∧ true = true) ∧ b20k13 start hn bn hrows ln k = true) ∧ b20k14 start hn bn hrows ln k = true) ∧ true = true) ∧ true = true) ∧ b20k15 start hn bn hrows ln k = true) ∧ b20k16 start hn bn hrows ln k = false) := by unfold Path; kernel_rfl
theorem b20_TFFTFFF (start : List UInt8) (hn : Nat) (bn : Nat) (hrows : List (List AV)) (ln : Int) (k : Int) :
 Path (run Tryz.prog P14 100 (lbody Tryz.prog 20 0) (SL.mp 81 ([pT, pF, pF, pT, pF, pF, pF]) (b20I start hn bn hrows ln k))) 3 [] (b20I (start) (hn) (bn) (hrows) (ln) (IntKind.wrap IntKind.i64 (k + (1 : Int)))) (Ex.normal)
 (((((((((((((((((((((((((True ∧ true = true) ∧ b20k0 start hn bn hrows ln k = true) ∧ true = true) ∧ b20k1 start hn bn hrows ln k = true) ∧ b20k2 start hn bn hrows ln k = true) ∧ b20k3 start hn bn hrows ln k = true) ∧ true = true) ∧ true = true) ∧ true = true) ∧ true = true) ∧ true = true) ∧ b20k4 start hn bn hrows ln k = true) ∧ b20k5 start hn bn hrows ln k = false) ∧ true = true) ∧ b20k6 start hn bn hrows ln k = true) ∧ b20k7 start hn bn hrows ln k = false) ∧ true = true) ∧ b20k8 start hn bn hrows ln k = true) ∧ b20k9 start hn bn hrows ln k = true) ∧ b20k10 start hn bn hrows ln k = false) ∧ b20k11 start hn bn hrows ln k = true) ∧ b20k12 start hn bn hrows ln k = false) ∧ true = true) ∧ b20k13 start hn bn hrows ln k = true) ∧ b20k14 start hn bn hrows ln k = false) := by unfold Path; kernel_rfl
theorem b20_TFFFTT (start : List UInt8) (hn : Nat) (bn : Nat) (hrows : List (List AV)) (ln : Int) (k : Int) :
 Path (run Tryz.prog P14 100 (lbody Tryz.prog 20 0) (SL.mp 81 ([pT, pF, pF, pF, pT, pT]) (b20I start hn bn hrows ln k))) 3 [] (SL.mk [(2, AV.lit false)] [] 3) (Ex.ret)
 (((((((((((((((((((((((((True ∧ true = true) ∧ b20k0 start hn bn hrows ln k = true) ∧ true = true) ∧ b20k1 start hn bn hrows ln k = true) ∧ b20k2 start hn bn hrows ln k = true) ∧ b20k3 start hn bn hrows ln k = true) ∧ true = true) ∧ true = true) ∧ true = true) ∧ true = true) ∧ true = true) ∧ b20k4 start hn bn hrows ln k = true) ∧ b20k5 start hn bn hrows ln k = false) ∧ true = true) ∧ b20k6 start hn bn hrows ln k = true) ∧ b20k7 start hn bn hrows ln k = false) ∧ true = true) ∧ b20k8 start hn bn hrows ln k = false) ∧ true = true) ∧ b20k13 start hn bn hrows ln k = true) ∧ b20k14 start hn bn hrows ln k = true) ∧ true = true) ∧ true = true) ∧ b20k15 start hn bn hrows ln k = true) ∧ b20k16 start hn bn hrows ln k = true) := by unfold Path; kernel_rfl
theorem b20_TFFFTF (start : List UInt8) (hn : Nat) (bn : Nat) (hrows : List (List AV)) (ln : Int) (k : Int) :
 Path (run Tryz.prog P14 100 (lbody Tryz.prog 20 0) (SL.mp 81 ([pT, pF, pF, pF, pT, pF]) (b20I start hn bn hrows ln k))) 3 [] (b20I (start) (hn) (bn) (hrows) (IntKind.wrap IntKind.i64 (ln + (1 : Int))) (IntKind.wrap IntKind.i64 (k + (1 : Int)))) (Ex.normal)
 (((((((((((((((((((((((((True ∧ true = true) ∧ b20k0 start hn bn hrows ln k = true) ∧ true = true) ∧ b20k1 start hn bn hrows ln k = true) ∧ b20k2 start hn bn hrows ln k = true) ∧ b20k3 start hn bn hrows ln k = true) ∧ true = true) ∧ true = true) ∧ true = true) ∧ true = true) ∧ true = true) ∧ b20k4 start hn bn hrows ln k = true) ∧ b20k5 start hn bn hrows ln k = false) ∧ true = true) ∧ b20k6 start hn bn hrows ln k = true) ∧ b20k7 start hn bn hrows ln k = false) ∧ true = true) ∧ b20k8 start hn bn hrows ln k = false) ∧ true = true) ∧ b20k13 start hn bn hrows ln k = true) ∧ b20k14 start hn bn hrows ln k = true) ∧ true = true) ∧ true = true) ∧ b20k15 start hn bn hrows ln k = true) ∧ b20k16 start hn bn hrows ln k = false) := by unfold Path; kernel_rfl
theorem b20_TFFFF (start : List UInt8) (hn : Nat) (bn : Nat) (hrows : List (List AV)) (ln : Int) (k : Int) :
 Path (run Tryz.prog P14 100 (lbody Tryz.prog 20 0) (SL.mp 81 ([pT, pF, pF, pF, pF]) (b20I start hn bn hrows ln k))) 3 [] (b20I (start) (hn) (bn) (hrows) (ln) (IntKind.wrap IntKind.i64 (k + (1 : Int)))) (Ex.normal)
 (((((((((((((((((((((True ∧ true = true) ∧ b20k0 start hn bn hrows ln k = true) ∧ true = true) ∧ b20k1 start hn bn hrows ln k = true) ∧ b20k2 start hn bn hrows ln k = true) ∧ b20k3 start hn bn hrows ln k = true) ∧ true = true) ∧ true = true) ∧ true = true) ∧ true = true) ∧ true = true) ∧ b20k4 start hn bn hrows ln k = true) ∧ b20k5 start hn bn hrows ln k = false) ∧ true = true) ∧ b20k6 start hn bn hrows ln k = true) ∧ b20k7 start hn bn hrows ln k = false) ∧ true = true) ∧ b20k8 start hn bn hrows ln k = false) ∧ true = true) ∧ b20k13 start hn bn hrows ln k = true) ∧ b20k14 start hn bn hrows ln k = false) := by unfold Path; kernel_rfl
theorem b20_F (start : List UInt8) (hn : Nat) (bn : Nat) (hrows : List (List AV)) (ln : Int) (k : Int) :
 Path (run Tryz.prog P14 100 (lbody Tryz.prog 20 0) (SL.mp 81 ([pF]) (b20I start hn bn hrows ln k))) 3 [] (SL.mk [(3, AV.int IntKind.i64 ln)] [] 3) (Ex.exit 0)
 ((True ∧ true = true) ∧ b20k0 start hn bn hrows ln k = false) := by unfold Path; kernel_rfl
def b20_cls (start : List UInt8) (hn bn : Nat) (hrows : List (List AV)) (ln k : Int) : Nat := (bif b20k0 start hn bn hrows ln k then (bif b20k5 start hn bn hrows ln k then 0 else (bif b20k7 start hn bn hrows ln k then 0 else (bif b20k8 start hn bn hrows ln k then (bif b20k10 start hn bn hrows ln k then 0 else (bif b20k12 start hn bn hrows ln k then 0 else (bif b20k14 start hn bn hrows ln k then (bif b20k16 start hn bn hrows ln k then 0 else 1) else 2))) else (bif b20k14 start hn bn hrows ln k then (bif b20k16 start hn bn hrows ln k then 0 else 1) else 2)))) else 3)
theorem b20_c0 (start : List UInt8) (hn bn : Nat) (hrows : List (List AV)) (ln k : Int) (h : b20_cls start hn bn hrows ln k = 0) (m0 : b20k0 start hn bn hrows ln k = true → b20k1 start hn bn hrows ln k = true) (m1 : b20k0 start hn bn hrows ln k = true → b20k2 start hn bn hrows ln k = true) (m2 : b20k0 start hn bn hrows ln k = true → b20k3 start hn bn hrows ln k = true) (m3 : b20k0 start hn bn hrows ln k = true → b20k4 start hn bn hrows ln k = true) (m4 : b20k0 start hn bn hrows ln k = true → b20k5 start hn bn hrows ln k = false → b20k6 start hn bn hrows ln k = true) (m5 : b20k0 start hn bn hrows ln k = true → b20k5 start hn bn hrows ln k = false → b20k7 start hn bn hrows ln k = false → b20k8 start hn bn hrows ln k = true → b20k9 start hn bn hrows ln k = true) (m6 : b20k0 start hn bn hrows ln k = true → b20k5 start hn bn hrows ln k = false → b20k7 start hn bn hrows ln k = false → b20k8 start hn bn hrows ln k = true → b20k10 start hn bn hrows ln k = false → b20k11 start hn bn hrows ln k = true) (m7 : b20k0 start hn bn hrows ln k = true → b20k5 start hn bn hrows ln k = false → b20k7 start hn bn hrows ln k = false → b20k13 start hn bn hrows ln k = true) (m8 : b20k0 start hn bn hrows ln k = true → b20k5 start hn bn hrows ln k = false → b20k7 start hn bn hrows ln k = false → b20k14 start hn bn hrows ln k = true → b20k15 start hn bn hrows ln k = true) : BodyOK Tryz.prog (lbody Tryz.prog 20 0) 81 3 (b20I start hn bn hrows ln k) (Ex.ret) (SL.mk [(2, AV.lit false)] [] 3) := by
  unfold b20_cls at h
  cases q1 : b20k0 start hn bn hrows ln k with
  | true =>
    rw [q1, cond_true] at h
    cases q2 : b20k5 start hn bn hrows ln k with
    | true =>
      rw [q2, cond_true] at h
      exact body_by P14_ok (b20_TT start hn bn hrows ln k) rfl (by simp only [q1, q2, (m0 q1), (m1 q1), (m2 q1), (m3 q1), eq_self, and_true, true_and]) rfl
    | false =>
      rw [q2, cond_false] at h
      cases q3 : b20k7 start hn bn hrows ln k with
      | true =>
        rw [q3, cond_true] at h
        exact body_by P14_ok (b20_TFT start hn bn hrows ln k) rfl (by simp only [q1, q2, q3, (m0 q1), (m1 q1), (m2 q1), (m3 q1), (m4 q1 q2), eq_self, and_true, true_and]) rfl
      | false =>
        rw [q3, cond_false] at h
        cases q4 : b20k8 start hn bn hrows ln k with
        | true =>
          rw [q4, cond_true] at h
          cases q5 : b20k10 start hn bn hrows ln k with
          | true =>
            rw [q5, cond_true] at h
            exact body_by P14_ok (b20_TFFTT start hn bn hrows ln k) rfl (by simp only [q1, q2, q3, q4, q5, (m0 q1), (m1 q1), (m2 q1), (m3 q1), (m4 q1 q2), (m5 q1 q2 q3 q4), eq_self, and_true, true_and]) rfl
          | false =>
            rw [q5, cond_false] at h
            cases q6 : b20k12 start hn bn hrows ln k with
            | true =>
              rw [q6, cond_true] at h
              exact body_by P14_ok (b20_TFFTFT start hn bn hrows ln k) rfl (by simp only [q1, q2, q3, q4, q5, q6, (m0 q1), (m1 q1), (m2 q1), (m3 q1), (m4 q1 q2), (m5 q1 q2 q3 q4), (m6 q1 q2 q3 q4 q5), eq_self, and_true, true_and]) rfl
            | false =>
              rw [q6, cond_false] at h
              cases q7 : b20k14 start hn bn hrows ln k with
              | true =>
                rw [q7, cond_true] at h
                cases q8 : b20k16 start hn bn hrows ln k with
                | true =>
                  rw [q8, cond_true] at h
                  exact body_by P14_ok (b20_TFFTFFTT start hn bn hrows ln k) rfl (by simp only [q1, q2, q3, q4, q5, q6, q7, q8, (m0 q1), (m1 q1), (m2 q1), (m3 q1), (m4 q1 q2), (m5 q1 q2 q3 q4), (m6 q1 q2 q3 q4 q5), (m7 q1 q2 q3), (m8 q1 q2 q3 q7), eq_self, and_true, true_and]) rfl
                | false =>
                  rw [q8, cond_false] at h
                  exact absurd h (by decide)
              | false =>
                rw [q7, cond_false] at h
                exact absurd h (by decide)
        | false =>
          rw [q4, cond_false] at h
          cases q5 : b20k14 start hn bn hrows ln k with
          | true =>
            rw [q5, cond_true] at h
            cases q6 : b20k16 start hn bn hrows ln k with
            | true =>
              rw [q6, cond_true] at h
              exact body_by P14_ok (b20_TFFFTT start hn bn hrows ln k) rfl (by simp only [q1, q2, q3, q4, q5, q6, (m0 q1), (m1 q1), (m2 q1), (m3 q1), (m4 q1 q2), (m7 q1 q2 q3), (m8 q1 q2 q3 q5), eq_self, and_true, true_and]) rfl
            | false =>
              rw [q6, cond_false] at h
              exact absurd h (by decide)
          | false =>
            rw [q5, cond_false] at h
            exact absurd h (by decide)
  | false =>
    rw [q1, cond_false] at h
    exact absurd h (by decide)
theorem b20_c1 (start : List UInt8) (hn bn : Nat) (hrows : List (List AV)) (ln k : Int) (h : b20_cls start hn bn hrows ln k = 1) (m0 : b20k0 start hn bn hrows ln k = true → b20k1 start hn bn hrows ln k = true) (m1 : b20k0 start hn bn hrows ln k = true → b20k2 start hn bn hrows ln k = true) (m2 : b20k0 start hn bn hrows ln k = true → b20k3 start hn bn hrows ln k = true) (m3 : b20k0 start hn bn hrows ln k = true → b20k4 start hn bn hrows ln k = true) (m4 : b20k0 start hn bn hrows ln k = true → b20k5 start hn bn hrows ln k = false → b20k6 start hn bn hrows ln k = true) (m5 : b20k0 start hn bn hrows ln k = true → b20k5 start hn bn hrows ln k = false → b20k7 start hn bn hrows ln k = false → b20k8 start hn bn hrows ln k = true → b20k9 start hn bn hrows ln k = true) (m6 : b20k0 start hn bn hrows ln k = true → b20k5 start hn bn hrows ln k = false → b20k7 start hn bn hrows ln k = false → b20k8 start hn bn hrows ln k = true → b20k10 start hn bn hrows ln k = false → b20k11 start hn bn hrows ln k = true) (m7 : b20k0 start hn bn hrows ln k = true → b20k5 start hn bn hrows ln k = false → b20k7 start hn bn hrows ln k = false → b20k13 start hn bn hrows ln k = true) (m8 : b20k0 start hn bn hrows ln k = true → b20k5 start hn bn hrows ln k = false → b20k7 start hn bn hrows ln k = false → b20k14 start hn bn hrows ln k = true → b20k15 start hn bn hrows ln k = true) : BodyOK Tryz.prog (lbody Tryz.prog 20 0) 81 3 (b20I start hn bn hrows ln k) (Ex.normal) (b20I (start) (hn) (bn) (hrows) (IntKind.wrap IntKind.i64 (ln + (1 : Int))) (IntKind.wrap IntKind.i64 (k + (1 : Int)))) := by
  unfold b20_cls at h
  cases q1 : b20k0 start hn bn hrows ln k with
  | true =>
    rw [q1, cond_true] at h
    cases q2 : b20k5 start hn bn hrows ln k with
    | true =>
      rw [q2, cond_true] at h
      exact absurd h (by decide)
    | false =>
      rw [q2, cond_false] at h
      cases q3 : b20k7 start hn bn hrows ln k with
      | true =>
        rw [q3, cond_true] at h
        exact absurd h (by decide)
      | false =>
        rw [q3, cond_false] at h
        cases q4 : b20k8 start hn bn hrows ln k with
        | true =>
          rw [q4, cond_true] at h
          cases q5 : b20k10 start hn bn hrows ln k with
          | true =>
            rw [q5, cond_true] at h
            exact absurd h (by decide)
          | false =>
            rw [q5, cond_false] at h
            cases q6 : b20k12 start hn bn hrows ln k with
            | true =>
              rw [q6, cond_true] at h
              exact absurd h (by decide)
            | false =>
              rw [q6, cond_false] at h
              cases q7 : b20k14 start hn bn hrows ln k with
              | true =>
                rw [q7, cond_true] at h
                cases q8 : b20k16 start hn bn hrows ln k with
                | true =>
                  rw [q8, cond_true] at h
                  exact absurd h (by decide)
                | false =>
                  rw [q8, cond_false] at h
                  exact body_by P14_ok (b20_TFFTFFTF start hn bn hrows ln k) rfl (by simp only [q1, q2, q3, q4, q5, q6, q7, q8, (m0 q1), (m1 q1), (m2 q1), (m3 q1), (m4 q1 q2), (m5 q1 q2 q3 q4), (m6 q1 q2 q3 q4 q5), (m7 q1 q2 q3), (m8 q1 q2 q3 q7), eq_self, and_true, true_and]) rfl
              | false =>
                rw [q7, cond_false] at h
                exact absurd h (by decide)
        | false =>
          rw [q4, cond_false] at h
          cases q5 : b20k14 start hn bn hrows ln k with
          | true =>
            rw [q5, cond_true] at h
            cases q6 : b20k16 start hn bn hrows ln k with
            | true =>
              rw [q6, cond_true] at h
              exact absurd h (by decide)
            | false =>
              rw [q6, cond_false] at h
              exact body_by P14_ok (b20_TFFFTF start hn bn hrows ln k) rfl (by simp only [q1, q2, q3, q4, q5, q6, (m0 q1), (m1 q1), (m2 q1), (m3 q1), (m4 q1 q2), (m7 q1 q2 q3), (m8 q1 q2 q3 q5), eq_self, and_true, true_and]) rfl
          | false =>
            rw [q5, cond_false] at h
            exact absurd h (by decide)
  | false =>
    rw [q1, cond_false] at h
    exact absurd h (by decide)
theorem b20_c2 (start : List UInt8) (hn bn : Nat) (hrows : List (List AV)) (ln k : Int) (h : b20_cls start hn bn hrows ln k = 2) (m0 : b20k0 start hn bn hrows ln k = true → b20k1 start hn bn hrows ln k = true) (m1 : b20k0 start hn bn hrows ln k = true → b20k2 start hn bn hrows ln k = true) (m2 : b20k0 start hn bn hrows ln k = true → b20k3 start hn bn hrows ln k = true) (m3 : b20k0 start hn bn hrows ln k = true → b20k4 start hn bn hrows ln k = true) (m4 : b20k0 start hn bn hrows ln k = true → b20k5 start hn bn hrows ln k = false → b20k6 start hn bn hrows ln k = true) (m5 : b20k0 start hn bn hrows ln k = true → b20k5 start hn bn hrows ln k = false → b20k7 start hn bn hrows ln k = false → b20k8 start hn bn hrows ln k = true → b20k9 start hn bn hrows ln k = true) (m6 : b20k0 start hn bn hrows ln k = true → b20k5 start hn bn hrows ln k = false → b20k7 start hn bn hrows ln k = false → b20k8 start hn bn hrows ln k = true → b20k10 start hn bn hrows ln k = false → b20k11 start hn bn hrows ln k = true) (m7 : b20k0 start hn bn hrows ln k = true → b20k5 start hn bn hrows ln k = false → b20k7 start hn bn hrows ln k = false → b20k13 start hn bn hrows ln k = true) : BodyOK Tryz.prog (lbody Tryz.prog 20 0) 81 3 (b20I start hn bn hrows ln k) (Ex.normal) (b20I (start) (hn) (bn) (hrows) (ln) (IntKind.wrap IntKind.i64 (k + (1 : Int)))) := by
  unfold b20_cls at h
  cases q1 : b20k0 start hn bn hrows ln k with
  | true =>
    rw [q1, cond_true] at h
    cases q2 : b20k5 start hn bn hrows ln k with
    | true =>
      rw [q2, cond_true] at h
      exact absurd h (by decide)
    | false =>
      rw [q2, cond_false] at h
      cases q3 : b20k7 start hn bn hrows ln k with
      | true =>
        rw [q3, cond_true] at h
        exact absurd h (by decide)
      | false =>
        rw [q3, cond_false] at h
        cases q4 : b20k8 start hn bn hrows ln k with
        | true =>
          rw [q4, cond_true] at h
          cases q5 : b20k10 start hn bn hrows ln k with
          | true =>
            rw [q5, cond_true] at h
            exact absurd h (by decide)
          | false =>
            rw [q5, cond_false] at h
            cases q6 : b20k12 start hn bn hrows ln k with
            | true =>
              rw [q6, cond_true] at h
              exact absurd h (by decide)
            | false =>
              rw [q6, cond_false] at h
              cases q7 : b20k14 start hn bn hrows ln k with
              | true =>
                rw [q7, cond_true] at h
                cases q8 : b20k16 start hn bn hrows ln k with
                | true =>
                  rw [q8, cond_true] at h
                  exact absurd h (by decide)
                | false =>
                  rw [q8, cond_false] at h
                  exact absurd h (by decide)
              | false =>
                rw [q7, cond_false] at h
                exact body_by P14_ok (b20_TFFTFFF start hn bn hrows ln k) rfl (by simp only [q1, q2, q3, q4, q5, q6, q7, (m0 q1), (m1 q1), (m2 q1), (m3 q1), (m4 q1 q2), (m5 q1 q2 q3 q4), (m6 q1 q2 q3 q4 q5), (m7 q1 q2 q3), eq_self, and_true, true_and]) rfl
        | false =>
          rw [q4, cond_false] at h
          cases q5 : b20k14 start hn bn hrows ln k with
          | true =>
            rw [q5, cond_true] at h
            cases q6 : b20k16 start hn bn hrows ln k with
            | true =>
              rw [q6, cond_true] at h
              exact absurd h (by decide)
            | false =>
              rw [q6, cond_false] at h
              exact absurd h (by decide)
          | false =>
            rw [q5, cond_false] at h
            exact body_by P14_ok (b20_TFFFF start hn bn hrows ln k) rfl (by simp only [q1, q2, q3, q4, q5, (m0 q1), (m1 q1), (m2 q1), (m3 q1), (m4 q1 q2), (m7 q1 q2 q3), eq_self, and_true, true_and]) rfl
  | false =>
    rw [q1, cond_false] at h
    exact absurd h (by decide)
theorem b20_c3 (start : List UInt8) (hn bn : Nat) (hrows : List (List AV)) (ln k : Int) (h : b20_cls start hn bn hrows ln k = 3)  : BodyOK Tryz.prog (lbody Tryz.prog 20 0) 81 3 (b20I start hn bn hrows ln k) (Ex.exit 0) (SL.mk [(3, AV.int IntKind.i64 ln)] [] 3) := by
  unfold b20_cls at h
  cases q1 : b20k0 start hn bn hrows ln k with
  | true =>
    rw [q1, cond_true] at h
    cases q2 : b20k5 start hn bn hrows ln k with
    | true =>
      rw [q2, cond_true] at h
      exact absurd h (by decide)
    | false =>
      rw [q2, cond_false] at h
      cases q3 : b20k7 start hn bn hrows ln k with
      | true =>
        rw [q3, cond_true] at h
        exact absurd h (by decide)
      | false =>
        rw [q3, cond_false] at h
        cases q4 : b20k8 start hn bn hrows ln k with
        | true =>
          rw [q4, cond_true] at h
          cases q5 : b20k10 start hn bn hrows ln k with
          | true =>
            rw [q5, cond_true] at h
            exact absurd h (by decide)
          | false =>
            rw [q5, cond_false] at h
            cases q6 : b20k12 start hn bn hrows ln k with
            | true =>
              rw [q6, cond_true] at h
              exact absurd h (by decide)
            | false =>
              rw [q6, cond_false] at h
              cases q7 : b20k14 start hn bn hrows ln k with
              | true =>
                rw [q7, cond_true] at h
                cases q8 : b20k16 start hn bn hrows ln k with
                | true =>
                  rw [q8, cond_true] at h
                  exact absurd h (by decide)
                | false =>
                  rw [q8, cond_false] at h
                  exact absurd h (by decide)
              | false =>
                rw [q7, cond_false] at h
                exact absurd h (by decide)
        | false =>
          rw [q4, cond_false] at h
          cases q5 : b20k14 start hn bn hrows ln k with
          | true =>
            rw [q5, cond_true] at h
            cases q6 : b20k16 start hn bn hrows ln k with
            | true =>
              rw [q6, cond_true] at h
              exact absurd h (by decide)
            | false =>
              rw [q6, cond_false] at h
              exact absurd h (by decide)
          | false =>
            rw [q5, cond_false] at h
            exact absurd h (by decide)
  | false =>
    rw [q1, cond_false] at h
    exact body_by P14_ok (b20_F start hn bn hrows ln k) rfl (by simp only [q1, eq_self, and_true, true_and]) rfl
theorem c20_T (start : List UInt8) (hrows : List (List AV)) (brows : List (List AV)) (ln : Int) :
 Path (runCallB Tryz.prog P14 100 20 [AV.agg [AV.str start, AV.slq 0 (List.length hrows), AV.slq 1 (List.length brows)]] (st0 [Blk.cells false [Kd.str, Kd.str] hrows, Blk.cells false [Kd.int IntKind.u8] brows] ([pT]))) 2 [] (SL.mk [] [] 2) (Out.ret (AV.lit false))
 ((True ∧ (true = true)) ∧ ((start == []) = true)) := by unfold Path; kernel_rfl
theorem c20_FT (start : List UInt8) (hrows : List (List AV)) (brows : List (List AV)) (ln : Int) :
 Path (runCallB Tryz.prog P14 100 20 [AV.agg [AV.str start, AV.slq 0 (List.length hrows), AV.slq 1 (List.length brows)]] (st0 [Blk.cells false [Kd.str, Kd.str] hrows, Blk.cells false [Kd.int IntKind.u8] brows] ([pF, pT]))) 2 [] (SL.mk [] [] 2) (Out.ret (AV.lit false))
 (((((True ∧ (true = true)) ∧ ((start == []) = false)) ∧ (true = true)) ∧ (decide (List.length start ≤ 4611686018427387904) = true)) ∧ ((!spPlain start) = true)) := by unfold Path; kernel_rfl
theorem c20_FFT (start : List UInt8) (hrows : List (List AV)) (brows : List (List AV)) (ln : Int) :
 Path (runCallB Tryz.prog P14 100 20 [AV.agg [AV.str start, AV.slq 0 (List.length hrows), AV.slq 1 (List.length brows)]] (st0 [Blk.cells false [Kd.str, Kd.str] hrows, Blk.cells false [Kd.int IntKind.u8] brows] ([pF, pF, pT]))) 2 [] (SL.mk [] [] 2) (Out.ret (AV.lit false))
 (((((((True ∧ (true = true)) ∧ ((start == []) = false)) ∧ (true = true)) ∧ (decide (List.length start ≤ 4611686018427387904) = true)) ∧ ((!spPlain start) = false)) ∧ (true = true)) ∧ (decide ((↑(List.length hrows) : Int) > (64 : Int)) = true)) := by unfold Path; kernel_rfl
theorem c20_FFFT (start : List UInt8) (hrows : List (List AV)) (brows : List (List AV)) (ln : Int) :
 Path (runCallB Tryz.prog P14 100 20 [AV.agg [AV.str start, AV.slq 0 (List.length hrows), AV.slq 1 (List.length brows)]] (st0 [Blk.cells false [Kd.str, Kd.str] hrows, Blk.cells false [Kd.int IntKind.u8] brows] ([pF, pF, pF, pT]))) 2 [] (SL.mk [] [] 2) (Out.ret (AV.lit false))
 ((((((((((True ∧ (true = true)) ∧ ((start == []) = false)) ∧ (true = true)) ∧ (decide (List.length start ≤ 4611686018427387904) = true)) ∧ ((!spPlain start) = false)) ∧ (true = true)) ∧ (decide ((↑(List.length hrows) : Int) > (64 : Int)) = false)) ∧ (true = true)) ∧ ((decide (0 + List.length hrows ≤ List.length hrows) && (decide (0 + List.length brows ≤ List.length brows) && decide (List.length start ≤ 4294967200 ∧ List.all (sub hrows 0 (List.length hrows)) short = true ∧ List.length (sub hrows 0 (List.length hrows)) ≤ 1000 ∧ List.length (sub brows 0 (List.length brows)) ≤ 140737488355328))) = true)) ∧ (decide ((↑(spSize start (sub hrows 0 (List.length hrows)) (List.length (sub brows 0 (List.length brows)))) : Int) > (4096 : Int)) = true)) := by unfold Path; kernel_rfl
theorem c20_FFFFL (start : List UInt8) (hrows : List (List AV)) (brows : List (List AV)) (ln : Int) :
 Path (runCallB Tryz.prog P14 100 20 [AV.agg [AV.str start, AV.slq 0 (List.length hrows), AV.slq 1 (List.length brows)]] (st0 [Blk.cells false [Kd.str, Kd.str] hrows, Blk.cells false [Kd.int IntKind.u8] brows] ([pF, pF, pF, pF, PI.loop (b20I start (List.length hrows) (List.length brows) hrows (0 : Int) (0 : Int)) (Ex.exit 0) (SL.mk [(3, AV.int IntKind.i64 ln)] [] 3)]))) 2 [] (SL.mk [] [] 2) (Out.ret (AV.bool (ln == (1 : Int))))
 (((((((((((True ∧ (true = true)) ∧ ((start == []) = false)) ∧ (true = true)) ∧ (decide (List.length start ≤ 4611686018427387904) = true)) ∧ ((!spPlain start) = false)) ∧ (true = true)) ∧ (decide ((↑(List.length hrows) : Int) > (64 : Int)) = false)) ∧ (true = true)) ∧ ((decide (0 + List.length hrows ≤ List.length hrows) && (decide (0 + List.length brows ≤ List.length brows) && decide (List.length start ≤ 4294967200 ∧ List.all (sub hrows 0 (List.length hrows)) short = true ∧ List.length (sub hrows 0 (List.length hrows)) ≤ 1000 ∧ List.length (sub brows 0 (List.length brows)) ≤ 140737488355328))) = true)) ∧ (decide ((↑(spSize start (sub hrows 0 (List.length hrows)) (List.length (sub brows 0 (List.length brows)))) : Int) > (4096 : Int)) = false)) ∧ (LoopOK Tryz.prog (lbody Tryz.prog 20 0) (81) (SL.mk [(1, AV.ptr (Loc.mk 2 0 0)), (3, AV.int IntKind.i64 (0 : Int)), (4, AV.int IntKind.i64 (0 : Int))] [(0, Blk.cells false [Kd.str, Kd.str] hrows), (2, Blk.cells true [Kd.str, Kd.any, Kd.any] [[AV.str start, AV.slq 0 (List.length hrows), AV.slq 1 (List.length brows)]])] 3) (Ex.exit 0) (SL.mk [(3, AV.int IntKind.i64 ln)] [] 3))) := by unfold Path; kernel_rfl
theorem c20r_FFFFL (start : List UInt8) (hrows : List (List AV)) (brows : List (List AV)) :
 Path (runCallB Tryz.prog P14 100 20 [AV.agg [AV.str start, AV.slq 0 (List.length hrows), AV.slq 1 (List.length brows)]] (st0 [Blk.cells false [Kd.str, Kd.str] hrows, Blk.cells false [Kd.int IntKind.u8] brows] ([pF, pF, pF, pF, PI.loop (b20I start (List.length hrows) (List.length brows) hrows (0 : Int) (0 : Int)) Ex.ret (SL.mk [(2, AV.lit false)] [] 3)]))) 2 [] (SL.mk [] [] 2) (Out.ret (AV.lit false))
 (((((((((((True ∧ (true = true)) ∧ ((start == []) = false)) ∧ (true = true)) ∧ (decide (List.length start ≤ 4611686018427387904) = true)) ∧ ((!spPlain start) = false)) ∧ (true = true)) ∧ (decide ((↑(List.length hrows) : Int) > (64 : Int)) = false)) ∧ (true = true)) ∧ ((decide (0 + List.length hrows ≤ List.length hrows) && (decide (0 + List.length brows ≤ List.length brows) && decide (List.length start ≤ 4294967200 ∧ List.all (sub hrows 0 (List.length hrows)) short = true ∧ List.length (sub hrows 0 (List.length hrows)) ≤ 1000 ∧ List.length (sub brows 0 (List.length brows)) ≤ 140737488355328))) = true)) ∧ (decide ((↑(spSize start (sub hrows 0 (List.length hrows)) (List.length (sub brows 0 (List.length brows)))) : Int) > (4096 : Int)) = false)) ∧ (LoopOK Tryz.prog (lbody Tryz.prog 20 0) (81) (SL.mk [(1, AV.ptr (Loc.mk 2 0 0)), (3, AV.int IntKind.i64 (0 : Int)), (4, AV.int IntKind.i64 (0 : Int))] [(0, Blk.cells false [Kd.str, Kd.str] hrows), (2, Blk.cells true [Kd.str, Kd.any, Kd.any] [[AV.str start, AV.slq 0 (List.length hrows), AV.slq 1 (List.length brows)]])] 3) Ex.ret (SL.mk [(2, AV.lit false)] [] 3))) := by unfold Path; kernel_rfl
def isLenR (r : List AV) : Bool := List.map lowerC (hN r) == sgLen
def edgeOK (v : List UInt8) : Bool := (v == []) || (!(((v.getD 0 (0 : UInt8)).toNat : Int) == 32) && !(((v.getD (v.length - 1) (0 : UInt8)).toNat : Int) == 32))
def okRef (bn : Nat) (r : List AV) : Bool := spName (hN r) && (spPlain (hV r) && (edgeOK (hV r) && (!isLenR r || hV r == spDigits bn)))
def nLensR (rows : List (List AV)) : Nat := (rows.filter isLenR).length
def spRefRight (start : List UInt8) (rows : List (List AV)) (bn : Nat) : Bool :=
  !(start == []) && (spPlain start && (decide (rows.length ≤ 64) && (decide (start.length + 4 + bn + hSize rows ≤ 4096) && (rows.all (okRef bn) && nLensR rows == 1))))
theorem nLensR_succ {rows : List (List AV)} {k : Nat} (h : k < rows.length) : nLensR (rows.take (k + 1)) = nLensR (rows.take k) + (bif isLenR rows[k] then 1 else 0) := by
  unfold nLensR
  rw [take_snoc h, List.filter_append, List.length_append]
  cases hl : isLenR rows[k] <;> simp only [List.filter_cons, List.filter_nil, hl, if_true, Bool.false_eq_true, if_false, List.length_cons, List.length_nil, cond_true, cond_false]
theorem nLensR_le (rows : List (List AV)) : nLensR rows ≤ rows.length := List.length_filter_le ..
theorem wlast {n : Nat} (h : n ≤ 4294967200) : Int.toNat (IntKind.wrap IntKind.i64 ((n : Int) - 1)) = n - 1 := by
  rw [IntWalk.i64_in _ (by omega)]; omega
theorem row_clsR {start : List UInt8} {bn : Nat} {rows : List (List AV)} {ln : Int} {k : Nat} (h : k < rows.length) (hv : (hV rows[k]).length ≤ 4294967200) :
    b20_cls start rows.length bn rows ln k = bif okRef bn rows[k] then (bif isLenR rows[k] then 1 else 2) else 0 := by
  unfold hV at hv
  unfold b20_cls b20k0 b20k5 b20k7 b20k8 b20k10 b20k12 b20k14 b20k16 okRef isLenR edgeOK hN hV sgLen
  rw [row_at h, decide_eq_true (by omega : (k : Int) < (rows.length : Int)), wlast hv, Int.toNat_natCast]
  cases spName (AV.toStr (List.getD rows[k] 0 AV.undef)) <;> cases spPlain (AV.toStr (List.getD rows[k] 1 AV.undef)) <;> cases (AV.toStr (List.getD rows[k] 1 AV.undef) == []) <;>
    cases (((List.getD (AV.toStr (List.getD rows[k] 1 AV.undef)) 0 (0 : UInt8)).toNat : Int) == 32) <;> cases (((List.getD (AV.toStr (List.getD rows[k] 1 AV.undef)) ((AV.toStr (List.getD rows[k] 1 AV.undef)).length - 1) (0 : UInt8)).toNat : Int) == 32) <;>
    cases (List.map lowerC (AV.toStr (List.getD rows[k] 0 AV.undef)) == [99, 111, 110, 116, 101, 110, 116, 45, 108, 101, 110, 103, 116, 104]) <;> cases (AV.toStr (List.getD rows[k] 1 AV.undef) == spDigits bn) <;> rfl
theorem ref_musts {start : List UInt8} {rows : List (List AV)} {bn : Nat} (ho : RowOK rows bn) {k : Nat} (h : k < rows.length) (ln : Int) :
    b20k1 start rows.length bn rows ln k = true ∧ b20k2 start rows.length bn rows ln k = true ∧ b20k3 start rows.length bn rows ln k = true ∧ b20k4 start rows.length bn rows ln k = true ∧
    b20k6 start rows.length bn rows ln k = true ∧ (b20k8 start rows.length bn rows ln k = true → b20k9 start rows.length bn rows ln k = true) ∧ (b20k8 start rows.length bn rows ln k = true → b20k11 start rows.length bn rows ln k = true) ∧ b20k13 start rows.length bn rows ln k = true ∧ b20k15 start rows.length bn rows ln k = true := by
  have hsh := short_at ho.short h
  have hbn := ho.bn
  unfold hN hV at hsh
  unfold b20k1 b20k2 b20k3 b20k4 b20k6 b20k8 b20k9 b20k11 b20k13 b20k15
  rw [row_at h]
  have hp : (!AV.toStr (List.getD rows[k] 1 AV.undef) == []) = true → 0 < (AV.toStr (List.getD rows[k] 1 AV.undef)).length := by
    intro hx
    cases hl : AV.toStr (List.getD rows[k] 1 AV.undef) with
    | nil => rw [hl] at hx; cases hx
    | cons a l => exact Nat.succ_pos _
  refine ⟨decide_eq_true (by omega), decide_eq_true (by omega), decide_eq_true (by simp; omega), decide_eq_true (by omega), decide_eq_true (by omega), fun hx => ?_, fun hx => ?_, decide_eq_true (by omega), decide_eq_true (by omega)⟩
  · have := hp hx
    exact decide_eq_true (by omega)
  · have := hp hx
    exact decide_eq_true (by rw [IntWalk.i64_in _ (by omega)]; omega)
def I20 (start : List UInt8) (rows : List (List AV)) (bn k : Nat) : SL := b20I start rows.length bn rows ((nLensR (rows.take k) : Nat) : Int) k
theorem ref_ret {start : List UInt8} {rows : List (List AV)} {bn : Nat} (ho : RowOK rows bn) {k : Nat} (h : k < rows.length) (hb : okRef bn rows[k] = false) :
    BodyOK Tryz.prog (lbody Tryz.prog 20 0) 81 3 (I20 start rows bn k) .ret ⟨[(2, .lit false)], [], 3⟩ := by
  obtain ⟨m1, m2, m3, m4, m6, m9, m11, m13, m15⟩ := ref_musts (start := start) ho h ((nLensR (rows.take k) : Nat) : Int)
  have hcl : b20_cls start rows.length bn rows ((nLensR (rows.take k) : Nat) : Int) k = 0 := by rw [row_clsR h (short_at ho.short h).2, hb]; rfl
  exact b20_c0 start rows.length bn rows _ _ hcl (fun _ => m1) (fun _ => m2) (fun _ => m3) (fun _ => m4) (fun _ _ => m6) (fun _ _ _ h => m9 h) (fun _ _ _ h _ => m11 h) (fun _ _ _ => m13) (fun _ _ _ _ => m15)
theorem ref_next {start : List UInt8} {rows : List (List AV)} {bn : Nat} (ho : RowOK rows bn) {k : Nat} (h : k < rows.length) (hb : okRef bn rows[k] = true) :
    BodyOK Tryz.prog (lbody Tryz.prog 20 0) 81 3 (I20 start rows bn k) .normal (I20 start rows bn (k + 1)) := by
  obtain ⟨m1, m2, m3, m4, m6, m9, m11, m13, m15⟩ := ref_musts (start := start) ho h ((nLensR (rows.take k) : Nat) : Int)
  have hlen := ho.len
  have hn1 : nLensR (rows.take k) ≤ 64 := by
    have := nLensR_le (rows.take k)
    have : (rows.take k).length ≤ k := by rw [List.length_take]; exact Nat.min_le_left _ _
    omega
  have w2 := succ64 (n := rows.length) h (by omega)
  have w3 : IntKind.wrap IntKind.i64 (((nLensR (rows.take k) : Nat) : Int) + 1) = ((nLensR (rows.take k) + 1 : Nat) : Int) := by rw [IntWalk.i64_in _ (by omega)]; omega
  have hls := nLensR_succ h
  have hv := (short_at ho.short h).2
  cases hl : isLenR rows[k] with
  | true =>
    rw [hl, cond_true] at hls
    have hcl : b20_cls start rows.length bn rows ((nLensR (rows.take k) : Nat) : Int) k = 1 := by rw [row_clsR h hv, hb, hl]; rfl
    refine BodyOK.to (R := b20I start rows.length bn rows (IntKind.wrap IntKind.i64 (((nLensR (rows.take k) : Nat) : Int) + 1)) (IntKind.wrap IntKind.i64 ((k : Int) + 1))) ?_ (by unfold I20; rw [w2, w3, hls])
    exact b20_c1 start rows.length bn rows _ _ hcl (fun _ => m1) (fun _ => m2) (fun _ => m3) (fun _ => m4) (fun _ _ => m6) (fun _ _ _ h => m9 h) (fun _ _ _ h _ => m11 h) (fun _ _ _ => m13) (fun _ _ _ _ => m15)
  | false =>
    rw [hl, cond_false] at hls
    have hcl : b20_cls start rows.length bn rows ((nLensR (rows.take k) : Nat) : Int) k = 2 := by rw [row_clsR h hv, hb, hl]; rfl
    refine BodyOK.to (R := b20I start rows.length bn rows ((nLensR (rows.take k) : Nat) : Int) (IntKind.wrap IntKind.i64 ((k : Int) + 1))) ?_ (by unfold I20; rw [w2, hls]; rfl)
    exact b20_c2 start rows.length bn rows _ _ hcl (fun _ => m1) (fun _ => m2) (fun _ => m3) (fun _ => m4) (fun _ _ => m6) (fun _ _ _ h => m9 h) (fun _ _ _ h _ => m11 h) (fun _ _ _ => m13)
theorem ref_bad {start : List UInt8} {rows : List (List AV)} {bn : Nat} (ho : RowOK rows bn) {j : Nat} (h : firstAt (fun r => !okRef bn r) rows = some j) :
    LoopOK Tryz.prog (lbody Tryz.prog 20 0) 81 (I20 start rows bn 0) .ret ⟨[(2, .lit false)], [], 3⟩ := by
  obtain ⟨hj, h2, h3⟩ := firstAt_some h
  refine loop_rule (E := I20 start rows bn 0) (I := fun k : Nat => I20 start rows bn k) (pre := fun k => k ≤ j) (μ := fun k => j - k) _ _ rfl (fun ρ => by simp [Ex.conc]) ?_ (x0 := 0) (pick := []) (Nat.zero_le _) ⟨by kernel_rfl, map_fst_snd (by kernel_rfl)⟩
  intro k hk
  by_cases hkj : k = j
  · right
    subst hkj
    exact ref_ret ho hj (by simpa using h2)
  · left
    exact ⟨k + 1, by omega, by omega, ref_next ho (by omega) (by have := h3 k (by omega); simpa using this)⟩
theorem ref_end {start : List UInt8} {rows : List (List AV)} {bn : Nat} (ho : RowOK rows bn) (h : firstAt (fun r => !okRef bn r) rows = none) :
    LoopOK Tryz.prog (lbody Tryz.prog 20 0) 81 (I20 start rows bn 0) (.exit 0) ⟨[(3, .int .i64 ((nLensR rows : Nat) : Int))], [], 3⟩ := by
  have h3 := firstAt_none h
  refine loop_rule (E := I20 start rows bn 0) (I := fun k : Nat => I20 start rows bn k) (pre := fun k => k ≤ rows.length) (μ := fun k => rows.length - k) _ _ rfl (fun ρ => by simp [Ex.conc]) ?_ (x0 := 0) (pick := []) (Nat.zero_le _) ⟨by kernel_rfl, map_fst_snd (by kernel_rfl)⟩
  intro k hk
  by_cases hkl : k < rows.length
  · left
    exact ⟨k + 1, by omega, by omega, ref_next ho hkl (by have := h3 k hkl; simpa using this)⟩
  · right
    have hk' : k = rows.length := by omega
    subst hk'
    have hx := b20_c3 start rows.length bn rows ((nLensR (rows.take rows.length) : Nat) : Int) rows.length (by unfold b20_cls b20k0; rw [decide_eq_false (by omega)]; rfl)
    rw [List.take_length] at hx
    exact (by unfold I20; rw [List.take_length]; exact hx)
theorem ref_right_calls {start : List UInt8} {hrows brows : List (List AV)} {ρ : Nat → BI} {w : World} (hE : HSim ρ (addBlks .e 0 [.cells false [.str, .str] hrows, .cells false [.int .u8] brows]) ([.cells false [.str, .str] hrows, .cells false [.int .u8] brows] : List Blk).length w)
    (hst : start.length ≤ 4294967200) (hsh : hrows.all short = true) (hbn : brows.length ≤ 140737488355328) :
    Calls Tryz.prog 20 (concL ρ [.agg [.str start, .slq 0 hrows.length, .slq 1 brows.length]]).toArray w (fun e w' => e = .returned (conc ρ (.bool (spRefRight start hrows brows.length))) ∧ Ext w w') := by
  have hs1 : sub hrows 0 hrows.length = hrows := sub_all hrows rfl
  have hs2 : sub brows 0 brows.length = brows := sub_all brows rfl
  have b1 : decide (start.length ≤ 4611686018427387904) = true := decide_eq_true (by omega)
  unfold spRefRight
  cases e1 : (start == ([] : List UInt8)) with
  | true => exact calls_pureB P14_ok (c20_T start hrows brows 0) ⟨⟨trivial, rfl⟩, e1⟩ hE rfl rfl rfl
  | false =>
    cases e2 : spPlain start with
    | false =>
      have e2 : (!spPlain start) = true := by rw [e2]; rfl
      exact calls_pureB P14_ok (c20_FT start hrows brows 0) ⟨⟨⟨⟨⟨trivial, rfl⟩, e1⟩, rfl⟩, b1⟩, e2⟩ hE rfl rfl rfl
    | true =>
      have e2 : (!spPlain start) = false := by rw [e2]; rfl
      by_cases h3 : hrows.length ≤ 64
      · rw [decide_eq_true h3]
        have e3 : decide ((hrows.length : Int) > 64) = false := decide_eq_false (by omega)
        have ho : RowOK hrows brows.length := ⟨h3, hsh, hbn⟩
        have b2 : (decide (0 + hrows.length ≤ hrows.length) && (decide (0 + brows.length ≤ brows.length) && decide (start.length ≤ 4294967200 ∧ (sub hrows 0 hrows.length).all short = true ∧ (sub hrows 0 hrows.length).length ≤ 1000 ∧ (sub brows 0 brows.length).length ≤ 140737488355328))) = true := by
          rw [hs1, hs2]; simp only [Bool.and_eq_true, decide_eq_true_eq]; exact ⟨by omega, by omega, hst, hsh, by omega, hbn⟩
        by_cases h4 : start.length + 4 + brows.length + hSize hrows ≤ 4096
        · rw [decide_eq_true h4]
          have e4 : decide (((spSize start (sub hrows 0 hrows.length) (sub brows 0 brows.length).length : Nat) : Int) > 4096) = false := by
            rw [hs1, hs2]
            have := size_big start hrows brows.length
            exact decide_eq_false (by omega)
          cases hf : firstAt (fun r => !okRef brows.length r) hrows with
          | some j =>
            have hall : hrows.all (okRef brows.length) = false := by
              cases h : hrows.all (okRef brows.length) with
              | false => rfl
              | true => rw [← firstAt_all] at h; rw [h] at hf; cases hf
            rw [hall]
            have hl := ref_bad (start := start) ho hf
            exact calls_pureB P14_ok (c20r_FFFFL start hrows brows) ⟨⟨⟨⟨⟨⟨⟨⟨⟨⟨⟨trivial, rfl⟩, e1⟩, rfl⟩, b1⟩, e2⟩, rfl⟩, e3⟩, rfl⟩, b2⟩, e4⟩, hl⟩ hE rfl rfl rfl
          | none =>
            have hall : hrows.all (okRef brows.length) = true := firstAt_all.1 hf
            rw [hall]
            have hl := ref_end (start := start) ho hf
            have e5 : (((nLensR hrows : Nat) : Int) == 1) = (nLensR hrows == 1) := by rw [Bool.eq_iff_iff]; simp only [beq_iff_eq]; omega
            have hr := calls_pureB P14_ok (c20_FFFFL start hrows brows ((nLensR hrows : Nat) : Int)) ⟨⟨⟨⟨⟨⟨⟨⟨⟨⟨⟨trivial, rfl⟩, e1⟩, rfl⟩, b1⟩, e2⟩, rfl⟩, e3⟩, rfl⟩, b2⟩, e4⟩, hl⟩ hE rfl rfl rfl
            rw [e5] at hr
            exact hr
        · rw [decide_eq_false h4]
          have e4 : decide (((spSize start (sub hrows 0 hrows.length) (sub brows 0 brows.length).length : Nat) : Int) > 4096) = true := by
            rw [hs1, hs2]
            have := size_big start hrows brows.length
            exact decide_eq_true (by omega)
          exact calls_pureB P14_ok (c20_FFFT start hrows brows 0) ⟨⟨⟨⟨⟨⟨⟨⟨⟨⟨trivial, rfl⟩, e1⟩, rfl⟩, b1⟩, e2⟩, rfl⟩, e3⟩, rfl⟩, b2⟩, e4⟩ hE rfl rfl rfl
      · rw [decide_eq_false h3]
        have e3 : decide ((hrows.length : Int) > 64) = true := decide_eq_true (by omega)
        exact calls_pureB P14_ok (c20_FFT start hrows brows 0) ⟨⟨⟨⟨⟨⟨⟨trivial, rfl⟩, e1⟩, rfl⟩, b1⟩, e2⟩, rfl⟩, e3⟩ hE rfl rfl rfl
def q20 : Entry := fun args hp nx => match args with
  | [.agg [.str start, hv, bv]] => match slIn hp [.str, .str] hv, slIn hp [.int .u8] bv with
    | some (c1, hrows), some (c2, brows) => some (c1 && (c2 && decide (start.length ≤ 4294967200 ∧ hrows.all short = true ∧ brows.length ≤ 140737488355328)), .bool (spRefRight start hrows brows.length), [])
    | _, _ => none
  | _ => none
theorem q20_ok : EntryOK Tryz.prog 20 q20 := by
  intro args hp nx c v bs h hc ρ w hs hi
  unfold q20 at h
  split at h
  · rename_i start hv bv
    split at h
    · rename_i c1 hrows c2 brows hs1 hs2
      cases h
      simp only [Bool.and_eq_true] at hc
      obtain ⟨hc1, hc2, hc3⟩ := hc
      obtain ⟨g1, g2, g3⟩ := of_decide_eq_true hc3
      obtain ⟨ρ0, hE, e1, e2⟩ := two_ro hs hs1 hc1 hs2 hc2
      refine entry_pure hs rfl ?_
      have hcall := ref_right_calls (start := start) hE g1 g2 g3
      have ea : concL ρ0 [AV.agg [AV.str start, AV.slq 0 hrows.length, AV.slq 1 brows.length]] = concL ρ [AV.agg [.str start, hv, bv]] := by
        show [Value.agg (concL ρ0 [AV.str start, .slq 0 hrows.length, .slq 1 brows.length]).toArray] = _
        simp only [concL]
        rw [e1, e2]
        rfl
      rw [ea] at hcall
      exact hcall
    · cases h
  · cases h
def P15 : Prims := addP P14 20 q20
theorem P15_ok : PrimsOK Tryz.prog P15 := addP_ok P14_ok q20_ok
end Go.Proofs.YtpdgmgkkbbndfaaGreatDoor

set_option maxRecDepth 100000
namespace Go.Proofs.YtpdgmgkkbbndfaaGreatDoor
open Go Go.Proofs Go.Proofs.YtpdgmgkkbbndfaaGreatDoor.SX
theorem trim_ends {c d : UInt8} {m : List UInt8} (hc : c ≠ 32) (hd : d ≠ 32) : spTrim (c :: (m ++ [d])) [32] = c :: (m ++ [d]) := by
  unfold spTrim Lib.trimS Lib.trimRightS Lib.trimLeftS
  have e : (c :: (m ++ [d])).reverse = d :: (m.reverse ++ [c]) := by simp
  rw [e]
  simp [List.dropWhile_cons, hc, hd]
end Go.Proofs.YtpdgmgkkbbndfaaGreatDoor

set_option maxRecDepth 100000
namespace Go.Proofs.YtpdgmgkkbbndfaaGreatDoor
open Go Go.Proofs Go.Proofs.YtpdgmgkkbbndfaaGreatDoor.SX
def hp (a p : Int) : List UInt8 := spDotted a ++ [58] ++ spItoa p
def v1 (h : List UInt8) : List UInt8 := mkVia ++ (h ++ [59, 120])
def v2 (h : List UInt8) : List UInt8 := [60, 115, 105, 112, 58, 97] ++ 64 :: (h ++ [62])
end Go.Proofs.YtpdgmgkkbbndfaaGreatDoor

set_option maxRecDepth 100000
namespace Go.Proofs.YtpdgmgkkbbndfaaGreatDoor
open Go Go.Proofs Go.Proofs.YtpdgmgkkbbndfaaGreatDoor.SX
theorem cut_none {s t : List UInt8} (h : spFound s t = false) : spBefore s t = s := by
  unfold spFound Lib.cut at h
  unfold spBefore Lib.cut
  split at h
  · cases h
  · rename_i hi; rw [if_neg hi]
end Go.Proofs.YtpdgmgkkbbndfaaGreatDoor

set_option maxRecDepth 100000
set_option maxHeartbeats 1600000
namespace Go.Proofs.YtpdgmgkkbbndfaaGreatDoor
open Go Go.Proofs Go.Proofs.YtpdgmgkkbbndfaaGreatDoor.SX
theorem occ_at {t : List UInt8} {k : Nat} (h : k + 1 < t.length) : Lib.occAt t [13, 10] k = ((t[k] == 13) && (t[k + 1] == 10)) := by
  unfold Lib.occAt
  rw [List.drop_eq_getElem_cons (show k < t.length by omega), List.drop_eq_getElem_cons h]
  rw [Bool.eq_iff_iff]
  simp only [List.isPrefixOf, Bool.and_true, Bool.and_eq_true, beq_iff_eq]
  exact ⟨fun h => ⟨h.1.symm, h.2.symm⟩, fun h => ⟨h.1.symm, h.2.symm⟩⟩
theorem occ_end {t : List UInt8} {k : Nat} (h : t.length ≤ k + 1) : Lib.occAt t [13, 10] k = false := by
  unfold Lib.occAt
  cases hp : ([13, 10] : List UInt8).isPrefixOf (t.drop k) with
  | false => rfl
  | true =>
    rw [List.isPrefixOf_iff_prefix] at hp
    have := hp.length_le
    simp only [List.length_drop, List.length_cons, List.length_nil] at this
    omega
theorem sub_at {s : List UInt8} {o n k : Nat} (h : o + n ≤ s.length) (hk : k < n) : ∃ (h1 : k < (sub s o n).length) (h2 : o + k < s.length), (sub s o n)[k] = s[o + k] := by
  refine ⟨by rw [sub_length h]; exact hk, by omega, ?_⟩
  have := sub_get (l := s) (i := o) hk
  rw [List.getElem?_eq_getElem (by rw [sub_length h]; exact hk), List.getElem?_eq_getElem (show o + k < s.length by omega)] at this
  exact Option.some.inj this
theorem sub_map {α β : Type} (f : α → β) (l : List α) (i n : Nat) : (sub l i n).map f = sub (l.map f) i n := by simp [sub]
theorem rowsB (l : List UInt8) : (byteRows l).map rowByte = l := by
  unfold byteRows
  rw [List.map_map]
  conv => rhs; rw [← List.map_id l]
  refine List.map_congr_left fun c _ => ?_
  simp [rowByte, byteRow, AV.toInt]
def b712I (brows : List (List AV)) (o n c : Nat) (k : Int) : SL := ⟨[(0, .sl ⟨0, o, 0⟩ n (.known c)), (5, .int .i64 k)], [(0, .cells false [.int .u8] brows)], 2⟩
def r712 (brows : List (List AV)) (l : List UInt8) (o2 n2 c2 : Nat) : SL := ⟨[(2, .str l), (3, .sl ⟨0, o2, 0⟩ n2 (.known c2)), (4, .lit true)], [(0, .cells false [.int .u8] brows)], 2⟩
def e712 (brows : List (List AV)) : SL := ⟨[], [(0, .cells false [.int .u8] brows)], 2⟩
theorem b712_TTT (brows : List (List AV)) (o : Nat) (n : Nat) (c : Nat) (k : Int) :
 Path (run Tryz.prog Pr 100 (lbody Tryz.prog 71 0) (SL.mp 34 ([.as_ true, .as_ true, .as_ true]) (b712I brows o n c k))) 2 [] (r712 brows (List.map rowByte (sub brows o (Int.toNat k - 0))) (cutI (some (AV.int IntKind.i64 (IntKind.wrap IntKind.i64 (k + (2 : Int))))) (↑c : Int) (IntKind.wrap IntKind.i64 (k + (2 : Int))) o) (Int.toNat (↑n : Int) - Int.toNat (IntKind.wrap IntKind.i64 (k + (2 : Int)))) (Int.toNat (↑c : Int) - Int.toNat (IntKind.wrap IntKind.i64 (k + (2 : Int))))) (Ex.ret)
 ((((((((((True ∧ (decide (IntKind.wrap IntKind.i64 (k + (1 : Int)) < (↑n : Int)) = true)) ∧ (decide ((0 : Int) ≤ k ∧ k < (↑n : Int)) = true)) ∧ (decide (o + Int.toNat k < List.length brows) = true)) ∧ ((AV.toInt (List.getD (List.getD brows (o + Int.toNat k) []) (0) AV.undef) == (13 : Int)) = true)) ∧ (decide ((0 : Int) ≤ IntKind.wrap IntKind.i64 (k + (1 : Int)) ∧ IntKind.wrap IntKind.i64 (k + (1 : Int)) < (↑n : Int)) = true)) ∧ (decide (o + Int.toNat (IntKind.wrap IntKind.i64 (k + (1 : Int))) < List.length brows) = true)) ∧ ((AV.toInt (List.getD (List.getD brows (o + Int.toNat (IntKind.wrap IntKind.i64 (k + (1 : Int)))) []) (0) AV.undef) == (10 : Int)) = true)) ∧ (decide ((0 : Int) ≤ (0 : Int) ∧ (0 : Int) ≤ k ∧ k ≤ (↑c : Int) ∧ (↑c : Int) ≤ (↑c : Int)) = true)) ∧ (decide (o + (Int.toNat k - 0) ≤ List.length brows) = true)) ∧ (decide ((0 : Int) ≤ IntKind.wrap IntKind.i64 (k + (2 : Int)) ∧ IntKind.wrap IntKind.i64 (k + (2 : Int)) ≤ (↑n : Int) ∧ (↑n : Int) ≤ (↑c : Int) ∧ (↑c : Int) ≤ (↑c : Int)) = true)) := by unfold Path; kernel_rfl
theorem b712_TTF (brows : List (List AV)) (o : Nat) (n : Nat) (c : Nat) (k : Int) :
 Path (run Tryz.prog Pr 100 (lbody Tryz.prog 71 0) (SL.mp 34 ([.as_ true, .as_ true, .as_ false]) (b712I brows o n c k))) 2 [] (b712I (brows) (o) (n) (c) (IntKind.wrap IntKind.i64 (k + (1 : Int)))) (Ex.normal)
 (((((((True ∧ (decide (IntKind.wrap IntKind.i64 (k + (1 : Int)) < (↑n : Int)) = true)) ∧ (decide ((0 : Int) ≤ k ∧ k < (↑n : Int)) = true)) ∧ (decide (o + Int.toNat k < List.length brows) = true)) ∧ ((AV.toInt (List.getD (List.getD brows (o + Int.toNat k) []) (0) AV.undef) == (13 : Int)) = true)) ∧ (decide ((0 : Int) ≤ IntKind.wrap IntKind.i64 (k + (1 : Int)) ∧ IntKind.wrap IntKind.i64 (k + (1 : Int)) < (↑n : Int)) = true)) ∧ (decide (o + Int.toNat (IntKind.wrap IntKind.i64 (k + (1 : Int))) < List.length brows) = true)) ∧ ((AV.toInt (List.getD (List.getD brows (o + Int.toNat (IntKind.wrap IntKind.i64 (k + (1 : Int)))) []) (0) AV.undef) == (10 : Int)) = false)) := by unfold Path; kernel_rfl
theorem b712_TF (brows : List (List AV)) (o : Nat) (n : Nat) (c : Nat) (k : Int) :
 Path (run Tryz.prog Pr 100 (lbody Tryz.prog 71 0) (SL.mp 34 ([.as_ true, .as_ false]) (b712I brows o n c k))) 2 [] (b712I (brows) (o) (n) (c) (IntKind.wrap IntKind.i64 (k + (1 : Int)))) (Ex.normal)
 ((((True ∧ (decide (IntKind.wrap IntKind.i64 (k + (1 : Int)) < (↑n : Int)) = true)) ∧ (decide ((0 : Int) ≤ k ∧ k < (↑n : Int)) = true)) ∧ (decide (o + Int.toNat k < List.length brows) = true)) ∧ ((AV.toInt (List.getD (List.getD brows (o + Int.toNat k) []) (0) AV.undef) == (13 : Int)) = false)) := by unfold Path; kernel_rfl
theorem b712_F (brows : List (List AV)) (o : Nat) (n : Nat) (c : Nat) (k : Int) :
 Path (run Tryz.prog Pr 100 (lbody Tryz.prog 71 0) (SL.mp 34 ([.as_ false]) (b712I brows o n c k))) 2 [] (e712 brows) (Ex.exit 0)
 (True ∧ (decide (IntKind.wrap IntKind.i64 (k + (1 : Int)) < (↑n : Int)) = false)) := by unfold Path; kernel_rfl
theorem round712 {s : List UInt8} {o n c k : Nat} (ho : o + n ≤ s.length) (hc : n ≤ c) (hs : s.length ≤ 1048576) (hk : k + 1 < n) :
    (Lib.occAt (sub s o n) [13, 10] k = false → BodyOK Tryz.prog (lbody Tryz.prog 71 0) 34 2 (b712I (byteRows s) o n c k) .normal (b712I (byteRows s) o n c ((k + 1 : Nat) : Int))) ∧
    (Lib.occAt (sub s o n) [13, 10] k = true → ∃ o2 n2 c2, BodyOK Tryz.prog (lbody Tryz.prog 71 0) 34 2 (b712I (byteRows s) o n c k) .ret (r712 (byteRows s) ((sub s o n).take k) o2 n2 c2) ∧ o2 + n2 ≤ s.length ∧ n2 ≤ c2 ∧ sub s o2 n2 = (sub s o n).drop (k + 2) ∧ n2 + (k + 2) = n) := by
  obtain ⟨x1, x2, x3⟩ := sub_at ho (show k < n by omega)
  obtain ⟨y1, y2, y3⟩ := sub_at ho hk
  have w1 : IntKind.wrap IntKind.i64 ((k : Int) + 1) = ((k + 1 : Nat) : Int) := succ64 (n := n) (by omega) (by omega)
  have w2 : IntKind.wrap IntKind.i64 ((k : Int) + 2) = ((k + 2 : Nat) : Int) := by rw [IntWalk.i64_in _ (by omega)]; omega
  have b1 : AV.toInt (List.getD (List.getD (byteRows s) (o + Int.toNat (k : Int)) []) 0 AV.undef) = ((sub s o n)[k].toNat : Int) := by rw [Int.toNat_natCast, byte_at x2, x3]
  have b2 : AV.toInt (List.getD (List.getD (byteRows s) (o + Int.toNat (IntKind.wrap IntKind.i64 ((k : Int) + 1))) []) 0 AV.undef) = ((sub s o n)[k + 1].toNat : Int) := by
    rw [w1, Int.toNat_natCast]
    have := byte_at y2
    rw [this, y3]
  have i1 : ∀ (a : UInt8), (((a.toNat : Nat) : Int) == 13) = (a == 13) := fun a => u8i a 13
  have i2 : ∀ (a : UInt8), (((a.toNat : Nat) : Int) == 10) = (a == 10) := fun a => u8i a 10
  have c0 : decide (IntKind.wrap IntKind.i64 ((k : Int) + (1 : Int)) < (n : Int)) = true := decide_eq_true (by rw [w1]; omega)
  have c1 : decide ((0 : Int) ≤ (k : Int) ∧ (k : Int) < (n : Int)) = true := decide_eq_true (by omega)
  have c2 : decide (o + Int.toNat (k : Int) < List.length (byteRows s)) = true := decide_eq_true (by rw [byteRows_length, Int.toNat_natCast]; exact x2)
  have c3 : decide ((0 : Int) ≤ IntKind.wrap IntKind.i64 ((k : Int) + (1 : Int)) ∧ IntKind.wrap IntKind.i64 ((k : Int) + (1 : Int)) < (n : Int)) = true := decide_eq_true (by rw [w1]; omega)
  have c4 : decide (o + Int.toNat (IntKind.wrap IntKind.i64 ((k : Int) + (1 : Int))) < List.length (byteRows s)) = true := decide_eq_true (by rw [byteRows_length, w1, Int.toNat_natCast]; omega)
  have hl : (sub s o n).length = n := sub_length ho
  have hoc := occ_at (t := sub s o n) (k := k) (by rw [hl]; exact hk)
  rw [hoc]
  refine ⟨fun h => ?_, fun h => ?_⟩
  · cases h1 : (sub s o n)[k] == 13 with
    | false =>
      have q1 : (AV.toInt (List.getD (List.getD (byteRows s) (o + Int.toNat (k : Int)) []) 0 AV.undef) == (13 : Int)) = false := by rw [b1, i1]; exact h1
      exact body_by Pr_ok (b712_TF (byteRows s) o n c k) (by rw [w1]) ⟨⟨⟨⟨trivial, c0⟩, c1⟩, c2⟩, q1⟩ rfl
    | true =>
      have q1 : (AV.toInt (List.getD (List.getD (byteRows s) (o + Int.toNat (k : Int)) []) 0 AV.undef) == (13 : Int)) = true := by rw [b1, i1]; exact h1
      have q2 : (AV.toInt (List.getD (List.getD (byteRows s) (o + Int.toNat (IntKind.wrap IntKind.i64 ((k : Int) + (1 : Int)))) []) 0 AV.undef) == (10 : Int)) = false := by rw [b2, i2]; rw [h1, Bool.true_and] at h; exact h
      exact body_by Pr_ok (b712_TTF (byteRows s) o n c k) (by rw [w1]) ⟨⟨⟨⟨⟨⟨⟨trivial, c0⟩, c1⟩, c2⟩, q1⟩, c3⟩, c4⟩, q2⟩ rfl
  · rw [Bool.and_eq_true] at h
    have q1 : (AV.toInt (List.getD (List.getD (byteRows s) (o + Int.toNat (k : Int)) []) 0 AV.undef) == (13 : Int)) = true := by rw [b1, i1]; exact h.1
    have q2 : (AV.toInt (List.getD (List.getD (byteRows s) (o + Int.toNat (IntKind.wrap IntKind.i64 ((k : Int) + (1 : Int)))) []) 0 AV.undef) == (10 : Int)) = true := by rw [b2, i2]; exact h.2
    have c5 : decide ((0 : Int) ≤ (0 : Int) ∧ (0 : Int) ≤ (k : Int) ∧ (k : Int) ≤ (c : Int) ∧ (c : Int) ≤ (c : Int)) = true := decide_eq_true (by omega)
    have c6 : decide (o + (Int.toNat (k : Int) - 0) ≤ List.length (byteRows s)) = true := decide_eq_true (by rw [byteRows_length, Int.toNat_natCast]; omega)
    have c7 : decide ((0 : Int) ≤ IntKind.wrap IntKind.i64 ((k : Int) + (2 : Int)) ∧ IntKind.wrap IntKind.i64 ((k : Int) + (2 : Int)) ≤ (n : Int) ∧ (n : Int) ≤ (c : Int) ∧ (c : Int) ≤ (c : Int)) = true := decide_eq_true (by rw [w2]; omega)
    have e1 : List.map rowByte (sub (byteRows s) o (Int.toNat (k : Int) - 0)) = (sub s o n).take k := by
      rw [sub_map, rowsB, Int.toNat_natCast, Nat.sub_zero]
      unfold sub
      rw [List.take_take, Nat.min_eq_left (by omega)]
    have hb := body_by Pr_ok (b712_TTT (byteRows s) o n c k) (by rw [e1]) ⟨⟨⟨⟨⟨⟨⟨⟨⟨⟨trivial, c0⟩, c1⟩, c2⟩, q1⟩, c3⟩, c4⟩, q2⟩, c5⟩, c6⟩, c7⟩ rfl
    refine ⟨_, _, _, hb, ?_, ?_, ?_, ?_⟩
    · rw [w2, Int.toNat_natCast, Int.toNat_natCast]
      unfold cutI
      simp only
      split <;> (try simp only [Int.toNat_natCast]) <;> omega
    · rw [w2, Int.toNat_natCast, Int.toNat_natCast, Int.toNat_natCast]; omega
    · rw [w2, Int.toNat_natCast, Int.toNat_natCast]
      unfold cutI
      simp only
      split
      · have : n - (k + 2) = 0 := by omega
        rw [this]
        have : List.drop (k + 2) (sub s o n) = [] := List.drop_eq_nil_of_le (by rw [hl]; omega)
        rw [this]; simp [sub]
      · rw [Int.toNat_natCast]
        unfold sub
        rw [List.drop_take, List.drop_drop]
    · rw [w2, Int.toNat_natCast, Int.toNat_natCast]; omega
theorem loop712 {s : List UInt8} {o n c : Nat} (ho : o + n ≤ s.length) (hc : n ≤ c) (hs : s.length ≤ 1048576) :
    (spFound (sub s o n) [13, 10] = false → LoopOK Tryz.prog (lbody Tryz.prog 71 0) 34 (b712I (byteRows s) o n c 0) (.exit 0) (e712 (byteRows s))) ∧
    (spFound (sub s o n) [13, 10] = true → ∃ o2 n2 c2, LoopOK Tryz.prog (lbody Tryz.prog 71 0) 34 (b712I (byteRows s) o n c 0) .ret (r712 (byteRows s) (spBefore (sub s o n) [13, 10]) o2 n2 c2) ∧ o2 + n2 ≤ s.length ∧ n2 ≤ c2 ∧ sub s o2 n2 = spAfter (sub s o n) [13, 10] ∧ n2 + 2 ≤ n) := by
  have hl : (sub s o n).length = n := sub_length ho
  rcases Lib.index_spec (sub s o n) [13, 10] with ⟨h1, h2⟩ | ⟨i, h1, h2, h3, h4⟩
  · have hf : spFound (sub s o n) [13, 10] = false := by
      unfold spFound Lib.cut
      rw [h1]; rfl
    refine ⟨fun _ => ?_, fun h => (by rw [hf] at h; cases h)⟩
    refine loop_rule (X := Nat) (I := fun k => b712I (byteRows s) o n c (k : Int)) (pre := fun k => k ≤ n) (μ := fun k => n - k) _ _ rfl (fun ρ => by simp [Ex.conc]) ?_ (x0 := 0) (pick := []) (Nat.zero_le _) ⟨by kernel_rfl, map_fst_snd (by kernel_rfl)⟩
    intro k hk
    by_cases hkn : k + 1 < n
    · left
      exact ⟨k + 1, by omega, by omega, (round712 ho hc hs hkn).1 (h2 k (by rw [hl]; omega))⟩
    · right
      have w1 : IntKind.wrap IntKind.i64 ((k : Int) + 1) = ((k + 1 : Nat) : Int) := succ64 (n := n + 1) (by omega) (by omega)
      exact body_by Pr_ok (b712_F (byteRows s) o n c k) rfl ⟨trivial, decide_eq_false (by rw [w1]; omega)⟩ rfl
  · have hin : i + 1 < n := by
      by_cases h : i + 1 < n
      · exact h
      · rw [occ_end (by rw [hl]; omega)] at h3; cases h3
    have hf : spFound (sub s o n) [13, 10] = true := by
      unfold spFound Lib.cut
      rw [h1, if_pos (show 0 ≤ (i : Int) by omega)]
    have hb : spBefore (sub s o n) [13, 10] = (sub s o n).take i := by
      unfold spBefore Lib.cut
      rw [h1, if_pos (show 0 ≤ (i : Int) by omega), Int.toNat_natCast]
    have ha : spAfter (sub s o n) [13, 10] = (sub s o n).drop (i + 2) := by
      unfold spAfter Lib.cut
      rw [h1, if_pos (show 0 ≤ (i : Int) by omega), Int.toNat_natCast]; rfl
    refine ⟨fun h => (by rw [hf] at h; cases h), fun _ => ?_⟩
    obtain ⟨o2, n2, c2, hbody, e1, e2, e3, e4⟩ := (round712 ho hc hs hin).2 h3
    refine ⟨o2, n2, c2, ?_, e1, e2, by rw [ha]; exact e3, by omega⟩
    rw [hb]
    refine loop_rule (X := Nat) (I := fun k => b712I (byteRows s) o n c (k : Int)) (pre := fun k => k ≤ i) (μ := fun k => i - k) _ _ rfl (fun ρ => by simp [Ex.conc]) ?_ (x0 := 0) (pick := []) (Nat.zero_le _) ⟨by kernel_rfl, map_fst_snd (by kernel_rfl)⟩
    intro k hk
    by_cases hki : k = i
    · right; subst hki; exact hbody
    · left
      exact ⟨k + 1, by omega, by omega, (round712 ho hc hs (by omega)).1 (h4 k (by omega))⟩
def b713I (brows : List (List AV)) (o n c : Nat) (k : Int) : SL := ⟨[(0, .sl ⟨0, o, 0⟩ n (.known c)), (5, .int .i64 k)], [(0, .cells false [.int .u8] brows)], 3⟩
def r713 (brows : List (List AV)) (l : List UInt8) (o2 n2 c2 : Nat) : SL := ⟨[(2, .str l), (3, .sl ⟨0, o2, 0⟩ n2 (.known c2)), (4, .lit true)], [(0, .cells false [.int .u8] brows)], 3⟩
def e713 (brows : List (List AV)) : SL := ⟨[], [(0, .cells false [.int .u8] brows)], 3⟩
theorem b713_TTT (brows : List (List AV)) (o : Nat) (n : Nat) (c : Nat) (k : Int) :
 Path (run Tryz.prog Pr 100 (lbody Tryz.prog 71 0) (SL.mp 34 ([.as_ true, .as_ true, .as_ true]) (b713I brows o n c k))) 3 [] (r713 brows (List.map rowByte (sub brows o (Int.toNat k - 0))) (cutI (some (AV.int IntKind.i64 (IntKind.wrap IntKind.i64 (k + (2 : Int))))) (↑c : Int) (IntKind.wrap IntKind.i64 (k + (2 : Int))) o) (Int.toNat (↑n : Int) - Int.toNat (IntKind.wrap IntKind.i64 (k + (2 : Int)))) (Int.toNat (↑c : Int) - Int.toNat (IntKind.wrap IntKind.i64 (k + (2 : Int))))) (Ex.ret)
 ((((((((((True ∧ (decide (IntKind.wrap IntKind.i64 (k + (1 : Int)) < (↑n : Int)) = true)) ∧ (decide ((0 : Int) ≤ k ∧ k < (↑n : Int)) = true)) ∧ (decide (o + Int.toNat k < List.length brows) = true)) ∧ ((AV.toInt (List.getD (List.getD brows (o + Int.toNat k) []) (0) AV.undef) == (13 : Int)) = true)) ∧ (decide ((0 : Int) ≤ IntKind.wrap IntKind.i64 (k + (1 : Int)) ∧ IntKind.wrap IntKind.i64 (k + (1 : Int)) < (↑n : Int)) = true)) ∧ (decide (o + Int.toNat (IntKind.wrap IntKind.i64 (k + (1 : Int))) < List.length brows) = true)) ∧ ((AV.toInt (List.getD (List.getD brows (o + Int.toNat (IntKind.wrap IntKind.i64 (k + (1 : Int)))) []) (0) AV.undef) == (10 : Int)) = true)) ∧ (decide ((0 : Int) ≤ (0 : Int) ∧ (0 : Int) ≤ k ∧ k ≤ (↑c : Int) ∧ (↑c : Int) ≤ (↑c : Int)) = true)) ∧ (decide (o + (Int.toNat k - 0) ≤ List.length brows) = true)) ∧ (decide ((0 : Int) ≤ IntKind.wrap IntKind.i64 (k + (2 : Int)) ∧ IntKind.wrap IntKind.i64 (k + (2 : Int)) ≤ (↑n : Int) ∧ (↑n : Int) ≤ (↑c : Int) ∧ (↑c : Int) ≤ (↑c : Int)) = true)) := by unfold Path; kernel_rfl
theorem b713_TTF (brows : List (List AV)) (o : Nat) (n : Nat) (c : Nat) (k : Int) :
 Path (run Tryz.prog Pr 100 (lbody Tryz.prog 71 0) (SL.mp 34 ([.as_ true, .as_ true, .as_ false]) (b713I brows o n c k))) 3 [] (b713I (brows) (o) (n) (c) (IntKind.wrap IntKind.i64 (k + (1 : Int)))) (Ex.normal)
 (((((((True ∧ (decide (IntKind.wrap IntKind.i64 (k + (1 : Int)) < (↑n : Int)) = true)) ∧ (decide ((0 : Int) ≤ k ∧ k < (↑n : Int)) = true)) ∧ (decide (o + Int.toNat k < List.length brows) = true)) ∧ ((AV.toInt (List.getD (List.getD brows (o + Int.toNat k) []) (0) AV.undef) == (13 : Int)) = true)) ∧ (decide ((0 : Int) ≤ IntKind.wrap IntKind.i64 (k + (1 : Int)) ∧ IntKind.wrap IntKind.i64 (k + (1 : Int)) < (↑n : Int)) = true)) ∧ (decide (o + Int.toNat (IntKind.wrap IntKind.i64 (k + (1 : Int))) < List.length brows) = true)) ∧ ((AV.toInt (List.getD (List.getD brows (o + Int.toNat (IntKind.wrap IntKind.i64 (k + (1 : Int)))) []) (0) AV.undef) == (10 : Int)) = false)) := by unfold Path; kernel_rfl
theorem b713_TF (brows : List (List AV)) (o : Nat) (n : Nat) (c : Nat) (k : Int) :
 Path (run Tryz.prog Pr 100 (lbody Tryz.prog 71 0) (SL.mp 34 ([.as_ true, .as_ false]) (b713I brows o n c k))) 3 [] (b713I (brows) (o) (n) (c) (IntKind.wrap IntKind.i64 (k + (1 : Int)))) (Ex.normal)
 ((((True ∧ (decide (IntKind.wrap IntKind.i64 (k + (1 : Int)) < (↑n : Int)) = true)) ∧ (decide ((0 : Int) ≤ k ∧ k < (↑n : Int)) = true)) ∧ (decide (o + Int.toNat k < List.length brows) = true)) ∧ ((AV.toInt (List.getD (List.getD brows (o + Int.toNat k) []) (0) AV.undef) == (13 : Int)) = false)) := by unfold Path; kernel_rfl
theorem b713_F (brows : List (List AV)) (o : Nat) (n : Nat) (c : Nat) (k : Int) :
 Path (run Tryz.prog Pr 100 (lbody Tryz.prog 71 0) (SL.mp 34 ([.as_ false]) (b713I brows o n c k))) 3 [] (e713 brows) (Ex.exit 0)
 (True ∧ (decide (IntKind.wrap IntKind.i64 (k + (1 : Int)) < (↑n : Int)) = false)) := by unfold Path; kernel_rfl
theorem round713 {s : List UInt8} {o n c k : Nat} (ho : o + n ≤ s.length) (hc : n ≤ c) (hs : s.length ≤ 1048576) (hk : k + 1 < n) :
    (Lib.occAt (sub s o n) [13, 10] k = false → BodyOK Tryz.prog (lbody Tryz.prog 71 0) 34 3 (b713I (byteRows s) o n c k) .normal (b713I (byteRows s) o n c ((k + 1 : Nat) : Int))) ∧
    (Lib.occAt (sub s o n) [13, 10] k = true → ∃ o2 n2 c2, BodyOK Tryz.prog (lbody Tryz.prog 71 0) 34 3 (b713I (byteRows s) o n c k) .ret (r713 (byteRows s) ((sub s o n).take k) o2 n2 c2) ∧ o2 + n2 ≤ s.length ∧ n2 ≤ c2 ∧ sub s o2 n2 = (sub s o n).drop (k + 2) ∧ n2 + (k + 2) = n) := by
  obtain ⟨x1, x2, x3⟩ := sub_at ho (show k < n by omega)
  obtain ⟨y1, y2, y3⟩ := sub_at ho hk
  have w1 : IntKind.wrap IntKind.i64 ((k : Int) + 1) = ((k + 1 : Nat) : Int) := succ64 (n := n) (by omega) (by omega)
  have w2 : IntKind.wrap IntKind.i64 ((k : Int) + 2) = ((k + 2 : Nat) : Int) := by rw [IntWalk.i64_in _ (by omega)]; omega
  have b1 : AV.toInt (List.getD (List.getD (byteRows s) (o + Int.toNat (k : Int)) []) 0 AV.undef) = ((sub s o n)[k].toNat : Int) := by rw [Int.toNat_natCast, byte_at x2, x3]
  have b2 : AV.toInt (List.getD (List.getD (byteRows s) (o + Int.toNat (IntKind.wrap IntKind.i64 ((k : Int) + 1))) []) 0 AV.undef) = ((sub s o n)[k + 1].toNat : Int) := by
    rw [w1, Int.toNat_natCast]
    have := byte_at y2
    rw [this, y3]
  have i1 : ∀ (a : UInt8), (((a.toNat : Nat) : Int) == 13) = (a == 13) := fun a => u8i a 13
  have i2 : ∀ (a : UInt8), (((a.toNat : Nat) : Int) == 10) = (a == 10) := fun a => u8i a 10
  have c0 : decide (IntKind.wrap IntKind.i64 ((k : Int) + (1 : Int)) < (n : Int)) = true := decide_eq_true (by rw [w1]; omega)
  have c1 : decide ((0 : Int) ≤ (k : Int) ∧ (k : Int) < (n : Int)) = true := decide_eq_true (by omega)
  have c2 : decide (o + Int.toNat (k : Int) < List.length (byteRows s)) = true := decide_eq_true (by rw [byteRows_length, Int.toNat_natCast]; exact x2)
  have c3 : decide ((0 : Int) ≤ IntKind.wrap IntKind.i64 ((k : Int) + (1 : Int)) ∧ IntKind.wrap IntKind.i64 ((k : Int) + (1 : Int)) < (n : Int)) = true := decide_eq_true (by rw [w1]; omega)
  have c4 : decide (o + Int.toNat (IntKind.wrap IntKind.i64 ((k : Int) + (1 : Int))) < List.length (byteRows s)) = true := decide_eq_true (by rw [byteRows_length, w1, Int.toNat_natCast]; omega)
  have hl : (sub s o n).length = n := sub_length ho
  have hoc := occ_at (t := sub s o n) (k := k) (by rw [hl]; exact hk)
  rw [hoc]
  refine ⟨fun h => ?_, fun h => ?_⟩
  · cases h1 : (sub s o n)[k] == 13 with
    | false =>
      have q1 : (AV.toInt (List.getD (List.getD (byteRows s) (o + Int.toNat (k : Int)) []) 0 AV.undef) == (13 : Int)) = false := by rw [b1, i1]; exact h1
      exact body_by Pr_ok (b713_TF (byteRows s) o n c k) (by rw [w1]) ⟨⟨⟨⟨trivial, c0⟩, c1⟩, c2⟩, q1⟩ rfl
    | true =>
      have q1 : (AV.toInt (List.getD (List.getD (byteRows s) (o + Int.toNat (k : Int)) []) 0 AV.undef) == (13 : Int)) = true := by rw [b1, i1]; exact h1
      have q2 : (AV.toInt (List.getD (List.getD (byteRows s) (o + Int.toNat (IntKind.wrap IntKind.i64 ((k : Int) + (1 : Int)))) []) 0 AV.undef) == (10 : Int)) = false := by rw [b2, i2]; rw [h1, Bool.true_and] at h; exact h
      exact body_by Pr_ok (b713_TTF (byteRows s) o n c k) (by rw [w1]) ⟨⟨⟨⟨⟨⟨⟨trivial, c0⟩, c1⟩, c2⟩, q1⟩, c3⟩, c4⟩, q2⟩ rfl
  · rw [Bool.and_eq_true] at h
    have q1 : (AV.toInt (List.getD (List.getD (byteRows s) (o + Int.toNat (k : Int)) []) 0 AV.undef) == (13 : Int)) = true := by rw [b1, i1]; exact h.1
    have q2 : (AV.toInt (List.getD (List.getD (byteRows s) (o + Int.toNat (IntKind.wrap IntKind.i64 ((k : Int) + (1 : Int)))) []) 0 AV.undef) == (10 : Int)) = true := by rw [b2, i2]; exact h.2
    have c5 : decide ((0 : Int) ≤ (0 : Int) ∧ (0 : Int) ≤ (k : Int) ∧ (k : Int) ≤ (c : Int) ∧ (c : Int) ≤ (c : Int)) = true := decide_eq_true (by omega)
    have c6 : decide (o + (Int.toNat (k : Int) - 0) ≤ List.length (byteRows s)) = true := decide_eq_true (by rw [byteRows_length, Int.toNat_natCast]; omega)
    have c7 : decide ((0 : Int) ≤ IntKind.wrap IntKind.i64 ((k : Int) + (2 : Int)) ∧ IntKind.wrap IntKind.i64 ((k : Int) + (2 : Int)) ≤ (n : Int) ∧ (n : Int) ≤ (c : Int) ∧ (c : Int) ≤ (c : Int)) = true := decide_eq_true (by rw [w2]; omega)
    have e1 : List.map rowByte (sub (byteRows s) o (Int.toNat (k : Int) - 0)) = (sub s o n).take k := by
      rw [sub_map, rowsB, Int.toNat_natCast, Nat.sub_zero]
      unfold sub
      rw [List.take_take, Nat.min_eq_left (by omega)]
    have hb := body_by Pr_ok (b713_TTT (byteRows s) o n c k) (by rw [e1]) ⟨⟨⟨⟨⟨⟨⟨⟨⟨⟨trivial, c0⟩, c1⟩, c2⟩, q1⟩, c3⟩, c4⟩, q2⟩, c5⟩, c6⟩, c7⟩ rfl
    refine ⟨_, _, _, hb, ?_, ?_, ?_, ?_⟩
    · rw [w2, Int.toNat_natCast, Int.toNat_natCast]
      unfold cutI
      simp only
      split <;> (try simp only [Int.toNat_natCast]) <;> omega
    · rw [w2, Int.toNat_natCast, Int.toNat_natCast, Int.toNat_natCast]; omega
    · rw [w2, Int.toNat_natCast, Int.toNat_natCast]
      unfold cutI
      simp only
      split
      · have : n - (k + 2) = 0 := by omega
        rw [this]
        have : List.drop (k + 2) (sub s o n) = [] := List.drop_eq_nil_of_le (by rw [hl]; omega)
        rw [this]; simp [sub]
      · rw [Int.toNat_natCast]
        unfold sub
        rw [List.drop_take, List.drop_drop]
    · rw [w2, Int.toNat_natCast, Int.toNat_natCast]; omega
theorem loop713 {s : List UInt8} {o n c : Nat} (ho : o + n ≤ s.length) (hc : n ≤ c) (hs : s.length ≤ 1048576) :
    (spFound (sub s o n) [13, 10] = false → LoopOK Tryz.prog (lbody Tryz.prog 71 0) 34 (b713I (byteRows s) o n c 0) (.exit 0) (e713 (byteRows s))) ∧
    (spFound (sub s o n) [13, 10] = true → ∃ o2 n2 c2, LoopOK Tryz.prog (lbody Tryz.prog 71 0) 34 (b713I (byteRows s) o n c 0) .ret (r713 (byteRows s) (spBefore (sub s o n) [13, 10]) o2 n2 c2) ∧ o2 + n2 ≤ s.length ∧ n2 ≤ c2 ∧ sub s o2 n2 = spAfter (sub s o n) [13, 10] ∧ n2 + 2 ≤ n) := by
  have hl : (sub s o n).length = n := sub_length ho
  rcases Lib.index_spec (sub s o n) [13, 10] with ⟨h1, h2⟩ | ⟨i, h1, h2, h3, h4⟩
  · have hf : spFound (sub s o n) [13, 10] = false := by
      unfold spFound Lib.cut
      rw [h1]; rfl
    refine ⟨fun _ => ?_, fun h => (by rw [hf] at h; cases h)⟩
    refine loop_rule (X := Nat) (I := fun k => b713I (byteRows s) o n c (k : Int)) (pre := fun k => k ≤ n) (μ := fun k => n - k) _ _ rfl (fun ρ => by simp [Ex.conc]) ?_ (x0 := 0) (pick := []) (Nat.zero_le _) ⟨by kernel_rfl, map_fst_snd (by kernel_rfl)⟩
    intro k hk
    by_cases hkn : k + 1 < n
    · left
      exact ⟨k + 1, by omega, by omega, (round713 ho hc hs hkn).1 (h2 k (by rw [hl]; omega))⟩
    · right
      have w1 : IntKind.wrap IntKind.i64 ((k : Int) + 1) = ((k + 1 : Nat) : Int) := succ64 (n := n + 1) (by omega) (by omega)
      exact body_by Pr_ok (b713_F (byteRows s) o n c k) rfl ⟨trivial, decide_eq_false (by rw [w1]; omega)⟩ rfl
  · have hin : i + 1 < n := by
      by_cases h : i + 1 < n
      · exact h
      · rw [occ_end (by rw [hl]; omega)] at h3; cases h3
    have hf : spFound (sub s o n) [13, 10] = true := by
      unfold spFound Lib.cut
      rw [h1, if_pos (show 0 ≤ (i : Int) by omega)]
    have hb : spBefore (sub s o n) [13, 10] = (sub s o n).take i := by
      unfold spBefore Lib.cut
      rw [h1, if_pos (show 0 ≤ (i : Int) by omega), Int.toNat_natCast]
    have ha : spAfter (sub s o n) [13, 10] = (sub s o n).drop (i + 2) := by
      unfold spAfter Lib.cut
      rw [h1, if_pos (show 0 ≤ (i : Int) by omega), Int.toNat_natCast]; rfl
    refine ⟨fun h => (by rw [hf] at h; cases h), fun _ => ?_⟩
    obtain ⟨o2, n2, c2, hbody, e1, e2, e3, e4⟩ := (round713 ho hc hs hin).2 h3
    refine ⟨o2, n2, c2, ?_, e1, e2, by rw [ha]; exact e3, by omega⟩
    rw [hb]
    refine loop_rule (X := Nat) (I := fun k => b713I (byteRows s) o n c (k : Int)) (pre := fun k => k ≤ i) (μ := fun k => i - k) _ _ rfl (fun ρ => by simp [Ex.conc]) ?_ (x0 := 0) (pick := []) (Nat.zero_le _) ⟨by kernel_rfl, map_fst_snd (by kernel_rfl)⟩
    intro k hk
    by_cases hki : k = i
    · right; subst hki; exact hbody
    · left
      exact ⟨k + 1, by omega, by omega, (round713 ho hc hs (by omega)).1 (h4 k (by omega))⟩
def b714I (brows : List (List AV)) (o n c : Nat) (k : Int) : SL := ⟨[(0, .sl ⟨0, o, 0⟩ n (.known c)), (5, .int .i64 k)], [(0, .cells false [.int .u8] brows)], 4⟩
def r714 (brows : List (List AV)) (l : List UInt8) (o2 n2 c2 : Nat) : SL := ⟨[(2, .str l), (3, .sl ⟨0, o2, 0⟩ n2 (.known c2)), (4, .lit true)], [(0, .cells false [.int .u8] brows)], 4⟩
def e714 (brows : List (List AV)) : SL := ⟨[], [(0, .cells false [.int .u8] brows)], 4⟩
theorem b714_TTT (brows : List (List AV)) (o : Nat) (n : Nat) (c : Nat) (k : Int) :
 Path (run Tryz.prog Pr 100 (lbody Tryz.prog 71 0) (SL.mp 34 ([.as_ true, .as_ true, .as_ true]) (b714I brows o n c k))) 4 [] (r714 brows (List.map rowByte (sub brows o (Int.toNat k - 0))) (cutI (some (AV.int IntKind.i64 (IntKind.wrap IntKind.i64 (k + (2 : Int))))) (↑c : Int) (IntKind.wrap IntKind.i64 (k + (2 : Int))) o) (Int.toNat (↑n : Int) - Int.toNat (IntKind.wrap IntKind.i64 (k + (2 : Int)))) (Int.toNat (↑c : Int) - Int.toNat (IntKind.wrap IntKind.i64 (k + (2 : Int))))) (Ex.ret)
 ((((((((((True ∧ (decide (IntKind.wrap IntKind.i64 (k + (1 : Int)) < (↑n : Int)) = true)) ∧ (decide ((0 : Int) ≤ k ∧ k < (↑n : Int)) = true)) ∧ (decide (o + Int.toNat k < List.length brows) = true)) ∧ ((AV.toInt (List.getD (List.getD brows (o + Int.toNat k) []) (0) AV.undef) == (13 : Int)) = true)) ∧ (decide ((0 : Int) ≤ IntKind.wrap IntKind.i64 (k + (1 : Int)) ∧ IntKind.wrap IntKind.i64 (k + (1 : Int)) < (↑n : Int)) = true)) ∧ (decide (o + Int.toNat (IntKind.wrap IntKind.i64 (k + (1 : Int))) < List.length brows) = true)) ∧ ((AV.toInt (List.getD (List.getD brows (o + Int.toNat (IntKind.wrap IntKind.i64 (k + (1 : Int)))) []) (0) AV.undef) == (10 : Int)) = true)) ∧ (decide ((0 : Int) ≤ (0 : Int) ∧ (0 : Int) ≤ k ∧ k ≤ (↑c : Int) ∧ (↑c : Int) ≤ (↑c : Int)) = true)) ∧ (decide (o + (Int.toNat k - 0) ≤ List.length brows) = true)) ∧ (decide ((0 : Int) ≤ IntKind.wrap IntKind.i64 (k + (2 : Int)) ∧ IntKind.wrap IntKind.i64 (k + (2 : Int)) ≤ (↑n : Int) ∧ (↑n : Int) ≤ (↑c : Int) ∧ (↑c : Int) ≤ (↑c : Int)) = true)) := by unfold Path; kernel_rfl
theorem b714_TTF (brows : List (List AV)) (o : Nat) (n : Nat) (c : Nat) (k : Int) :
 Path (run Tryz.prog Pr 100 (lbody Tryz.prog 71 0) (SL.mp 34 ([.as_ true, .as_ true, .as_ false]) (b714I brows o n c k))) 4 [] (b714I (brows) (o) (n) (c) (IntKind.wrap IntKind.i64 (k + (1 : Int)))) (Ex.normal)
 (((((((True ∧ (decide (IntKind.wrap IntKind.i64 (k + (1 : Int)) < (↑n : Int)) = true)) ∧ (decide ((0 : Int) ≤ k ∧ k < (↑n : Int)) = true)) ∧ (decide (o + Int.toNat k < List.length brows) = true)) ∧ ((AV.toInt (List.getD (List.getD brows (o + Int.toNat k) []) (0) AV.undef) == (13 : Int)) = true)) ∧ (decide ((0 : Int) ≤ IntKind.wrap IntKind.i64 (k + (1 : Int)) ∧ IntKind.wrap IntKind.i64 (k + (1 : Int)) < (↑n : Int)) = true)) ∧ (decide (o + Int.toNat (IntKind.wrap IntKind.i64 (k + (1 : Int))) < List.length brows) = true)) ∧ ((AV.toInt (List.getD (List.getD brows (o + Int.toNat (IntKind.wrap IntKind.i64 (k + (1 : Int)))) []) (0) AV.undef) == (10 : Int)) = false)) := by unfold Path; kernel_rfl
theorem b714_TF (brows : List (List AV)) (o : Nat) (n : Nat) (c : Nat) (k : Int) :
 Path (run Tryz.prog Pr 100 (lbody Tryz.prog 71 0) (SL.mp 34 ([.as_ true, .as_ false]) (b714I brows o n c k))) 4 [] (b714I (brows) (o) (n) (c) (IntKind.wrap IntKind.i64 (k + (1 : Int)))) (Ex.normal)
 ((((True ∧ (decide (IntKind.wrap IntKind.i64 (k + (1 : Int)) < (↑n : Int)) = true)) ∧ (decide ((0 : Int) ≤ k ∧ k < (↑n : Int)) = true)) ∧ (decide (o + Int.toNat k < List.length brows) = true)) ∧ ((AV.toInt (List.getD (List.getD brows (o + Int.toNat k) []) (0) AV.undef) == (13 : Int)) = false)) := by unfold Path; kernel_rfl
theorem b714_F (brows : List (List AV)) (o : Nat) (n : Nat) (c : Nat) (k : Int) :
 Path (run Tryz.prog Pr 100 (lbody Tryz.prog 71 0) (SL.mp 34 ([.as_ false]) (b714I brows o n c k))) 4 [] (e714 brows) (Ex.exit 0)
 (True ∧ (decide (IntKind.wrap IntKind.i64 (k + (1 : Int)) < (↑n : Int)) = false)) := by unfold Path; kernel_rfl
theorem round714 {s : List UInt8} {o n c k : Nat} (ho : o + n ≤ s.length) (hc : n ≤ c) (hs : s.length ≤ 1048576) (hk : k + 1 < n) :
    (Lib.occAt (sub s o n) [13, 10] k = false → BodyOK Tryz.prog (lbody Tryz.prog 71 0) 34 4 (b714I (byteRows s) o n c k) .normal (b714I (byteRows s) o n c ((k + 1 : Nat) : Int))) ∧
    (Lib.occAt (sub s o n) [13, 10] k = true → ∃ o2 n2 c2, BodyOK Tryz.prog (lbody Tryz.prog 71 0) 34 4 (b714I (byteRows s) o n c k) .ret (r714 (byteRows s) ((sub s o n).take k) o2 n2 c2) ∧ o2 + n2 ≤ s.length ∧ n2 ≤ c2 ∧ sub s o2 n2 = (sub s o n).drop (k + 2) ∧ n2 + (k + 2) = n) := by
  obtain ⟨x1, x2, x3⟩ := sub_at ho (show k < n by omega)
  obtain ⟨y1, y2, y3⟩ := sub_at ho hk
  have w1 : IntKind.wrap IntKind.i64 ((k : Int) + 1) = ((k + 1 : Nat) : Int) := succ64 (n := n) (by omega) (by omega)
  have w2 : IntKind.wrap IntKind.i64 ((k : Int) + 2) = ((k + 2 : Nat) : Int) := by rw [IntWalk.i64_in _ (by omega)]; omega
  have b1 : AV.toInt (List.getD (List.getD (byteRows s) (o + Int.toNat (k : Int)) []) 0 AV.undef) = ((sub s o n)[k].toNat : Int) := by rw [Int.toNat_natCast, byte_at x2, x3]
  have b2 : AV.toInt (List.getD (List.getD (byteRows s) (o + Int.toNat (IntKind.wrap IntKind.i64 ((k : Int) + 1))) []) 0 AV.undef) = ((sub s o n)[k + 1].toNat : Int) := by
    rw [w1, Int.toNat_natCast]
    have := byte_at y2
    rw [this, y3]
  have i1 : ∀ (a : UInt8), (((a.toNat : Nat) : Int) == 13) = (a == 13) := fun a => u8i a 13
  have i2 : ∀ (a : UInt8), (((a.toNat : Nat) : Int) == 10) = (a == 10) := fun a => u8i a 10
  have c0 : decide (IntKind.wrap IntKind.i64 ((k : Int) + (1 : Int)) < (n : Int)) = true := decide_eq_true (by rw [w1]; omega)
  have c1 : decide ((0 : Int) ≤ (k : Int) ∧ (k : Int) < (n : Int)) = true := decide_eq_true (by omega)
  have c2 : decide (o + Int.toNat (k : Int) < List.length (byteRows s)) = true := decide_eq_true (by rw [byteRows_length, Int.toNat_natCast]; exact x2)
  have c3 : decide ((0 : Int) ≤ IntKind.wrap IntKind.i64 ((k : Int) + (1 : Int)) ∧ IntKind.wrap IntKind.i64 ((k : Int) + (1 : Int)) < (n : Int)) = true := decide_eq_true (by rw [w1]; omega)
  have c4 : decide (o + Int.toNat (IntKind.wrap IntKind.i64 ((k : Int) + (1 : Int))) < List.length (byteRows s)) = true := decide_eq_true (by rw [byteRows_length, w1, Int.toNat_natCast]; omega)
  have hl : (sub s o n).length = n := sub_length ho
  have hoc := occ_at (t := sub s o n) (k := k) (by rw [hl]; exact hk)
  rw [hoc]
  refine ⟨fun h => ?_, fun h => ?_⟩
  · cases h1 : (sub s o n)[k] == 13 with
    | false =>
      have q1 : (AV.toInt (List.getD (List.getD (byteRows s) (o + Int.toNat (k : Int)) []) 0 AV.undef) == (13 : Int)) = false := by rw [b1, i1]; exact h1
      exact body_by Pr_ok (b714_TF (byteRows s) o n c k) (by rw [w1]) ⟨⟨⟨⟨trivial, c0⟩, c1⟩, c2⟩, q1⟩ rfl
    | true =>
      have q1 : (AV.toInt (List.getD (List.getD (byteRows s) (o + Int.toNat (k : Int)) []) 0 AV.undef) == (13 : Int)) = true := by rw [b1, i1]; exact h1
      have q2 : (AV.toInt (List.getD (List.getD (byteRows s) (o + Int.toNat (IntKind.wrap IntKind.i64 ((k : Int) + (1 : Int)))) []) 0 AV.undef) == (10 : Int)) = false := by rw [b2, i2]; rw [h1, Bool.true_and] at h; exact h
      exact body_by Pr_ok (b714_TTF (byteRows s) o n c k) (by rw [w1]) ⟨⟨⟨⟨⟨⟨⟨trivial, c0⟩, c1⟩, c2⟩, q1⟩, c3⟩, c4⟩, q2⟩ rfl
  · rw [Bool.and_eq_true] at h
    have q1 : (AV.toInt (List.getD (List.getD (byteRows s) (o + Int.toNat (k : Int)) []) 0 AV.undef) == (13 : Int)) = true := by rw [b1, i1]; exact h.1
    have q2 : (AV.toInt (List.getD (List.getD (byteRows s) (o + Int.toNat (IntKind.wrap IntKind.i64 ((k : Int) + (1 : Int)))) []) 0 AV.undef) == (10 : Int)) = true := by rw [b2, i2]; exact h.2
    have c5 : decide ((0 : Int) ≤ (0 : Int) ∧ (0 : Int) ≤ (k : Int) ∧ (k : Int) ≤ (c : Int) ∧ (c : Int) ≤ (c : Int)) = true := decide_eq_true (by omega)
    have c6 : decide (o + (Int.toNat (k : Int) - 0) ≤ List.length (byteRows s)) = true := decide_eq_true (by rw [byteRows_length, Int.toNat_natCast]; omega)
    have c7 : decide ((0 : Int) ≤ IntKind.wrap IntKind.i64 ((k : Int) + (2 : Int)) ∧ IntKind.wrap IntKind.i64 ((k : Int) + (2 : Int)) ≤ (n : Int) ∧ (n : Int) ≤ (c : Int) ∧ (c : Int) ≤ (c : Int)) = true := decide_eq_true (by rw [w2]; omega)
    have e1 : List.map rowByte (sub (byteRows s) o (Int.toNat (k : Int) - 0)) = (sub s o n).take k := by
      rw [sub_map, rowsB, Int.toNat_natCast, Nat.sub_zero]
      unfold sub
      rw [List.take_take, Nat.min_eq_left (by omega)]
    have hb := body_by Pr_ok (b714_TTT (byteRows s) o n c k) (by rw [e1]) ⟨⟨⟨⟨⟨⟨⟨⟨⟨⟨trivial, c0⟩, c1⟩, c2⟩, q1⟩, c3⟩, c4⟩, q2⟩, c5⟩, c6⟩, c7⟩ rfl
    refine ⟨_, _, _, hb, ?_, ?_, ?_, ?_⟩
    · rw [w2, Int.toNat_natCast, Int.toNat_natCast]
      unfold cutI
      simp only
      split <;> (try simp only [Int.toNat_natCast]) <;> omega
    · rw [w2, Int.toNat_natCast, Int.toNat_natCast, Int.toNat_natCast]; omega
    · rw [w2, Int.toNat_natCast, Int.toNat_natCast]
      unfold cutI
      simp only
      split
      · have : n - (k + 2) = 0 := by omega
        rw [this]
        have : List.drop (k + 2) (sub s o n) = [] := List.drop_eq_nil_of_le (by rw [hl]; omega)
        rw [this]; simp [sub]
      · rw [Int.toNat_natCast]
        unfold sub
        rw [List.drop_take, List.drop_drop]
    · rw [w2, Int.toNat_natCast, Int.toNat_natCast]; omega
theorem loop714 {s : List UInt8} {o n c : Nat} (ho : o + n ≤ s.length) (hc : n ≤ c) (hs : s.length ≤ 1048576) :
    (spFound (sub s o n) [13, 10] = false → LoopOK Tryz.prog (lbody Tryz.prog 71 0) 34 (b714I (byteRows s) o n c 0) (.exit 0) (e714 (byteRows s))) ∧
    (spFound (sub s o n) [13, 10] = true → ∃ o2 n2 c2, LoopOK Tryz.prog (lbody Tryz.prog 71 0) 34 (b714I (byteRows s) o n c 0) .ret (r714 (byteRows s) (spBefore (sub s o n) [13, 10]) o2 n2 c2) ∧ o2 + n2 ≤ s.length ∧ n2 ≤ c2 ∧ sub s o2 n2 = spAfter (sub s o n) [13, 10] ∧ n2 + 2 ≤ n) := by
  have hl : (sub s o n).length = n := sub_length ho
  rcases Lib.index_spec (sub s o n) [13, 10] with ⟨h1, h2⟩ | ⟨i, h1, h2, h3, h4⟩
  · have hf : spFound (sub s o n) [13, 10] = false := by
      unfold spFound Lib.cut
      rw [h1]; rfl
    refine ⟨fun _ => ?_, fun h => (by rw [hf] at h; cases h)⟩
    refine loop_rule (X := Nat) (I := fun k => b714I (byteRows s) o n c (k : Int)) (pre := fun k => k ≤ n) (μ := fun k => n - k) _ _ rfl (fun ρ => by simp [Ex.conc]) ?_ (x0 := 0) (pick := []) (Nat.zero_le _) ⟨by kernel_rfl, map_fst_snd (by kernel_rfl)⟩
    intro k hk
    by_cases hkn : k + 1 < n
    · left
      exact ⟨k + 1, by omega, by omega, (round714 ho hc hs hkn).1 (h2 k (by rw [hl]; omega))⟩
    · right
      have w1 : IntKind.wrap IntKind.i64 ((k : Int) + 1) = ((k + 1 : Nat) : Int) := succ64 (n := n + 1) (by omega) (by omega)
      exact body_by Pr_ok (b714_F (byteRows s) o n c k) rfl ⟨trivial, decide_eq_false (by rw [w1]; omega)⟩ rfl
  · have hin : i + 1 < n := by
      by_cases h : i + 1 < n
      · exact h
      · rw [occ_end (by rw [hl]; omega)] at h3; cases h3
    have hf : spFound (sub s o n) [13, 10] = true := by
      unfold spFound Lib.cut
      rw [h1, if_pos (show 0 ≤ (i : Int) by omega)]
    have hb : spBefore (sub s o n) [13, 10] = (sub s o n).take i := by
      unfold spBefore Lib.cut
      rw [h1, if_pos (show 0 ≤ (i : Int) by omega), Int.toNat_natCast]
    have ha : spAfter (sub s o n) [13, 10] = (sub s o n).drop (i + 2) := by
      unfold spAfter Lib.cut
      rw [h1, if_pos (show 0 ≤ (i : Int) by omega), Int.toNat_natCast]; rfl
    refine ⟨fun h => (by rw [hf] at h; cases h), fun _ => ?_⟩
    obtain ⟨o2, n2, c2, hbody, e1, e2, e3, e4⟩ := (round714 ho hc hs hin).2 h3
    refine ⟨o2, n2, c2, ?_, e1, e2, by rw [ha]; exact e3, by omega⟩
    rw [hb]
    refine loop_rule (X := Nat) (I := fun k => b714I (byteRows s) o n c (k : Int)) (pre := fun k => k ≤ i) (μ := fun k => i - k) _ _ rfl (fun ρ => by simp [Ex.conc]) ?_ (x0 := 0) (pick := []) (Nat.zero_le _) ⟨by kernel_rfl, map_fst_snd (by kernel_rfl)⟩
    intro k hk
    by_cases hki : k = i
    · right; subst hki; exact hbody
    · left
      exact ⟨k + 1, by omega, by omega, (round714 ho hc hs (by omega)).1 (h4 k (by omega))⟩
end Go.Proofs.YtpdgmgkkbbndfaaGreatDoor

namespace Go.Proofs
open Go.Shelf
def Tryz.lays146_ren : Go.Shelf.Ren := ⟨fun | 146 => 70 | 221 => 99 | 268 => 121 | 138 => 122 | 143 => 123 | 195 => 142 | 197 => 115 | 218 => 143 | 219 => 120 | 260 => 136 | 217 => 140 | 225 => 135 | 224 => 134 | 267 => 141 | 266 => 156 | 314 => 157 | n => n, fun | 9 => 9 | 31 => 112 | 3 => 3 | 4 => 4 | 0 => 0 | 105 => 163 | 21 => 21 | 5 => 5 | 46 => 83 | 119 => 184 | 139 => 187 | 138 => 186 | 146 => 194 | 51 => 26 | n => n, fun | 1 => 1 | 3 => 3 | 4 => 4 | n => n⟩
theorem Tryz.lays146 : Go.Proofs.Lays.n146 Tryz.prog Tryz.lays146_ren := {
  mixed := by kernel_rfl
  f138 := Tryz.func122.trans (congrArg some (by kernel_rfl))
  f143 := Tryz.func123.trans (congrArg some (by kernel_rfl))
  f146 := Tryz.func70.trans (congrArg some (by kernel_rfl))
  f195 := Tryz.func142.trans (congrArg some (by kernel_rfl))
  f197 := Tryz.func115.trans (congrArg some (by kernel_rfl))
  f217 := Tryz.func140.trans (congrArg some (by kernel_rfl))
  f218 := Tryz.func143.trans (congrArg some (by kernel_rfl))
  f219 := Tryz.func120.trans (congrArg some (by kernel_rfl))
  f221 := Tryz.func99.trans (congrArg some (by kernel_rfl))
  f224 := Tryz.func134.trans (congrArg some (by kernel_rfl))
  f225 := Tryz.func135.trans (congrArg some (by kernel_rfl))
  f260 := Tryz.func136.trans (congrArg some (by kernel_rfl))
  f266 := Tryz.func156.trans (congrArg some (by kernel_rfl))
  f267 := Tryz.func141.trans (congrArg some (by kernel_rfl))
  f268 := Tryz.func121.trans (congrArg some (by kernel_rfl))
  f314 := Tryz.func157.trans (congrArg some (by kernel_rfl))
  t0 := Tryz.underlying0
  a0 := Tryz.isAgg0
  z0 := Tryz.sizeOf0
  v0 := Tryz.zeroValue0
  t3 := Tryz.underlying3
  a3 := Tryz.isAgg3
  z3 := Tryz.sizeOf3
  v3 := Tryz.zeroValue3
  t4 := Tryz.underlying4
  a4 := Tryz.isAgg4
  z4 := Tryz.sizeOf4
  v4 := Tryz.zeroValue4
  t5 := Tryz.underlying5
  a5 := Tryz.isAgg5
  z5 := Tryz.sizeOf5
  v5 := Tryz.zeroValue5
  t9 := Tryz.underlying9
  a9 := Tryz.isAgg9
  z9 := Tryz.sizeOf9
  v9 := Tryz.zeroValue9
  t21 := Tryz.underlying21
  a21 := Tryz.isAgg21
  z21 := Tryz.sizeOf21
  v21 := Tryz.zeroValue21
  t31 := Tryz.underlying112
  a31 := Tryz.isAgg112
  z31 := Tryz.sizeOf112
  v31 := Tryz.zeroValue112
  t46 := Tryz.underlying83
  a46 := Tryz.isAgg83
  z46 := Tryz.sizeOf83
  v46 := Tryz.zeroValue83
  t51 := Tryz.underlying26
  a51 := Tryz.isAgg26
  z51 := Tryz.sizeOf26
  v51 := Tryz.zeroValue26
  t105 := Tryz.underlying163
  a105 := Tryz.isAgg163
  z105 := Tryz.sizeOf163
  v105 := Tryz.zeroValue163
  t119 := Tryz.underlying184
  a119 := Tryz.isAgg184
  z119 := Tryz.sizeOf184
  t138 := Tryz.underlying186
  a138 := Tryz.isAgg186
  z138 := Tryz.sizeOf186
  v138 := Tryz.zeroValue186
  t139 := Tryz.underlying187
  a139 := Tryz.isAgg187
  z139 := Tryz.sizeOf187
  v139 := Tryz.zeroValue187
  t146 := Tryz.underlying194
  a146 := Tryz.isAgg194
  z146 := Tryz.sizeOf194
  v146 := Tryz.zeroValue194
  g1 := by kernel_rfl
  g3 := by kernel_rfl
  g4 := by kernel_rfl }
open Go.RowKit Go.Lib in
theorem Tryz.strings_Split (s sep : ByteArray) (m : Int) (w : World) (hs : s.size < 4294967281) (hm : w.cell? ⟨1, 0, none⟩ = some (.int .i64 m)) (h1 : 1 ≤ sep.size) :
    Calls Tryz.prog 70 #[.string s, .string sep] w fun e w' =>
      e = .returned (.slice (some ⟨w.heap.size, 0, none⟩) (Lib.countB s sep + 1) (Lib.countB s sep + 1)) ∧ w' = w.alloc (.cells ((Lib.splitB sep 0 (Lib.countB s sep) s).map Value.string).toArray 9) := Any.strings_Split Tryz.lays146 (by kernel_rfl) s sep m w hs hm h1
end Go.Proofs

set_option maxRecDepth 100000
namespace Go.Proofs.YtpdgmgkkbbndfaaGreatDoor
open Go Go.Proofs Go.Proofs.YtpdgmgkkbbndfaaGreatDoor.SX
def crlf : List UInt8 := [13, 10]
def spSplit (s : List UInt8) : List (List UInt8) := (spLines s).map Prod.fst
def spStrRows (l : List (List UInt8)) : List (List AV) := l.map fun s => [AV.str s]
theorem splitK_lines : ∀ (n k : Nat) (s : List UInt8), Lib.count s crlf = k → s.length < n → Lib.splitK crlf 0 k s = (spLinesF n s).map Prod.fst
  | 0, _, _, _, h => absurd h (Nat.not_lt_zero _)
  | n + 1, k, s, hk, hn => by
    rcases Lib.index_spec s crlf with ⟨h1, _⟩ | ⟨i, h1, h2, h3, _⟩
    · have hc : Lib.count s crlf = 0 := Lib.count_miss h1
      have hf : spFound s [13, 10] = false := by
        unfold spFound Lib.cut
        have h1' : Lib.index s [13, 10] = -1 := h1
        rw [h1', if_neg (by omega)]
      unfold spLinesF
      rw [hf, cond_false]
      have hb : spBefore s [13, 10] = s := by
        unfold spBefore Lib.cut
        have h1' : Lib.index s [13, 10] = -1 := h1
        rw [h1', if_neg (by omega)]
      rw [hb]
      rw [hc] at hk
      subst hk
      rfl
    · have hc := Lib.count_hit (s := s) (sub := crlf) (i := i) (by decide) h1
      have h1' : Lib.index s [13, 10] = i := h1
      have hf : spFound s [13, 10] = true := by
        unfold spFound Lib.cut
        rw [h1', if_pos (by omega)]
      have hb : spBefore s [13, 10] = s.take i := by
        unfold spBefore Lib.cut
        rw [h1', if_pos (by omega), Int.toNat_natCast]
      have ha : spAfter s [13, 10] = s.drop (i + 2) := by
        unfold spAfter Lib.cut
        rw [h1', if_pos (by omega), Int.toNat_natCast]; rfl
      have hl : i + 2 ≤ s.length := by
        unfold Lib.occAt at h3
        rw [List.isPrefixOf_iff_prefix] at h3
        have := h3.length_le
        rw [List.length_drop] at this
        have h4 : crlf.length = 2 := rfl
        omega
      obtain ⟨k', rfl⟩ : ∃ k', k = k' + 1 := ⟨Lib.count (s.drop (i + crlf.length)) crlf, by rw [← hk, hc]; omega⟩
      have ih := splitK_lines n k' (s.drop (i + 2)) (by have : Lib.count (s.drop (i + crlf.length)) crlf = k' := by omega
                                                        exact this) (by rw [List.length_drop]; omega)
      unfold spLinesF Lib.splitK
      rw [hf, cond_true, List.map_cons, hb, ha, ← ih]
      have hm : ¬ (Lib.index s crlf == -1) = true := by rw [h1]; simp
      rw [if_neg hm, h1, Int.toNat_natCast]
      rfl
theorem split_eq (s : List UInt8) : (Lib.splitB ⟨crlf.toArray⟩ 0 (Lib.countB ⟨s.toArray⟩ ⟨crlf.toArray⟩) ⟨s.toArray⟩).map (fun b => b.data.toList) = spSplit s := by
  have h1 := Lib.splitB_data ⟨crlf.toArray⟩ 0 (Lib.countB ⟨s.toArray⟩ ⟨crlf.toArray⟩) ⟨s.toArray⟩
  refine h1.trans ?_
  exact splitK_lines (s.length + 1) _ s rfl (Nat.lt_succ_self _)
theorem split_pos (s : List UInt8) : 0 < (spSplit s).length := by
  unfold spSplit spLines spLinesF
  cases spFound s [13, 10] <;> simp
theorem entry_sl {P : Program} {f : Nat} {vs : Array Value} {ρ : Nat → BI} {hp : Tr Blk} {nx : Nat} {w : World} {ks : List Kd} {rows : List (List AV)} {n : Nat} (hs : HSim ρ hp nx w) (hk : noAny ks = true)
    (h : Calls P f vs w (fun e w' => (∃ bi : BI, e = .returned (.slice (some ⟨bi.blk, bi.off, none⟩) n n) ∧ w.heap.size ≤ bi.blk ∧ (Blk.cells false ks rows).sat (fun _ => bi) w' 0) ∧ Ext w w')) :
    Calls P f vs w (fun e w' => ∃ ρ', e = .returned (conc ρ' (.sl ⟨nx, 0, 0⟩ n (.known n))) ∧ (AV.sl ⟨nx, 0, 0⟩ n (.known n)).idsB (nx + [Blk.cells false ks rows].length) = true ∧ HStep ρ hp nx w ρ' (addBlks hp nx [.cells false ks rows]) (nx + [Blk.cells false ks rows].length) w') := by
  refine h.mono fun e w' hq => ?_
  obtain ⟨⟨bi, rfl, hb, hsat⟩, he⟩ := hq
  have e1 : extB ρ nx [bi] nx = bi := by have := extB_new ρ nx [bi] 0; simpa using this
  have st := HStep.bis (bs := [.cells false ks rows]) [bi] hs he (fun i blk hi => by
    obtain ⟨rfl, rfl⟩ := bs1 hi
    refine ⟨rfl, .inl hb, ?_, fun ρ' b hb => Blk.sat_at (ρ := fun _ => bi) (b := 0) hk hb hsat⟩
    have : ks.any Kd.isAny = false := by simpa [noAny] using hk
    simp [Blk.idsB, this])
  refine ⟨_, ?_, by simp [AV.idsB, blt_iff], st⟩
  simp [conc, addr, capOf, e1]
def q70 : Entry := fun args hp nx => match args with
  | [.str s, .str t] => some (decide (s.length < 4294967281 ∧ t = crlf), (.sl ⟨nx, 0, 0⟩ (spStrRows (spSplit s)).length (.known (spStrRows (spSplit s)).length)), [.cells false [.str] (spStrRows (spSplit s))])
  | _ => none
theorem q70_ok : EntryOK Tryz.prog 70 q70 := by
  intro args hp nx c v bs h hc ρ w hs hi
  unfold q70 at h
  split at h
  · rename_i s t
    cases h
    obtain ⟨hsz, rfl⟩ := of_decide_eq_true hc
    refine entry_sl hs rfl ?_
    obtain ⟨m, hm⟩ := gw_maxLen hs.gw
    refine (Tryz.strings_Split ⟨s.toArray⟩ ⟨crlf.toArray⟩ m w (by rw [strSize]; exact hsz) hm (by decide)).mono fun e w' hq => ?_
    obtain ⟨rfl, rfl⟩ := hq
    have e := split_eq s
    have hlenT : Lib.countB ⟨s.toArray⟩ ⟨crlf.toArray⟩ + 1 = (spStrRows (spSplit s)).length := by
      rw [spStrRows, List.length_map, ← e, List.length_map]
      exact (Lib.splitB_all ⟨crlf.toArray⟩ (by decide) 0 _ _ rfl).symm
    refine ⟨⟨⟨w.heap.size, 0, 1, (spStrRows (spSplit s)).length, false⟩, ?_, Nat.le_refl _, ?_⟩, ext_alloc _ _⟩
    · rw [hlenT]
    · refine ⟨rfl, _, _, _, Array.getElem?_push_size, fun i j kd hi hj => ?_, fun h => by cases h⟩
      obtain ⟨rfl, rfl⟩ : j = 0 ∧ kd = Kd.str := by
        cases j with
        | zero => simp at hj; exact ⟨rfl, hj.symm⟩
        | succ j => simp at hj
      have hi' : i < (Lib.splitB ⟨crlf.toArray⟩ 0 (Lib.countB ⟨s.toArray⟩ ⟨crlf.toArray⟩) ⟨s.toArray⟩).length := by
        rw [← hlenT] at hi
        rw [Lib.splitB_all ⟨crlf.toArray⟩ (by decide) 0 _ _ rfl]; exact hi
      have e2 : (spSplit s)[i]? = some ((Lib.splitB ⟨crlf.toArray⟩ 0 (Lib.countB ⟨s.toArray⟩ ⟨crlf.toArray⟩) ⟨s.toArray⟩)[i]).data.toList := by
        rw [← e, List.getElem?_map, List.getElem?_eq_getElem hi']; rfl
      have e3 : (spStrRows (spSplit s)).getD i [] = [AV.str ((Lib.splitB ⟨crlf.toArray⟩ 0 (Lib.countB ⟨s.toArray⟩ ⟨crlf.toArray⟩) ⟨s.toArray⟩)[i]).data.toList] := by
        unfold spStrRows
        rw [List.getD_eq_getElem?_getD, List.getElem?_map, e2]; rfl
      unfold cellAt
      rw [e3]
      simp only [Nat.zero_add, Nat.mul_one, Nat.add_zero]
      rw [List.getElem?_toArray, List.getElem?_map, List.getElem?_eq_getElem hi']
      rfl
  · cases h
def P6s : Prims := addP (addP P5 26 q26) 70 q70
theorem P6s_ok : PrimsOK Tryz.prog P6s := addP_ok (addP_ok P5_ok q26_ok) q70_ok
end Go.Proofs.YtpdgmgkkbbndfaaGreatDoor

set_option maxRecDepth 100000
set_option maxHeartbeats 1600000
namespace Go.Proofs.YtpdgmgkkbbndfaaGreatDoor
open Go Go.Proofs Go.Proofs.YtpdgmgkkbbndfaaGreatDoor.SX
def b34zI (start : List UInt8) (lrows bb : List (List AV)) (o m bl : Nat) : SL := ⟨[(2, .ptr ⟨1, 0, 0⟩), (8, .ptr ⟨4, 0, 0⟩), (37, .sl ⟨2, o, 0⟩ m (.known m)), (38, .int .i64 m), (39, .int .i64 0)], [(1, .cells true [.str, .any, .any] [[.str [], .nilSl, .nilSl]]), (2, .cells false [.str] lrows), (3, .cells true [.int .u8] bb), (4, .cells true [.str, .any, .any] [[.str start, .nilSl, .sl ⟨3, 0, 0⟩ bl .open_]])], 5⟩
def b34I (start : List UInt8) (lrows bb : List (List AV)) (o m bl : Nat) (rows : List (List AV)) (n : Nat) (k : Int) : SL := ⟨[(2, .ptr ⟨1, 0, 0⟩), (8, .ptr ⟨4, 0, 0⟩), (37, .sl ⟨2, o, 0⟩ m (.known m)), (38, .int .i64 m), (39, .int .i64 k)], [(1, .cells true [.str, .any, .any] [[.str [], .nilSl, .nilSl]]), (2, .cells false [.str] lrows), (3, .cells true [.int .u8] bb), (4, .cells true [.str, .any, .any] [[.str start, .sl ⟨5, 0, 0⟩ n .open_, .sl ⟨3, 0, 0⟩ bl .open_]]), (5, .cells true [.str, .str] rows)], 6⟩
theorem b34z_TT (start : List UInt8) (lrows : List (List AV)) (bb : List (List AV)) (o : Nat) (m : Nat) (bl : Nat) :
 Path (run Tryz.prog P6s 100 (lbody Tryz.prog 34 0) (SL.mp 66 ([.as_ true, .as_ true]) (b34zI start lrows bb o m bl))) 5 [] (SL.mk [(2, AV.ptr (Loc.mk 1 0 0)), (3, AV.int IntKind.i64 (4 : Int))] [(1, Blk.cells true [Kd.str, Kd.any, Kd.any] [[AV.str [], AV.nilSl, AV.nilSl]])] 5) (Ex.ret)
 (((((((((((True ∧ (decide ((0 : Int) < (↑m : Int)) = true)) ∧ (decide ((0 : Int) ≤ (0 : Int) ∧ (0 : Int) < (↑m : Int)) = true)) ∧ (decide (o + 0 < List.length lrows) = true)) ∧ (decide (List.length (AV.toStr (List.getD (List.getD lrows (o + 0) []) (0) AV.undef)) < 4294967281) = true)) ∧ ((!spFound (AV.toStr (List.getD (List.getD lrows (o + 0) []) (0) AV.undef)) [(58 : UInt8), (32 : UInt8)]) = true)) ∧ (true = true)) ∧ (true = true)) ∧ (true = true)) ∧ (true = true)) ∧ (true = true)) ∧ (true = true)) := by unfold Path; kernel_rfl
theorem b34z_TFE (start : List UInt8) (lrows : List (List AV)) (bb : List (List AV)) (o : Nat) (m : Nat) (bl : Nat) :
 Path (run Tryz.prog P6s 100 (lbody Tryz.prog 34 0) (SL.mp 66 ([.as_ true, .as_ false, PI.ev 1]) (b34zI start lrows bb o m bl))) 5 [6] (b34I (start) (lrows) (bb) (o) (m) (bl) ([[AV.str (spBefore (AV.toStr (List.getD (List.getD lrows (o + 0) []) (0) AV.undef)) [(58 : UInt8), (32 : UInt8)]), AV.str (spAfter (AV.toStr (List.getD (List.getD lrows (o + 0) []) (0) AV.undef)) [(58 : UInt8), (32 : UInt8)])]]) (1) ((1 : Int))) (Ex.normal)
 ((((((((((True ∧ (decide ((0 : Int) < (↑m : Int)) = true)) ∧ (decide ((0 : Int) ≤ (0 : Int) ∧ (0 : Int) < (↑m : Int)) = true)) ∧ (decide (o + 0 < List.length lrows) = true)) ∧ (decide (List.length (AV.toStr (List.getD (List.getD lrows (o + 0) []) (0) AV.undef)) < 4294967281) = true)) ∧ ((!spFound (AV.toStr (List.getD (List.getD lrows (o + 0) []) (0) AV.undef)) [(58 : UInt8), (32 : UInt8)]) = false)) ∧ (true = true)) ∧ (true = true)) ∧ (true = true)) ∧ (true = true)) ∧ (true = true)) := by unfold Path; kernel_rfl
theorem b34z_F (start : List UInt8) (lrows : List (List AV)) (bb : List (List AV)) (o : Nat) (m : Nat) (bl : Nat) :
 Path (run Tryz.prog P6s 100 (lbody Tryz.prog 34 0) (SL.mp 66 ([.as_ false]) (b34zI start lrows bb o m bl))) 5 [] (b34zI (start) (lrows) (bb) (o) (m) (bl)) (Ex.exit 0)
 (True ∧ (decide ((0 : Int) < (↑m : Int)) = false)) := by unfold Path; kernel_rfl
theorem b34_TT (start : List UInt8) (lrows : List (List AV)) (bb : List (List AV)) (o : Nat) (m : Nat) (bl : Nat) (rows : List (List AV)) (n : Nat) (k : Int) :
 Path (run Tryz.prog P6s 100 (lbody Tryz.prog 34 0) (SL.mp 66 ([.as_ true, .as_ true]) (b34I start lrows bb o m bl rows n k))) 5 [] (SL.mk [(2, AV.ptr (Loc.mk 1 0 0)), (3, AV.int IntKind.i64 (4 : Int))] [(1, Blk.cells true [Kd.str, Kd.any, Kd.any] [[AV.str [], AV.nilSl, AV.nilSl]])] 5) (Ex.ret)
 (((((((((((True ∧ (decide (k < (↑m : Int)) = true)) ∧ (decide ((0 : Int) ≤ k ∧ k < (↑m : Int)) = true)) ∧ (decide (o + Int.toNat k < List.length lrows) = true)) ∧ (decide (List.length (AV.toStr (List.getD (List.getD lrows (o + Int.toNat k) []) (0) AV.undef)) < 4294967281) = true)) ∧ ((!spFound (AV.toStr (List.getD (List.getD lrows (o + Int.toNat k) []) (0) AV.undef)) [(58 : UInt8), (32 : UInt8)]) = true)) ∧ (true = true)) ∧ (true = true)) ∧ (true = true)) ∧ (true = true)) ∧ (true = true)) ∧ (true = true)) := by unfold Path; kernel_rfl
theorem b34_TF (start : List UInt8) (lrows : List (List AV)) (bb : List (List AV)) (o : Nat) (m : Nat) (bl : Nat) (rows : List (List AV)) (n : Nat) (k : Int) :
 Path (run Tryz.prog P6s 100 (lbody Tryz.prog 34 0) (SL.mp 66 ([.as_ true, .as_ false]) (b34I start lrows bb o m bl rows n k))) 5 [7] (b34I (start) (lrows) (bb) (o) (m) (bl) (rows ++ [[AV.str (spBefore (AV.toStr (List.getD (List.getD lrows (o + Int.toNat k) []) (0) AV.undef)) [(58 : UInt8), (32 : UInt8)]), AV.str (spAfter (AV.toStr (List.getD (List.getD lrows (o + Int.toNat k) []) (0) AV.undef)) [(58 : UInt8), (32 : UInt8)])]]) (n + 1) (IntKind.wrap IntKind.i64 (k + (1 : Int)))) (Ex.normal)
 (((((((((((True ∧ (decide (k < (↑m : Int)) = true)) ∧ (decide ((0 : Int) ≤ k ∧ k < (↑m : Int)) = true)) ∧ (decide (o + Int.toNat k < List.length lrows) = true)) ∧ (decide (List.length (AV.toStr (List.getD (List.getD lrows (o + Int.toNat k) []) (0) AV.undef)) < 4294967281) = true)) ∧ ((!spFound (AV.toStr (List.getD (List.getD lrows (o + Int.toNat k) []) (0) AV.undef)) [(58 : UInt8), (32 : UInt8)]) = false)) ∧ (true = true)) ∧ (true = true)) ∧ (decide (0 = 0 ∧ n = List.length rows) = true)) ∧ (decide ((n + 1) * 32 ≤ 140737488355328) = true)) ∧ (true = true)) ∧ (true = true)) := by unfold Path; kernel_rfl
theorem b34_F (start : List UInt8) (lrows : List (List AV)) (bb : List (List AV)) (o : Nat) (m : Nat) (bl : Nat) (rows : List (List AV)) (n : Nat) (k : Int) :
 Path (run Tryz.prog P6s 100 (lbody Tryz.prog 34 0) (SL.mp 66 ([.as_ false]) (b34I start lrows bb o m bl rows n k))) 5 [5] (b34I (start) (lrows) (bb) (o) (m) (bl) (rows) (n) (k)) (Ex.exit 0)
 (True ∧ (decide (k < (↑m : Int)) = false)) := by unfold Path; kernel_rfl
theorem c34r_T (brows : List (List AV)) :
 Path (runCallB Tryz.prog P6s 100 34 [AV.slq 0 (List.length brows)] (st0 [Blk.cells false [Kd.int IntKind.u8] brows] ([.as_ true]))) 1 [] (SL.mk [] [] 1) (Out.ret (AV.tup [AV.agg [AV.str [], AV.nilSl, AV.nilSl], AV.int IntKind.i64 (8 : Int)]))
 ((((((((True ∧ (decide ((↑(List.length brows) : Int) > (4096 : Int)) = true)) ∧ (true = true)) ∧ (true = true)) ∧ (true = true)) ∧ (true = true)) ∧ (true = true)) ∧ (true = true)) ∧ (true = true)) := by unfold Path; kernel_rfl
theorem c34r_FT (brows : List (List AV)) :
 Path (runCallB Tryz.prog P6s 100 34 [AV.slq 0 (List.length brows)] (st0 [Blk.cells false [Kd.int IntKind.u8] brows] ([.as_ false, .as_ true]))) 1 [] (SL.mk [] [] 1) (Out.ret (AV.tup [AV.agg [AV.str [], AV.nilSl, AV.nilSl], AV.int IntKind.i64 (4 : Int)]))
 (((((((((((True ∧ (decide ((↑(List.length brows) : Int) > (4096 : Int)) = false)) ∧ (decide (0 + List.length brows ≤ List.length brows) = true)) ∧ (decide (List.length (List.map rowByte (sub brows 0 (List.length brows))) < 4294967281) = true)) ∧ ((!spFound (List.map rowByte (sub brows 0 (List.length brows))) [(13 : UInt8), (10 : UInt8), (13 : UInt8), (10 : UInt8)]) = true)) ∧ (true = true)) ∧ (true = true)) ∧ (true = true)) ∧ (true = true)) ∧ (true = true)) ∧ (true = true)) ∧ (true = true)) := by unfold Path; kernel_rfl
theorem c34r_FFL (brows : List (List AV)) :
 Path (runCallB Tryz.prog P6s 100 34 [AV.slq 0 (List.length brows)] (st0 [Blk.cells false [Kd.int IntKind.u8] brows] ([.as_ false, .as_ false, PI.loop (b34zI (AV.toStr (List.getD (List.getD (spStrRows (spSplit (spBefore (List.map rowByte (sub brows 0 (List.length brows))) [(13 : UInt8), (10 : UInt8), (13 : UInt8), (10 : UInt8)]))) 0 []) 0 AV.undef)) (spStrRows (spSplit (spBefore (List.map rowByte (sub brows 0 (List.length brows))) [(13 : UInt8), (10 : UInt8), (13 : UInt8), (10 : UInt8)]))) (List.map byteRow (spAfter (List.map rowByte (sub brows 0 (List.length brows))) [(13 : UInt8), (10 : UInt8), (13 : UInt8), (10 : UInt8)])) (cutI (some (AV.int IntKind.i64 (1 : Int))) (↑(List.length (spStrRows (spSplit (spBefore (List.map rowByte (sub brows 0 (List.length brows))) [(13 : UInt8), (10 : UInt8), (13 : UInt8), (10 : UInt8)])))) : Int) (1 : Int) 0) (Int.toNat (↑(List.length (spStrRows (spSplit (spBefore (List.map rowByte (sub brows 0 (List.length brows))) [(13 : UInt8), (10 : UInt8), (13 : UInt8), (10 : UInt8)])))) : Int) - 1) (List.length (spAfter (List.map rowByte (sub brows 0 (List.length brows))) [(13 : UInt8), (10 : UInt8), (13 : UInt8), (10 : UInt8)]))) Ex.ret (SL.mk [(2, AV.ptr (Loc.mk 1 0 0)), (3, AV.int IntKind.i64 (4 : Int))] [(1, Blk.cells true [Kd.str, Kd.any, Kd.any] [[AV.str [], AV.nilSl, AV.nilSl]])] 5)]))) 1 [] (SL.mk [] [] 1) (Out.ret (AV.tup [AV.agg [AV.str [], AV.nilSl, AV.nilSl], AV.int IntKind.i64 (4 : Int)]))
 ((((((((((((((((True ∧ (decide ((↑(List.length brows) : Int) > (4096 : Int)) = false)) ∧ (decide (0 + List.length brows ≤ List.length brows) = true)) ∧ (decide (List.length (List.map rowByte (sub brows 0 (List.length brows))) < 4294967281) = true)) ∧ ((!spFound (List.map rowByte (sub brows 0 (List.length brows))) [(13 : UInt8), (10 : UInt8), (13 : UInt8), (10 : UInt8)]) = false)) ∧ (decide (List.length (spBefore (List.map rowByte (sub brows 0 (List.length brows))) [(13 : UInt8), (10 : UInt8), (13 : UInt8), (10 : UInt8)]) < 4294967281 ∧ [(13 : UInt8), (10 : UInt8)] = crlf) = true)) ∧ (decide ((0 : Int) ≤ (0 : Int) ∧ (0 : Int) < (↑(List.length (spStrRows (spSplit (spBefore (List.map rowByte (sub brows 0 (List.length brows))) [(13 : UInt8), (10 : UInt8), (13 : UInt8), (10 : UInt8)])))) : Int)) = true)) ∧ (decide (0 < List.length (spStrRows (spSplit (spBefore (List.map rowByte (sub brows 0 (List.length brows))) [(13 : UInt8), (10 : UInt8), (13 : UInt8), (10 : UInt8)])))) = true)) ∧ (true = true)) ∧ (true = true)) ∧ (true = true)) ∧ (true = true)) ∧ (true = true)) ∧ (true = true)) ∧ (decide ((0 : Int) ≤ (1 : Int) ∧ (1 : Int) ≤ (↑(List.length (spStrRows (spSplit (spBefore (List.map rowByte (sub brows 0 (List.length brows))) [(13 : UInt8), (10 : UInt8), (13 : UInt8), (10 : UInt8)])))) : Int) ∧ (↑(List.length (spStrRows (spSplit (spBefore (List.map rowByte (sub brows 0 (List.length brows))) [(13 : UInt8), (10 : UInt8), (13 : UInt8), (10 : UInt8)])))) : Int) ≤ (↑(List.length (spStrRows (spSplit (spBefore (List.map rowByte (sub brows 0 (List.length brows))) [(13 : UInt8), (10 : UInt8), (13 : UInt8), (10 : UInt8)])))) : Int) ∧ (↑(List.length (spStrRows (spSplit (spBefore (List.map rowByte (sub brows 0 (List.length brows))) [(13 : UInt8), (10 : UInt8), (13 : UInt8), (10 : UInt8)])))) : Int) ≤ (↑(List.length (spStrRows (spSplit (spBefore (List.map rowByte (sub brows 0 (List.length brows))) [(13 : UInt8), (10 : UInt8), (13 : UInt8), (10 : UInt8)])))) : Int)) = true)) ∧ (LoopOK Tryz.prog (lbody Tryz.prog 34 0) (66) (SL.mk [(2, AV.ptr (Loc.mk 1 0 0)), (8, AV.ptr (Loc.mk 4 0 0)), (37, AV.sl (Loc.mk 2 (cutI (some (AV.int IntKind.i64 (1 : Int))) (↑(List.length (spStrRows (spSplit (spBefore (List.map rowByte (sub brows 0 (List.length brows))) [(13 : UInt8), (10 : UInt8), (13 : UInt8), (10 : UInt8)])))) : Int) (1 : Int) 0) 0) (Int.toNat (↑(List.length (spStrRows (spSplit (spBefore (List.map rowByte (sub brows 0 (List.length brows))) [(13 : UInt8), (10 : UInt8), (13 : UInt8), (10 : UInt8)])))) : Int) - 1) (Cap.known (Int.toNat (↑(List.length (spStrRows (spSplit (spBefore (List.map rowByte (sub brows 0 (List.length brows))) [(13 : UInt8), (10 : UInt8), (13 : UInt8), (10 : UInt8)])))) : Int) - 1))), (38, AV.int IntKind.i64 (↑(Int.toNat (↑(List.length (spStrRows (spSplit (spBefore (List.map rowByte (sub brows 0 (List.length brows))) [(13 : UInt8), (10 : UInt8), (13 : UInt8), (10 : UInt8)])))) : Int) - 1) : Int)), (39, AV.int IntKind.i64 (0 : Int))] [(1, Blk.cells true [Kd.str, Kd.any, Kd.any] [[AV.str [], AV.nilSl, AV.nilSl]]), (2, Blk.cells false [Kd.str] (spStrRows (spSplit (spBefore (List.map rowByte (sub brows 0 (List.length brows))) [(13 : UInt8), (10 : UInt8), (13 : UInt8), (10 : UInt8)])))), (3, Blk.cells true [Kd.int IntKind.u8] (List.map byteRow (spAfter (List.map rowByte (sub brows 0 (List.length brows))) [(13 : UInt8), (10 : UInt8), (13 : UInt8), (10 : UInt8)]))), (4, Blk.cells true [Kd.str, Kd.any, Kd.any] [[AV.str (AV.toStr (List.getD (List.getD (spStrRows (spSplit (spBefore (List.map rowByte (sub brows 0 (List.length brows))) [(13 : UInt8), (10 : UInt8), (13 : UInt8), (10 : UInt8)]))) 0 []) 0 AV.undef)), AV.nilSl, AV.sl (Loc.mk 3 0 0) (List.length (spAfter (List.map rowByte (sub brows 0 (List.length brows))) [(13 : UInt8), (10 : UInt8), (13 : UInt8), (10 : UInt8)])) Cap.open_]])] 5) Ex.ret (SL.mk [(2, AV.ptr (Loc.mk 1 0 0)), (3, AV.int IntKind.i64 (4 : Int))] [(1, Blk.cells true [Kd.str, Kd.any, Kd.any] [[AV.str [], AV.nilSl, AV.nilSl]])] 5))) ∧ (true = true)) := by unfold Path; kernel_rfl
theorem c34z_FFLT (brows : List (List AV)) :
 Path (runCallB Tryz.prog P6s 100 34 [AV.slq 0 (List.length brows)] (st0 [Blk.cells false [Kd.int IntKind.u8] brows] ([.as_ false, .as_ false, PI.loop (b34zI (AV.toStr (List.getD (List.getD (spStrRows (spSplit (spBefore (List.map rowByte (sub brows 0 (List.length brows))) [(13 : UInt8), (10 : UInt8), (13 : UInt8), (10 : UInt8)]))) 0 []) 0 AV.undef)) (spStrRows (spSplit (spBefore (List.map rowByte (sub brows 0 (List.length brows))) [(13 : UInt8), (10 : UInt8), (13 : UInt8), (10 : UInt8)]))) (List.map byteRow (spAfter (List.map rowByte (sub brows 0 (List.length brows))) [(13 : UInt8), (10 : UInt8), (13 : UInt8), (10 : UInt8)])) (cutI (some (AV.int IntKind.i64 (1 : Int))) (↑(List.length (spStrRows (spSplit (spBefore (List.map rowByte (sub brows 0 (List.length brows))) [(13 : UInt8), (10 : UInt8), (13 : UInt8), (10 : UInt8)])))) : Int) (1 : Int) 0) (Int.toNat (↑(List.length (spStrRows (spSplit (spBefore (List.map rowByte (sub brows 0 (List.length brows))) [(13 : UInt8), (10 : UInt8), (13 : UInt8), (10 : UInt8)])))) : Int) - 1) (List.length (spAfter (List.map rowByte (sub brows 0 (List.length brows))) [(13 : UInt8), (10 : UInt8), (13 : UInt8), (10 : UInt8)]))) (Ex.exit 0) (b34zI (AV.toStr (List.getD (List.getD (spStrRows (spSplit (spBefore (List.map rowByte (sub brows 0 (List.length brows))) [(13 : UInt8), (10 : UInt8), (13 : UInt8), (10 : UInt8)]))) 0 []) 0 AV.undef)) (spStrRows (spSplit (spBefore (List.map rowByte (sub brows 0 (List.length brows))) [(13 : UInt8), (10 : UInt8), (13 : UInt8), (10 : UInt8)]))) (List.map byteRow (spAfter (List.map rowByte (sub brows 0 (List.length brows))) [(13 : UInt8), (10 : UInt8), (13 : UInt8), (10 : UInt8)])) (cutI (some (AV.int IntKind.i64 (1 : Int))) (↑(List.length (spStrRows (spSplit (spBefore (List.map rowByte (sub brows 0 (List.length brows))) [(13 : UInt8), (10 : UInt8), (13 : UInt8), (10 : UInt8)])))) : Int) (1 : Int) 0) (Int.toNat (↑(List.length (spStrRows (spSplit (spBefore (List.map rowByte (sub brows 0 (List.length brows))) [(13 : UInt8), (10 : UInt8), (13 : UInt8), (10 : UInt8)])))) : Int) - 1) (List.length (spAfter (List.map rowByte (sub brows 0 (List.length brows))) [(13 : UInt8), (10 : UInt8), (13 : UInt8), (10 : UInt8)]))), .as_ true]))) 1 [] (SL.mk [] [] 1) (Out.ret (AV.tup [AV.agg [AV.str [], AV.nilSl, AV.nilSl], AV.int IntKind.i64 (4 : Int)]))
 (((((((((((((((((((((((((True ∧ (decide ((↑(List.length brows) : Int) > (4096 : Int)) = false)) ∧ (decide (0 + List.length brows ≤ List.length brows) = true)) ∧ (decide (List.length (List.map rowByte (sub brows 0 (List.length brows))) < 4294967281) = true)) ∧ ((!spFound (List.map rowByte (sub brows 0 (List.length brows))) [(13 : UInt8), (10 : UInt8), (13 : UInt8), (10 : UInt8)]) = false)) ∧ (decide (List.length (spBefore (List.map rowByte (sub brows 0 (List.length brows))) [(13 : UInt8), (10 : UInt8), (13 : UInt8), (10 : UInt8)]) < 4294967281 ∧ [(13 : UInt8), (10 : UInt8)] = crlf) = true)) ∧ (decide ((0 : Int) ≤ (0 : Int) ∧ (0 : Int) < (↑(List.length (spStrRows (spSplit (spBefore (List.map rowByte (sub brows 0 (List.length brows))) [(13 : UInt8), (10 : UInt8), (13 : UInt8), (10 : UInt8)])))) : Int)) = true)) ∧ (decide (0 < List.length (spStrRows (spSplit (spBefore (List.map rowByte (sub brows 0 (List.length brows))) [(13 : UInt8), (10 : UInt8), (13 : UInt8), (10 : UInt8)])))) = true)) ∧ (true = true)) ∧ (true = true)) ∧ (true = true)) ∧ (true = true)) ∧ (true = true)) ∧ (true = true)) ∧ (decide ((0 : Int) ≤ (1 : Int) ∧ (1 : Int) ≤ (↑(List.length (spStrRows (spSplit (spBefore (List.map rowByte (sub brows 0 (List.length brows))) [(13 : UInt8), (10 : UInt8), (13 : UInt8), (10 : UInt8)])))) : Int) ∧ (↑(List.length (spStrRows (spSplit (spBefore (List.map rowByte (sub brows 0 (List.length brows))) [(13 : UInt8), (10 : UInt8), (13 : UInt8), (10 : UInt8)])))) : Int) ≤ (↑(List.length (spStrRows (spSplit (spBefore (List.map rowByte (sub brows 0 (List.length brows))) [(13 : UInt8), (10 : UInt8), (13 : UInt8), (10 : UInt8)])))) : Int) ∧ (↑(List.length (spStrRows (spSplit (spBefore (List.map rowByte (sub brows 0 (List.length brows))) [(13 : UInt8), (10 : UInt8), (13 : UInt8), (10 : UInt8)])))) : Int) ≤ (↑(List.length (spStrRows (spSplit (spBefore (List.map rowByte (sub brows 0 (List.length brows))) [(13 : UInt8), (10 : UInt8), (13 : UInt8), (10 : UInt8)])))) : Int)) = true)) ∧ (LoopOK Tryz.prog (lbody Tryz.prog 34 0) (66) (SL.mk [(2, AV.ptr (Loc.mk 1 0 0)), (8, AV.ptr (Loc.mk 4 0 0)), (37, AV.sl (Loc.mk 2 (cutI (some (AV.int IntKind.i64 (1 : Int))) (↑(List.length (spStrRows (spSplit (spBefore (List.map rowByte (sub brows 0 (List.length brows))) [(13 : UInt8), (10 : UInt8), (13 : UInt8), (10 : UInt8)])))) : Int) (1 : Int) 0) 0) (Int.toNat (↑(List.length (spStrRows (spSplit (spBefore (List.map rowByte (sub brows 0 (List.length brows))) [(13 : UInt8), (10 : UInt8), (13 : UInt8), (10 : UInt8)])))) : Int) - 1) (Cap.known (Int.toNat (↑(List.length (spStrRows (spSplit (spBefore (List.map rowByte (sub brows 0 (List.length brows))) [(13 : UInt8), (10 : UInt8), (13 : UInt8), (10 : UInt8)])))) : Int) - 1))), (38, AV.int IntKind.i64 (↑(Int.toNat (↑(List.length (spStrRows (spSplit (spBefore (List.map rowByte (sub brows 0 (List.length brows))) [(13 : UInt8), (10 : UInt8), (13 : UInt8), (10 : UInt8)])))) : Int) - 1) : Int)), (39, AV.int IntKind.i64 (0 : Int))] [(1, Blk.cells true [Kd.str, Kd.any, Kd.any] [[AV.str [], AV.nilSl, AV.nilSl]]), (2, Blk.cells false [Kd.str] (spStrRows (spSplit (spBefore (List.map rowByte (sub brows 0 (List.length brows))) [(13 : UInt8), (10 : UInt8), (13 : UInt8), (10 : UInt8)])))), (3, Blk.cells true [Kd.int IntKind.u8] (List.map byteRow (spAfter (List.map rowByte (sub brows 0 (List.length brows))) [(13 : UInt8), (10 : UInt8), (13 : UInt8), (10 : UInt8)]))), (4, Blk.cells true [Kd.str, Kd.any, Kd.any] [[AV.str (AV.toStr (List.getD (List.getD (spStrRows (spSplit (spBefore (List.map rowByte (sub brows 0 (List.length brows))) [(13 : UInt8), (10 : UInt8), (13 : UInt8), (10 : UInt8)]))) 0 []) 0 AV.undef)), AV.nilSl, AV.sl (Loc.mk 3 0 0) (List.length (spAfter (List.map rowByte (sub brows 0 (List.length brows))) [(13 : UInt8), (10 : UInt8), (13 : UInt8), (10 : UInt8)])) Cap.open_]])] 5) (Ex.exit 0) (SL.mk [(2, AV.ptr (Loc.mk 1 0 0)), (8, AV.ptr (Loc.mk 4 0 0)), (37, AV.sl (Loc.mk 2 (cutI (some (AV.int IntKind.i64 (1 : Int))) (↑(List.length (spStrRows (spSplit (spBefore (List.map rowByte (sub brows 0 (List.length brows))) [(13 : UInt8), (10 : UInt8), (13 : UInt8), (10 : UInt8)])))) : Int) (1 : Int) 0) 0) (Int.toNat (↑(List.length (spStrRows (spSplit (spBefore (List.map rowByte (sub brows 0 (List.length brows))) [(13 : UInt8), (10 : UInt8), (13 : UInt8), (10 : UInt8)])))) : Int) - 1) (Cap.known (Int.toNat (↑(List.length (spStrRows (spSplit (spBefore (List.map rowByte (sub brows 0 (List.length brows))) [(13 : UInt8), (10 : UInt8), (13 : UInt8), (10 : UInt8)])))) : Int) - 1))), (38, AV.int IntKind.i64 (↑(Int.toNat (↑(List.length (spStrRows (spSplit (spBefore (List.map rowByte (sub brows 0 (List.length brows))) [(13 : UInt8), (10 : UInt8), (13 : UInt8), (10 : UInt8)])))) : Int) - 1) : Int)), (39, AV.int IntKind.i64 (0 : Int))] [(1, Blk.cells true [Kd.str, Kd.any, Kd.any] [[AV.str [], AV.nilSl, AV.nilSl]]), (2, Blk.cells false [Kd.str] (spStrRows (spSplit (spBefore (List.map rowByte (sub brows 0 (List.length brows))) [(13 : UInt8), (10 : UInt8), (13 : UInt8), (10 : UInt8)])))), (3, Blk.cells true [Kd.int IntKind.u8] (List.map byteRow (spAfter (List.map rowByte (sub brows 0 (List.length brows))) [(13 : UInt8), (10 : UInt8), (13 : UInt8), (10 : UInt8)]))), (4, Blk.cells true [Kd.str, Kd.any, Kd.any] [[AV.str (AV.toStr (List.getD (List.getD (spStrRows (spSplit (spBefore (List.map rowByte (sub brows 0 (List.length brows))) [(13 : UInt8), (10 : UInt8), (13 : UInt8), (10 : UInt8)]))) 0 []) 0 AV.undef)), AV.nilSl, AV.sl (Loc.mk 3 0 0) (List.length (spAfter (List.map rowByte (sub brows 0 (List.length brows))) [(13 : UInt8), (10 : UInt8), (13 : UInt8), (10 : UInt8)])) Cap.open_]])] 5))) ∧ (true = true)) ∧ ((true && (decide (0 + List.length (spAfter (List.map rowByte (sub brows 0 (List.length brows))) [(13 : UInt8), (10 : UInt8), (13 : UInt8), (10 : UInt8)]) ≤ List.length (List.map byteRow (spAfter (List.map rowByte (sub brows 0 (List.length brows))) [(13 : UInt8), (10 : UInt8), (13 : UInt8), (10 : UInt8)]))) && decide (List.length (AV.toStr (List.getD (List.getD (spStrRows (spSplit (spBefore (List.map rowByte (sub brows 0 (List.length brows))) [(13 : UInt8), (10 : UInt8), (13 : UInt8), (10 : UInt8)]))) 0 []) 0 AV.undef)) ≤ 4294967200 ∧ true = true ∧ List.length (sub (List.map byteRow (spAfter (List.map rowByte (sub brows 0 (List.length brows))) [(13 : UInt8), (10 : UInt8), (13 : UInt8), (10 : UInt8)])) 0 (List.length (spAfter (List.map rowByte (sub brows 0 (List.length brows))) [(13 : UInt8), (10 : UInt8), (13 : UInt8), (10 : UInt8)]))) ≤ 140737488355328))) = true)) ∧ ((!spRight (AV.toStr (List.getD (List.getD (spStrRows (spSplit (spBefore (List.map rowByte (sub brows 0 (List.length brows))) [(13 : UInt8), (10 : UInt8), (13 : UInt8), (10 : UInt8)]))) 0 []) 0 AV.undef)) [] (List.length (sub (List.map byteRow (spAfter (List.map rowByte (sub brows 0 (List.length brows))) [(13 : UInt8), (10 : UInt8), (13 : UInt8), (10 : UInt8)])) 0 (List.length (spAfter (List.map rowByte (sub brows 0 (List.length brows))) [(13 : UInt8), (10 : UInt8), (13 : UInt8), (10 : UInt8)]))))) = true)) ∧ (true = true)) ∧ (true = true)) ∧ (true = true)) ∧ (true = true)) ∧ (true = true)) ∧ (true = true)) ∧ (true = true)) := by unfold Path; kernel_rfl
theorem c34i_FFLT (brows : List (List AV)) (rows : List (List AV)) (n : Nat) :
 Path (runCallB Tryz.prog P6s 100 34 [AV.slq 0 (List.length brows)] (st0 [Blk.cells false [Kd.int IntKind.u8] brows] ([.as_ false, .as_ false, PI.loop (b34zI (AV.toStr (List.getD (List.getD (spStrRows (spSplit (spBefore (List.map rowByte (sub brows 0 (List.length brows))) [(13 : UInt8), (10 : UInt8), (13 : UInt8), (10 : UInt8)]))) 0 []) 0 AV.undef)) (spStrRows (spSplit (spBefore (List.map rowByte (sub brows 0 (List.length brows))) [(13 : UInt8), (10 : UInt8), (13 : UInt8), (10 : UInt8)]))) (List.map byteRow (spAfter (List.map rowByte (sub brows 0 (List.length brows))) [(13 : UInt8), (10 : UInt8), (13 : UInt8), (10 : UInt8)])) (cutI (some (AV.int IntKind.i64 (1 : Int))) (↑(List.length (spStrRows (spSplit (spBefore (List.map rowByte (sub brows 0 (List.length brows))) [(13 : UInt8), (10 : UInt8), (13 : UInt8), (10 : UInt8)])))) : Int) (1 : Int) 0) (Int.toNat (↑(List.length (spStrRows (spSplit (spBefore (List.map rowByte (sub brows 0 (List.length brows))) [(13 : UInt8), (10 : UInt8), (13 : UInt8), (10 : UInt8)])))) : Int) - 1) (List.length (spAfter (List.map rowByte (sub brows 0 (List.length brows))) [(13 : UInt8), (10 : UInt8), (13 : UInt8), (10 : UInt8)]))) (Ex.exit 0) (b34I (AV.toStr (List.getD (List.getD (spStrRows (spSplit (spBefore (List.map rowByte (sub brows 0 (List.length brows))) [(13 : UInt8), (10 : UInt8), (13 : UInt8), (10 : UInt8)]))) 0 []) 0 AV.undef)) (spStrRows (spSplit (spBefore (List.map rowByte (sub brows 0 (List.length brows))) [(13 : UInt8), (10 : UInt8), (13 : UInt8), (10 : UInt8)]))) (List.map byteRow (spAfter (List.map rowByte (sub brows 0 (List.length brows))) [(13 : UInt8), (10 : UInt8), (13 : UInt8), (10 : UInt8)])) (cutI (some (AV.int IntKind.i64 (1 : Int))) (↑(List.length (spStrRows (spSplit (spBefore (List.map rowByte (sub brows 0 (List.length brows))) [(13 : UInt8), (10 : UInt8), (13 : UInt8), (10 : UInt8)])))) : Int) (1 : Int) 0) (Int.toNat (↑(List.length (spStrRows (spSplit (spBefore (List.map rowByte (sub brows 0 (List.length brows))) [(13 : UInt8), (10 : UInt8), (13 : UInt8), (10 : UInt8)])))) : Int) - 1) (List.length (spAfter (List.map rowByte (sub brows 0 (List.length brows))) [(13 : UInt8), (10 : UInt8), (13 : UInt8), (10 : UInt8)])) rows n (↑(Int.toNat (↑(List.length (spStrRows (spSplit (spBefore (List.map rowByte (sub brows 0 (List.length brows))) [(13 : UInt8), (10 : UInt8), (13 : UInt8), (10 : UInt8)])))) : Int) - 1) : Int)), .as_ true]))) 1 [] (SL.mk [] [] 1) (Out.ret (AV.tup [AV.agg [AV.str [], AV.nilSl, AV.nilSl], AV.int IntKind.i64 (4 : Int)]))
 (((((((((((((((((((((((((True ∧ (decide ((↑(List.length brows) : Int) > (4096 : Int)) = false)) ∧ (decide (0 + List.length brows ≤ List.length brows) = true)) ∧ (decide (List.length (List.map rowByte (sub brows 0 (List.length brows))) < 4294967281) = true)) ∧ ((!spFound (List.map rowByte (sub brows 0 (List.length brows))) [(13 : UInt8), (10 : UInt8), (13 : UInt8), (10 : UInt8)]) = false)) ∧ (decide (List.length (spBefore (List.map rowByte (sub brows 0 (List.length brows))) [(13 : UInt8), (10 : UInt8), (13 : UInt8), (10 : UInt8)]) < 4294967281 ∧ [(13 : UInt8), (10 : UInt8)] = crlf) = true)) ∧ (decide ((0 : Int) ≤ (0 : Int) ∧ (0 : Int) < (↑(List.length (spStrRows (spSplit (spBefore (List.map rowByte (sub brows 0 (List.length brows))) [(13 : UInt8), (10 : UInt8), (13 : UInt8), (10 : UInt8)])))) : Int)) = true)) ∧ (decide (0 < List.length (spStrRows (spSplit (spBefore (List.map rowByte (sub brows 0 (List.length brows))) [(13 : UInt8), (10 : UInt8), (13 : UInt8), (10 : UInt8)])))) = true)) ∧ (true = true)) ∧ (true = true)) ∧ (true = true)) ∧ (true = true)) ∧ (true = true)) ∧ (true = true)) ∧ (decide ((0 : Int) ≤ (1 : Int) ∧ (1 : Int) ≤ (↑(List.length (spStrRows (spSplit (spBefore (List.map rowByte (sub brows 0 (List.length brows))) [(13 : UInt8), (10 : UInt8), (13 : UInt8), (10 : UInt8)])))) : Int) ∧ (↑(List.length (spStrRows (spSplit (spBefore (List.map rowByte (sub brows 0 (List.length brows))) [(13 : UInt8), (10 : UInt8), (13 : UInt8), (10 : UInt8)])))) : Int) ≤ (↑(List.length (spStrRows (spSplit (spBefore (List.map rowByte (sub brows 0 (List.length brows))) [(13 : UInt8), (10 : UInt8), (13 : UInt8), (10 : UInt8)])))) : Int) ∧ (↑(List.length (spStrRows (spSplit (spBefore (List.map rowByte (sub brows 0 (List.length brows))) [(13 : UInt8), (10 : UInt8), (13 : UInt8), (10 : UInt8)])))) : Int) ≤ (↑(List.length (spStrRows (spSplit (spBefore (List.map rowByte (sub brows 0 (List.length brows))) [(13 : UInt8), (10 : UInt8), (13 : UInt8), (10 : UInt8)])))) : Int)) = true)) ∧ (LoopOK Tryz.prog (lbody Tryz.prog 34 0) (66) (SL.mk [(2, AV.ptr (Loc.mk 1 0 0)), (8, AV.ptr (Loc.mk 4 0 0)), (37, AV.sl (Loc.mk 2 (cutI (some (AV.int IntKind.i64 (1 : Int))) (↑(List.length (spStrRows (spSplit (spBefore (List.map rowByte (sub brows 0 (List.length brows))) [(13 : UInt8), (10 : UInt8), (13 : UInt8), (10 : UInt8)])))) : Int) (1 : Int) 0) 0) (Int.toNat (↑(List.length (spStrRows (spSplit (spBefore (List.map rowByte (sub brows 0 (List.length brows))) [(13 : UInt8), (10 : UInt8), (13 : UInt8), (10 : UInt8)])))) : Int) - 1) (Cap.known (Int.toNat (↑(List.length (spStrRows (spSplit (spBefore (List.map rowByte (sub brows 0 (List.length brows))) [(13 : UInt8), (10 : UInt8), (13 : UInt8), (10 : UInt8)])))) : Int) - 1))), (38, AV.int IntKind.i64 (↑(Int.toNat (↑(List.length (spStrRows (spSplit (spBefore (List.map rowByte (sub brows 0 (List.length brows))) [(13 : UInt8), (10 : UInt8), (13 : UInt8), (10 : UInt8)])))) : Int) - 1) : Int)), (39, AV.int IntKind.i64 (0 : Int))] [(1, Blk.cells true [Kd.str, Kd.any, Kd.any] [[AV.str [], AV.nilSl, AV.nilSl]]), (2, Blk.cells false [Kd.str] (spStrRows (spSplit (spBefore (List.map rowByte (sub brows 0 (List.length brows))) [(13 : UInt8), (10 : UInt8), (13 : UInt8), (10 : UInt8)])))), (3, Blk.cells true [Kd.int IntKind.u8] (List.map byteRow (spAfter (List.map rowByte (sub brows 0 (List.length brows))) [(13 : UInt8), (10 : UInt8), (13 : UInt8), (10 : UInt8)]))), (4, Blk.cells true [Kd.str, Kd.any, Kd.any] [[AV.str (AV.toStr (List.getD (List.getD (spStrRows (spSplit (spBefore (List.map rowByte (sub brows 0 (List.length brows))) [(13 : UInt8), (10 : UInt8), (13 : UInt8), (10 : UInt8)]))) 0 []) 0 AV.undef)), AV.nilSl, AV.sl (Loc.mk 3 0 0) (List.length (spAfter (List.map rowByte (sub brows 0 (List.length brows))) [(13 : UInt8), (10 : UInt8), (13 : UInt8), (10 : UInt8)])) Cap.open_]])] 5) (Ex.exit 0) (SL.mk [(2, AV.ptr (Loc.mk 1 0 0)), (8, AV.ptr (Loc.mk 4 0 0)), (37, AV.sl (Loc.mk 2 (cutI (some (AV.int IntKind.i64 (1 : Int))) (↑(List.length (spStrRows (spSplit (spBefore (List.map rowByte (sub brows 0 (List.length brows))) [(13 : UInt8), (10 : UInt8), (13 : UInt8), (10 : UInt8)])))) : Int) (1 : Int) 0) 0) (Int.toNat (↑(List.length (spStrRows (spSplit (spBefore (List.map rowByte (sub brows 0 (List.length brows))) [(13 : UInt8), (10 : UInt8), (13 : UInt8), (10 : UInt8)])))) : Int) - 1) (Cap.known (Int.toNat (↑(List.length (spStrRows (spSplit (spBefore (List.map rowByte (sub brows 0 (List.length brows))) [(13 : UInt8), (10 : UInt8), (13 : UInt8), (10 : UInt8)])))) : Int) - 1))), (38, AV.int IntKind.i64 (↑(Int.toNat (↑(List.length (spStrRows (spSplit (spBefore (List.map rowByte (sub brows 0 (List.length brows))) [(13 : UInt8), (10 : UInt8), (13 : UInt8), (10 : UInt8)])))) : Int) - 1) : Int)), (39, AV.int IntKind.i64 (↑(Int.toNat (↑(List.length (spStrRows (spSplit (spBefore (List.map rowByte (sub brows 0 (List.length brows))) [(13 : UInt8), (10 : UInt8), (13 : UInt8), (10 : UInt8)])))) : Int) - 1) : Int))] [(1, Blk.cells true [Kd.str, Kd.any, Kd.any] [[AV.str [], AV.nilSl, AV.nilSl]]), (2, Blk.cells false [Kd.str] (spStrRows (spSplit (spBefore (List.map rowByte (sub brows 0 (List.length brows))) [(13 : UInt8), (10 : UInt8), (13 : UInt8), (10 : UInt8)])))), (3, Blk.cells true [Kd.int IntKind.u8] (List.map byteRow (spAfter (List.map rowByte (sub brows 0 (List.length brows))) [(13 : UInt8), (10 : UInt8), (13 : UInt8), (10 : UInt8)]))), (4, Blk.cells true [Kd.str, Kd.any, Kd.any] [[AV.str (AV.toStr (List.getD (List.getD (spStrRows (spSplit (spBefore (List.map rowByte (sub brows 0 (List.length brows))) [(13 : UInt8), (10 : UInt8), (13 : UInt8), (10 : UInt8)]))) 0 []) 0 AV.undef)), AV.sl (Loc.mk 5 0 0) n Cap.open_, AV.sl (Loc.mk 3 0 0) (List.length (spAfter (List.map rowByte (sub brows 0 (List.length brows))) [(13 : UInt8), (10 : UInt8), (13 : UInt8), (10 : UInt8)])) Cap.open_]]), (5, Blk.cells true [Kd.str, Kd.str] rows)] 6))) ∧ (true = true)) ∧ ((decide (0 + n ≤ List.length rows) && (decide (0 + List.length (spAfter (List.map rowByte (sub brows 0 (List.length brows))) [(13 : UInt8), (10 : UInt8), (13 : UInt8), (10 : UInt8)]) ≤ List.length (List.map byteRow (spAfter (List.map rowByte (sub brows 0 (List.length brows))) [(13 : UInt8), (10 : UInt8), (13 : UInt8), (10 : UInt8)]))) && decide (List.length (AV.toStr (List.getD (List.getD (spStrRows (spSplit (spBefore (List.map rowByte (sub brows 0 (List.length brows))) [(13 : UInt8), (10 : UInt8), (13 : UInt8), (10 : UInt8)]))) 0 []) 0 AV.undef)) ≤ 4294967200 ∧ List.all (sub rows 0 n) short = true ∧ List.length (sub (List.map byteRow (spAfter (List.map rowByte (sub brows 0 (List.length brows))) [(13 : UInt8), (10 : UInt8), (13 : UInt8), (10 : UInt8)])) 0 (List.length (spAfter (List.map rowByte (sub brows 0 (List.length brows))) [(13 : UInt8), (10 : UInt8), (13 : UInt8), (10 : UInt8)]))) ≤ 140737488355328))) = true)) ∧ ((!spRight (AV.toStr (List.getD (List.getD (spStrRows (spSplit (spBefore (List.map rowByte (sub brows 0 (List.length brows))) [(13 : UInt8), (10 : UInt8), (13 : UInt8), (10 : UInt8)]))) 0 []) 0 AV.undef)) (sub rows 0 n) (List.length (sub (List.map byteRow (spAfter (List.map rowByte (sub brows 0 (List.length brows))) [(13 : UInt8), (10 : UInt8), (13 : UInt8), (10 : UInt8)])) 0 (List.length (spAfter (List.map rowByte (sub brows 0 (List.length brows))) [(13 : UInt8), (10 : UInt8), (13 : UInt8), (10 : UInt8)]))))) = true)) ∧ (true = true)) ∧ (true = true)) ∧ (true = true)) ∧ (true = true)) ∧ (true = true)) ∧ (true = true)) ∧ (true = true)) := by unfold Path; kernel_rfl
theorem c34i_FFLF (brows : List (List AV)) (rows : List (List AV)) (n : Nat) :
 Path (runCallB Tryz.prog P6s 100 34 [AV.slq 0 (List.length brows)] (st0 [Blk.cells false [Kd.int IntKind.u8] brows] ([.as_ false, .as_ false, PI.loop (b34zI (AV.toStr (List.getD (List.getD (spStrRows (spSplit (spBefore (List.map rowByte (sub brows 0 (List.length brows))) [(13 : UInt8), (10 : UInt8), (13 : UInt8), (10 : UInt8)]))) 0 []) 0 AV.undef)) (spStrRows (spSplit (spBefore (List.map rowByte (sub brows 0 (List.length brows))) [(13 : UInt8), (10 : UInt8), (13 : UInt8), (10 : UInt8)]))) (List.map byteRow (spAfter (List.map rowByte (sub brows 0 (List.length brows))) [(13 : UInt8), (10 : UInt8), (13 : UInt8), (10 : UInt8)])) (cutI (some (AV.int IntKind.i64 (1 : Int))) (↑(List.length (spStrRows (spSplit (spBefore (List.map rowByte (sub brows 0 (List.length brows))) [(13 : UInt8), (10 : UInt8), (13 : UInt8), (10 : UInt8)])))) : Int) (1 : Int) 0) (Int.toNat (↑(List.length (spStrRows (spSplit (spBefore (List.map rowByte (sub brows 0 (List.length brows))) [(13 : UInt8), (10 : UInt8), (13 : UInt8), (10 : UInt8)])))) : Int) - 1) (List.length (spAfter (List.map rowByte (sub brows 0 (List.length brows))) [(13 : UInt8), (10 : UInt8), (13 : UInt8), (10 : UInt8)]))) (Ex.exit 0) (b34I (AV.toStr (List.getD (List.getD (spStrRows (spSplit (spBefore (List.map rowByte (sub brows 0 (List.length brows))) [(13 : UInt8), (10 : UInt8), (13 : UInt8), (10 : UInt8)]))) 0 []) 0 AV.undef)) (spStrRows (spSplit (spBefore (List.map rowByte (sub brows 0 (List.length brows))) [(13 : UInt8), (10 : UInt8), (13 : UInt8), (10 : UInt8)]))) (List.map byteRow (spAfter (List.map rowByte (sub brows 0 (List.length brows))) [(13 : UInt8), (10 : UInt8), (13 : UInt8), (10 : UInt8)])) (cutI (some (AV.int IntKind.i64 (1 : Int))) (↑(List.length (spStrRows (spSplit (spBefore (List.map rowByte (sub brows 0 (List.length brows))) [(13 : UInt8), (10 : UInt8), (13 : UInt8), (10 : UInt8)])))) : Int) (1 : Int) 0) (Int.toNat (↑(List.length (spStrRows (spSplit (spBefore (List.map rowByte (sub brows 0 (List.length brows))) [(13 : UInt8), (10 : UInt8), (13 : UInt8), (10 : UInt8)])))) : Int) - 1) (List.length (spAfter (List.map rowByte (sub brows 0 (List.length brows))) [(13 : UInt8), (10 : UInt8), (13 : UInt8), (10 : UInt8)])) rows n (↑(Int.toNat (↑(List.length (spStrRows (spSplit (spBefore (List.map rowByte (sub brows 0 (List.length brows))) [(13 : UInt8), (10 : UInt8), (13 : UInt8), (10 : UInt8)])))) : Int) - 1) : Int)), .as_ false]))) 1 [5, 3] (SL.mk [] [(1, .cells true [Kd.str, Kd.str] rows), (2, .cells true [Kd.int IntKind.u8] (List.map byteRow (spAfter (List.map rowByte (sub brows 0 (List.length brows))) [(13 : UInt8), (10 : UInt8), (13 : UInt8), (10 : UInt8)])))] 3) (Out.ret (ren (sig 1 [5, 3]) (AV.tup [AV.agg [AV.str (AV.toStr (List.getD (List.getD (spStrRows (spSplit (spBefore (List.map rowByte (sub brows 0 (List.length brows))) [(13 : UInt8), (10 : UInt8), (13 : UInt8), (10 : UInt8)]))) 0 []) 0 AV.undef)), AV.sl (Loc.mk 1 0 0) n Cap.open_, AV.sl (Loc.mk 2 0 0) (List.length (spAfter (List.map rowByte (sub brows 0 (List.length brows))) [(13 : UInt8), (10 : UInt8), (13 : UInt8), (10 : UInt8)])) Cap.open_], AV.int IntKind.i64 (0 : Int)])))
 ((((((((((((((((((((((((((True ∧ (decide ((↑(List.length brows) : Int) > (4096 : Int)) = false)) ∧ (decide (0 + List.length brows ≤ List.length brows) = true)) ∧ (decide (List.length (List.map rowByte (sub brows 0 (List.length brows))) < 4294967281) = true)) ∧ ((!spFound (List.map rowByte (sub brows 0 (List.length brows))) [(13 : UInt8), (10 : UInt8), (13 : UInt8), (10 : UInt8)]) = false)) ∧ (decide (List.length (spBefore (List.map rowByte (sub brows 0 (List.length brows))) [(13 : UInt8), (10 : UInt8), (13 : UInt8), (10 : UInt8)]) < 4294967281 ∧ [(13 : UInt8), (10 : UInt8)] = crlf) = true)) ∧ (decide ((0 : Int) ≤ (0 : Int) ∧ (0 : Int) < (↑(List.length (spStrRows (spSplit (spBefore (List.map rowByte (sub brows 0 (List.length brows))) [(13 : UInt8), (10 : UInt8), (13 : UInt8), (10 : UInt8)])))) : Int)) = true)) ∧ (decide (0 < List.length (spStrRows (spSplit (spBefore (List.map rowByte (sub brows 0 (List.length brows))) [(13 : UInt8), (10 : UInt8), (13 : UInt8), (10 : UInt8)])))) = true)) ∧ (true = true)) ∧ (true = true)) ∧ (true = true)) ∧ (true = true)) ∧ (true = true)) ∧ (true = true)) ∧ (decide ((0 : Int) ≤ (1 : Int) ∧ (1 : Int) ≤ (↑(List.length (spStrRows (spSplit (spBefore (List.map rowByte (sub brows 0 (List.length brows))) [(13 : UInt8), (10 : UInt8), (13 : UInt8), (10 : UInt8)])))) : Int) ∧ (↑(List.length (spStrRows (spSplit (spBefore (List.map rowByte (sub brows 0 (List.length brows))) [(13 : UInt8), (10 : UInt8), (13 : UInt8), (10 : UInt8)])))) : Int) ≤ (↑(List.length (spStrRows (spSplit (spBefore (List.map rowByte (sub brows 0 (List.length brows))) [(13 : UInt8), (10 : UInt8), (13 : UInt8), (10 : UInt8)])))) : Int) ∧ (↑(List.length (spStrRows (spSplit (spBefore (List.map rowByte (sub brows 0 (List.length brows))) [(13 : UInt8), (10 : UInt8), (13 : UInt8), (10 : UInt8)])))) : Int) ≤ (↑(List.length (spStrRows (spSplit (spBefore (List.map rowByte (sub brows 0 (List.length brows))) [(13 : UInt8), (10 : UInt8), (13 : UInt8), (10 : UInt8)])))) : Int)) = true)) ∧ (LoopOK Tryz.prog (lbody Tryz.prog 34 0) (66) (SL.mk [(2, AV.ptr (Loc.mk 1 0 0)), (8, AV.ptr (Loc.mk 4 0 0)), (37, AV.sl (Loc.mk 2 (cutI (some (AV.int IntKind.i64 (1 : Int))) (↑(List.length (spStrRows (spSplit (spBefore (List.map rowByte (sub brows 0 (List.length brows))) [(13 : UInt8), (10 : UInt8), (13 : UInt8), (10 : UInt8)])))) : Int) (1 : Int) 0) 0) (Int.toNat (↑(List.length (spStrRows (spSplit (spBefore (List.map rowByte (sub brows 0 (List.length brows))) [(13 : UInt8), (10 : UInt8), (13 : UInt8), (10 : UInt8)])))) : Int) - 1) (Cap.known (Int.toNat (↑(List.length (spStrRows (spSplit (spBefore (List.map rowByte (sub brows 0 (List.length brows))) [(13 : UInt8), (10 : UInt8), (13 : UInt8), (10 : UInt8)])))) : Int) - 1))), (38, AV.int IntKind.i64 (↑(Int.toNat (↑(List.length (spStrRows (spSplit (spBefore (List.map rowByte (sub brows 0 (List.length brows))) [(13 : UInt8), (10 : UInt8), (13 : UInt8), (10 : UInt8)])))) : Int) - 1) : Int)), (39, AV.int IntKind.i64 (0 : Int))] [(1, Blk.cells true [Kd.str, Kd.any, Kd.any] [[AV.str [], AV.nilSl, AV.nilSl]]), (2, Blk.cells false [Kd.str] (spStrRows (spSplit (spBefore (List.map rowByte (sub brows 0 (List.length brows))) [(13 : UInt8), (10 : UInt8), (13 : UInt8), (10 : UInt8)])))), (3, Blk.cells true [Kd.int IntKind.u8] (List.map byteRow (spAfter (List.map rowByte (sub brows 0 (List.length brows))) [(13 : UInt8), (10 : UInt8), (13 : UInt8), (10 : UInt8)]))), (4, Blk.cells true [Kd.str, Kd.any, Kd.any] [[AV.str (AV.toStr (List.getD (List.getD (spStrRows (spSplit (spBefore (List.map rowByte (sub brows 0 (List.length brows))) [(13 : UInt8), (10 : UInt8), (13 : UInt8), (10 : UInt8)]))) 0 []) 0 AV.undef)), AV.nilSl, AV.sl (Loc.mk 3 0 0) (List.length (spAfter (List.map rowByte (sub brows 0 (List.length brows))) [(13 : UInt8), (10 : UInt8), (13 : UInt8), (10 : UInt8)])) Cap.open_]])] 5) (Ex.exit 0) (SL.mk [(2, AV.ptr (Loc.mk 1 0 0)), (8, AV.ptr (Loc.mk 4 0 0)), (37, AV.sl (Loc.mk 2 (cutI (some (AV.int IntKind.i64 (1 : Int))) (↑(List.length (spStrRows (spSplit (spBefore (List.map rowByte (sub brows 0 (List.length brows))) [(13 : UInt8), (10 : UInt8), (13 : UInt8), (10 : UInt8)])))) : Int) (1 : Int) 0) 0) (Int.toNat (↑(List.length (spStrRows (spSplit (spBefore (List.map rowByte (sub brows 0 (List.length brows))) [(13 : UInt8), (10 : UInt8), (13 : UInt8), (10 : UInt8)])))) : Int) - 1) (Cap.known (Int.toNat (↑(List.length (spStrRows (spSplit (spBefore (List.map rowByte (sub brows 0 (List.length brows))) [(13 : UInt8), (10 : UInt8), (13 : UInt8), (10 : UInt8)])))) : Int) - 1))), (38, AV.int IntKind.i64 (↑(Int.toNat (↑(List.length (spStrRows (spSplit (spBefore (List.map rowByte (sub brows 0 (List.length brows))) [(13 : UInt8), (10 : UInt8), (13 : UInt8), (10 : UInt8)])))) : Int) - 1) : Int)), (39, AV.int IntKind.i64 (↑(Int.toNat (↑(List.length (spStrRows (spSplit (spBefore (List.map rowByte (sub brows 0 (List.length brows))) [(13 : UInt8), (10 : UInt8), (13 : UInt8), (10 : UInt8)])))) : Int) - 1) : Int))] [(1, Blk.cells true [Kd.str, Kd.any, Kd.any] [[AV.str [], AV.nilSl, AV.nilSl]]), (2, Blk.cells false [Kd.str] (spStrRows (spSplit (spBefore (List.map rowByte (sub brows 0 (List.length brows))) [(13 : UInt8), (10 : UInt8), (13 : UInt8), (10 : UInt8)])))), (3, Blk.cells true [Kd.int IntKind.u8] (List.map byteRow (spAfter (List.map rowByte (sub brows 0 (List.length brows))) [(13 : UInt8), (10 : UInt8), (13 : UInt8), (10 : UInt8)]))), (4, Blk.cells true [Kd.str, Kd.any, Kd.any] [[AV.str (AV.toStr (List.getD (List.getD (spStrRows (spSplit (spBefore (List.map rowByte (sub brows 0 (List.length brows))) [(13 : UInt8), (10 : UInt8), (13 : UInt8), (10 : UInt8)]))) 0 []) 0 AV.undef)), AV.sl (Loc.mk 5 0 0) n Cap.open_, AV.sl (Loc.mk 3 0 0) (List.length (spAfter (List.map rowByte (sub brows 0 (List.length brows))) [(13 : UInt8), (10 : UInt8), (13 : UInt8), (10 : UInt8)])) Cap.open_]]), (5, Blk.cells true [Kd.str, Kd.str] rows)] 6))) ∧ (true = true)) ∧ ((decide (0 + n ≤ List.length rows) && (decide (0 + List.length (spAfter (List.map rowByte (sub brows 0 (List.length brows))) [(13 : UInt8), (10 : UInt8), (13 : UInt8), (10 : UInt8)]) ≤ List.length (List.map byteRow (spAfter (List.map rowByte (sub brows 0 (List.length brows))) [(13 : UInt8), (10 : UInt8), (13 : UInt8), (10 : UInt8)]))) && decide (List.length (AV.toStr (List.getD (List.getD (spStrRows (spSplit (spBefore (List.map rowByte (sub brows 0 (List.length brows))) [(13 : UInt8), (10 : UInt8), (13 : UInt8), (10 : UInt8)]))) 0 []) 0 AV.undef)) ≤ 4294967200 ∧ List.all (sub rows 0 n) short = true ∧ List.length (sub (List.map byteRow (spAfter (List.map rowByte (sub brows 0 (List.length brows))) [(13 : UInt8), (10 : UInt8), (13 : UInt8), (10 : UInt8)])) 0 (List.length (spAfter (List.map rowByte (sub brows 0 (List.length brows))) [(13 : UInt8), (10 : UInt8), (13 : UInt8), (10 : UInt8)]))) ≤ 140737488355328))) = true)) ∧ ((!spRight (AV.toStr (List.getD (List.getD (spStrRows (spSplit (spBefore (List.map rowByte (sub brows 0 (List.length brows))) [(13 : UInt8), (10 : UInt8), (13 : UInt8), (10 : UInt8)]))) 0 []) 0 AV.undef)) (sub rows 0 n) (List.length (sub (List.map byteRow (spAfter (List.map rowByte (sub brows 0 (List.length brows))) [(13 : UInt8), (10 : UInt8), (13 : UInt8), (10 : UInt8)])) 0 (List.length (spAfter (List.map rowByte (sub brows 0 (List.length brows))) [(13 : UInt8), (10 : UInt8), (13 : UInt8), (10 : UInt8)]))))) = false)) ∧ (true = true)) ∧ (true = true)) ∧ (true = true)) ∧ (true = true)) ∧ (true = true)) ∧ (true = true)) ∧ (true = true)) ∧ (true = true)) := by unfold Path; kernel_rfl
def c4 : List UInt8 := [13, 10, 13, 10]
def colon : List UInt8 := [58, 32]
def hrow (l : List UInt8) : List AV := [.str (spBefore l colon), .str (spAfter l colon)]
def spPLines (s : List UInt8) : List (List UInt8) := spSplit (spBefore s c4)
def spPHdrs (s : List UInt8) : List (List UInt8) := (spPLines s).drop 1
def spPRows (s : List UInt8) : List (List AV) := (spPHdrs s).map hrow
def spPStart (s : List UInt8) : List UInt8 := (spPLines s).getD 0 []
def spPBody (s : List UInt8) : List UInt8 := spAfter s c4
def hasColon (l : List UInt8) : Bool := spFound l colon
def spPOk (s : List UInt8) : Bool := decide (s.length ≤ 4096) && (spFound s c4 && ((spPHdrs s).all hasColon && spRight (spPStart s) (spPRows s) (spPBody s).length))
def spPErr (s : List UInt8) : Int := bif spPOk s then 0 else bif decide (s.length ≤ 4096) then 4 else 8
def spPS (s : List UInt8) : List UInt8 := bif spPOk s then spPStart s else []
def spPH (s : List UInt8) : List (List AV) := bif spPOk s then spPRows s else []
def spPB (s : List UInt8) : List (List AV) := bif spPOk s then byteRows (spPBody s) else []
def I34 (start : List UInt8) (lrows bb : List (List AV)) (o m bl : Nat) (ls : List (List UInt8)) : Nat → SL
  | 0 => b34zI start lrows bb o m bl
  | k + 1 => b34I start lrows bb o m bl ((ls.take (k + 1)).map hrow) (k + 1) ((k + 1 : Nat) : Int)
structure LsOK (lrows : List (List AV)) (o m : Nat) (ls : List (List UInt8)) : Prop where
  len : ls.length = m
  le : m ≤ 5000
  at_ : ∀ k (h : k < ls.length), lrows.getD (o + k) [] = [AV.str ls[k]] ∧ o + k < lrows.length
  sz : ∀ l ∈ ls, l.length < 4294967281
def RR34 : SL := SL.mk [(2, AV.ptr (Loc.mk 1 0 0)), (3, AV.int IntKind.i64 (4 : Int))] [(1, Blk.cells true [Kd.str, Kd.any, Kd.any] [[AV.str [], AV.nilSl, AV.nilSl]])] 5
theorem round34 {start : List UInt8} {lrows bb : List (List AV)} {o m bl : Nat} {ls : List (List UInt8)} (ho : LsOK lrows o m ls) {k : Nat} (h : k < ls.length) :
    (hasColon ls[k] = true → BodyOK Tryz.prog (lbody Tryz.prog 34 0) 66 5 (I34 start lrows bb o m bl ls k) .normal (I34 start lrows bb o m bl ls (k + 1))) ∧
    (hasColon ls[k] = false → BodyOK Tryz.prog (lbody Tryz.prog 34 0) 66 5 (I34 start lrows bb o m bl ls k) .ret RR34) := by
  have hm := ho.len; have hle := ho.le
  obtain ⟨hg, hol⟩ := ho.at_ k h
  have w := succ64 (n := ls.length) h (by omega)
  have c4 : decide (ls[k].length < 4294967281) = true := decide_eq_true (ho.sz _ (List.getElem_mem h))
  have hlen : k = ((ls.take k).map hrow).length := by rw [List.length_map, List.length_take]; omega
  have eS : (ls.take (k + 1)).map hrow = (ls.take k).map hrow ++ [[AV.str (spBefore ls[k] [(58 : UInt8), (32 : UInt8)]), AV.str (spAfter ls[k] [(58 : UInt8), (32 : UInt8)])]] := by
    rw [take_snoc h, List.map_append]; rfl
  cases k with
  | zero =>
    have hr : List.getD (List.getD lrows (o + 0) []) 0 AV.undef = AV.str ls[0] := by rw [hg]; rfl
    have c1 : decide ((0 : Int) < ((m : Nat) : Int)) = true := decide_eq_true (by omega)
    have c2 : decide ((0 : Int) ≤ (0 : Int) ∧ (0 : Int) < ((m : Nat) : Int)) = true := decide_eq_true (by omega)
    have c3 : decide (o + 0 < lrows.length) = true := decide_eq_true hol
    refine ⟨fun hx => ?_, fun hx => ?_⟩
    · have c5 : (!hasColon ls[0]) = false := by rw [hx]; rfl
      refine body_by P6s_ok (b34z_TFE start lrows bb o m bl) ?_ ⟨⟨⟨⟨⟨⟨⟨⟨⟨⟨trivial, c1⟩, c2⟩, c3⟩, (by rw [hr]; exact c4)⟩, (by rw [hr]; exact c5)⟩, rfl⟩, rfl⟩, rfl⟩, rfl⟩, rfl⟩ rfl
      rw [hr]
      show _ = b34I start lrows bb o m bl ((ls.take (0 + 1)).map hrow) (0 + 1) ((0 + 1 : Nat) : Int)
      rw [eS]
      rfl
    · have c5 : (!hasColon ls[0]) = true := by rw [hx]; rfl
      exact body_by P6s_ok (b34z_TT start lrows bb o m bl) rfl ⟨⟨⟨⟨⟨⟨⟨⟨⟨⟨⟨trivial, c1⟩, c2⟩, c3⟩, (by rw [hr]; exact c4)⟩, (by rw [hr]; exact c5)⟩, rfl⟩, rfl⟩, rfl⟩, rfl⟩, rfl⟩, rfl⟩ rfl
  | succ k =>
    have hr : List.getD (List.getD lrows (o + Int.toNat ((k + 1 : Nat) : Int)) []) 0 AV.undef = AV.str ls[k + 1] := by rw [Int.toNat_natCast, hg]; rfl
    have c1 : decide (((k + 1 : Nat) : Int) < ((m : Nat) : Int)) = true := decide_eq_true (by omega)
    have c2 : decide ((0 : Int) ≤ ((k + 1 : Nat) : Int) ∧ ((k + 1 : Nat) : Int) < ((m : Nat) : Int)) = true := decide_eq_true (by omega)
    have c3 : decide (o + Int.toNat ((k + 1 : Nat) : Int) < lrows.length) = true := decide_eq_true (by rw [Int.toNat_natCast]; exact hol)
    refine ⟨fun hx => ?_, fun hx => ?_⟩
    · have c5 : (!hasColon ls[k + 1]) = false := by rw [hx]; rfl
      refine body_by P6s_ok (b34_TF start lrows bb o m bl ((ls.take (k + 1)).map hrow) (k + 1) ((k + 1 : Nat) : Int)) ?_ ⟨⟨⟨⟨⟨⟨⟨⟨⟨⟨⟨trivial, c1⟩, c2⟩, c3⟩, (by rw [hr]; exact c4)⟩, (by rw [hr]; exact c5)⟩, rfl⟩, rfl⟩, (decide_eq_true ⟨rfl, hlen⟩)⟩, (decide_eq_true (by omega))⟩, rfl⟩, rfl⟩ rfl
      rw [hr, w]
      show _ = b34I start lrows bb o m bl ((ls.take (k + 1 + 1)).map hrow) (k + 1 + 1) ((k + 1 + 1 : Nat) : Int)
      rw [eS]
      rfl
    · have c5 : (!hasColon ls[k + 1]) = true := by rw [hx]; rfl
      exact body_by P6s_ok (b34_TT start lrows bb o m bl ((ls.take (k + 1)).map hrow) (k + 1) ((k + 1 : Nat) : Int)) rfl ⟨⟨⟨⟨⟨⟨⟨⟨⟨⟨⟨trivial, c1⟩, c2⟩, c3⟩, (by rw [hr]; exact c4)⟩, (by rw [hr]; exact c5)⟩, rfl⟩, rfl⟩, rfl⟩, rfl⟩, rfl⟩, rfl⟩ rfl
theorem ret34 {start : List UInt8} {lrows bb : List (List AV)} {o m bl : Nat} {ls : List (List UInt8)} (ho : LsOK lrows o m ls) {j : Nat} (h : firstAt (fun l => !hasColon l) ls = some j) :
    LoopOK Tryz.prog (lbody Tryz.prog 34 0) 66 (b34zI start lrows bb o m bl) .ret RR34 := by
  obtain ⟨hj, h2, h3⟩ := firstAt_some h
  refine loop_rule (E := b34zI start lrows bb o m bl) (I := I34 start lrows bb o m bl ls) (pre := fun k => k ≤ j) (μ := fun k => j - k) _ _ rfl (fun ρ => by simp [Ex.conc]) ?_ (x0 := 0) (pick := []) (Nat.zero_le _) ⟨by kernel_rfl, map_fst_snd (by kernel_rfl)⟩
  intro k hk
  by_cases hkj : k = j
  · right
    subst hkj
    exact (round34 ho hj).2 (by simpa using h2)
  · left
    exact ⟨k + 1, by omega, by omega, (round34 ho (by omega)).1 (by have := h3 k (by omega); simpa using this)⟩
theorem end34 {start : List UInt8} {lrows bb : List (List AV)} {o m bl : Nat} {ls : List (List UInt8)} (ho : LsOK lrows o m ls) (h : firstAt (fun l => !hasColon l) ls = none) :
    LoopOK Tryz.prog (lbody Tryz.prog 34 0) 66 (b34zI start lrows bb o m bl) (.exit 0) (I34 start lrows bb o m bl ls m) := by
  have h3 := firstAt_none h
  have hm := ho.len
  refine loop_rule (E := b34zI start lrows bb o m bl) (I := I34 start lrows bb o m bl ls) (pre := fun k => k ≤ m) (μ := fun k => m - k) _ _ rfl (fun ρ => by simp [Ex.conc]) ?_ (x0 := 0) (pick := []) (Nat.zero_le _) ⟨by kernel_rfl, map_fst_snd (by kernel_rfl)⟩
  intro k hk
  by_cases hkl : k < m
  · left
    exact ⟨k + 1, by omega, by omega, (round34 ho (by omega)).1 (by have := h3 k (by omega); simpa using this)⟩
  · right
    have hk' : k = m := by omega
    have c1 : decide (((k : Nat) : Int) < ((m : Nat) : Int)) = false := decide_eq_false (by omega)
    rw [← hk']
    rw [← hk'] at c1
    cases k with
    | zero => exact body_by P6s_ok (b34z_F start lrows bb o 0 bl) rfl ⟨trivial, c1⟩ rfl
    | succ k => exact body_by P6s_ok (b34_F start lrows bb o (k + 1) bl ((ls.take (k + 1)).map hrow) (k + 1) ((k + 1 : Nat) : Int)) rfl ⟨trivial, c1⟩ rfl
theorem strRows_at {L : List (List UInt8)} {k : Nat} (h : k < L.length) : (spStrRows L).getD k [] = [AV.str L[k]] := by
  unfold spStrRows
  simp [List.getD_eq_getElem?_getD, h]
theorem split_len (s : List UInt8) : (spSplit s).length ≤ s.length + 1 ∧ ∀ l ∈ spSplit s, l.length ≤ s.length := by
  have h := len_lines (s.length + 1) s
  unfold spSplit spLines
  rw [List.length_map]
  refine ⟨h.1, fun l hl => ?_⟩
  obtain ⟨q, hq, rfl⟩ := List.mem_map.1 hl
  exact (h.2 q hq).1
theorem drop1_at {s : List UInt8} {k : Nat} (h : k < (spPHdrs s).length) : (spPHdrs s)[k] = (spPLines s)[k + 1]'(by unfold spPHdrs at h; rw [List.length_drop] at h; omega) := by
  apply Option.some.inj
  rw [← List.getElem?_eq_getElem h, ← List.getElem?_eq_getElem]
  show (List.drop 1 (spPLines s))[k]? = _
  rw [List.getElem?_drop, Nat.add_comm]
theorem parse_calls {brows : List (List AV)} {ρ : Nat → BI} {w : World} (hE : HSim ρ (addBlks .e 0 [Blk.cells false [Kd.int IntKind.u8] brows]) ([Blk.cells false [Kd.int IntKind.u8] brows] : List Blk).length w) :
    Calls Tryz.prog 34 (concL ρ [.slq 0 brows.length]).toArray w (fun e w' => (∃ v1 v2, e = .returned (.tuple #[.agg #[.string ⟨(spPS (brows.map rowByte)).toArray⟩, v1, v2], .int .i64 (spPErr (brows.map rowByte))]) ∧ NewSl w.heap.size w' [.str, .str] (spPH (brows.map rowByte)) v1 ∧ NewSl w.heap.size w' [.int .u8] (spPB (brows.map rowByte)) v2) ∧ Ext w w') := by
  have hro : ∀ c k, (addBlks .e 0 [Blk.cells false [Kd.int IntKind.u8] brows]).get c = some k → k.isRw = false := by
    intro c k hk
    rw [addBlks_get] at hk
    split at hk
    · obtain ⟨_, rfl⟩ := bs1 hk; rfl
    · cases c <;> cases hk
  have hsb : sub brows 0 (List.length brows) = brows := sub_all brows rfl
  obtain ⟨s, hs⟩ : ∃ s, s = brows.map rowByte := ⟨_, rfl⟩
  have hsl : s.length = brows.length := by rw [hs, List.length_map]
  have hsS : List.map rowByte (sub brows 0 (List.length brows)) = s := by rw [hsb, hs]
  rw [← hs]
  have bad : ∀ (er : Int), spPOk s = false → spPErr s = er → Calls Tryz.prog 34 (concL ρ [.slq 0 brows.length]).toArray w (fun e w' => e = .returned (conc ρ (.tup [.agg [.str [], .nilSl, .nilSl], .int .i64 er])) ∧ Ext w w') →
      Calls Tryz.prog 34 (concL ρ [.slq 0 brows.length]).toArray w (fun e w' => (∃ v1 v2, e = .returned (.tuple #[.agg #[.string ⟨(spPS s).toArray⟩, v1, v2], .int .i64 (spPErr s)]) ∧ NewSl w.heap.size w' [.str, .str] (spPH s) v1 ∧ NewSl w.heap.size w' [.int .u8] (spPB s) v2) ∧ Ext w w') := by
    intro er h1 h2 hc
    refine hc.mono fun e w' hq => ?_
    obtain ⟨rfl, he⟩ := hq
    rw [h2]
    unfold spPS spPH spPB
    rw [h1, cond_false, cond_false, cond_false]
    exact ⟨⟨_, _, rfl, NewSl.none (ρ' := ρ) (hE.gw.ext he) rfl, NewSl.none (ρ' := ρ) (hE.gw.ext he) rfl⟩, he⟩
  by_cases h1 : s.length ≤ 4096
  · have e1 : decide ((brows.length : Int) > 4096) = false := decide_eq_false (by omega)
    cases hf : spFound s c4 with
    | false =>
      have ok : spPOk s = false := by unfold spPOk; rw [hf]; simp
      refine bad 4 ok (by unfold spPErr; rw [ok, decide_eq_true h1]; rfl) ?_
      have e2 : (!spFound (List.map rowByte (sub brows 0 (List.length brows))) [(13 : UInt8), (10 : UInt8), (13 : UInt8), (10 : UInt8)]) = true := by
        rw [hsS]; show (!spFound s c4) = true; rw [hf]; rfl
      exact calls_pureB P6s_ok (c34r_FT brows) (by rw [hsS] at e2 ⊢; exact ⟨⟨⟨⟨⟨⟨⟨⟨⟨⟨⟨trivial, e1⟩, (decide_eq_true (by omega))⟩, (decide_eq_true (by omega))⟩, e2⟩, rfl⟩, rfl⟩, rfl⟩, rfl⟩, rfl⟩, rfl⟩, rfl⟩) hE rfl rfl rfl
    | true =>
      have e2 : (!spFound (List.map rowByte (sub brows 0 (List.length brows))) [(13 : UInt8), (10 : UInt8), (13 : UInt8), (10 : UInt8)]) = false := by
        rw [hsS]; show (!spFound s c4) = false; rw [hf]; rfl
      have lb := len_before s c4
      have la := len_after s c4
      have lb' : (spBefore s [(13 : UInt8), (10 : UInt8), (13 : UInt8), (10 : UInt8)]).length ≤ s.length := lb
      have la' : (spAfter s [(13 : UInt8), (10 : UInt8), (13 : UInt8), (10 : UInt8)]).length ≤ s.length := la
      obtain ⟨sl1, sl2⟩ := split_len (spBefore s c4)
      have hpos := split_pos (spBefore s c4)
      have hLl : (spStrRows (spPLines s)).length = (spPLines s).length := by unfold spStrRows; rw [List.length_map]
      have hL0 : 0 < (spPLines s).length := hpos
      have hL1 : (spPLines s).length ≤ 4097 := by unfold spPLines; omega
      have hLs : ∀ l ∈ spPLines s, l.length ≤ 4096 := fun l hl => by have := sl2 l hl; omega
      have hstart : AV.toStr (List.getD (List.getD (spStrRows (spPLines s)) 0 []) 0 AV.undef) = spPStart s := by
        rw [strRows_at hL0]
        unfold spPStart
        simp [List.getD_eq_getElem?_getD, hL0, AV.toStr]
      have hss : (spPStart s).length ≤ 4096 := by
        have : spPStart s = (spPLines s)[0] := by unfold spPStart; simp [List.getD_eq_getElem?_getD, hL0]
        rw [this]; exact hLs _ (List.getElem_mem hL0)
      have hdl : (spPHdrs s).length = (spPLines s).length - 1 := by unfold spPHdrs; rw [List.length_drop]
      have ho : LsOK (spStrRows (spPLines s)) (cutI (some (AV.int IntKind.i64 (1 : Int))) (((spStrRows (spPLines s)).length : Nat) : Int) (1 : Int) 0) (Int.toNat (((spStrRows (spPLines s)).length : Nat) : Int) - 1) (spPHdrs s) := by
        refine ⟨by rw [hdl, hLl]; rfl, by rw [hLl, Int.toNat_natCast]; omega, fun k hk => ?_, fun l hl => ?_⟩
        · have hk1 : k + 1 < (spPLines s).length := by omega
          have ec : cutI (some (AV.int IntKind.i64 (1 : Int))) (((spStrRows (spPLines s)).length : Nat) : Int) (1 : Int) 0 = 1 := by
            unfold cutI
            rw [if_neg (by rw [hLl]; omega)]; rfl
          rw [ec, show 1 + k = k + 1 by omega, strRows_at hk1]
          refine ⟨?_, by rw [hLl]; omega⟩
          rw [drop1_at hk]
        · have := hLs l (List.mem_of_mem_drop hl); omega
      have hNp : 0 < (spStrRows (spSplit (spBefore s [(13 : UInt8), (10 : UInt8), (13 : UInt8), (10 : UInt8)]))).length := by
        have : 0 < (spStrRows (spPLines s)).length := by rw [hLl]; exact hL0
        exact this
      have hb2 : sub (List.map byteRow (spPBody s)) 0 (spPBody s).length = byteRows (spPBody s) := sub_all _ (by simp)
      have hb1 : (List.map byteRow (spPBody s)).length = (spPBody s).length := by simp
      have la2 : (spPBody s).length ≤ s.length := la
      have hshort : ((spPHdrs s).map hrow).all short = true := by
        refine List.all_eq_true.2 fun r hr => ?_
        obtain ⟨l, hl, rfl⟩ := List.mem_map.1 hr
        have h1 := hLs l (List.mem_of_mem_drop hl)
        have h2 := len_before l colon
        have h3 := len_after l colon
        exact decide_eq_true (by unfold hN hV hrow; show (spBefore l colon).length ≤ _ ∧ (spAfter l colon).length ≤ _; omega)
      cases hfa : firstAt (fun l => !hasColon l) (spPHdrs s) with
      | some j =>
        have hall : (spPHdrs s).all hasColon = false := by
          cases h : (spPHdrs s).all hasColon with
          | false => rfl
          | true => rw [← firstAt_all] at h; rw [h] at hfa; cases hfa
        have ok : spPOk s = false := by unfold spPOk; rw [hall]; simp
        refine bad 4 ok (by unfold spPErr; rw [ok, decide_eq_true h1]; rfl) ?_
        have hl := ret34 (start := spPStart s) (bb := List.map byteRow (spPBody s)) (bl := (spPBody s).length) ho hfa
        rw [← hstart] at hl
        exact calls_pureB P6s_ok (c34r_FFL brows) (by rw [hsS] at e2 ⊢; exact ⟨⟨⟨⟨⟨⟨⟨⟨⟨⟨⟨⟨⟨⟨⟨⟨trivial, e1⟩, (decide_eq_true (by omega))⟩, (decide_eq_true (by omega))⟩, e2⟩, (decide_eq_true ⟨by omega, rfl⟩)⟩, (decide_eq_true (by omega))⟩, (decide_eq_true (by omega))⟩, rfl⟩, rfl⟩, rfl⟩, rfl⟩, rfl⟩, rfl⟩, (decide_eq_true (by omega))⟩, hl⟩, rfl⟩) hE rfl rfl rfl
      | none =>
        have hall : (spPHdrs s).all hasColon = true := firstAt_all.1 hfa
        have hl := end34 (start := spPStart s) (bb := List.map byteRow (spPBody s)) (bl := (spPBody s).length) ho hfa
        by_cases hz : (spPHdrs s).length = 0
        · have hm0 : Int.toNat (((spStrRows (spPLines s)).length : Nat) : Int) - 1 = 0 := by rw [← ho.len]; exact hz
          have hr0 : spPRows s = [] := by unfold spPRows; rw [List.length_eq_zero_iff.1 hz]; rfl
          have hrz : spRight (spPStart s) [] (spPBody s).length = false := by
            unfold spRight
            simp [nLens]
          have ok : spPOk s = false := by unfold spPOk; rw [hr0, hrz]; simp
          refine bad 4 ok (by unfold spPErr; rw [ok, decide_eq_true h1]; rfl) ?_
          have hl : LoopOK Tryz.prog (lbody Tryz.prog 34 0) 66 (b34zI (spPStart s) (spStrRows (spPLines s)) (List.map byteRow (spPBody s)) (cutI (some (AV.int IntKind.i64 (1 : Int))) (((spStrRows (spPLines s)).length : Nat) : Int) (1 : Int) 0) (Int.toNat (((spStrRows (spPLines s)).length : Nat) : Int) - 1) (spPBody s).length) (.exit 0)
              (b34zI (spPStart s) (spStrRows (spPLines s)) (List.map byteRow (spPBody s)) (cutI (some (AV.int IntKind.i64 (1 : Int))) (((spStrRows (spPLines s)).length : Nat) : Int) (1 : Int) 0) (Int.toNat (((spStrRows (spPLines s)).length : Nat) : Int) - 1) (spPBody s).length) := by
            have h8 := congrArg (I34 (spPStart s) (spStrRows (spPLines s)) (List.map byteRow (spPBody s)) (cutI (some (AV.int IntKind.i64 (1 : Int))) (((spStrRows (spPLines s)).length : Nat) : Int) (1 : Int) 0) (Int.toNat (((spStrRows (spPLines s)).length : Nat) : Int) - 1) (spPBody s).length (spPHdrs s)) hm0
            rw [h8] at hl
            exact hl
          have e3 : (!spRight (spPStart s) [] (List.length (sub (List.map byteRow (spPBody s)) 0 (List.length (spPBody s))))) = true := by
            rw [hb2, byteRows_length, hrz]; rfl
          have e4 : (true && (decide (0 + (spPBody s).length ≤ (List.map byteRow (spPBody s)).length) && decide ((spPStart s).length ≤ 4294967200 ∧ true = true ∧ (sub (List.map byteRow (spPBody s)) 0 (spPBody s).length).length ≤ 140737488355328))) = true := by
            rw [hb2, byteRows_length, hb1]
            simp only [Bool.and_eq_true, decide_eq_true_eq, Bool.true_and]; exact ⟨by omega, by omega, trivial, by omega⟩
          rw [← hstart] at hl e3 e4
          exact calls_pureB P6s_ok (c34z_FFLT brows) (by rw [hsS] at e2 ⊢; exact ⟨⟨⟨⟨⟨⟨⟨⟨⟨⟨⟨⟨⟨⟨⟨⟨⟨⟨⟨⟨⟨⟨⟨⟨⟨trivial, e1⟩, (decide_eq_true (by omega))⟩, (decide_eq_true (by omega))⟩, e2⟩, (decide_eq_true ⟨by omega, rfl⟩)⟩, (decide_eq_true (by omega))⟩, (decide_eq_true (by omega))⟩, rfl⟩, rfl⟩, rfl⟩, rfl⟩, rfl⟩, rfl⟩, (decide_eq_true (by omega))⟩, hl⟩, rfl⟩, e4⟩, e3⟩, rfl⟩, rfl⟩, rfl⟩, rfl⟩, rfl⟩, rfl⟩, rfl⟩) hE rfl rfl rfl
        · obtain ⟨k, hk⟩ := Nat.exists_eq_succ_of_ne_zero hz
          have hm1 : Int.toNat (((spStrRows (spPLines s)).length : Nat) : Int) - 1 = k + 1 := by rw [← ho.len]; exact hk
          have hrl : (spPRows s).length = k + 1 := by unfold spPRows; rw [List.length_map]; exact hk
          have hl : LoopOK Tryz.prog (lbody Tryz.prog 34 0) 66 (b34zI (spPStart s) (spStrRows (spPLines s)) (List.map byteRow (spPBody s)) (cutI (some (AV.int IntKind.i64 (1 : Int))) (((spStrRows (spPLines s)).length : Nat) : Int) (1 : Int) 0) (Int.toNat (((spStrRows (spPLines s)).length : Nat) : Int) - 1) (spPBody s).length) (.exit 0)
              (b34I (spPStart s) (spStrRows (spPLines s)) (List.map byteRow (spPBody s)) (cutI (some (AV.int IntKind.i64 (1 : Int))) (((spStrRows (spPLines s)).length : Nat) : Int) (1 : Int) 0) (Int.toNat (((spStrRows (spPLines s)).length : Nat) : Int) - 1) (spPBody s).length (spPRows s) (spPRows s).length (((Int.toNat (((spStrRows (spPLines s)).length : Nat) : Int) - 1 : Nat)) : Int)) := by
            have h8 := congrArg (I34 (spPStart s) (spStrRows (spPLines s)) (List.map byteRow (spPBody s)) (cutI (some (AV.int IntKind.i64 (1 : Int))) (((spStrRows (spPLines s)).length : Nat) : Int) (1 : Int) 0) (Int.toNat (((spStrRows (spPLines s)).length : Nat) : Int) - 1) (spPBody s).length (spPHdrs s)) hm1
            rw [h8] at hl
            have h9 : I34 (spPStart s) (spStrRows (spPLines s)) (List.map byteRow (spPBody s)) (cutI (some (AV.int IntKind.i64 (1 : Int))) (((spStrRows (spPLines s)).length : Nat) : Int) (1 : Int) 0) (Int.toNat (((spStrRows (spPLines s)).length : Nat) : Int) - 1) (spPBody s).length (spPHdrs s) (k + 1) = b34I (spPStart s) (spStrRows (spPLines s)) (List.map byteRow (spPBody s)) (cutI (some (AV.int IntKind.i64 (1 : Int))) (((spStrRows (spPLines s)).length : Nat) : Int) (1 : Int) 0) (Int.toNat (((spStrRows (spPLines s)).length : Nat) : Int) - 1) (spPBody s).length (((spPHdrs s).take (k + 1)).map hrow) (k + 1) ((k + 1 : Nat) : Int) := rfl
            rw [h9, List.take_of_length_le (by omega)] at hl
            rw [hrl]
            rw [show (((Int.toNat (((spStrRows (spPLines s)).length : Nat) : Int) - 1 : Nat)) : Int) = ((k + 1 : Nat) : Int) by rw [hm1]]
            exact hl
          have hsr : sub (spPRows s) 0 (spPRows s).length = spPRows s := sub_all _ rfl
          have e4 : (decide (0 + (spPRows s).length ≤ (spPRows s).length) && (decide (0 + (spPBody s).length ≤ (List.map byteRow (spPBody s)).length) && decide ((spPStart s).length ≤ 4294967200 ∧ (sub (spPRows s) 0 (spPRows s).length).all short = true ∧ (sub (List.map byteRow (spPBody s)) 0 (spPBody s).length).length ≤ 140737488355328))) = true := by
            rw [hb2, byteRows_length, hb1, hsr]
            simp only [Bool.and_eq_true, decide_eq_true_eq]; exact ⟨by omega, by omega, by omega, hshort, by omega⟩
          cases hri : spRight (spPStart s) (spPRows s) (spPBody s).length with
          | false =>
            have ok : spPOk s = false := by unfold spPOk; rw [hri]; simp
            refine bad 4 ok (by unfold spPErr; rw [ok, decide_eq_true h1]; rfl) ?_
            have e3 : (!spRight (spPStart s) (sub (spPRows s) 0 (spPRows s).length) (List.length (sub (List.map byteRow (spPBody s)) 0 (List.length (spPBody s))))) = true := by
              rw [hb2, byteRows_length, hsr, hri]; rfl
            rw [← hstart] at hl e3 e4
            exact calls_pureB P6s_ok (c34i_FFLT brows (spPRows s) (spPRows s).length) (by rw [hsS] at e2 ⊢; exact ⟨⟨⟨⟨⟨⟨⟨⟨⟨⟨⟨⟨⟨⟨⟨⟨⟨⟨⟨⟨⟨⟨⟨⟨⟨trivial, e1⟩, (decide_eq_true (by omega))⟩, (decide_eq_true (by omega))⟩, e2⟩, (decide_eq_true ⟨by omega, rfl⟩)⟩, (decide_eq_true (by omega))⟩, (decide_eq_true (by omega))⟩, rfl⟩, rfl⟩, rfl⟩, rfl⟩, rfl⟩, rfl⟩, (decide_eq_true (by omega))⟩, hl⟩, rfl⟩, e4⟩, e3⟩, rfl⟩, rfl⟩, rfl⟩, rfl⟩, rfl⟩, rfl⟩, rfl⟩) hE rfl rfl rfl
          | true =>
            have ok : spPOk s = true := by unfold spPOk; rw [hri, hall, hf, decide_eq_true h1]; rfl
            have e3 : (!spRight (spPStart s) (sub (spPRows s) 0 (spPRows s).length) (List.length (sub (List.map byteRow (spPBody s)) 0 (List.length (spPBody s))))) = false := by
              rw [hb2, byteRows_length, hsr, hri]; rfl
            have hst2 := hstart
            rw [← hstart] at hl e3 e4
            refine (calls_ofB P6s_ok (c34i_FFLF brows (spPRows s) (spPRows s).length) (by rw [hsS] at e2 ⊢; exact ⟨⟨⟨⟨⟨⟨⟨⟨⟨⟨⟨⟨⟨⟨⟨⟨⟨⟨⟨⟨⟨⟨⟨⟨⟨⟨trivial, e1⟩, (decide_eq_true (by omega))⟩, (decide_eq_true (by omega))⟩, e2⟩, (decide_eq_true ⟨by omega, rfl⟩)⟩, (decide_eq_true (by omega))⟩, (decide_eq_true (by omega))⟩, rfl⟩, rfl⟩, rfl⟩, rfl⟩, rfl⟩, rfl⟩, (decide_eq_true (by omega))⟩, hl⟩, rfl⟩, e4⟩, e3⟩, rfl⟩, rfl⟩, rfl⟩, rfl⟩, rfl⟩, rfl⟩, rfl⟩, rfl⟩) hE rfl).mono fun e w' hq => ?_
            obtain ⟨ρ', rfl, st⟩ := hq
            rw [hsS] at st
            unfold spPErr spPS spPH spPB
            rw [ok, cond_true, cond_true, cond_true, cond_true]
            have st2 : HStep ρ (addBlks .e 0 [Blk.cells false [Kd.int IntKind.u8] brows]) ([Blk.cells false [Kd.int IntKind.u8] brows] : List Blk).length w ρ' (Tr.ofList [(1, Blk.cells true [Kd.str, Kd.str] (spPRows s)), (2, Blk.cells true [Kd.int IntKind.u8] (byteRows (spPBody s)))]) 3 w' := st
            refine ⟨⟨conc ρ' (.sl ⟨1, 0, 0⟩ (spPRows s).length .open_), conc ρ' (.sl ⟨2, 0, 0⟩ (spPBody s).length .open_), ?_, NewSl.of_rw st2 (by rw [ofList_cons, if_pos rfl]) hro rfl rfl, NewSl.of_rw st2 (by rw [ofList_cons, if_neg (by decide), ofList_cons, if_pos rfl]) hro rfl (byteRows_length _).symm⟩, st2.below hro⟩
            rw [hsS]
            have hst3 : AV.toStr (List.getD (List.getD (spStrRows (spSplit (spBefore s [(13 : UInt8), (10 : UInt8), (13 : UInt8), (10 : UInt8)]))) 0 []) 0 AV.undef) = spPStart s := hst2
            rw [hst3]
            rfl
  · have e1 : decide ((brows.length : Int) > 4096) = true := decide_eq_true (by omega)
    have ok : spPOk s = false := by unfold spPOk; rw [decide_eq_false h1]; rfl
    refine bad 8 ok (by unfold spPErr; rw [ok, decide_eq_false h1]; rfl) ?_
    exact calls_pureB P6s_ok (c34r_T brows) ⟨⟨⟨⟨⟨⟨⟨⟨trivial, e1⟩, rfl⟩, rfl⟩, rfl⟩, rfl⟩, rfl⟩, rfl⟩, rfl⟩ hE rfl rfl rfl
def q34 : Entry := fun args hp nx => match args with
  | [bv] => match slIn hp [.int .u8] bv with
    | some (c1, brows) => some (c1, .tup [.agg [.str (spPS (brows.map rowByte)), .slq nx (spPH (brows.map rowByte)).length, .slq (nx + 1) (spPB (brows.map rowByte)).length], .int .i64 (spPErr (brows.map rowByte))],
        [.cells false [.str, .str] (spPH (brows.map rowByte)), .cells false [.int .u8] (spPB (brows.map rowByte))])
    | _ => none
  | _ => none
theorem q34_ok : EntryOK Tryz.prog 34 q34 := by
  intro args hp nx c v bs h hc ρ w hs hi
  unfold q34 at h
  split at h
  · rename_i bv
    split at h
    · rename_i c1 brows hs1
      cases h
      obtain ⟨b0, hb0⟩ := (slIn_spec hs hs1 hc rfl).bi hs.gw rfl
      have hE : HSim (fun _ => b0) (addBlks .e 0 [Blk.cells false [Kd.int IntKind.u8] brows]) ([Blk.cells false [Kd.int IntKind.u8] brows] : List Blk).length w := HSim.ins hs.gw (fun i blk hi => by
        obtain ⟨rfl, rfl⟩ := bs1 hi
        exact ⟨(hb0 _ 0 rfl).2, rfl, rfl⟩)
      have hcall := parse_calls hE
      have ea : concL (fun _ => b0) [AV.slq 0 brows.length] = concL ρ [bv] := by
        simp only [concL]
        rw [(hb0 (fun _ => b0) 0 rfl).1]
      rw [ea] at hcall
      refine hcall.mono fun e w' hq => ?_
      obtain ⟨⟨v1, v2, rfl, ⟨b1, n1, g1⟩, b2, n2, g2⟩, he⟩ := hq
      have e1 : extB ρ nx [b1, b2] nx = b1 := by have := extB_new ρ nx [b1, b2] 0; simpa using this
      have e2 : extB ρ nx [b1, b2] (nx + 1) = b2 := by have := extB_new ρ nx [b1, b2] 1; simpa using this
      have st := HStep.bis (bs := [Blk.cells false [.str, .str] (spPH (brows.map rowByte)), Blk.cells false [.int .u8] (spPB (brows.map rowByte))]) [b1, b2] hs he (fun i blk hi => by
        match i with
        | 0 => simp at hi; subst hi; exact ⟨rfl, n1, rfl, fun ρ' b hb => (g1 ρ' b hb).2⟩
        | 1 => simp at hi; subst hi; exact ⟨rfl, n2, rfl, fun ρ' b hb => (g2 ρ' b hb).2⟩
        | i + 2 => simp at hi)
      refine ⟨_, ?_, ?_, st⟩
      · have h1 := (g1 _ _ e1).1
        have h2 := (g2 _ _ e2).1
        simp only [conc, concL] at h1 h2 ⊢
        rw [h1, h2]
      · simp [AV.idsB, idsBL, blt_iff]
    · cases h
  · cases h
end Go.Proofs.YtpdgmgkkbbndfaaGreatDoor

set_option maxRecDepth 100000
set_option maxHeartbeats 1600000
namespace Go.Proofs.YtpdgmgkkbbndfaaGreatDoor
open Go Go.Proofs Go.Proofs.YtpdgmgkkbbndfaaGreatDoor.SX
def b56zI (start : List UInt8) (hrows brows : List (List AV)) (hn bn : Nat) (rows : List (List AV)) (n : Nat) : SL := ⟨[(1, .ptr ⟨2, 0, 0⟩), (3, .sl ⟨3, 0, 0⟩ n .open_), (4, .int .i64 0)], [(0, .cells false [.str, .str] hrows), (1, .cells false [.int .u8] brows), (2, .cells true [.str, .any, .any] [[.str start, .slq 0 hn, .slq 1 bn]]), (3, .cells true [.int .u8] rows)], 4⟩
def b56I (start : List UInt8) (hrows brows : List (List AV)) (hn bn : Nat) (rows : List (List AV)) (n : Nat) (k : Int) : SL := ⟨[(1, .ptr ⟨2, 0, 0⟩), (3, .sl ⟨4, 0, 0⟩ n .open_), (4, .int .i64 k)], [(0, .cells false [.str, .str] hrows), (1, .cells false [.int .u8] brows), (2, .cells true [.str, .any, .any] [[.str start, .slq 0 hn, .slq 1 bn]]), (4, .cells true [.int .u8] rows)], 5⟩
theorem b56z_T (start : List UInt8) (hrows : List (List AV)) (brows : List (List AV)) (hn : Nat) (bn : Nat) (rows : List (List AV)) (n : Nat) :
 Path (run Tryz.prog P15 100 (lbody Tryz.prog 56 0) (SL.mp 42 ([.as_ true]) (b56zI start hrows brows hn bn rows n))) 4 [7] (b56I (start) (hrows) (brows) (hn) (bn) (rows ++ List.map byteRow (AV.toStr (List.getD (List.getD hrows 0 []) 0 AV.undef)) ++ [[AV.int IntKind.u8 (58 : Int)], [AV.int IntKind.u8 (32 : Int)]] ++ List.map byteRow (AV.toStr (List.getD (List.getD hrows 0 []) 1 AV.undef)) ++ [[AV.int IntKind.u8 (13 : Int)], [AV.int IntKind.u8 (10 : Int)]]) (n + List.length (AV.toStr (List.getD (List.getD hrows 0 []) 0 AV.undef)) + 2 + List.length (AV.toStr (List.getD (List.getD hrows 0 []) 1 AV.undef)) + 2) ((1 : Int))) (Ex.normal)
 ((((((((((((((((((True ∧ (true = true)) ∧ (decide ((0 : Int) < (↑hn : Int)) = true)) ∧ (true = true)) ∧ (decide (0 < hn) = true)) ∧ (decide ((0 : Int) ≤ (0 : Int) ∧ (0 : Int) < (↑hn : Int)) = true)) ∧ (decide (0 < List.length hrows) = true)) ∧ (decide (0 = 0 ∧ n = List.length rows) = true)) ∧ (decide ((n + List.length (AV.toStr (List.getD (List.getD hrows 0 []) 0 AV.undef))) * 1 ≤ 140737488355328) = true)) ∧ (decide (0 = 0 ∧ n + List.length (AV.toStr (List.getD (List.getD hrows 0 []) 0 AV.undef)) = List.length (rows ++ List.map byteRow (AV.toStr (List.getD (List.getD hrows 0 []) 0 AV.undef)))) = true)) ∧ (decide ((n + List.length (AV.toStr (List.getD (List.getD hrows 0 []) 0 AV.undef)) + 2) * 1 ≤ 140737488355328) = true)) ∧ (true = true)) ∧ (decide (0 < hn) = true)) ∧ (decide ((0 : Int) ≤ (0 : Int) ∧ (0 : Int) < (↑hn : Int)) = true)) ∧ (decide (0 < List.length hrows) = true)) ∧ (decide (0 = 0 ∧ n + List.length (AV.toStr (List.getD (List.getD hrows 0 []) 0 AV.undef)) + 2 = List.length (rows ++ List.map byteRow (AV.toStr (List.getD (List.getD hrows 0 []) 0 AV.undef)) ++ [[AV.int IntKind.u8 (58 : Int)], [AV.int IntKind.u8 (32 : Int)]])) = true)) ∧ (decide ((n + List.length (AV.toStr (List.getD (List.getD hrows 0 []) 0 AV.undef)) + 2 + List.length (AV.toStr (List.getD (List.getD hrows 0 []) 1 AV.undef))) * 1 ≤ 140737488355328) = true)) ∧ (decide (0 = 0 ∧ n + List.length (AV.toStr (List.getD (List.getD hrows 0 []) 0 AV.undef)) + 2 + List.length (AV.toStr (List.getD (List.getD hrows 0 []) 1 AV.undef)) = List.length (rows ++ List.map byteRow (AV.toStr (List.getD (List.getD hrows 0 []) 0 AV.undef)) ++ [[AV.int IntKind.u8 (58 : Int)], [AV.int IntKind.u8 (32 : Int)]] ++ List.map byteRow (AV.toStr (List.getD (List.getD hrows 0 []) 1 AV.undef)))) = true)) ∧ (decide ((n + List.length (AV.toStr (List.getD (List.getD hrows 0 []) 0 AV.undef)) + 2 + List.length (AV.toStr (List.getD (List.getD hrows 0 []) 1 AV.undef)) + 2) * 1 ≤ 140737488355328) = true)) := by unfold Path; kernel_rfl
theorem b56z_F (start : List UInt8) (hrows : List (List AV)) (brows : List (List AV)) (hn : Nat) (bn : Nat) (rows : List (List AV)) (n : Nat) :
 Path (run Tryz.prog P15 100 (lbody Tryz.prog 56 0) (SL.mp 42 ([.as_ false]) (b56zI start hrows brows hn bn rows n))) 4 [] (b56zI (start) (hrows) (brows) (hn) (bn) (rows) (n)) (Ex.exit 0)
 ((True ∧ (true = true)) ∧ (decide ((0 : Int) < (↑hn : Int)) = false)) := by unfold Path; kernel_rfl
theorem b56_T (start : List UInt8) (hrows : List (List AV)) (brows : List (List AV)) (hn : Nat) (bn : Nat) (rows : List (List AV)) (n : Nat) (k : Int) :
 Path (run Tryz.prog P15 100 (lbody Tryz.prog 56 0) (SL.mp 42 ([.as_ true]) (b56I start hrows brows hn bn rows n k))) 4 [8] (b56I (start) (hrows) (brows) (hn) (bn) (rows ++ List.map byteRow (AV.toStr (List.getD (List.getD hrows (0 + Int.toNat k) []) (0) AV.undef)) ++ [[AV.int IntKind.u8 (58 : Int)], [AV.int IntKind.u8 (32 : Int)]] ++ List.map byteRow (AV.toStr (List.getD (List.getD hrows (0 + Int.toNat k) []) (1) AV.undef)) ++ [[AV.int IntKind.u8 (13 : Int)], [AV.int IntKind.u8 (10 : Int)]]) (n + List.length (AV.toStr (List.getD (List.getD hrows (0 + Int.toNat k) []) (0) AV.undef)) + 2 + List.length (AV.toStr (List.getD (List.getD hrows (0 + Int.toNat k) []) (1) AV.undef)) + 2) (IntKind.wrap IntKind.i64 (k + (1 : Int)))) (Ex.normal)
 ((((((((((((((((((True ∧ (true = true)) ∧ (decide (k < (↑hn : Int)) = true)) ∧ (true = true)) ∧ (decide (0 < hn) = true)) ∧ (decide ((0 : Int) ≤ k ∧ k < (↑hn : Int)) = true)) ∧ (decide (0 + Int.toNat k < List.length hrows) = true)) ∧ (decide (0 = 0 ∧ n = List.length rows) = true)) ∧ (decide ((n + List.length (AV.toStr (List.getD (List.getD hrows (0 + Int.toNat k) []) (0) AV.undef))) * 1 ≤ 140737488355328) = true)) ∧ (decide (0 = 0 ∧ n + List.length (AV.toStr (List.getD (List.getD hrows (0 + Int.toNat k) []) (0) AV.undef)) = List.length (rows ++ List.map byteRow (AV.toStr (List.getD (List.getD hrows (0 + Int.toNat k) []) (0) AV.undef)))) = true)) ∧ (decide ((n + List.length (AV.toStr (List.getD (List.getD hrows (0 + Int.toNat k) []) (0) AV.undef)) + 2) * 1 ≤ 140737488355328) = true)) ∧ (true = true)) ∧ (decide (0 < hn) = true)) ∧ (decide ((0 : Int) ≤ k ∧ k < (↑hn : Int)) = true)) ∧ (decide (0 + Int.toNat k < List.length hrows) = true)) ∧ (decide (0 = 0 ∧ n + List.length (AV.toStr (List.getD (List.getD hrows (0 + Int.toNat k) []) (0) AV.undef)) + 2 = List.length (rows ++ List.map byteRow (AV.toStr (List.getD (List.getD hrows (0 + Int.toNat k) []) (0) AV.undef)) ++ [[AV.int IntKind.u8 (58 : Int)], [AV.int IntKind.u8 (32 : Int)]])) = true)) ∧ (decide ((n + List.length (AV.toStr (List.getD (List.getD hrows (0 + Int.toNat k) []) (0) AV.undef)) + 2 + List.length (AV.toStr (List.getD (List.getD hrows (0 + Int.toNat k) []) (1) AV.undef))) * 1 ≤ 140737488355328) = true)) ∧ (decide (0 = 0 ∧ n + List.length (AV.toStr (List.getD (List.getD hrows (0 + Int.toNat k) []) (0) AV.undef)) + 2 + List.length (AV.toStr (List.getD (List.getD hrows (0 + Int.toNat k) []) (1) AV.undef)) = List.length (rows ++ List.map byteRow (AV.toStr (List.getD (List.getD hrows (0 + Int.toNat k) []) (0) AV.undef)) ++ [[AV.int IntKind.u8 (58 : Int)], [AV.int IntKind.u8 (32 : Int)]] ++ List.map byteRow (AV.toStr (List.getD (List.getD hrows (0 + Int.toNat k) []) (1) AV.undef)))) = true)) ∧ (decide ((n + List.length (AV.toStr (List.getD (List.getD hrows (0 + Int.toNat k) []) (0) AV.undef)) + 2 + List.length (AV.toStr (List.getD (List.getD hrows (0 + Int.toNat k) []) (1) AV.undef)) + 2) * 1 ≤ 140737488355328) = true)) := by unfold Path; kernel_rfl
theorem b56_F (start : List UInt8) (hrows : List (List AV)) (brows : List (List AV)) (hn : Nat) (bn : Nat) (rows : List (List AV)) (n : Nat) (k : Int) :
 Path (run Tryz.prog P15 100 (lbody Tryz.prog 56 0) (SL.mp 42 ([.as_ false]) (b56I start hrows brows hn bn rows n k))) 4 [4] (b56I (start) (hrows) (brows) (hn) (bn) (rows) (n) (k)) (Ex.exit 0)
 ((True ∧ (true = true)) ∧ (decide (k < (↑hn : Int)) = false)) := by unfold Path; kernel_rfl
theorem c56z_L (start : List UInt8) (hrows : List (List AV)) (brows : List (List AV)) (rows : List (List AV)) (n : Nat) :
 Path (runCallB Tryz.prog P15 100 56 [AV.agg [AV.str start, AV.slq 0 (List.length hrows), AV.slq 1 (List.length brows)]] (st0 [Blk.cells false [Kd.str, Kd.str] hrows, Blk.cells false [Kd.int IntKind.u8] brows] ([PI.loop (b56zI start hrows brows (List.length hrows) (List.length brows) (List.map byteRow (start ++ [(13 : UInt8), (10 : UInt8)])) (List.length (start ++ [(13 : UInt8), (10 : UInt8)]))) (Ex.exit 0) (b56zI start hrows brows (List.length hrows) (List.length brows) (List.map byteRow (start ++ [(13 : UInt8), (10 : UInt8)])) (List.length (start ++ [(13 : UInt8), (10 : UInt8)])))]))) 2 [5] (SL.mk [] [(2, .cells true [Kd.int IntKind.u8] (List.map byteRow (start ++ [(13 : UInt8), (10 : UInt8)]) ++ [[AV.int IntKind.u8 (13 : Int)], [AV.int IntKind.u8 (10 : Int)]] ++ sub brows 0 (List.length brows)))] 3) (Out.ret (ren (sig 2 [5]) (AV.sl (Loc.mk 2 0 0) (List.length (start ++ [(13 : UInt8), (10 : UInt8)]) + 2 + List.length brows) Cap.open_)))
 (((((((((True ∧ (true = true)) ∧ (decide (List.length start + 2 ≤ 9223372036854775807) = true)) ∧ (LoopOK Tryz.prog (lbody Tryz.prog 56 0) (42) (SL.mk [(1, AV.ptr (Loc.mk 2 0 0)), (3, AV.sl (Loc.mk 3 0 0) (List.length (start ++ [(13 : UInt8), (10 : UInt8)])) Cap.open_), (4, AV.int IntKind.i64 (0 : Int))] [(0, Blk.cells false [Kd.str, Kd.str] hrows), (1, Blk.cells false [Kd.int IntKind.u8] brows), (2, Blk.cells true [Kd.str, Kd.any, Kd.any] [[AV.str start, AV.slq 0 (List.length hrows), AV.slq 1 (List.length brows)]]), (3, Blk.cells true [Kd.int IntKind.u8] (List.map byteRow (start ++ [(13 : UInt8), (10 : UInt8)])))] 4) (Ex.exit 0) (SL.mk [(1, AV.ptr (Loc.mk 2 0 0)), (3, AV.sl (Loc.mk 3 0 0) (List.length (start ++ [(13 : UInt8), (10 : UInt8)])) Cap.open_), (4, AV.int IntKind.i64 (0 : Int))] [(0, Blk.cells false [Kd.str, Kd.str] hrows), (1, Blk.cells false [Kd.int IntKind.u8] brows), (2, Blk.cells true [Kd.str, Kd.any, Kd.any] [[AV.str start, AV.slq 0 (List.length hrows), AV.slq 1 (List.length brows)]]), (3, Blk.cells true [Kd.int IntKind.u8] (List.map byteRow (start ++ [(13 : UInt8), (10 : UInt8)])))] 4))) ∧ (decide (0 = 0 ∧ List.length (start ++ [(13 : UInt8), (10 : UInt8)]) = List.length (List.map byteRow (start ++ [(13 : UInt8), (10 : UInt8)]))) = true)) ∧ (decide ((List.length (start ++ [(13 : UInt8), (10 : UInt8)]) + 2) * 1 ≤ 140737488355328) = true)) ∧ (true = true)) ∧ (decide (List.length brows ≤ List.length brows) = true)) ∧ (decide (0 = 0 ∧ List.length (start ++ [(13 : UInt8), (10 : UInt8)]) + 2 = List.length (List.map byteRow (start ++ [(13 : UInt8), (10 : UInt8)]) ++ [[AV.int IntKind.u8 (13 : Int)], [AV.int IntKind.u8 (10 : Int)]])) = true)) ∧ (decide ((List.length (start ++ [(13 : UInt8), (10 : UInt8)]) + 2 + List.length brows) * 1 ≤ 140737488355328) = true)) := by unfold Path; kernel_rfl
theorem c56_L (start : List UInt8) (hrows : List (List AV)) (brows : List (List AV)) (rows : List (List AV)) (n : Nat) :
 Path (runCallB Tryz.prog P15 100 56 [AV.agg [AV.str start, AV.slq 0 (List.length hrows), AV.slq 1 (List.length brows)]] (st0 [Blk.cells false [Kd.str, Kd.str] hrows, Blk.cells false [Kd.int IntKind.u8] brows] ([PI.loop (b56zI start hrows brows (List.length hrows) (List.length brows) (List.map byteRow (start ++ [(13 : UInt8), (10 : UInt8)])) (List.length (start ++ [(13 : UInt8), (10 : UInt8)]))) (Ex.exit 0) (b56I start hrows brows (List.length hrows) (List.length brows) rows n (↑(List.length hrows) : Int))]))) 2 [6] (SL.mk [] [(2, .cells true [Kd.int IntKind.u8] (rows ++ [[AV.int IntKind.u8 (13 : Int)], [AV.int IntKind.u8 (10 : Int)]] ++ sub brows 0 (List.length brows)))] 3) (Out.ret (ren (sig 2 [6]) (AV.sl (Loc.mk 2 0 0) (n + 2 + List.length brows) Cap.open_)))
 (((((((((True ∧ (true = true)) ∧ (decide (List.length start + 2 ≤ 9223372036854775807) = true)) ∧ (LoopOK Tryz.prog (lbody Tryz.prog 56 0) (42) (SL.mk [(1, AV.ptr (Loc.mk 2 0 0)), (3, AV.sl (Loc.mk 3 0 0) (List.length (start ++ [(13 : UInt8), (10 : UInt8)])) Cap.open_), (4, AV.int IntKind.i64 (0 : Int))] [(0, Blk.cells false [Kd.str, Kd.str] hrows), (1, Blk.cells false [Kd.int IntKind.u8] brows), (2, Blk.cells true [Kd.str, Kd.any, Kd.any] [[AV.str start, AV.slq 0 (List.length hrows), AV.slq 1 (List.length brows)]]), (3, Blk.cells true [Kd.int IntKind.u8] (List.map byteRow (start ++ [(13 : UInt8), (10 : UInt8)])))] 4) (Ex.exit 0) (SL.mk [(1, AV.ptr (Loc.mk 2 0 0)), (3, AV.sl (Loc.mk 4 0 0) n Cap.open_), (4, AV.int IntKind.i64 (↑(List.length hrows) : Int))] [(0, Blk.cells false [Kd.str, Kd.str] hrows), (1, Blk.cells false [Kd.int IntKind.u8] brows), (2, Blk.cells true [Kd.str, Kd.any, Kd.any] [[AV.str start, AV.slq 0 (List.length hrows), AV.slq 1 (List.length brows)]]), (4, Blk.cells true [Kd.int IntKind.u8] rows)] 5))) ∧ (decide (0 = 0 ∧ n = List.length rows) = true)) ∧ (decide ((n + 2) * 1 ≤ 140737488355328) = true)) ∧ (true = true)) ∧ (decide (List.length brows ≤ List.length brows) = true)) ∧ (decide (0 = 0 ∧ n + 2 = List.length (rows ++ [[AV.int IntKind.u8 (13 : Int)], [AV.int IntKind.u8 (10 : Int)]])) = true)) ∧ (decide ((n + 2 + List.length brows) * 1 ≤ 140737488355328) = true)) := by unfold Path; kernel_rfl
def txtAt (start : List UInt8) (rows : List (List AV)) (k : Nat) : List UInt8 := start ++ [13, 10] ++ hdrText (rows.take k)
theorem txt_succ (start : List UInt8) {rows : List (List AV)} {k : Nat} (h : k < rows.length) : byteRows (txtAt start rows (k + 1)) = byteRows (txtAt start rows k) ++ List.map byteRow (hN rows[k]) ++ [[AV.int IntKind.u8 (58 : Int)], [AV.int IntKind.u8 (32 : Int)]] ++ List.map byteRow (hV rows[k]) ++ [[AV.int IntKind.u8 (13 : Int)], [AV.int IntKind.u8 (10 : Int)]] := by
  unfold txtAt hdrText byteRows
  rw [take_snoc h]
  simp only [List.map_append, List.flatten_append, List.map_cons, List.map_nil, List.flatten_cons, List.flatten_nil, List.append_nil, hdrLine, List.append_assoc]
  rfl
theorem txt_len (start : List UInt8) (rows : List (List AV)) (k : Nat) : (txtAt start rows k).length = start.length + 2 + hSize (rows.take k) := by
  unfold txtAt
  simp only [List.length_append, List.length_cons, List.length_nil, hdrText_len]
def I56 (start : List UInt8) (rows brows : List (List AV)) (bn : Nat) : Nat → SL
  | 0 => b56zI start rows brows rows.length bn (byteRows (txtAt start rows 0)) (txtAt start rows 0).length
  | k + 1 => b56I start rows brows rows.length bn (byteRows (txtAt start rows (k + 1))) (txtAt start rows (k + 1)).length ((k + 1 : Nat) : Int)
theorem text_loop {start : List UInt8} {rows brows : List (List AV)} {bn : Nat} (hst : start.length ≤ 4294967200) (hlen : rows.length ≤ 1000) (hs : rows.all short = true) :
    LoopOK Tryz.prog (lbody Tryz.prog 56 0) 42 (I56 start rows brows bn 0) (.exit 0) (I56 start rows brows bn rows.length) := by
  refine loop_rule (I := I56 start rows brows bn) (pre := fun k => k ≤ rows.length) (μ := fun k => rows.length - k) _ _ rfl (fun ρ => by simp [Ex.conc]) ?_ (x0 := 0) (pick := []) (Nat.zero_le _) ⟨by kernel_rfl, map_fst_snd (by kernel_rfl)⟩
  intro k hk
  by_cases h : k < rows.length
  · left
    refine ⟨k + 1, by omega, by omega, ?_⟩
    have w := succ64 (n := rows.length) h (by omega)
    have hsh := short_at hs h
    have hsz := hSize_le hs k
    have hk9 : k * 8589934404 ≤ 1000 * 8589934404 := Nat.mul_le_mul_right _ (by omega)
    have htl := txt_len start rows k
    have hlen : (byteRows (txtAt start rows k)).length = (txtAt start rows k).length := byteRows_length _
    have hr := row_at h
    have b1 : ((txtAt start rows k).length + (AV.toStr (List.getD rows[k] 0 AV.undef)).length) * 1 ≤ 140737488355328 := by unfold hN hV at hsh; omega
    have b2 : ((txtAt start rows k).length + (AV.toStr (List.getD rows[k] 0 AV.undef)).length + 2) * 1 ≤ 140737488355328 := by unfold hN hV at hsh; omega
    have b3 : ((txtAt start rows k).length + (AV.toStr (List.getD rows[k] 0 AV.undef)).length + 2 + (AV.toStr (List.getD rows[k] 1 AV.undef)).length) * 1 ≤ 140737488355328 := by unfold hN hV at hsh; omega
    have b4 : ((txtAt start rows k).length + (AV.toStr (List.getD rows[k] 0 AV.undef)).length + 2 + (AV.toStr (List.getD rows[k] 1 AV.undef)).length + 2) * 1 ≤ 140737488355328 := by unfold hN hV at hsh; omega
    have e1 : byteRows (txtAt start rows k) ++ List.map byteRow (AV.toStr (List.getD rows[k] 0 AV.undef)) ++ [[AV.int IntKind.u8 (58 : Int)], [AV.int IntKind.u8 (32 : Int)]] ++ List.map byteRow (AV.toStr (List.getD rows[k] 1 AV.undef)) ++ [[AV.int IntKind.u8 (13 : Int)], [AV.int IntKind.u8 (10 : Int)]] = byteRows (txtAt start rows (k + 1)) := (txt_succ start h).symm
    have e2 : (txtAt start rows k).length + (AV.toStr (List.getD rows[k] 0 AV.undef)).length + 2 + (AV.toStr (List.getD rows[k] 1 AV.undef)).length + 2 = (txtAt start rows (k + 1)).length := by
      rw [txt_len, txt_len, hSize_succ h]
      unfold hLen hN hV
      omega
    cases k with
    | zero =>
      have hr : rows.getD 0 [] = rows[0] := hr
      have c1 : decide ((0 : Int) < ((rows.length : Nat) : Int)) = true := decide_eq_true (by omega)
      have c2 : decide (0 < rows.length) = true := decide_eq_true h
      have c3 : decide ((0 : Int) ≤ (0 : Int) ∧ (0 : Int) < ((rows.length : Nat) : Int)) = true := decide_eq_true (by omega)
      have c4 := c2
      refine body_by P15_ok (b56z_T start rows brows rows.length bn (byteRows (txtAt start rows 0)) (txtAt start rows 0).length) ?_ (by rw [hr]; exact ⟨⟨⟨⟨⟨⟨⟨⟨⟨⟨⟨⟨⟨⟨⟨⟨⟨⟨trivial, rfl⟩, c1⟩, rfl⟩, c2⟩, c3⟩, c4⟩, (decide_eq_true ⟨rfl, by simp only [List.length_append, List.length_map, List.length_cons, List.length_nil, hlen]⟩)⟩, (decide_eq_true b1)⟩, (decide_eq_true ⟨rfl, by simp only [List.length_append, List.length_map, List.length_cons, List.length_nil, hlen]⟩)⟩, (decide_eq_true b2)⟩, rfl⟩, c2⟩, c3⟩, c4⟩, (decide_eq_true ⟨rfl, by simp only [List.length_append, List.length_map, List.length_cons, List.length_nil, hlen]⟩)⟩, (decide_eq_true b3)⟩, (decide_eq_true ⟨rfl, by simp only [List.length_append, List.length_map, List.length_cons, List.length_nil, hlen]⟩)⟩, (decide_eq_true b4)⟩) rfl
      rw [hr, e1, e2]
      rfl
    | succ k =>
      have c1 : decide (((k + 1 : Nat) : Int) < ((rows.length : Nat) : Int)) = true := decide_eq_true (by omega)
      have c2 : decide (0 < rows.length) = true := decide_eq_true (by omega)
      have c3 : decide ((0 : Int) ≤ ((k + 1 : Nat) : Int) ∧ ((k + 1 : Nat) : Int) < ((rows.length : Nat) : Int)) = true := decide_eq_true (by omega)
      have c4 : decide (0 + Int.toNat ((k + 1 : Nat) : Int) < rows.length) = true := decide_eq_true (by simp only [Int.toNat_natCast]; omega)
      refine body_by P15_ok (b56_T start rows brows rows.length bn (byteRows (txtAt start rows (k + 1))) (txtAt start rows (k + 1)).length ((k + 1 : Nat) : Int)) ?_ (by rw [hr]; exact ⟨⟨⟨⟨⟨⟨⟨⟨⟨⟨⟨⟨⟨⟨⟨⟨⟨⟨trivial, rfl⟩, c1⟩, rfl⟩, c2⟩, c3⟩, c4⟩, (decide_eq_true ⟨rfl, by simp only [List.length_append, List.length_map, List.length_cons, List.length_nil, hlen]⟩)⟩, (decide_eq_true b1)⟩, (decide_eq_true ⟨rfl, by simp only [List.length_append, List.length_map, List.length_cons, List.length_nil, hlen]⟩)⟩, (decide_eq_true b2)⟩, rfl⟩, c2⟩, c3⟩, c4⟩, (decide_eq_true ⟨rfl, by simp only [List.length_append, List.length_map, List.length_cons, List.length_nil, hlen]⟩)⟩, (decide_eq_true b3)⟩, (decide_eq_true ⟨rfl, by simp only [List.length_append, List.length_map, List.length_cons, List.length_nil, hlen]⟩)⟩, (decide_eq_true b4)⟩) rfl
      rw [hr, w, e1, e2]
      rfl
  · right
    have hk' : k = rows.length := by omega
    have c1 : decide (((k : Nat) : Int) < ((rows.length : Nat) : Int)) = false := decide_eq_false (by omega)
    rw [← hk']
    cases k with
    | zero => exact body_by P15_ok (b56z_F start rows brows rows.length bn _ _) rfl ⟨⟨trivial, rfl⟩, c1⟩ rfl
    | succ k => exact body_by P15_ok (b56_F start rows brows rows.length bn _ _ _) rfl ⟨⟨trivial, rfl⟩, c1⟩ rfl
def spTextB (start : List UInt8) (hrows brows : List (List AV)) : List (List AV) := byteRows (start ++ [13, 10] ++ hdrText hrows ++ [13, 10]) ++ brows
theorem text_calls {start : List UInt8} {hrows brows : List (List AV)} {ρ : Nat → BI} {w : World} (hE : HSim ρ (addBlks .e 0 [Blk.cells false [Kd.str, Kd.str] hrows, Blk.cells false [Kd.int IntKind.u8] brows]) ([Blk.cells false [Kd.str, Kd.str] hrows, Blk.cells false [Kd.int IntKind.u8] brows] : List Blk).length w)
    (hst : start.length ≤ 4294967200) (hlen : hrows.length ≤ 1000) (hs : hrows.all short = true) (hbn : brows.length ≤ 4398046511104) :
    Calls Tryz.prog 56 (concL ρ [.agg [.str start, .slq 0 hrows.length, .slq 1 brows.length]]).toArray w (fun e w' => (∃ v, e = .returned v ∧ NewSl w.heap.size w' [.int .u8] (spTextB start hrows brows) v) ∧ Ext w w') := by
  have hL := text_loop (start := start) (rows := hrows) (brows := brows) (bn := brows.length) hst hlen hs
  have hsz := hSize_le hs hrows.length
  have hk9 : hrows.length * 8589934404 ≤ 1000 * 8589934404 := Nat.mul_le_mul_right _ hlen
  have htl := txt_len start hrows hrows.length
  have hro := ro_two hrows brows
  have e0 : txtAt start hrows 0 = start ++ [(13 : UInt8), (10 : UInt8)] := by simp [txtAt, hdrText]
  have er : byteRows (txtAt start hrows hrows.length) ++ [[AV.int IntKind.u8 (13 : Int)], [AV.int IntKind.u8 (10 : Int)]] ++ sub brows 0 (List.length brows) = spTextB start hrows brows := by
    rw [sub_all brows rfl]
    unfold spTextB txtAt byteRows
    rw [List.take_length]
    simp only [List.map_append, List.append_assoc]
    rfl
  have en : (txtAt start hrows hrows.length).length + 2 + brows.length = (spTextB start hrows brows).length := by
    rw [← er]
    simp only [List.length_append, byteRows_length, List.length_cons, List.length_nil, sub_all brows rfl]
  by_cases hn : hrows.length = 0
  · have e1 : txtAt start hrows hrows.length = start ++ [(13 : UInt8), (10 : UInt8)] := by rw [hn]; exact e0
    have hl : LoopOK Tryz.prog (lbody Tryz.prog 56 0) 42 (b56zI start hrows brows hrows.length brows.length (List.map byteRow (start ++ [(13 : UInt8), (10 : UInt8)])) (List.length (start ++ [(13 : UInt8), (10 : UInt8)]))) (.exit 0) (b56zI start hrows brows hrows.length brows.length (List.map byteRow (start ++ [(13 : UInt8), (10 : UInt8)])) (List.length (start ++ [(13 : UInt8), (10 : UInt8)]))) := by
      have h8 : I56 start hrows brows brows.length hrows.length = I56 start hrows brows brows.length 0 := congrArg _ hn
      rw [h8] at hL
      unfold I56 at hL
      rw [e0] at hL
      exact hL
    have hl2 : (start ++ [(13 : UInt8), (10 : UInt8)]).length = start.length + 2 := by simp
    refine (calls_ofB P15_ok (c56z_L start hrows brows [] 0) ⟨⟨⟨⟨⟨⟨⟨⟨⟨trivial, rfl⟩, (decide_eq_true (by first | omega | exact Nat.le_refl _))⟩, hl⟩, (decide_eq_true ⟨rfl, by simp only [List.length_append, List.length_map, List.length_cons, List.length_nil, byteRows_length]⟩)⟩, (decide_eq_true (by first | omega | exact Nat.le_refl _))⟩, rfl⟩, (decide_eq_true (by first | omega | exact Nat.le_refl _))⟩, (decide_eq_true ⟨rfl, by simp only [List.length_append, List.length_map, List.length_cons, List.length_nil, byteRows_length]⟩)⟩, (decide_eq_true (by first | omega | exact Nat.le_refl _))⟩ hE rfl).mono fun e w' hq => ?_
    obtain ⟨ρ', rfl, st⟩ := hq
    rw [e1] at er en
    have er' : List.map byteRow (start ++ [(13 : UInt8), (10 : UInt8)]) ++ [[AV.int IntKind.u8 (13 : Int)], [AV.int IntKind.u8 (10 : Int)]] ++ sub brows 0 (List.length brows) = spTextB start hrows brows := er
    rw [er'] at st
    rw [en]
    exact ⟨⟨_, rfl, NewSl.of_rw st (by rw [ofList_cons, if_pos rfl]) hro rfl rfl⟩, st.below hro⟩
  · obtain ⟨k, hn⟩ := Nat.exists_eq_succ_of_ne_zero hn
    have hl : LoopOK Tryz.prog (lbody Tryz.prog 56 0) 42 (b56zI start hrows brows hrows.length brows.length (List.map byteRow (start ++ [(13 : UInt8), (10 : UInt8)])) (List.length (start ++ [(13 : UInt8), (10 : UInt8)]))) (.exit 0) (b56I start hrows brows hrows.length brows.length (byteRows (txtAt start hrows hrows.length)) (txtAt start hrows hrows.length).length (hrows.length : Int)) := by
      have h8 : I56 start hrows brows brows.length hrows.length = I56 start hrows brows brows.length (k + 1) := congrArg _ hn
      have h9 : I56 start hrows brows brows.length (k + 1) = b56I start hrows brows hrows.length brows.length (byteRows (txtAt start hrows (k + 1))) (txtAt start hrows (k + 1)).length ((k + 1 : Nat) : Int) := rfl
      rw [h8, h9, ← Nat.succ_eq_add_one, ← hn] at hL
      unfold I56 at hL
      rw [e0] at hL
      exact hL
    refine (calls_ofB P15_ok (c56_L start hrows brows (byteRows (txtAt start hrows hrows.length)) (txtAt start hrows hrows.length).length) ⟨⟨⟨⟨⟨⟨⟨⟨⟨trivial, rfl⟩, (decide_eq_true (by first | omega | exact Nat.le_refl _))⟩, hl⟩, (decide_eq_true ⟨rfl, by simp only [List.length_append, List.length_map, List.length_cons, List.length_nil, byteRows_length]⟩)⟩, (decide_eq_true (by first | omega | exact Nat.le_refl _))⟩, rfl⟩, (decide_eq_true (by first | omega | exact Nat.le_refl _))⟩, (decide_eq_true ⟨rfl, by simp only [List.length_append, List.length_map, List.length_cons, List.length_nil, byteRows_length]⟩)⟩, (decide_eq_true (by first | omega | exact Nat.le_refl _))⟩ hE rfl).mono fun e w' hq => ?_
    obtain ⟨ρ', rfl, st⟩ := hq
    rw [er] at st
    rw [en]
    exact ⟨⟨_, rfl, NewSl.of_rw st (by rw [ofList_cons, if_pos rfl]) hro rfl rfl⟩, st.below hro⟩
def q56 : Entry := fun args hp nx => match args with
  | [.agg [.str start, hv, bv]] => match slIn hp [.str, .str] hv, slIn hp [.int .u8] bv with
    | some (c1, hrows), some (c2, brows) => some (c1 && (c2 && decide (start.length ≤ 4294967200 ∧ hrows.length ≤ 1000 ∧ hrows.all short = true ∧ brows.length ≤ 4398046511104)), .slq nx (spTextB start hrows brows).length, [.cells false [.int .u8] (spTextB start hrows brows)])
    | _, _ => none
  | _ => none
theorem q56_ok : EntryOK Tryz.prog 56 q56 := by
  intro args hp nx c v bs h hc ρ w hs hi
  unfold q56 at h
  split at h
  · rename_i start hv bv
    split at h
    · rename_i c1 hrows c2 brows hs1 hs2
      cases h
      simp only [Bool.and_eq_true] at hc
      obtain ⟨hc1, hc2, hc3⟩ := hc
      obtain ⟨g1, g2, g3, g4⟩ := of_decide_eq_true hc3
      obtain ⟨ρ0, hE, e1, e2⟩ := two_ro hs hs1 hc1 hs2 hc2
      have hcall := text_calls (start := start) hE g1 g2 g3 g4
      have ea : concL ρ0 [AV.agg [AV.str start, AV.slq 0 hrows.length, AV.slq 1 brows.length]] = concL ρ [AV.agg [.str start, hv, bv]] := by
        show [Value.agg (concL ρ0 [AV.str start, .slq 0 hrows.length, .slq 1 brows.length]).toArray] = _
        simp only [concL]
        rw [e1, e2]
        rfl
      rw [ea] at hcall
      refine hcall.mono fun e w' hq => ?_
      obtain ⟨⟨v, rfl, b1, n1, k1⟩, he⟩ := hq
      have x1 : extB ρ nx [b1] nx = b1 := by have := extB_new ρ nx [b1] 0; simpa using this
      have st := HStep.bis (bs := [Blk.cells false [.int .u8] (spTextB start hrows brows)]) [b1] hs he (fun i blk hi => by
        match i with
        | 0 => simp at hi; subst hi; exact ⟨rfl, n1, rfl, fun ρ' b hb => (k1 ρ' b hb).2⟩
        | i + 1 => simp at hi)
      refine ⟨_, ?_, ?_, st⟩
      · rw [(k1 _ _ x1).1]
      · exact (blt_iff _ _).2 (Nat.lt_succ_self _)
    · cases h
  · cases h
end Go.Proofs.YtpdgmgkkbbndfaaGreatDoor

set_option maxRecDepth 100000
set_option maxHeartbeats 1600000
namespace Go.Proofs.YtpdgmgkkbbndfaaGreatDoor
open Go Go.Proofs Go.Proofs.YtpdgmgkkbbndfaaGreatDoor.SX
def b28I (s1 s2 : List UInt8) (h1 h2 : List (List AV)) (n1 n2 m1 m2 : Nat) (k : Int) : SL := ⟨[(2, .ptr ⟨4, 0, 0⟩), (3, .ptr ⟨5, 0, 0⟩), (5, .int .i64 k)], [(0, .cells false [.str, .str] h1), (2, .cells false [.str, .str] h2), (4, .cells true [.str, .any, .any] [[.str s1, .slq 0 n1, .slq 1 m1]]), (5, .cells true [.str, .any, .any] [[.str s2, .slq 2 n2, .slq 3 m2]])], 6⟩
theorem b28_TT (s1 : List UInt8) (s2 : List UInt8) (h1 : List (List AV)) (h2 : List (List AV)) (n1 : Nat) (n2 : Nat) (m1 : Nat) (m2 : Nat) (k : Int) :
 Path (run Tryz.prog P15 100 (lbody Tryz.prog 28 0) (SL.mp 47 ([.as_ true, .as_ true]) (b28I s1 s2 h1 h2 n1 n2 m1 m2 k))) 6 [] (SL.mk [(4, AV.lit false)] [] 6) (Ex.ret)
 (((((((((((True ∧ (true = true)) ∧ (decide (k < (↑n1 : Int)) = true)) ∧ (true = true)) ∧ (decide (0 < n1) = true)) ∧ (decide ((0 : Int) ≤ k ∧ k < (↑n1 : Int)) = true)) ∧ (decide (0 + Int.toNat k < List.length h1) = true)) ∧ (true = true)) ∧ (decide (0 < n2) = true)) ∧ (decide ((0 : Int) ≤ k ∧ k < (↑n2 : Int)) = true)) ∧ (decide (0 + Int.toNat k < List.length h2) = true)) ∧ ((!(AV.toStr (List.getD (List.getD h1 (0 + Int.toNat k) []) (0) AV.undef) == AV.toStr (List.getD (List.getD h2 (0 + Int.toNat k) []) (0) AV.undef) && AV.toStr (List.getD (List.getD h1 (0 + Int.toNat k) []) (1) AV.undef) == AV.toStr (List.getD (List.getD h2 (0 + Int.toNat k) []) (1) AV.undef))) = true)) := by unfold Path; kernel_rfl
theorem b28_TF (s1 : List UInt8) (s2 : List UInt8) (h1 : List (List AV)) (h2 : List (List AV)) (n1 : Nat) (n2 : Nat) (m1 : Nat) (m2 : Nat) (k : Int) :
 Path (run Tryz.prog P15 100 (lbody Tryz.prog 28 0) (SL.mp 47 ([.as_ true, .as_ false]) (b28I s1 s2 h1 h2 n1 n2 m1 m2 k))) 6 [] (b28I (s1) (s2) (h1) (h2) (n1) (n2) (m1) (m2) (IntKind.wrap IntKind.i64 (k + (1 : Int)))) (Ex.normal)
 (((((((((((True ∧ (true = true)) ∧ (decide (k < (↑n1 : Int)) = true)) ∧ (true = true)) ∧ (decide (0 < n1) = true)) ∧ (decide ((0 : Int) ≤ k ∧ k < (↑n1 : Int)) = true)) ∧ (decide (0 + Int.toNat k < List.length h1) = true)) ∧ (true = true)) ∧ (decide (0 < n2) = true)) ∧ (decide ((0 : Int) ≤ k ∧ k < (↑n2 : Int)) = true)) ∧ (decide (0 + Int.toNat k < List.length h2) = true)) ∧ ((!(AV.toStr (List.getD (List.getD h1 (0 + Int.toNat k) []) (0) AV.undef) == AV.toStr (List.getD (List.getD h2 (0 + Int.toNat k) []) (0) AV.undef) && AV.toStr (List.getD (List.getD h1 (0 + Int.toNat k) []) (1) AV.undef) == AV.toStr (List.getD (List.getD h2 (0 + Int.toNat k) []) (1) AV.undef))) = false)) := by unfold Path; kernel_rfl
theorem b28_F (s1 : List UInt8) (s2 : List UInt8) (h1 : List (List AV)) (h2 : List (List AV)) (n1 : Nat) (n2 : Nat) (m1 : Nat) (m2 : Nat) (k : Int) :
 Path (run Tryz.prog P15 100 (lbody Tryz.prog 28 0) (SL.mp 47 ([.as_ false]) (b28I s1 s2 h1 h2 n1 n2 m1 m2 k))) 6 [] (SL.mk [] [] 6) (Ex.exit 0)
 ((True ∧ (true = true)) ∧ (decide (k < (↑n1 : Int)) = false)) := by unfold Path; kernel_rfl
theorem c28_T (s1 : List UInt8) (s2 : List UInt8) (h1 : List (List AV)) (b1 : List (List AV)) (h2 : List (List AV)) (b2 : List (List AV)) :
 Path (runCallB Tryz.prog P15 100 28 [AV.agg [AV.str s1, AV.slq 0 (List.length h1), AV.slq 1 (List.length b1)], AV.agg [AV.str s2, AV.slq 2 (List.length h2), AV.slq 3 (List.length b2)]] (st0 [Blk.cells false [Kd.str, Kd.str] h1, Blk.cells false [Kd.int IntKind.u8] b1, Blk.cells false [Kd.str, Kd.str] h2, Blk.cells false [Kd.int IntKind.u8] b2] ([.as_ true]))) 4 [] (SL.mk [] [] 4) (Out.ret (AV.lit false))
 (((True ∧ (true = true)) ∧ (true = true)) ∧ ((!s1 == s2) = true)) := by unfold Path; kernel_rfl
theorem c28_FT (s1 : List UInt8) (s2 : List UInt8) (h1 : List (List AV)) (b1 : List (List AV)) (h2 : List (List AV)) (b2 : List (List AV)) :
 Path (runCallB Tryz.prog P15 100 28 [AV.agg [AV.str s1, AV.slq 0 (List.length h1), AV.slq 1 (List.length b1)], AV.agg [AV.str s2, AV.slq 2 (List.length h2), AV.slq 3 (List.length b2)]] (st0 [Blk.cells false [Kd.str, Kd.str] h1, Blk.cells false [Kd.int IntKind.u8] b1, Blk.cells false [Kd.str, Kd.str] h2, Blk.cells false [Kd.int IntKind.u8] b2] ([.as_ false, .as_ true]))) 4 [] (SL.mk [] [] 4) (Out.ret (AV.lit false))
 ((((((True ∧ (true = true)) ∧ (true = true)) ∧ ((!s1 == s2) = false)) ∧ (true = true)) ∧ (true = true)) ∧ ((!(↑(List.length h1) : Int) == (↑(List.length h2) : Int)) = true)) := by unfold Path; kernel_rfl
theorem c28_FFT (s1 : List UInt8) (s2 : List UInt8) (h1 : List (List AV)) (b1 : List (List AV)) (h2 : List (List AV)) (b2 : List (List AV)) :
 Path (runCallB Tryz.prog P15 100 28 [AV.agg [AV.str s1, AV.slq 0 (List.length h1), AV.slq 1 (List.length b1)], AV.agg [AV.str s2, AV.slq 2 (List.length h2), AV.slq 3 (List.length b2)]] (st0 [Blk.cells false [Kd.str, Kd.str] h1, Blk.cells false [Kd.int IntKind.u8] b1, Blk.cells false [Kd.str, Kd.str] h2, Blk.cells false [Kd.int IntKind.u8] b2] ([.as_ false, .as_ false, .as_ true]))) 4 [] (SL.mk [] [] 4) (Out.ret (AV.lit false))
 (((((((((((True ∧ (true = true)) ∧ (true = true)) ∧ ((!s1 == s2) = false)) ∧ (true = true)) ∧ (true = true)) ∧ ((!(↑(List.length h1) : Int) == (↑(List.length h2) : Int)) = false)) ∧ (true = true)) ∧ (decide (0 + List.length b1 ≤ List.length b1) = true)) ∧ (true = true)) ∧ (decide (0 + List.length b2 ≤ List.length b2) = true)) ∧ ((!List.map rowByte (sub b1 0 (List.length b1)) == List.map rowByte (sub b2 0 (List.length b2))) = true)) := by unfold Path; kernel_rfl
theorem c28_FFFL (s1 : List UInt8) (s2 : List UInt8) (h1 : List (List AV)) (b1 : List (List AV)) (h2 : List (List AV)) (b2 : List (List AV)) :
 Path (runCallB Tryz.prog P15 100 28 [AV.agg [AV.str s1, AV.slq 0 (List.length h1), AV.slq 1 (List.length b1)], AV.agg [AV.str s2, AV.slq 2 (List.length h2), AV.slq 3 (List.length b2)]] (st0 [Blk.cells false [Kd.str, Kd.str] h1, Blk.cells false [Kd.int IntKind.u8] b1, Blk.cells false [Kd.str, Kd.str] h2, Blk.cells false [Kd.int IntKind.u8] b2] ([.as_ false, .as_ false, .as_ false, PI.loop (b28I s1 s2 h1 h2 (List.length h1) (List.length h2) (List.length b1) (List.length b2) (0 : Int)) (Ex.exit 0) (SL.mk [] [] 6)]))) 4 [] (SL.mk [] [] 4) (Out.ret (AV.lit true))
 ((((((((((((True ∧ (true = true)) ∧ (true = true)) ∧ ((!s1 == s2) = false)) ∧ (true = true)) ∧ (true = true)) ∧ ((!(↑(List.length h1) : Int) == (↑(List.length h2) : Int)) = false)) ∧ (true = true)) ∧ (decide (0 + List.length b1 ≤ List.length b1) = true)) ∧ (true = true)) ∧ (decide (0 + List.length b2 ≤ List.length b2) = true)) ∧ ((!List.map rowByte (sub b1 0 (List.length b1)) == List.map rowByte (sub b2 0 (List.length b2))) = false)) ∧ (LoopOK Tryz.prog (lbody Tryz.prog 28 0) (47) (SL.mk [(2, AV.ptr (Loc.mk 4 0 0)), (3, AV.ptr (Loc.mk 5 0 0)), (5, AV.int IntKind.i64 (0 : Int))] [(0, Blk.cells false [Kd.str, Kd.str] h1), (2, Blk.cells false [Kd.str, Kd.str] h2), (4, Blk.cells true [Kd.str, Kd.any, Kd.any] [[AV.str s1, AV.slq 0 (List.length h1), AV.slq 1 (List.length b1)]]), (5, Blk.cells true [Kd.str, Kd.any, Kd.any] [[AV.str s2, AV.slq 2 (List.length h2), AV.slq 3 (List.length b2)]])] 6) (Ex.exit 0) (SL.mk [] [] 6))) := by unfold Path; kernel_rfl
theorem c28r_FFFL (s1 : List UInt8) (s2 : List UInt8) (h1 : List (List AV)) (b1 : List (List AV)) (h2 : List (List AV)) (b2 : List (List AV)) :
 Path (runCallB Tryz.prog P15 100 28 [AV.agg [AV.str s1, AV.slq 0 (List.length h1), AV.slq 1 (List.length b1)], AV.agg [AV.str s2, AV.slq 2 (List.length h2), AV.slq 3 (List.length b2)]] (st0 [Blk.cells false [Kd.str, Kd.str] h1, Blk.cells false [Kd.int IntKind.u8] b1, Blk.cells false [Kd.str, Kd.str] h2, Blk.cells false [Kd.int IntKind.u8] b2] ([.as_ false, .as_ false, .as_ false, PI.loop (b28I s1 s2 h1 h2 (List.length h1) (List.length h2) (List.length b1) (List.length b2) (0 : Int)) Ex.ret (SL.mk [(4, AV.lit false)] [] 6)]))) 4 [] (SL.mk [] [] 4) (Out.ret (AV.lit false))
 ((((((((((((True ∧ (true = true)) ∧ (true = true)) ∧ ((!s1 == s2) = false)) ∧ (true = true)) ∧ (true = true)) ∧ ((!(↑(List.length h1) : Int) == (↑(List.length h2) : Int)) = false)) ∧ (true = true)) ∧ (decide (0 + List.length b1 ≤ List.length b1) = true)) ∧ (true = true)) ∧ (decide (0 + List.length b2 ≤ List.length b2) = true)) ∧ ((!List.map rowByte (sub b1 0 (List.length b1)) == List.map rowByte (sub b2 0 (List.length b2))) = false)) ∧ (LoopOK Tryz.prog (lbody Tryz.prog 28 0) (47) (SL.mk [(2, AV.ptr (Loc.mk 4 0 0)), (3, AV.ptr (Loc.mk 5 0 0)), (5, AV.int IntKind.i64 (0 : Int))] [(0, Blk.cells false [Kd.str, Kd.str] h1), (2, Blk.cells false [Kd.str, Kd.str] h2), (4, Blk.cells true [Kd.str, Kd.any, Kd.any] [[AV.str s1, AV.slq 0 (List.length h1), AV.slq 1 (List.length b1)]]), (5, Blk.cells true [Kd.str, Kd.any, Kd.any] [[AV.str s2, AV.slq 2 (List.length h2), AV.slq 3 (List.length b2)]])] 6) Ex.ret (SL.mk [(4, AV.lit false)] [] 6))) := by unfold Path; kernel_rfl
def spSameM (s1 : List UInt8) (h1 b1 : List (List AV)) (s2 : List UInt8) (h2 b2 : List (List AV)) : Bool := (s1 == s2) && (spEqH h1 h2 && (List.map rowByte b1 == List.map rowByte b2))
theorem s28_round {s1 s2 : List UInt8} {h1 h2 : List (List AV)} {m1 m2 : Nat} (he : h1.length = h2.length) (hl : h1.length ≤ 4611686018427387904) {k : Nat} (h : k < h1.length) :
    (eqAt h1 h2 k = true → BodyOK Tryz.prog (lbody Tryz.prog 28 0) 47 6 (b28I s1 s2 h1 h2 h1.length h2.length m1 m2 (k : Int)) .normal (b28I s1 s2 h1 h2 h1.length h2.length m1 m2 ((k + 1 : Nat) : Int))) ∧
    (eqAt h1 h2 k = false → BodyOK Tryz.prog (lbody Tryz.prog 28 0) 47 6 (b28I s1 s2 h1 h2 h1.length h2.length m1 m2 (k : Int)) .ret ⟨[(4, .lit false)], [], 6⟩) := by
  have w := succ64 (n := h1.length) h hl
  have c1 : decide ((k : Int) < ((h1.length : Nat) : Int)) = true := decide_eq_true (by omega)
  have c2 : decide (0 < h1.length) = true := decide_eq_true (by omega)
  have c2b : decide (0 < h2.length) = true := decide_eq_true (by omega)
  have c3 : decide ((0 : Int) ≤ (k : Int) ∧ (k : Int) < ((h1.length : Nat) : Int)) = true := decide_eq_true (by omega)
  have c3b : decide ((0 : Int) ≤ (k : Int) ∧ (k : Int) < ((h2.length : Nat) : Int)) = true := decide_eq_true (by omega)
  have c4 : decide (0 + Int.toNat (k : Int) < h1.length) = true := decide_eq_true (by simp only [Int.toNat_natCast]; omega)
  have c4b : decide (0 + Int.toNat (k : Int) < h2.length) = true := decide_eq_true (by simp only [Int.toNat_natCast]; omega)
  refine ⟨fun hx => ?_, fun hx => ?_⟩
  · have hq : (!eqAt h1 h2 k) = false := by rw [hx]; rfl
    exact body_by P15_ok (b28_TF s1 s2 h1 h2 h1.length h2.length m1 m2 k) (by rw [w]) ⟨⟨⟨⟨⟨⟨⟨⟨⟨⟨⟨trivial, rfl⟩, c1⟩, rfl⟩, c2⟩, c3⟩, c4⟩, rfl⟩, c2b⟩, c3b⟩, c4b⟩, hq⟩ rfl
  · have hq : (!eqAt h1 h2 k) = true := by rw [hx]; rfl
    exact body_by P15_ok (b28_TT s1 s2 h1 h2 h1.length h2.length m1 m2 k) rfl ⟨⟨⟨⟨⟨⟨⟨⟨⟨⟨⟨trivial, rfl⟩, c1⟩, rfl⟩, c2⟩, c3⟩, c4⟩, rfl⟩, c2b⟩, c3b⟩, c4b⟩, hq⟩ rfl
theorem s28_ret {s1 s2 : List UInt8} {h1 h2 : List (List AV)} {m1 m2 : Nat} (he : h1.length = h2.length) (hl : h1.length ≤ 4611686018427387904) {j : Nat} (h : firstAt (fun k => !eqAt h1 h2 k) (List.range h1.length) = some j) :
    LoopOK Tryz.prog (lbody Tryz.prog 28 0) 47 (b28I s1 s2 h1 h2 h1.length h2.length m1 m2 0) .ret ⟨[(4, .lit false)], [], 6⟩ := by
  obtain ⟨hj, h2', h3⟩ := firstAt_some h
  have hj' : j < h1.length := by simpa using hj
  refine loop_rule (E := b28I s1 s2 h1 h2 h1.length h2.length m1 m2 0) (I := fun k : Nat => b28I s1 s2 h1 h2 h1.length h2.length m1 m2 k) (pre := fun k => k ≤ j) (μ := fun k => j - k) _ _ rfl (fun ρ => by simp [Ex.conc]) ?_ (x0 := 0) (pick := []) (Nat.zero_le _) ⟨by kernel_rfl, map_fst_snd (by kernel_rfl)⟩
  intro k hk
  by_cases hkj : k = j
  · right
    subst hkj
    exact (s28_round he hl hj').2 (by simpa using h2')
  · left
    exact ⟨k + 1, by omega, by omega, (s28_round he hl (by omega)).1 (by have := h3 k (by omega); simpa using this)⟩
theorem s28_end {s1 s2 : List UInt8} {h1 h2 : List (List AV)} {m1 m2 : Nat} (he : h1.length = h2.length) (hl : h1.length ≤ 4611686018427387904) (h : firstAt (fun k => !eqAt h1 h2 k) (List.range h1.length) = none) :
    LoopOK Tryz.prog (lbody Tryz.prog 28 0) 47 (b28I s1 s2 h1 h2 h1.length h2.length m1 m2 0) (.exit 0) ⟨[], [], 6⟩ := by
  have h3 := firstAt_none h
  refine loop_rule (E := b28I s1 s2 h1 h2 h1.length h2.length m1 m2 0) (I := fun k : Nat => b28I s1 s2 h1 h2 h1.length h2.length m1 m2 k) (pre := fun k => k ≤ h1.length) (μ := fun k => h1.length - k) _ _ rfl (fun ρ => by simp [Ex.conc]) ?_ (x0 := 0) (pick := []) (Nat.zero_le _) ⟨by kernel_rfl, map_fst_snd (by kernel_rfl)⟩
  intro k hk
  by_cases hkl : k < h1.length
  · left
    exact ⟨k + 1, by omega, by omega, (s28_round he hl hkl).1 (by have := h3 k (by simpa using hkl); simpa using this)⟩
  · right
    have c1 : decide ((k : Int) < ((h1.length : Nat) : Int)) = false := decide_eq_false (by omega)
    exact body_by P15_ok (b28_F s1 s2 h1 h2 h1.length h2.length m1 m2 k) rfl ⟨⟨trivial, rfl⟩, c1⟩ rfl
def ins28 (h1 b1 h2 b2 : List (List AV)) : List Blk := [Blk.cells false [Kd.str, Kd.str] h1, Blk.cells false [Kd.int IntKind.u8] b1, Blk.cells false [Kd.str, Kd.str] h2, Blk.cells false [Kd.int IntKind.u8] b2]
theorem same28_calls {s1 s2 : List UInt8} {h1 b1 h2 b2 : List (List AV)} {ρ : Nat → BI} {w : World} (hE : HSim ρ (addBlks .e 0 (ins28 h1 b1 h2 b2)) (ins28 h1 b1 h2 b2).length w) (hl : h1.length ≤ 4611686018427387904) :
    Calls Tryz.prog 28 (concL ρ [.agg [.str s1, .slq 0 h1.length, .slq 1 b1.length], .agg [.str s2, .slq 2 h2.length, .slq 3 b2.length]]).toArray w (fun e w' => e = .returned (conc ρ (.bool (spSameM s1 h1 b1 s2 h2 b2))) ∧ Ext w w') := by
  have f1 : sub b1 0 (List.length b1) = b1 := sub_all b1 rfl
  have f2 : sub b2 0 (List.length b2) = b2 := sub_all b2 rfl
  unfold spSameM
  cases e1 : (s1 == s2) with
  | false =>
    have e1 : (!s1 == s2) = true := by rw [e1]; rfl
    exact calls_pureB P15_ok (c28_T s1 s2 h1 b1 h2 b2) ⟨⟨⟨trivial, rfl⟩, rfl⟩, e1⟩ hE rfl rfl rfl
  | true =>
    have e1 : (!s1 == s2) = false := by rw [e1]; rfl
    by_cases he : h1.length = h2.length
    · have e2 : (!((h1.length : Nat) : Int) == ((h2.length : Nat) : Int)) = false := by rw [he]; simp
      cases e3 : (List.map rowByte b1 == List.map rowByte b2) with
      | false =>
        have e3 : (!List.map rowByte (sub b1 0 (List.length b1)) == List.map rowByte (sub b2 0 (List.length b2))) = true := by rw [f1, f2, e3]; rfl
        rw [Bool.and_false]
        exact calls_pureB P15_ok (c28_FFT s1 s2 h1 b1 h2 b2) ⟨⟨⟨⟨⟨⟨⟨⟨⟨⟨⟨trivial, rfl⟩, rfl⟩, e1⟩, rfl⟩, rfl⟩, e2⟩, rfl⟩, (decide_eq_true (by omega))⟩, rfl⟩, (decide_eq_true (by omega))⟩, e3⟩ hE rfl rfl rfl
      | true =>
        have e3 : (!List.map rowByte (sub b1 0 (List.length b1)) == List.map rowByte (sub b2 0 (List.length b2))) = false := by rw [f1, f2, e3]; rfl
        rw [Bool.and_true]
        cases hf : firstAt (fun k => !eqAt h1 h2 k) (List.range h1.length) with
        | some j =>
          have ev : spEqH h1 h2 = false := by
            unfold spEqH
            have : (List.range h1.length).all (eqAt h1 h2) = false := by
              cases h : (List.range h1.length).all (eqAt h1 h2) with
              | false => rfl
              | true => rw [← firstAt_all] at h; rw [h] at hf; cases hf
            rw [this, Bool.and_false]
          rw [ev]
          have hl := s28_ret (s1 := s1) (s2 := s2) (m1 := b1.length) (m2 := b2.length) he hl hf
          exact calls_pureB P15_ok (c28r_FFFL s1 s2 h1 b1 h2 b2) ⟨⟨⟨⟨⟨⟨⟨⟨⟨⟨⟨⟨trivial, rfl⟩, rfl⟩, e1⟩, rfl⟩, rfl⟩, e2⟩, rfl⟩, (decide_eq_true (by omega))⟩, rfl⟩, (decide_eq_true (by omega))⟩, e3⟩, hl⟩ hE rfl rfl rfl
        | none =>
          have ev : spEqH h1 h2 = true := by
            unfold spEqH
            rw [firstAt_all.1 hf, decide_eq_true he]; rfl
          rw [ev]
          have hl := s28_end (s1 := s1) (s2 := s2) (m1 := b1.length) (m2 := b2.length) he hl hf
          exact calls_pureB P15_ok (c28_FFFL s1 s2 h1 b1 h2 b2) ⟨⟨⟨⟨⟨⟨⟨⟨⟨⟨⟨⟨trivial, rfl⟩, rfl⟩, e1⟩, rfl⟩, rfl⟩, e2⟩, rfl⟩, (decide_eq_true (by omega))⟩, rfl⟩, (decide_eq_true (by omega))⟩, e3⟩, hl⟩ hE rfl rfl rfl
    · have e2 : (!((h1.length : Nat) : Int) == ((h2.length : Nat) : Int)) = true := by
        rw [Bool.not_eq_true', beq_eq_false_iff_ne]; omega
      have ev : spEqH h1 h2 = false := by unfold spEqH; rw [decide_eq_false he]; rfl
      rw [ev]
      exact calls_pureB P15_ok (c28_FT s1 s2 h1 b1 h2 b2) ⟨⟨⟨⟨⟨⟨trivial, rfl⟩, rfl⟩, e1⟩, rfl⟩, rfl⟩, e2⟩ hE rfl rfl rfl
theorem four_in {w : World} {r1 r2 r3 r4 : List (List AV)} {v1 v2 v3 v4 : Value} (gw : GW w) (h1 : Reads w [.str, .str] r1 v1) (h2 : Reads w [.int .u8] r2 v2) (h3 : Reads w [.str, .str] r3 v3) (h4 : Reads w [.int .u8] r4 v4) :
    ∃ ρ0 : Nat → BI, HSim ρ0 (addBlks .e 0 (ins28 r1 r2 r3 r4)) (ins28 r1 r2 r3 r4).length w ∧ conc ρ0 (.slq 0 r1.length) = v1 ∧ conc ρ0 (.slq 1 r2.length) = v2 ∧ conc ρ0 (.slq 2 r3.length) = v3 ∧ conc ρ0 (.slq 3 r4.length) = v4 := by
  obtain ⟨b1, hb1⟩ := h1.bi gw rfl
  obtain ⟨b2, hb2⟩ := h2.bi gw rfl
  obtain ⟨b3, hb3⟩ := h3.bi gw rfl
  obtain ⟨b4, hb4⟩ := h4.bi gw rfl
  refine ⟨fun i => if i = 0 then b1 else if i = 1 then b2 else if i = 2 then b3 else b4, HSim.ins gw (fun i blk hi => ?_), (hb1 _ 0 rfl).1, (hb2 _ 1 rfl).1, (hb3 _ 2 rfl).1, (hb4 _ 3 rfl).1⟩
  match i with
  | 0 => simp [ins28] at hi; subst hi; exact ⟨(hb1 _ 0 rfl).2, rfl, rfl⟩
  | 1 => simp [ins28] at hi; subst hi; exact ⟨(hb2 _ 1 rfl).2, rfl, rfl⟩
  | 2 => simp [ins28] at hi; subst hi; exact ⟨(hb3 _ 2 rfl).2, rfl, rfl⟩
  | 3 => simp [ins28] at hi; subst hi; exact ⟨(hb4 _ 3 rfl).2, rfl, rfl⟩
  | i + 4 => simp [ins28] at hi
def q28 : Entry := fun args hp nx => match args with
  | [.agg [.str s1, hv1, bv1], .agg [.str s2, hv2, bv2]] => match slIn hp [.str, .str] hv1, slIn hp [.int .u8] bv1, slIn hp [.str, .str] hv2, slIn hp [.int .u8] bv2 with
    | some (c1, h1), some (c2, b1), some (c3, h2), some (c4, b2) => some (c1 && (c2 && (c3 && (c4 && decide (h1.length ≤ 4611686018427387904)))), .bool (spSameM s1 h1 b1 s2 h2 b2), [])
    | _, _, _, _ => none
  | _ => none
theorem q28_ok : EntryOK Tryz.prog 28 q28 := by
  intro args hp nx c v bs h hc ρ w hs hi
  unfold q28 at h
  split at h
  · rename_i s1 hv1 bv1 s2 hv2 bv2
    split at h
    · rename_i c1 h1 c2 b1 c3 h2 c4 b2 hs1 hs2 hs3 hs4
      cases h
      simp only [Bool.and_eq_true] at hc
      obtain ⟨hc1, hc2, hc3, hc4, hc5⟩ := hc
      obtain ⟨ρ0, hE, e1, e2, e3, e4⟩ := four_in hs.gw (slIn_spec hs hs1 hc1 rfl) (slIn_spec hs hs2 hc2 rfl) (slIn_spec hs hs3 hc3 rfl) (slIn_spec hs hs4 hc4 rfl)
      refine entry_pure hs rfl ?_
      have hcall := same28_calls (s1 := s1) (s2 := s2) hE (of_decide_eq_true hc5)
      have ea : concL ρ0 [AV.agg [.str s1, .slq 0 h1.length, .slq 1 b1.length], .agg [.str s2, .slq 2 h2.length, .slq 3 b2.length]] = concL ρ [AV.agg [.str s1, hv1, bv1], .agg [.str s2, hv2, bv2]] := by
        show [Value.agg (concL ρ0 [AV.str s1, .slq 0 h1.length, .slq 1 b1.length]).toArray, Value.agg (concL ρ0 [AV.str s2, .slq 2 h2.length, .slq 3 b2.length]).toArray] = _
        simp only [concL]
        rw [e1, e2, e3, e4]
        rfl
      rw [ea] at hcall
      exact hcall
    · cases h
  · cases h
def P16 : Prims := addP (addP P15 56 q56) 28 q28
theorem P16_ok : PrimsOK Tryz.prog P16 := addP_ok (addP_ok P15_ok q56_ok) q28_ok
end Go.Proofs.YtpdgmgkkbbndfaaGreatDoor

set_option maxRecDepth 100000
namespace Go.Proofs.YtpdgmgkkbbndfaaGreatDoor
open Go Go.Proofs Go.Proofs.YtpdgmgkkbbndfaaGreatDoor.SX
end Go.Proofs.YtpdgmgkkbbndfaaGreatDoor

set_option maxRecDepth 100000
namespace Go.Proofs.YtpdgmgkkbbndfaaGreatDoor
open Go Go.Proofs Go.Proofs.YtpdgmgkkbbndfaaGreatDoor.SX
theorem dw_keep {α : Type} {p : α → Bool} {c : α} {t : List α} (h : (c :: t).dropWhile p = c :: t) : p c = false := by
  cases hp : p c with
  | false => rfl
  | true =>
    rw [List.dropWhile_cons, if_pos hp] at h
    have := (List.dropWhile_suffix p (l := t)).length_le
    rw [h] at this
    simp only [List.length_cons] at this
    omega
theorem trim_edge (v : List UInt8) : (spTrim v [32] == v) = edgeOK v := by
  rw [Bool.eq_iff_iff]
  constructor
  · intro h
    have h : spTrim v [32] = v := by simpa using h
    unfold spTrim Lib.trimS Lib.trimLeftS Lib.trimRightS at h
    have l1 := (List.dropWhile_suffix (fun x => ([32] : List UInt8).contains x) (l := (v.reverse.dropWhile (fun x => ([32] : List UInt8).contains x)).reverse)).length_le
    have l2 := List.dropWhile_suffix (fun x => ([32] : List UInt8).contains x) (l := v.reverse)
    rw [h] at l1
    have e2 : v.reverse.dropWhile (fun x => ([32] : List UInt8).contains x) = v.reverse := by
      refine l2.eq_of_length ?_
      have := l2.length_le
      simp only [List.length_reverse] at l1 this ⊢
      omega
    have e1 : v.dropWhile (fun x => ([32] : List UInt8).contains x) = v := by
      rw [e2, List.reverse_reverse] at h; exact h
    unfold edgeOK
    cases v with
    | nil => rfl
    | cons c t =>
      have n1 := dw_keep e1
      have n1 : c ≠ 32 := by simpa using n1
      have hr : ∃ d m, (c :: t).reverse = d :: m := by
        cases h3 : (c :: t).reverse with
        | nil => have := congrArg List.length h3; simp at this
        | cons d m => exact ⟨d, m, rfl⟩
      obtain ⟨d, m, hd⟩ := hr
      rw [hd] at e2
      have n2 := dw_keep e2
      have n2 : d ≠ 32 := by simpa using n2
      have ed : (c :: t).getD ((c :: t).length - 1) (0 : UInt8) = d := by
        have e3 : c :: t = m.reverse ++ [d] := by have := congrArg List.reverse hd; simpa using this
        rw [e3]
        simp [List.getD_eq_getElem?_getD]
      rw [ed]
      have a1 : ((c.toNat : Nat) : Int) ≠ 32 := fun hx => n1 (UInt8.toNat_inj.1 (by show c.toNat = 32; omega))
      have a2 : ((d.toNat : Nat) : Int) ≠ 32 := fun hx => n2 (UInt8.toNat_inj.1 (by show d.toNat = 32; omega))
      simp [a1, a2]
  · intro h
    unfold edgeOK at h
    cases v with
    | nil => rfl
    | cons c t =>
      have h0 : ((c :: t) == ([] : List UInt8)) = false := rfl
      rw [h0, Bool.false_or, Bool.and_eq_true, Bool.not_eq_true', Bool.not_eq_true', beq_eq_false_iff_ne, beq_eq_false_iff_ne] at h
      obtain ⟨n1, n2⟩ := h
      have p1 : c ≠ 32 := fun hx => n1 (by rw [hx]; rfl)
      cases hr : t.reverse with
      | nil =>
        have et : t = [] := by simpa using hr
        subst et
        unfold spTrim Lib.trimS Lib.trimLeftS Lib.trimRightS
        simp [List.dropWhile_cons, p1]
      | cons d m =>
        have et : t = m.reverse ++ [d] := by have := congrArg List.reverse hr; simpa using this
        subst et
        have p2 : d ≠ 32 := fun hx => n2 (by rw [hx]; simp [List.getD_eq_getElem?_getD])
        rw [trim_ends p1 p2]
        simp
theorem plain_broken (s : List UInt8) : spPlain s = !spBroken s := by
  unfold spPlain spBroken
  rw [List.not_any_eq_all_not]
  congr 1
  funext c
  unfold okC isCrlf
  rw [Bool.not_or]
  have e1 : (c.toNat == 13) = (c == 13) := by rw [Bool.eq_iff_iff]; simp only [beq_iff_eq]; exact ⟨fun h => UInt8.toNat_inj.1 h, fun h => by rw [h]; rfl⟩
  have e2 : (c.toNat == 10) = (c == 10) := by rw [Bool.eq_iff_iff]; simp only [beq_iff_eq]; exact ⟨fun h => UInt8.toNat_inj.1 h, fun h => by rw [h]; rfl⟩
  rw [e1, e2]
theorem okRef_eq (bn : Nat) (r : List AV) : okRef bn r = okHdr bn r := by
  unfold okRef okHdr
  rw [plain_broken, trim_edge, digits_itoa]
  rfl
theorem refRight_eq (start : List UInt8) (rows : List (List AV)) (bn : Nat) : spRefRight start rows bn = spRight start rows bn := by
  unfold spRefRight spRight
  have e : okRef bn = okHdr bn := funext (okRef_eq bn)
  have en : nLensR rows = nLens rows := rfl
  rw [plain_broken, e, en]
  cases (start == ([] : List UInt8)) <;> cases spBroken start <;> cases decide (rows.length ≤ 64) <;> cases decide (start.length + 4 + bn + hSize rows ≤ 4096) <;> cases rows.all (okHdr bn) <;> cases nLens rows == 1 <;> rfl
end Go.Proofs.YtpdgmgkkbbndfaaGreatDoor

set_option maxRecDepth 100000
namespace Go.Proofs.YtpdgmgkkbbndfaaGreatDoor
open Go Go.Proofs Go.Proofs.YtpdgmgkkbbndfaaGreatDoor.SX
theorem index_ge (s t : List UInt8) : Lib.index s t = -1 ∨ 0 ≤ Lib.index s t := by
  rcases Lib.index_spec s t with ⟨h, _⟩ | ⟨i, h, _⟩
  · exact .inl h
  · exact .inr (by rw [h]; omega)
theorem cut_skip {b : UInt8} {s t : List UInt8} (h : t.isPrefixOf (b :: s) = false) :
    spFound (b :: s) t = spFound s t ∧ spBefore (b :: s) t = b :: spBefore s t ∧ spAfter (b :: s) t = spAfter s t := by
  unfold spFound spBefore spAfter Lib.cut
  have e : Lib.index (b :: s) t = if Lib.index s t == -1 then -1 else Lib.index s t + 1 := by
    rw [Lib.index, h]; rfl
  rw [e]
  rcases index_ge s t with h1 | h1
  · rw [h1]; exact ⟨rfl, rfl, rfl⟩
  · have h2 : (Lib.index s t == -1) = false := by rw [beq_eq_false_iff_ne]; omega
    have e2 : (if (Lib.index s t == -1) = true then -1 else Lib.index s t + 1) = Lib.index s t + 1 := by rw [h2]; rfl
    rw [e2, if_pos h1, if_pos (show 0 ≤ Lib.index s t + 1 by omega)]
    have h3 : (Lib.index s t + 1).toNat = (Lib.index s t).toNat + 1 := by omega
    rw [h3]
    refine ⟨rfl, rfl, ?_⟩
    show List.drop ((Lib.index s t).toNat + 1 + t.length) (b :: s) = _
    rw [show (Lib.index s t).toNat + 1 + t.length = ((Lib.index s t).toNat + t.length) + 1 by omega]
    rfl
theorem cut_hit {s t : List UInt8} (ht : t ≠ []) (h : t.isPrefixOf s = true) : spFound s t = true ∧ spBefore s t = [] ∧ spAfter s t = s.drop t.length := by
  have e : Lib.index s t = 0 := by
    cases s with
    | nil => cases t with
      | nil => exact absurd rfl ht
      | cons a t => simp at h
    | cons b s => rw [Lib.index, if_pos h]
  unfold spFound spBefore spAfter Lib.cut
  rw [e]
  refine ⟨rfl, rfl, ?_⟩
  show List.drop (Int.toNat 0 + t.length) s = _
  rw [Int.toNat_zero, Nat.zero_add]
theorem pre_no {a b : UInt8} {s t : List UInt8} (h : b ≠ a) : (a :: t).isPrefixOf (b :: s) = false := by
  rw [List.isPrefixOf]
  have : (a == b) = false := by rw [beq_eq_false_iff_ne]; exact fun h' => h h'.symm
  rw [this, Bool.false_and]
theorem cut_back {s t : List UInt8} (h : spFound s t = true) : s = spBefore s t ++ (t ++ spAfter s t) := by
  unfold spFound spBefore spAfter Lib.cut at *
  rcases Lib.index_spec s t with ⟨h1, _⟩ | ⟨i, h1, h2, h3, _⟩
  · rw [h1] at h; simp at h
  · rw [h1, if_pos (show 0 ≤ (i : Int) by omega), Int.toNat_natCast]
    unfold Lib.occAt at h3
    rw [List.isPrefixOf_iff_prefix] at h3
    obtain ⟨r, hr⟩ := h3
    show s = s.take i ++ (t ++ s.drop (i + t.length))
    rw [← List.drop_drop, ← hr, List.drop_left', hr, List.take_append_drop]
    rfl
structure GoodR (r : List AV) : Prop where
  ne : hN r ≠ []
  n13 : ∀ c ∈ hN r, c ≠ 13
  n58 : ∀ c ∈ hN r, c ≠ 58
  v13 : ∀ c ∈ hV r, c ≠ 13
end Go.Proofs.YtpdgmgkkbbndfaaGreatDoor

set_option maxRecDepth 100000
namespace Go.Proofs.YtpdgmgkkbbndfaaGreatDoor
open Go Go.Proofs Go.Proofs.YtpdgmgkkbbndfaaGreatDoor.SX
theorem cut4_none : ∀ {s : List UInt8}, spFound s crlf = false → spFound s c4 = false
  | [], _ => rfl
  | b :: s, h => by
    by_cases hp : crlf.isPrefixOf (b :: s) = true
    · have := (cut_hit (s := b :: s) (t := crlf) (by decide) hp).1
      rw [this] at h; cases h
    · have hp := Bool.eq_false_iff.2 hp
      have h1 := cut_skip hp
      have hq : c4.isPrefixOf (b :: s) = false := by
        cases hc : c4.isPrefixOf (b :: s) with
        | false => rfl
        | true =>
          obtain ⟨r, hr⟩ := List.isPrefixOf_iff_prefix.1 hc
          rw [← hr] at hp
          simp [crlf, c4, List.isPrefixOf] at hp
      have h2 := cut_skip hq
      rw [h2.1]
      exact cut4_none (h1.1.symm.trans h)
theorem cut4_some : ∀ {s : List UInt8}, spFound s crlf = true →
    (crlf.isPrefixOf (spAfter s crlf) = true → spFound s c4 = true ∧ spBefore s c4 = spBefore s crlf ∧ spAfter s c4 = (spAfter s crlf).drop 2) ∧
    (crlf.isPrefixOf (spAfter s crlf) = false → spFound s c4 = spFound (spAfter s crlf) c4 ∧ spBefore s c4 = spBefore s crlf ++ (crlf ++ spBefore (spAfter s crlf) c4) ∧ spAfter s c4 = spAfter (spAfter s crlf) c4)
  | [], h => by cases h
  | b :: s, h => by
    by_cases hp : crlf.isPrefixOf (b :: s) = true
    · obtain ⟨j1, j2, j3⟩ := cut_hit (s := b :: s) (t := crlf) (by decide) hp
      obtain ⟨r, hr⟩ := List.isPrefixOf_iff_prefix.1 hp
      have hr : 13 :: 10 :: r = b :: s := hr
      have e3 : spAfter (b :: s) crlf = r := by rw [j3, ← hr]; rfl
      rw [j2, e3, ← hr]
      refine ⟨fun hx => ?_, fun hx => ?_⟩
      · obtain ⟨q, hq⟩ := List.isPrefixOf_iff_prefix.1 hx
        have hq : 13 :: 10 :: q = r := hq
        have k := cut_hit (s := 13 :: 10 :: r) (t := c4) (by decide) (by rw [← hq]; simp [c4])
        exact ⟨k.1, k.2.1, k.2.2⟩
      · have h1 : c4.isPrefixOf (13 :: 10 :: r) = false := by
          have : c4.isPrefixOf (13 :: 10 :: r) = crlf.isPrefixOf r := by simp [c4, crlf, List.isPrefixOf]
          rw [this, hx]
        have k1 := cut_skip h1
        have k2 := cut_skip (b := 10) (s := r) (t := c4) (pre_no (by decide))
        exact ⟨k1.1.trans k2.1, by rw [k1.2.1, k2.2.1]; rfl, k1.2.2.trans k2.2.2⟩
    · have hp := Bool.eq_false_iff.2 hp
      obtain ⟨k1, k2, k3⟩ := cut_skip hp
      have hq : c4.isPrefixOf (b :: s) = false := by
        cases hc : c4.isPrefixOf (b :: s) with
        | false => rfl
        | true =>
          obtain ⟨r, hr⟩ := List.isPrefixOf_iff_prefix.1 hc
          rw [← hr] at hp
          simp [crlf, c4, List.isPrefixOf] at hp
      obtain ⟨q1, q2, q3⟩ := cut_skip hq
      have ih := cut4_some (s := s) (k1.symm.trans h)
      rw [k2, k3, q1, q2, q3]
      refine ⟨fun hx => ?_, fun hx => ?_⟩
      · obtain ⟨i1, i2, i3⟩ := ih.1 hx
        exact ⟨i1, by rw [i2], i3⟩
      · obtain ⟨i1, i2, i3⟩ := ih.2 hx
        exact ⟨i1, by rw [i2]; rfl, i3⟩
theorem first_head {b : UInt8} {s x : List UInt8} (hp : crlf.isPrefixOf (b :: s) = false) : crlf.isPrefixOf (b :: (spBefore s crlf ++ (crlf ++ x))) = false := by
  by_cases hb : b = 13
  · subst hb
    cases s with
    | nil => rfl
    | cons c s =>
      have hc : c ≠ 10 := by
        intro h; subst h; simp [crlf, List.isPrefixOf] at hp
      by_cases h2 : crlf.isPrefixOf (c :: s) = true
      · rw [(cut_hit (s := c :: s) (t := crlf) (by decide) h2).2.1]
        simp [crlf, List.isPrefixOf]
      · rw [(cut_skip (Bool.eq_false_iff.2 h2)).2.1]
        have : ((10 : UInt8) == c) = false := by rw [beq_eq_false_iff_ne]; exact fun h => hc h.symm
        simp [crlf, List.isPrefixOf, this]
  · exact pre_no hb
theorem first_line : ∀ {s x : List UInt8}, spFound s crlf = true →
    spFound (spBefore s crlf ++ (crlf ++ x)) crlf = true ∧ spBefore (spBefore s crlf ++ (crlf ++ x)) crlf = spBefore s crlf ∧ spAfter (spBefore s crlf ++ (crlf ++ x)) crlf = x
  | [], x, h => by cases h
  | b :: s, x, h => by
    by_cases hp : crlf.isPrefixOf (b :: s) = true
    · obtain ⟨j1, j2, j3⟩ := cut_hit (s := b :: s) (t := crlf) (by decide) hp
      rw [j2]
      have k := cut_hit (s := crlf ++ x) (t := crlf) (by decide) (by simp [crlf])
      exact ⟨k.1, k.2.1, k.2.2⟩
    · have hp := Bool.eq_false_iff.2 hp
      obtain ⟨k1, k2, k3⟩ := cut_skip hp
      obtain ⟨i1, i2, i3⟩ := first_line (s := s) (x := x) (k1.symm.trans h)
      rw [k2]
      obtain ⟨q1, q2, q3⟩ := cut_skip (first_head (x := x) hp)
      exact ⟨q1.trans i1, q2.trans (by rw [i2]), q3.trans i3⟩
theorem line_none : ∀ {s : List UInt8}, spFound (spBefore s crlf) crlf = false
  | [] => rfl
  | b :: s => by
    by_cases hp : crlf.isPrefixOf (b :: s) = true
    · rw [(cut_hit (s := b :: s) (t := crlf) (by decide) hp).2.1]; rfl
    · have hp := Bool.eq_false_iff.2 hp
      obtain ⟨k1, k2, k3⟩ := cut_skip hp
      rw [k2]
      have h2 : crlf.isPrefixOf (b :: spBefore s crlf) = false := by
        by_cases hb : b = 13
        · subst hb
          cases s with
          | nil => rfl
          | cons c s =>
            have hc : c ≠ 10 := by
              intro h; subst h; simp [crlf, List.isPrefixOf] at hp
            by_cases h2 : crlf.isPrefixOf (c :: s) = true
            · rw [(cut_hit (s := c :: s) (t := crlf) (by decide) h2).2.1]; rfl
            · rw [(cut_skip (Bool.eq_false_iff.2 h2)).2.1]
              have : ((10 : UInt8) == c) = false := by rw [beq_eq_false_iff_ne]; exact fun h => hc h.symm
              simp [crlf, List.isPrefixOf, this]
        · exact pre_no hb
      rw [(cut_skip h2).1]
      exact line_none
theorem linesF_fuel : ∀ (n m : Nat) (s : List UInt8), s.length < n → s.length < m → spLinesF n s = spLinesF m s
  | 0, _, _, h, _ => absurd h (Nat.not_lt_zero _)
  | _, 0, _, _, h => absurd h (Nat.not_lt_zero _)
  | n + 1, m + 1, s, h1, h2 => by
    unfold spLinesF
    cases hf : spFound s [13, 10] with
    | false => rfl
    | true =>
      have hl := congrArg List.length (cut_back hf)
      simp only [List.length_append, List.length_cons, List.length_nil] at hl
      rw [cond_true, cond_true, linesF_fuel n m _ (by omega) (by omega)]
theorem split_some {s : List UInt8} (h : spFound s crlf = true) : spSplit s = spBefore s crlf :: spSplit (spAfter s crlf) := by
  have h' : spFound s [13, 10] = true := h
  have hl := congrArg List.length (cut_back h')
  simp only [List.length_append, List.length_cons, List.length_nil] at hl
  unfold spSplit spLines
  rw [spLinesF, h', cond_true, List.map_cons, linesF_fuel s.length ((spAfter s [13, 10]).length + 1) _ (by omega) (by omega)]
  rfl
theorem split_none {s : List UInt8} (h : spFound s crlf = false) : spSplit s = [s] := by
  have h' : spFound s [13, 10] = false := h
  unfold spSplit spLines
  rw [spLinesF, h', cond_false, cut_none h']
  rfl
def spRP : Nat → List UInt8 → Option (List (List AV) × List UInt8)
  | 0, _ => none
  | n + 1, s => bif spFound s crlf then (bif spBefore s crlf == [] then some ([], spAfter s crlf) else bif hasColon (spBefore s crlf) then (spRP n (spAfter s crlf)).map (fun p => (hrow (spBefore s crlf) :: p.1, p.2)) else none) else none
theorem before_nil : ∀ {s : List UInt8}, spFound s crlf = true → ((spBefore s crlf == []) = crlf.isPrefixOf s)
  | [], h => by cases h
  | b :: s, h => by
    by_cases hp : crlf.isPrefixOf (b :: s) = true
    · rw [(cut_hit (s := b :: s) (t := crlf) (by decide) hp).2.1, hp]; rfl
    · have hp := Bool.eq_false_iff.2 hp
      rw [(cut_skip hp).2.1, hp]; rfl
theorem after_pre : ∀ {s : List UInt8}, crlf.isPrefixOf s = true → spAfter s crlf = s.drop 2 := fun h => (cut_hit (by decide) h).2.2
theorem crlf_found {s : List UInt8} (h : crlf.isPrefixOf s = true) : spFound s crlf = true := (cut_hit (by decide) h).1
theorem hdrs_first {s : List UInt8} (h : spFound s crlf = true) (h2 : crlf.isPrefixOf (spAfter s crlf) = true) : spPHdrs s = [] := by
  obtain ⟨_, e, _⟩ := (cut4_some h).1 h2
  unfold spPHdrs spPLines
  rw [e, split_none line_none]; rfl
theorem hdrs_next {s : List UInt8} (h : spFound s crlf = true) (h2 : crlf.isPrefixOf (spAfter s crlf) = false) : spPHdrs s = spPLines (spAfter s crlf) := by
  obtain ⟨_, e, _⟩ := (cut4_some h).2 h2
  obtain ⟨f1, f2, f3⟩ := first_line (s := s) (x := spBefore (spAfter s crlf) c4) h
  unfold spPHdrs spPLines
  rw [e, split_some f1, f2, f3]; rfl
theorem lines_first {s : List UInt8} (h : spFound s crlf = true) : spPLines s = spBefore s crlf :: spPHdrs s := by
  cases h2 : crlf.isPrefixOf (spAfter s crlf) with
  | true =>
    obtain ⟨_, e, _⟩ := (cut4_some h).1 h2
    unfold spPHdrs spPLines
    rw [e, split_none line_none]; rfl
  | false =>
    obtain ⟨_, e, _⟩ := (cut4_some h).2 h2
    obtain ⟨f1, f2, f3⟩ := first_line (s := s) (x := spBefore (spAfter s crlf) c4) h
    unfold spPHdrs spPLines
    rw [e, split_some f1, f2, f3]; rfl
theorem rp_eq : ∀ (n : Nat) (s : List UInt8), s.length < n → spFound s crlf = true →
    spRP n (spAfter s crlf) = bif spFound s c4 && (spPHdrs s).all hasColon then some (spPRows s, spAfter s c4) else none
  | 0, _, h, _ => absurd h (Nat.not_lt_zero _)
  | n + 1, s, hn, h => by
    have hl := congrArg List.length (cut_back h)
    have hc2 : crlf.length = 2 := rfl
    simp only [List.length_append, hc2] at hl
    obtain ⟨r, hr⟩ : ∃ r, r = spAfter s crlf := ⟨_, rfl⟩
    rw [← hr] at hl ⊢
    have h4 := cut4_some h
    rw [← hr] at h4
    unfold spRP
    cases hf : spFound r crlf with
    | false =>
      have hp : crlf.isPrefixOf r = false := by
        cases hp : crlf.isPrefixOf r with
        | false => rfl
        | true => rw [crlf_found hp] at hf; cases hf
      obtain ⟨e1, _, _⟩ := h4.2 hp
      rw [e1, cut4_none hf]; rfl
    | true =>
      rw [cond_true, before_nil hf]
      cases hp : crlf.isPrefixOf r with
      | true =>
        obtain ⟨e1, e2, e3⟩ := h4.1 hp
        have e4 : spPHdrs s = [] := hdrs_first h (by rw [← hr]; exact hp)
        unfold spPRows
        rw [e1, e3, e4, cond_true, after_pre hp]; rfl
      | false =>
        obtain ⟨e1, e2, e3⟩ := h4.2 hp
        have e4 : spPHdrs s = spPLines r := by rw [hr]; exact hdrs_next h (by rw [← hr]; exact hp)
        have ih := rp_eq n r (by omega) hf
        unfold spPRows at ih ⊢
        rw [cond_false, ih, e1, e3, e4, lines_first hf, List.all_cons, List.map_cons]
        cases hasColon (spBefore r crlf) <;> cases spFound r c4 <;> cases (spPHdrs r).all hasColon <;> rfl
def spRPOk (s : List UInt8) : Bool := decide (s.length ≤ 4096) && (spFound s crlf && match spRP (s.length + 1) (spAfter s crlf) with | none => false | some p => spRight (spBefore s crlf) p.1 p.2.length)
theorem rp_ok (s : List UInt8) : spRPOk s = spPOk s := by
  unfold spRPOk spPOk
  cases hf : spFound s crlf with
  | false => rw [cut4_none hf]; rfl
  | true =>
    rw [rp_eq _ s (Nat.lt_succ_self _) hf]
    have e : spPStart s = spBefore s crlf := by unfold spPStart; rw [lines_first hf]; rfl
    unfold spPBody
    rw [e]
    cases spFound s c4 <;> cases (spPHdrs s).all hasColon <;> rfl
theorem rp_some {s : List UInt8} (h : spPOk s = true) : spFound s crlf = true ∧ spBefore s crlf = spPStart s ∧ spRP (s.length + 1) (spAfter s crlf) = some (spPRows s, spPBody s) := by
  have hf : spFound s crlf = true := by
    cases hf : spFound s crlf with
    | true => rfl
    | false => unfold spPOk at h; rw [cut4_none hf] at h; simp at h
  refine ⟨hf, by unfold spPStart; rw [lines_first hf]; rfl, ?_⟩
  unfold spPOk at h
  simp only [Bool.and_eq_true] at h
  rw [rp_eq _ s (Nat.lt_succ_self _) hf, h.2.1, h.2.2.1]; rfl
end Go.Proofs.YtpdgmgkkbbndfaaGreatDoor

