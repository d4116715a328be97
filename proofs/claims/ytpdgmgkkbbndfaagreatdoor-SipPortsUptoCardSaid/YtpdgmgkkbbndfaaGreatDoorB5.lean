/- Part 6 of the proof: texts that the last one builds upon. Conditions: as each theorem says. -/
import Derived.Test.YtpdgmgkkbbndfaaGreatDoorB4
set_option linter.unusedSectionVars false
set_option linter.unusedSimpArgs false
set_option linter.unusedVariables false
set_option maxRecDepth 100000
set_option maxHeartbeats 1600000
namespace Go.Proofs.YtpdgmgkkbbndfaaGreatDoor
open Go Go.Proofs Go.Proofs.YtpdgmgkkbbndfaaGreatDoor.SX
def PR : Prims := addP (addP (addP Pr 66 q66) 67 q67) 68 q68
theorem PR_ok : PrimsOK Tryz.prog PR := addP_ok (addP_ok (addP_ok Pr_ok q66_ok) q67_ok) q68_ok
def n33zBBI (host : Int) (nL : Nat) (i : Int) (n : Int) (k : Int) (fb : Bool) (ok : Bool) : SL := ⟨[(1, .int .u32 host), (5, .nilSl), (6, .bool fb), (7, .slq 3 nL), (9, .int .i64 i), (10, .int .i64 n), (13, .bool ok), (14, .int .i64 k)], [], 5⟩
def n33zTBI (host : Int) (nL : Nat) (i : Int) (n : Int) (k : Int) (ok : Bool) : SL := ⟨[(1, .int .u32 host), (5, .nilSl), (6, .lit true), (7, .slq 3 nL), (9, .int .i64 i), (10, .int .i64 n), (13, .bool ok), (14, .int .i64 k)], [], 5⟩
def b33zLI (host : Int) (nL : Nat) (i : Int) (lrows : List (List AV)) : SL := ⟨[(1, .int .u32 host), (5, .nilSl), (6, .lit false), (7, .slq 3 nL), (9, .int .i64 i)], [(3, .cells false [.str] lrows)], 5⟩
def b33zBI (host : Int) (nL : Nat) (i : Int) (lrows : List (List AV)) (fb : Bool) : SL := ⟨[(1, .int .u32 host), (5, .nilSl), (6, .bool fb), (7, .slq 3 nL), (9, .int .i64 i)], [(3, .cells false [.str] lrows)], 5⟩
def b33zTI (host : Int) (nL : Nat) (i : Int) (lrows : List (List AV)) : SL := ⟨[(1, .int .u32 host), (5, .nilSl), (6, .lit true), (7, .slq 3 nL), (9, .int .i64 i)], [(3, .cells false [.str] lrows)], 5⟩
def n33oBBI (host : Int) (nL : Nat) (i : Int) (n : Int) (k : Int) (fb : Bool) (ok : Bool) (rows : List (List AV)) : SL := ⟨[(1, .int .u32 host), (5, .sl ⟨5, 0, 0⟩ rows.length .open_), (6, .bool fb), (7, .slq 3 nL), (9, .int .i64 i), (10, .int .i64 n), (13, .bool ok), (14, .int .i64 k)], [(5, .cells true [.int .u16] rows)], 6⟩
def n33oBZI (host : Int) (nL : Nat) (i : Int) (n : Int) (k : Int) (fb : Bool) (rows : List (List AV)) : SL := ⟨[(1, .int .u32 host), (5, .sl ⟨5, 0, 0⟩ rows.length .open_), (6, .bool fb), (7, .slq 3 nL), (9, .int .i64 i), (10, .int .i64 n), (13, .lit false), (14, .int .i64 k)], [(5, .cells true [.int .u16] rows)], 6⟩
def n33oTBI (host : Int) (nL : Nat) (i : Int) (n : Int) (k : Int) (ok : Bool) (rows : List (List AV)) : SL := ⟨[(1, .int .u32 host), (5, .sl ⟨5, 0, 0⟩ rows.length .open_), (6, .lit true), (7, .slq 3 nL), (9, .int .i64 i), (10, .int .i64 n), (13, .bool ok), (14, .int .i64 k)], [(5, .cells true [.int .u16] rows)], 6⟩
def n33oTZI (host : Int) (nL : Nat) (i : Int) (n : Int) (k : Int) (rows : List (List AV)) : SL := ⟨[(1, .int .u32 host), (5, .sl ⟨5, 0, 0⟩ rows.length .open_), (6, .lit true), (7, .slq 3 nL), (9, .int .i64 i), (10, .int .i64 n), (13, .lit false), (14, .int .i64 k)], [(5, .cells true [.int .u16] rows)], 6⟩
def b33oLI (host : Int) (nL : Nat) (i : Int) (lrows : List (List AV)) (rows : List (List AV)) : SL := ⟨[(1, .int .u32 host), (5, .sl ⟨5, 0, 0⟩ rows.length .open_), (6, .lit false), (7, .slq 3 nL), (9, .int .i64 i)], [(3, .cells false [.str] lrows), (5, .cells true [.int .u16] rows)], 6⟩
def b33oBI (host : Int) (nL : Nat) (i : Int) (lrows : List (List AV)) (fb : Bool) (rows : List (List AV)) : SL := ⟨[(1, .int .u32 host), (5, .sl ⟨5, 0, 0⟩ rows.length .open_), (6, .bool fb), (7, .slq 3 nL), (9, .int .i64 i)], [(3, .cells false [.str] lrows), (5, .cells true [.int .u16] rows)], 6⟩
def b33oTI (host : Int) (nL : Nat) (i : Int) (lrows : List (List AV)) (rows : List (List AV)) : SL := ⟨[(1, .int .u32 host), (5, .sl ⟨5, 0, 0⟩ rows.length .open_), (6, .lit true), (7, .slq 3 nL), (9, .int .i64 i)], [(3, .cells false [.str] lrows), (5, .cells true [.int .u16] rows)], 6⟩
def x33zB (fb : Bool) : SL := ⟨[(5, .nilSl), (6, .bool fb)], [], 5⟩
def x33zT  : SL := ⟨[(5, .nilSl), (6, .lit true)], [], 5⟩
def x33oB (fb : Bool) (rows : List (List AV)) : SL := ⟨[(5, .sl ⟨5, 0, 0⟩ rows.length .open_), (6, .bool fb)], [(5, .cells true [.int .u16] rows)], 6⟩
def x33oT (rows : List (List AV)) : SL := ⟨[(5, .sl ⟨5, 0, 0⟩ rows.length .open_), (6, .lit true)], [(5, .cells true [.int .u16] rows)], 6⟩
def x33zL : SL := ⟨[(5, .nilSl), (6, .lit false)], [], 5⟩
def x33oL (rows : List (List AV)) : SL := ⟨[(5, .sl ⟨5, 0, 0⟩ rows.length .open_), (6, .lit false)], [(5, .cells true [.int .u16] rows)], 6⟩
theorem n33zBB_F (host : Int) (nL : Nat) (i : Int) (n : Int) (k : Int) (fb : Bool) (ok : Bool) :
 Path (run Tryz.prog PR 100 (lbody Tryz.prog 33 1) (SL.mp 71 ([.as_ false]) (n33zBBI host nL i n k fb ok))) 5 [] (n33zBBI host nL i n k fb ok) (Ex.exit 2)
 (True ∧ ((decide (k < (0 : Int))) = false)) := by unfold Path; kernel_rfl
theorem n33zTB_F (host : Int) (nL : Nat) (i : Int) (n : Int) (k : Int) (ok : Bool) :
 Path (run Tryz.prog PR 100 (lbody Tryz.prog 33 1) (SL.mp 71 ([.as_ false]) (n33zTBI host nL i n k ok))) 5 [] (n33zTBI host nL i n k ok) (Ex.exit 2)
 (True ∧ ((decide (k < (0 : Int))) = false)) := by unfold Path; kernel_rfl
theorem n33oBB_F (host : Int) (nL : Nat) (i : Int) (n : Int) (k : Int) (fb : Bool) (ok : Bool) (rows : List (List AV)) :
 Path (run Tryz.prog PR 100 (lbody Tryz.prog 33 1) (SL.mp 71 ([.as_ false]) (n33oBBI host nL i n k fb ok rows))) 6 [] (n33oBBI host nL i n k fb ok rows) (Ex.exit 2)
 (True ∧ ((decide (k < (↑(List.length rows) : Int))) = false)) := by unfold Path; kernel_rfl
theorem n33oBB_TT (host : Int) (nL : Nat) (i : Int) (n : Int) (k : Int) (fb : Bool) (ok : Bool) (rows : List (List AV)) :
 Path (run Tryz.prog PR 100 (lbody Tryz.prog 33 1) (SL.mp 71 ([.as_ true, .as_ true]) (n33oBBI host nL i n k fb ok rows))) 6 [] (n33oBBI host nL i n (IntKind.wrap IntKind.i64 (k + (1 : Int))) fb (!AV.toInt (List.getD (List.getD rows (0 + Int.toNat k) []) (0) AV.undef) == IntKind.wrap IntKind.u16 n) rows) (Ex.normal)
 ((((True ∧ ((decide (k < (↑(List.length rows) : Int))) = true)) ∧ ((ok) = true)) ∧ (decide ((0 : Int) ≤ k ∧ k < (↑(List.length rows) : Int)) = true)) ∧ (decide (0 + Int.toNat k < List.length rows) = true)) := by unfold Path; kernel_rfl
theorem n33oBB_TF (host : Int) (nL : Nat) (i : Int) (n : Int) (k : Int) (fb : Bool) (ok : Bool) (rows : List (List AV)) :
 Path (run Tryz.prog PR 100 (lbody Tryz.prog 33 1) (SL.mp 71 ([.as_ true, .as_ false]) (n33oBBI host nL i n k fb ok rows))) 6 [] (n33oBZI host nL i n (IntKind.wrap IntKind.i64 (k + (1 : Int))) fb rows) (Ex.normal)
 ((True ∧ ((decide (k < (↑(List.length rows) : Int))) = true)) ∧ ((ok) = false)) := by unfold Path; kernel_rfl
theorem n33oBZ_F (host : Int) (nL : Nat) (i : Int) (n : Int) (k : Int) (fb : Bool) (rows : List (List AV)) :
 Path (run Tryz.prog PR 100 (lbody Tryz.prog 33 1) (SL.mp 71 ([.as_ false]) (n33oBZI host nL i n k fb rows))) 6 [] (n33oBZI host nL i n k fb rows) (Ex.exit 2)
 (True ∧ ((decide (k < (↑(List.length rows) : Int))) = false)) := by unfold Path; kernel_rfl
theorem n33oBZ_T (host : Int) (nL : Nat) (i : Int) (n : Int) (k : Int) (fb : Bool) (rows : List (List AV)) :
 Path (run Tryz.prog PR 100 (lbody Tryz.prog 33 1) (SL.mp 71 ([.as_ true]) (n33oBZI host nL i n k fb rows))) 6 [] (n33oBZI host nL i n (IntKind.wrap IntKind.i64 (k + (1 : Int))) fb rows) (Ex.normal)
 (True ∧ ((decide (k < (↑(List.length rows) : Int))) = true)) := by unfold Path; kernel_rfl
theorem n33oTB_F (host : Int) (nL : Nat) (i : Int) (n : Int) (k : Int) (ok : Bool) (rows : List (List AV)) :
 Path (run Tryz.prog PR 100 (lbody Tryz.prog 33 1) (SL.mp 71 ([.as_ false]) (n33oTBI host nL i n k ok rows))) 6 [] (n33oTBI host nL i n k ok rows) (Ex.exit 2)
 (True ∧ ((decide (k < (↑(List.length rows) : Int))) = false)) := by unfold Path; kernel_rfl
theorem n33oTB_TT (host : Int) (nL : Nat) (i : Int) (n : Int) (k : Int) (ok : Bool) (rows : List (List AV)) :
 Path (run Tryz.prog PR 100 (lbody Tryz.prog 33 1) (SL.mp 71 ([.as_ true, .as_ true]) (n33oTBI host nL i n k ok rows))) 6 [] (n33oTBI host nL i n (IntKind.wrap IntKind.i64 (k + (1 : Int))) (!AV.toInt (List.getD (List.getD rows (0 + Int.toNat k) []) (0) AV.undef) == IntKind.wrap IntKind.u16 n) rows) (Ex.normal)
 ((((True ∧ ((decide (k < (↑(List.length rows) : Int))) = true)) ∧ ((ok) = true)) ∧ (decide ((0 : Int) ≤ k ∧ k < (↑(List.length rows) : Int)) = true)) ∧ (decide (0 + Int.toNat k < List.length rows) = true)) := by unfold Path; kernel_rfl
theorem n33oTB_TF (host : Int) (nL : Nat) (i : Int) (n : Int) (k : Int) (ok : Bool) (rows : List (List AV)) :
 Path (run Tryz.prog PR 100 (lbody Tryz.prog 33 1) (SL.mp 71 ([.as_ true, .as_ false]) (n33oTBI host nL i n k ok rows))) 6 [] (n33oTZI host nL i n (IntKind.wrap IntKind.i64 (k + (1 : Int))) rows) (Ex.normal)
 ((True ∧ ((decide (k < (↑(List.length rows) : Int))) = true)) ∧ ((ok) = false)) := by unfold Path; kernel_rfl
theorem n33oTZ_F (host : Int) (nL : Nat) (i : Int) (n : Int) (k : Int) (rows : List (List AV)) :
 Path (run Tryz.prog PR 100 (lbody Tryz.prog 33 1) (SL.mp 71 ([.as_ false]) (n33oTZI host nL i n k rows))) 6 [] (n33oTZI host nL i n k rows) (Ex.exit 2)
 (True ∧ ((decide (k < (↑(List.length rows) : Int))) = false)) := by unfold Path; kernel_rfl
theorem n33oTZ_T (host : Int) (nL : Nat) (i : Int) (n : Int) (k : Int) (rows : List (List AV)) :
 Path (run Tryz.prog PR 100 (lbody Tryz.prog 33 1) (SL.mp 71 ([.as_ true]) (n33oTZI host nL i n k rows))) 6 [] (n33oTZI host nL i n (IntKind.wrap IntKind.i64 (k + (1 : Int))) rows) (Ex.normal)
 (True ∧ ((decide (k < (↑(List.length rows) : Int))) = true)) := by unfold Path; kernel_rfl
theorem b33zL_F (host : Int) (nL : Nat) (i : Int) (lrows : List (List AV)) :
 Path (run Tryz.prog PR 100 (lbody Tryz.prog 33 0) (SL.mp 71 ([.as_ false]) (b33zLI host nL i lrows))) 5 [] (x33zL) (Ex.exit 0)
 (True ∧ ((decide (i < (↑nL : Int))) = false)) := by unfold Path; kernel_rfl
theorem b33zL_TLT (host : Int) (nL : Nat) (i : Int) (lrows : List (List AV)) :
 Path (run Tryz.prog PR 100 (lbody Tryz.prog 33 0) (SL.mp 71 ([.as_ true, PI.loop (n33zBBI host nL i ((spRMedN (AV.toStr (List.getD (List.getD lrows (0 + Int.toNat i) []) 0 AV.undef)) : Nat) : Int) 0 (spConn (AV.toStr (List.getD (List.getD lrows (0 + Int.toNat i) []) 0 AV.undef)) host) (spRMedK (AV.toStr (List.getD (List.getD lrows (0 + Int.toNat i) []) 0 AV.undef)))) (Ex.exit 2) (n33zBBI host nL i ((spRMedN (AV.toStr (List.getD (List.getD lrows (0 + Int.toNat i) []) 0 AV.undef)) : Nat) : Int) 0 (spConn (AV.toStr (List.getD (List.getD lrows (0 + Int.toNat i) []) 0 AV.undef)) host) (spRMedK (AV.toStr (List.getD (List.getD lrows (0 + Int.toNat i) []) 0 AV.undef)))), .as_ true, PI.ev 1]) (b33zLI host nL i lrows))) 5 [6] (b33oBI host nL (IntKind.wrap IntKind.i64 (i + (1 : Int))) lrows (spConn (AV.toStr (List.getD (List.getD lrows (0 + Int.toNat i) []) 0 AV.undef)) host) [[AV.int IntKind.u16 (IntKind.wrap IntKind.u16 ((spRMedN (AV.toStr (List.getD (List.getD lrows (0 + Int.toNat i) []) 0 AV.undef)) : Nat) : Int))]]) (Ex.normal)
 (((((((((((((True ∧ ((decide (i < (↑nL : Int))) = true)) ∧ (decide (0 < nL) = true)) ∧ (decide ((0 : Int) ≤ i ∧ i < (↑nL : Int)) = true)) ∧ (decide (0 + Int.toNat i < List.length lrows) = true)) ∧ (decide ((0 : Int) ≤ host ∧ host < (4294967296 : Int)) = true)) ∧ (decide (0 < nL) = true)) ∧ (decide ((0 : Int) ≤ i ∧ i < (↑nL : Int)) = true)) ∧ (decide (0 + Int.toNat i < List.length lrows) = true)) ∧ (decide (List.length (AV.toStr (List.getD (List.getD lrows (0 + Int.toNat i) []) (0) AV.undef)) ≤ 4294967200) = true)) ∧ (LoopOK Tryz.prog (lbody Tryz.prog 33 1) (71) (SL.mk [(1, AV.int IntKind.u32 host), (5, AV.nilSl), (6, AV.bool (spConn (AV.toStr (List.getD (List.getD lrows (0 + Int.toNat i) []) 0 AV.undef)) host)), (7, AV.slq 3 nL), (9, AV.int IntKind.i64 i), (10, AV.int IntKind.i64 (↑(spRMedN (AV.toStr (List.getD (List.getD lrows (0 + Int.toNat i) []) 0 AV.undef))) : Int)), (13, AV.bool (spRMedK (AV.toStr (List.getD (List.getD lrows (0 + Int.toNat i) []) 0 AV.undef)))), (14, AV.int IntKind.i64 (0 : Int))] [] 5) (Ex.exit 2) (SL.mk [(1, AV.int IntKind.u32 host), (5, AV.nilSl), (6, AV.bool (spConn (AV.toStr (List.getD (List.getD lrows (0 + Int.toNat i) []) 0 AV.undef)) host)), (7, AV.slq 3 nL), (9, AV.int IntKind.i64 i), (10, AV.int IntKind.i64 (↑(spRMedN (AV.toStr (List.getD (List.getD lrows (0 + Int.toNat i) []) 0 AV.undef))) : Int)), (13, AV.bool (spRMedK (AV.toStr (List.getD (List.getD lrows (0 + Int.toNat i) []) 0 AV.undef)))), (14, AV.int IntKind.i64 (0 : Int))] [] 5))) ∧ ((spRMedK (AV.toStr (List.getD (List.getD lrows (0 + Int.toNat i) []) 0 AV.undef))) = true)) ∧ (true = true)) ∧ (true = true)) := by unfold Path; kernel_rfl
theorem b33zL_TLF (host : Int) (nL : Nat) (i : Int) (lrows : List (List AV)) :
 Path (run Tryz.prog PR 100 (lbody Tryz.prog 33 0) (SL.mp 71 ([.as_ true, PI.loop (n33zBBI host nL i ((spRMedN (AV.toStr (List.getD (List.getD lrows (0 + Int.toNat i) []) 0 AV.undef)) : Nat) : Int) 0 (spConn (AV.toStr (List.getD (List.getD lrows (0 + Int.toNat i) []) 0 AV.undef)) host) (spRMedK (AV.toStr (List.getD (List.getD lrows (0 + Int.toNat i) []) 0 AV.undef)))) (Ex.exit 2) (n33zBBI host nL i ((spRMedN (AV.toStr (List.getD (List.getD lrows (0 + Int.toNat i) []) 0 AV.undef)) : Nat) : Int) 0 (spConn (AV.toStr (List.getD (List.getD lrows (0 + Int.toNat i) []) 0 AV.undef)) host) (spRMedK (AV.toStr (List.getD (List.getD lrows (0 + Int.toNat i) []) 0 AV.undef)))), .as_ false]) (b33zLI host nL i lrows))) 5 [] (b33zBI host nL (IntKind.wrap IntKind.i64 (i + (1 : Int))) lrows (spConn (AV.toStr (List.getD (List.getD lrows (0 + Int.toNat i) []) 0 AV.undef)) host)) (Ex.normal)
 (((((((((((True ∧ ((decide (i < (↑nL : Int))) = true)) ∧ (decide (0 < nL) = true)) ∧ (decide ((0 : Int) ≤ i ∧ i < (↑nL : Int)) = true)) ∧ (decide (0 + Int.toNat i < List.length lrows) = true)) ∧ (decide ((0 : Int) ≤ host ∧ host < (4294967296 : Int)) = true)) ∧ (decide (0 < nL) = true)) ∧ (decide ((0 : Int) ≤ i ∧ i < (↑nL : Int)) = true)) ∧ (decide (0 + Int.toNat i < List.length lrows) = true)) ∧ (decide (List.length (AV.toStr (List.getD (List.getD lrows (0 + Int.toNat i) []) (0) AV.undef)) ≤ 4294967200) = true)) ∧ (LoopOK Tryz.prog (lbody Tryz.prog 33 1) (71) (SL.mk [(1, AV.int IntKind.u32 host), (5, AV.nilSl), (6, AV.bool (spConn (AV.toStr (List.getD (List.getD lrows (0 + Int.toNat i) []) 0 AV.undef)) host)), (7, AV.slq 3 nL), (9, AV.int IntKind.i64 i), (10, AV.int IntKind.i64 (↑(spRMedN (AV.toStr (List.getD (List.getD lrows (0 + Int.toNat i) []) 0 AV.undef))) : Int)), (13, AV.bool (spRMedK (AV.toStr (List.getD (List.getD lrows (0 + Int.toNat i) []) 0 AV.undef)))), (14, AV.int IntKind.i64 (0 : Int))] [] 5) (Ex.exit 2) (SL.mk [(1, AV.int IntKind.u32 host), (5, AV.nilSl), (6, AV.bool (spConn (AV.toStr (List.getD (List.getD lrows (0 + Int.toNat i) []) 0 AV.undef)) host)), (7, AV.slq 3 nL), (9, AV.int IntKind.i64 i), (10, AV.int IntKind.i64 (↑(spRMedN (AV.toStr (List.getD (List.getD lrows (0 + Int.toNat i) []) 0 AV.undef))) : Int)), (13, AV.bool (spRMedK (AV.toStr (List.getD (List.getD lrows (0 + Int.toNat i) []) 0 AV.undef)))), (14, AV.int IntKind.i64 (0 : Int))] [] 5))) ∧ ((spRMedK (AV.toStr (List.getD (List.getD lrows (0 + Int.toNat i) []) 0 AV.undef))) = false)) := by unfold Path; kernel_rfl
theorem b33zB_F (host : Int) (nL : Nat) (i : Int) (lrows : List (List AV)) (fb : Bool) :
 Path (run Tryz.prog PR 100 (lbody Tryz.prog 33 0) (SL.mp 71 ([.as_ false]) (b33zBI host nL i lrows fb))) 5 [] (x33zB fb) (Ex.exit 0)
 (True ∧ ((decide (i < (↑nL : Int))) = false)) := by unfold Path; kernel_rfl
theorem b33zB_TTLT (host : Int) (nL : Nat) (i : Int) (lrows : List (List AV)) (fb : Bool) :
 Path (run Tryz.prog PR 100 (lbody Tryz.prog 33 0) (SL.mp 71 ([.as_ true, .as_ true, PI.loop (n33zTBI host nL i ((spRMedN (AV.toStr (List.getD (List.getD lrows (0 + Int.toNat i) []) 0 AV.undef)) : Nat) : Int) 0 (spRMedK (AV.toStr (List.getD (List.getD lrows (0 + Int.toNat i) []) 0 AV.undef)))) (Ex.exit 2) (n33zTBI host nL i ((spRMedN (AV.toStr (List.getD (List.getD lrows (0 + Int.toNat i) []) 0 AV.undef)) : Nat) : Int) 0 (spRMedK (AV.toStr (List.getD (List.getD lrows (0 + Int.toNat i) []) 0 AV.undef)))), .as_ true, PI.ev 1]) (b33zBI host nL i lrows fb))) 5 [6] (b33oTI host nL (IntKind.wrap IntKind.i64 (i + (1 : Int))) lrows [[AV.int IntKind.u16 (IntKind.wrap IntKind.u16 ((spRMedN (AV.toStr (List.getD (List.getD lrows (0 + Int.toNat i) []) 0 AV.undef)) : Nat) : Int))]]) (Ex.normal)
 ((((((((((True ∧ ((decide (i < (↑nL : Int))) = true)) ∧ ((fb) = true)) ∧ (decide (0 < nL) = true)) ∧ (decide ((0 : Int) ≤ i ∧ i < (↑nL : Int)) = true)) ∧ (decide (0 + Int.toNat i < List.length lrows) = true)) ∧ (decide (List.length (AV.toStr (List.getD (List.getD lrows (0 + Int.toNat i) []) (0) AV.undef)) ≤ 4294967200) = true)) ∧ (LoopOK Tryz.prog (lbody Tryz.prog 33 1) (71) (SL.mk [(1, AV.int IntKind.u32 host), (5, AV.nilSl), (6, AV.lit true), (7, AV.slq 3 nL), (9, AV.int IntKind.i64 i), (10, AV.int IntKind.i64 (↑(spRMedN (AV.toStr (List.getD (List.getD lrows (0 + Int.toNat i) []) 0 AV.undef))) : Int)), (13, AV.bool (spRMedK (AV.toStr (List.getD (List.getD lrows (0 + Int.toNat i) []) 0 AV.undef)))), (14, AV.int IntKind.i64 (0 : Int))] [] 5) (Ex.exit 2) (SL.mk [(1, AV.int IntKind.u32 host), (5, AV.nilSl), (6, AV.lit true), (7, AV.slq 3 nL), (9, AV.int IntKind.i64 i), (10, AV.int IntKind.i64 (↑(spRMedN (AV.toStr (List.getD (List.getD lrows (0 + Int.toNat i) []) 0 AV.undef))) : Int)), (13, AV.bool (spRMedK (AV.toStr (List.getD (List.getD lrows (0 + Int.toNat i) []) 0 AV.undef)))), (14, AV.int IntKind.i64 (0 : Int))] [] 5))) ∧ ((spRMedK (AV.toStr (List.getD (List.getD lrows (0 + Int.toNat i) []) 0 AV.undef))) = true)) ∧ (true = true)) ∧ (true = true)) := by unfold Path; kernel_rfl
theorem b33zB_TTLF (host : Int) (nL : Nat) (i : Int) (lrows : List (List AV)) (fb : Bool) :
 Path (run Tryz.prog PR 100 (lbody Tryz.prog 33 0) (SL.mp 71 ([.as_ true, .as_ true, PI.loop (n33zTBI host nL i ((spRMedN (AV.toStr (List.getD (List.getD lrows (0 + Int.toNat i) []) 0 AV.undef)) : Nat) : Int) 0 (spRMedK (AV.toStr (List.getD (List.getD lrows (0 + Int.toNat i) []) 0 AV.undef)))) (Ex.exit 2) (n33zTBI host nL i ((spRMedN (AV.toStr (List.getD (List.getD lrows (0 + Int.toNat i) []) 0 AV.undef)) : Nat) : Int) 0 (spRMedK (AV.toStr (List.getD (List.getD lrows (0 + Int.toNat i) []) 0 AV.undef)))), .as_ false]) (b33zBI host nL i lrows fb))) 5 [] (b33zTI host nL (IntKind.wrap IntKind.i64 (i + (1 : Int))) lrows) (Ex.normal)
 ((((((((True ∧ ((decide (i < (↑nL : Int))) = true)) ∧ ((fb) = true)) ∧ (decide (0 < nL) = true)) ∧ (decide ((0 : Int) ≤ i ∧ i < (↑nL : Int)) = true)) ∧ (decide (0 + Int.toNat i < List.length lrows) = true)) ∧ (decide (List.length (AV.toStr (List.getD (List.getD lrows (0 + Int.toNat i) []) (0) AV.undef)) ≤ 4294967200) = true)) ∧ (LoopOK Tryz.prog (lbody Tryz.prog 33 1) (71) (SL.mk [(1, AV.int IntKind.u32 host), (5, AV.nilSl), (6, AV.lit true), (7, AV.slq 3 nL), (9, AV.int IntKind.i64 i), (10, AV.int IntKind.i64 (↑(spRMedN (AV.toStr (List.getD (List.getD lrows (0 + Int.toNat i) []) 0 AV.undef))) : Int)), (13, AV.bool (spRMedK (AV.toStr (List.getD (List.getD lrows (0 + Int.toNat i) []) 0 AV.undef)))), (14, AV.int IntKind.i64 (0 : Int))] [] 5) (Ex.exit 2) (SL.mk [(1, AV.int IntKind.u32 host), (5, AV.nilSl), (6, AV.lit true), (7, AV.slq 3 nL), (9, AV.int IntKind.i64 i), (10, AV.int IntKind.i64 (↑(spRMedN (AV.toStr (List.getD (List.getD lrows (0 + Int.toNat i) []) 0 AV.undef))) : Int)), (13, AV.bool (spRMedK (AV.toStr (List.getD (List.getD lrows (0 + Int.toNat i) []) 0 AV.undef)))), (14, AV.int IntKind.i64 (0 : Int))] [] 5))) ∧ ((spRMedK (AV.toStr (List.getD (List.getD lrows (0 + Int.toNat i) []) 0 AV.undef))) = false)) := by unfold Path; kernel_rfl
theorem b33zB_TFLT (host : Int) (nL : Nat) (i : Int) (lrows : List (List AV)) (fb : Bool) :
 Path (run Tryz.prog PR 100 (lbody Tryz.prog 33 0) (SL.mp 71 ([.as_ true, .as_ false, PI.loop (n33zBBI host nL i ((spRMedN (AV.toStr (List.getD (List.getD lrows (0 + Int.toNat i) []) 0 AV.undef)) : Nat) : Int) 0 (spConn (AV.toStr (List.getD (List.getD lrows (0 + Int.toNat i) []) 0 AV.undef)) host) (spRMedK (AV.toStr (List.getD (List.getD lrows (0 + Int.toNat i) []) 0 AV.undef)))) (Ex.exit 2) (n33zBBI host nL i ((spRMedN (AV.toStr (List.getD (List.getD lrows (0 + Int.toNat i) []) 0 AV.undef)) : Nat) : Int) 0 (spConn (AV.toStr (List.getD (List.getD lrows (0 + Int.toNat i) []) 0 AV.undef)) host) (spRMedK (AV.toStr (List.getD (List.getD lrows (0 + Int.toNat i) []) 0 AV.undef)))), .as_ true, PI.ev 1]) (b33zBI host nL i lrows fb))) 5 [6] (b33oBI host nL (IntKind.wrap IntKind.i64 (i + (1 : Int))) lrows (spConn (AV.toStr (List.getD (List.getD lrows (0 + Int.toNat i) []) 0 AV.undef)) host) [[AV.int IntKind.u16 (IntKind.wrap IntKind.u16 ((spRMedN (AV.toStr (List.getD (List.getD lrows (0 + Int.toNat i) []) 0 AV.undef)) : Nat) : Int))]]) (Ex.normal)
 ((((((((((((((True ∧ ((decide (i < (↑nL : Int))) = true)) ∧ ((fb) = false)) ∧ (decide (0 < nL) = true)) ∧ (decide ((0 : Int) ≤ i ∧ i < (↑nL : Int)) = true)) ∧ (decide (0 + Int.toNat i < List.length lrows) = true)) ∧ (decide ((0 : Int) ≤ host ∧ host < (4294967296 : Int)) = true)) ∧ (decide (0 < nL) = true)) ∧ (decide ((0 : Int) ≤ i ∧ i < (↑nL : Int)) = true)) ∧ (decide (0 + Int.toNat i < List.length lrows) = true)) ∧ (decide (List.length (AV.toStr (List.getD (List.getD lrows (0 + Int.toNat i) []) (0) AV.undef)) ≤ 4294967200) = true)) ∧ (LoopOK Tryz.prog (lbody Tryz.prog 33 1) (71) (SL.mk [(1, AV.int IntKind.u32 host), (5, AV.nilSl), (6, AV.bool (spConn (AV.toStr (List.getD (List.getD lrows (0 + Int.toNat i) []) 0 AV.undef)) host)), (7, AV.slq 3 nL), (9, AV.int IntKind.i64 i), (10, AV.int IntKind.i64 (↑(spRMedN (AV.toStr (List.getD (List.getD lrows (0 + Int.toNat i) []) 0 AV.undef))) : Int)), (13, AV.bool (spRMedK (AV.toStr (List.getD (List.getD lrows (0 + Int.toNat i) []) 0 AV.undef)))), (14, AV.int IntKind.i64 (0 : Int))] [] 5) (Ex.exit 2) (SL.mk [(1, AV.int IntKind.u32 host), (5, AV.nilSl), (6, AV.bool (spConn (AV.toStr (List.getD (List.getD lrows (0 + Int.toNat i) []) 0 AV.undef)) host)), (7, AV.slq 3 nL), (9, AV.int IntKind.i64 i), (10, AV.int IntKind.i64 (↑(spRMedN (AV.toStr (List.getD (List.getD lrows (0 + Int.toNat i) []) 0 AV.undef))) : Int)), (13, AV.bool (spRMedK (AV.toStr (List.getD (List.getD lrows (0 + Int.toNat i) []) 0 AV.undef)))), (14, AV.int IntKind.i64 (0 : Int))] [] 5))) ∧ ((spRMedK (AV.toStr (List.getD (List.getD lrows (0 + Int.toNat i) []) 0 AV.undef))) = true)) ∧ (true = true)) ∧ (true = true)) := by unfold Path; kernel_rfl
theorem b33zB_TFLF (host : Int) (nL : Nat) (i : Int) (lrows : List (List AV)) (fb : Bool) :
 Path (run Tryz.prog PR 100 (lbody Tryz.prog 33 0) (SL.mp 71 ([.as_ true, .as_ false, PI.loop (n33zBBI host nL i ((spRMedN (AV.toStr (List.getD (List.getD lrows (0 + Int.toNat i) []) 0 AV.undef)) : Nat) : Int) 0 (spConn (AV.toStr (List.getD (List.getD lrows (0 + Int.toNat i) []) 0 AV.undef)) host) (spRMedK (AV.toStr (List.getD (List.getD lrows (0 + Int.toNat i) []) 0 AV.undef)))) (Ex.exit 2) (n33zBBI host nL i ((spRMedN (AV.toStr (List.getD (List.getD lrows (0 + Int.toNat i) []) 0 AV.undef)) : Nat) : Int) 0 (spConn (AV.toStr (List.getD (List.getD lrows (0 + Int.toNat i) []) 0 AV.undef)) host) (spRMedK (AV.toStr (List.getD (List.getD lrows (0 + Int.toNat i) []) 0 AV.undef)))), .as_ false]) (b33zBI host nL i lrows fb))) 5 [] (b33zBI host nL (IntKind.wrap IntKind.i64 (i + (1 : Int))) lrows (spConn (AV.toStr (List.getD (List.getD lrows (0 + Int.toNat i) []) 0 AV.undef)) host)) (Ex.normal)
 ((((((((((((True ∧ ((decide (i < (↑nL : Int))) = true)) ∧ ((fb) = false)) ∧ (decide (0 < nL) = true)) ∧ (decide ((0 : Int) ≤ i ∧ i < (↑nL : Int)) = true)) ∧ (decide (0 + Int.toNat i < List.length lrows) = true)) ∧ (decide ((0 : Int) ≤ host ∧ host < (4294967296 : Int)) = true)) ∧ (decide (0 < nL) = true)) ∧ (decide ((0 : Int) ≤ i ∧ i < (↑nL : Int)) = true)) ∧ (decide (0 + Int.toNat i < List.length lrows) = true)) ∧ (decide (List.length (AV.toStr (List.getD (List.getD lrows (0 + Int.toNat i) []) (0) AV.undef)) ≤ 4294967200) = true)) ∧ (LoopOK Tryz.prog (lbody Tryz.prog 33 1) (71) (SL.mk [(1, AV.int IntKind.u32 host), (5, AV.nilSl), (6, AV.bool (spConn (AV.toStr (List.getD (List.getD lrows (0 + Int.toNat i) []) 0 AV.undef)) host)), (7, AV.slq 3 nL), (9, AV.int IntKind.i64 i), (10, AV.int IntKind.i64 (↑(spRMedN (AV.toStr (List.getD (List.getD lrows (0 + Int.toNat i) []) 0 AV.undef))) : Int)), (13, AV.bool (spRMedK (AV.toStr (List.getD (List.getD lrows (0 + Int.toNat i) []) 0 AV.undef)))), (14, AV.int IntKind.i64 (0 : Int))] [] 5) (Ex.exit 2) (SL.mk [(1, AV.int IntKind.u32 host), (5, AV.nilSl), (6, AV.bool (spConn (AV.toStr (List.getD (List.getD lrows (0 + Int.toNat i) []) 0 AV.undef)) host)), (7, AV.slq 3 nL), (9, AV.int IntKind.i64 i), (10, AV.int IntKind.i64 (↑(spRMedN (AV.toStr (List.getD (List.getD lrows (0 + Int.toNat i) []) 0 AV.undef))) : Int)), (13, AV.bool (spRMedK (AV.toStr (List.getD (List.getD lrows (0 + Int.toNat i) []) 0 AV.undef)))), (14, AV.int IntKind.i64 (0 : Int))] [] 5))) ∧ ((spRMedK (AV.toStr (List.getD (List.getD lrows (0 + Int.toNat i) []) 0 AV.undef))) = false)) := by unfold Path; kernel_rfl
theorem b33zT_F (host : Int) (nL : Nat) (i : Int) (lrows : List (List AV)) :
 Path (run Tryz.prog PR 100 (lbody Tryz.prog 33 0) (SL.mp 71 ([.as_ false]) (b33zTI host nL i lrows))) 5 [] (x33zT) (Ex.exit 0)
 (True ∧ ((decide (i < (↑nL : Int))) = false)) := by unfold Path; kernel_rfl
theorem b33zT_TLT (host : Int) (nL : Nat) (i : Int) (lrows : List (List AV)) :
 Path (run Tryz.prog PR 100 (lbody Tryz.prog 33 0) (SL.mp 71 ([.as_ true, PI.loop (n33zTBI host nL i ((spRMedN (AV.toStr (List.getD (List.getD lrows (0 + Int.toNat i) []) 0 AV.undef)) : Nat) : Int) 0 (spRMedK (AV.toStr (List.getD (List.getD lrows (0 + Int.toNat i) []) 0 AV.undef)))) (Ex.exit 2) (n33zTBI host nL i ((spRMedN (AV.toStr (List.getD (List.getD lrows (0 + Int.toNat i) []) 0 AV.undef)) : Nat) : Int) 0 (spRMedK (AV.toStr (List.getD (List.getD lrows (0 + Int.toNat i) []) 0 AV.undef)))), .as_ true, PI.ev 1]) (b33zTI host nL i lrows))) 5 [6] (b33oTI host nL (IntKind.wrap IntKind.i64 (i + (1 : Int))) lrows [[AV.int IntKind.u16 (IntKind.wrap IntKind.u16 ((spRMedN (AV.toStr (List.getD (List.getD lrows (0 + Int.toNat i) []) 0 AV.undef)) : Nat) : Int))]]) (Ex.normal)
 (((((((((True ∧ ((decide (i < (↑nL : Int))) = true)) ∧ (decide (0 < nL) = true)) ∧ (decide ((0 : Int) ≤ i ∧ i < (↑nL : Int)) = true)) ∧ (decide (0 + Int.toNat i < List.length lrows) = true)) ∧ (decide (List.length (AV.toStr (List.getD (List.getD lrows (0 + Int.toNat i) []) (0) AV.undef)) ≤ 4294967200) = true)) ∧ (LoopOK Tryz.prog (lbody Tryz.prog 33 1) (71) (SL.mk [(1, AV.int IntKind.u32 host), (5, AV.nilSl), (6, AV.lit true), (7, AV.slq 3 nL), (9, AV.int IntKind.i64 i), (10, AV.int IntKind.i64 (↑(spRMedN (AV.toStr (List.getD (List.getD lrows (0 + Int.toNat i) []) 0 AV.undef))) : Int)), (13, AV.bool (spRMedK (AV.toStr (List.getD (List.getD lrows (0 + Int.toNat i) []) 0 AV.undef)))), (14, AV.int IntKind.i64 (0 : Int))] [] 5) (Ex.exit 2) (SL.mk [(1, AV.int IntKind.u32 host), (5, AV.nilSl), (6, AV.lit true), (7, AV.slq 3 nL), (9, AV.int IntKind.i64 i), (10, AV.int IntKind.i64 (↑(spRMedN (AV.toStr (List.getD (List.getD lrows (0 + Int.toNat i) []) 0 AV.undef))) : Int)), (13, AV.bool (spRMedK (AV.toStr (List.getD (List.getD lrows (0 + Int.toNat i) []) 0 AV.undef)))), (14, AV.int IntKind.i64 (0 : Int))] [] 5))) ∧ ((spRMedK (AV.toStr (List.getD (List.getD lrows (0 + Int.toNat i) []) 0 AV.undef))) = true)) ∧ (true = true)) ∧ (true = true)) := by unfold Path; kernel_rfl
theorem b33zT_TLF (host : Int) (nL : Nat) (i : Int) (lrows : List (List AV)) :
 Path (run Tryz.prog PR 100 (lbody Tryz.prog 33 0) (SL.mp 71 ([.as_ true, PI.loop (n33zTBI host nL i ((spRMedN (AV.toStr (List.getD (List.getD lrows (0 + Int.toNat i) []) 0 AV.undef)) : Nat) : Int) 0 (spRMedK (AV.toStr (List.getD (List.getD lrows (0 + Int.toNat i) []) 0 AV.undef)))) (Ex.exit 2) (n33zTBI host nL i ((spRMedN (AV.toStr (List.getD (List.getD lrows (0 + Int.toNat i) []) 0 AV.undef)) : Nat) : Int) 0 (spRMedK (AV.toStr (List.getD (List.getD lrows (0 + Int.toNat i) []) 0 AV.undef)))), .as_ false]) (b33zTI host nL i lrows))) 5 [] (b33zTI host nL (IntKind.wrap IntKind.i64 (i + (1 : Int))) lrows) (Ex.normal)
 (((((((True ∧ ((decide (i < (↑nL : Int))) = true)) ∧ (decide (0 < nL) = true)) ∧ (decide ((0 : Int) ≤ i ∧ i < (↑nL : Int)) = true)) ∧ (decide (0 + Int.toNat i < List.length lrows) = true)) ∧ (decide (List.length (AV.toStr (List.getD (List.getD lrows (0 + Int.toNat i) []) (0) AV.undef)) ≤ 4294967200) = true)) ∧ (LoopOK Tryz.prog (lbody Tryz.prog 33 1) (71) (SL.mk [(1, AV.int IntKind.u32 host), (5, AV.nilSl), (6, AV.lit true), (7, AV.slq 3 nL), (9, AV.int IntKind.i64 i), (10, AV.int IntKind.i64 (↑(spRMedN (AV.toStr (List.getD (List.getD lrows (0 + Int.toNat i) []) 0 AV.undef))) : Int)), (13, AV.bool (spRMedK (AV.toStr (List.getD (List.getD lrows (0 + Int.toNat i) []) 0 AV.undef)))), (14, AV.int IntKind.i64 (0 : Int))] [] 5) (Ex.exit 2) (SL.mk [(1, AV.int IntKind.u32 host), (5, AV.nilSl), (6, AV.lit true), (7, AV.slq 3 nL), (9, AV.int IntKind.i64 i), (10, AV.int IntKind.i64 (↑(spRMedN (AV.toStr (List.getD (List.getD lrows (0 + Int.toNat i) []) 0 AV.undef))) : Int)), (13, AV.bool (spRMedK (AV.toStr (List.getD (List.getD lrows (0 + Int.toNat i) []) 0 AV.undef)))), (14, AV.int IntKind.i64 (0 : Int))] [] 5))) ∧ ((spRMedK (AV.toStr (List.getD (List.getD lrows (0 + Int.toNat i) []) 0 AV.undef))) = false)) := by unfold Path; kernel_rfl
theorem b33oL_F (host : Int) (nL : Nat) (i : Int) (lrows : List (List AV)) (rows : List (List AV)) (ok : Bool) (m : Int) :
 Path (run Tryz.prog PR 100 (lbody Tryz.prog 33 0) (SL.mp 71 ([.as_ false]) (b33oLI host nL i lrows rows))) 5 [5] (x33oL rows) (Ex.exit 0)
 (True ∧ ((decide (i < (↑nL : Int))) = false)) := by unfold Path; kernel_rfl
theorem b33oL_TLT (host : Int) (nL : Nat) (i : Int) (lrows : List (List AV)) (rows : List (List AV)) (ok : Bool) (m : Int) :
 Path (run Tryz.prog PR 100 (lbody Tryz.prog 33 0) (SL.mp 71 ([.as_ true, PI.loop (n33oBBI host nL i ((spRMedN (AV.toStr (List.getD (List.getD lrows (0 + Int.toNat i) []) 0 AV.undef)) : Nat) : Int) 0 (spConn (AV.toStr (List.getD (List.getD lrows (0 + Int.toNat i) []) 0 AV.undef)) host) (spRMedK (AV.toStr (List.getD (List.getD lrows (0 + Int.toNat i) []) 0 AV.undef))) rows) (Ex.exit 2) (n33oBBI host nL i ((spRMedN (AV.toStr (List.getD (List.getD lrows (0 + Int.toNat i) []) 0 AV.undef)) : Nat) : Int) m (spConn (AV.toStr (List.getD (List.getD lrows (0 + Int.toNat i) []) 0 AV.undef)) host) ok rows), .as_ true]) (b33oLI host nL i lrows rows))) 5 [7] ⟨[(1, .int .u32 host), (5, .sl ⟨5, 0, 0⟩ (rows.length + 1) .open_), (6, .bool (spConn (AV.toStr (List.getD (List.getD lrows (0 + Int.toNat i) []) 0 AV.undef)) host)), (7, .slq 3 nL), (9, .int .i64 (IntKind.wrap IntKind.i64 (i + (1 : Int))))], [(3, .cells false [.str] lrows), (5, .cells true [.int .u16] (rows ++ [[AV.int IntKind.u16 (IntKind.wrap IntKind.u16 ((spRMedN (AV.toStr (List.getD (List.getD lrows (0 + Int.toNat i) []) 0 AV.undef)) : Nat) : Int))]]))], 6⟩ (Ex.normal)
 ((((((((((((((True ∧ ((decide (i < (↑nL : Int))) = true)) ∧ (decide (0 < nL) = true)) ∧ (decide ((0 : Int) ≤ i ∧ i < (↑nL : Int)) = true)) ∧ (decide (0 + Int.toNat i < List.length lrows) = true)) ∧ (decide ((0 : Int) ≤ host ∧ host < (4294967296 : Int)) = true)) ∧ (decide (0 < nL) = true)) ∧ (decide ((0 : Int) ≤ i ∧ i < (↑nL : Int)) = true)) ∧ (decide (0 + Int.toNat i < List.length lrows) = true)) ∧ (decide (List.length (AV.toStr (List.getD (List.getD lrows (0 + Int.toNat i) []) (0) AV.undef)) ≤ 4294967200) = true)) ∧ (LoopOK Tryz.prog (lbody Tryz.prog 33 1) (71) (SL.mk [(1, AV.int IntKind.u32 host), (5, AV.sl (Loc.mk 5 0 0) (List.length rows) Cap.open_), (6, AV.bool (spConn (AV.toStr (List.getD (List.getD lrows (0 + Int.toNat i) []) 0 AV.undef)) host)), (7, AV.slq 3 nL), (9, AV.int IntKind.i64 i), (10, AV.int IntKind.i64 (↑(spRMedN (AV.toStr (List.getD (List.getD lrows (0 + Int.toNat i) []) 0 AV.undef))) : Int)), (13, AV.bool (spRMedK (AV.toStr (List.getD (List.getD lrows (0 + Int.toNat i) []) 0 AV.undef)))), (14, AV.int IntKind.i64 (0 : Int))] [(5, Blk.cells true [Kd.int IntKind.u16] rows)] 6) (Ex.exit 2) (SL.mk [(1, AV.int IntKind.u32 host), (5, AV.sl (Loc.mk 5 0 0) (List.length rows) Cap.open_), (6, AV.bool (spConn (AV.toStr (List.getD (List.getD lrows (0 + Int.toNat i) []) 0 AV.undef)) host)), (7, AV.slq 3 nL), (9, AV.int IntKind.i64 i), (10, AV.int IntKind.i64 (↑(spRMedN (AV.toStr (List.getD (List.getD lrows (0 + Int.toNat i) []) 0 AV.undef))) : Int)), (13, AV.bool ok), (14, AV.int IntKind.i64 m)] [(5, Blk.cells true [Kd.int IntKind.u16] rows)] 6))) ∧ ((ok) = true)) ∧ (true = true)) ∧ (decide (0 = 0 ∧ List.length rows = List.length rows) = true)) ∧ (decide ((List.length rows + 1) * 2 ≤ 140737488355328) = true)) := by unfold Path; kernel_rfl
theorem b33oL_TLF (host : Int) (nL : Nat) (i : Int) (lrows : List (List AV)) (rows : List (List AV)) (ok : Bool) (m : Int) :
 Path (run Tryz.prog PR 100 (lbody Tryz.prog 33 0) (SL.mp 71 ([.as_ true, PI.loop (n33oBBI host nL i ((spRMedN (AV.toStr (List.getD (List.getD lrows (0 + Int.toNat i) []) 0 AV.undef)) : Nat) : Int) 0 (spConn (AV.toStr (List.getD (List.getD lrows (0 + Int.toNat i) []) 0 AV.undef)) host) (spRMedK (AV.toStr (List.getD (List.getD lrows (0 + Int.toNat i) []) 0 AV.undef))) rows) (Ex.exit 2) (n33oBBI host nL i ((spRMedN (AV.toStr (List.getD (List.getD lrows (0 + Int.toNat i) []) 0 AV.undef)) : Nat) : Int) m (spConn (AV.toStr (List.getD (List.getD lrows (0 + Int.toNat i) []) 0 AV.undef)) host) ok rows), .as_ false]) (b33oLI host nL i lrows rows))) 5 [5] (b33oBI host nL (IntKind.wrap IntKind.i64 (i + (1 : Int))) lrows (spConn (AV.toStr (List.getD (List.getD lrows (0 + Int.toNat i) []) 0 AV.undef)) host) rows) (Ex.normal)
 (((((((((((True ∧ ((decide (i < (↑nL : Int))) = true)) ∧ (decide (0 < nL) = true)) ∧ (decide ((0 : Int) ≤ i ∧ i < (↑nL : Int)) = true)) ∧ (decide (0 + Int.toNat i < List.length lrows) = true)) ∧ (decide ((0 : Int) ≤ host ∧ host < (4294967296 : Int)) = true)) ∧ (decide (0 < nL) = true)) ∧ (decide ((0 : Int) ≤ i ∧ i < (↑nL : Int)) = true)) ∧ (decide (0 + Int.toNat i < List.length lrows) = true)) ∧ (decide (List.length (AV.toStr (List.getD (List.getD lrows (0 + Int.toNat i) []) (0) AV.undef)) ≤ 4294967200) = true)) ∧ (LoopOK Tryz.prog (lbody Tryz.prog 33 1) (71) (SL.mk [(1, AV.int IntKind.u32 host), (5, AV.sl (Loc.mk 5 0 0) (List.length rows) Cap.open_), (6, AV.bool (spConn (AV.toStr (List.getD (List.getD lrows (0 + Int.toNat i) []) 0 AV.undef)) host)), (7, AV.slq 3 nL), (9, AV.int IntKind.i64 i), (10, AV.int IntKind.i64 (↑(spRMedN (AV.toStr (List.getD (List.getD lrows (0 + Int.toNat i) []) 0 AV.undef))) : Int)), (13, AV.bool (spRMedK (AV.toStr (List.getD (List.getD lrows (0 + Int.toNat i) []) 0 AV.undef)))), (14, AV.int IntKind.i64 (0 : Int))] [(5, Blk.cells true [Kd.int IntKind.u16] rows)] 6) (Ex.exit 2) (SL.mk [(1, AV.int IntKind.u32 host), (5, AV.sl (Loc.mk 5 0 0) (List.length rows) Cap.open_), (6, AV.bool (spConn (AV.toStr (List.getD (List.getD lrows (0 + Int.toNat i) []) 0 AV.undef)) host)), (7, AV.slq 3 nL), (9, AV.int IntKind.i64 i), (10, AV.int IntKind.i64 (↑(spRMedN (AV.toStr (List.getD (List.getD lrows (0 + Int.toNat i) []) 0 AV.undef))) : Int)), (13, AV.bool ok), (14, AV.int IntKind.i64 m)] [(5, Blk.cells true [Kd.int IntKind.u16] rows)] 6))) ∧ ((ok) = false)) := by unfold Path; kernel_rfl
theorem b33oL_TL (host : Int) (nL : Nat) (i : Int) (lrows : List (List AV)) (rows : List (List AV)) (ok : Bool) (m : Int) :
 Path (run Tryz.prog PR 100 (lbody Tryz.prog 33 0) (SL.mp 71 ([.as_ true, PI.loop (n33oBBI host nL i ((spRMedN (AV.toStr (List.getD (List.getD lrows (0 + Int.toNat i) []) 0 AV.undef)) : Nat) : Int) 0 (spConn (AV.toStr (List.getD (List.getD lrows (0 + Int.toNat i) []) 0 AV.undef)) host) (spRMedK (AV.toStr (List.getD (List.getD lrows (0 + Int.toNat i) []) 0 AV.undef))) rows) (Ex.exit 2) (n33oBZI host nL i ((spRMedN (AV.toStr (List.getD (List.getD lrows (0 + Int.toNat i) []) 0 AV.undef)) : Nat) : Int) m (spConn (AV.toStr (List.getD (List.getD lrows (0 + Int.toNat i) []) 0 AV.undef)) host) rows)]) (b33oLI host nL i lrows rows))) 5 [5] (b33oBI host nL (IntKind.wrap IntKind.i64 (i + (1 : Int))) lrows (spConn (AV.toStr (List.getD (List.getD lrows (0 + Int.toNat i) []) 0 AV.undef)) host) rows) (Ex.normal)
 ((((((((((True ∧ ((decide (i < (↑nL : Int))) = true)) ∧ (decide (0 < nL) = true)) ∧ (decide ((0 : Int) ≤ i ∧ i < (↑nL : Int)) = true)) ∧ (decide (0 + Int.toNat i < List.length lrows) = true)) ∧ (decide ((0 : Int) ≤ host ∧ host < (4294967296 : Int)) = true)) ∧ (decide (0 < nL) = true)) ∧ (decide ((0 : Int) ≤ i ∧ i < (↑nL : Int)) = true)) ∧ (decide (0 + Int.toNat i < List.length lrows) = true)) ∧ (decide (List.length (AV.toStr (List.getD (List.getD lrows (0 + Int.toNat i) []) (0) AV.undef)) ≤ 4294967200) = true)) ∧ (LoopOK Tryz.prog (lbody Tryz.prog 33 1) (71) (SL.mk [(1, AV.int IntKind.u32 host), (5, AV.sl (Loc.mk 5 0 0) (List.length rows) Cap.open_), (6, AV.bool (spConn (AV.toStr (List.getD (List.getD lrows (0 + Int.toNat i) []) 0 AV.undef)) host)), (7, AV.slq 3 nL), (9, AV.int IntKind.i64 i), (10, AV.int IntKind.i64 (↑(spRMedN (AV.toStr (List.getD (List.getD lrows (0 + Int.toNat i) []) 0 AV.undef))) : Int)), (13, AV.bool (spRMedK (AV.toStr (List.getD (List.getD lrows (0 + Int.toNat i) []) 0 AV.undef)))), (14, AV.int IntKind.i64 (0 : Int))] [(5, Blk.cells true [Kd.int IntKind.u16] rows)] 6) (Ex.exit 2) (SL.mk [(1, AV.int IntKind.u32 host), (5, AV.sl (Loc.mk 5 0 0) (List.length rows) Cap.open_), (6, AV.bool (spConn (AV.toStr (List.getD (List.getD lrows (0 + Int.toNat i) []) 0 AV.undef)) host)), (7, AV.slq 3 nL), (9, AV.int IntKind.i64 i), (10, AV.int IntKind.i64 (↑(spRMedN (AV.toStr (List.getD (List.getD lrows (0 + Int.toNat i) []) 0 AV.undef))) : Int)), (13, AV.lit false), (14, AV.int IntKind.i64 m)] [(5, Blk.cells true [Kd.int IntKind.u16] rows)] 6))) := by unfold Path; kernel_rfl
theorem b33oB_F (host : Int) (nL : Nat) (i : Int) (lrows : List (List AV)) (fb : Bool) (rows : List (List AV)) (ok : Bool) (m : Int) :
 Path (run Tryz.prog PR 100 (lbody Tryz.prog 33 0) (SL.mp 71 ([.as_ false]) (b33oBI host nL i lrows fb rows))) 5 [5] (x33oB fb rows) (Ex.exit 0)
 (True ∧ ((decide (i < (↑nL : Int))) = false)) := by unfold Path; kernel_rfl
theorem b33oB_TTLT (host : Int) (nL : Nat) (i : Int) (lrows : List (List AV)) (fb : Bool) (rows : List (List AV)) (ok : Bool) (m : Int) :
 Path (run Tryz.prog PR 100 (lbody Tryz.prog 33 0) (SL.mp 71 ([.as_ true, .as_ true, PI.loop (n33oTBI host nL i ((spRMedN (AV.toStr (List.getD (List.getD lrows (0 + Int.toNat i) []) 0 AV.undef)) : Nat) : Int) 0 (spRMedK (AV.toStr (List.getD (List.getD lrows (0 + Int.toNat i) []) 0 AV.undef))) rows) (Ex.exit 2) (n33oTBI host nL i ((spRMedN (AV.toStr (List.getD (List.getD lrows (0 + Int.toNat i) []) 0 AV.undef)) : Nat) : Int) m ok rows), .as_ true]) (b33oBI host nL i lrows fb rows))) 5 [7] ⟨[(1, .int .u32 host), (5, .sl ⟨5, 0, 0⟩ (rows.length + 1) .open_), (6, .lit true), (7, .slq 3 nL), (9, .int .i64 (IntKind.wrap IntKind.i64 (i + (1 : Int))))], [(3, .cells false [.str] lrows), (5, .cells true [.int .u16] (rows ++ [[AV.int IntKind.u16 (IntKind.wrap IntKind.u16 ((spRMedN (AV.toStr (List.getD (List.getD lrows (0 + Int.toNat i) []) 0 AV.undef)) : Nat) : Int))]]))], 6⟩ (Ex.normal)
 (((((((((((True ∧ ((decide (i < (↑nL : Int))) = true)) ∧ ((fb) = true)) ∧ (decide (0 < nL) = true)) ∧ (decide ((0 : Int) ≤ i ∧ i < (↑nL : Int)) = true)) ∧ (decide (0 + Int.toNat i < List.length lrows) = true)) ∧ (decide (List.length (AV.toStr (List.getD (List.getD lrows (0 + Int.toNat i) []) (0) AV.undef)) ≤ 4294967200) = true)) ∧ (LoopOK Tryz.prog (lbody Tryz.prog 33 1) (71) (SL.mk [(1, AV.int IntKind.u32 host), (5, AV.sl (Loc.mk 5 0 0) (List.length rows) Cap.open_), (6, AV.lit true), (7, AV.slq 3 nL), (9, AV.int IntKind.i64 i), (10, AV.int IntKind.i64 (↑(spRMedN (AV.toStr (List.getD (List.getD lrows (0 + Int.toNat i) []) 0 AV.undef))) : Int)), (13, AV.bool (spRMedK (AV.toStr (List.getD (List.getD lrows (0 + Int.toNat i) []) 0 AV.undef)))), (14, AV.int IntKind.i64 (0 : Int))] [(5, Blk.cells true [Kd.int IntKind.u16] rows)] 6) (Ex.exit 2) (SL.mk [(1, AV.int IntKind.u32 host), (5, AV.sl (Loc.mk 5 0 0) (List.length rows) Cap.open_), (6, AV.lit true), (7, AV.slq 3 nL), (9, AV.int IntKind.i64 i), (10, AV.int IntKind.i64 (↑(spRMedN (AV.toStr (List.getD (List.getD lrows (0 + Int.toNat i) []) 0 AV.undef))) : Int)), (13, AV.bool ok), (14, AV.int IntKind.i64 m)] [(5, Blk.cells true [Kd.int IntKind.u16] rows)] 6))) ∧ ((ok) = true)) ∧ (true = true)) ∧ (decide (0 = 0 ∧ List.length rows = List.length rows) = true)) ∧ (decide ((List.length rows + 1) * 2 ≤ 140737488355328) = true)) := by unfold Path; kernel_rfl
theorem b33oB_TTLF (host : Int) (nL : Nat) (i : Int) (lrows : List (List AV)) (fb : Bool) (rows : List (List AV)) (ok : Bool) (m : Int) :
 Path (run Tryz.prog PR 100 (lbody Tryz.prog 33 0) (SL.mp 71 ([.as_ true, .as_ true, PI.loop (n33oTBI host nL i ((spRMedN (AV.toStr (List.getD (List.getD lrows (0 + Int.toNat i) []) 0 AV.undef)) : Nat) : Int) 0 (spRMedK (AV.toStr (List.getD (List.getD lrows (0 + Int.toNat i) []) 0 AV.undef))) rows) (Ex.exit 2) (n33oTBI host nL i ((spRMedN (AV.toStr (List.getD (List.getD lrows (0 + Int.toNat i) []) 0 AV.undef)) : Nat) : Int) m ok rows), .as_ false]) (b33oBI host nL i lrows fb rows))) 5 [5] (b33oTI host nL (IntKind.wrap IntKind.i64 (i + (1 : Int))) lrows rows) (Ex.normal)
 ((((((((True ∧ ((decide (i < (↑nL : Int))) = true)) ∧ ((fb) = true)) ∧ (decide (0 < nL) = true)) ∧ (decide ((0 : Int) ≤ i ∧ i < (↑nL : Int)) = true)) ∧ (decide (0 + Int.toNat i < List.length lrows) = true)) ∧ (decide (List.length (AV.toStr (List.getD (List.getD lrows (0 + Int.toNat i) []) (0) AV.undef)) ≤ 4294967200) = true)) ∧ (LoopOK Tryz.prog (lbody Tryz.prog 33 1) (71) (SL.mk [(1, AV.int IntKind.u32 host), (5, AV.sl (Loc.mk 5 0 0) (List.length rows) Cap.open_), (6, AV.lit true), (7, AV.slq 3 nL), (9, AV.int IntKind.i64 i), (10, AV.int IntKind.i64 (↑(spRMedN (AV.toStr (List.getD (List.getD lrows (0 + Int.toNat i) []) 0 AV.undef))) : Int)), (13, AV.bool (spRMedK (AV.toStr (List.getD (List.getD lrows (0 + Int.toNat i) []) 0 AV.undef)))), (14, AV.int IntKind.i64 (0 : Int))] [(5, Blk.cells true [Kd.int IntKind.u16] rows)] 6) (Ex.exit 2) (SL.mk [(1, AV.int IntKind.u32 host), (5, AV.sl (Loc.mk 5 0 0) (List.length rows) Cap.open_), (6, AV.lit true), (7, AV.slq 3 nL), (9, AV.int IntKind.i64 i), (10, AV.int IntKind.i64 (↑(spRMedN (AV.toStr (List.getD (List.getD lrows (0 + Int.toNat i) []) 0 AV.undef))) : Int)), (13, AV.bool ok), (14, AV.int IntKind.i64 m)] [(5, Blk.cells true [Kd.int IntKind.u16] rows)] 6))) ∧ ((ok) = false)) := by unfold Path; kernel_rfl
theorem b33oB_TTL (host : Int) (nL : Nat) (i : Int) (lrows : List (List AV)) (fb : Bool) (rows : List (List AV)) (ok : Bool) (m : Int) :
 Path (run Tryz.prog PR 100 (lbody Tryz.prog 33 0) (SL.mp 71 ([.as_ true, .as_ true, PI.loop (n33oTBI host nL i ((spRMedN (AV.toStr (List.getD (List.getD lrows (0 + Int.toNat i) []) 0 AV.undef)) : Nat) : Int) 0 (spRMedK (AV.toStr (List.getD (List.getD lrows (0 + Int.toNat i) []) 0 AV.undef))) rows) (Ex.exit 2) (n33oTZI host nL i ((spRMedN (AV.toStr (List.getD (List.getD lrows (0 + Int.toNat i) []) 0 AV.undef)) : Nat) : Int) m rows)]) (b33oBI host nL i lrows fb rows))) 5 [5] (b33oTI host nL (IntKind.wrap IntKind.i64 (i + (1 : Int))) lrows rows) (Ex.normal)
 (((((((True ∧ ((decide (i < (↑nL : Int))) = true)) ∧ ((fb) = true)) ∧ (decide (0 < nL) = true)) ∧ (decide ((0 : Int) ≤ i ∧ i < (↑nL : Int)) = true)) ∧ (decide (0 + Int.toNat i < List.length lrows) = true)) ∧ (decide (List.length (AV.toStr (List.getD (List.getD lrows (0 + Int.toNat i) []) (0) AV.undef)) ≤ 4294967200) = true)) ∧ (LoopOK Tryz.prog (lbody Tryz.prog 33 1) (71) (SL.mk [(1, AV.int IntKind.u32 host), (5, AV.sl (Loc.mk 5 0 0) (List.length rows) Cap.open_), (6, AV.lit true), (7, AV.slq 3 nL), (9, AV.int IntKind.i64 i), (10, AV.int IntKind.i64 (↑(spRMedN (AV.toStr (List.getD (List.getD lrows (0 + Int.toNat i) []) 0 AV.undef))) : Int)), (13, AV.bool (spRMedK (AV.toStr (List.getD (List.getD lrows (0 + Int.toNat i) []) 0 AV.undef)))), (14, AV.int IntKind.i64 (0 : Int))] [(5, Blk.cells true [Kd.int IntKind.u16] rows)] 6) (Ex.exit 2) (SL.mk [(1, AV.int IntKind.u32 host), (5, AV.sl (Loc.mk 5 0 0) (List.length rows) Cap.open_), (6, AV.lit true), (7, AV.slq 3 nL), (9, AV.int IntKind.i64 i), (10, AV.int IntKind.i64 (↑(spRMedN (AV.toStr (List.getD (List.getD lrows (0 + Int.toNat i) []) 0 AV.undef))) : Int)), (13, AV.lit false), (14, AV.int IntKind.i64 m)] [(5, Blk.cells true [Kd.int IntKind.u16] rows)] 6))) := by unfold Path; kernel_rfl
theorem b33oB_TFLT (host : Int) (nL : Nat) (i : Int) (lrows : List (List AV)) (fb : Bool) (rows : List (List AV)) (ok : Bool) (m : Int) :
 Path (run Tryz.prog PR 100 (lbody Tryz.prog 33 0) (SL.mp 71 ([.as_ true, .as_ false, PI.loop (n33oBBI host nL i ((spRMedN (AV.toStr (List.getD (List.getD lrows (0 + Int.toNat i) []) 0 AV.undef)) : Nat) : Int) 0 (spConn (AV.toStr (List.getD (List.getD lrows (0 + Int.toNat i) []) 0 AV.undef)) host) (spRMedK (AV.toStr (List.getD (List.getD lrows (0 + Int.toNat i) []) 0 AV.undef))) rows) (Ex.exit 2) (n33oBBI host nL i ((spRMedN (AV.toStr (List.getD (List.getD lrows (0 + Int.toNat i) []) 0 AV.undef)) : Nat) : Int) m (spConn (AV.toStr (List.getD (List.getD lrows (0 + Int.toNat i) []) 0 AV.undef)) host) ok rows), .as_ true]) (b33oBI host nL i lrows fb rows))) 5 [7] ⟨[(1, .int .u32 host), (5, .sl ⟨5, 0, 0⟩ (rows.length + 1) .open_), (6, .bool (spConn (AV.toStr (List.getD (List.getD lrows (0 + Int.toNat i) []) 0 AV.undef)) host)), (7, .slq 3 nL), (9, .int .i64 (IntKind.wrap IntKind.i64 (i + (1 : Int))))], [(3, .cells false [.str] lrows), (5, .cells true [.int .u16] (rows ++ [[AV.int IntKind.u16 (IntKind.wrap IntKind.u16 ((spRMedN (AV.toStr (List.getD (List.getD lrows (0 + Int.toNat i) []) 0 AV.undef)) : Nat) : Int))]]))], 6⟩ (Ex.normal)
 (((((((((((((((True ∧ ((decide (i < (↑nL : Int))) = true)) ∧ ((fb) = false)) ∧ (decide (0 < nL) = true)) ∧ (decide ((0 : Int) ≤ i ∧ i < (↑nL : Int)) = true)) ∧ (decide (0 + Int.toNat i < List.length lrows) = true)) ∧ (decide ((0 : Int) ≤ host ∧ host < (4294967296 : Int)) = true)) ∧ (decide (0 < nL) = true)) ∧ (decide ((0 : Int) ≤ i ∧ i < (↑nL : Int)) = true)) ∧ (decide (0 + Int.toNat i < List.length lrows) = true)) ∧ (decide (List.length (AV.toStr (List.getD (List.getD lrows (0 + Int.toNat i) []) (0) AV.undef)) ≤ 4294967200) = true)) ∧ (LoopOK Tryz.prog (lbody Tryz.prog 33 1) (71) (SL.mk [(1, AV.int IntKind.u32 host), (5, AV.sl (Loc.mk 5 0 0) (List.length rows) Cap.open_), (6, AV.bool (spConn (AV.toStr (List.getD (List.getD lrows (0 + Int.toNat i) []) 0 AV.undef)) host)), (7, AV.slq 3 nL), (9, AV.int IntKind.i64 i), (10, AV.int IntKind.i64 (↑(spRMedN (AV.toStr (List.getD (List.getD lrows (0 + Int.toNat i) []) 0 AV.undef))) : Int)), (13, AV.bool (spRMedK (AV.toStr (List.getD (List.getD lrows (0 + Int.toNat i) []) 0 AV.undef)))), (14, AV.int IntKind.i64 (0 : Int))] [(5, Blk.cells true [Kd.int IntKind.u16] rows)] 6) (Ex.exit 2) (SL.mk [(1, AV.int IntKind.u32 host), (5, AV.sl (Loc.mk 5 0 0) (List.length rows) Cap.open_), (6, AV.bool (spConn (AV.toStr (List.getD (List.getD lrows (0 + Int.toNat i) []) 0 AV.undef)) host)), (7, AV.slq 3 nL), (9, AV.int IntKind.i64 i), (10, AV.int IntKind.i64 (↑(spRMedN (AV.toStr (List.getD (List.getD lrows (0 + Int.toNat i) []) 0 AV.undef))) : Int)), (13, AV.bool ok), (14, AV.int IntKind.i64 m)] [(5, Blk.cells true [Kd.int IntKind.u16] rows)] 6))) ∧ ((ok) = true)) ∧ (true = true)) ∧ (decide (0 = 0 ∧ List.length rows = List.length rows) = true)) ∧ (decide ((List.length rows + 1) * 2 ≤ 140737488355328) = true)) := by unfold Path; kernel_rfl
theorem b33oB_TFLF (host : Int) (nL : Nat) (i : Int) (lrows : List (List AV)) (fb : Bool) (rows : List (List AV)) (ok : Bool) (m : Int) :
 Path (run Tryz.prog PR 100 (lbody Tryz.prog 33 0) (SL.mp 71 ([.as_ true, .as_ false, PI.loop (n33oBBI host nL i ((spRMedN (AV.toStr (List.getD (List.getD lrows (0 + Int.toNat i) []) 0 AV.undef)) : Nat) : Int) 0 (spConn (AV.toStr (List.getD (List.getD lrows (0 + Int.toNat i) []) 0 AV.undef)) host) (spRMedK (AV.toStr (List.getD (List.getD lrows (0 + Int.toNat i) []) 0 AV.undef))) rows) (Ex.exit 2) (n33oBBI host nL i ((spRMedN (AV.toStr (List.getD (List.getD lrows (0 + Int.toNat i) []) 0 AV.undef)) : Nat) : Int) m (spConn (AV.toStr (List.getD (List.getD lrows (0 + Int.toNat i) []) 0 AV.undef)) host) ok rows), .as_ false]) (b33oBI host nL i lrows fb rows))) 5 [5] (b33oBI host nL (IntKind.wrap IntKind.i64 (i + (1 : Int))) lrows (spConn (AV.toStr (List.getD (List.getD lrows (0 + Int.toNat i) []) 0 AV.undef)) host) rows) (Ex.normal)
 ((((((((((((True ∧ ((decide (i < (↑nL : Int))) = true)) ∧ ((fb) = false)) ∧ (decide (0 < nL) = true)) ∧ (decide ((0 : Int) ≤ i ∧ i < (↑nL : Int)) = true)) ∧ (decide (0 + Int.toNat i < List.length lrows) = true)) ∧ (decide ((0 : Int) ≤ host ∧ host < (4294967296 : Int)) = true)) ∧ (decide (0 < nL) = true)) ∧ (decide ((0 : Int) ≤ i ∧ i < (↑nL : Int)) = true)) ∧ (decide (0 + Int.toNat i < List.length lrows) = true)) ∧ (decide (List.length (AV.toStr (List.getD (List.getD lrows (0 + Int.toNat i) []) (0) AV.undef)) ≤ 4294967200) = true)) ∧ (LoopOK Tryz.prog (lbody Tryz.prog 33 1) (71) (SL.mk [(1, AV.int IntKind.u32 host), (5, AV.sl (Loc.mk 5 0 0) (List.length rows) Cap.open_), (6, AV.bool (spConn (AV.toStr (List.getD (List.getD lrows (0 + Int.toNat i) []) 0 AV.undef)) host)), (7, AV.slq 3 nL), (9, AV.int IntKind.i64 i), (10, AV.int IntKind.i64 (↑(spRMedN (AV.toStr (List.getD (List.getD lrows (0 + Int.toNat i) []) 0 AV.undef))) : Int)), (13, AV.bool (spRMedK (AV.toStr (List.getD (List.getD lrows (0 + Int.toNat i) []) 0 AV.undef)))), (14, AV.int IntKind.i64 (0 : Int))] [(5, Blk.cells true [Kd.int IntKind.u16] rows)] 6) (Ex.exit 2) (SL.mk [(1, AV.int IntKind.u32 host), (5, AV.sl (Loc.mk 5 0 0) (List.length rows) Cap.open_), (6, AV.bool (spConn (AV.toStr (List.getD (List.getD lrows (0 + Int.toNat i) []) 0 AV.undef)) host)), (7, AV.slq 3 nL), (9, AV.int IntKind.i64 i), (10, AV.int IntKind.i64 (↑(spRMedN (AV.toStr (List.getD (List.getD lrows (0 + Int.toNat i) []) 0 AV.undef))) : Int)), (13, AV.bool ok), (14, AV.int IntKind.i64 m)] [(5, Blk.cells true [Kd.int IntKind.u16] rows)] 6))) ∧ ((ok) = false)) := by unfold Path; kernel_rfl
theorem b33oB_TFL (host : Int) (nL : Nat) (i : Int) (lrows : List (List AV)) (fb : Bool) (rows : List (List AV)) (ok : Bool) (m : Int) :
 Path (run Tryz.prog PR 100 (lbody Tryz.prog 33 0) (SL.mp 71 ([.as_ true, .as_ false, PI.loop (n33oBBI host nL i ((spRMedN (AV.toStr (List.getD (List.getD lrows (0 + Int.toNat i) []) 0 AV.undef)) : Nat) : Int) 0 (spConn (AV.toStr (List.getD (List.getD lrows (0 + Int.toNat i) []) 0 AV.undef)) host) (spRMedK (AV.toStr (List.getD (List.getD lrows (0 + Int.toNat i) []) 0 AV.undef))) rows) (Ex.exit 2) (n33oBZI host nL i ((spRMedN (AV.toStr (List.getD (List.getD lrows (0 + Int.toNat i) []) 0 AV.undef)) : Nat) : Int) m (spConn (AV.toStr (List.getD (List.getD lrows (0 + Int.toNat i) []) 0 AV.undef)) host) rows)]) (b33oBI host nL i lrows fb rows))) 5 [5] (b33oBI host nL (IntKind.wrap IntKind.i64 (i + (1 : Int))) lrows (spConn (AV.toStr (List.getD (List.getD lrows (0 + Int.toNat i) []) 0 AV.undef)) host) rows) (Ex.normal)
 (((((((((((True ∧ ((decide (i < (↑nL : Int))) = true)) ∧ ((fb) = false)) ∧ (decide (0 < nL) = true)) ∧ (decide ((0 : Int) ≤ i ∧ i < (↑nL : Int)) = true)) ∧ (decide (0 + Int.toNat i < List.length lrows) = true)) ∧ (decide ((0 : Int) ≤ host ∧ host < (4294967296 : Int)) = true)) ∧ (decide (0 < nL) = true)) ∧ (decide ((0 : Int) ≤ i ∧ i < (↑nL : Int)) = true)) ∧ (decide (0 + Int.toNat i < List.length lrows) = true)) ∧ (decide (List.length (AV.toStr (List.getD (List.getD lrows (0 + Int.toNat i) []) (0) AV.undef)) ≤ 4294967200) = true)) ∧ (LoopOK Tryz.prog (lbody Tryz.prog 33 1) (71) (SL.mk [(1, AV.int IntKind.u32 host), (5, AV.sl (Loc.mk 5 0 0) (List.length rows) Cap.open_), (6, AV.bool (spConn (AV.toStr (List.getD (List.getD lrows (0 + Int.toNat i) []) 0 AV.undef)) host)), (7, AV.slq 3 nL), (9, AV.int IntKind.i64 i), (10, AV.int IntKind.i64 (↑(spRMedN (AV.toStr (List.getD (List.getD lrows (0 + Int.toNat i) []) 0 AV.undef))) : Int)), (13, AV.bool (spRMedK (AV.toStr (List.getD (List.getD lrows (0 + Int.toNat i) []) 0 AV.undef)))), (14, AV.int IntKind.i64 (0 : Int))] [(5, Blk.cells true [Kd.int IntKind.u16] rows)] 6) (Ex.exit 2) (SL.mk [(1, AV.int IntKind.u32 host), (5, AV.sl (Loc.mk 5 0 0) (List.length rows) Cap.open_), (6, AV.bool (spConn (AV.toStr (List.getD (List.getD lrows (0 + Int.toNat i) []) 0 AV.undef)) host)), (7, AV.slq 3 nL), (9, AV.int IntKind.i64 i), (10, AV.int IntKind.i64 (↑(spRMedN (AV.toStr (List.getD (List.getD lrows (0 + Int.toNat i) []) 0 AV.undef))) : Int)), (13, AV.lit false), (14, AV.int IntKind.i64 m)] [(5, Blk.cells true [Kd.int IntKind.u16] rows)] 6))) := by unfold Path; kernel_rfl
theorem b33oT_F (host : Int) (nL : Nat) (i : Int) (lrows : List (List AV)) (rows : List (List AV)) (ok : Bool) (m : Int) :
 Path (run Tryz.prog PR 100 (lbody Tryz.prog 33 0) (SL.mp 71 ([.as_ false]) (b33oTI host nL i lrows rows))) 5 [5] (x33oT rows) (Ex.exit 0)
 (True ∧ ((decide (i < (↑nL : Int))) = false)) := by unfold Path; kernel_rfl
theorem b33oT_TLT (host : Int) (nL : Nat) (i : Int) (lrows : List (List AV)) (rows : List (List AV)) (ok : Bool) (m : Int) :
 Path (run Tryz.prog PR 100 (lbody Tryz.prog 33 0) (SL.mp 71 ([.as_ true, PI.loop (n33oTBI host nL i ((spRMedN (AV.toStr (List.getD (List.getD lrows (0 + Int.toNat i) []) 0 AV.undef)) : Nat) : Int) 0 (spRMedK (AV.toStr (List.getD (List.getD lrows (0 + Int.toNat i) []) 0 AV.undef))) rows) (Ex.exit 2) (n33oTBI host nL i ((spRMedN (AV.toStr (List.getD (List.getD lrows (0 + Int.toNat i) []) 0 AV.undef)) : Nat) : Int) m ok rows), .as_ true]) (b33oTI host nL i lrows rows))) 5 [7] ⟨[(1, .int .u32 host), (5, .sl ⟨5, 0, 0⟩ (rows.length + 1) .open_), (6, .lit true), (7, .slq 3 nL), (9, .int .i64 (IntKind.wrap IntKind.i64 (i + (1 : Int))))], [(3, .cells false [.str] lrows), (5, .cells true [.int .u16] (rows ++ [[AV.int IntKind.u16 (IntKind.wrap IntKind.u16 ((spRMedN (AV.toStr (List.getD (List.getD lrows (0 + Int.toNat i) []) 0 AV.undef)) : Nat) : Int))]]))], 6⟩ (Ex.normal)
 ((((((((((True ∧ ((decide (i < (↑nL : Int))) = true)) ∧ (decide (0 < nL) = true)) ∧ (decide ((0 : Int) ≤ i ∧ i < (↑nL : Int)) = true)) ∧ (decide (0 + Int.toNat i < List.length lrows) = true)) ∧ (decide (List.length (AV.toStr (List.getD (List.getD lrows (0 + Int.toNat i) []) (0) AV.undef)) ≤ 4294967200) = true)) ∧ (LoopOK Tryz.prog (lbody Tryz.prog 33 1) (71) (SL.mk [(1, AV.int IntKind.u32 host), (5, AV.sl (Loc.mk 5 0 0) (List.length rows) Cap.open_), (6, AV.lit true), (7, AV.slq 3 nL), (9, AV.int IntKind.i64 i), (10, AV.int IntKind.i64 (↑(spRMedN (AV.toStr (List.getD (List.getD lrows (0 + Int.toNat i) []) 0 AV.undef))) : Int)), (13, AV.bool (spRMedK (AV.toStr (List.getD (List.getD lrows (0 + Int.toNat i) []) 0 AV.undef)))), (14, AV.int IntKind.i64 (0 : Int))] [(5, Blk.cells true [Kd.int IntKind.u16] rows)] 6) (Ex.exit 2) (SL.mk [(1, AV.int IntKind.u32 host), (5, AV.sl (Loc.mk 5 0 0) (List.length rows) Cap.open_), (6, AV.lit true), (7, AV.slq 3 nL), (9, AV.int IntKind.i64 i), (10, AV.int IntKind.i64 (↑(spRMedN (AV.toStr (List.getD (List.getD lrows (0 + Int.toNat i) []) 0 AV.undef))) : Int)), (13, AV.bool ok), (14, AV.int IntKind.i64 m)] [(5, Blk.cells true [Kd.int IntKind.u16] rows)] 6))) ∧ ((ok) = true)) ∧ (true = true)) ∧ (decide (0 = 0 ∧ List.length rows = List.length rows) = true)) ∧ (decide ((List.length rows + 1) * 2 ≤ 140737488355328) = true)) := by unfold Path; kernel_rfl
theorem b33oT_TLF (host : Int) (nL : Nat) (i : Int) (lrows : List (List AV)) (rows : List (List AV)) (ok : Bool) (m : Int) :
 Path (run Tryz.prog PR 100 (lbody Tryz.prog 33 0) (SL.mp 71 ([.as_ true, PI.loop (n33oTBI host nL i ((spRMedN (AV.toStr (List.getD (List.getD lrows (0 + Int.toNat i) []) 0 AV.undef)) : Nat) : Int) 0 (spRMedK (AV.toStr (List.getD (List.getD lrows (0 + Int.toNat i) []) 0 AV.undef))) rows) (Ex.exit 2) (n33oTBI host nL i ((spRMedN (AV.toStr (List.getD (List.getD lrows (0 + Int.toNat i) []) 0 AV.undef)) : Nat) : Int) m ok rows), .as_ false]) (b33oTI host nL i lrows rows))) 5 [5] (b33oTI host nL (IntKind.wrap IntKind.i64 (i + (1 : Int))) lrows rows) (Ex.normal)
 (((((((True ∧ ((decide (i < (↑nL : Int))) = true)) ∧ (decide (0 < nL) = true)) ∧ (decide ((0 : Int) ≤ i ∧ i < (↑nL : Int)) = true)) ∧ (decide (0 + Int.toNat i < List.length lrows) = true)) ∧ (decide (List.length (AV.toStr (List.getD (List.getD lrows (0 + Int.toNat i) []) (0) AV.undef)) ≤ 4294967200) = true)) ∧ (LoopOK Tryz.prog (lbody Tryz.prog 33 1) (71) (SL.mk [(1, AV.int IntKind.u32 host), (5, AV.sl (Loc.mk 5 0 0) (List.length rows) Cap.open_), (6, AV.lit true), (7, AV.slq 3 nL), (9, AV.int IntKind.i64 i), (10, AV.int IntKind.i64 (↑(spRMedN (AV.toStr (List.getD (List.getD lrows (0 + Int.toNat i) []) 0 AV.undef))) : Int)), (13, AV.bool (spRMedK (AV.toStr (List.getD (List.getD lrows (0 + Int.toNat i) []) 0 AV.undef)))), (14, AV.int IntKind.i64 (0 : Int))] [(5, Blk.cells true [Kd.int IntKind.u16] rows)] 6) (Ex.exit 2) (SL.mk [(1, AV.int IntKind.u32 host), (5, AV.sl (Loc.mk 5 0 0) (List.length rows) Cap.open_), (6, AV.lit true), (7, AV.slq 3 nL), (9, AV.int IntKind.i64 i), (10, AV.int IntKind.i64 (↑(spRMedN (AV.toStr (List.getD (List.getD lrows (0 + Int.toNat i) []) 0 AV.undef))) : Int)), (13, AV.bool ok), (14, AV.int IntKind.i64 m)] [(5, Blk.cells true [Kd.int IntKind.u16] rows)] 6))) ∧ ((ok) = false)) := by unfold Path; kernel_rfl
theorem b33oT_TL (host : Int) (nL : Nat) (i : Int) (lrows : List (List AV)) (rows : List (List AV)) (ok : Bool) (m : Int) :
 Path (run Tryz.prog PR 100 (lbody Tryz.prog 33 0) (SL.mp 71 ([.as_ true, PI.loop (n33oTBI host nL i ((spRMedN (AV.toStr (List.getD (List.getD lrows (0 + Int.toNat i) []) 0 AV.undef)) : Nat) : Int) 0 (spRMedK (AV.toStr (List.getD (List.getD lrows (0 + Int.toNat i) []) 0 AV.undef))) rows) (Ex.exit 2) (n33oTZI host nL i ((spRMedN (AV.toStr (List.getD (List.getD lrows (0 + Int.toNat i) []) 0 AV.undef)) : Nat) : Int) m rows)]) (b33oTI host nL i lrows rows))) 5 [5] (b33oTI host nL (IntKind.wrap IntKind.i64 (i + (1 : Int))) lrows rows) (Ex.normal)
 ((((((True ∧ ((decide (i < (↑nL : Int))) = true)) ∧ (decide (0 < nL) = true)) ∧ (decide ((0 : Int) ≤ i ∧ i < (↑nL : Int)) = true)) ∧ (decide (0 + Int.toNat i < List.length lrows) = true)) ∧ (decide (List.length (AV.toStr (List.getD (List.getD lrows (0 + Int.toNat i) []) (0) AV.undef)) ≤ 4294967200) = true)) ∧ (LoopOK Tryz.prog (lbody Tryz.prog 33 1) (71) (SL.mk [(1, AV.int IntKind.u32 host), (5, AV.sl (Loc.mk 5 0 0) (List.length rows) Cap.open_), (6, AV.lit true), (7, AV.slq 3 nL), (9, AV.int IntKind.i64 i), (10, AV.int IntKind.i64 (↑(spRMedN (AV.toStr (List.getD (List.getD lrows (0 + Int.toNat i) []) 0 AV.undef))) : Int)), (13, AV.bool (spRMedK (AV.toStr (List.getD (List.getD lrows (0 + Int.toNat i) []) 0 AV.undef)))), (14, AV.int IntKind.i64 (0 : Int))] [(5, Blk.cells true [Kd.int IntKind.u16] rows)] 6) (Ex.exit 2) (SL.mk [(1, AV.int IntKind.u32 host), (5, AV.sl (Loc.mk 5 0 0) (List.length rows) Cap.open_), (6, AV.lit true), (7, AV.slq 3 nL), (9, AV.int IntKind.i64 i), (10, AV.int IntKind.i64 (↑(spRMedN (AV.toStr (List.getD (List.getD lrows (0 + Int.toNat i) []) 0 AV.undef))) : Int)), (13, AV.lit false), (14, AV.int IntKind.i64 m)] [(5, Blk.cells true [Kd.int IntKind.u16] rows)] 6))) := by unfold Path; kernel_rfl
theorem c33kzB_LT (start : List UInt8) (hrows : List (List AV)) (brows : List (List AV)) (c : Nat) (host : Int) (fb : Bool) :
 Path (runCallB Tryz.prog PR 100 33 [AV.agg [AV.str start, AV.slq 0 (List.length hrows), AV.sl (Loc.mk 1 0 0) (List.length brows) (Cap.known c)], AV.int IntKind.u32 host] (st0 [Blk.cells false [Kd.str, Kd.str] hrows, Blk.cells false [Kd.int IntKind.u8] brows] ([PI.loop (b33zLI host (List.length (spLineRows (List.map rowByte (sub brows 0 (List.length brows))))) (0 : Int) (spLineRows (List.map rowByte (sub brows 0 (List.length brows))))) (Ex.exit 0) (x33zB fb), .as_ true]))) 2 [] (SL.mk [] [] 2) (Out.ret AV.nilSl)
 ((((True ∧ (true = true)) ∧ ((decide (0 + List.length brows ≤ List.length brows) && (List.all (sub brows 0 (List.length brows)) spByteOk && decide (List.length brows ≤ c ∧ List.length (sub brows 0 (List.length brows)) ≤ 1048576))) = true)) ∧ (LoopOK Tryz.prog (lbody Tryz.prog 33 0) (71) (SL.mk [(1, AV.int IntKind.u32 host), (5, AV.nilSl), (6, AV.lit false), (7, AV.slq 3 (List.length (spLineRows (List.map rowByte (sub brows 0 (List.length brows)))))), (9, AV.int IntKind.i64 (0 : Int))] [(3, Blk.cells false [Kd.str] (spLineRows (List.map rowByte (sub brows 0 (List.length brows)))))] 5) (Ex.exit 0) (SL.mk [(5, AV.nilSl), (6, AV.bool fb)] [] 5))) ∧ ((!fb) = true)) := by unfold Path; kernel_rfl
theorem c33kzB_LF (start : List UInt8) (hrows : List (List AV)) (brows : List (List AV)) (c : Nat) (host : Int) (fb : Bool) :
 Path (runCallB Tryz.prog PR 100 33 [AV.agg [AV.str start, AV.slq 0 (List.length hrows), AV.sl (Loc.mk 1 0 0) (List.length brows) (Cap.known c)], AV.int IntKind.u32 host] (st0 [Blk.cells false [Kd.str, Kd.str] hrows, Blk.cells false [Kd.int IntKind.u8] brows] ([PI.loop (b33zLI host (List.length (spLineRows (List.map rowByte (sub brows 0 (List.length brows))))) (0 : Int) (spLineRows (List.map rowByte (sub brows 0 (List.length brows))))) (Ex.exit 0) (x33zB fb), .as_ false]))) 2 [] (SL.mk [] [] 2) (Out.ret AV.nilSl)
 ((((True ∧ (true = true)) ∧ ((decide (0 + List.length brows ≤ List.length brows) && (List.all (sub brows 0 (List.length brows)) spByteOk && decide (List.length brows ≤ c ∧ List.length (sub brows 0 (List.length brows)) ≤ 1048576))) = true)) ∧ (LoopOK Tryz.prog (lbody Tryz.prog 33 0) (71) (SL.mk [(1, AV.int IntKind.u32 host), (5, AV.nilSl), (6, AV.lit false), (7, AV.slq 3 (List.length (spLineRows (List.map rowByte (sub brows 0 (List.length brows)))))), (9, AV.int IntKind.i64 (0 : Int))] [(3, Blk.cells false [Kd.str] (spLineRows (List.map rowByte (sub brows 0 (List.length brows)))))] 5) (Ex.exit 0) (SL.mk [(5, AV.nilSl), (6, AV.bool fb)] [] 5))) ∧ ((!fb) = false)) := by unfold Path; kernel_rfl
theorem c33kzT_L (start : List UInt8) (hrows : List (List AV)) (brows : List (List AV)) (c : Nat) (host : Int) :
 Path (runCallB Tryz.prog PR 100 33 [AV.agg [AV.str start, AV.slq 0 (List.length hrows), AV.sl (Loc.mk 1 0 0) (List.length brows) (Cap.known c)], AV.int IntKind.u32 host] (st0 [Blk.cells false [Kd.str, Kd.str] hrows, Blk.cells false [Kd.int IntKind.u8] brows] ([PI.loop (b33zLI host (List.length (spLineRows (List.map rowByte (sub brows 0 (List.length brows))))) (0 : Int) (spLineRows (List.map rowByte (sub brows 0 (List.length brows))))) (Ex.exit 0) x33zT]))) 2 [] (SL.mk [] [] 2) (Out.ret AV.nilSl)
 (((True ∧ (true = true)) ∧ ((decide (0 + List.length brows ≤ List.length brows) && (List.all (sub brows 0 (List.length brows)) spByteOk && decide (List.length brows ≤ c ∧ List.length (sub brows 0 (List.length brows)) ≤ 1048576))) = true)) ∧ (LoopOK Tryz.prog (lbody Tryz.prog 33 0) (71) (SL.mk [(1, AV.int IntKind.u32 host), (5, AV.nilSl), (6, AV.lit false), (7, AV.slq 3 (List.length (spLineRows (List.map rowByte (sub brows 0 (List.length brows)))))), (9, AV.int IntKind.i64 (0 : Int))] [(3, Blk.cells false [Kd.str] (spLineRows (List.map rowByte (sub brows 0 (List.length brows)))))] 5) (Ex.exit 0) x33zT)) := by unfold Path; kernel_rfl
theorem c33koB_LT (start : List UInt8) (hrows : List (List AV)) (brows : List (List AV)) (c : Nat) (host : Int) (fb : Bool) (rows : List (List AV)) :
 Path (runCallB Tryz.prog PR 100 33 [AV.agg [AV.str start, AV.slq 0 (List.length hrows), AV.sl (Loc.mk 1 0 0) (List.length brows) (Cap.known c)], AV.int IntKind.u32 host] (st0 [Blk.cells false [Kd.str, Kd.str] hrows, Blk.cells false [Kd.int IntKind.u8] brows] ([PI.loop (b33zLI host (List.length (spLineRows (List.map rowByte (sub brows 0 (List.length brows))))) (0 : Int) (spLineRows (List.map rowByte (sub brows 0 (List.length brows))))) (Ex.exit 0) (x33oB fb rows), .as_ true]))) 2 [] (SL.mk [] [] 2) (Out.ret AV.nilSl)
 ((((True ∧ (true = true)) ∧ ((decide (0 + List.length brows ≤ List.length brows) && (List.all (sub brows 0 (List.length brows)) spByteOk && decide (List.length brows ≤ c ∧ List.length (sub brows 0 (List.length brows)) ≤ 1048576))) = true)) ∧ (LoopOK Tryz.prog (lbody Tryz.prog 33 0) (71) (SL.mk [(1, AV.int IntKind.u32 host), (5, AV.nilSl), (6, AV.lit false), (7, AV.slq 3 (List.length (spLineRows (List.map rowByte (sub brows 0 (List.length brows)))))), (9, AV.int IntKind.i64 (0 : Int))] [(3, Blk.cells false [Kd.str] (spLineRows (List.map rowByte (sub brows 0 (List.length brows)))))] 5) (Ex.exit 0) (SL.mk [(5, AV.sl (Loc.mk 5 0 0) (List.length rows) Cap.open_), (6, AV.bool fb)] [(5, Blk.cells true [Kd.int IntKind.u16] rows)] 6))) ∧ ((!fb) = true)) := by unfold Path; kernel_rfl
theorem c33koB_LF (start : List UInt8) (hrows : List (List AV)) (brows : List (List AV)) (c : Nat) (host : Int) (fb : Bool) (rows : List (List AV)) :
 Path (runCallB Tryz.prog PR 100 33 [AV.agg [AV.str start, AV.slq 0 (List.length hrows), AV.sl (Loc.mk 1 0 0) (List.length brows) (Cap.known c)], AV.int IntKind.u32 host] (st0 [Blk.cells false [Kd.str, Kd.str] hrows, Blk.cells false [Kd.int IntKind.u8] brows] ([PI.loop (b33zLI host (List.length (spLineRows (List.map rowByte (sub brows 0 (List.length brows))))) (0 : Int) (spLineRows (List.map rowByte (sub brows 0 (List.length brows))))) (Ex.exit 0) (x33oB fb rows), .as_ false]))) 2 [5] (SL.mk [] [(2, .cells true [Kd.int IntKind.u16] rows)] 3) (Out.ret (ren (sig 2 [5]) (AV.sl (Loc.mk 2 0 0) (List.length rows) Cap.open_)))
 ((((True ∧ (true = true)) ∧ ((decide (0 + List.length brows ≤ List.length brows) && (List.all (sub brows 0 (List.length brows)) spByteOk && decide (List.length brows ≤ c ∧ List.length (sub brows 0 (List.length brows)) ≤ 1048576))) = true)) ∧ (LoopOK Tryz.prog (lbody Tryz.prog 33 0) (71) (SL.mk [(1, AV.int IntKind.u32 host), (5, AV.nilSl), (6, AV.lit false), (7, AV.slq 3 (List.length (spLineRows (List.map rowByte (sub brows 0 (List.length brows)))))), (9, AV.int IntKind.i64 (0 : Int))] [(3, Blk.cells false [Kd.str] (spLineRows (List.map rowByte (sub brows 0 (List.length brows)))))] 5) (Ex.exit 0) (SL.mk [(5, AV.sl (Loc.mk 5 0 0) (List.length rows) Cap.open_), (6, AV.bool fb)] [(5, Blk.cells true [Kd.int IntKind.u16] rows)] 6))) ∧ ((!fb) = false)) := by unfold Path; kernel_rfl
theorem c33koT_L (start : List UInt8) (hrows : List (List AV)) (brows : List (List AV)) (c : Nat) (host : Int) (rows : List (List AV)) :
 Path (runCallB Tryz.prog PR 100 33 [AV.agg [AV.str start, AV.slq 0 (List.length hrows), AV.sl (Loc.mk 1 0 0) (List.length brows) (Cap.known c)], AV.int IntKind.u32 host] (st0 [Blk.cells false [Kd.str, Kd.str] hrows, Blk.cells false [Kd.int IntKind.u8] brows] ([PI.loop (b33zLI host (List.length (spLineRows (List.map rowByte (sub brows 0 (List.length brows))))) (0 : Int) (spLineRows (List.map rowByte (sub brows 0 (List.length brows))))) (Ex.exit 0) (x33oT rows)]))) 2 [5] (SL.mk [] [(2, .cells true [Kd.int IntKind.u16] rows)] 3) (Out.ret (ren (sig 2 [5]) (AV.sl (Loc.mk 2 0 0) (List.length rows) Cap.open_)))
 (((True ∧ (true = true)) ∧ ((decide (0 + List.length brows ≤ List.length brows) && (List.all (sub brows 0 (List.length brows)) spByteOk && decide (List.length brows ≤ c ∧ List.length (sub brows 0 (List.length brows)) ≤ 1048576))) = true)) ∧ (LoopOK Tryz.prog (lbody Tryz.prog 33 0) (71) (SL.mk [(1, AV.int IntKind.u32 host), (5, AV.nilSl), (6, AV.lit false), (7, AV.slq 3 (List.length (spLineRows (List.map rowByte (sub brows 0 (List.length brows)))))), (9, AV.int IntKind.i64 (0 : Int))] [(3, Blk.cells false [Kd.str] (spLineRows (List.map rowByte (sub brows 0 (List.length brows)))))] 5) (Ex.exit 0) (SL.mk [(5, AV.sl (Loc.mk 5 0 0) (List.length rows) Cap.open_), (6, AV.lit true)] [(5, Blk.cells true [Kd.int IntKind.u16] rows)] 6))) := by unfold Path; kernel_rfl
theorem c33qzB_LT (start : List UInt8) (hrows : List (List AV)) (brows : List (List AV)) (host : Int) (fb : Bool) :
 Path (runCallB Tryz.prog PR 100 33 [AV.agg [AV.str start, AV.slq 0 (List.length hrows), AV.slq 1 (List.length brows)], AV.int IntKind.u32 host] (st0 [Blk.cells false [Kd.str, Kd.str] hrows, Blk.cells false [Kd.int IntKind.u8] brows] ([PI.loop (b33zLI host (List.length (spLineRows (List.map rowByte (sub brows 0 (List.length brows))))) (0 : Int) (spLineRows (List.map rowByte (sub brows 0 (List.length brows))))) (Ex.exit 0) (x33zB fb), .as_ true]))) 2 [] (SL.mk [] [] 2) (Out.ret AV.nilSl)
 ((((True ∧ (true = true)) ∧ ((decide (0 + List.length brows ≤ List.length brows) && (List.all (sub brows 0 (List.length brows)) spByteOk && decide (List.length brows = 0 ∧ List.length (sub brows 0 (List.length brows)) ≤ 1048576))) = true)) ∧ (LoopOK Tryz.prog (lbody Tryz.prog 33 0) (71) (SL.mk [(1, AV.int IntKind.u32 host), (5, AV.nilSl), (6, AV.lit false), (7, AV.slq 3 (List.length (spLineRows (List.map rowByte (sub brows 0 (List.length brows)))))), (9, AV.int IntKind.i64 (0 : Int))] [(3, Blk.cells false [Kd.str] (spLineRows (List.map rowByte (sub brows 0 (List.length brows)))))] 5) (Ex.exit 0) (SL.mk [(5, AV.nilSl), (6, AV.bool fb)] [] 5))) ∧ ((!fb) = true)) := by unfold Path; kernel_rfl
inductive Fk where
  | l
  | t
  | b (x : Bool)
def Fk.on : Fk → Bool
  | .l => false
  | .t => true
  | .b x => x
def Fk.step : Fk → Bool → Fk
  | .l, c => .b c
  | .t, _ => .t
  | .b true, _ => .t
  | .b false, c => .b c
theorem Fk.on_step (f : Fk) (c : Bool) : (f.step c).on = (f.on || c) := by
  cases f with
  | l => rfl
  | t => rfl
  | b x => cases x <;> rfl
theorem Fk.step_ne (f : Fk) (c : Bool) : f.step c ≠ .l := by
  cases f with
  | l => intro h; cases h
  | t => intro h; cases h
  | b x => cases x <;> intro h <;> cases h
def fkOf (host : Int) (ls : List (List UInt8)) : Fk := ls.foldl (fun f l => f.step (spConn l host)) .l
theorem fk_any (host : Int) (ls : List (List UInt8)) : (fkOf host ls).on = ls.any (fun l => spConn l host) := by
  have key : ∀ (ls : List (List UInt8)) (f : Fk), (ls.foldl (fun f l => f.step (spConn l host)) f).on = (f.on || ls.any (fun l => spConn l host)) := by
    intro ls
    induction ls with
    | nil => intro f; simp
    | cons l t ih => intro f; rw [List.foldl_cons, ih, Fk.on_step, List.any_cons, Bool.or_assoc]
  exact (key ls .l).trans (by rfl)
theorem fk_snoc (host : Int) (ls : List (List UInt8)) (l : List UInt8) : fkOf host (ls ++ [l]) = (fkOf host ls).step (spConn l host) := by
  unfold fkOf; rw [List.foldl_append]; rfl
def okAt (K : Bool) (n : Int) (rows : List (List AV)) : Nat → Option Bool
  | 0 => some K
  | k + 1 => match okAt K n rows k with
    | some true => some (!portOf (rows.getD k []) == n)
    | _ => none
def okB (o : Option Bool) : Bool := o.getD false
theorem ok_on (K : Bool) (n : Int) (rows : List (List AV)) : ∀ k, k ≤ rows.length → okB (okAt K n rows k) = (K && !((rows.take k).any (isPort n)))
  | 0, _ => by simp [okAt, okB]
  | k + 1, h => by
    have ih := ok_on K n rows k (by omega)
    have hk : k < rows.length := by omega
    have hg : rows.getD k [] = rows[k] := by simp [List.getD_eq_getElem?_getD, hk]
    rw [take_snoc hk, List.any_append]
    have e : ([rows[k]].any (isPort n)) = (portOf rows[k] == n) := by
      rw [List.any_cons, List.any_nil, Bool.or_false]
      unfold isPort
      rw [Bool.eq_iff_iff, beq_iff_eq, beq_iff_eq]; exact ⟨fun h => h.symm, fun h => h.symm⟩
    rw [e, Bool.not_or, ← Bool.and_assoc, ← ih]
    have e2 : okAt K n rows (k + 1) = match okAt K n rows k with
      | some true => some (!portOf (rows.getD k []) == n)
      | _ => none := rfl
    rw [e2, hg]
    cases ho : okAt K n rows k with
    | none => rfl
    | some x => cases x <;> simp [okB]
def N33B (host : Int) (nL : Nat) (i n : Int) (fb : Bool) (rows : List (List AV)) (k : Nat) (K : Bool) : SL := match okAt K (IntKind.wrap .u16 n) rows k with
  | some b => n33oBBI host nL i n k fb b rows
  | none => n33oBZI host nL i n k fb rows
theorem inner33B {host : Int} {nL : Nat} {i n : Int} {fb : Bool} {rows : List (List AV)} {K : Bool} (hr : rows.length ≤ 1048577) :
    LoopOK Tryz.prog (lbody Tryz.prog 33 1) 71 (n33oBBI host nL i n 0 fb K rows) (.exit 2) (N33B host nL i n fb rows rows.length K) := by
  refine loop_rule (X := Nat) (I := fun k => N33B host nL i n fb rows k K) (pre := fun k => k ≤ rows.length) (μ := fun k => rows.length - k) _ _ rfl (fun ρ => by simp [Ex.conc]) ?_ (x0 := 0) (pick := []) (Nat.zero_le _) ⟨by kernel_rfl, map_fst_snd (by kernel_rfl)⟩
  intro k hk
  by_cases hkl : k < rows.length
  · left
    refine ⟨k + 1, by omega, by omega, ?_⟩
    have w := succ64 (n := rows.length) hkl (by omega)
    have c0 : decide ((k : Int) < ((List.length rows : Nat) : Int)) = true := decide_eq_true (by omega)
    have c1 : decide ((0 : Int) ≤ (k : Int) ∧ (k : Int) < ((List.length rows : Nat) : Int)) = true := decide_eq_true (by omega)
    have c2 : decide (0 + Int.toNat (k : Int) < List.length rows) = true := decide_eq_true (by rw [Int.toNat_natCast]; omega)
    show BodyOK _ _ _ _ (N33B host nL i n fb rows k K) _ (N33B host nL i n fb rows (k + 1) K)
    unfold N33B
    rw [okAt]
    cases ho : okAt K (IntKind.wrap .u16 n) rows k with
    | none => exact body_by PR_ok (n33oBZ_T host nL i n k fb rows) (by rw [w]) ⟨trivial, c0⟩ rfl
    | some x =>
      have hok : x = x := rfl
      cases x with
      | true =>
        have hok : true = true := rfl
        refine body_by PR_ok (n33oBB_TT host nL i n k fb true rows) ?_ ⟨⟨⟨⟨trivial, c0⟩, hok⟩, c1⟩, c2⟩ rfl
        rw [w, Int.toNat_natCast, Nat.zero_add]; rfl
      | false =>
        have hok : false = false := rfl
        exact body_by PR_ok (n33oBB_TF host nL i n k fb false rows) (by rw [w]) ⟨⟨trivial, c0⟩, hok⟩ rfl
  · right
    have hke : k = rows.length := by omega
    subst hke
    have c0 : decide (((List.length rows : Nat) : Int) < ((List.length rows : Nat) : Int)) = false := decide_eq_false (by omega)
    unfold N33B
    cases ho : okAt K (IntKind.wrap .u16 n) rows rows.length with
    | none => exact body_by PR_ok (n33oBZ_F host nL i n rows.length fb rows) rfl ⟨trivial, c0⟩ rfl
    | some x => exact body_by PR_ok (n33oBB_F host nL i n rows.length fb x rows) rfl ⟨trivial, c0⟩ rfl
theorem inner33zB {host : Int} {nL : Nat} {i n : Int} {fb : Bool} {K : Bool} :
    LoopOK Tryz.prog (lbody Tryz.prog 33 1) 71 (n33zBBI host nL i n 0 fb K) (.exit 2) (n33zBBI host nL i n 0 fb K) := by
  refine loop_rule (X := Nat) (I := fun _ => n33zBBI host nL i n 0 fb K) (pre := fun _ => True) (μ := fun _ => 0) _ _ rfl (fun ρ => by simp [Ex.conc]) ?_ (x0 := 0) (pick := []) trivial ⟨by kernel_rfl, map_fst_snd (by kernel_rfl)⟩
  intro k _
  have c0 : decide ((0 : Int) < (0 : Int)) = false := rfl
  exact .inr (body_by PR_ok (n33zBB_F host nL i n 0 fb K) rfl ⟨trivial, c0⟩ rfl)
def N33T (host : Int) (nL : Nat) (i n : Int) (rows : List (List AV)) (k : Nat) (K : Bool) : SL := match okAt K (IntKind.wrap .u16 n) rows k with
  | some b => n33oTBI host nL i n k b rows
  | none => n33oTZI host nL i n k rows
theorem inner33T {host : Int} {nL : Nat} {i n : Int} {rows : List (List AV)} {K : Bool} (hr : rows.length ≤ 1048577) :
    LoopOK Tryz.prog (lbody Tryz.prog 33 1) 71 (n33oTBI host nL i n 0 K rows) (.exit 2) (N33T host nL i n rows rows.length K) := by
  refine loop_rule (X := Nat) (I := fun k => N33T host nL i n rows k K) (pre := fun k => k ≤ rows.length) (μ := fun k => rows.length - k) _ _ rfl (fun ρ => by simp [Ex.conc]) ?_ (x0 := 0) (pick := []) (Nat.zero_le _) ⟨by kernel_rfl, map_fst_snd (by kernel_rfl)⟩
  intro k hk
  by_cases hkl : k < rows.length
  · left
    refine ⟨k + 1, by omega, by omega, ?_⟩
    have w := succ64 (n := rows.length) hkl (by omega)
    have c0 : decide ((k : Int) < ((List.length rows : Nat) : Int)) = true := decide_eq_true (by omega)
    have c1 : decide ((0 : Int) ≤ (k : Int) ∧ (k : Int) < ((List.length rows : Nat) : Int)) = true := decide_eq_true (by omega)
    have c2 : decide (0 + Int.toNat (k : Int) < List.length rows) = true := decide_eq_true (by rw [Int.toNat_natCast]; omega)
    show BodyOK _ _ _ _ (N33T host nL i n rows k K) _ (N33T host nL i n rows (k + 1) K)
    unfold N33T
    rw [okAt]
    cases ho : okAt K (IntKind.wrap .u16 n) rows k with
    | none => exact body_by PR_ok (n33oTZ_T host nL i n k rows) (by rw [w]) ⟨trivial, c0⟩ rfl
    | some x =>
      have hok : x = x := rfl
      cases x with
      | true =>
        have hok : true = true := rfl
        refine body_by PR_ok (n33oTB_TT host nL i n k true rows) ?_ ⟨⟨⟨⟨trivial, c0⟩, hok⟩, c1⟩, c2⟩ rfl
        rw [w, Int.toNat_natCast, Nat.zero_add]; rfl
      | false =>
        have hok : false = false := rfl
        exact body_by PR_ok (n33oTB_TF host nL i n k false rows) (by rw [w]) ⟨⟨trivial, c0⟩, hok⟩ rfl
  · right
    have hke : k = rows.length := by omega
    subst hke
    have c0 : decide (((List.length rows : Nat) : Int) < ((List.length rows : Nat) : Int)) = false := decide_eq_false (by omega)
    unfold N33T
    cases ho : okAt K (IntKind.wrap .u16 n) rows rows.length with
    | none => exact body_by PR_ok (n33oTZ_F host nL i n rows.length rows) rfl ⟨trivial, c0⟩ rfl
    | some x => exact body_by PR_ok (n33oTB_F host nL i n rows.length x rows) rfl ⟨trivial, c0⟩ rfl
theorem inner33zT {host : Int} {nL : Nat} {i n : Int} {K : Bool} :
    LoopOK Tryz.prog (lbody Tryz.prog 33 1) 71 (n33zTBI host nL i n 0 K) (.exit 2) (n33zTBI host nL i n 0 K) := by
  refine loop_rule (X := Nat) (I := fun _ => n33zTBI host nL i n 0 K) (pre := fun _ => True) (μ := fun _ => 0) _ _ rfl (fun ρ => by simp [Ex.conc]) ?_ (x0 := 0) (pick := []) trivial ⟨by kernel_rfl, map_fst_snd (by kernel_rfl)⟩
  intro k _
  have c0 : decide ((0 : Int) < (0 : Int)) = false := rfl
  exact .inr (body_by PR_ok (n33zTB_F host nL i n 0 K) rfl ⟨trivial, c0⟩ rfl)
def I33 (host : Int) (nL : Nat) (lrows : List (List AV)) (i : Nat) : Fk → List (List AV) → SL
  | .l, [] => b33zLI host nL i lrows
  | .t, [] => b33zTI host nL i lrows
  | .b x, [] => b33zBI host nL i lrows x
  | .l, r :: rs => b33oLI host nL i lrows (r :: rs)
  | .t, r :: rs => b33oTI host nL i lrows (r :: rs)
  | .b x, r :: rs => b33oBI host nL i lrows x (r :: rs)
def X33 : Fk → List (List AV) → SL
  | .l, [] => x33zL
  | .t, [] => x33zT
  | .b x, [] => x33zB x
  | .l, r :: rs => x33oL (r :: rs)
  | .t, r :: rs => x33oT (r :: rs)
  | .b x, r :: rs => x33oB x (r :: rs)
theorem med_pos (l : List UInt8) : decide (spMedN l > 0) = spRMedK l := by
  obtain ⟨h1, h2⟩ := med_same l
  rw [Bool.eq_iff_iff, decide_eq_true_eq]
  constructor
  · intro h; exact h2.2 (by omega)
  · intro h; have := h2.1 h; omega
theorem port_ref (l : List UInt8) : IntKind.wrap IntKind.u16 ((spRMedN l : Nat) : Int) = portN l := by
  unfold portN
  rw [(med_same l).1]
theorem b33zL_rd {host : Int} {nL i : Nat} {lrows : List (List AV)} {l : List UInt8} (hi : i < nL) (hn : nL = lrows.length) (hll : (AV.toStr (List.getD (List.getD lrows (0 + Int.toNat (i : Int)) []) 0 AV.undef)) = l) (hlen : l.length ≤ 1048576) (hh : 0 ≤ host ∧ host < 4294967296) (hnL : nL ≤ 1048577) (hr : ([] : List (List AV)).length ≤ 1048577) :
    BodyOK Tryz.prog (lbody Tryz.prog 33 0) 71 5 (I33 host nL lrows i .l []) .normal (I33 host nL lrows (i + 1) (Fk.step .l (spConn l host)) (addPort [] l)) := by
  have w := succ64 (n := nL) hi (by omega)
  have c0 : decide ((i : Int) < (nL : Int)) = true := decide_eq_true (by omega)
  have c1 : decide (0 < nL) = true := decide_eq_true (by omega)
  have c2 : decide ((0 : Int) ≤ (i : Int) ∧ (i : Int) < (nL : Int)) = true := decide_eq_true (by omega)
  have c3 : decide (0 + Int.toNat (i : Int) < List.length lrows) = true := decide_eq_true (by rw [Int.toNat_natCast]; omega)
  have c4 : decide ((0 : Int) ≤ host ∧ host < (4294967296 : Int)) = true := decide_eq_true hh
  have c5 : decide (List.length (AV.toStr (List.getD (List.getD lrows (0 + Int.toNat (i : Int)) []) 0 AV.undef)) ≤ 4294967200) = true := decide_eq_true (by rw [hll]; omega)
  have c5' : decide (List.length (AV.toStr (List.getD (List.getD lrows (0 + Int.toNat (i : Int)) []) (0) AV.undef)) ≤ 4294967200) = true := c5
  have hst : Fk.step .l (spConn l host) = .b (spConn l host) := rfl
  rw [hst]
  have hl := inner33zB (host := host) (nL := nL) (i := (i : Int)) (n := ((spRMedN (AV.toStr (List.getD (List.getD lrows (0 + Int.toNat (i : Int)) []) 0 AV.undef)) : Nat) : Int)) (fb := (spConn (AV.toStr (List.getD (List.getD lrows (0 + Int.toNat (i : Int)) []) 0 AV.undef)) host)) (K := (spRMedK (AV.toStr (List.getD (List.getD lrows (0 + Int.toNat (i : Int)) []) 0 AV.undef))))
  cases hK : (spRMedK (AV.toStr (List.getD (List.getD lrows (0 + Int.toNat (i : Int)) []) 0 AV.undef))) with
  | true =>
    have hA : addPort [] l = [[AV.int IntKind.u16 (IntKind.wrap IntKind.u16 ((spRMedN (AV.toStr (List.getD (List.getD lrows (0 + Int.toNat (i : Int)) []) 0 AV.undef)) : Nat) : Int))]] := by unfold addPort; rw [med_pos, ← hll, hK, port_ref]; rfl
    rw [hA]
    exact (body_by PR_ok (b33zL_TLT host nL i lrows) rfl ⟨⟨⟨⟨⟨⟨⟨⟨⟨⟨⟨⟨⟨trivial, c0⟩, c1⟩, c2⟩, c3⟩, c4⟩, c1⟩, c2⟩, c3⟩, c5⟩, hl⟩, hK⟩, rfl⟩, rfl⟩ rfl).to (by rw [w, hll]; rfl)
  | false =>
    have hA : addPort [] l = [] := by unfold addPort; rw [med_pos, ← hll, hK]; rfl
    rw [hA]
    exact (body_by PR_ok (b33zL_TLF host nL i lrows) rfl ⟨⟨⟨⟨⟨⟨⟨⟨⟨⟨⟨trivial, c0⟩, c1⟩, c2⟩, c3⟩, c4⟩, c1⟩, c2⟩, c3⟩, c5⟩, hl⟩, hK⟩ rfl).to (by rw [w, hll]; rfl)
theorem b33zBT_rd {host : Int} {nL i : Nat} {lrows : List (List AV)} {l : List UInt8} (hi : i < nL) (hn : nL = lrows.length) (hll : (AV.toStr (List.getD (List.getD lrows (0 + Int.toNat (i : Int)) []) 0 AV.undef)) = l) (hlen : l.length ≤ 1048576) (hh : 0 ≤ host ∧ host < 4294967296) (hnL : nL ≤ 1048577) (hr : ([] : List (List AV)).length ≤ 1048577) :
    BodyOK Tryz.prog (lbody Tryz.prog 33 0) 71 5 (I33 host nL lrows i (.b true) []) .normal (I33 host nL lrows (i + 1) (Fk.step (.b true) (spConn l host)) (addPort [] l)) := by
  have w := succ64 (n := nL) hi (by omega)
  have c0 : decide ((i : Int) < (nL : Int)) = true := decide_eq_true (by omega)
  have c1 : decide (0 < nL) = true := decide_eq_true (by omega)
  have c2 : decide ((0 : Int) ≤ (i : Int) ∧ (i : Int) < (nL : Int)) = true := decide_eq_true (by omega)
  have c3 : decide (0 + Int.toNat (i : Int) < List.length lrows) = true := decide_eq_true (by rw [Int.toNat_natCast]; omega)
  have c4 : decide ((0 : Int) ≤ host ∧ host < (4294967296 : Int)) = true := decide_eq_true hh
  have c5 : decide (List.length (AV.toStr (List.getD (List.getD lrows (0 + Int.toNat (i : Int)) []) 0 AV.undef)) ≤ 4294967200) = true := decide_eq_true (by rw [hll]; omega)
  have c5' : decide (List.length (AV.toStr (List.getD (List.getD lrows (0 + Int.toNat (i : Int)) []) (0) AV.undef)) ≤ 4294967200) = true := c5
  have hst : Fk.step (.b true) (spConn l host) = .t := rfl
  rw [hst]
  have hl := inner33zT (host := host) (nL := nL) (i := (i : Int)) (n := ((spRMedN (AV.toStr (List.getD (List.getD lrows (0 + Int.toNat (i : Int)) []) 0 AV.undef)) : Nat) : Int)) (K := (spRMedK (AV.toStr (List.getD (List.getD lrows (0 + Int.toNat (i : Int)) []) 0 AV.undef))))
  cases hK : (spRMedK (AV.toStr (List.getD (List.getD lrows (0 + Int.toNat (i : Int)) []) 0 AV.undef))) with
  | true =>
    have hA : addPort [] l = [[AV.int IntKind.u16 (IntKind.wrap IntKind.u16 ((spRMedN (AV.toStr (List.getD (List.getD lrows (0 + Int.toNat (i : Int)) []) 0 AV.undef)) : Nat) : Int))]] := by unfold addPort; rw [med_pos, ← hll, hK, port_ref]; rfl
    rw [hA]
    exact (body_by PR_ok (b33zB_TTLT host nL i lrows true) rfl ⟨⟨⟨⟨⟨⟨⟨⟨⟨⟨trivial, c0⟩, rfl⟩, c1⟩, c2⟩, c3⟩, c5⟩, hl⟩, hK⟩, rfl⟩, rfl⟩ rfl).to (by rw [w]; rfl)
  | false =>
    have hA : addPort [] l = [] := by unfold addPort; rw [med_pos, ← hll, hK]; rfl
    rw [hA]
    exact (body_by PR_ok (b33zB_TTLF host nL i lrows true) rfl ⟨⟨⟨⟨⟨⟨⟨⟨trivial, c0⟩, rfl⟩, c1⟩, c2⟩, c3⟩, c5⟩, hl⟩, hK⟩ rfl).to (by rw [w]; rfl)
theorem b33zBF_rd {host : Int} {nL i : Nat} {lrows : List (List AV)} {l : List UInt8} (hi : i < nL) (hn : nL = lrows.length) (hll : (AV.toStr (List.getD (List.getD lrows (0 + Int.toNat (i : Int)) []) 0 AV.undef)) = l) (hlen : l.length ≤ 1048576) (hh : 0 ≤ host ∧ host < 4294967296) (hnL : nL ≤ 1048577) (hr : ([] : List (List AV)).length ≤ 1048577) :
    BodyOK Tryz.prog (lbody Tryz.prog 33 0) 71 5 (I33 host nL lrows i (.b false) []) .normal (I33 host nL lrows (i + 1) (Fk.step (.b false) (spConn l host)) (addPort [] l)) := by
  have w := succ64 (n := nL) hi (by omega)
  have c0 : decide ((i : Int) < (nL : Int)) = true := decide_eq_true (by omega)
  have c1 : decide (0 < nL) = true := decide_eq_true (by omega)
  have c2 : decide ((0 : Int) ≤ (i : Int) ∧ (i : Int) < (nL : Int)) = true := decide_eq_true (by omega)
  have c3 : decide (0 + Int.toNat (i : Int) < List.length lrows) = true := decide_eq_true (by rw [Int.toNat_natCast]; omega)
  have c4 : decide ((0 : Int) ≤ host ∧ host < (4294967296 : Int)) = true := decide_eq_true hh
  have c5 : decide (List.length (AV.toStr (List.getD (List.getD lrows (0 + Int.toNat (i : Int)) []) 0 AV.undef)) ≤ 4294967200) = true := decide_eq_true (by rw [hll]; omega)
  have c5' : decide (List.length (AV.toStr (List.getD (List.getD lrows (0 + Int.toNat (i : Int)) []) (0) AV.undef)) ≤ 4294967200) = true := c5
  have hst : Fk.step (.b false) (spConn l host) = .b (spConn l host) := rfl
  rw [hst]
  have hl := inner33zB (host := host) (nL := nL) (i := (i : Int)) (n := ((spRMedN (AV.toStr (List.getD (List.getD lrows (0 + Int.toNat (i : Int)) []) 0 AV.undef)) : Nat) : Int)) (fb := (spConn (AV.toStr (List.getD (List.getD lrows (0 + Int.toNat (i : Int)) []) 0 AV.undef)) host)) (K := (spRMedK (AV.toStr (List.getD (List.getD lrows (0 + Int.toNat (i : Int)) []) 0 AV.undef))))
  cases hK : (spRMedK (AV.toStr (List.getD (List.getD lrows (0 + Int.toNat (i : Int)) []) 0 AV.undef))) with
  | true =>
    have hA : addPort [] l = [[AV.int IntKind.u16 (IntKind.wrap IntKind.u16 ((spRMedN (AV.toStr (List.getD (List.getD lrows (0 + Int.toNat (i : Int)) []) 0 AV.undef)) : Nat) : Int))]] := by unfold addPort; rw [med_pos, ← hll, hK, port_ref]; rfl
    rw [hA]
    exact (body_by PR_ok (b33zB_TFLT host nL i lrows false) rfl ⟨⟨⟨⟨⟨⟨⟨⟨⟨⟨⟨⟨⟨⟨trivial, c0⟩, rfl⟩, c1⟩, c2⟩, c3⟩, c4⟩, c1⟩, c2⟩, c3⟩, c5⟩, hl⟩, hK⟩, rfl⟩, rfl⟩ rfl).to (by rw [w, hll]; rfl)
  | false =>
    have hA : addPort [] l = [] := by unfold addPort; rw [med_pos, ← hll, hK]; rfl
    rw [hA]
    exact (body_by PR_ok (b33zB_TFLF host nL i lrows false) rfl ⟨⟨⟨⟨⟨⟨⟨⟨⟨⟨⟨⟨trivial, c0⟩, rfl⟩, c1⟩, c2⟩, c3⟩, c4⟩, c1⟩, c2⟩, c3⟩, c5⟩, hl⟩, hK⟩ rfl).to (by rw [w, hll]; rfl)
theorem b33zT_rd {host : Int} {nL i : Nat} {lrows : List (List AV)} {l : List UInt8} (hi : i < nL) (hn : nL = lrows.length) (hll : (AV.toStr (List.getD (List.getD lrows (0 + Int.toNat (i : Int)) []) 0 AV.undef)) = l) (hlen : l.length ≤ 1048576) (hh : 0 ≤ host ∧ host < 4294967296) (hnL : nL ≤ 1048577) (hr : ([] : List (List AV)).length ≤ 1048577) :
    BodyOK Tryz.prog (lbody Tryz.prog 33 0) 71 5 (I33 host nL lrows i .t []) .normal (I33 host nL lrows (i + 1) (Fk.step .t (spConn l host)) (addPort [] l)) := by
  have w := succ64 (n := nL) hi (by omega)
  have c0 : decide ((i : Int) < (nL : Int)) = true := decide_eq_true (by omega)
  have c1 : decide (0 < nL) = true := decide_eq_true (by omega)
  have c2 : decide ((0 : Int) ≤ (i : Int) ∧ (i : Int) < (nL : Int)) = true := decide_eq_true (by omega)
  have c3 : decide (0 + Int.toNat (i : Int) < List.length lrows) = true := decide_eq_true (by rw [Int.toNat_natCast]; omega)
  have c4 : decide ((0 : Int) ≤ host ∧ host < (4294967296 : Int)) = true := decide_eq_true hh
  have c5 : decide (List.length (AV.toStr (List.getD (List.getD lrows (0 + Int.toNat (i : Int)) []) 0 AV.undef)) ≤ 4294967200) = true := decide_eq_true (by rw [hll]; omega)
  have c5' : decide (List.length (AV.toStr (List.getD (List.getD lrows (0 + Int.toNat (i : Int)) []) (0) AV.undef)) ≤ 4294967200) = true := c5
  have hst : Fk.step .t (spConn l host) = .t := rfl
  rw [hst]
  have hl := inner33zT (host := host) (nL := nL) (i := (i : Int)) (n := ((spRMedN (AV.toStr (List.getD (List.getD lrows (0 + Int.toNat (i : Int)) []) 0 AV.undef)) : Nat) : Int)) (K := (spRMedK (AV.toStr (List.getD (List.getD lrows (0 + Int.toNat (i : Int)) []) 0 AV.undef))))
  cases hK : (spRMedK (AV.toStr (List.getD (List.getD lrows (0 + Int.toNat (i : Int)) []) 0 AV.undef))) with
  | true =>
    have hA : addPort [] l = [[AV.int IntKind.u16 (IntKind.wrap IntKind.u16 ((spRMedN (AV.toStr (List.getD (List.getD lrows (0 + Int.toNat (i : Int)) []) 0 AV.undef)) : Nat) : Int))]] := by unfold addPort; rw [med_pos, ← hll, hK, port_ref]; rfl
    rw [hA]
    exact (body_by PR_ok (b33zT_TLT host nL i lrows) rfl ⟨⟨⟨⟨⟨⟨⟨⟨⟨trivial, c0⟩, c1⟩, c2⟩, c3⟩, c5⟩, hl⟩, hK⟩, rfl⟩, rfl⟩ rfl).to (by rw [w]; rfl)
  | false =>
    have hA : addPort [] l = [] := by unfold addPort; rw [med_pos, ← hll, hK]; rfl
    rw [hA]
    exact (body_by PR_ok (b33zT_TLF host nL i lrows) rfl ⟨⟨⟨⟨⟨⟨⟨trivial, c0⟩, c1⟩, c2⟩, c3⟩, c5⟩, hl⟩, hK⟩ rfl).to (by rw [w]; rfl)
theorem b33oL_rd {host : Int} {nL i : Nat} {lrows : List (List AV)} {l : List UInt8} {r : List AV} {rs : List (List AV)} (hi : i < nL) (hn : nL = lrows.length) (hll : (AV.toStr (List.getD (List.getD lrows (0 + Int.toNat (i : Int)) []) 0 AV.undef)) = l) (hlen : l.length ≤ 1048576) (hh : 0 ≤ host ∧ host < 4294967296) (hnL : nL ≤ 1048577) (hr : ((r :: rs) : List (List AV)).length ≤ 1048577) :
    BodyOK Tryz.prog (lbody Tryz.prog 33 0) 71 5 (I33 host nL lrows i .l (r :: rs)) .normal (I33 host nL lrows (i + 1) (Fk.step .l (spConn l host)) (addPort (r :: rs) l)) := by
  have w := succ64 (n := nL) hi (by omega)
  have c0 : decide ((i : Int) < (nL : Int)) = true := decide_eq_true (by omega)
  have c1 : decide (0 < nL) = true := decide_eq_true (by omega)
  have c2 : decide ((0 : Int) ≤ (i : Int) ∧ (i : Int) < (nL : Int)) = true := decide_eq_true (by omega)
  have c3 : decide (0 + Int.toNat (i : Int) < List.length lrows) = true := decide_eq_true (by rw [Int.toNat_natCast]; omega)
  have c4 : decide ((0 : Int) ≤ host ∧ host < (4294967296 : Int)) = true := decide_eq_true hh
  have c5 : decide (List.length (AV.toStr (List.getD (List.getD lrows (0 + Int.toNat (i : Int)) []) 0 AV.undef)) ≤ 4294967200) = true := decide_eq_true (by rw [hll]; omega)
  have c5' : decide (List.length (AV.toStr (List.getD (List.getD lrows (0 + Int.toNat (i : Int)) []) (0) AV.undef)) ≤ 4294967200) = true := c5
  have hst : Fk.step .l (spConn l host) = .b (spConn l host) := rfl
  rw [hst]
  have hi33 := inner33B (host := host) (nL := nL) (i := (i : Int)) (n := ((spRMedN (AV.toStr (List.getD (List.getD lrows (0 + Int.toNat (i : Int)) []) 0 AV.undef)) : Nat) : Int)) (fb := (spConn (AV.toStr (List.getD (List.getD lrows (0 + Int.toNat (i : Int)) []) 0 AV.undef)) host)) (rows := r :: rs) (K := (spRMedK (AV.toStr (List.getD (List.getD lrows (0 + Int.toNat (i : Int)) []) 0 AV.undef)))) hr
  have hon := ok_on (spRMedK (AV.toStr (List.getD (List.getD lrows (0 + Int.toNat (i : Int)) []) 0 AV.undef))) (IntKind.wrap .u16 ((spRMedN (AV.toStr (List.getD (List.getD lrows (0 + Int.toNat (i : Int)) []) 0 AV.undef)) : Nat) : Int)) (r :: rs) (r :: rs).length (Nat.le_refl _)
  rw [List.take_length] at hon
  have c6 : decide ((List.length (r :: rs) + 1) * 2 ≤ 140737488355328) = true := decide_eq_true (by omega)
  have hport := port_ref (AV.toStr (List.getD (List.getD lrows (0 + Int.toNat (i : Int)) []) 0 AV.undef))
  have hA : addPort (r :: rs) l = bif okB (okAt (spRMedK (AV.toStr (List.getD (List.getD lrows (0 + Int.toNat (i : Int)) []) 0 AV.undef))) (IntKind.wrap .u16 ((spRMedN (AV.toStr (List.getD (List.getD lrows (0 + Int.toNat (i : Int)) []) 0 AV.undef)) : Nat) : Int)) (r :: rs) (r :: rs).length) then (r :: rs) ++ [[AV.int IntKind.u16 (IntKind.wrap IntKind.u16 ((spRMedN (AV.toStr (List.getD (List.getD lrows (0 + Int.toNat (i : Int)) []) 0 AV.undef)) : Nat) : Int))]] else r :: rs := by
    rw [hon]; unfold addPort spHasP; rw [med_pos, hport, hll]
  rw [hA]
  unfold N33B at hi33
  cases ho : okAt (spRMedK (AV.toStr (List.getD (List.getD lrows (0 + Int.toNat (i : Int)) []) 0 AV.undef))) (IntKind.wrap .u16 ((spRMedN (AV.toStr (List.getD (List.getD lrows (0 + Int.toNat (i : Int)) []) 0 AV.undef)) : Nat) : Int)) (r :: rs) (r :: rs).length with
  | none =>
    rw [ho] at hi33
    have hl := hi33
    exact (body_by PR_ok (b33oL_TL host nL i lrows (r :: rs) false ((r :: rs).length : Nat)) rfl ⟨⟨⟨⟨⟨⟨⟨⟨⟨⟨trivial, c0⟩, c1⟩, c2⟩, c3⟩, c4⟩, c1⟩, c2⟩, c3⟩, c5⟩, hl⟩ rfl).to (by rw [w]; rw [hll]; rfl)
  | some x =>
    rw [ho] at hi33
    have hl := hi33
    cases x with
    | false => exact (body_by PR_ok (b33oL_TLF host nL i lrows (r :: rs) false ((r :: rs).length : Nat)) rfl ⟨⟨⟨⟨⟨⟨⟨⟨⟨⟨⟨trivial, c0⟩, c1⟩, c2⟩, c3⟩, c4⟩, c1⟩, c2⟩, c3⟩, c5⟩, hl⟩, rfl⟩ rfl).to (by rw [w]; rw [hll]; rfl)
    | true =>
      have hx := body_by PR_ok (b33oL_TLT host nL i lrows (r :: rs) true ((r :: rs).length : Nat)) rfl ⟨⟨⟨⟨⟨⟨⟨⟨⟨⟨⟨⟨⟨⟨trivial, c0⟩, c1⟩, c2⟩, c3⟩, c4⟩, c1⟩, c2⟩, c3⟩, c5⟩, hl⟩, rfl⟩, rfl⟩, (decide_eq_true ⟨rfl, rfl⟩)⟩, c6⟩ rfl
      have e4 : (r :: rs).length + 1 = ((r :: rs) ++ [[AV.int IntKind.u16 (IntKind.wrap IntKind.u16 ((spRMedN (AV.toStr (List.getD (List.getD lrows (0 + Int.toNat (i : Int)) []) 0 AV.undef)) : Nat) : Int))]]).length := by rw [List.length_append]; rfl
      rw [e4] at hx
      exact hx.to (by rw [w]; rw [hll]; rfl)
theorem b33oBT_rd {host : Int} {nL i : Nat} {lrows : List (List AV)} {l : List UInt8} {r : List AV} {rs : List (List AV)} (hi : i < nL) (hn : nL = lrows.length) (hll : (AV.toStr (List.getD (List.getD lrows (0 + Int.toNat (i : Int)) []) 0 AV.undef)) = l) (hlen : l.length ≤ 1048576) (hh : 0 ≤ host ∧ host < 4294967296) (hnL : nL ≤ 1048577) (hr : ((r :: rs) : List (List AV)).length ≤ 1048577) :
    BodyOK Tryz.prog (lbody Tryz.prog 33 0) 71 5 (I33 host nL lrows i (.b true) (r :: rs)) .normal (I33 host nL lrows (i + 1) (Fk.step (.b true) (spConn l host)) (addPort (r :: rs) l)) := by
  have w := succ64 (n := nL) hi (by omega)
  have c0 : decide ((i : Int) < (nL : Int)) = true := decide_eq_true (by omega)
  have c1 : decide (0 < nL) = true := decide_eq_true (by omega)
  have c2 : decide ((0 : Int) ≤ (i : Int) ∧ (i : Int) < (nL : Int)) = true := decide_eq_true (by omega)
  have c3 : decide (0 + Int.toNat (i : Int) < List.length lrows) = true := decide_eq_true (by rw [Int.toNat_natCast]; omega)
  have c4 : decide ((0 : Int) ≤ host ∧ host < (4294967296 : Int)) = true := decide_eq_true hh
  have c5 : decide (List.length (AV.toStr (List.getD (List.getD lrows (0 + Int.toNat (i : Int)) []) 0 AV.undef)) ≤ 4294967200) = true := decide_eq_true (by rw [hll]; omega)
  have c5' : decide (List.length (AV.toStr (List.getD (List.getD lrows (0 + Int.toNat (i : Int)) []) (0) AV.undef)) ≤ 4294967200) = true := c5
  have hst : Fk.step (.b true) (spConn l host) = .t := rfl
  rw [hst]
  have hi33 := inner33T (host := host) (nL := nL) (i := (i : Int)) (n := ((spRMedN (AV.toStr (List.getD (List.getD lrows (0 + Int.toNat (i : Int)) []) 0 AV.undef)) : Nat) : Int)) (rows := r :: rs) (K := (spRMedK (AV.toStr (List.getD (List.getD lrows (0 + Int.toNat (i : Int)) []) 0 AV.undef)))) hr
  have hon := ok_on (spRMedK (AV.toStr (List.getD (List.getD lrows (0 + Int.toNat (i : Int)) []) 0 AV.undef))) (IntKind.wrap .u16 ((spRMedN (AV.toStr (List.getD (List.getD lrows (0 + Int.toNat (i : Int)) []) 0 AV.undef)) : Nat) : Int)) (r :: rs) (r :: rs).length (Nat.le_refl _)
  rw [List.take_length] at hon
  have c6 : decide ((List.length (r :: rs) + 1) * 2 ≤ 140737488355328) = true := decide_eq_true (by omega)
  have hport := port_ref (AV.toStr (List.getD (List.getD lrows (0 + Int.toNat (i : Int)) []) 0 AV.undef))
  have hA : addPort (r :: rs) l = bif okB (okAt (spRMedK (AV.toStr (List.getD (List.getD lrows (0 + Int.toNat (i : Int)) []) 0 AV.undef))) (IntKind.wrap .u16 ((spRMedN (AV.toStr (List.getD (List.getD lrows (0 + Int.toNat (i : Int)) []) 0 AV.undef)) : Nat) : Int)) (r :: rs) (r :: rs).length) then (r :: rs) ++ [[AV.int IntKind.u16 (IntKind.wrap IntKind.u16 ((spRMedN (AV.toStr (List.getD (List.getD lrows (0 + Int.toNat (i : Int)) []) 0 AV.undef)) : Nat) : Int))]] else r :: rs := by
    rw [hon]; unfold addPort spHasP; rw [med_pos, hport, hll]
  rw [hA]
  unfold N33T at hi33
  cases ho : okAt (spRMedK (AV.toStr (List.getD (List.getD lrows (0 + Int.toNat (i : Int)) []) 0 AV.undef))) (IntKind.wrap .u16 ((spRMedN (AV.toStr (List.getD (List.getD lrows (0 + Int.toNat (i : Int)) []) 0 AV.undef)) : Nat) : Int)) (r :: rs) (r :: rs).length with
  | none =>
    rw [ho] at hi33
    have hl := hi33
    exact (body_by PR_ok (b33oB_TTL host nL i lrows true (r :: rs) false ((r :: rs).length : Nat)) rfl ⟨⟨⟨⟨⟨⟨⟨trivial, c0⟩, rfl⟩, c1⟩, c2⟩, c3⟩, c5⟩, hl⟩ rfl).to (by rw [w]; rfl)
  | some x =>
    rw [ho] at hi33
    have hl := hi33
    cases x with
    | false => exact (body_by PR_ok (b33oB_TTLF host nL i lrows true (r :: rs) false ((r :: rs).length : Nat)) rfl ⟨⟨⟨⟨⟨⟨⟨⟨trivial, c0⟩, rfl⟩, c1⟩, c2⟩, c3⟩, c5⟩, hl⟩, rfl⟩ rfl).to (by rw [w]; rfl)
    | true =>
      have hx := body_by PR_ok (b33oB_TTLT host nL i lrows true (r :: rs) true ((r :: rs).length : Nat)) rfl ⟨⟨⟨⟨⟨⟨⟨⟨⟨⟨⟨trivial, c0⟩, rfl⟩, c1⟩, c2⟩, c3⟩, c5⟩, hl⟩, rfl⟩, rfl⟩, (decide_eq_true ⟨rfl, rfl⟩)⟩, c6⟩ rfl
      have e4 : (r :: rs).length + 1 = ((r :: rs) ++ [[AV.int IntKind.u16 (IntKind.wrap IntKind.u16 ((spRMedN (AV.toStr (List.getD (List.getD lrows (0 + Int.toNat (i : Int)) []) 0 AV.undef)) : Nat) : Int))]]).length := by rw [List.length_append]; rfl
      rw [e4] at hx
      exact hx.to (by rw [w]; rfl)
theorem b33oBF_rd {host : Int} {nL i : Nat} {lrows : List (List AV)} {l : List UInt8} {r : List AV} {rs : List (List AV)} (hi : i < nL) (hn : nL = lrows.length) (hll : (AV.toStr (List.getD (List.getD lrows (0 + Int.toNat (i : Int)) []) 0 AV.undef)) = l) (hlen : l.length ≤ 1048576) (hh : 0 ≤ host ∧ host < 4294967296) (hnL : nL ≤ 1048577) (hr : ((r :: rs) : List (List AV)).length ≤ 1048577) :
    BodyOK Tryz.prog (lbody Tryz.prog 33 0) 71 5 (I33 host nL lrows i (.b false) (r :: rs)) .normal (I33 host nL lrows (i + 1) (Fk.step (.b false) (spConn l host)) (addPort (r :: rs) l)) := by
  have w := succ64 (n := nL) hi (by omega)
  have c0 : decide ((i : Int) < (nL : Int)) = true := decide_eq_true (by omega)
  have c1 : decide (0 < nL) = true := decide_eq_true (by omega)
  have c2 : decide ((0 : Int) ≤ (i : Int) ∧ (i : Int) < (nL : Int)) = true := decide_eq_true (by omega)
  have c3 : decide (0 + Int.toNat (i : Int) < List.length lrows) = true := decide_eq_true (by rw [Int.toNat_natCast]; omega)
  have c4 : decide ((0 : Int) ≤ host ∧ host < (4294967296 : Int)) = true := decide_eq_true hh
  have c5 : decide (List.length (AV.toStr (List.getD (List.getD lrows (0 + Int.toNat (i : Int)) []) 0 AV.undef)) ≤ 4294967200) = true := decide_eq_true (by rw [hll]; omega)
  have c5' : decide (List.length (AV.toStr (List.getD (List.getD lrows (0 + Int.toNat (i : Int)) []) (0) AV.undef)) ≤ 4294967200) = true := c5
  have hst : Fk.step (.b false) (spConn l host) = .b (spConn l host) := rfl
  rw [hst]
  have hi33 := inner33B (host := host) (nL := nL) (i := (i : Int)) (n := ((spRMedN (AV.toStr (List.getD (List.getD lrows (0 + Int.toNat (i : Int)) []) 0 AV.undef)) : Nat) : Int)) (fb := (spConn (AV.toStr (List.getD (List.getD lrows (0 + Int.toNat (i : Int)) []) 0 AV.undef)) host)) (rows := r :: rs) (K := (spRMedK (AV.toStr (List.getD (List.getD lrows (0 + Int.toNat (i : Int)) []) 0 AV.undef)))) hr
  have hon := ok_on (spRMedK (AV.toStr (List.getD (List.getD lrows (0 + Int.toNat (i : Int)) []) 0 AV.undef))) (IntKind.wrap .u16 ((spRMedN (AV.toStr (List.getD (List.getD lrows (0 + Int.toNat (i : Int)) []) 0 AV.undef)) : Nat) : Int)) (r :: rs) (r :: rs).length (Nat.le_refl _)
  rw [List.take_length] at hon
  have c6 : decide ((List.length (r :: rs) + 1) * 2 ≤ 140737488355328) = true := decide_eq_true (by omega)
  have hport := port_ref (AV.toStr (List.getD (List.getD lrows (0 + Int.toNat (i : Int)) []) 0 AV.undef))
  have hA : addPort (r :: rs) l = bif okB (okAt (spRMedK (AV.toStr (List.getD (List.getD lrows (0 + Int.toNat (i : Int)) []) 0 AV.undef))) (IntKind.wrap .u16 ((spRMedN (AV.toStr (List.getD (List.getD lrows (0 + Int.toNat (i : Int)) []) 0 AV.undef)) : Nat) : Int)) (r :: rs) (r :: rs).length) then (r :: rs) ++ [[AV.int IntKind.u16 (IntKind.wrap IntKind.u16 ((spRMedN (AV.toStr (List.getD (List.getD lrows (0 + Int.toNat (i : Int)) []) 0 AV.undef)) : Nat) : Int))]] else r :: rs := by
    rw [hon]; unfold addPort spHasP; rw [med_pos, hport, hll]
  rw [hA]
  unfold N33B at hi33
  cases ho : okAt (spRMedK (AV.toStr (List.getD (List.getD lrows (0 + Int.toNat (i : Int)) []) 0 AV.undef))) (IntKind.wrap .u16 ((spRMedN (AV.toStr (List.getD (List.getD lrows (0 + Int.toNat (i : Int)) []) 0 AV.undef)) : Nat) : Int)) (r :: rs) (r :: rs).length with
  | none =>
    rw [ho] at hi33
    have hl := hi33
    exact (body_by PR_ok (b33oB_TFL host nL i lrows false (r :: rs) false ((r :: rs).length : Nat)) rfl ⟨⟨⟨⟨⟨⟨⟨⟨⟨⟨⟨trivial, c0⟩, rfl⟩, c1⟩, c2⟩, c3⟩, c4⟩, c1⟩, c2⟩, c3⟩, c5⟩, hl⟩ rfl).to (by rw [w]; rw [hll]; rfl)
  | some x =>
    rw [ho] at hi33
    have hl := hi33
    cases x with
    | false => exact (body_by PR_ok (b33oB_TFLF host nL i lrows false (r :: rs) false ((r :: rs).length : Nat)) rfl ⟨⟨⟨⟨⟨⟨⟨⟨⟨⟨⟨⟨trivial, c0⟩, rfl⟩, c1⟩, c2⟩, c3⟩, c4⟩, c1⟩, c2⟩, c3⟩, c5⟩, hl⟩, rfl⟩ rfl).to (by rw [w]; rw [hll]; rfl)
    | true =>
      have hx := body_by PR_ok (b33oB_TFLT host nL i lrows false (r :: rs) true ((r :: rs).length : Nat)) rfl ⟨⟨⟨⟨⟨⟨⟨⟨⟨⟨⟨⟨⟨⟨⟨trivial, c0⟩, rfl⟩, c1⟩, c2⟩, c3⟩, c4⟩, c1⟩, c2⟩, c3⟩, c5⟩, hl⟩, rfl⟩, rfl⟩, (decide_eq_true ⟨rfl, rfl⟩)⟩, c6⟩ rfl
      have e4 : (r :: rs).length + 1 = ((r :: rs) ++ [[AV.int IntKind.u16 (IntKind.wrap IntKind.u16 ((spRMedN (AV.toStr (List.getD (List.getD lrows (0 + Int.toNat (i : Int)) []) 0 AV.undef)) : Nat) : Int))]]).length := by rw [List.length_append]; rfl
      rw [e4] at hx
      exact hx.to (by rw [w]; rw [hll]; rfl)
theorem b33oT_rd {host : Int} {nL i : Nat} {lrows : List (List AV)} {l : List UInt8} {r : List AV} {rs : List (List AV)} (hi : i < nL) (hn : nL = lrows.length) (hll : (AV.toStr (List.getD (List.getD lrows (0 + Int.toNat (i : Int)) []) 0 AV.undef)) = l) (hlen : l.length ≤ 1048576) (hh : 0 ≤ host ∧ host < 4294967296) (hnL : nL ≤ 1048577) (hr : ((r :: rs) : List (List AV)).length ≤ 1048577) :
    BodyOK Tryz.prog (lbody Tryz.prog 33 0) 71 5 (I33 host nL lrows i .t (r :: rs)) .normal (I33 host nL lrows (i + 1) (Fk.step .t (spConn l host)) (addPort (r :: rs) l)) := by
  have w := succ64 (n := nL) hi (by omega)
  have c0 : decide ((i : Int) < (nL : Int)) = true := decide_eq_true (by omega)
  have c1 : decide (0 < nL) = true := decide_eq_true (by omega)
  have c2 : decide ((0 : Int) ≤ (i : Int) ∧ (i : Int) < (nL : Int)) = true := decide_eq_true (by omega)
  have c3 : decide (0 + Int.toNat (i : Int) < List.length lrows) = true := decide_eq_true (by rw [Int.toNat_natCast]; omega)
  have c4 : decide ((0 : Int) ≤ host ∧ host < (4294967296 : Int)) = true := decide_eq_true hh
  have c5 : decide (List.length (AV.toStr (List.getD (List.getD lrows (0 + Int.toNat (i : Int)) []) 0 AV.undef)) ≤ 4294967200) = true := decide_eq_true (by rw [hll]; omega)
  have c5' : decide (List.length (AV.toStr (List.getD (List.getD lrows (0 + Int.toNat (i : Int)) []) (0) AV.undef)) ≤ 4294967200) = true := c5
  have hst : Fk.step .t (spConn l host) = .t := rfl
  rw [hst]
  have hi33 := inner33T (host := host) (nL := nL) (i := (i : Int)) (n := ((spRMedN (AV.toStr (List.getD (List.getD lrows (0 + Int.toNat (i : Int)) []) 0 AV.undef)) : Nat) : Int)) (rows := r :: rs) (K := (spRMedK (AV.toStr (List.getD (List.getD lrows (0 + Int.toNat (i : Int)) []) 0 AV.undef)))) hr
  have hon := ok_on (spRMedK (AV.toStr (List.getD (List.getD lrows (0 + Int.toNat (i : Int)) []) 0 AV.undef))) (IntKind.wrap .u16 ((spRMedN (AV.toStr (List.getD (List.getD lrows (0 + Int.toNat (i : Int)) []) 0 AV.undef)) : Nat) : Int)) (r :: rs) (r :: rs).length (Nat.le_refl _)
  rw [List.take_length] at hon
  have c6 : decide ((List.length (r :: rs) + 1) * 2 ≤ 140737488355328) = true := decide_eq_true (by omega)
  have hport := port_ref (AV.toStr (List.getD (List.getD lrows (0 + Int.toNat (i : Int)) []) 0 AV.undef))
  have hA : addPort (r :: rs) l = bif okB (okAt (spRMedK (AV.toStr (List.getD (List.getD lrows (0 + Int.toNat (i : Int)) []) 0 AV.undef))) (IntKind.wrap .u16 ((spRMedN (AV.toStr (List.getD (List.getD lrows (0 + Int.toNat (i : Int)) []) 0 AV.undef)) : Nat) : Int)) (r :: rs) (r :: rs).length) then (r :: rs) ++ [[AV.int IntKind.u16 (IntKind.wrap IntKind.u16 ((spRMedN (AV.toStr (List.getD (List.getD lrows (0 + Int.toNat (i : Int)) []) 0 AV.undef)) : Nat) : Int))]] else r :: rs := by
    rw [hon]; unfold addPort spHasP; rw [med_pos, hport, hll]
  rw [hA]
  unfold N33T at hi33
  cases ho : okAt (spRMedK (AV.toStr (List.getD (List.getD lrows (0 + Int.toNat (i : Int)) []) 0 AV.undef))) (IntKind.wrap .u16 ((spRMedN (AV.toStr (List.getD (List.getD lrows (0 + Int.toNat (i : Int)) []) 0 AV.undef)) : Nat) : Int)) (r :: rs) (r :: rs).length with
  | none =>
    rw [ho] at hi33
    have hl := hi33
    exact (body_by PR_ok (b33oT_TL host nL i lrows (r :: rs) false ((r :: rs).length : Nat)) rfl ⟨⟨⟨⟨⟨⟨trivial, c0⟩, c1⟩, c2⟩, c3⟩, c5⟩, hl⟩ rfl).to (by rw [w]; rfl)
  | some x =>
    rw [ho] at hi33
    have hl := hi33
    cases x with
    | false => exact (body_by PR_ok (b33oT_TLF host nL i lrows (r :: rs) false ((r :: rs).length : Nat)) rfl ⟨⟨⟨⟨⟨⟨⟨trivial, c0⟩, c1⟩, c2⟩, c3⟩, c5⟩, hl⟩, rfl⟩ rfl).to (by rw [w]; rfl)
    | true =>
      have hx := body_by PR_ok (b33oT_TLT host nL i lrows (r :: rs) true ((r :: rs).length : Nat)) rfl ⟨⟨⟨⟨⟨⟨⟨⟨⟨⟨trivial, c0⟩, c1⟩, c2⟩, c3⟩, c5⟩, hl⟩, rfl⟩, rfl⟩, (decide_eq_true ⟨rfl, rfl⟩)⟩, c6⟩ rfl
      have e4 : (r :: rs).length + 1 = ((r :: rs) ++ [[AV.int IntKind.u16 (IntKind.wrap IntKind.u16 ((spRMedN (AV.toStr (List.getD (List.getD lrows (0 + Int.toNat (i : Int)) []) 0 AV.undef)) : Nat) : Int))]]).length := by rw [List.length_append]; rfl
      rw [e4] at hx
      exact hx.to (by rw [w]; rfl)
theorem round33 {host : Int} {nL i : Nat} {lrows : List (List AV)} {l : List UInt8} {f : Fk} {rows : List (List AV)} (hi : i < nL) (hn : nL = lrows.length) (hll : (AV.toStr (List.getD (List.getD lrows (0 + Int.toNat (i : Int)) []) 0 AV.undef)) = l) (hlen : l.length ≤ 1048576) (hh : 0 ≤ host ∧ host < 4294967296) (hnL : nL ≤ 1048577) (hr : rows.length ≤ 1048577) :
    BodyOK Tryz.prog (lbody Tryz.prog 33 0) 71 5 (I33 host nL lrows i f rows) .normal (I33 host nL lrows (i + 1) (f.step (spConn l host)) (addPort rows l)) := by
  cases rows with
  | nil =>
    cases f with
    | l => exact b33zL_rd hi hn hll hlen hh hnL hr
    | t => exact b33zT_rd hi hn hll hlen hh hnL hr
    | b x => cases x with
      | true => exact b33zBT_rd hi hn hll hlen hh hnL hr
      | false => exact b33zBF_rd hi hn hll hlen hh hnL hr
  | cons r rs =>
    cases f with
    | l => exact b33oL_rd hi hn hll hlen hh hnL hr
    | t => exact b33oT_rd hi hn hll hlen hh hnL hr
    | b x => cases x with
      | true => exact b33oBT_rd hi hn hll hlen hh hnL hr
      | false => exact b33oBF_rd hi hn hll hlen hh hnL hr
theorem loop33 {host : Int} {ls : List (List UInt8)} {lrows : List (List AV)} (hl : lrows = ls.map fun l => [AV.str l]) (hlen : ∀ l ∈ ls, l.length ≤ 1048576) (hh : 0 ≤ host ∧ host < 4294967296) (hnL : ls.length ≤ 1048577) :
    LoopOK Tryz.prog (lbody Tryz.prog 33 0) 71 (b33zLI host lrows.length 0 lrows) (.exit 0) (X33 (fkOf host ls) (spPortRows ls)) := by
  have hll : lrows.length = ls.length := by rw [hl, List.length_map]
  refine loop_rule (X := Nat) (I := fun k => I33 host lrows.length lrows k (fkOf host (ls.take k)) (spPortRows (ls.take k))) (pre := fun k => k ≤ ls.length) (μ := fun k => ls.length - k) _ _ rfl (fun ρ => by simp [Ex.conc]) ?_ (x0 := 0) (pick := []) (Nat.zero_le _) ⟨by kernel_rfl, map_fst_snd (by kernel_rfl)⟩
  intro k hk
  by_cases hkl : k < ls.length
  · left
    refine ⟨k + 1, by omega, by omega, ?_⟩
    have e1 : fkOf host (ls.take (k + 1)) = (fkOf host (ls.take k)).step (spConn ls[k] host) := by rw [take_snoc hkl, fk_snoc]
    have e2 : spPortRows (ls.take (k + 1)) = addPort (spPortRows (ls.take k)) ls[k] := by
      unfold spPortRows; rw [take_snoc hkl, List.foldl_append]; rfl
    show BodyOK _ _ _ _ _ _ (I33 host lrows.length lrows (k + 1) (fkOf host (ls.take (k + 1))) (spPortRows (ls.take (k + 1))))
    rw [e1, e2]
    have hp := ports_len (ls.take k) []
    rw [List.length_take] at hp
    simp only [List.length_nil] at hp
    refine round33 (by omega) rfl ?_ (hlen _ (List.getElem_mem hkl)) hh (by omega) (by show ((ls.take k).foldl addPort []).length ≤ _; omega)
    rw [hl, Int.toNat_natCast, Nat.zero_add]
    simp [List.getD_eq_getElem?_getD, hkl, AV.toStr]
  · right
    have hke : k = ls.length := by omega
    subst hke
    rw [List.take_length]
    have c0 : decide (((ls.length : Nat) : Int) < ((lrows.length : Nat) : Int)) = false := decide_eq_false (by omega)
    generalize fkOf host ls = f
    generalize spPortRows ls = rows
    cases rows with
    | nil =>
      cases f with
      | l => exact body_by PR_ok (b33zL_F host lrows.length ls.length lrows) rfl ⟨trivial, c0⟩ rfl
      | t => exact body_by PR_ok (b33zT_F host lrows.length ls.length lrows) rfl ⟨trivial, c0⟩ rfl
      | b x => exact body_by PR_ok (b33zB_F host lrows.length ls.length lrows x) rfl ⟨trivial, c0⟩ rfl
    | cons r rs =>
      cases f with
      | l => exact body_by PR_ok (b33oL_F host lrows.length ls.length lrows (r :: rs) false 0) rfl ⟨trivial, c0⟩ rfl
      | t => exact body_by PR_ok (b33oT_F host lrows.length ls.length lrows (r :: rs) false 0) rfl ⟨trivial, c0⟩ rfl
      | b x => exact body_by PR_ok (b33oB_F host lrows.length ls.length lrows x (r :: rs) false 0) rfl ⟨trivial, c0⟩ rfl
theorem fk_ne {host : Int} {ls : List (List UInt8)} (h : ls ≠ []) : fkOf host ls ≠ .l := by
  rcases List.eq_nil_or_concat ls with h0 | ⟨t, a, h0⟩
  · exact absurd h0 h
  · rw [h0, List.concat_eq_append, fk_snoc]; exact Fk.step_ne _ _
def PostQ (w : World) (host : Int) (s : List UInt8) (e : Ending) (w' : World) : Prop :=
  (∃ v, e = .returned v ∧ NewSl w.heap.size w' [.int .u16] (spPorts host s) v) ∧ Ext w w'
theorem ref_ports_calls {w : World} {start : List UInt8} {hrows : List (List AV)} {s : List UInt8} {hv bv : Value} {host : Int} (gw : GW w) (h1 : Reads w [.str, .str] hrows hv) (h2 : Reads w [.int .u8] (byteRows s) bv) (hs : s.length ≤ 1048576)
    (hcap : ∀ a n c, bv = .slice a n c → n ≤ c) (hh : 0 ≤ host ∧ host < 4294967296) :
    Calls Tryz.prog 33 #[.agg #[.string ⟨start.toArray⟩, hv, bv], .int .u32 host] w (PostQ w host s) := by
  obtain ⟨x1, hx1⟩ := h1.bi gw rfl
  obtain ⟨ln1, ln2⟩ := len_lines (s.length + 1) s
  have hsub : ∀ (brows : List (List AV)), sub brows 0 (List.length brows) = brows := fun b => sub_all b rfl
  have hls : (spLines s).map Prod.fst ≠ [] := by
    have := split_pos s
    intro e
    unfold spSplit at this
    rw [e] at this; exact absurd this (by decide)
  have hlr : spLineRows s = ((spLines s).map Prod.fst).map fun l => [AV.str l] := by unfold spLineRows; rw [List.map_map]; rfl
  have hL0 := loop33 (host := host) hlr (fun l hl => by
    obtain ⟨q, hq, rfl⟩ := List.mem_map.1 hl
    have := (ln2 q hq).1; omega) hh (by rw [List.length_map]; exact Nat.le_trans ln1 (by omega))
  have hon := fk_any host ((spLines s).map Prod.fst)
  have hne := fk_ne (host := host) hls
  have hSp : spPorts host s = bif (fkOf host ((spLines s).map Prod.fst)).on then spPortRows ((spLines s).map Prod.fst) else [] := by unfold spPorts; rw [hon]
  have key : ∀ {brows : List (List AV)} {ρ : Nat → BI}, brows = byteRows s → HSim ρ (addBlks .e 0 [Blk.cells false [Kd.str, Kd.str] hrows, Blk.cells false [Kd.int IntKind.u8] brows]) ([Blk.cells false [Kd.str, Kd.str] hrows, Blk.cells false [Kd.int IntKind.u8] brows] : List Blk).length w →
      (∀ c k, (addBlks .e 0 [Blk.cells false [Kd.str, Kd.str] hrows, Blk.cells false [Kd.int IntKind.u8] brows]).get c = some k → k.isRw = false) ∧
      (∀ (args : Array Value), Calls Tryz.prog 33 args w (fun e w' => e = .returned (conc ρ .nilSl) ∧ Ext w w') → spPorts host s = [] → Calls Tryz.prog 33 args w (PostQ w host s)) ∧
      (∀ (args : Array Value) (rows : List (List AV)), Calls Tryz.prog 33 args w (fun e w' => ∃ ρ', e = .returned (conc ρ' (.sl ⟨2, 0, 0⟩ rows.length .open_)) ∧ HStep ρ (addBlks .e 0 [Blk.cells false [Kd.str, Kd.str] hrows, Blk.cells false [Kd.int IntKind.u8] brows]) ([Blk.cells false [Kd.str, Kd.str] hrows, Blk.cells false [Kd.int IntKind.u8] brows] : List Blk).length w ρ' (Tr.ofList [(2, .cells true [Kd.int IntKind.u16] rows)]) 3 w') → spPorts host s = rows → Calls Tryz.prog 33 args w (PostQ w host s)) := by
    intro brows ρ _ hE
    have hro : ∀ c k, (addBlks .e 0 [Blk.cells false [Kd.str, Kd.str] hrows, Blk.cells false [Kd.int IntKind.u8] brows]).get c = some k → k.isRw = false := by
      intro c k hk
      rw [addBlks_get] at hk
      split at hk
      · rename_i h
        match hc : c, hk with
        | 0, hk => simp at hk; subst hk; rfl
        | 1, hk => simp at hk; subst hk; rfl
        | c + 2, hk => simp at hk
      · cases c <;> cases hk
    refine ⟨hro, fun args hc hsp => hc.mono fun e w' hq => ?_, fun args rows hc hsp => hc.mono fun e w' hq => ?_⟩
    · obtain ⟨rfl, he⟩ := hq
      unfold PostQ
      rw [hsp]
      exact ⟨⟨_, rfl, NewSl.none (ρ' := ρ) (hE.gw.ext he) rfl⟩, he⟩
    · obtain ⟨ρ', rfl, st⟩ := hq
      unfold PostQ
      rw [hsp]
      exact ⟨⟨conc ρ' (.sl ⟨2, 0, 0⟩ rows.length .open_), rfl, NewSl.of_rw st (by rw [ofList_cons, if_pos rfl]) hro rfl rfl⟩, st.below hro⟩
  by_cases h0 : s.length = 0
  · have hs0 : s = [] := List.length_eq_zero_iff.1 h0
    subst hs0
    obtain ⟨y1, hy1⟩ := h2.bi gw rfl
    obtain ⟨ρ0, hρ0⟩ : ∃ ρ0 : Nat → BI, (fun i => if i = 0 then x1 else y1) = ρ0 := ⟨_, rfl⟩
    have k0 : ρ0 0 = x1 := by rw [← hρ0]; rfl
    have k1 : ρ0 1 = y1 := by rw [← hρ0]; rfl
    have hE : HSim ρ0 (addBlks .e 0 [Blk.cells false [Kd.str, Kd.str] hrows, Blk.cells false [Kd.int IntKind.u8] (byteRows [])]) ([Blk.cells false [Kd.str, Kd.str] hrows, Blk.cells false [Kd.int IntKind.u8] (byteRows [])] : List Blk).length w := HSim.ins gw (fun i blk hi => by
      match i with
      | 0 => simp at hi; subst hi; exact ⟨(hx1 ρ0 0 k0).2, rfl, rfl⟩
      | 1 => simp at hi; subst hi; exact ⟨(hy1 ρ0 1 k1).2, rfl, rfl⟩
      | i + 2 => simp at hi)
    obtain ⟨_, fN, _⟩ := key rfl hE
    have ea : concL ρ0 [AV.agg [.str start, .slq 0 hrows.length, .slq 1 (byteRows []).length], .int .u32 host] = [.agg #[.string ⟨start.toArray⟩, hv, bv], .int .u32 host] := by
      show [Value.agg (concL ρ0 [AV.str start, .slq 0 hrows.length, .slq 1 (byteRows []).length]).toArray, _] = _
      simp only [concL]
      rw [(hx1 ρ0 0 k0).1, (hy1 ρ0 1 k1).1]
      rfl
    have cb : (decide (0 + List.length (byteRows []) ≤ List.length (byteRows [])) && (List.all (sub (byteRows []) 0 (List.length (byteRows []))) spByteOk && decide (List.length (byteRows []) = 0 ∧ List.length (sub (byteRows []) 0 (List.length (byteRows []))) ≤ 1048576))) = true := by decide
    have hL : LoopOK Tryz.prog (lbody Tryz.prog 33 0) 71 (b33zLI host (List.length (spLineRows (List.map rowByte (sub (byteRows []) 0 (List.length (byteRows [])))))) 0 (spLineRows (List.map rowByte (sub (byteRows []) 0 (List.length (byteRows [])))))) (.exit 0) (x33zB (spConn [] host)) := hL0
    have hc0 : spConn [] host = false := rfl
    rw [hc0] at hL
    refine fN _ ?_ (by unfold spPorts; rfl)
    have hcall := calls_pureB PR_ok (c33qzB_LT start hrows (byteRows []) host false) ⟨⟨⟨⟨trivial, rfl⟩, cb⟩, hL⟩, rfl⟩ hE rfl rfl rfl
    rw [ea] at hcall
    exact hcall
  · generalize hbr : byteRows s = brows at h2
    cases h2 with
    | nil h => rw [← hbr] at h; have := congrArg List.length h; rw [byteRows_length] at this; exact absurd this h0
    | cells bi c h =>
      subst hbr
      have hle := hcap _ _ _ rfl
      obtain ⟨ρ0, hρ0⟩ : ∃ ρ0 : Nat → BI, (fun i => if i = 0 then x1 else bi) = ρ0 := ⟨_, rfl⟩
      have k0 : ρ0 0 = x1 := by rw [← hρ0]; rfl
      have k1 : ρ0 1 = bi := by rw [← hρ0]; rfl
      have hE : HSim ρ0 (addBlks .e 0 [Blk.cells false [Kd.str, Kd.str] hrows, Blk.cells false [Kd.int IntKind.u8] (byteRows s)]) ([Blk.cells false [Kd.str, Kd.str] hrows, Blk.cells false [Kd.int IntKind.u8] (byteRows s)] : List Blk).length w := HSim.ins gw (fun i blk hi => by
        match i with
        | 0 => simp at hi; subst hi; exact ⟨(hx1 ρ0 0 k0).2, rfl, rfl⟩
        | 1 => simp at hi; subst hi; exact ⟨Blk.sat_at (ρ := fun _ => bi) (b := 0) rfl k1 h, rfl, rfl⟩
        | i + 2 => simp at hi)
      obtain ⟨_, fN, fR⟩ := key rfl hE
      have ea : concL ρ0 [AV.agg [.str start, .slq 0 hrows.length, .sl ⟨1, 0, 0⟩ (byteRows s).length (.known c)], .int .u32 host] = [.agg #[.string ⟨start.toArray⟩, hv, .slice (some ⟨bi.blk, bi.off, none⟩) (byteRows s).length c], .int .u32 host] := by
        show [Value.agg (concL ρ0 [AV.str start, .slq 0 hrows.length, .sl ⟨1, 0, 0⟩ (byteRows s).length (.known c)]).toArray, _] = _
        simp only [concL]
        rw [(hx1 ρ0 0 k0).1]
        simp [conc, addr, capOf, k1]
      have cb : (decide (0 + List.length (byteRows s) ≤ List.length (byteRows s)) && (List.all (sub (byteRows s) 0 (List.length (byteRows s))) spByteOk && decide (List.length (byteRows s) ≤ c ∧ List.length (sub (byteRows s) 0 (List.length (byteRows s))) ≤ 1048576))) = true := by
        rw [hsub, byteRows_ok, byteRows_length] at *
        simp only [Bool.and_eq_true, decide_eq_true_eq, true_and]
        omega
      have eS : List.map rowByte (sub (byteRows s) 0 (List.length (byteRows s))) = s := by rw [hsub, rowsB]
      have hL1 : LoopOK Tryz.prog (lbody Tryz.prog 33 0) 71 (b33zLI host (List.length (spLineRows (List.map rowByte (sub (byteRows s) 0 (List.length (byteRows s)))))) 0 (spLineRows (List.map rowByte (sub (byteRows s) 0 (List.length (byteRows s)))))) (.exit 0) (X33 (fkOf host ((spLines s).map Prod.fst)) (spPortRows ((spLines s).map Prod.fst))) := by
        rw [eS]; exact hL0
      generalize fkOf host ((spLines s).map Prod.fst) = f at hL1 hSp hne
      generalize spPortRows ((spLines s).map Prod.fst) = rows at hL1 hSp
      rw [← ea]
      cases f with
      | l => exact absurd rfl hne
      | t =>
        cases rows with
        | nil =>
          have hL : LoopOK Tryz.prog (lbody Tryz.prog 33 0) 71 _ (.exit 0) x33zT := hL1
          exact fN _ (calls_pureB PR_ok (c33kzT_L start hrows (byteRows s) c host) ⟨⟨⟨trivial, rfl⟩, cb⟩, hL⟩ hE rfl rfl rfl) hSp
        | cons r rs =>
          have hL : LoopOK Tryz.prog (lbody Tryz.prog 33 0) 71 _ (.exit 0) (x33oT (r :: rs)) := hL1
          exact fR _ (r :: rs) (calls_ofB PR_ok (c33koT_L start hrows (byteRows s) c host (r :: rs)) ⟨⟨⟨trivial, rfl⟩, cb⟩, hL⟩ hE rfl) hSp
      | b x =>
        cases rows with
        | nil =>
          have hL : LoopOK Tryz.prog (lbody Tryz.prog 33 0) 71 _ (.exit 0) (x33zB x) := hL1
          cases x with
          | true => exact fN _ (calls_pureB PR_ok (c33kzB_LF start hrows (byteRows s) c host true) ⟨⟨⟨⟨trivial, rfl⟩, cb⟩, hL⟩, rfl⟩ hE rfl rfl rfl) hSp
          | false => exact fN _ (calls_pureB PR_ok (c33kzB_LT start hrows (byteRows s) c host false) ⟨⟨⟨⟨trivial, rfl⟩, cb⟩, hL⟩, rfl⟩ hE rfl rfl rfl) hSp
        | cons r rs =>
          have hL : LoopOK Tryz.prog (lbody Tryz.prog 33 0) 71 _ (.exit 0) (x33oB x (r :: rs)) := hL1
          cases x with
          | true => exact fR _ (r :: rs) (calls_ofB PR_ok (c33koB_LF start hrows (byteRows s) c host true (r :: rs)) ⟨⟨⟨⟨trivial, rfl⟩, cb⟩, hL⟩, rfl⟩ hE rfl) hSp
          | false => exact fN _ (calls_pureB PR_ok (c33koB_LT start hrows (byteRows s) c host false (r :: rs)) ⟨⟨⟨⟨trivial, rfl⟩, cb⟩, hL⟩, rfl⟩ hE rfl rfl rfl) hSp
def q33 : Entry := fun args hp nx => match args with
  | [.agg [.str start, hv, .slq l n], .int .u32 host] => match slIn hp [.str, .str] hv, slIn hp [.int .u8] (.slq l n) with
    | some (c1, hrows), some (c2, brows) => some (c1 && (c2 && (brows.all spByteOk && decide (n = 0 ∧ brows.length ≤ 1048576 ∧ 0 ≤ host ∧ host < 4294967296))), .slq nx (spPorts host (brows.map rowByte)).length, [.cells false [.int .u16] (spPorts host (brows.map rowByte))])
    | _, _ => none
  | [.agg [.str start, hv, .sl l n (.known c)], .int .u32 host] => match slIn hp [.str, .str] hv, slIn hp [.int .u8] (.sl l n (.known c)) with
    | some (c1, hrows), some (c2, brows) => some (c1 && (c2 && (brows.all spByteOk && decide (n ≤ c ∧ brows.length ≤ 1048576 ∧ 0 ≤ host ∧ host < 4294967296))), .slq nx (spPorts host (brows.map rowByte)).length, [.cells false [.int .u16] (spPorts host (brows.map rowByte))])
    | _, _ => none
  | _ => none
theorem postQ_entry {ρ : Nat → BI} {hp : Tr Blk} {nx : Nat} {w : World} {s : List UInt8} {host : Int} {vs : Array Value} (hs : HSim ρ hp nx w) (h : Calls Tryz.prog 33 vs w (PostQ w host s)) :
    Calls Tryz.prog 33 vs w (fun e w' => ∃ ρ', e = .returned (conc ρ' (.slq nx (spPorts host s).length)) ∧ (AV.slq nx (spPorts host s).length).idsB (nx + [Blk.cells false [.int .u16] (spPorts host s)].length) = true ∧ HStep ρ hp nx w ρ' (addBlks hp nx [.cells false [.int .u16] (spPorts host s)]) (nx + [Blk.cells false [.int .u16] (spPorts host s)].length) w') := by
  refine h.mono fun e w' hq => ?_
  obtain ⟨⟨v1, rfl, ⟨b3, n3, g3⟩⟩, he⟩ := hq
  have e1 : extB ρ nx [b3] nx = b3 := by have := extB_new ρ nx [b3] 0; simpa using this
  have st := HStep.bis (bs := [Blk.cells false [.int .u16] (spPorts host s)]) [b3] hs he (fun i blk hi => by
    obtain ⟨rfl, rfl⟩ := bs1 hi
    exact ⟨rfl, n3, rfl, fun ρ' b hb => (g3 ρ' b hb).2⟩)
  refine ⟨_, ?_, ?_, st⟩
  · have k1 := (g3 _ _ e1).1
    simp only [conc] at k1 ⊢
    rw [k1]
  · simp [AV.idsB, blt_iff]
theorem q33_ok : EntryOK Tryz.prog 33 q33 := by
  intro args hp nx c v bs h hc ρ w hs hi
  unfold q33 at h
  split at h
  · rename_i start hv l n host
    split at h
    · rename_i c1 hrows c2 brows hs1 hs2
      cases h
      simp only [Bool.and_eq_true] at hc
      obtain ⟨hc1, hc2, hc3, hc4⟩ := hc
      obtain ⟨hk, hl, hh⟩ := of_decide_eq_true hc4
      have hr := slIn_spec hs hs2 hc2 rfl
      rw [bytes_of hc3] at hr
      exact postQ_entry hs (ref_ports_calls hs.gw (slIn_spec hs hs1 hc1 rfl) hr (by rw [List.length_map]; exact hl) (fun a n' c' h => by
        simp only [conc] at h
        split at h
        · cases h; exact Nat.le_refl _
        · cases h; omega) hh)
    · cases h
  · rename_i start hv l n k host
    split at h
    · rename_i c1 hrows c2 brows hs1 hs2
      cases h
      simp only [Bool.and_eq_true] at hc
      obtain ⟨hc1, hc2, hc3, hc4⟩ := hc
      obtain ⟨hk, hl, hh⟩ := of_decide_eq_true hc4
      have hr := slIn_spec hs hs2 hc2 rfl
      rw [bytes_of hc3] at hr
      exact postQ_entry hs (ref_ports_calls hs.gw (slIn_spec hs hs1 hc1 rfl) hr (by rw [List.length_map]; exact hl) (fun a n' c' h => by simp only [conc, capOf] at h; cases h; exact hk) hh)
    · cases h
  · cases h
end Go.Proofs.YtpdgmgkkbbndfaaGreatDoor

set_option maxRecDepth 100000
namespace Go.Proofs.YtpdgmgkkbbndfaaGreatDoor
open Go Go.Proofs Go.Proofs.YtpdgmgkkbbndfaaGreatDoor.SX
theorem sub_whl {α : Type} (l : List α) : sub l 0 (List.length l) = l := sub_all l rfl
end Go.Proofs.YtpdgmgkkbbndfaaGreatDoor

set_option maxRecDepth 100000
set_option maxHeartbeats 1600000
namespace Go.Proofs.YtpdgmgkkbbndfaaGreatDoor
open Go Go.Proofs Go.Proofs.YtpdgmgkkbbndfaaGreatDoor.SX
theorem c13_F (start : List UInt8) (hrows : List (List AV)) (brows : List (List AV)) :
 Path (runCallB Tryz.prog Pr 100 13 [AV.agg [AV.str start, AV.slq 0 (List.length hrows), AV.slq 1 (List.length brows)]] (st0 [Blk.cells false [Kd.str, Kd.str] hrows, Blk.cells false [Kd.int IntKind.u8] brows] ([.as_ false]))) 2 [] (SL.mk [] [] 2) (Out.ret (AV.agg [AV.str start, AV.slq 0 (List.length hrows), AV.slq 1 (List.length brows)]))
 ((((((((((True ∧ (true = true)) ∧ (decide ((↑(List.length hrows) : Int) > (100 : Int)) = false)) ∧ (true = true)) ∧ (true = true)) ∧ (true = true)) ∧ (true = true)) ∧ (true = true)) ∧ (true = true)) ∧ (true = true)) ∧ (true = true)) := by unfold Path; kernel_rfl
theorem c13s_T (start : List UInt8) (hrows : List (List AV)) (brows : List (List AV)) (c : Nat) :
 Path (runCallB Tryz.prog Pr 100 13 [AV.agg [AV.str start, AV.sl (Loc.mk 0 0 0) (List.length hrows) (Cap.known c), AV.slq 1 (List.length brows)]] (st0 [Blk.cells false [Kd.str, Kd.str] hrows, Blk.cells false [Kd.int IntKind.u8] brows] ([.as_ true]))) 2 [] (SL.mk [] [] 2) (Out.ret (AV.agg [AV.str start, AV.sl (Loc.mk 0 (0) 0) 100 (Cap.known (Int.toNat (↑c : Int) - 0)), AV.slq 1 (List.length brows)]))
 ((((((((((((((True ∧ (true = true)) ∧ (decide ((↑(List.length hrows) : Int) > (100 : Int)) = true)) ∧ (true = true)) ∧ (decide ((0 : Int) ≤ (0 : Int) ∧ (0 : Int) ≤ (100 : Int) ∧ (100 : Int) ≤ (↑c : Int) ∧ (↑c : Int) ≤ (↑c : Int)) = true)) ∧ (true = true)) ∧ (true = true)) ∧ (true = true)) ∧ (true = true)) ∧ (true = true)) ∧ (true = true)) ∧ (true = true)) ∧ (true = true)) ∧ (true = true)) ∧ (true = true)) := by unfold Path; kernel_rfl
theorem few_ins {w : World} {r1 r2 : List (List AV)} {v1 v2 : Value} (gw : GW w) (h1 : Reads w [.str, .str] r1 v1) (hp : 0 < r1.length) (h2 : Reads w [.int .u8] r2 v2) :
    ∃ (ρ0 : Nat → BI) (c : Nat), HSim ρ0 (addBlks .e 0 [Blk.cells false [Kd.str, Kd.str] r1, Blk.cells false [Kd.int IntKind.u8] r2]) ([Blk.cells false [Kd.str, Kd.str] r1, Blk.cells false [Kd.int IntKind.u8] r2] : List Blk).length w ∧ conc ρ0 (.sl ⟨0, 0, 0⟩ r1.length (.known c)) = v1 ∧ conc ρ0 (.slq 1 r2.length) = v2 ∧ ∃ a, v1 = .slice a r1.length c := by
  cases h1 with
  | nil h => rw [h] at hp; exact absurd hp (by decide)
  | cells bi c h =>
    obtain ⟨b2, hb2⟩ := h2.bi gw rfl
    refine ⟨fun i => if i = 0 then bi else b2, c, HSim.ins gw (fun i blk hi => ?_), by simp [conc, addr, capOf], (hb2 _ 1 rfl).1, _, rfl⟩
    match i with
    | 0 => simp at hi; subst hi; exact ⟨Blk.sat_at (ρ := fun _ => bi) (b := 0) rfl rfl h, rfl, rfl⟩
    | 1 => simp at hi; subst hi; exact ⟨(hb2 _ 1 rfl).2, rfl, rfl⟩
    | i + 2 => simp at hi
def q13 : Entry := fun args hp nx => match args with
  | [.agg [.str start, .slq b n, bv]] => match slIn hp [.str, .str] (.slq b n), slIn hp [.int .u8] bv with
    | some (c1, hrows), some (c2, brows) => some (c1 && (c2 && decide (hrows.length ≤ 100)), .agg [.str start, .slq b n, bv], [])
    | _, _ => none
  | [.agg [.str start, .sl ⟨b, 0, 0⟩ n (.known c), bv]] => match slIn hp [.str, .str] (.sl ⟨b, 0, 0⟩ n (.known c)), slIn hp [.int .u8] bv with
    | some (c1, hrows), some (c2, brows) => some (c1 && (c2 && decide (100 < hrows.length ∧ 100 ≤ c)), .agg [.str start, .sl ⟨b, 0, 0⟩ 100 (.known c), bv], [])
    | _, _ => none
  | _ => none
theorem q13_ok : EntryOK Tryz.prog 13 q13 := by
  intro args hp nx c v bs h hc ρ w hs hi
  unfold q13 at h
  split at h
  · rename_i start b n bv
    split at h
    · rename_i c1 hrows c2 brows hs1 hs2
      cases h
      simp only [Bool.and_eq_true] at hc
      obtain ⟨hc1, hc2, hc3⟩ := hc
      have g1 := of_decide_eq_true hc3
      obtain ⟨ρ0, hE, e1, e2⟩ := two_ro hs hs1 hc1 hs2 hc2
      refine entry_pure hs (by simp only [idsBL, Bool.and_true] at hi; exact hi) ?_
      have hcall := calls_pureB Pr_ok (c13_F start hrows brows) ⟨⟨⟨⟨⟨⟨⟨⟨⟨⟨trivial, rfl⟩, (decide_eq_false (by omega))⟩, rfl⟩, rfl⟩, rfl⟩, rfl⟩, rfl⟩, rfl⟩, rfl⟩, rfl⟩ hE rfl rfl rfl
      have ea : concL ρ0 [AV.agg [AV.str start, AV.slq 0 hrows.length, AV.slq 1 brows.length]] = concL ρ [AV.agg [.str start, .slq b n, bv]] := by
        show [Value.agg (concL ρ0 [AV.str start, .slq 0 hrows.length, .slq 1 brows.length]).toArray] = _
        simp only [concL]
        rw [e1, e2]
        rfl
      have eb : conc ρ0 (AV.agg [AV.str start, AV.slq 0 hrows.length, AV.slq 1 brows.length]) = conc ρ (AV.agg [.str start, .slq b n, bv]) := List.cons.inj ea |>.1
      rw [ea, eb] at hcall
      exact hcall
    · cases h
  · rename_i start b n k bv
    split at h
    · rename_i c1 hrows c2 brows hs1 hs2
      cases h
      simp only [Bool.and_eq_true] at hc
      obtain ⟨hc1, hc2, hc3⟩ := hc
      obtain ⟨g1, g2⟩ := of_decide_eq_true hc3
      obtain ⟨ρ0, k', hE, e1, e2, a, ha⟩ := few_ins hs.gw (slIn_spec hs hs1 hc1 rfl) (by omega) (slIn_spec hs hs2 hc2 rfl)
      have hk : k' = k := by
        simp only [conc, capOf] at ha
        injection ha with _ _ h3
        exact h3.symm
      subst hk
      have e3 : conc ρ0 (.sl ⟨0, 0, 0⟩ 100 (.known k')) = conc ρ (.sl ⟨b, 0, 0⟩ 100 (.known k')) := by
        simp only [conc, capOf] at e1 ⊢
        injection e1 with h1 _ _
        rw [h1]
      refine entry_pure hs (by simp only [idsBL, Bool.and_true] at hi; exact hi) ?_
      have hcall := calls_pureB Pr_ok (c13s_T start hrows brows k') ⟨⟨⟨⟨⟨⟨⟨⟨⟨⟨⟨⟨⟨⟨trivial, rfl⟩, (decide_eq_true (by omega))⟩, rfl⟩, (decide_eq_true (by omega))⟩, rfl⟩, rfl⟩, rfl⟩, rfl⟩, rfl⟩, rfl⟩, rfl⟩, rfl⟩, rfl⟩, rfl⟩ hE rfl rfl rfl
      have ea : concL ρ0 [AV.agg [AV.str start, AV.sl ⟨0, 0, 0⟩ hrows.length (.known k'), AV.slq 1 brows.length]] = concL ρ [AV.agg [.str start, .sl ⟨b, 0, 0⟩ n (.known k'), bv]] := by
        show [Value.agg (concL ρ0 [AV.str start, .sl ⟨0, 0, 0⟩ hrows.length (.known k'), .slq 1 brows.length]).toArray] = _
        simp only [concL]
        rw [e1, e2]
        rfl
      have eb : conc ρ0 (AV.agg [AV.str start, AV.sl ⟨0, 0, 0⟩ 100 (.known k'), AV.slq 1 brows.length]) = conc ρ (AV.agg [.str start, .sl ⟨b, 0, 0⟩ 100 (.known k'), bv]) := by
        show Value.agg (concL ρ0 [AV.str start, .sl ⟨0, 0, 0⟩ 100 (.known k'), .slq 1 brows.length]).toArray = _
        simp only [concL]
        rw [e3, e2]
        rfl
      rw [ea] at hcall
      rw [← eb]
      exact hcall
    · cases h
  · cases h
end Go.Proofs.YtpdgmgkkbbndfaaGreatDoor

set_option maxRecDepth 100000
set_option maxHeartbeats 6400000
namespace Go.Proofs.YtpdgmgkkbbndfaaGreatDoor
open Go Go.Proofs Go.Proofs.YtpdgmgkkbbndfaaGreatDoor.SX Go.Proofs.YtpdgmgkkbbndfaaGreatDoor
open Go.ChangeShapes Go.WideShapes Go.ChangeAt Go.RowKit
theorem add_eq {a : Addr} (h : a.spot = none) (k : Nat) : a.add k = ⟨a.block, a.off + k, none⟩ := by
  obtain ⟨b, o, s⟩ := a
  have h : s = none := h
  subst h
  unfold Addr.add
  by_cases hk : k = 0
  · rw [if_pos hk, hk]; rfl
  · rw [if_neg hk]
def strAt (W : World) (b o : Nat) : List UInt8 := match W.cell? ⟨b, o, none⟩ with | some (.string s) => s.data.toList | _ => []
def intAt (W : World) (b o : Nat) : Int := match W.cell? ⟨b, o, none⟩ with | some (.int _ n) => n | _ => 0
theorem ba_eta (s : ByteArray) : (⟨s.data.toList.toArray⟩ : ByteArray) = s := by cases s; simp
theorem hdr_cell {H : Type} {enc : TypeId × Value → H} {W : World} {sp : Nat → Bool} {held : Bool} {n k : Nat} {a : Addr} {e : DataW H × List MemPlace} (hs : a.spot = none)
    (h : (W.cells? 0 (a.add k) 2).bind (DataW.trod enc Tryz.prog W 0 sp held n 44) = some e) :
    ∃ s0 s1 : ByteArray, W.cell? ⟨a.block, a.off + k, none⟩ = some (.string s0) ∧ W.cell? ⟨a.block, a.off + (k + 1), none⟩ = some (.string s1) ∧ e.1 = .agg [.lit (.string s0.data.toList), .lit (.string s1.data.toList)] := by
  obtain ⟨l, hl, ht⟩ := Option.bind_eq_some_iff.1 h
  obtain ⟨xs, m, _, ex, hlen, hxs, hf⟩ := DataW.trod_struct Tryz.underlying44 ht
  have hc9 : Tryz.prog.cellsOf 9 = 1 := by kernel_rfl
  have hc44 : Tryz.prog.cellsOf 44 = 2 := by kernel_rfl
  rw [hc44] at hlen
  have hx2 : xs.length = 2 := hxs
  match l, hlen, xs, hx2 with
  | [c0, c1], _, [x0, x1], _ =>
    have h0 : DataW.trod enc Tryz.prog W 0 sp held m 9 (([c0, c1].drop 0).take (Tryz.prog.cellsOf 9)) = some x0 := hf 0 _ rfl
    have h1 : DataW.trod enc Tryz.prog W 0 sp held m 9 (([c0, c1].drop 1).take (Tryz.prog.cellsOf 9)) = some x1 := hf 1 _ rfl
    rw [hc9] at h0 h1
    obtain ⟨s0, e0, f0, _⟩ := DataW.trod_string Tryz.underlying9 (show DataW.trod enc Tryz.prog W 0 sp held m 9 [c0] = some x0 from h0)
    obtain ⟨s1, e1, f1, _⟩ := DataW.trod_string Tryz.underlying9 (show DataW.trod enc Tryz.prog W 0 sp held m 9 [c1] = some x1 from h1)
    cases e0; cases e1
    unfold World.cells? at hl
    rw [if_pos (Nat.zero_le _)] at hl
    have hr : List.range 2 = [0, 1] := rfl
    rw [hr] at hl
    simp only [List.mapM_cons, List.mapM_nil, Option.bind_eq_bind, Option.bind_eq_some_iff, Option.pure_def, Option.some.injEq, List.cons.injEq] at hl
    obtain ⟨y0, hy0, r, ⟨y1, hy1, r2, hr2, hr⟩, hy⟩ := hl
    subst hr2
    obtain ⟨rfl, hy⟩ := hy
    subst hr
    simp only [List.cons.injEq, and_true] at hy
    subst hy
    rw [add_eq hs] at hy0 hy1
    refine ⟨s0, s1, by simpa [Addr.add] using hy0, by simpa [Addr.add, Nat.add_assoc] using hy1, ?_⟩
    rw [ex, f0, f1]
    rfl
theorem byte_cell {H : Type} {enc : TypeId × Value → H} {W : World} {sp : Nat → Bool} {held : Bool} {n k t : Nat} {kk : IntKind} {a : Addr} {e : DataW H × List MemPlace} (hs : a.spot = none) (hu : Tryz.prog.underlying t = some (.int kk))
    (h : (W.cells? 0 (a.add k) 1).bind (DataW.trod enc Tryz.prog W 0 sp held n t) = some e) : ∃ z : Int, W.cell? ⟨a.block, a.off + k, none⟩ = some (.int kk z) ∧ kk.min ≤ z ∧ z ≤ kk.max := by
  obtain ⟨l, hl, ht⟩ := Option.bind_eq_some_iff.1 h
  obtain ⟨z, rfl, _, hz⟩ := DataW.trod_int hu ht
  unfold World.cells? at hl
  rw [if_pos (Nat.zero_le _)] at hl
  have hr : List.range 1 = [0] := rfl
  rw [hr] at hl
  simp only [List.mapM_cons, List.mapM_nil, Option.bind_eq_bind, Option.bind_eq_some_iff, Option.pure_def, Option.some.injEq, List.cons.injEq] at hl
  obtain ⟨y0, hy0, r, hr1, hy⟩ := hl
  subst hr1
  obtain ⟨rfl, _⟩ := hy
  rw [add_eq hs] at hy0
  refine ⟨z, by simpa [Addr.add] using hy0, ?_⟩
  unfold Lit.wf at hz
  simpa using hz
theorem bulk_mem {H : Type} : ∀ {l : List (DataW H)} {d : DataW H}, d ∈ l → Rows.uptoBulk d ≤ Rows.uptoBulkAll l
  | x :: l, d, h => by
    unfold Rows.uptoBulkAll
    rcases List.mem_cons.1 h with rfl | h
    · omega
    · have := bulk_mem h; omega
theorem bulk_pos {H : Type} (d : DataW H) : 1 ≤ Rows.uptoBulk d := by
  cases d with
  | lit l => cases l <;> simp [Rows.uptoBulk]
  | _ => simp [Rows.uptoBulk]
theorem bulk_len {H : Type} : ∀ (l : List (DataW H)), l.length ≤ Rows.uptoBulkAll l
  | [] => by simp
  | x :: l => by
    have := bulk_len l
    have := bulk_pos x
    unfold Rows.uptoBulkAll
    simp only [List.length_cons]; omega
theorem slice_has {W : World} {b0 t e : TypeId} {a : Addr} {len cap : Nat} (hu : Tryz.prog.underlying t = some (.slice e)) (h : Cell.okWide Tryz.prog W .any b0 t (.slice (some a) len cap)) : a.spot = none ∧ ∃ c tt fr, W.heap[a.block]? = some (.cells c tt fr) := by
  unfold Cell.okWide at h
  rw [hu] at h
  simp only [Cell.ok, hu] at h
  obtain ⟨_, _, _, hs, row, cells, hsh, _⟩ := h
  refine ⟨hs, ?_⟩
  unfold World.shape? at hsh
  split at hsh
  · rename_i c tt fr hh; exact ⟨c, tt, fr, hh⟩
  · cases hsh
theorem cell_in {W : World} {b o : Nat} {c : Array Value} {tt : TypeId} {fr : Nat × Nat} {v : Value} (h : W.heap[b]? = some (.cells c tt fr)) (hc : W.cell? ⟨b, o, none⟩ = some v) : c[o]? = some v := by
  unfold World.cell? at hc
  simp only at hc
  rw [h] at hc
  simpa using hc
theorem hdrs_read {H : Type} {enc : TypeId × Value → H} {W : World} {sp : Nat → Bool} {held : Bool} {n b0 : Nat} {hv : Value} {x : DataW H × List MemPlace} (h : DataW.trod enc Tryz.prog W 0 sp held n 22 [hv] = some x) (hok : Cell.okWide Tryz.prog W .any b0 22 hv) :
    ∃ rows, Reads W [.str, .str] rows hv ∧ rows.length ≤ Rows.uptoBulk x.1 ∧ ∀ r ∈ rows, r.length = 2 ∧ (∃ a b, r = [.str a, .str b]) ∧ (hN r).length ≤ Rows.uptoBulk x.1 ∧ (hV r).length ≤ Rows.uptoBulk x.1 := by
  have hc44 : Tryz.prog.cellsOf 44 = 2 := by kernel_rfl
  rcases DataW.trod_slice Tryz.underlying22 h with ⟨hx, _⟩ | ⟨a, len, cap, elems, rest, m, _, hx, ex, _, _, _, hl, hel, _, _⟩
  · cases hx
    exact ⟨[], .nil rfl, Nat.zero_le _, fun r hr => by cases hr⟩
  · cases hx
    obtain ⟨hs, c, tt, fr, hh⟩ := slice_has Tryz.underlying22 hok
    obtain ⟨b, o, sp'⟩ := a
    have hs : sp' = none := hs
    subst hs
    have key : ∀ i, i < len → ∃ s0 s1 : ByteArray, W.cell? ⟨b, o + i * 2, none⟩ = some (.string s0) ∧ W.cell? ⟨b, o + (i * 2 + 1), none⟩ = some (.string s1) ∧ ∃ e ∈ elems, e.1 = .agg [.lit (.string s0.data.toList), .lit (.string s1.data.toList)] := by
      intro i hi
      have h1 := hel i hi
      rw [hc44, List.getElem?_eq_getElem (by omega)] at h1
      obtain ⟨s0, s1, g0, g1, g2⟩ := hdr_cell (a := ⟨b, o, none⟩) rfl h1
      exact ⟨s0, s1, g0, g1, _, List.getElem_mem (by omega), g2⟩
    have hbulk : Rows.uptoBulk x.1 = Rows.uptoBulkAll (elems.map (·.1)) + Rows.uptoBulkAll (rest.map (·.1)) + 1 := by rw [ex]; rfl
    refine ⟨(List.range len).map fun i => [.str (strAt W b (o + i * 2)), .str (strAt W b (o + (i * 2 + 1)))], ?_, ?_, fun r hr => ?_⟩
    · have hR := Reads.cells (w := W) (ks := [.str, .str]) (rows := (List.range len).map fun i => [AV.str (strAt W b (o + i * 2)), .str (strAt W b (o + (i * 2 + 1)))]) ⟨b, o, 2, cap, false⟩ cap
        ⟨rfl, c, tt, fr, hh, fun i j kd hi hj => ?_, fun h => by cases h⟩
      · simpa using hR
      · have hi : i < len := by simpa using hi
        obtain ⟨s0, s1, g0, g1, _⟩ := key i hi
        have hrow : ((List.range len).map fun i => [AV.str (strAt W b (o + i * 2)), .str (strAt W b (o + (i * 2 + 1)))]).getD i [] = [AV.str (strAt W b (o + i * 2)), .str (strAt W b (o + (i * 2 + 1)))] := by
          simp [List.getD_eq_getElem?_getD, hi]
        have hj' : (j = 0 ∨ j = 1) ∧ kd = .str := by
          match j with
          | 0 => simp at hj; exact ⟨.inl rfl, hj.symm⟩
          | 1 => simp at hj; exact ⟨.inr rfl, hj.symm⟩
          | j + 2 => simp at hj
        obtain ⟨hj0, rfl⟩ := hj'
        unfold cellAt
        rw [hrow]
        rcases hj0 with rfl | rfl
        · show c[o + (i * 2 + 0)]? = some (.string ⟨(strAt W b (o + i * 2)).toArray⟩)
          rw [Nat.add_zero, cell_in hh g0]
          have e : strAt W b (o + i * 2) = s0.data.toList := by unfold strAt; rw [g0]
          rw [e, ba_eta]
        · show c[o + (i * 2 + 1)]? = some (.string ⟨(strAt W b (o + (i * 2 + 1))).toArray⟩)
          rw [cell_in hh g1]
          have e : strAt W b (o + (i * 2 + 1)) = s1.data.toList := by unfold strAt; rw [g1]
          rw [e, ba_eta]
    · have := bulk_len (elems.map (·.1))
      simp only [List.length_map, List.length_range] at this ⊢
      omega
    · obtain ⟨i, hi, rfl⟩ := List.mem_map.1 hr
      obtain ⟨s0, s1, g0, g1, e, he, ee⟩ := key i (List.mem_range.1 hi)
      have hb := bulk_mem (List.mem_map_of_mem (f := (·.1)) he)
      rw [ee] at hb
      simp only [Rows.uptoBulk, Rows.uptoBulkAll] at hb
      refine ⟨rfl, ⟨_, _, rfl⟩, ?_, ?_⟩
      · show (strAt W b (o + i * 2)).length ≤ _
        unfold strAt; rw [g0]; simp only; omega
      · show (strAt W b (o + (i * 2 + 1))).length ≤ _
        unfold strAt; rw [g1]; simp only; omega
theorem body_read {H : Type} {enc : TypeId × Value → H} {W : World} {sp : Nat → Bool} {held : Bool} {n b0 : Nat} {hv : Value} {x : DataW H × List MemPlace} (h : DataW.trod enc Tryz.prog W 0 sp held n 23 [hv] = some x) (hok : Cell.okWide Tryz.prog W .any b0 23 hv) :
    ∃ l : List UInt8, Reads W [.int .u8] (byteRows l) hv ∧ l.length ≤ Rows.uptoBulk x.1 := by
  have hc5 : Tryz.prog.cellsOf 5 = 1 := by kernel_rfl
  rcases DataW.trod_slice Tryz.underlying23 h with ⟨hx, _⟩ | ⟨a, len, cap, elems, rest, m, _, hx, ex, _, _, _, hl, hel, _, _⟩
  · cases hx
    exact ⟨[], .nil rfl, Nat.zero_le _⟩
  · cases hx
    obtain ⟨hs, c, tt, fr, hh⟩ := slice_has Tryz.underlying23 hok
    obtain ⟨b, o, sp'⟩ := a
    have hs : sp' = none := hs
    subst hs
    have key : ∀ i, i < len → ∃ z : Int, W.cell? ⟨b, o + i, none⟩ = some (.int .u8 z) ∧ 0 ≤ z ∧ z ≤ 255 := by
      intro i hi
      have h1 := hel i hi
      rw [hc5, List.getElem?_eq_getElem (by omega), Nat.mul_one] at h1
      obtain ⟨z, g0, g1, g2⟩ := byte_cell (a := ⟨b, o, none⟩) rfl Tryz.underlying5 h1
      exact ⟨z, g0, g1, g2⟩
    have hbulk : Rows.uptoBulk x.1 = Rows.uptoBulkAll (elems.map (·.1)) + Rows.uptoBulkAll (rest.map (·.1)) + 1 := by rw [ex]; rfl
    refine ⟨(List.range len).map fun i => UInt8.ofNat (intAt W b (o + i)).toNat, ?_, ?_⟩
    · have hR := Reads.cells (w := W) (ks := [.int .u8]) (rows := byteRows ((List.range len).map fun i => UInt8.ofNat (intAt W b (o + i)).toNat)) ⟨b, o, 1, cap, false⟩ cap
        ⟨rfl, c, tt, fr, hh, fun i j kd hi hj => ?_, fun h => by cases h⟩
      · rw [byteRows_length] at hR
        simpa using hR
      · have hi : i < len := by rw [byteRows_length] at hi; simpa using hi
        obtain ⟨z, g0, g1, g2⟩ := key i hi
        have hj' : j = 0 ∧ kd = .int .u8 := by
          match j with
          | 0 => simp at hj; exact ⟨rfl, hj.symm⟩
          | j + 1 => simp at hj
        obtain ⟨rfl, rfl⟩ := hj'
        have hrow : (byteRows ((List.range len).map fun i => UInt8.ofNat (intAt W b (o + i)).toNat)).getD i [] = byteRow (UInt8.ofNat (intAt W b (o + i)).toNat) := by
          simp [byteRows, List.getD_eq_getElem?_getD, hi]
        unfold cellAt
        rw [hrow]
        show c[o + (i * 1 + 0)]? = some (.int .u8 ((UInt8.ofNat (intAt W b (o + i)).toNat).toNat : Int))
        rw [show o + (i * 1 + 0) = o + i by omega, cell_in hh g0]
        unfold intAt
        rw [g0]
        simp only
        congr 2
        rw [UInt8.toNat_ofNat']
        omega
    · have := bulk_len (elems.map (·.1))
      simp only [List.length_map, List.length_range] at this ⊢
      omega
structure MsgIn (W : World) (N : Nat) (start : List UInt8) (hrows : List (List AV)) (body : List UInt8) (hv bv : Value) : Prop where
  h : Reads W [.str, .str] hrows hv
  b : Reads W [.int .u8] (byteRows body) bv
  st : start.length ≤ N
  hl : hrows.length ≤ N
  bl : body.length ≤ N
  rows : ∀ r ∈ hrows, r.length = 2 ∧ (∃ a b, r = [.str a, .str b]) ∧ (hN r).length ≤ N ∧ (hV r).length ≤ N
  cap : ∀ a n c, hv = .slice a n c → n ≤ c
theorem msg_read {H : Type} {enc : TypeId × Value → H} {W : World} {sp : Nat → Bool} {held : Bool} {b0 N : Nat} {v : Value} {d : DataW H} {ps : List MemPlace} (h : DataW.Trod enc Tryz.prog W 0 sp held 25 v d ps) (hok : Value.okWide Tryz.prog W .any b0 25 v) (hN : Rows.uptoBulk d ≤ N) :
    ∃ start hrows body hv bv, v = .agg #[.string ⟨start.toArray⟩, hv, bv] ∧ MsgIn W N start hrows body hv bv := by
  unfold Value.okWide at hok
  rw [Tryz.underlying25] at hok
  obtain ⟨cs, rfl, hsz, ts, hts, _, hall⟩ := hok
  have hc : Tryz.prog.cellTypes Tryz.prog.depth 25 = some [9, 22, 23] := by kernel_rfl
  rw [hc] at hts
  cases hts
  have h3 : cs.size = 3 := hsz.trans (by kernel_rfl)
  obtain ⟨c0, c1, c2, rfl⟩ : ∃ c0 c1 c2, cs = #[c0, c1, c2] := by
    refine ⟨cs[0], cs[1], cs[2], ?_⟩
    apply Array.ext
    · simp [h3]
    · intro i hi1 hi2
      simp at hi2
      have : i = 0 ∨ i = 1 ∨ i = 2 := by omega
      rcases this with rfl | rfl | rfl <;> rfl
  have ok1 : Cell.okWide Tryz.prog W .any b0 22 c1 := by
    obtain ⟨u, hu, hok⟩ := hall 1 c1 rfl
    have : u = 22 := by simpa using hu.symm
    rw [this] at hok; exact hok
  have ok2 : Cell.okWide Tryz.prog W .any b0 23 c2 := by
    obtain ⟨u, hu, hok⟩ := hall 2 c2 rfl
    have : u = 23 := by simpa using hu.symm
    rw [this] at hok; exact hok
  obtain ⟨fuel, hf⟩ := h
  obtain ⟨xs, m, _, ex, hlen, hxs, hfs⟩ := DataW.trod_struct Tryz.underlying25 hf
  have hx3 : xs.length = 3 := hxs
  match xs, hx3 with
  | [x0, x1, x2], _ =>
    have hc9 : Tryz.prog.cellsOf 9 = 1 := by kernel_rfl
    have hc22 : Tryz.prog.cellsOf 22 = 1 := by kernel_rfl
    have hc23 : Tryz.prog.cellsOf 23 = 1 := by kernel_rfl
    have f0 : DataW.trod enc Tryz.prog W 0 sp held m 9 (((#[c0, c1, c2] : Array Value).toList.drop 0).take (Tryz.prog.cellsOf 9)) = some x0 := hfs 0 _ rfl
    have f1 : DataW.trod enc Tryz.prog W 0 sp held m 22 (((#[c0, c1, c2] : Array Value).toList.drop 1).take (Tryz.prog.cellsOf 22)) = some x1 := hfs 1 _ rfl
    have f2 : DataW.trod enc Tryz.prog W 0 sp held m 23 (((#[c0, c1, c2] : Array Value).toList.drop 2).take (Tryz.prog.cellsOf 23)) = some x2 := hfs 2 _ rfl
    rw [hc9] at f0
    rw [hc22] at f1
    rw [hc23] at f2
    obtain ⟨s, e0, g0, _⟩ := DataW.trod_string Tryz.underlying9 (show DataW.trod enc Tryz.prog W 0 sp held m 9 [c0] = some x0 from f0)
    cases e0
    obtain ⟨hrows, r1, r2, r3⟩ := hdrs_read (show DataW.trod enc Tryz.prog W 0 sp held m 22 [c1] = some x1 from f1) ok1
    obtain ⟨body, b1, b2⟩ := body_read (show DataW.trod enc Tryz.prog W 0 sp held m 23 [c2] = some x2 from f2) ok2
    have hd : d = .agg [x0.1, x1.1, x2.1] := (Prod.mk.inj ex).1
    rw [hd, g0] at hN
    simp only [Rows.uptoBulk, Rows.uptoBulkAll] at hN
    refine ⟨s.data.toList, hrows, body, c1, c2, by rw [ba_eta], r1, b1, by omega, by omega, by omega, fun r hr => ?_, fun a n c he => ?_⟩
    · obtain ⟨k1, k2, k3, k4⟩ := r3 r hr
      exact ⟨k1, k2, by omega, by omega⟩
    · subst he
      unfold Cell.okWide at ok1
      rw [Tryz.underlying22] at ok1
      simp only [Cell.ok, Tryz.underlying22] at ok1
      cases a with
      | none => cases n <;> cases c <;> simp at ok1 ⊢
      | some a => exact ok1.1
end Go.Proofs.YtpdgmgkkbbndfaaGreatDoor

set_option maxRecDepth 100000
set_option maxHeartbeats 6400000
namespace Go.Proofs.YtpdgmgkkbbndfaaGreatDoor
open Go Go.Proofs Go.Proofs.YtpdgmgkkbbndfaaGreatDoor.SX
def P20 : Prims := addP (addP (addP (addP (addP Pr 13 q13) 14 q14) 18 q18) 30 q30) 33 q33
theorem P20_ok : PrimsOK Tryz.prog P20 := addP_ok (addP_ok (addP_ok (addP_ok (addP_ok Pr_ok q13_ok) q14_ok) q18_ok) q30_ok) q33_ok
def b10I (ra rb : List (List AV)) (n m : Nat) (k : Int) : SL := ⟨[(6, .slq 4 n), (7, .slq 6 m), (8, .int .i64 k)], [(4, .cells false [.int .u16] ra), (6, .cells false [.int .u16] rb)], 7⟩
def e10 : SL := ⟨[], [], 7⟩
theorem b10_TFF (ra : List (List AV)) (rb : List (List AV)) (n : Nat) (m : Nat) (k : Int) :
 Path (run Tryz.prog P20 100 (lbody Tryz.prog 10 0) (SL.mp 54 ([.as_ true, .as_ false, .as_ false]) (b10I ra rb n m k))) 7 [] (b10I (ra) (rb) (n) (m) (IntKind.wrap IntKind.i64 (k + (1 : Int)))) (Ex.normal)
 ((((((((((((True ∧ (decide (k < (↑n : Int)) = true)) ∧ (decide (0 < n) = true)) ∧ (decide ((0 : Int) ≤ k ∧ k < (↑n : Int)) = true)) ∧ (decide (0 + Int.toNat k < List.length ra) = true)) ∧ (decide (0 < m) = true)) ∧ (decide ((0 : Int) ≤ k ∧ k < (↑m : Int)) = true)) ∧ (decide (0 + Int.toNat k < List.length rb) = true)) ∧ ((!AV.toInt (List.getD (List.getD ra (0 + Int.toNat k) []) (0) AV.undef) == AV.toInt (List.getD (List.getD rb (0 + Int.toNat k) []) (0) AV.undef)) = false)) ∧ (decide (0 < n) = true)) ∧ (decide ((0 : Int) ≤ k ∧ k < (↑n : Int)) = true)) ∧ (decide (0 + Int.toNat k < List.length ra) = true)) ∧ ((AV.toInt (List.getD (List.getD ra (0 + Int.toNat k) []) (0) AV.undef) == (0 : Int)) = false)) := by unfold Path; kernel_rfl
theorem b10_F (ra : List (List AV)) (rb : List (List AV)) (n : Nat) (m : Nat) (k : Int) :
 Path (run Tryz.prog P20 100 (lbody Tryz.prog 10 0) (SL.mp 54 ([.as_ false]) (b10I ra rb n m k))) 7 [] e10 (Ex.exit 0)
 (True ∧ (decide (k < (↑n : Int)) = false)) := by unfold Path; kernel_rfl
theorem c10aq_FFL (start : List UInt8) (hrows : List (List AV)) (brows : List (List AV)) (host : Int) :
 Path (runCallB Tryz.prog P20 100 10 [AV.agg [AV.str start, AV.slq 0 (List.length hrows), AV.slq 1 (List.length brows)], AV.int IntKind.u32 host] (st0 [Blk.cells false [Kd.str, Kd.str] hrows, Blk.cells false [Kd.int IntKind.u8] brows] ([.as_ false, .as_ false, PI.loop (b10I (spPorts host (List.map rowByte (sub brows 0 (List.length brows)))) (spPorts host (List.map rowByte (sub brows 0 (List.length brows)))) (List.length (spPorts host (List.map rowByte (sub brows 0 (List.length brows))))) (List.length (spPorts host (List.map rowByte (sub brows 0 (List.length brows))))) (0 : Int)) (Ex.exit 0) e10]))) 2 [] (SL.mk [] [] 2) (Out.ret (AV.bool true))
 ((((((((((((((((((True ∧ (true = true)) ∧ ((decide (0 + List.length hrows ≤ List.length hrows) && (decide (0 + List.length brows ≤ List.length brows) && decide (List.length (sub hrows 0 (List.length hrows)) ≤ 100))) = true)) ∧ (true = true)) ∧ (true = true)) ∧ (true = true)) ∧ (true = true)) ∧ (true = true)) ∧ (true = true)) ∧ (true = true)) ∧ (decide ((↑(List.length brows) : Int) > (5000 : Int)) = false)) ∧ (true = true)) ∧ (true = true)) ∧ ((decide (0 + List.length hrows ≤ List.length hrows) && (decide (0 + List.length brows ≤ List.length brows) && decide (List.length (sub brows 0 (List.length brows)) ≤ 1048576))) = true)) ∧ ((decide (0 + List.length hrows ≤ List.length hrows) && (decide (0 + List.length brows ≤ List.length brows) && (decide (List.length (sub hrows 0 (List.length hrows)) ≤ 200) && true))) = true)) ∧ ((decide (0 + List.length (spNorm (sub hrows 0 (List.length hrows))) ≤ List.length (spNorm (sub hrows 0 (List.length hrows)))) && (decide (0 + List.length brows ≤ List.length brows) && (List.all (sub brows 0 (List.length brows)) spByteOk && decide (List.length brows = 0 ∧ List.length (sub brows 0 (List.length brows)) ≤ 1048576 ∧ (0 : Int) ≤ host ∧ host < (4294967296 : Int))))) = true)) ∧ ((!(↑(List.length (spPorts host (List.map rowByte (sub brows 0 (List.length brows))))) : Int) == (↑(List.length (spPorts host (List.map rowByte (sub brows 0 (List.length brows))))) : Int)) = false)) ∧ (LoopOK Tryz.prog (lbody Tryz.prog 10 0) (54) (SL.mk [(6, AV.slq 4 (List.length (spPorts host (List.map rowByte (sub brows 0 (List.length brows)))))), (7, AV.slq 6 (List.length (spPorts host (List.map rowByte (sub brows 0 (List.length brows)))))), (8, AV.int IntKind.i64 (0 : Int))] [(4, Blk.cells false [Kd.int IntKind.u16] (spPorts host (List.map rowByte (sub brows 0 (List.length brows))))), (6, Blk.cells false [Kd.int IntKind.u16] (spPorts host (List.map rowByte (sub brows 0 (List.length brows)))))] 7) (Ex.exit 0) e10)) ∧ (true = true)) := by unfold Path; kernel_rfl
theorem c10ak_TFL (start : List UInt8) (hrows : List (List AV)) (brows : List (List AV)) (host : Int) (cb : Nat) :
 Path (runCallB Tryz.prog P20 100 10 [AV.agg [AV.str start, AV.slq 0 (List.length hrows), AV.sl (Loc.mk 1 0 0) (List.length brows) (Cap.known cb)], AV.int IntKind.u32 host] (st0 [Blk.cells false [Kd.str, Kd.str] hrows, Blk.cells false [Kd.int IntKind.u8] brows] ([.as_ true, .as_ false, PI.loop (b10I (spPorts host (List.map rowByte (sub brows 0 5000))) (spPorts host (List.map rowByte (sub brows 0 5000))) (List.length (spPorts host (List.map rowByte (sub brows 0 5000)))) (List.length (spPorts host (List.map rowByte (sub brows 0 5000)))) (0 : Int)) (Ex.exit 0) e10]))) 2 [] (SL.mk [] [] 2) (Out.ret (AV.bool true))
 ((((((((((((((((((((((True ∧ (true = true)) ∧ ((decide (0 + List.length hrows ≤ List.length hrows) && (decide (0 + List.length brows ≤ List.length brows) && decide (List.length (sub hrows 0 (List.length hrows)) ≤ 100))) = true)) ∧ (true = true)) ∧ (true = true)) ∧ (true = true)) ∧ (true = true)) ∧ (true = true)) ∧ (true = true)) ∧ (true = true)) ∧ (decide ((↑(List.length brows) : Int) > (5000 : Int)) = true)) ∧ (true = true)) ∧ (decide ((0 : Int) ≤ (0 : Int) ∧ (0 : Int) ≤ (5000 : Int) ∧ (5000 : Int) ≤ (↑cb : Int) ∧ (↑cb : Int) ≤ (↑cb : Int)) = true)) ∧ (true = true)) ∧ (true = true)) ∧ (true = true)) ∧ (true = true)) ∧ ((decide (0 + List.length hrows ≤ List.length hrows) && (decide (5000 ≤ List.length brows) && decide (List.length (sub brows (0) 5000) ≤ 1048576))) = true)) ∧ ((decide (0 + List.length hrows ≤ List.length hrows) && (decide (5000 ≤ List.length brows) && (decide (List.length (sub hrows 0 (List.length hrows)) ≤ 200) && true))) = true)) ∧ ((decide (0 + List.length (spNorm (sub hrows 0 (List.length hrows))) ≤ List.length (spNorm (sub hrows 0 (List.length hrows)))) && (decide (5000 ≤ List.length brows) && (List.all (sub brows (0) 5000) spByteOk && decide (5000 ≤ Int.toNat (↑cb : Int) - 0 ∧ List.length (sub brows (0) 5000) ≤ 1048576 ∧ (0 : Int) ≤ host ∧ host < (4294967296 : Int))))) = true)) ∧ ((!(↑(List.length (spPorts host (List.map rowByte (sub brows (0) 5000)))) : Int) == (↑(List.length (spPorts host (List.map rowByte (sub brows (0) 5000)))) : Int)) = false)) ∧ (LoopOK Tryz.prog (lbody Tryz.prog 10 0) (54) (SL.mk [(6, AV.slq 4 (List.length (spPorts host (List.map rowByte (sub brows 0 5000))))), (7, AV.slq 6 (List.length (spPorts host (List.map rowByte (sub brows 0 5000))))), (8, AV.int IntKind.i64 (0 : Int))] [(4, Blk.cells false [Kd.int IntKind.u16] (spPorts host (List.map rowByte (sub brows 0 5000)))), (6, Blk.cells false [Kd.int IntKind.u16] (spPorts host (List.map rowByte (sub brows 0 5000))))] 7) (Ex.exit 0) e10)) ∧ (true = true)) := by unfold Path; kernel_rfl
theorem c10ak_FFL (start : List UInt8) (hrows : List (List AV)) (brows : List (List AV)) (host : Int) (cb : Nat) :
 Path (runCallB Tryz.prog P20 100 10 [AV.agg [AV.str start, AV.slq 0 (List.length hrows), AV.sl (Loc.mk 1 0 0) (List.length brows) (Cap.known cb)], AV.int IntKind.u32 host] (st0 [Blk.cells false [Kd.str, Kd.str] hrows, Blk.cells false [Kd.int IntKind.u8] brows] ([.as_ false, .as_ false, PI.loop (b10I (spPorts host (List.map rowByte (sub brows 0 (List.length brows)))) (spPorts host (List.map rowByte (sub brows 0 (List.length brows)))) (List.length (spPorts host (List.map rowByte (sub brows 0 (List.length brows))))) (List.length (spPorts host (List.map rowByte (sub brows 0 (List.length brows))))) (0 : Int)) (Ex.exit 0) e10]))) 2 [] (SL.mk [] [] 2) (Out.ret (AV.bool true))
 ((((((((((((((((((True ∧ (true = true)) ∧ ((decide (0 + List.length hrows ≤ List.length hrows) && (decide (0 + List.length brows ≤ List.length brows) && decide (List.length (sub hrows 0 (List.length hrows)) ≤ 100))) = true)) ∧ (true = true)) ∧ (true = true)) ∧ (true = true)) ∧ (true = true)) ∧ (true = true)) ∧ (true = true)) ∧ (true = true)) ∧ (decide ((↑(List.length brows) : Int) > (5000 : Int)) = false)) ∧ (true = true)) ∧ (true = true)) ∧ ((decide (0 + List.length hrows ≤ List.length hrows) && (decide (0 + List.length brows ≤ List.length brows) && decide (List.length (sub brows 0 (List.length brows)) ≤ 1048576))) = true)) ∧ ((decide (0 + List.length hrows ≤ List.length hrows) && (decide (0 + List.length brows ≤ List.length brows) && (decide (List.length (sub hrows 0 (List.length hrows)) ≤ 200) && true))) = true)) ∧ ((decide (0 + List.length (spNorm (sub hrows 0 (List.length hrows))) ≤ List.length (spNorm (sub hrows 0 (List.length hrows)))) && (decide (0 + List.length brows ≤ List.length brows) && (List.all (sub brows 0 (List.length brows)) spByteOk && decide (List.length brows ≤ cb ∧ List.length (sub brows 0 (List.length brows)) ≤ 1048576 ∧ (0 : Int) ≤ host ∧ host < (4294967296 : Int))))) = true)) ∧ ((!(↑(List.length (spPorts host (List.map rowByte (sub brows 0 (List.length brows))))) : Int) == (↑(List.length (spPorts host (List.map rowByte (sub brows 0 (List.length brows))))) : Int)) = false)) ∧ (LoopOK Tryz.prog (lbody Tryz.prog 10 0) (54) (SL.mk [(6, AV.slq 4 (List.length (spPorts host (List.map rowByte (sub brows 0 (List.length brows)))))), (7, AV.slq 6 (List.length (spPorts host (List.map rowByte (sub brows 0 (List.length brows)))))), (8, AV.int IntKind.i64 (0 : Int))] [(4, Blk.cells false [Kd.int IntKind.u16] (spPorts host (List.map rowByte (sub brows 0 (List.length brows))))), (6, Blk.cells false [Kd.int IntKind.u16] (spPorts host (List.map rowByte (sub brows 0 (List.length brows)))))] 7) (Ex.exit 0) e10)) ∧ (true = true)) := by unfold Path; kernel_rfl
theorem c10bq_FFL (start : List UInt8) (hrows : List (List AV)) (brows : List (List AV)) (host : Int) (c : Nat) :
 Path (runCallB Tryz.prog P20 100 10 [AV.agg [AV.str start, AV.sl (Loc.mk 0 0 0) (List.length hrows) (Cap.known c), AV.slq 1 (List.length brows)], AV.int IntKind.u32 host] (st0 [Blk.cells false [Kd.str, Kd.str] hrows, Blk.cells false [Kd.int IntKind.u8] brows] ([.as_ false, .as_ false, PI.loop (b10I (spPorts host (List.map rowByte (sub brows 0 (List.length brows)))) (spPorts host (List.map rowByte (sub brows 0 (List.length brows)))) (List.length (spPorts host (List.map rowByte (sub brows 0 (List.length brows))))) (List.length (spPorts host (List.map rowByte (sub brows 0 (List.length brows))))) (0 : Int)) (Ex.exit 0) e10]))) 2 [] (SL.mk [] [] 2) (Out.ret (AV.bool true))
 ((((((((((((((((((True ∧ (true = true)) ∧ ((decide (0 + List.length hrows ≤ List.length hrows) && (decide (0 + List.length brows ≤ List.length brows) && decide (100 < List.length (sub hrows 0 (List.length hrows)) ∧ 100 ≤ c))) = true)) ∧ (true = true)) ∧ (true = true)) ∧ (true = true)) ∧ (true = true)) ∧ (true = true)) ∧ (true = true)) ∧ (true = true)) ∧ (decide ((↑(List.length brows) : Int) > (5000 : Int)) = false)) ∧ (true = true)) ∧ (true = true)) ∧ ((decide (100 ≤ List.length hrows) && (decide (0 + List.length brows ≤ List.length brows) && decide (List.length (sub brows 0 (List.length brows)) ≤ 1048576))) = true)) ∧ ((decide (100 ≤ List.length hrows) && (decide (0 + List.length brows ≤ List.length brows) && (decide (List.length (sub hrows 0 100) ≤ 200) && true))) = true)) ∧ ((decide (0 + List.length (spNorm (sub hrows 0 100)) ≤ List.length (spNorm (sub hrows 0 100))) && (decide (0 + List.length brows ≤ List.length brows) && (List.all (sub brows 0 (List.length brows)) spByteOk && decide (List.length brows = 0 ∧ List.length (sub brows 0 (List.length brows)) ≤ 1048576 ∧ (0 : Int) ≤ host ∧ host < (4294967296 : Int))))) = true)) ∧ ((!(↑(List.length (spPorts host (List.map rowByte (sub brows 0 (List.length brows))))) : Int) == (↑(List.length (spPorts host (List.map rowByte (sub brows 0 (List.length brows))))) : Int)) = false)) ∧ (LoopOK Tryz.prog (lbody Tryz.prog 10 0) (54) (SL.mk [(6, AV.slq 4 (List.length (spPorts host (List.map rowByte (sub brows 0 (List.length brows)))))), (7, AV.slq 6 (List.length (spPorts host (List.map rowByte (sub brows 0 (List.length brows)))))), (8, AV.int IntKind.i64 (0 : Int))] [(4, Blk.cells false [Kd.int IntKind.u16] (spPorts host (List.map rowByte (sub brows 0 (List.length brows))))), (6, Blk.cells false [Kd.int IntKind.u16] (spPorts host (List.map rowByte (sub brows 0 (List.length brows)))))] 7) (Ex.exit 0) e10)) ∧ (true = true)) := by unfold Path; kernel_rfl
theorem c10bk_TFL (start : List UInt8) (hrows : List (List AV)) (brows : List (List AV)) (host : Int) (c : Nat) (cb : Nat) :
 Path (runCallB Tryz.prog P20 100 10 [AV.agg [AV.str start, AV.sl (Loc.mk 0 0 0) (List.length hrows) (Cap.known c), AV.sl (Loc.mk 1 0 0) (List.length brows) (Cap.known cb)], AV.int IntKind.u32 host] (st0 [Blk.cells false [Kd.str, Kd.str] hrows, Blk.cells false [Kd.int IntKind.u8] brows] ([.as_ true, .as_ false, PI.loop (b10I (spPorts host (List.map rowByte (sub brows 0 5000))) (spPorts host (List.map rowByte (sub brows 0 5000))) (List.length (spPorts host (List.map rowByte (sub brows 0 5000)))) (List.length (spPorts host (List.map rowByte (sub brows 0 5000)))) (0 : Int)) (Ex.exit 0) e10]))) 2 [] (SL.mk [] [] 2) (Out.ret (AV.bool true))
 ((((((((((((((((((((((True ∧ (true = true)) ∧ ((decide (0 + List.length hrows ≤ List.length hrows) && (decide (0 + List.length brows ≤ List.length brows) && decide (100 < List.length (sub hrows 0 (List.length hrows)) ∧ 100 ≤ c))) = true)) ∧ (true = true)) ∧ (true = true)) ∧ (true = true)) ∧ (true = true)) ∧ (true = true)) ∧ (true = true)) ∧ (true = true)) ∧ (decide ((↑(List.length brows) : Int) > (5000 : Int)) = true)) ∧ (true = true)) ∧ (decide ((0 : Int) ≤ (0 : Int) ∧ (0 : Int) ≤ (5000 : Int) ∧ (5000 : Int) ≤ (↑cb : Int) ∧ (↑cb : Int) ≤ (↑cb : Int)) = true)) ∧ (true = true)) ∧ (true = true)) ∧ (true = true)) ∧ (true = true)) ∧ ((decide (100 ≤ List.length hrows) && (decide (5000 ≤ List.length brows) && decide (List.length (sub brows (0) 5000) ≤ 1048576))) = true)) ∧ ((decide (100 ≤ List.length hrows) && (decide (5000 ≤ List.length brows) && (decide (List.length (sub hrows 0 100) ≤ 200) && true))) = true)) ∧ ((decide (0 + List.length (spNorm (sub hrows 0 100)) ≤ List.length (spNorm (sub hrows 0 100))) && (decide (5000 ≤ List.length brows) && (List.all (sub brows (0) 5000) spByteOk && decide (5000 ≤ Int.toNat (↑cb : Int) - 0 ∧ List.length (sub brows (0) 5000) ≤ 1048576 ∧ (0 : Int) ≤ host ∧ host < (4294967296 : Int))))) = true)) ∧ ((!(↑(List.length (spPorts host (List.map rowByte (sub brows (0) 5000)))) : Int) == (↑(List.length (spPorts host (List.map rowByte (sub brows (0) 5000)))) : Int)) = false)) ∧ (LoopOK Tryz.prog (lbody Tryz.prog 10 0) (54) (SL.mk [(6, AV.slq 4 (List.length (spPorts host (List.map rowByte (sub brows 0 5000))))), (7, AV.slq 6 (List.length (spPorts host (List.map rowByte (sub brows 0 5000))))), (8, AV.int IntKind.i64 (0 : Int))] [(4, Blk.cells false [Kd.int IntKind.u16] (spPorts host (List.map rowByte (sub brows 0 5000)))), (6, Blk.cells false [Kd.int IntKind.u16] (spPorts host (List.map rowByte (sub brows 0 5000))))] 7) (Ex.exit 0) e10)) ∧ (true = true)) := by unfold Path; kernel_rfl
theorem c10bk_FFL (start : List UInt8) (hrows : List (List AV)) (brows : List (List AV)) (host : Int) (c : Nat) (cb : Nat) :
 Path (runCallB Tryz.prog P20 100 10 [AV.agg [AV.str start, AV.sl (Loc.mk 0 0 0) (List.length hrows) (Cap.known c), AV.sl (Loc.mk 1 0 0) (List.length brows) (Cap.known cb)], AV.int IntKind.u32 host] (st0 [Blk.cells false [Kd.str, Kd.str] hrows, Blk.cells false [Kd.int IntKind.u8] brows] ([.as_ false, .as_ false, PI.loop (b10I (spPorts host (List.map rowByte (sub brows 0 (List.length brows)))) (spPorts host (List.map rowByte (sub brows 0 (List.length brows)))) (List.length (spPorts host (List.map rowByte (sub brows 0 (List.length brows))))) (List.length (spPorts host (List.map rowByte (sub brows 0 (List.length brows))))) (0 : Int)) (Ex.exit 0) e10]))) 2 [] (SL.mk [] [] 2) (Out.ret (AV.bool true))
 ((((((((((((((((((True ∧ (true = true)) ∧ ((decide (0 + List.length hrows ≤ List.length hrows) && (decide (0 + List.length brows ≤ List.length brows) && decide (100 < List.length (sub hrows 0 (List.length hrows)) ∧ 100 ≤ c))) = true)) ∧ (true = true)) ∧ (true = true)) ∧ (true = true)) ∧ (true = true)) ∧ (true = true)) ∧ (true = true)) ∧ (true = true)) ∧ (decide ((↑(List.length brows) : Int) > (5000 : Int)) = false)) ∧ (true = true)) ∧ (true = true)) ∧ ((decide (100 ≤ List.length hrows) && (decide (0 + List.length brows ≤ List.length brows) && decide (List.length (sub brows 0 (List.length brows)) ≤ 1048576))) = true)) ∧ ((decide (100 ≤ List.length hrows) && (decide (0 + List.length brows ≤ List.length brows) && (decide (List.length (sub hrows 0 100) ≤ 200) && true))) = true)) ∧ ((decide (0 + List.length (spNorm (sub hrows 0 100)) ≤ List.length (spNorm (sub hrows 0 100))) && (decide (0 + List.length brows ≤ List.length brows) && (List.all (sub brows 0 (List.length brows)) spByteOk && decide (List.length brows ≤ cb ∧ List.length (sub brows 0 (List.length brows)) ≤ 1048576 ∧ (0 : Int) ≤ host ∧ host < (4294967296 : Int))))) = true)) ∧ ((!(↑(List.length (spPorts host (List.map rowByte (sub brows 0 (List.length brows))))) : Int) == (↑(List.length (spPorts host (List.map rowByte (sub brows 0 (List.length brows))))) : Int)) = false)) ∧ (LoopOK Tryz.prog (lbody Tryz.prog 10 0) (54) (SL.mk [(6, AV.slq 4 (List.length (spPorts host (List.map rowByte (sub brows 0 (List.length brows)))))), (7, AV.slq 6 (List.length (spPorts host (List.map rowByte (sub brows 0 (List.length brows)))))), (8, AV.int IntKind.i64 (0 : Int))] [(4, Blk.cells false [Kd.int IntKind.u16] (spPorts host (List.map rowByte (sub brows 0 (List.length brows))))), (6, Blk.cells false [Kd.int IntKind.u16] (spPorts host (List.map rowByte (sub brows 0 (List.length brows)))))] 7) (Ex.exit 0) e10)) ∧ (true = true)) := by unfold Path; kernel_rfl
theorem ports_nz : ∀ (ls : List (List UInt8)) (rows : List (List AV)), (∀ r ∈ rows, portOf r ≠ 0) → ∀ r ∈ ls.foldl addPort rows, portOf r ≠ 0
  | [], rows, h => h
  | l :: t, rows, h => by
    rw [List.foldl_cons]
    refine ports_nz t (addPort rows l) fun r hr => ?_
    unfold addPort at hr
    cases hb : decide (spMedN l > 0) && !spHasP rows (portN l) with
    | false => rw [hb, cond_false] at hr; exact h r hr
    | true =>
      rw [hb, cond_true] at hr
      rcases List.mem_append.1 hr with hr | hr
      · exact h r hr
      · rw [List.mem_singleton] at hr
        subst hr
        rw [Bool.and_eq_true] at hb
        have h1 := of_decide_eq_true hb.1
        have h2 := numeral_range (spMedD l)
        have h3 : spMedN l ≤ 65535 := by unfold spMedN; cases spMedK l <;> simp; omega
        show portN l ≠ 0
        unfold portN
        rw [IntWalk.u16_in _ (by omega)]; omega
theorem spPorts_nz (host : Int) (s : List UInt8) : ∀ r ∈ spPorts host s, portOf r ≠ 0 := by
  unfold spPorts
  cases ((spLines s).map Prod.fst).any (fun l => spConn l host) with
  | false => intro r hr; cases hr
  | true => exact ports_nz _ [] (fun r hr => by cases hr)
theorem spPorts_len (host : Int) (s : List UInt8) : (spPorts host s).length ≤ s.length + 1 := by
  unfold spPorts
  cases ((spLines s).map Prod.fst).any (fun l => spConn l host) with
  | false => exact Nat.zero_le _
  | true =>
    have h1 := ports_len ((spLines s).map Prod.fst) []
    have h2 := (len_lines (s.length + 1) s).1
    have h3 : ((spLines s).map Prod.fst).length ≤ s.length + 1 := by rw [List.length_map]; exact h2
    show (((spLines s).map Prod.fst).foldl addPort []).length ≤ _
    simp only [List.length_nil] at h1
    omega
theorem loop10 {P : List (List AV)} (h : ∀ r ∈ P, portOf r ≠ 0) (hl : P.length ≤ 4611686018427387904) :
    LoopOK Tryz.prog (lbody Tryz.prog 10 0) 54 (b10I P P P.length P.length 0) (.exit 0) e10 := by
  refine loop_rule (X := Nat) (I := fun k => b10I P P P.length P.length (k : Int)) (pre := fun k => k ≤ P.length) (μ := fun k => P.length - k) _ _ rfl (fun ρ => by simp [Ex.conc]) ?_ (x0 := 0) (pick := []) (Nat.zero_le _) ⟨by kernel_rfl, map_fst_snd (by kernel_rfl)⟩
  intro k hk
  by_cases hkl : k < P.length
  · left
    have c0 : decide ((k : Int) < ((P.length : Nat) : Int)) = true := decide_eq_true (by omega)
    have hg : List.getD P (0 + Int.toNat (k : Int)) [] = P[k] := by rw [Int.toNat_natCast, Nat.zero_add]; simp [List.getD_eq_getElem?_getD, hkl]
    have q0 : (AV.toInt (List.getD (List.getD P (0 + Int.toNat (k : Int)) []) (0) AV.undef) == (0 : Int)) = false := by
      rw [hg, beq_eq_false_iff_ne]; exact h _ (List.getElem_mem hkl)
    exact ⟨k + 1, by omega, by omega, body_by P20_ok (b10_TFF P P P.length P.length k) (by rw [succ64 hkl hl]) ⟨⟨⟨⟨⟨⟨⟨⟨⟨⟨⟨⟨trivial, c0⟩, (decide_eq_true (by omega))⟩, (decide_eq_true (by omega))⟩, (decide_eq_true (by rw [Int.toNat_natCast]; omega))⟩, (decide_eq_true (by omega))⟩, (decide_eq_true (by omega))⟩, (decide_eq_true (by rw [Int.toNat_natCast]; omega))⟩, (by simp)⟩, (decide_eq_true (by omega))⟩, (decide_eq_true (by omega))⟩, (decide_eq_true (by rw [Int.toNat_natCast]; omega))⟩, q0⟩ rfl⟩
  · right
    have hke : k = P.length := by omega
    subst hke
    have c0 : decide (((P.length : Nat) : Int) < ((P.length : Nat) : Int)) = false := decide_eq_false (by omega)
    exact body_by P20_ok (b10_F P P P.length P.length P.length) rfl ⟨trivial, c0⟩ rfl
theorem reads_sl {w : World} {ks : List Kd} {rows : List (List AV)} {v : Value} (h : Reads w ks rows v) (hp : 0 < rows.length) (hk : noAny ks = true) :
    ∃ (bi : BI) (c : Nat), (∀ (ρ : Nat → BI) (b : Nat), ρ b = bi → conc ρ (.sl ⟨b, 0, 0⟩ rows.length (.known c)) = v ∧ (Blk.cells false ks rows).sat ρ w b) ∧ ∃ a, v = .slice a rows.length c := by
  cases h with
  | nil h => rw [h] at hp; exact absurd hp (by decide)
  | cells bi c h => exact ⟨bi, c, fun ρ b hb => ⟨by simp [conc, addr, capOf, hb], Blk.sat_at (ρ := fun _ => bi) (b := 0) hk hb h⟩, _, rfl⟩
def ins10 (r1 r2 : List (List AV)) : List Blk := [.cells false [.str, .str] r1, .cells false [.int .u8] r2]
theorem two10 {w : World} {r1 r2 : List (List AV)} {b1 b2 : BI} (gw : GW w) (h1 : ∀ (ρ : Nat → BI) (b : Nat), ρ b = b1 → (Blk.cells false [.str, .str] r1).sat ρ w b) (h2 : ∀ (ρ : Nat → BI) (b : Nat), ρ b = b2 → (Blk.cells false [.int .u8] r2).sat ρ w b) :
    ∃ ρ0 : Nat → BI, ρ0 0 = b1 ∧ ρ0 1 = b2 ∧ HSim ρ0 (addBlks .e 0 (ins10 r1 r2)) (ins10 r1 r2).length w := by
  refine ⟨fun i => if i = 0 then b1 else b2, rfl, rfl, HSim.ins gw (fun i blk hi => ?_)⟩
  match i with
  | 0 => simp [ins10] at hi; subst hi; exact ⟨h1 _ 0 rfl, rfl, rfl⟩
  | 1 => simp [ins10] at hi; subst hi; exact ⟨h2 _ 1 rfl, rfl, rfl⟩
  | i + 2 => simp [ins10] at hi
theorem ports10_calls {w : World} {start : List UInt8} {hrows : List (List AV)} {body : List UInt8} {hv bv : Value} {host : Int} (gw : GW w) (hm : MsgIn w 1048576 start hrows body hv bv) (hbc : ∀ a n c, bv = .slice a n c → n ≤ c) (hh : 0 ≤ host ∧ host < 4294967296) :
    Calls Tryz.prog 10 #[.agg #[.string ⟨start.toArray⟩, hv, bv], .int .u32 host] w (fun e w' => e = .returned (.bool true) ∧ RowKit.Below w.heap.size w w') := by
  have hst := hm.st; have hhl := hm.hl; have hb0 := hm.bl
  obtain ⟨hh1, hh2⟩ := hh
  obtain ⟨brows, hbr⟩ : ∃ b1, b1 = byteRows body := ⟨_, rfl⟩
  have hbl : brows.length = body.length := by rw [hbr, byteRows_length]
  have hmb : Reads w [.int .u8] brows bv := by rw [hbr]; exact hm.b
  have hbo : brows.all spByteOk = true := by rw [hbr]; exact byteRows_ok body
  have eNl : ∀ (rows : List (List AV)), (spNorm rows).length = rows.length := fun rows => by unfold spNorm; rw [List.length_map]
  by_cases hn : hrows.length ≤ 100
  · obtain ⟨x1, hx1⟩ := hm.h.bi gw rfl
    have hmem : ∀ r ∈ hrows, r ∈ hrows := fun r hr => hr
    have h10 : hrows.length = hrows.length := rfl
    have hsh : hrows.all short = true := List.all_eq_true.2 fun r hr => decide_eq_true (by have := hm.rows r (hmem r hr); omega)
    by_cases hb00 : brows.length = 0
    · obtain ⟨y1, hy1⟩ := hmb.bi gw rfl
      obtain ⟨ρ0, p1, p2, hE⟩ := two10 gw (fun ρ b hb => (hx1 ρ b hb).2) (fun ρ b hb => (hy1 ρ b hb).2)
      have g1 := (hx1 ρ0 0 p1).1
      have g2 := (hy1 ρ0 1 p2).1
      have hargs : concL ρ0 [AV.agg [.str start, .slq 0 hrows.length, .slq 1 brows.length], .int .u32 host] = [.agg #[.string ⟨start.toArray⟩, hv, bv], .int .u32 host] := by
        show [Value.agg (concL ρ0 [AV.str start, .slq 0 hrows.length, .slq 1 brows.length]).toArray, conc ρ0 (.int .u32 host)] = _
        simp only [concL]
        rw [g1, g2]
        rfl
      rw [← hargs]
      have h50 : True := trivial
      have hL : LoopOK Tryz.prog (lbody Tryz.prog 10 0) 54 (b10I (spPorts host (List.map rowByte (sub brows 0 (List.length brows)))) (spPorts host (List.map rowByte (sub brows 0 (List.length brows)))) (List.length (spPorts host (List.map rowByte (sub brows 0 (List.length brows))))) (List.length (spPorts host (List.map rowByte (sub brows 0 (List.length brows))))) 0) (.exit 0) e10 := by
        have hz := spPorts_len host (List.map rowByte (sub brows 0 (List.length brows)))
        rw [List.length_map, sub_whl] at hz
        exact loop10 (spPorts_nz _ _) (by rw [sub_whl]; omega)
      exact (calls_pureB P20_ok (c10aq_FFL start hrows brows host) (by refine ⟨⟨⟨⟨⟨⟨⟨⟨⟨⟨⟨⟨⟨⟨⟨⟨⟨⟨trivial, rfl⟩, ?_⟩, rfl⟩, rfl⟩, rfl⟩, rfl⟩, rfl⟩, rfl⟩, rfl⟩, ?_⟩, rfl⟩, rfl⟩, ?_⟩, ?_⟩, ?_⟩, ?_⟩, ?_⟩, rfl⟩ <;> (first | rfl | exact decide_eq_true (by omega) | exact decide_eq_false (by omega) | exact hL | ((try simp only [sub_whl]); simp only [hsh, hbo, h10, h50, eNl, beq_self_eq_true, Bool.not_true, Bool.and_eq_true, decide_eq_true_eq, and_true, true_and, eq_self] <;> omega) | ((try simp only [sub_whl]); simp only [hsh, hbo, h10, h50, eNl, beq_self_eq_true, Bool.not_true, Bool.and_eq_true, decide_eq_true_eq, and_true, true_and, eq_self]))) hE rfl rfl rfl)
    · obtain ⟨y1, cb, hy1, a2, ha2⟩ := reads_sl hmb (by omega) rfl
      have hcb := hbc _ _ _ ha2
      obtain ⟨ρ0, p1, p2, hE⟩ := two10 gw (fun ρ b hb => (hx1 ρ b hb).2) (fun ρ b hb => (hy1 ρ b hb).2)
      have g1 := (hx1 ρ0 0 p1).1
      have g2 := (hy1 ρ0 1 p2).1
      have hargs : concL ρ0 [AV.agg [.str start, .slq 0 hrows.length, .sl ⟨1, 0, 0⟩ brows.length (.known cb)], .int .u32 host] = [.agg #[.string ⟨start.toArray⟩, hv, bv], .int .u32 host] := by
        show [Value.agg (concL ρ0 [AV.str start, .slq 0 hrows.length, .sl ⟨1, 0, 0⟩ brows.length (.known cb)]).toArray, conc ρ0 (.int .u32 host)] = _
        simp only [concL]
        rw [g1, g2]
        rfl
      rw [← hargs]
      by_cases h5 : brows.length ≤ 5000
      · have h50 : True := trivial
        have hL : LoopOK Tryz.prog (lbody Tryz.prog 10 0) 54 (b10I (spPorts host (List.map rowByte (sub brows 0 (List.length brows)))) (spPorts host (List.map rowByte (sub brows 0 (List.length brows)))) (List.length (spPorts host (List.map rowByte (sub brows 0 (List.length brows))))) (List.length (spPorts host (List.map rowByte (sub brows 0 (List.length brows))))) 0) (.exit 0) e10 := by
          have hz := spPorts_len host (List.map rowByte (sub brows 0 (List.length brows)))
          rw [List.length_map, sub_whl] at hz
          exact loop10 (spPorts_nz _ _) (by rw [sub_whl]; omega)
        exact (calls_pureB P20_ok (c10ak_FFL start hrows brows host cb) (by refine ⟨⟨⟨⟨⟨⟨⟨⟨⟨⟨⟨⟨⟨⟨⟨⟨⟨⟨trivial, rfl⟩, ?_⟩, rfl⟩, rfl⟩, rfl⟩, rfl⟩, rfl⟩, rfl⟩, rfl⟩, ?_⟩, rfl⟩, rfl⟩, ?_⟩, ?_⟩, ?_⟩, ?_⟩, ?_⟩, rfl⟩ <;> (first | rfl | exact decide_eq_true (by omega) | exact decide_eq_false (by omega) | exact hL | ((try simp only [sub_whl]); simp only [hsh, hbo, h10, h50, eNl, beq_self_eq_true, Bool.not_true, Bool.and_eq_true, decide_eq_true_eq, and_true, true_and, eq_self] <;> omega) | ((try simp only [sub_whl]); simp only [hsh, hbo, h10, h50, eNl, beq_self_eq_true, Bool.not_true, Bool.and_eq_true, decide_eq_true_eq, and_true, true_and, eq_self]))) hE rfl rfl rfl)
      · have h50 : (sub brows 0 5000).length = 5000 := sub_length (by omega)
        have hbo : (sub brows 0 5000).all spByteOk = true := List.all_eq_true.2 fun r hr => List.all_eq_true.1 hbo r (List.mem_of_mem_drop (List.mem_of_mem_take hr))
        have hL : LoopOK Tryz.prog (lbody Tryz.prog 10 0) 54 (b10I (spPorts host (List.map rowByte (sub brows 0 5000))) (spPorts host (List.map rowByte (sub brows 0 5000))) (List.length (spPorts host (List.map rowByte (sub brows 0 5000)))) (List.length (spPorts host (List.map rowByte (sub brows 0 5000)))) 0) (.exit 0) e10 := by
          have hz := spPorts_len host (List.map rowByte (sub brows 0 5000))
          rw [List.length_map, h50] at hz
          exact loop10 (spPorts_nz _ _) (by omega)
        exact (calls_pureB P20_ok (c10ak_TFL start hrows brows host cb) (by refine ⟨⟨⟨⟨⟨⟨⟨⟨⟨⟨⟨⟨⟨⟨⟨⟨⟨⟨⟨⟨⟨⟨trivial, rfl⟩, ?_⟩, rfl⟩, rfl⟩, rfl⟩, rfl⟩, rfl⟩, rfl⟩, rfl⟩, ?_⟩, rfl⟩, ?_⟩, rfl⟩, rfl⟩, rfl⟩, rfl⟩, ?_⟩, ?_⟩, ?_⟩, ?_⟩, ?_⟩, rfl⟩ <;> (first | rfl | exact decide_eq_true (by omega) | exact decide_eq_false (by omega) | exact hL | ((try simp only [sub_whl]); simp only [hsh, hbo, h10, h50, eNl, beq_self_eq_true, Bool.not_true, Bool.and_eq_true, decide_eq_true_eq, and_true, true_and, eq_self] <;> omega) | ((try simp only [sub_whl]); simp only [hsh, hbo, h10, h50, eNl, beq_self_eq_true, Bool.not_true, Bool.and_eq_true, decide_eq_true_eq, and_true, true_and, eq_self]))) hE rfl rfl rfl)
  · obtain ⟨x1, c, hx1, a1, ha1⟩ := reads_sl hm.h (by omega) rfl
    have hcc := hm.cap _ _ _ ha1
    have hmem : ∀ r ∈ sub hrows 0 100, r ∈ hrows := fun r hr => List.mem_of_mem_drop (List.mem_of_mem_take hr)
    have h10 : (sub hrows 0 100).length = 100 := sub_length (by omega)
    have hsh : (sub hrows 0 100).all short = true := List.all_eq_true.2 fun r hr => decide_eq_true (by have := hm.rows r (hmem r hr); omega)
    by_cases hb00 : brows.length = 0
    · obtain ⟨y1, hy1⟩ := hmb.bi gw rfl
      obtain ⟨ρ0, p1, p2, hE⟩ := two10 gw (fun ρ b hb => (hx1 ρ b hb).2) (fun ρ b hb => (hy1 ρ b hb).2)
      have g1 := (hx1 ρ0 0 p1).1
      have g2 := (hy1 ρ0 1 p2).1
      have hargs : concL ρ0 [AV.agg [.str start, .sl ⟨0, 0, 0⟩ hrows.length (.known c), .slq 1 brows.length], .int .u32 host] = [.agg #[.string ⟨start.toArray⟩, hv, bv], .int .u32 host] := by
        show [Value.agg (concL ρ0 [AV.str start, .sl ⟨0, 0, 0⟩ hrows.length (.known c), .slq 1 brows.length]).toArray, conc ρ0 (.int .u32 host)] = _
        simp only [concL]
        rw [g1, g2]
        rfl
      rw [← hargs]
      have h50 : True := trivial
      have hL : LoopOK Tryz.prog (lbody Tryz.prog 10 0) 54 (b10I (spPorts host (List.map rowByte (sub brows 0 (List.length brows)))) (spPorts host (List.map rowByte (sub brows 0 (List.length brows)))) (List.length (spPorts host (List.map rowByte (sub brows 0 (List.length brows))))) (List.length (spPorts host (List.map rowByte (sub brows 0 (List.length brows))))) 0) (.exit 0) e10 := by
        have hz := spPorts_len host (List.map rowByte (sub brows 0 (List.length brows)))
        rw [List.length_map, sub_whl] at hz
        exact loop10 (spPorts_nz _ _) (by rw [sub_whl]; omega)
      exact (calls_pureB P20_ok (c10bq_FFL start hrows brows host c) (by refine ⟨⟨⟨⟨⟨⟨⟨⟨⟨⟨⟨⟨⟨⟨⟨⟨⟨⟨trivial, rfl⟩, ?_⟩, rfl⟩, rfl⟩, rfl⟩, rfl⟩, rfl⟩, rfl⟩, rfl⟩, ?_⟩, rfl⟩, rfl⟩, ?_⟩, ?_⟩, ?_⟩, ?_⟩, ?_⟩, rfl⟩ <;> (first | rfl | exact decide_eq_true (by omega) | exact decide_eq_false (by omega) | exact hL | ((try simp only [sub_whl]); simp only [hsh, hbo, h10, h50, eNl, beq_self_eq_true, Bool.not_true, Bool.and_eq_true, decide_eq_true_eq, and_true, true_and, eq_self] <;> omega) | ((try simp only [sub_whl]); simp only [hsh, hbo, h10, h50, eNl, beq_self_eq_true, Bool.not_true, Bool.and_eq_true, decide_eq_true_eq, and_true, true_and, eq_self]))) hE rfl rfl rfl)
    · obtain ⟨y1, cb, hy1, a2, ha2⟩ := reads_sl hmb (by omega) rfl
      have hcb := hbc _ _ _ ha2
      obtain ⟨ρ0, p1, p2, hE⟩ := two10 gw (fun ρ b hb => (hx1 ρ b hb).2) (fun ρ b hb => (hy1 ρ b hb).2)
      have g1 := (hx1 ρ0 0 p1).1
      have g2 := (hy1 ρ0 1 p2).1
      have hargs : concL ρ0 [AV.agg [.str start, .sl ⟨0, 0, 0⟩ hrows.length (.known c), .sl ⟨1, 0, 0⟩ brows.length (.known cb)], .int .u32 host] = [.agg #[.string ⟨start.toArray⟩, hv, bv], .int .u32 host] := by
        show [Value.agg (concL ρ0 [AV.str start, .sl ⟨0, 0, 0⟩ hrows.length (.known c), .sl ⟨1, 0, 0⟩ brows.length (.known cb)]).toArray, conc ρ0 (.int .u32 host)] = _
        simp only [concL]
        rw [g1, g2]
        rfl
      rw [← hargs]
      by_cases h5 : brows.length ≤ 5000
      · have h50 : True := trivial
        have hL : LoopOK Tryz.prog (lbody Tryz.prog 10 0) 54 (b10I (spPorts host (List.map rowByte (sub brows 0 (List.length brows)))) (spPorts host (List.map rowByte (sub brows 0 (List.length brows)))) (List.length (spPorts host (List.map rowByte (sub brows 0 (List.length brows))))) (List.length (spPorts host (List.map rowByte (sub brows 0 (List.length brows))))) 0) (.exit 0) e10 := by
          have hz := spPorts_len host (List.map rowByte (sub brows 0 (List.length brows)))
          rw [List.length_map, sub_whl] at hz
          exact loop10 (spPorts_nz _ _) (by rw [sub_whl]; omega)
        exact (calls_pureB P20_ok (c10bk_FFL start hrows brows host c cb) (by refine ⟨⟨⟨⟨⟨⟨⟨⟨⟨⟨⟨⟨⟨⟨⟨⟨⟨⟨trivial, rfl⟩, ?_⟩, rfl⟩, rfl⟩, rfl⟩, rfl⟩, rfl⟩, rfl⟩, rfl⟩, ?_⟩, rfl⟩, rfl⟩, ?_⟩, ?_⟩, ?_⟩, ?_⟩, ?_⟩, rfl⟩ <;> (first | rfl | exact decide_eq_true (by omega) | exact decide_eq_false (by omega) | exact hL | ((try simp only [sub_whl]); simp only [hsh, hbo, h10, h50, eNl, beq_self_eq_true, Bool.not_true, Bool.and_eq_true, decide_eq_true_eq, and_true, true_and, eq_self] <;> omega) | ((try simp only [sub_whl]); simp only [hsh, hbo, h10, h50, eNl, beq_self_eq_true, Bool.not_true, Bool.and_eq_true, decide_eq_true_eq, and_true, true_and, eq_self]))) hE rfl rfl rfl)
      · have h50 : (sub brows 0 5000).length = 5000 := sub_length (by omega)
        have hbo : (sub brows 0 5000).all spByteOk = true := List.all_eq_true.2 fun r hr => List.all_eq_true.1 hbo r (List.mem_of_mem_drop (List.mem_of_mem_take hr))
        have hL : LoopOK Tryz.prog (lbody Tryz.prog 10 0) 54 (b10I (spPorts host (List.map rowByte (sub brows 0 5000))) (spPorts host (List.map rowByte (sub brows 0 5000))) (List.length (spPorts host (List.map rowByte (sub brows 0 5000)))) (List.length (spPorts host (List.map rowByte (sub brows 0 5000)))) 0) (.exit 0) e10 := by
          have hz := spPorts_len host (List.map rowByte (sub brows 0 5000))
          rw [List.length_map, h50] at hz
          exact loop10 (spPorts_nz _ _) (by omega)
        exact (calls_pureB P20_ok (c10bk_TFL start hrows brows host c cb) (by refine ⟨⟨⟨⟨⟨⟨⟨⟨⟨⟨⟨⟨⟨⟨⟨⟨⟨⟨⟨⟨⟨⟨trivial, rfl⟩, ?_⟩, rfl⟩, rfl⟩, rfl⟩, rfl⟩, rfl⟩, rfl⟩, rfl⟩, ?_⟩, rfl⟩, ?_⟩, rfl⟩, rfl⟩, rfl⟩, rfl⟩, ?_⟩, ?_⟩, ?_⟩, ?_⟩, ?_⟩, rfl⟩ <;> (first | rfl | exact decide_eq_true (by omega) | exact decide_eq_false (by omega) | exact hL | ((try simp only [sub_whl]); simp only [hsh, hbo, h10, h50, eNl, beq_self_eq_true, Bool.not_true, Bool.and_eq_true, decide_eq_true_eq, and_true, true_and, eq_self] <;> omega) | ((try simp only [sub_whl]); simp only [hsh, hbo, h10, h50, eNl, beq_self_eq_true, Bool.not_true, Bool.and_eq_true, decide_eq_true_eq, and_true, true_and, eq_self]))) hE rfl rfl rfl)
end Go.Proofs.YtpdgmgkkbbndfaaGreatDoor

set_option maxRecDepth 100000
set_option maxHeartbeats 6400000
namespace Go.Proofs.YtpdgmgkkbbndfaaGreatDoor
open Go Go.Proofs Go.Proofs.YtpdgmgkkbbndfaaGreatDoor.SX Go.Proofs.YtpdgmgkkbbndfaaGreatDoor
open Go.ChangeShapes Go.WideShapes Go.ChangeAt Go.RowKit
theorem msg_bcap {W : World} {b0 : Nat} {st : Value} {hv bv : Value} (hok : Value.okWide Tryz.prog W .any b0 25 (.agg #[st, hv, bv])) : ∀ a n c, bv = .slice a n c → n ≤ c := by
  unfold Value.okWide at hok
  rw [Tryz.underlying25] at hok
  obtain ⟨cs, hcs, hsz, ts, hts, _, hall⟩ := hok
  cases hcs
  have hc : Tryz.prog.cellTypes Tryz.prog.depth 25 = some [9, 22, 23] := by kernel_rfl
  rw [hc] at hts
  cases hts
  have ok2 : Cell.okWide Tryz.prog W .any b0 23 bv := by
    obtain ⟨u, hu, hok⟩ := hall 2 bv rfl
    have : u = 23 := by simpa using hu.symm
    rw [this] at hok; exact hok
  intro a n c he
  subst he
  unfold Cell.okWide at ok2
  rw [Tryz.underlying23] at ok2
  simp only [Cell.ok, Tryz.underlying23] at ok2
  cases a with
  | none => cases n <;> cases c <;> simp at ok2 ⊢
  | some a => exact ok2.1
end Go.Proofs.YtpdgmgkkbbndfaaGreatDoor

