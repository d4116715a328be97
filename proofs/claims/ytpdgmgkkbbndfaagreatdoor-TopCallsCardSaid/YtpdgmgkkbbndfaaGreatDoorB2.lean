/- Part 3 of the proof: texts that the last one builds upon. Conditions: as each theorem says. -/
import Derived.Test.YtpdgmgkkbbndfaaGreatDoorB1
set_option linter.unusedSectionVars false
set_option linter.unusedSimpArgs false
set_option linter.unusedVariables false
set_option maxRecDepth 100000
namespace Go.Proofs.YtpdgmgkkbbndfaaGreatDoor
open Go Go.Proofs Go.Proofs.YtpdgmgkkbbndfaaGreatDoor.SX
theorem c45z : Path (runCallB Tryz.prog P2 100 45 [AV.nilSl] (st0 [] ([]))) 0 [] (SL.mk [] [] 0) (Out.ret AV.nilSl) True := by unfold Path; kernel_rfl
theorem c45n (rows : List (List AV)) (n : Nat) (c : Nat) :
 Path (runCallB Tryz.prog P2 100 45 [AV.sl (Loc.mk 0 0 0) n (Cap.known c)] (st0 [Blk.cells false [Kd.str, Kd.str] rows] [pF])) 1 [2] (SL.mk [] [(1, .cells true [Kd.str, Kd.str] (sub rows 0 n))] 2) (Out.ret (ren (sig 1 [2]) (AV.sl (Loc.mk 1 0 0) (0 + n) Cap.open_)))
 ((((True ∧ (decide (0 + n ≤ List.length rows) = true)) ∧ (decide (0 + n ≤ 0) = false)) ∧ (true = true)) ∧ (decide ((0 + n) * 32 ≤ 140737488355328) = true)) := by unfold Path; kernel_rfl
theorem c45e (c : Nat) :
 Path (runCallB Tryz.prog P2 100 45 [AV.sl (Loc.mk 0 0 0) 0 (Cap.known c)] (st0 [Blk.cells false [Kd.str, Kd.str] []] ([PI.ev 1]))) 1 [1] (SL.mk [] [(1, .cells true [Kd.str, Kd.str] [])] 2) (Out.ret (ren (sig 1 [1]) (AV.sl (Loc.mk 1 0 0) 0 (Cap.known 0))))
 ((True ∧ (true = true)) ∧ (true = true)) := by unfold Path; kernel_rfl
theorem clone45 {w : World} {rows : List (List AV)} {v : Value} (gw : GW w) (hlen : rows.length ≤ 4398046511104) (h : Reads w [Kd.str, Kd.str] rows v) :
    Calls Tryz.prog 45 #[v] w (fun e w' => (∃ v', e = .returned v' ∧ ReadsN w.heap.size w' [Kd.str, Kd.str] rows v') ∧ Ext w w') := by
  cases h with
  | nil h =>
    subst h
    have hE : HSim (fun _ => ⟨0, 0, 0, 0, false⟩) (addBlks .e 0 []) ([] : List Blk).length w := HSim.ins gw (fun i blk hi => by simp at hi)
    refine (calls_pureB P2_ok c45z trivial hE rfl rfl rfl).mono fun e w' hq => ?_
    exact ⟨⟨_, hq.1, .nil rfl⟩, hq.2⟩
  | cells bi c h =>
    have hE : HSim (fun _ => bi) (addBlks .e 0 [.cells false [Kd.str, Kd.str] rows]) ([.cells false [Kd.str, Kd.str] rows] : List Blk).length w := HSim.ins gw (fun i blk hi => by
      obtain ⟨rfl, rfl⟩ := bs1 hi
      exact ⟨h, rfl, rfl⟩)
    have hro : ∀ c k, (addBlks .e 0 [Blk.cells false [Kd.str, Kd.str] rows]).get c = some k → k.isRw = false := by
      intro c k hk
      rw [addBlks_get] at hk
      split at hk
      · obtain ⟨_, rfl⟩ := bs1 hk; rfl
      · cases c <;> cases hk
    have hv : (concL (fun _ => bi) [AV.sl (Loc.mk 0 0 0) rows.length (Cap.known c)]).toArray = #[.slice (some ⟨bi.blk, bi.off, none⟩) rows.length c] := by simp [concL, conc, addr, capOf]
    rw [← hv]
    by_cases h0 : rows.length = 0
    · have hr : rows = [] := List.eq_nil_of_length_eq_zero h0
      subst hr
      refine (calls_ofB P2_ok (c45e c) ⟨⟨trivial, rfl⟩, rfl⟩ hE rfl).mono fun e w' hq => ?_
      obtain ⟨ρ', rfl, st⟩ := hq
      have hb : (Tr.ofList [(1, Blk.cells true [Kd.str, Kd.str] [])]).get 1 = some (.cells true [Kd.str, Kd.str] []) := by rw [ofList_cons, if_pos rfl]
      have hz := ((st.sim.sat 1 _ hb).2.choose_spec.choose_spec.choose_spec.2.2 rfl).1
      exact ⟨⟨_, rfl, ReadsN.of_step st hb hro rfl rfl rfl hz⟩, st.below hro⟩
    · refine (calls_ofB P2_ok (c45n rows rows.length c) ⟨⟨⟨⟨trivial, decide_eq_true (by omega)⟩, decide_eq_false (by omega)⟩, rfl⟩, decide_eq_true (by omega)⟩ hE rfl).mono fun e w' hq => ?_
      obtain ⟨ρ', rfl, st⟩ := hq
      have hb : (Tr.ofList [(1, Blk.cells true [Kd.str, Kd.str] (sub rows 0 rows.length))]).get 1 = some (.cells true [Kd.str, Kd.str] (sub rows 0 rows.length)) := by rw [ofList_cons, if_pos rfl]
      have hz := ((st.sim.sat 1 _ hb).2.choose_spec.choose_spec.choose_spec.2.2 rfl).1
      rw [sub_all rows rfl] at hb st
      exact ⟨⟨_, rfl, by rw [Nat.zero_add]; exact ReadsN.of_step st hb hro rfl rfl rfl hz⟩, st.below hro⟩
def q45 : Entry := fun args hp nx => match args with
  | [sv] => match slIn hp [Kd.str, Kd.str] sv with
    | some (c, rows) => some (c && decide (rows.length ≤ 4398046511104), .slq nx rows.length, [.cells false [Kd.str, Kd.str] rows])
    | none => none
  | _ => none
theorem q45_ok : EntryOK Tryz.prog 45 q45 := by
  intro args hp nx c v bs h hc ρ w hs hi
  unfold q45 at h
  split at h
  · split at h
    · rename_i sv c0 rows hsl
      cases h
      simp only [Bool.and_eq_true] at hc
      have hr := slIn_spec hs hsl hc.1 rfl
      exact entry_slq hs rfl rfl (clone45 hs.gw (of_decide_eq_true hc.2) hr)
    · cases h
  · cases h
theorem c46z : Path (runCallB Tryz.prog P2 100 46 [AV.nilSl] (st0 [] ([]))) 0 [] (SL.mk [] [] 0) (Out.ret AV.nilSl) True := by unfold Path; kernel_rfl
theorem c46n (rows : List (List AV)) (n : Nat) (c : Nat) :
 Path (runCallB Tryz.prog P2 100 46 [AV.sl (Loc.mk 0 0 0) n (Cap.known c)] (st0 [Blk.cells false [Kd.int IntKind.u8] rows] [pF])) 1 [2] (SL.mk [] [(1, .cells true [Kd.int IntKind.u8] (sub rows 0 n))] 2) (Out.ret (ren (sig 1 [2]) (AV.sl (Loc.mk 1 0 0) (0 + n) Cap.open_)))
 ((((True ∧ (decide (0 + n ≤ List.length rows) = true)) ∧ (decide (0 + n ≤ 0) = false)) ∧ (true = true)) ∧ (decide ((0 + n) * 1 ≤ 140737488355328) = true)) := by unfold Path; kernel_rfl
theorem c46e (c : Nat) :
 Path (runCallB Tryz.prog P2 100 46 [AV.sl (Loc.mk 0 0 0) 0 (Cap.known c)] (st0 [Blk.cells false [Kd.int IntKind.u8] []] ([PI.ev 1]))) 1 [1] (SL.mk [] [(1, .cells true [Kd.int IntKind.u8] [])] 2) (Out.ret (ren (sig 1 [1]) (AV.sl (Loc.mk 1 0 0) 0 (Cap.known 0))))
 ((True ∧ (true = true)) ∧ (true = true)) := by unfold Path; kernel_rfl
theorem clone46 {w : World} {rows : List (List AV)} {v : Value} (gw : GW w) (hlen : rows.length ≤ 140737488355328) (h : Reads w [Kd.int IntKind.u8] rows v) :
    Calls Tryz.prog 46 #[v] w (fun e w' => (∃ v', e = .returned v' ∧ ReadsN w.heap.size w' [Kd.int IntKind.u8] rows v') ∧ Ext w w') := by
  cases h with
  | nil h =>
    subst h
    have hE : HSim (fun _ => ⟨0, 0, 0, 0, false⟩) (addBlks .e 0 []) ([] : List Blk).length w := HSim.ins gw (fun i blk hi => by simp at hi)
    refine (calls_pureB P2_ok c46z trivial hE rfl rfl rfl).mono fun e w' hq => ?_
    exact ⟨⟨_, hq.1, .nil rfl⟩, hq.2⟩
  | cells bi c h =>
    have hE : HSim (fun _ => bi) (addBlks .e 0 [.cells false [Kd.int IntKind.u8] rows]) ([.cells false [Kd.int IntKind.u8] rows] : List Blk).length w := HSim.ins gw (fun i blk hi => by
      obtain ⟨rfl, rfl⟩ := bs1 hi
      exact ⟨h, rfl, rfl⟩)
    have hro : ∀ c k, (addBlks .e 0 [Blk.cells false [Kd.int IntKind.u8] rows]).get c = some k → k.isRw = false := by
      intro c k hk
      rw [addBlks_get] at hk
      split at hk
      · obtain ⟨_, rfl⟩ := bs1 hk; rfl
      · cases c <;> cases hk
    have hv : (concL (fun _ => bi) [AV.sl (Loc.mk 0 0 0) rows.length (Cap.known c)]).toArray = #[.slice (some ⟨bi.blk, bi.off, none⟩) rows.length c] := by simp [concL, conc, addr, capOf]
    rw [← hv]
    by_cases h0 : rows.length = 0
    · have hr : rows = [] := List.eq_nil_of_length_eq_zero h0
      subst hr
      refine (calls_ofB P2_ok (c46e c) ⟨⟨trivial, rfl⟩, rfl⟩ hE rfl).mono fun e w' hq => ?_
      obtain ⟨ρ', rfl, st⟩ := hq
      have hb : (Tr.ofList [(1, Blk.cells true [Kd.int IntKind.u8] [])]).get 1 = some (.cells true [Kd.int IntKind.u8] []) := by rw [ofList_cons, if_pos rfl]
      have hz := ((st.sim.sat 1 _ hb).2.choose_spec.choose_spec.choose_spec.2.2 rfl).1
      exact ⟨⟨_, rfl, ReadsN.of_step st hb hro rfl rfl rfl hz⟩, st.below hro⟩
    · refine (calls_ofB P2_ok (c46n rows rows.length c) ⟨⟨⟨⟨trivial, decide_eq_true (by omega)⟩, decide_eq_false (by omega)⟩, rfl⟩, decide_eq_true (by omega)⟩ hE rfl).mono fun e w' hq => ?_
      obtain ⟨ρ', rfl, st⟩ := hq
      have hb : (Tr.ofList [(1, Blk.cells true [Kd.int IntKind.u8] (sub rows 0 rows.length))]).get 1 = some (.cells true [Kd.int IntKind.u8] (sub rows 0 rows.length)) := by rw [ofList_cons, if_pos rfl]
      have hz := ((st.sim.sat 1 _ hb).2.choose_spec.choose_spec.choose_spec.2.2 rfl).1
      rw [sub_all rows rfl] at hb st
      exact ⟨⟨_, rfl, by rw [Nat.zero_add]; exact ReadsN.of_step st hb hro rfl rfl rfl hz⟩, st.below hro⟩
def q46 : Entry := fun args hp nx => match args with
  | [sv] => match slIn hp [Kd.int IntKind.u8] sv with
    | some (c, rows) => some (c && decide (rows.length ≤ 140737488355328), .slq nx rows.length, [.cells false [Kd.int IntKind.u8] rows])
    | none => none
  | _ => none
theorem q46_ok : EntryOK Tryz.prog 46 q46 := by
  intro args hp nx c v bs h hc ρ w hs hi
  unfold q46 at h
  split at h
  · split at h
    · rename_i sv c0 rows hsl
      cases h
      simp only [Bool.and_eq_true] at hc
      have hr := slIn_spec hs hsl hc.1 rfl
      exact entry_slq hs rfl rfl (clone46 hs.gw (of_decide_eq_true hc.2) hr)
    · cases h
  · cases h
end Go.Proofs.YtpdgmgkkbbndfaaGreatDoor

set_option maxRecDepth 100000
namespace Go.Proofs.YtpdgmgkkbbndfaaGreatDoor
open Go Go.Proofs Go.Proofs.YtpdgmgkkbbndfaaGreatDoor.SX
def b79I (rows : List (List AV)) (len : Nat) (n : Int) (k : Int) : SL := ⟨[(0, .slq 0 len), (1, .fn (.func 80) [] [.ptr ⟨1, 0, 0⟩]), (7, .int .i64 len), (8, .int .i64 k)], [(0, .cells false [.int .u16, .int .u16] rows), (1, .cells false [.int .i64] [[.int .i64 n]])], 2⟩
theorem b79_TTT (rows : List (List AV)) (len : Nat) (n : Int) (k : Int) :
 Path (run Tryz.prog Pr 100 (lbody Tryz.prog 79 0) (SL.mp 19 ([pT, pT, pT]) (b79I rows len n k))) 2 [] (SL.mk [(4, AV.int IntKind.i64 k)] [] 2) (Ex.ret)
 (((((((((True ∧ (decide (k < ↑len) = true)) ∧ (decide (0 < len) = true)) ∧ (decide ((0 : Int) ≤ k ∧ k < ↑len) = true)) ∧ (decide (0 + Int.toNat k < List.length rows) = true)) ∧ (true = true)) ∧ (decide (n > (0 : Int)) = true)) ∧ (true = true)) ∧ (true = true)) ∧ ((IntKind.wrap IntKind.i64 (AV.toInt (List.getD (List.getD rows (0 + Int.toNat k) []) (0) AV.undef)) == n) = true)) := by unfold Path; kernel_rfl
theorem b79_TTF (rows : List (List AV)) (len : Nat) (n : Int) (k : Int) :
 Path (run Tryz.prog Pr 100 (lbody Tryz.prog 79 0) (SL.mp 19 ([pT, pT, pF]) (b79I rows len n k))) 2 [] (b79I (rows) (len) (n) (IntKind.wrap IntKind.i64 (k + (1 : Int)))) (Ex.normal)
 (((((((((True ∧ (decide (k < ↑len) = true)) ∧ (decide (0 < len) = true)) ∧ (decide ((0 : Int) ≤ k ∧ k < ↑len) = true)) ∧ (decide (0 + Int.toNat k < List.length rows) = true)) ∧ (true = true)) ∧ (decide (n > (0 : Int)) = true)) ∧ (true = true)) ∧ (true = true)) ∧ ((IntKind.wrap IntKind.i64 (AV.toInt (List.getD (List.getD rows (0 + Int.toNat k) []) (0) AV.undef)) == n) = false)) := by unfold Path; kernel_rfl
theorem b79_TF (rows : List (List AV)) (len : Nat) (n : Int) (k : Int) :
 Path (run Tryz.prog Pr 100 (lbody Tryz.prog 79 0) (SL.mp 19 ([pT, pF]) (b79I rows len n k))) 2 [] (b79I (rows) (len) (n) (IntKind.wrap IntKind.i64 (k + (1 : Int)))) (Ex.normal)
 ((((((True ∧ (decide (k < ↑len) = true)) ∧ (decide (0 < len) = true)) ∧ (decide ((0 : Int) ≤ k ∧ k < ↑len) = true)) ∧ (decide (0 + Int.toNat k < List.length rows) = true)) ∧ (true = true)) ∧ (decide (n > (0 : Int)) = false)) := by unfold Path; kernel_rfl
theorem b79_F (rows : List (List AV)) (len : Nat) (n : Int) (k : Int) :
 Path (run Tryz.prog Pr 100 (lbody Tryz.prog 79 0) (SL.mp 19 ([pF]) (b79I rows len n k))) 2 [] (SL.mk [] [] 2) (Ex.exit 0)
 (True ∧ (decide (k < ↑len) = false)) := by unfold Path; kernel_rfl
theorem c79_L (rows : List (List AV)) (len : Nat) (n : Int) (j : Int) :
 Path (runCallB Tryz.prog P2 100 79 [AV.slq 0 len, AV.fn (Fn.func (80 : FuncId)) [] [AV.ptr (Loc.mk 1 0 0)]] (st0 [Blk.cells false [Kd.int IntKind.u16, Kd.int IntKind.u16] rows, Blk.cells false [Kd.int IntKind.i64] [[AV.int IntKind.i64 n]]] ([PI.loop (b79I rows len n (0 : Int)) Ex.ret (SL.mk [(4, AV.int IntKind.i64 j)] [] 2)]))) 2 [] (SL.mk [] [] 2) (Out.ret (AV.int IntKind.i64 j))
 (True ∧ (LoopOK Tryz.prog (lbody Tryz.prog 79 0) (19) (SL.mk [(0, AV.slq 0 len), (1, AV.fn (Fn.func 80) [] [AV.ptr (Loc.mk 1 0 0)]), (7, AV.int IntKind.i64 ↑len), (8, AV.int IntKind.i64 (0 : Int))] [(0, Blk.cells false [Kd.int IntKind.u16, Kd.int IntKind.u16] rows), (1, Blk.cells false [Kd.int IntKind.i64] [[AV.int IntKind.i64 n]])] 2) Ex.ret (SL.mk [(4, AV.int IntKind.i64 j)] [] 2))) := by unfold Path; kernel_rfl
theorem c79_L2 (rows : List (List AV)) (len : Nat) (n : Int) (j : Int) :
 Path (runCallB Tryz.prog P2 100 79 [AV.slq 0 len, AV.fn (Fn.func (80 : FuncId)) [] [AV.ptr (Loc.mk 1 0 0)]] (st0 [Blk.cells false [Kd.int IntKind.u16, Kd.int IntKind.u16] rows, Blk.cells false [Kd.int IntKind.i64] [[AV.int IntKind.i64 n]]] ([PI.loop (b79I rows len n (0 : Int)) (Ex.exit 0) (SL.mk [] [] 2)]))) 2 [] (SL.mk [] [] 2) (Out.ret (AV.int IntKind.i64 (Int.negSucc (0))))
 (True ∧ (LoopOK Tryz.prog (lbody Tryz.prog 79 0) (19) (SL.mk [(0, AV.slq 0 len), (1, AV.fn (Fn.func 80) [] [AV.ptr (Loc.mk 1 0 0)]), (7, AV.int IntKind.i64 ↑len), (8, AV.int IntKind.i64 (0 : Int))] [(0, Blk.cells false [Kd.int IntKind.u16, Kd.int IntKind.u16] rows), (1, Blk.cells false [Kd.int IntKind.i64] [[AV.int IntKind.i64 n]])] 2) (Ex.exit 0) (SL.mk [] [] 2))) := by unfold Path; kernel_rfl
def wasOf (r : List AV) : Int := IntKind.wrap IntKind.i64 (AV.toInt (List.getD r 0 AV.undef))
def spHit (n : Int) (r : List AV) : Bool := decide (n > 0) && wasOf r == n
theorem row_at {rows : List (List AV)} {k : Nat} (h : k < rows.length) : List.getD rows (0 + Int.toNat (k : Int)) [] = rows[k] := by
  simp [List.getD_eq_getElem?_getD, h]
theorem idx_step {rows : List (List AV)} {n : Int} {k : Nat} (hk : k < rows.length) (hl : rows.length ≤ 4611686018427387904) (hno : spHit n rows[k] = false) :
    BodyOK Tryz.prog (lbody Tryz.prog 79 0) 19 2 (b79I rows rows.length n k) .normal (b79I rows rows.length n ((k + 1 : Nat) : Int)) := by
  have hw := succ64 (n := rows.length) hk hl
  unfold spHit at hno
  by_cases hn : n > 0
  · have h2 : (wasOf rows[k] == n) = false := by simpa [hn] using hno
    refine body_by Pr_ok (b79_TTF rows rows.length n k) (by rw [hw]) ⟨⟨⟨⟨⟨⟨⟨⟨⟨trivial, decide_eq_true (by omega)⟩, decide_eq_true (by omega)⟩, decide_eq_true (by omega)⟩, decide_eq_true (by simp; omega)⟩, rfl⟩, decide_eq_true hn⟩, rfl⟩, rfl⟩, ?_⟩ rfl
    rw [row_at hk]; exact h2
  · exact body_by Pr_ok (b79_TF rows rows.length n k) (by rw [hw]) ⟨⟨⟨⟨⟨⟨trivial, decide_eq_true (by omega)⟩, decide_eq_true (by omega)⟩, decide_eq_true (by omega)⟩, decide_eq_true (by simp; omega)⟩, rfl⟩, decide_eq_false hn⟩ rfl
theorem idx_some {rows : List (List AV)} {n : Int} {j : Nat} (hl : rows.length ≤ 4611686018427387904) (h : firstAt (spHit n) rows = some j) :
    LoopOK Tryz.prog (lbody Tryz.prog 79 0) 19 (b79I rows rows.length n 0) .ret ⟨[(4, .int .i64 (j : Int))], [], 2⟩ := by
  obtain ⟨hj, h2, h3⟩ := firstAt_some h
  refine loop_rule (E := b79I rows rows.length n 0) (I := fun k : Nat => b79I rows rows.length n k) (pre := fun k => k ≤ j) (μ := fun k => j - k) _ _ rfl (fun ρ => by simp [Ex.conc]) ?_ (x0 := 0) (pick := []) (Nat.zero_le _) ⟨by kernel_rfl, map_fst_snd (by kernel_rfl)⟩
  intro k hk
  by_cases hkj : k = j
  · right
    subst hkj
    simp only [spHit, Bool.and_eq_true, decide_eq_true_eq] at h2
    refine body_by Pr_ok (b79_TTT rows rows.length n k) rfl ⟨⟨⟨⟨⟨⟨⟨⟨⟨trivial, decide_eq_true (by omega)⟩, decide_eq_true (by omega)⟩, decide_eq_true (by omega)⟩, decide_eq_true (by simp; omega)⟩, rfl⟩, decide_eq_true h2.1⟩, rfl⟩, rfl⟩, ?_⟩ rfl
    rw [row_at hj]; exact h2.2
  · left
    exact ⟨k + 1, by omega, by omega, idx_step (by omega) hl (h3 k (by omega))⟩
theorem idx_none {rows : List (List AV)} {n : Int} (hl : rows.length ≤ 4611686018427387904) (h : firstAt (spHit n) rows = none) :
    LoopOK Tryz.prog (lbody Tryz.prog 79 0) 19 (b79I rows rows.length n 0) (.exit 0) ⟨[], [], 2⟩ := by
  have h3 := firstAt_none h
  refine loop_rule (E := b79I rows rows.length n 0) (I := fun k : Nat => b79I rows rows.length n k) (pre := fun k => k ≤ rows.length) (μ := fun k => rows.length - k) _ _ rfl (fun ρ => by simp [Ex.conc]) ?_ (x0 := 0) (pick := []) (Nat.zero_le _) ⟨by kernel_rfl, map_fst_snd (by kernel_rfl)⟩
  intro k hk
  by_cases hkl : k < rows.length
  · left
    exact ⟨k + 1, by omega, by omega, idx_step hkl hl (h3 k hkl)⟩
  · right
    exact body_by Pr_ok (b79_F rows rows.length n k) rfl ⟨trivial, decide_eq_false (by omega)⟩ rfl
def spIdx (rows : List (List AV)) (n : Int) : Int := match firstAt (spHit n) rows with
  | some j => j
  | none => -1
def q79 : Entry := fun args hp nx => match args with
  | [lv, .fn (.func 80) [] [.ptr ⟨b, 0, 0⟩]] => match slIn hp [.int .u16, .int .u16] lv, hp.get b with
    | some (c, rows), some (.cells _ [.int .i64] [[.int .i64 n]]) => some (c && decide (rows.length ≤ 4611686018427387904), .int .i64 (spIdx rows n), [])
    | _, _ => none
  | _ => none
theorem q79_ok : EntryOK Tryz.prog 79 q79 := by
  intro args hp nx c v bs h hc ρ w hs hi
  unfold q79 at h
  split at h
  · rename_i lv b
    split at h
    · rename_i c0 rows rw_ n hsl hb
      cases h
      simp only [Bool.and_eq_true] at hc
      have hlen := of_decide_eq_true hc.2
      obtain ⟨bi, hbi⟩ := (slIn_spec hs hsl hc.1 rfl).bi hs.gw rfl
      have hcell := hs.sat b _ hb
      have hz : (ρ b).sz = 1 := hcell.1
      refine entry_pure hs rfl ?_
      obtain ⟨ρ0, hρ0⟩ : ∃ ρ0 : Nat → BI, (fun i => if i = 0 then bi else ρ b) = ρ0 := ⟨_, rfl⟩
      have h0 : ρ0 0 = bi := by rw [← hρ0]; rfl
      have h1 : ρ0 1 = ρ b := by rw [← hρ0]; rfl
      have hb0 := hbi ρ0 0 h0
      have hE : HSim ρ0 (addBlks .e 0 [.cells false [.int .u16, .int .u16] rows, .cells false [.int .i64] [[.int .i64 n]]]) ([.cells false [.int .u16, .int .u16] rows, .cells false [.int .i64] [[.int .i64 n]]] : List Blk).length w :=
        HSim.ins hs.gw (fun i blk hi => by
          match i with
          | 0 => simp at hi; subst hi; exact ⟨hb0.2, rfl, rfl⟩
          | 1 => simp at hi; subst hi; exact ⟨Blk.sat_at rfl h1 (Blk.ro hcell), rfl, rfl⟩
          | i + 2 => simp at hi)
      have hv : (concL ρ0 [AV.slq 0 rows.length, .fn (.func 80) [] [.ptr ⟨1, 0, 0⟩]]).toArray = (concL ρ [lv, .fn (.func 80) [] [.ptr ⟨b, 0, 0⟩]]).toArray := by
        have e1 := hb0.1
        have e2 : addr ρ0 ⟨1, 0, 0⟩ = addr ρ ⟨b, 0, 0⟩ := by simp [addr, h1]
        have e3 : conc ρ0 (AV.slq 0 rows.length) = conc ρ lv := e1
        have e4 : conc ρ0 (AV.fn (.func 80) [] [.ptr ⟨1, 0, 0⟩]) = conc ρ (AV.fn (.func 80) [] [.ptr ⟨b, 0, 0⟩]) := by simp only [conc, concL, e2]
        simp only [concL]
        rw [e3, e4]
      rw [← hv]
      unfold spIdx
      cases hf : firstAt (spHit n) rows with
      | some j => exact calls_pureB P2_ok (c79_L rows rows.length n j) ⟨trivial, idx_some hlen hf⟩ hE rfl rfl rfl
      | none => exact calls_pureB P2_ok (c79_L2 rows rows.length n 0) ⟨trivial, idx_none hlen hf⟩ hE rfl rfl rfl
    · cases h
  · cases h
end Go.Proofs.YtpdgmgkkbbndfaaGreatDoor

set_option maxRecDepth 100000
namespace Go.Proofs.YtpdgmgkkbbndfaaGreatDoor
open Go Go.Proofs Go.Proofs.YtpdgmgkkbbndfaaGreatDoor.SX
def P3 : Prims := addP (addP (addP P2 64 q64) 82 q82) 79 q79
theorem P3_ok : PrimsOK Tryz.prog P3 := addP_ok (addP_ok (addP_ok P2_ok q64_ok) q82_ok) q79_ok
end Go.Proofs.YtpdgmgkkbbndfaaGreatDoor

namespace Go.Proofs.YtpdgmgkkbbndfaaGreatDoor
open Go Go.Proofs Go.Proofs.YtpdgmgkkbbndfaaGreatDoor.SX
theorem wrap64_range (n : Int) : -9223372036854775808 ≤ IntKind.wrap IntKind.i64 n ∧ IntKind.wrap IntKind.i64 n ≤ 9223372036854775807 := by
  rw [IntKind.wrap_i64]; omega
theorem idx_range (rows : List (List AV)) (n : Int) : spIdx rows n = -1 ∨ (0 ≤ spIdx rows n ∧ spIdx rows n < rows.length) := by
  unfold spIdx
  cases h : firstAt (spHit n) rows with
  | none => exact .inl rfl
  | some j =>
    right
    obtain ⟨h1, _⟩ := firstAt_some h
    show 0 ≤ (j : Int) ∧ (j : Int) < rows.length
    omega
theorem len_medA (s : List UInt8) : (spMedA s).length ≤ s.length + 3 := by
  unfold spMedA spMedW
  cases spMedK s with
  | false => simp
  | true =>
    have h1 := len_before (spTrimPre s [109, 61]) [32]
    have h2 := len_pre s [109, 61]
    simp only [cond_true, List.length_append, List.length_cons, List.length_nil]; omega
theorem len_medB (s : List UInt8) : (spMedB s).length ≤ s.length + 1 := by
  unfold spMedB spMedR
  cases spMedK s with
  | false => simp
  | true =>
    have h1 := len_after (spAfter (spTrimPre s [109, 61]) [32]) [32]
    have h2 := len_after (spTrimPre s [109, 61]) [32]
    have h3 := len_pre s [109, 61]
    simp only [cond_true, List.length_cons]; omega
theorem len_sub {α : Type} (l : List α) (i n : Nat) : (sub l i n).length ≤ l.length := by
  simp [sub, List.length_take, List.length_drop]; omega
theorem len_place (host to_ s : List UInt8) (port toPort : Int) (h : -9223372036854775808 ≤ toPort ∧ toPort ≤ 9223372036854775807) : (spPlace host to_ s port toPort).length ≤ s.length + to_.length + 22 := by
  have h1 := len_itoa toPort h
  have h2 := numeral_range (spTrimPre s (host ++ [58]))
  have h3 := len_itoa (spNumeral (spTrimPre s (host ++ [58]))) (by omega)
  unfold spPlace
  cases (s == host) <;> cases (!spHasPre s (host ++ [58])) <;> cases (spNumeral (spTrimPre s (host ++ [58])) == 0) <;> cases (spNumeral (spTrimPre s (host ++ [58])) == port) <;>
    simp only [cond_true, cond_false, List.length_append, List.length_cons, List.length_nil] <;> omega
end Go.Proofs.YtpdgmgkkbbndfaaGreatDoor

set_option maxRecDepth 100000
namespace Go.Proofs.YtpdgmgkkbbndfaaGreatDoor
open Go Go.Proofs Go.Proofs.YtpdgmgkkbbndfaaGreatDoor.SX
def c49k0 (host to_ s : List UInt8) (port toPort : Int) (rows : List (List AV)) (n : Nat) : Bool := decide (9 + List.length host ≤ 9223372036854775807)
def c49k1 (host to_ s : List UInt8) (port toPort : Int) (rows : List (List AV)) (n : Nat) : Bool := s == (99 : UInt8) :: (61 : UInt8) :: (73 : UInt8) :: (78 : UInt8) :: (32 : UInt8) :: (73 : UInt8) :: (80 : UInt8) :: (52 : UInt8) :: (32 : UInt8) :: host
def c49k2 (host to_ s : List UInt8) (port toPort : Int) (rows : List (List AV)) (n : Nat) : Bool := decide (9 + List.length to_ ≤ 9223372036854775807)
theorem c49_T (host : List UInt8) (to_ : List UInt8) (s : List UInt8) (port : Int) (toPort : Int) (rows : List (List AV)) (n : Nat) :
 Path (runCallB Tryz.prog P3 100 49 [AV.agg [AV.str host, AV.str to_, AV.int IntKind.i64 port, AV.int IntKind.i64 toPort, AV.slq 0 n], AV.str s] (st0 [Blk.cells false [Kd.int IntKind.u16, Kd.int IntKind.u16] rows] ([pT]))) 1 [] (SL.mk [] [] 1) (Out.ret (AV.str ((99 : UInt8) :: (61 : UInt8) :: (73 : UInt8) :: (78 : UInt8) :: (32 : UInt8) :: (73 : UInt8) :: (80 : UInt8) :: (52 : UInt8) :: (32 : UInt8) :: to_)))
 (((((True ∧ true = true) ∧ c49k0 host to_ s port toPort rows n = true) ∧ c49k1 host to_ s port toPort rows n = true) ∧ true = true) ∧ c49k2 host to_ s port toPort rows n = true) := by unfold Path; kernel_rfl
def c49k3 (host to_ s : List UInt8) (port toPort : Int) (rows : List (List AV)) (n : Nat) : Bool := decide (8 + List.length host ≤ 9223372036854775807)
def c49k4 (host to_ s : List UInt8) (port toPort : Int) (rows : List (List AV)) (n : Nat) : Bool := decide (List.length s ≤ 9223372036854775807)
def c49k5 (host to_ s : List UInt8) (port toPort : Int) (rows : List (List AV)) (n : Nat) : Bool := spHasSuf s ((32 : UInt8) :: (73 : UInt8) :: (78 : UInt8) :: (32 : UInt8) :: (73 : UInt8) :: (80 : UInt8) :: (52 : UInt8) :: (32 : UInt8) :: host)
def c49k6 (host to_ s : List UInt8) (port toPort : Int) (rows : List (List AV)) (n : Nat) : Bool := spHasPre (spTrimSuf s ((32 : UInt8) :: (73 : UInt8) :: (78 : UInt8) :: (32 : UInt8) :: (73 : UInt8) :: (80 : UInt8) :: (52 : UInt8) :: (32 : UInt8) :: host)) [(111 : UInt8), (61 : UInt8)]
def c49k7 (host to_ s : List UInt8) (port toPort : Int) (rows : List (List AV)) (n : Nat) : Bool := decide (List.length (spTrimSuf s ((32 : UInt8) :: (73 : UInt8) :: (78 : UInt8) :: (32 : UInt8) :: (73 : UInt8) :: (80 : UInt8) :: (52 : UInt8) :: (32 : UInt8) :: host)) + 1 ≤ 9223372036854775807)
def c49k8 (host to_ s : List UInt8) (port toPort : Int) (rows : List (List AV)) (n : Nat) : Bool := decide (List.length (spTrimSuf s ((32 : UInt8) :: (73 : UInt8) :: (78 : UInt8) :: (32 : UInt8) :: (73 : UInt8) :: (80 : UInt8) :: (52 : UInt8) :: (32 : UInt8) :: host) ++ [(32 : UInt8)]) + 7 ≤ 9223372036854775807)
def c49k9 (host to_ s : List UInt8) (port toPort : Int) (rows : List (List AV)) (n : Nat) : Bool := decide (List.length (spTrimSuf s ((32 : UInt8) :: (73 : UInt8) :: (78 : UInt8) :: (32 : UInt8) :: (73 : UInt8) :: (80 : UInt8) :: (52 : UInt8) :: (32 : UInt8) :: host) ++ [(32 : UInt8)] ++ [(73 : UInt8), (78 : UInt8), (32 : UInt8), (73 : UInt8), (80 : UInt8), (52 : UInt8), (32 : UInt8)]) + List.length to_ ≤ 9223372036854775807)
theorem c49_FTT (host : List UInt8) (to_ : List UInt8) (s : List UInt8) (port : Int) (toPort : Int) (rows : List (List AV)) (n : Nat) :
 Path (runCallB Tryz.prog P3 100 49 [AV.agg [AV.str host, AV.str to_, AV.int IntKind.i64 port, AV.int IntKind.i64 toPort, AV.slq 0 n], AV.str s] (st0 [Blk.cells false [Kd.int IntKind.u16, Kd.int IntKind.u16] rows] ([pF, pT, pT]))) 1 [] (SL.mk [] [] 1) (Out.ret (AV.str (spTrimSuf s ((32 : UInt8) :: (73 : UInt8) :: (78 : UInt8) :: (32 : UInt8) :: (73 : UInt8) :: (80 : UInt8) :: (52 : UInt8) :: (32 : UInt8) :: host) ++ [(32 : UInt8)] ++ [(73 : UInt8), (78 : UInt8), (32 : UInt8), (73 : UInt8), (80 : UInt8), (52 : UInt8), (32 : UInt8)] ++ to_)))
 (((((((((((((True ∧ true = true) ∧ c49k0 host to_ s port toPort rows n = true) ∧ c49k1 host to_ s port toPort rows n = false) ∧ true = true) ∧ c49k3 host to_ s port toPort rows n = true) ∧ c49k4 host to_ s port toPort rows n = true) ∧ c49k5 host to_ s port toPort rows n = true) ∧ true = true) ∧ c49k6 host to_ s port toPort rows n = true) ∧ c49k7 host to_ s port toPort rows n = true) ∧ c49k8 host to_ s port toPort rows n = true) ∧ true = true) ∧ c49k9 host to_ s port toPort rows n = true) := by unfold Path; kernel_rfl
def c49k10 (host to_ s : List UInt8) (port toPort : Int) (rows : List (List AV)) (n : Nat) : Bool := decide (List.length s ≤ 4294967200)
def c49k11 (host to_ s : List UInt8) (port toPort : Int) (rows : List (List AV)) (n : Nat) : Bool := (decide (0 + n ≤ List.length rows) && decide (List.length (sub rows 0 n) ≤ 4611686018427387904))
def c49k12 (host to_ s : List UInt8) (port toPort : Int) (rows : List (List AV)) (n : Nat) : Bool := decide (spIdx (sub rows 0 n) (spMedN s) < (0 : Int))
theorem c49_FTFT (host : List UInt8) (to_ : List UInt8) (s : List UInt8) (port : Int) (toPort : Int) (rows : List (List AV)) (n : Nat) :
 Path (runCallB Tryz.prog P3 100 49 [AV.agg [AV.str host, AV.str to_, AV.int IntKind.i64 port, AV.int IntKind.i64 toPort, AV.slq 0 n], AV.str s] (st0 [Blk.cells false [Kd.int IntKind.u16, Kd.int IntKind.u16] rows] ([pF, pT, pF, pT]))) 1 [] (SL.mk [] [] 1) (Out.ret (AV.str s))
 ((((((((((((((True ∧ true = true) ∧ c49k0 host to_ s port toPort rows n = true) ∧ c49k1 host to_ s port toPort rows n = false) ∧ true = true) ∧ c49k3 host to_ s port toPort rows n = true) ∧ c49k4 host to_ s port toPort rows n = true) ∧ c49k5 host to_ s port toPort rows n = true) ∧ true = true) ∧ c49k6 host to_ s port toPort rows n = false) ∧ c49k10 host to_ s port toPort rows n = true) ∧ true = true) ∧ true = true) ∧ c49k11 host to_ s port toPort rows n = true) ∧ c49k12 host to_ s port toPort rows n = true) := by unfold Path; kernel_rfl
def c49k13 (host to_ s : List UInt8) (port toPort : Int) (rows : List (List AV)) (n : Nat) : Bool := decide (0 < n)
def c49k14 (host to_ s : List UInt8) (port toPort : Int) (rows : List (List AV)) (n : Nat) : Bool := decide ((0 : Int) ≤ spIdx (sub rows 0 n) (spMedN s) ∧ spIdx (sub rows 0 n) (spMedN s) < (↑n : Int))
def c49k15 (host to_ s : List UInt8) (port toPort : Int) (rows : List (List AV)) (n : Nat) : Bool := decide (0 + Int.toNat (spIdx (sub rows 0 n) (spMedN s)) < List.length rows)
def c49k16 (host to_ s : List UInt8) (port toPort : Int) (rows : List (List AV)) (n : Nat) : Bool := decide (Int.negSucc (9223372036854775807) ≤ IntKind.wrap IntKind.i64 (AV.toInt (List.getD (List.getD rows (0 + Int.toNat (spIdx (sub rows 0 n) (spMedN s))) []) (1) AV.undef)) ∧ IntKind.wrap IntKind.i64 (AV.toInt (List.getD (List.getD rows (0 + Int.toNat (spIdx (sub rows 0 n) (spMedN s))) []) (1) AV.undef)) ≤ (9223372036854775807 : Int))
def c49k17 (host to_ s : List UInt8) (port toPort : Int) (rows : List (List AV)) (n : Nat) : Bool := decide (List.length (spMedA s) + List.length (spItoa (IntKind.wrap IntKind.i64 (AV.toInt (List.getD (List.getD rows (0 + Int.toNat (spIdx (sub rows 0 n) (spMedN s))) []) (1) AV.undef)))) ≤ 9223372036854775807)
def c49k18 (host to_ s : List UInt8) (port toPort : Int) (rows : List (List AV)) (n : Nat) : Bool := decide (List.length (spMedA s ++ spItoa (IntKind.wrap IntKind.i64 (AV.toInt (List.getD (List.getD rows (0 + Int.toNat (spIdx (sub rows 0 n) (spMedN s))) []) (1) AV.undef)))) + List.length (spMedB s) ≤ 9223372036854775807)
theorem c49_FTFF (host : List UInt8) (to_ : List UInt8) (s : List UInt8) (port : Int) (toPort : Int) (rows : List (List AV)) (n : Nat) :
 Path (runCallB Tryz.prog P3 100 49 [AV.agg [AV.str host, AV.str to_, AV.int IntKind.i64 port, AV.int IntKind.i64 toPort, AV.slq 0 n], AV.str s] (st0 [Blk.cells false [Kd.int IntKind.u16, Kd.int IntKind.u16] rows] ([pF, pT, pF, pF]))) 1 [] (SL.mk [] [] 1) (Out.ret (AV.str (spMedA s ++ spItoa (IntKind.wrap IntKind.i64 (AV.toInt (List.getD (List.getD rows (0 + Int.toNat (spIdx (sub rows 0 n) (spMedN s))) []) (1) AV.undef))) ++ spMedB s)))
 (((((((((((((((((((((True ∧ true = true) ∧ c49k0 host to_ s port toPort rows n = true) ∧ c49k1 host to_ s port toPort rows n = false) ∧ true = true) ∧ c49k3 host to_ s port toPort rows n = true) ∧ c49k4 host to_ s port toPort rows n = true) ∧ c49k5 host to_ s port toPort rows n = true) ∧ true = true) ∧ c49k6 host to_ s port toPort rows n = false) ∧ c49k10 host to_ s port toPort rows n = true) ∧ true = true) ∧ true = true) ∧ c49k11 host to_ s port toPort rows n = true) ∧ c49k12 host to_ s port toPort rows n = false) ∧ true = true) ∧ c49k13 host to_ s port toPort rows n = true) ∧ c49k14 host to_ s port toPort rows n = true) ∧ c49k15 host to_ s port toPort rows n = true) ∧ c49k16 host to_ s port toPort rows n = true) ∧ c49k17 host to_ s port toPort rows n = true) ∧ c49k18 host to_ s port toPort rows n = true) := by unfold Path; kernel_rfl
theorem c49_FFT (host : List UInt8) (to_ : List UInt8) (s : List UInt8) (port : Int) (toPort : Int) (rows : List (List AV)) (n : Nat) :
 Path (runCallB Tryz.prog P3 100 49 [AV.agg [AV.str host, AV.str to_, AV.int IntKind.i64 port, AV.int IntKind.i64 toPort, AV.slq 0 n], AV.str s] (st0 [Blk.cells false [Kd.int IntKind.u16, Kd.int IntKind.u16] rows] ([pF, pF, pT]))) 1 [] (SL.mk [] [] 1) (Out.ret (AV.str s))
 ((((((((((((True ∧ true = true) ∧ c49k0 host to_ s port toPort rows n = true) ∧ c49k1 host to_ s port toPort rows n = false) ∧ true = true) ∧ c49k3 host to_ s port toPort rows n = true) ∧ c49k4 host to_ s port toPort rows n = true) ∧ c49k5 host to_ s port toPort rows n = false) ∧ c49k10 host to_ s port toPort rows n = true) ∧ true = true) ∧ true = true) ∧ c49k11 host to_ s port toPort rows n = true) ∧ c49k12 host to_ s port toPort rows n = true) := by unfold Path; kernel_rfl
theorem c49_FFF (host : List UInt8) (to_ : List UInt8) (s : List UInt8) (port : Int) (toPort : Int) (rows : List (List AV)) (n : Nat) :
 Path (runCallB Tryz.prog P3 100 49 [AV.agg [AV.str host, AV.str to_, AV.int IntKind.i64 port, AV.int IntKind.i64 toPort, AV.slq 0 n], AV.str s] (st0 [Blk.cells false [Kd.int IntKind.u16, Kd.int IntKind.u16] rows] ([pF, pF, pF]))) 1 [] (SL.mk [] [] 1) (Out.ret (AV.str (spMedA s ++ spItoa (IntKind.wrap IntKind.i64 (AV.toInt (List.getD (List.getD rows (0 + Int.toNat (spIdx (sub rows 0 n) (spMedN s))) []) (1) AV.undef))) ++ spMedB s)))
 (((((((((((((((((((True ∧ true = true) ∧ c49k0 host to_ s port toPort rows n = true) ∧ c49k1 host to_ s port toPort rows n = false) ∧ true = true) ∧ c49k3 host to_ s port toPort rows n = true) ∧ c49k4 host to_ s port toPort rows n = true) ∧ c49k5 host to_ s port toPort rows n = false) ∧ c49k10 host to_ s port toPort rows n = true) ∧ true = true) ∧ true = true) ∧ c49k11 host to_ s port toPort rows n = true) ∧ c49k12 host to_ s port toPort rows n = false) ∧ true = true) ∧ c49k13 host to_ s port toPort rows n = true) ∧ c49k14 host to_ s port toPort rows n = true) ∧ c49k15 host to_ s port toPort rows n = true) ∧ c49k16 host to_ s port toPort rows n = true) ∧ c49k17 host to_ s port toPort rows n = true) ∧ c49k18 host to_ s port toPort rows n = true) := by unfold Path; kernel_rfl
def c49_cls (host to_ s : List UInt8) (port toPort : Int) (rows : List (List AV)) (n : Nat) : Nat := (bif c49k1 host to_ s port toPort rows n then 0 else (bif c49k5 host to_ s port toPort rows n then (bif c49k6 host to_ s port toPort rows n then 1 else (bif c49k12 host to_ s port toPort rows n then 2 else 3)) else (bif c49k12 host to_ s port toPort rows n then 2 else 3)))
theorem c49_all (host to_ s : List UInt8) (port toPort : Int) (rows : List (List AV)) (n : Nat) : c49_cls host to_ s port toPort rows n = 0 ∨ c49_cls host to_ s port toPort rows n = 1 ∨ c49_cls host to_ s port toPort rows n = 2 ∨ c49_cls host to_ s port toPort rows n = 3 := by
  unfold c49_cls
  cases c49k1 host to_ s port toPort rows n <;> cases c49k5 host to_ s port toPort rows n <;> cases c49k6 host to_ s port toPort rows n <;> cases c49k12 host to_ s port toPort rows n <;> simp
theorem c49_c0 (host to_ s : List UInt8) (port toPort : Int) (rows : List (List AV)) (n : Nat) (h : c49_cls host to_ s port toPort rows n = 0) (m0 : c49k0 host to_ s port toPort rows n = true) (m1 : c49k1 host to_ s port toPort rows n = true → c49k2 host to_ s port toPort rows n = true) : ∃ plan ow, Path (runCallB Tryz.prog P3 100 49 [AV.agg [AV.str host, AV.str to_, AV.int IntKind.i64 port, AV.int IntKind.i64 toPort, AV.slq 0 n], AV.str s] (st0 [Blk.cells false [Kd.int IntKind.u16, Kd.int IntKind.u16] rows] plan)) 1 [] (SL.mk [] [] 1) (Out.ret (AV.str ((99 : UInt8) :: (61 : UInt8) :: (73 : UInt8) :: (78 : UInt8) :: (32 : UInt8) :: (73 : UInt8) :: (80 : UInt8) :: (52 : UInt8) :: (32 : UInt8) :: to_))) ow ∧ ow := by
  unfold c49_cls at h
  cases q1 : c49k1 host to_ s port toPort rows n with
  | true =>
    rw [q1, cond_true] at h
    exact ⟨_, _, c49_T host to_ s port toPort rows n, by simp only [q1, m0, (m1 q1), eq_self, and_true, true_and]⟩
  | false =>
    rw [q1, cond_false] at h
    cases q2 : c49k5 host to_ s port toPort rows n with
    | true =>
      rw [q2, cond_true] at h
      cases q3 : c49k6 host to_ s port toPort rows n with
      | true =>
        rw [q3, cond_true] at h
        exact absurd h (by decide)
      | false =>
        rw [q3, cond_false] at h
        cases q4 : c49k12 host to_ s port toPort rows n with
        | true =>
          rw [q4, cond_true] at h
          exact absurd h (by decide)
        | false =>
          rw [q4, cond_false] at h
          exact absurd h (by decide)
    | false =>
      rw [q2, cond_false] at h
      cases q3 : c49k12 host to_ s port toPort rows n with
      | true =>
        rw [q3, cond_true] at h
        exact absurd h (by decide)
      | false =>
        rw [q3, cond_false] at h
        exact absurd h (by decide)
theorem c49_c1 (host to_ s : List UInt8) (port toPort : Int) (rows : List (List AV)) (n : Nat) (h : c49_cls host to_ s port toPort rows n = 1) (m0 : c49k0 host to_ s port toPort rows n = true) (m1 : c49k1 host to_ s port toPort rows n = false → c49k3 host to_ s port toPort rows n = true) (m2 : c49k1 host to_ s port toPort rows n = false → c49k4 host to_ s port toPort rows n = true) (m3 : c49k1 host to_ s port toPort rows n = false → c49k5 host to_ s port toPort rows n = true → c49k6 host to_ s port toPort rows n = true → c49k7 host to_ s port toPort rows n = true) (m4 : c49k1 host to_ s port toPort rows n = false → c49k5 host to_ s port toPort rows n = true → c49k6 host to_ s port toPort rows n = true → c49k8 host to_ s port toPort rows n = true) (m5 : c49k1 host to_ s port toPort rows n = false → c49k5 host to_ s port toPort rows n = true → c49k6 host to_ s port toPort rows n = true → c49k9 host to_ s port toPort rows n = true) : ∃ plan ow, Path (runCallB Tryz.prog P3 100 49 [AV.agg [AV.str host, AV.str to_, AV.int IntKind.i64 port, AV.int IntKind.i64 toPort, AV.slq 0 n], AV.str s] (st0 [Blk.cells false [Kd.int IntKind.u16, Kd.int IntKind.u16] rows] plan)) 1 [] (SL.mk [] [] 1) (Out.ret (AV.str (spTrimSuf s ((32 : UInt8) :: (73 : UInt8) :: (78 : UInt8) :: (32 : UInt8) :: (73 : UInt8) :: (80 : UInt8) :: (52 : UInt8) :: (32 : UInt8) :: host) ++ [(32 : UInt8)] ++ [(73 : UInt8), (78 : UInt8), (32 : UInt8), (73 : UInt8), (80 : UInt8), (52 : UInt8), (32 : UInt8)] ++ to_))) ow ∧ ow := by
  unfold c49_cls at h
  cases q1 : c49k1 host to_ s port toPort rows n with
  | true =>
    rw [q1, cond_true] at h
    exact absurd h (by decide)
  | false =>
    rw [q1, cond_false] at h
    cases q2 : c49k5 host to_ s port toPort rows n with
    | true =>
      rw [q2, cond_true] at h
      cases q3 : c49k6 host to_ s port toPort rows n with
      | true =>
        rw [q3, cond_true] at h
        exact ⟨_, _, c49_FTT host to_ s port toPort rows n, by simp only [q1, q2, q3, m0, (m1 q1), (m2 q1), (m3 q1 q2 q3), (m4 q1 q2 q3), (m5 q1 q2 q3), eq_self, and_true, true_and]⟩
      | false =>
        rw [q3, cond_false] at h
        cases q4 : c49k12 host to_ s port toPort rows n with
        | true =>
          rw [q4, cond_true] at h
          exact absurd h (by decide)
        | false =>
          rw [q4, cond_false] at h
          exact absurd h (by decide)
    | false =>
      rw [q2, cond_false] at h
      cases q3 : c49k12 host to_ s port toPort rows n with
      | true =>
        rw [q3, cond_true] at h
        exact absurd h (by decide)
      | false =>
        rw [q3, cond_false] at h
        exact absurd h (by decide)
theorem c49_c2 (host to_ s : List UInt8) (port toPort : Int) (rows : List (List AV)) (n : Nat) (h : c49_cls host to_ s port toPort rows n = 2) (m0 : c49k0 host to_ s port toPort rows n = true) (m1 : c49k1 host to_ s port toPort rows n = false → c49k3 host to_ s port toPort rows n = true) (m2 : c49k1 host to_ s port toPort rows n = false → c49k4 host to_ s port toPort rows n = true) (m3 : c49k1 host to_ s port toPort rows n = false → c49k10 host to_ s port toPort rows n = true) (m4 : c49k1 host to_ s port toPort rows n = false → c49k11 host to_ s port toPort rows n = true) : ∃ plan ow, Path (runCallB Tryz.prog P3 100 49 [AV.agg [AV.str host, AV.str to_, AV.int IntKind.i64 port, AV.int IntKind.i64 toPort, AV.slq 0 n], AV.str s] (st0 [Blk.cells false [Kd.int IntKind.u16, Kd.int IntKind.u16] rows] plan)) 1 [] (SL.mk [] [] 1) (Out.ret (AV.str s)) ow ∧ ow := by
  unfold c49_cls at h
  cases q1 : c49k1 host to_ s port toPort rows n with
  | true =>
    rw [q1, cond_true] at h
    exact absurd h (by decide)
  | false =>
    rw [q1, cond_false] at h
    cases q2 : c49k5 host to_ s port toPort rows n with
    | true =>
      rw [q2, cond_true] at h
      cases q3 : c49k6 host to_ s port toPort rows n with
      | true =>
        rw [q3, cond_true] at h
        exact absurd h (by decide)
      | false =>
        rw [q3, cond_false] at h
        cases q4 : c49k12 host to_ s port toPort rows n with
        | true =>
          rw [q4, cond_true] at h
          exact ⟨_, _, c49_FTFT host to_ s port toPort rows n, by simp only [q1, q2, q3, q4, m0, (m1 q1), (m2 q1), (m3 q1), (m4 q1), eq_self, and_true, true_and]⟩
        | false =>
          rw [q4, cond_false] at h
          exact absurd h (by decide)
    | false =>
      rw [q2, cond_false] at h
      cases q3 : c49k12 host to_ s port toPort rows n with
      | true =>
        rw [q3, cond_true] at h
        exact ⟨_, _, c49_FFT host to_ s port toPort rows n, by simp only [q1, q2, q3, m0, (m1 q1), (m2 q1), (m3 q1), (m4 q1), eq_self, and_true, true_and]⟩
      | false =>
        rw [q3, cond_false] at h
        exact absurd h (by decide)
theorem c49_c3 (host to_ s : List UInt8) (port toPort : Int) (rows : List (List AV)) (n : Nat) (h : c49_cls host to_ s port toPort rows n = 3) (m0 : c49k0 host to_ s port toPort rows n = true) (m1 : c49k1 host to_ s port toPort rows n = false → c49k3 host to_ s port toPort rows n = true) (m2 : c49k1 host to_ s port toPort rows n = false → c49k4 host to_ s port toPort rows n = true) (m3 : c49k1 host to_ s port toPort rows n = false → c49k10 host to_ s port toPort rows n = true) (m4 : c49k1 host to_ s port toPort rows n = false → c49k11 host to_ s port toPort rows n = true) (m5 : c49k1 host to_ s port toPort rows n = false → c49k12 host to_ s port toPort rows n = false → c49k13 host to_ s port toPort rows n = true) (m6 : c49k1 host to_ s port toPort rows n = false → c49k12 host to_ s port toPort rows n = false → c49k14 host to_ s port toPort rows n = true) (m7 : c49k1 host to_ s port toPort rows n = false → c49k12 host to_ s port toPort rows n = false → c49k15 host to_ s port toPort rows n = true) (m8 : c49k1 host to_ s port toPort rows n = false → c49k12 host to_ s port toPort rows n = false → c49k16 host to_ s port toPort rows n = true) (m9 : c49k1 host to_ s port toPort rows n = false → c49k12 host to_ s port toPort rows n = false → c49k17 host to_ s port toPort rows n = true) (m10 : c49k1 host to_ s port toPort rows n = false → c49k12 host to_ s port toPort rows n = false → c49k18 host to_ s port toPort rows n = true) : ∃ plan ow, Path (runCallB Tryz.prog P3 100 49 [AV.agg [AV.str host, AV.str to_, AV.int IntKind.i64 port, AV.int IntKind.i64 toPort, AV.slq 0 n], AV.str s] (st0 [Blk.cells false [Kd.int IntKind.u16, Kd.int IntKind.u16] rows] plan)) 1 [] (SL.mk [] [] 1) (Out.ret (AV.str (spMedA s ++ spItoa (IntKind.wrap IntKind.i64 (AV.toInt (List.getD (List.getD rows (0 + Int.toNat (spIdx (sub rows 0 n) (spMedN s))) []) (1) AV.undef))) ++ spMedB s))) ow ∧ ow := by
  unfold c49_cls at h
  cases q1 : c49k1 host to_ s port toPort rows n with
  | true =>
    rw [q1, cond_true] at h
    exact absurd h (by decide)
  | false =>
    rw [q1, cond_false] at h
    cases q2 : c49k5 host to_ s port toPort rows n with
    | true =>
      rw [q2, cond_true] at h
      cases q3 : c49k6 host to_ s port toPort rows n with
      | true =>
        rw [q3, cond_true] at h
        exact absurd h (by decide)
      | false =>
        rw [q3, cond_false] at h
        cases q4 : c49k12 host to_ s port toPort rows n with
        | true =>
          rw [q4, cond_true] at h
          exact absurd h (by decide)
        | false =>
          rw [q4, cond_false] at h
          exact ⟨_, _, c49_FTFF host to_ s port toPort rows n, by simp only [q1, q2, q3, q4, m0, (m1 q1), (m2 q1), (m3 q1), (m4 q1), (m5 q1 q4), (m6 q1 q4), (m7 q1 q4), (m8 q1 q4), (m9 q1 q4), (m10 q1 q4), eq_self, and_true, true_and]⟩
    | false =>
      rw [q2, cond_false] at h
      cases q3 : c49k12 host to_ s port toPort rows n with
      | true =>
        rw [q3, cond_true] at h
        exact absurd h (by decide)
      | false =>
        rw [q3, cond_false] at h
        exact ⟨_, _, c49_FFF host to_ s port toPort rows n, by simp only [q1, q2, q3, m0, (m1 q1), (m2 q1), (m3 q1), (m4 q1), (m5 q1 q3), (m6 q1 q3), (m7 q1 q3), (m8 q1 q3), (m9 q1 q3), (m10 q1 q3), eq_self, and_true, true_and]⟩
def isOf (r : List AV) : Int := IntKind.wrap IntKind.i64 (AV.toInt (List.getD r 1 AV.undef))
def sgConn : List UInt8 := [99, 61, 73, 78, 32, 73, 80, 52, 32]
def sgOrig : List UInt8 := [32, 73, 78, 32, 73, 80, 52, 32]
def spLine (host to_ s : List UInt8) (rows : List (List AV)) : List UInt8 :=
  bif s == sgConn ++ host then sgConn ++ to_ else
  bif spHasSuf s (sgOrig ++ host) && spHasPre (spTrimSuf s (sgOrig ++ host)) [111, 61] then spTrimSuf s (sgOrig ++ host) ++ sgOrig ++ to_ else
  bif decide (spIdx rows (spMedN s) < 0) then s else spMedA s ++ spItoa (isOf (List.getD rows (Int.toNat (spIdx rows (spMedN s))) [])) ++ spMedB s
theorem line_cls (host to_ s : List UInt8) (port toPort : Int) (rows : List (List AV)) :
    spLine host to_ s rows = match c49_cls host to_ s port toPort rows rows.length with
      | 0 => (99 : UInt8) :: (61 : UInt8) :: (73 : UInt8) :: (78 : UInt8) :: (32 : UInt8) :: (73 : UInt8) :: (80 : UInt8) :: (52 : UInt8) :: (32 : UInt8) :: to_
      | 1 => spTrimSuf s ((32 : UInt8) :: (73 : UInt8) :: (78 : UInt8) :: (32 : UInt8) :: (73 : UInt8) :: (80 : UInt8) :: (52 : UInt8) :: (32 : UInt8) :: host) ++ [(32 : UInt8)] ++ [(73 : UInt8), (78 : UInt8), (32 : UInt8), (73 : UInt8), (80 : UInt8), (52 : UInt8), (32 : UInt8)] ++ to_
      | 2 => s
      | _ => spMedA s ++ spItoa (IntKind.wrap IntKind.i64 (AV.toInt (List.getD (List.getD rows (0 + Int.toNat (spIdx (sub rows 0 rows.length) (spMedN s))) []) 1 AV.undef))) ++ spMedB s := by
  unfold spLine c49_cls c49k1 c49k5 c49k6 c49k12
  rw [sub_all rows rfl, Nat.zero_add]
  have e1 : sgConn ++ host = (99 : UInt8) :: (61 : UInt8) :: (73 : UInt8) :: (78 : UInt8) :: (32 : UInt8) :: (73 : UInt8) :: (80 : UInt8) :: (52 : UInt8) :: (32 : UInt8) :: host := rfl
  have e2 : sgOrig ++ host = (32 : UInt8) :: (73 : UInt8) :: (78 : UInt8) :: (32 : UInt8) :: (73 : UInt8) :: (80 : UInt8) :: (52 : UInt8) :: (32 : UInt8) :: host := rfl
  have e3 : ∀ x : List UInt8, x ++ [(32 : UInt8)] ++ [(73 : UInt8), (78 : UInt8), (32 : UInt8), (73 : UInt8), (80 : UInt8), (52 : UInt8), (32 : UInt8)] = x ++ sgOrig := fun x => by rw [List.append_assoc]; rfl
  rw [e1, e2, e3]
  cases (s == (99 : UInt8) :: (61 : UInt8) :: (73 : UInt8) :: (78 : UInt8) :: (32 : UInt8) :: (73 : UInt8) :: (80 : UInt8) :: (52 : UInt8) :: (32 : UInt8) :: host) <;>
  cases spHasSuf s ((32 : UInt8) :: (73 : UInt8) :: (78 : UInt8) :: (32 : UInt8) :: (73 : UInt8) :: (80 : UInt8) :: (52 : UInt8) :: (32 : UInt8) :: host) <;>
  cases spHasPre (spTrimSuf s ((32 : UInt8) :: (73 : UInt8) :: (78 : UInt8) :: (32 : UInt8) :: (73 : UInt8) :: (80 : UInt8) :: (52 : UInt8) :: (32 : UInt8) :: host)) [(111 : UInt8), (61 : UInt8)] <;>
  cases decide (spIdx rows (spMedN s) < 0) <;> rfl
theorem c49_calls (host to_ s : List UInt8) (port toPort : Int) (rows : List (List AV)) {ρ : Nat → BI} {w : World} (hE : HSim ρ (addBlks .e 0 [.cells false [.int .u16, .int .u16] rows]) ([.cells false [.int .u16, .int .u16] rows] : List Blk).length w) (hlen : s.length ≤ 4294967200 ∧ host.length ≤ 140737488355328 ∧ to_.length ≤ 140737488355328 ∧ rows.length ≤ 4611686018427387904) :
    Calls Tryz.prog 49 (concL ρ [AV.agg [.str host, .str to_, .int .i64 port, .int .i64 toPort, .slq 0 rows.length], .str s]).toArray w (fun e w' => e = .returned (conc ρ (AV.str (spLine host to_ s rows))) ∧ Ext w w') := by
  rcases c49_all host to_ s port toPort rows rows.length with hcl | hcl | hcl | hcl
  · obtain ⟨plan, ow, hp, ho⟩ : ∃ plan ow, Path (runCallB Tryz.prog P3 100 49 [AV.agg [AV.str host, AV.str to_, AV.int IntKind.i64 port, AV.int IntKind.i64 toPort, AV.slq 0 rows.length], AV.str s] (st0 [Blk.cells false [Kd.int IntKind.u16, Kd.int IntKind.u16] rows] plan)) 1 [] (SL.mk [] [] 1) (Out.ret (AV.str ((99 : UInt8) :: (61 : UInt8) :: (73 : UInt8) :: (78 : UInt8) :: (32 : UInt8) :: (73 : UInt8) :: (80 : UInt8) :: (52 : UInt8) :: (32 : UInt8) :: to_))) ow ∧ ow := by
      apply c49_c0 host to_ s port toPort rows rows.length hcl
      all_goals (intros; simp only [c49k0, c49k1, c49k2, c49k3, c49k4, c49k5, c49k6, c49k7, c49k8, c49k9, c49k10, c49k11, c49k12, c49k13, c49k14, c49k15, c49k16, c49k17, c49k18] at *; have l1 := len_suf s ((32 : UInt8) :: (73 : UInt8) :: (78 : UInt8) :: (32 : UInt8) :: (73 : UInt8) :: (80 : UInt8) :: (52 : UInt8) :: (32 : UInt8) :: host); have l2 := idx_range rows (spMedN s); have l3 := len_medA s; have l4 := len_medB s; have l5 := wrap64_range (AV.toInt (List.getD (List.getD rows (0 + Int.toNat (spIdx rows (spMedN s))) []) 1 AV.undef)); have l6 := len_itoa _ l5; simp only [sub_all rows rfl, Bool.and_eq_true, decide_eq_true_eq, decide_eq_false_iff_not, List.length_cons, List.length_append, List.length_nil, and_true, eq_self] at *; omega)
    simp only [line_cls host to_ s port toPort rows, hcl]
    exact calls_pureB P3_ok hp ho hE rfl rfl rfl
  · obtain ⟨plan, ow, hp, ho⟩ : ∃ plan ow, Path (runCallB Tryz.prog P3 100 49 [AV.agg [AV.str host, AV.str to_, AV.int IntKind.i64 port, AV.int IntKind.i64 toPort, AV.slq 0 rows.length], AV.str s] (st0 [Blk.cells false [Kd.int IntKind.u16, Kd.int IntKind.u16] rows] plan)) 1 [] (SL.mk [] [] 1) (Out.ret (AV.str (spTrimSuf s ((32 : UInt8) :: (73 : UInt8) :: (78 : UInt8) :: (32 : UInt8) :: (73 : UInt8) :: (80 : UInt8) :: (52 : UInt8) :: (32 : UInt8) :: host) ++ [(32 : UInt8)] ++ [(73 : UInt8), (78 : UInt8), (32 : UInt8), (73 : UInt8), (80 : UInt8), (52 : UInt8), (32 : UInt8)] ++ to_))) ow ∧ ow := by
      apply c49_c1 host to_ s port toPort rows rows.length hcl
      all_goals (intros; simp only [c49k0, c49k1, c49k2, c49k3, c49k4, c49k5, c49k6, c49k7, c49k8, c49k9, c49k10, c49k11, c49k12, c49k13, c49k14, c49k15, c49k16, c49k17, c49k18] at *; have l1 := len_suf s ((32 : UInt8) :: (73 : UInt8) :: (78 : UInt8) :: (32 : UInt8) :: (73 : UInt8) :: (80 : UInt8) :: (52 : UInt8) :: (32 : UInt8) :: host); have l2 := idx_range rows (spMedN s); have l3 := len_medA s; have l4 := len_medB s; have l5 := wrap64_range (AV.toInt (List.getD (List.getD rows (0 + Int.toNat (spIdx rows (spMedN s))) []) 1 AV.undef)); have l6 := len_itoa _ l5; simp only [sub_all rows rfl, Bool.and_eq_true, decide_eq_true_eq, decide_eq_false_iff_not, List.length_cons, List.length_append, List.length_nil, and_true, eq_self] at *; omega)
    simp only [line_cls host to_ s port toPort rows, hcl]
    exact calls_pureB P3_ok hp ho hE rfl rfl rfl
  · obtain ⟨plan, ow, hp, ho⟩ : ∃ plan ow, Path (runCallB Tryz.prog P3 100 49 [AV.agg [AV.str host, AV.str to_, AV.int IntKind.i64 port, AV.int IntKind.i64 toPort, AV.slq 0 rows.length], AV.str s] (st0 [Blk.cells false [Kd.int IntKind.u16, Kd.int IntKind.u16] rows] plan)) 1 [] (SL.mk [] [] 1) (Out.ret (AV.str s)) ow ∧ ow := by
      apply c49_c2 host to_ s port toPort rows rows.length hcl
      all_goals (intros; simp only [c49k0, c49k1, c49k2, c49k3, c49k4, c49k5, c49k6, c49k7, c49k8, c49k9, c49k10, c49k11, c49k12, c49k13, c49k14, c49k15, c49k16, c49k17, c49k18] at *; have l1 := len_suf s ((32 : UInt8) :: (73 : UInt8) :: (78 : UInt8) :: (32 : UInt8) :: (73 : UInt8) :: (80 : UInt8) :: (52 : UInt8) :: (32 : UInt8) :: host); have l2 := idx_range rows (spMedN s); have l3 := len_medA s; have l4 := len_medB s; have l5 := wrap64_range (AV.toInt (List.getD (List.getD rows (0 + Int.toNat (spIdx rows (spMedN s))) []) 1 AV.undef)); have l6 := len_itoa _ l5; simp only [sub_all rows rfl, Bool.and_eq_true, decide_eq_true_eq, decide_eq_false_iff_not, List.length_cons, List.length_append, List.length_nil, and_true, eq_self] at *; omega)
    simp only [line_cls host to_ s port toPort rows, hcl]
    exact calls_pureB P3_ok hp ho hE rfl rfl rfl
  · obtain ⟨plan, ow, hp, ho⟩ : ∃ plan ow, Path (runCallB Tryz.prog P3 100 49 [AV.agg [AV.str host, AV.str to_, AV.int IntKind.i64 port, AV.int IntKind.i64 toPort, AV.slq 0 rows.length], AV.str s] (st0 [Blk.cells false [Kd.int IntKind.u16, Kd.int IntKind.u16] rows] plan)) 1 [] (SL.mk [] [] 1) (Out.ret (AV.str (spMedA s ++ spItoa (IntKind.wrap IntKind.i64 (AV.toInt (List.getD (List.getD rows (0 + Int.toNat (spIdx (sub rows 0 rows.length) (spMedN s))) []) (1) AV.undef))) ++ spMedB s))) ow ∧ ow := by
      apply c49_c3 host to_ s port toPort rows rows.length hcl
      all_goals (intros; simp only [c49k0, c49k1, c49k2, c49k3, c49k4, c49k5, c49k6, c49k7, c49k8, c49k9, c49k10, c49k11, c49k12, c49k13, c49k14, c49k15, c49k16, c49k17, c49k18] at *; have l1 := len_suf s ((32 : UInt8) :: (73 : UInt8) :: (78 : UInt8) :: (32 : UInt8) :: (73 : UInt8) :: (80 : UInt8) :: (52 : UInt8) :: (32 : UInt8) :: host); have l2 := idx_range rows (spMedN s); have l3 := len_medA s; have l4 := len_medB s; have l5 := wrap64_range (AV.toInt (List.getD (List.getD rows (0 + Int.toNat (spIdx rows (spMedN s))) []) 1 AV.undef)); have l6 := len_itoa _ l5; simp only [sub_all rows rfl, Bool.and_eq_true, decide_eq_true_eq, decide_eq_false_iff_not, List.length_cons, List.length_append, List.length_nil, and_true, eq_self] at *; omega)
    simp only [line_cls host to_ s port toPort rows, hcl]
    exact calls_pureB P3_ok hp ho hE rfl rfl rfl
def q49 : Entry := fun args hp nx => match args with
  | [.agg [.str host, .str to_, .int .i64 port, .int .i64 toPort, lv], .str s] => match slIn hp [.int .u16, .int .u16] lv with
    | some (c, rows) => some (c && decide (s.length ≤ 4294967200 ∧ host.length ≤ 140737488355328 ∧ to_.length ≤ 140737488355328 ∧ rows.length ≤ 4611686018427387904), .str (spLine host to_ s rows), [])
    | none => none
  | _ => none
theorem q49_ok : EntryOK Tryz.prog 49 q49 := by
  intro args hp nx c v bs h hc ρ w hs hi
  unfold q49 at h
  split at h
  · rename_i host to_ port toPort lv s
    split at h
    · rename_i c0 rows hsl
      cases h
      simp only [Bool.and_eq_true] at hc
      have hlen := of_decide_eq_true hc.2
      have hr := slIn_spec hs hsl hc.1 rfl
      obtain ⟨bi, hbi⟩ := hr.bi hs.gw rfl
      have hb := hbi (fun _ => bi) 0 rfl
      have hE : HSim (fun _ => bi) (addBlks .e 0 [.cells false [.int .u16, .int .u16] rows]) ([.cells false [.int .u16, .int .u16] rows] : List Blk).length w :=
        HSim.ins hs.gw (fun i blk hi => by
          obtain ⟨rfl, rfl⟩ := bs1 hi
          exact ⟨hb.2, rfl, rfl⟩)
      refine entry_pure hs rfl ?_
      have hcall := c49_calls host to_ s port toPort rows hE hlen
      simp only [concL, conc] at hcall ⊢
      have hv : conc (fun _ => bi) (.slq 0 rows.length) = conc ρ lv := hb.1
      simp only [conc] at hv
      rw [hv] at hcall
      exact hcall
    · cases h
  · cases h
end Go.Proofs.YtpdgmgkkbbndfaaGreatDoor

set_option maxRecDepth 100000
namespace Go.Proofs.YtpdgmgkkbbndfaaGreatDoor
open Go Go.Proofs Go.Proofs.YtpdgmgkkbbndfaaGreatDoor.SX
def c51k0 (host to_ s mark signs : List UInt8) (port toPort : Int) (rows : List (List AV)) (n : Nat) : Bool := decide (List.length s < 4294967281)
def c51k1 (host to_ s mark signs : List UInt8) (port toPort : Int) (rows : List (List AV)) (n : Nat) : Bool := !spFound s mark
theorem c51_T (host : List UInt8) (to_ : List UInt8) (s : List UInt8) (mark : List UInt8) (signs : List UInt8) (port : Int) (toPort : Int) (rows : List (List AV)) (n : Nat) :
 Path (runCallB Tryz.prog P3 100 51 [AV.agg [AV.str host, AV.str to_, AV.int IntKind.i64 port, AV.int IntKind.i64 toPort, AV.slq 0 n], AV.str s, AV.str mark, AV.str signs] (st0 [Blk.cells false [Kd.int IntKind.u16, Kd.int IntKind.u16] rows] ([pT]))) 1 [] (SL.mk [] [] 1) (Out.ret (AV.str s))
 ((True ∧ c51k0 host to_ s mark signs port toPort rows n = true) ∧ c51k1 host to_ s mark signs port toPort rows n = true) := by unfold Path; kernel_rfl
def c51k2 (host to_ s mark signs : List UInt8) (port toPort : Int) (rows : List (List AV)) (n : Nat) : Bool := decide (signs = [(62 : UInt8), (59 : UInt8)] ∨ signs = [(59 : UInt8)])
def c51k3 (host to_ s mark signs : List UInt8) (port toPort : Int) (rows : List (List AV)) (n : Nat) : Bool := decide (spAnyAt (spAfter s mark) signs < (0 : Int))
def c51k4 (host to_ s mark signs : List UInt8) (port toPort : Int) (rows : List (List AV)) (n : Nat) : Bool := decide (List.length (spBefore s mark) + List.length mark ≤ 9223372036854775807)
def c51k5 (host to_ s mark signs : List UInt8) (port toPort : Int) (rows : List (List AV)) (n : Nat) : Bool := decide ((0 : Int) ≤ (0 : Int) ∧ (0 : Int) ≤ (↑(List.length (spAfter s mark)) : Int) ∧ (↑(List.length (spAfter s mark)) : Int) ≤ (↑(List.length (spAfter s mark)) : Int))
def c51k6 (host to_ s mark signs : List UInt8) (port toPort : Int) (rows : List (List AV)) (n : Nat) : Bool := decide ((0 : Int) ≤ (↑(List.length (spAfter s mark)) : Int) ∧ (↑(List.length (spAfter s mark)) : Int) ≤ (↑(List.length (spAfter s mark)) : Int) ∧ (↑(List.length (spAfter s mark)) : Int) ≤ (↑(List.length (spAfter s mark)) : Int))
def c51k7 (host to_ s mark signs : List UInt8) (port toPort : Int) (rows : List (List AV)) (n : Nat) : Bool := (decide (0 + n ≤ List.length rows) && decide (List.length (sub (spAfter s mark) 0 (Int.toNat (↑(List.length (spAfter s mark)) : Int) - 0)) ≤ 140737488355328 ∧ List.length host ≤ 140737488355328 ∧ List.length to_ ≤ 140737488355328 ∧ Int.negSucc (9223372036854775807) ≤ toPort ∧ toPort ≤ (9223372036854775807 : Int)))
def c51k8 (host to_ s mark signs : List UInt8) (port toPort : Int) (rows : List (List AV)) (n : Nat) : Bool := decide (List.length (spBefore s mark ++ mark) + List.length (spPlace host to_ (sub (spAfter s mark) 0 (Int.toNat (↑(List.length (spAfter s mark)) : Int) - 0)) port toPort) ≤ 9223372036854775807)
def c51k9 (host to_ s mark signs : List UInt8) (port toPort : Int) (rows : List (List AV)) (n : Nat) : Bool := decide (List.length (spBefore s mark ++ mark ++ spPlace host to_ (sub (spAfter s mark) 0 (Int.toNat (↑(List.length (spAfter s mark)) : Int) - 0)) port toPort) + List.length (sub (spAfter s mark) (Int.toNat (↑(List.length (spAfter s mark)) : Int)) (Int.toNat (↑(List.length (spAfter s mark)) : Int) - Int.toNat (↑(List.length (spAfter s mark)) : Int))) ≤ 9223372036854775807)
theorem c51_FT (host : List UInt8) (to_ : List UInt8) (s : List UInt8) (mark : List UInt8) (signs : List UInt8) (port : Int) (toPort : Int) (rows : List (List AV)) (n : Nat) :
 Path (runCallB Tryz.prog P3 100 51 [AV.agg [AV.str host, AV.str to_, AV.int IntKind.i64 port, AV.int IntKind.i64 toPort, AV.slq 0 n], AV.str s, AV.str mark, AV.str signs] (st0 [Blk.cells false [Kd.int IntKind.u16, Kd.int IntKind.u16] rows] ([pF, pT]))) 1 [] (SL.mk [] [] 1) (Out.ret (AV.str (spBefore s mark ++ mark ++ spPlace host to_ (sub (spAfter s mark) 0 (Int.toNat (↑(List.length (spAfter s mark)) : Int) - 0)) port toPort ++ sub (spAfter s mark) (Int.toNat (↑(List.length (spAfter s mark)) : Int)) (Int.toNat (↑(List.length (spAfter s mark)) : Int) - Int.toNat (↑(List.length (spAfter s mark)) : Int)))))
 (((((((((((True ∧ c51k0 host to_ s mark signs port toPort rows n = true) ∧ c51k1 host to_ s mark signs port toPort rows n = false) ∧ c51k2 host to_ s mark signs port toPort rows n = true) ∧ c51k3 host to_ s mark signs port toPort rows n = true) ∧ c51k4 host to_ s mark signs port toPort rows n = true) ∧ true = true) ∧ c51k5 host to_ s mark signs port toPort rows n = true) ∧ c51k6 host to_ s mark signs port toPort rows n = true) ∧ c51k7 host to_ s mark signs port toPort rows n = true) ∧ c51k8 host to_ s mark signs port toPort rows n = true) ∧ c51k9 host to_ s mark signs port toPort rows n = true) := by unfold Path; kernel_rfl
def c51k10 (host to_ s mark signs : List UInt8) (port toPort : Int) (rows : List (List AV)) (n : Nat) : Bool := decide ((0 : Int) ≤ (0 : Int) ∧ (0 : Int) ≤ spAnyAt (spAfter s mark) signs ∧ spAnyAt (spAfter s mark) signs ≤ (↑(List.length (spAfter s mark)) : Int))
def c51k11 (host to_ s mark signs : List UInt8) (port toPort : Int) (rows : List (List AV)) (n : Nat) : Bool := decide ((0 : Int) ≤ spAnyAt (spAfter s mark) signs ∧ spAnyAt (spAfter s mark) signs ≤ (↑(List.length (spAfter s mark)) : Int) ∧ (↑(List.length (spAfter s mark)) : Int) ≤ (↑(List.length (spAfter s mark)) : Int))
def c51k12 (host to_ s mark signs : List UInt8) (port toPort : Int) (rows : List (List AV)) (n : Nat) : Bool := (decide (0 + n ≤ List.length rows) && decide (List.length (sub (spAfter s mark) 0 (Int.toNat (spAnyAt (spAfter s mark) signs) - 0)) ≤ 140737488355328 ∧ List.length host ≤ 140737488355328 ∧ List.length to_ ≤ 140737488355328 ∧ Int.negSucc (9223372036854775807) ≤ toPort ∧ toPort ≤ (9223372036854775807 : Int)))
def c51k13 (host to_ s mark signs : List UInt8) (port toPort : Int) (rows : List (List AV)) (n : Nat) : Bool := decide (List.length (spBefore s mark ++ mark) + List.length (spPlace host to_ (sub (spAfter s mark) 0 (Int.toNat (spAnyAt (spAfter s mark) signs) - 0)) port toPort) ≤ 9223372036854775807)
def c51k14 (host to_ s mark signs : List UInt8) (port toPort : Int) (rows : List (List AV)) (n : Nat) : Bool := decide (List.length (spBefore s mark ++ mark ++ spPlace host to_ (sub (spAfter s mark) 0 (Int.toNat (spAnyAt (spAfter s mark) signs) - 0)) port toPort) + List.length (sub (spAfter s mark) (Int.toNat (spAnyAt (spAfter s mark) signs)) (Int.toNat (↑(List.length (spAfter s mark)) : Int) - Int.toNat (spAnyAt (spAfter s mark) signs))) ≤ 9223372036854775807)
theorem c51_FF (host : List UInt8) (to_ : List UInt8) (s : List UInt8) (mark : List UInt8) (signs : List UInt8) (port : Int) (toPort : Int) (rows : List (List AV)) (n : Nat) :
 Path (runCallB Tryz.prog P3 100 51 [AV.agg [AV.str host, AV.str to_, AV.int IntKind.i64 port, AV.int IntKind.i64 toPort, AV.slq 0 n], AV.str s, AV.str mark, AV.str signs] (st0 [Blk.cells false [Kd.int IntKind.u16, Kd.int IntKind.u16] rows] ([pF, pF]))) 1 [] (SL.mk [] [] 1) (Out.ret (AV.str (spBefore s mark ++ mark ++ spPlace host to_ (sub (spAfter s mark) 0 (Int.toNat (spAnyAt (spAfter s mark) signs) - 0)) port toPort ++ sub (spAfter s mark) (Int.toNat (spAnyAt (spAfter s mark) signs)) (Int.toNat (↑(List.length (spAfter s mark)) : Int) - Int.toNat (spAnyAt (spAfter s mark) signs)))))
 (((((((((((True ∧ c51k0 host to_ s mark signs port toPort rows n = true) ∧ c51k1 host to_ s mark signs port toPort rows n = false) ∧ c51k2 host to_ s mark signs port toPort rows n = true) ∧ c51k3 host to_ s mark signs port toPort rows n = false) ∧ c51k4 host to_ s mark signs port toPort rows n = true) ∧ true = true) ∧ c51k10 host to_ s mark signs port toPort rows n = true) ∧ c51k11 host to_ s mark signs port toPort rows n = true) ∧ c51k12 host to_ s mark signs port toPort rows n = true) ∧ c51k13 host to_ s mark signs port toPort rows n = true) ∧ c51k14 host to_ s mark signs port toPort rows n = true) := by unfold Path; kernel_rfl
def c51_cls (host to_ s mark signs : List UInt8) (port toPort : Int) (rows : List (List AV)) (n : Nat) : Nat := (bif c51k1 host to_ s mark signs port toPort rows n then 0 else (bif c51k3 host to_ s mark signs port toPort rows n then 1 else 2))
theorem c51_all (host to_ s mark signs : List UInt8) (port toPort : Int) (rows : List (List AV)) (n : Nat) : c51_cls host to_ s mark signs port toPort rows n = 0 ∨ c51_cls host to_ s mark signs port toPort rows n = 1 ∨ c51_cls host to_ s mark signs port toPort rows n = 2 := by
  unfold c51_cls
  cases c51k1 host to_ s mark signs port toPort rows n <;> cases c51k3 host to_ s mark signs port toPort rows n <;> simp
theorem c51_c0 (host to_ s mark signs : List UInt8) (port toPort : Int) (rows : List (List AV)) (n : Nat) (h : c51_cls host to_ s mark signs port toPort rows n = 0) (m0 : c51k0 host to_ s mark signs port toPort rows n = true) : ∃ plan ow, Path (runCallB Tryz.prog P3 100 51 [AV.agg [AV.str host, AV.str to_, AV.int IntKind.i64 port, AV.int IntKind.i64 toPort, AV.slq 0 n], AV.str s, AV.str mark, AV.str signs] (st0 [Blk.cells false [Kd.int IntKind.u16, Kd.int IntKind.u16] rows] plan)) 1 [] (SL.mk [] [] 1) (Out.ret (AV.str s)) ow ∧ ow := by
  unfold c51_cls at h
  cases q1 : c51k1 host to_ s mark signs port toPort rows n with
  | true =>
    rw [q1, cond_true] at h
    exact ⟨_, _, c51_T host to_ s mark signs port toPort rows n, by simp only [q1, m0, eq_self, and_true, true_and]⟩
  | false =>
    rw [q1, cond_false] at h
    cases q2 : c51k3 host to_ s mark signs port toPort rows n with
    | true =>
      rw [q2, cond_true] at h
      exact absurd h (by decide)
    | false =>
      rw [q2, cond_false] at h
      exact absurd h (by decide)
theorem c51_c1 (host to_ s mark signs : List UInt8) (port toPort : Int) (rows : List (List AV)) (n : Nat) (h : c51_cls host to_ s mark signs port toPort rows n = 1) (m0 : c51k0 host to_ s mark signs port toPort rows n = true) (m1 : c51k1 host to_ s mark signs port toPort rows n = false → c51k2 host to_ s mark signs port toPort rows n = true) (m2 : c51k1 host to_ s mark signs port toPort rows n = false → c51k3 host to_ s mark signs port toPort rows n = true → c51k4 host to_ s mark signs port toPort rows n = true) (m3 : c51k1 host to_ s mark signs port toPort rows n = false → c51k3 host to_ s mark signs port toPort rows n = true → c51k5 host to_ s mark signs port toPort rows n = true) (m4 : c51k1 host to_ s mark signs port toPort rows n = false → c51k3 host to_ s mark signs port toPort rows n = true → c51k6 host to_ s mark signs port toPort rows n = true) (m5 : c51k1 host to_ s mark signs port toPort rows n = false → c51k3 host to_ s mark signs port toPort rows n = true → c51k7 host to_ s mark signs port toPort rows n = true) (m6 : c51k1 host to_ s mark signs port toPort rows n = false → c51k3 host to_ s mark signs port toPort rows n = true → c51k8 host to_ s mark signs port toPort rows n = true) (m7 : c51k1 host to_ s mark signs port toPort rows n = false → c51k3 host to_ s mark signs port toPort rows n = true → c51k9 host to_ s mark signs port toPort rows n = true) : ∃ plan ow, Path (runCallB Tryz.prog P3 100 51 [AV.agg [AV.str host, AV.str to_, AV.int IntKind.i64 port, AV.int IntKind.i64 toPort, AV.slq 0 n], AV.str s, AV.str mark, AV.str signs] (st0 [Blk.cells false [Kd.int IntKind.u16, Kd.int IntKind.u16] rows] plan)) 1 [] (SL.mk [] [] 1) (Out.ret (AV.str (spBefore s mark ++ mark ++ spPlace host to_ (sub (spAfter s mark) 0 (Int.toNat (↑(List.length (spAfter s mark)) : Int) - 0)) port toPort ++ sub (spAfter s mark) (Int.toNat (↑(List.length (spAfter s mark)) : Int)) (Int.toNat (↑(List.length (spAfter s mark)) : Int) - Int.toNat (↑(List.length (spAfter s mark)) : Int))))) ow ∧ ow := by
  unfold c51_cls at h
  cases q1 : c51k1 host to_ s mark signs port toPort rows n with
  | true =>
    rw [q1, cond_true] at h
    exact absurd h (by decide)
  | false =>
    rw [q1, cond_false] at h
    cases q2 : c51k3 host to_ s mark signs port toPort rows n with
    | true =>
      rw [q2, cond_true] at h
      exact ⟨_, _, c51_FT host to_ s mark signs port toPort rows n, by simp only [q1, q2, m0, (m1 q1), (m2 q1 q2), (m3 q1 q2), (m4 q1 q2), (m5 q1 q2), (m6 q1 q2), (m7 q1 q2), eq_self, and_true, true_and]⟩
    | false =>
      rw [q2, cond_false] at h
      exact absurd h (by decide)
theorem c51_c2 (host to_ s mark signs : List UInt8) (port toPort : Int) (rows : List (List AV)) (n : Nat) (h : c51_cls host to_ s mark signs port toPort rows n = 2) (m0 : c51k0 host to_ s mark signs port toPort rows n = true) (m1 : c51k1 host to_ s mark signs port toPort rows n = false → c51k2 host to_ s mark signs port toPort rows n = true) (m2 : c51k1 host to_ s mark signs port toPort rows n = false → c51k3 host to_ s mark signs port toPort rows n = false → c51k4 host to_ s mark signs port toPort rows n = true) (m3 : c51k1 host to_ s mark signs port toPort rows n = false → c51k3 host to_ s mark signs port toPort rows n = false → c51k10 host to_ s mark signs port toPort rows n = true) (m4 : c51k1 host to_ s mark signs port toPort rows n = false → c51k3 host to_ s mark signs port toPort rows n = false → c51k11 host to_ s mark signs port toPort rows n = true) (m5 : c51k1 host to_ s mark signs port toPort rows n = false → c51k3 host to_ s mark signs port toPort rows n = false → c51k12 host to_ s mark signs port toPort rows n = true) (m6 : c51k1 host to_ s mark signs port toPort rows n = false → c51k3 host to_ s mark signs port toPort rows n = false → c51k13 host to_ s mark signs port toPort rows n = true) (m7 : c51k1 host to_ s mark signs port toPort rows n = false → c51k3 host to_ s mark signs port toPort rows n = false → c51k14 host to_ s mark signs port toPort rows n = true) : ∃ plan ow, Path (runCallB Tryz.prog P3 100 51 [AV.agg [AV.str host, AV.str to_, AV.int IntKind.i64 port, AV.int IntKind.i64 toPort, AV.slq 0 n], AV.str s, AV.str mark, AV.str signs] (st0 [Blk.cells false [Kd.int IntKind.u16, Kd.int IntKind.u16] rows] plan)) 1 [] (SL.mk [] [] 1) (Out.ret (AV.str (spBefore s mark ++ mark ++ spPlace host to_ (sub (spAfter s mark) 0 (Int.toNat (spAnyAt (spAfter s mark) signs) - 0)) port toPort ++ sub (spAfter s mark) (Int.toNat (spAnyAt (spAfter s mark) signs)) (Int.toNat (↑(List.length (spAfter s mark)) : Int) - Int.toNat (spAnyAt (spAfter s mark) signs))))) ow ∧ ow := by
  unfold c51_cls at h
  cases q1 : c51k1 host to_ s mark signs port toPort rows n with
  | true =>
    rw [q1, cond_true] at h
    exact absurd h (by decide)
  | false =>
    rw [q1, cond_false] at h
    cases q2 : c51k3 host to_ s mark signs port toPort rows n with
    | true =>
      rw [q2, cond_true] at h
      exact absurd h (by decide)
    | false =>
      rw [q2, cond_false] at h
      exact ⟨_, _, c51_FF host to_ s mark signs port toPort rows n, by simp only [q1, q2, m0, (m1 q1), (m2 q1 q2), (m3 q1 q2), (m4 q1 q2), (m5 q1 q2), (m6 q1 q2), (m7 q1 q2), eq_self, and_true, true_and]⟩
def spEnd (r signs : List UInt8) : Nat := bif decide (spAnyAt r signs < 0) then r.length else (spAnyAt r signs).toNat
def spBehind (host to_ s mark signs : List UInt8) (port toPort : Int) : List UInt8 :=
  bif !spFound s mark then s else spBefore s mark ++ mark ++ spPlace host to_ (sub (spAfter s mark) 0 (spEnd (spAfter s mark) signs)) port toPort ++ sub (spAfter s mark) (spEnd (spAfter s mark) signs) ((spAfter s mark).length - spEnd (spAfter s mark) signs)
theorem behind_cls (host to_ s mark signs : List UInt8) (port toPort : Int) (rows : List (List AV)) :
    spBehind host to_ s mark signs port toPort = match c51_cls host to_ s mark signs port toPort rows rows.length with
      | 0 => s
      | 1 => spBefore s mark ++ mark ++ spPlace host to_ (sub (spAfter s mark) 0 (Int.toNat (↑(List.length (spAfter s mark)) : Int) - 0)) port toPort ++ sub (spAfter s mark) (Int.toNat (↑(List.length (spAfter s mark)) : Int)) (Int.toNat (↑(List.length (spAfter s mark)) : Int) - Int.toNat (↑(List.length (spAfter s mark)) : Int))
      | _ => spBefore s mark ++ mark ++ spPlace host to_ (sub (spAfter s mark) 0 (Int.toNat (spAnyAt (spAfter s mark) signs) - 0)) port toPort ++ sub (spAfter s mark) (Int.toNat (spAnyAt (spAfter s mark) signs)) (Int.toNat (↑(List.length (spAfter s mark)) : Int) - Int.toNat (spAnyAt (spAfter s mark) signs)) := by
  unfold spBehind spEnd c51_cls
  unfold c51k1 c51k3
  cases (!spFound s mark) <;> cases decide (spAnyAt (spAfter s mark) signs < 0) <;> rfl
theorem c51_calls (host to_ s mark signs : List UInt8) (port toPort : Int) (rows : List (List AV)) {ρ : Nat → BI} {w : World} (hE : HSim ρ (addBlks .e 0 [.cells false [.int .u16, .int .u16] rows]) ([.cells false [.int .u16, .int .u16] rows] : List Blk).length w) (hlen : s.length ≤ 4294967200 ∧ mark.length ≤ 4294967200 ∧ host.length ≤ 140737488355328 ∧ to_.length ≤ 140737488355328 ∧ (-9223372036854775808 ≤ toPort ∧ toPort ≤ 9223372036854775807) ∧ (signs = [62, 59] ∨ signs = [59])) :
    Calls Tryz.prog 51 (concL ρ [AV.agg [.str host, .str to_, .int .i64 port, .int .i64 toPort, .slq 0 rows.length], .str s, .str mark, .str signs]).toArray w (fun e w' => e = .returned (conc ρ (AV.str (spBehind host to_ s mark signs port toPort))) ∧ Ext w w') := by
  rcases c51_all host to_ s mark signs port toPort rows rows.length with hcl | hcl | hcl
  · obtain ⟨plan, ow, hp, ho⟩ : ∃ plan ow, Path (runCallB Tryz.prog P3 100 51 [AV.agg [AV.str host, AV.str to_, AV.int IntKind.i64 port, AV.int IntKind.i64 toPort, AV.slq 0 rows.length], AV.str s, AV.str mark, AV.str signs] (st0 [Blk.cells false [Kd.int IntKind.u16, Kd.int IntKind.u16] rows] plan)) 1 [] (SL.mk [] [] 1) (Out.ret (AV.str s)) ow ∧ ow := by
      apply c51_c0 host to_ s mark signs port toPort rows rows.length hcl
      all_goals (intros; simp only [c51k0, c51k1, c51k2, c51k3, c51k4, c51k5, c51k6, c51k7, c51k8, c51k9, c51k10, c51k11, c51k12, c51k13, c51k14] at *; have l1 := len_before s mark; have l2 := len_after s mark; have l3 := anyAt_range (spAfter s mark) signs; have l4 := len_place host to_ (sub (spAfter s mark) 0 (Int.toNat (spAnyAt (spAfter s mark) signs) - 0)) port toPort hlen.2.2.2.2.1; have l5 := len_place host to_ (sub (spAfter s mark) 0 (Int.toNat (↑(List.length (spAfter s mark)) : Int) - 0)) port toPort hlen.2.2.2.2.1; have l6 := len_sub (spAfter s mark) 0 (Int.toNat (spAnyAt (spAfter s mark) signs) - 0); have l7 := len_sub (spAfter s mark) 0 (Int.toNat (↑(List.length (spAfter s mark)) : Int) - 0); have l8 := len_sub (spAfter s mark) (Int.toNat (spAnyAt (spAfter s mark) signs)) (Int.toNat (↑(List.length (spAfter s mark)) : Int) - Int.toNat (spAnyAt (spAfter s mark) signs)); have l9 := len_sub (spAfter s mark) (Int.toNat (↑(List.length (spAfter s mark)) : Int)) (Int.toNat (↑(List.length (spAfter s mark)) : Int) - Int.toNat (↑(List.length (spAfter s mark)) : Int)); have l0 := hlen.2.2.2.2.2; simp only [Bool.and_eq_true, decide_eq_true_eq, decide_eq_false_iff_not, List.length_cons, List.length_append, List.length_nil, and_true, eq_self] at *; first | exact l0 | omega)
    simp only [behind_cls host to_ s mark signs port toPort rows, hcl]
    exact calls_pureB P3_ok hp ho hE rfl rfl rfl
  · obtain ⟨plan, ow, hp, ho⟩ : ∃ plan ow, Path (runCallB Tryz.prog P3 100 51 [AV.agg [AV.str host, AV.str to_, AV.int IntKind.i64 port, AV.int IntKind.i64 toPort, AV.slq 0 rows.length], AV.str s, AV.str mark, AV.str signs] (st0 [Blk.cells false [Kd.int IntKind.u16, Kd.int IntKind.u16] rows] plan)) 1 [] (SL.mk [] [] 1) (Out.ret (AV.str (spBefore s mark ++ mark ++ spPlace host to_ (sub (spAfter s mark) 0 (Int.toNat (↑(List.length (spAfter s mark)) : Int) - 0)) port toPort ++ sub (spAfter s mark) (Int.toNat (↑(List.length (spAfter s mark)) : Int)) (Int.toNat (↑(List.length (spAfter s mark)) : Int) - Int.toNat (↑(List.length (spAfter s mark)) : Int))))) ow ∧ ow := by
      apply c51_c1 host to_ s mark signs port toPort rows rows.length hcl
      all_goals (intros; simp only [c51k0, c51k1, c51k2, c51k3, c51k4, c51k5, c51k6, c51k7, c51k8, c51k9, c51k10, c51k11, c51k12, c51k13, c51k14] at *; have l1 := len_before s mark; have l2 := len_after s mark; have l3 := anyAt_range (spAfter s mark) signs; have l4 := len_place host to_ (sub (spAfter s mark) 0 (Int.toNat (spAnyAt (spAfter s mark) signs) - 0)) port toPort hlen.2.2.2.2.1; have l5 := len_place host to_ (sub (spAfter s mark) 0 (Int.toNat (↑(List.length (spAfter s mark)) : Int) - 0)) port toPort hlen.2.2.2.2.1; have l6 := len_sub (spAfter s mark) 0 (Int.toNat (spAnyAt (spAfter s mark) signs) - 0); have l7 := len_sub (spAfter s mark) 0 (Int.toNat (↑(List.length (spAfter s mark)) : Int) - 0); have l8 := len_sub (spAfter s mark) (Int.toNat (spAnyAt (spAfter s mark) signs)) (Int.toNat (↑(List.length (spAfter s mark)) : Int) - Int.toNat (spAnyAt (spAfter s mark) signs)); have l9 := len_sub (spAfter s mark) (Int.toNat (↑(List.length (spAfter s mark)) : Int)) (Int.toNat (↑(List.length (spAfter s mark)) : Int) - Int.toNat (↑(List.length (spAfter s mark)) : Int)); have l0 := hlen.2.2.2.2.2; simp only [Bool.and_eq_true, decide_eq_true_eq, decide_eq_false_iff_not, List.length_cons, List.length_append, List.length_nil, and_true, eq_self] at *; first | exact l0 | omega)
    simp only [behind_cls host to_ s mark signs port toPort rows, hcl]
    exact calls_pureB P3_ok hp ho hE rfl rfl rfl
  · obtain ⟨plan, ow, hp, ho⟩ : ∃ plan ow, Path (runCallB Tryz.prog P3 100 51 [AV.agg [AV.str host, AV.str to_, AV.int IntKind.i64 port, AV.int IntKind.i64 toPort, AV.slq 0 rows.length], AV.str s, AV.str mark, AV.str signs] (st0 [Blk.cells false [Kd.int IntKind.u16, Kd.int IntKind.u16] rows] plan)) 1 [] (SL.mk [] [] 1) (Out.ret (AV.str (spBefore s mark ++ mark ++ spPlace host to_ (sub (spAfter s mark) 0 (Int.toNat (spAnyAt (spAfter s mark) signs) - 0)) port toPort ++ sub (spAfter s mark) (Int.toNat (spAnyAt (spAfter s mark) signs)) (Int.toNat (↑(List.length (spAfter s mark)) : Int) - Int.toNat (spAnyAt (spAfter s mark) signs))))) ow ∧ ow := by
      apply c51_c2 host to_ s mark signs port toPort rows rows.length hcl
      all_goals (intros; simp only [c51k0, c51k1, c51k2, c51k3, c51k4, c51k5, c51k6, c51k7, c51k8, c51k9, c51k10, c51k11, c51k12, c51k13, c51k14] at *; have l1 := len_before s mark; have l2 := len_after s mark; have l3 := anyAt_range (spAfter s mark) signs; have l4 := len_place host to_ (sub (spAfter s mark) 0 (Int.toNat (spAnyAt (spAfter s mark) signs) - 0)) port toPort hlen.2.2.2.2.1; have l5 := len_place host to_ (sub (spAfter s mark) 0 (Int.toNat (↑(List.length (spAfter s mark)) : Int) - 0)) port toPort hlen.2.2.2.2.1; have l6 := len_sub (spAfter s mark) 0 (Int.toNat (spAnyAt (spAfter s mark) signs) - 0); have l7 := len_sub (spAfter s mark) 0 (Int.toNat (↑(List.length (spAfter s mark)) : Int) - 0); have l8 := len_sub (spAfter s mark) (Int.toNat (spAnyAt (spAfter s mark) signs)) (Int.toNat (↑(List.length (spAfter s mark)) : Int) - Int.toNat (spAnyAt (spAfter s mark) signs)); have l9 := len_sub (spAfter s mark) (Int.toNat (↑(List.length (spAfter s mark)) : Int)) (Int.toNat (↑(List.length (spAfter s mark)) : Int) - Int.toNat (↑(List.length (spAfter s mark)) : Int)); have l0 := hlen.2.2.2.2.2; simp only [Bool.and_eq_true, decide_eq_true_eq, decide_eq_false_iff_not, List.length_cons, List.length_append, List.length_nil, and_true, eq_self] at *; first | exact l0 | omega)
    simp only [behind_cls host to_ s mark signs port toPort rows, hcl]
    exact calls_pureB P3_ok hp ho hE rfl rfl rfl
def q51 : Entry := fun args hp nx => match args with
  | [.agg [.str host, .str to_, .int .i64 port, .int .i64 toPort, lv], .str s, .str mark, .str signs] => match slIn hp [.int .u16, .int .u16] lv with
    | some (c, _) => some (c && decide (s.length ≤ 4294967200 ∧ mark.length ≤ 4294967200 ∧ host.length ≤ 140737488355328 ∧ to_.length ≤ 140737488355328 ∧ (-9223372036854775808 ≤ toPort ∧ toPort ≤ 9223372036854775807) ∧ (signs = [62, 59] ∨ signs = [59])), .str (spBehind host to_ s mark signs port toPort), [])
    | none => none
  | _ => none
theorem q51_ok : EntryOK Tryz.prog 51 q51 := by
  intro args hp nx c v bs h hc ρ w hs hi
  unfold q51 at h
  split at h
  · rename_i host to_ port toPort lv s mark signs
    split at h
    · rename_i c0 rows hsl
      cases h
      simp only [Bool.and_eq_true] at hc
      have hlen := of_decide_eq_true hc.2
      have hr := slIn_spec hs hsl hc.1 rfl
      obtain ⟨bi, hbi⟩ := hr.bi hs.gw rfl
      have hb := hbi (fun _ => bi) 0 rfl
      have hE : HSim (fun _ => bi) (addBlks .e 0 [.cells false [.int .u16, .int .u16] rows]) ([.cells false [.int .u16, .int .u16] rows] : List Blk).length w :=
        HSim.ins hs.gw (fun i blk hi => by
          obtain ⟨rfl, rfl⟩ := bs1 hi
          exact ⟨hb.2, rfl, rfl⟩)
      refine entry_pure hs rfl ?_
      have hcall := c51_calls host to_ s mark signs port toPort rows hE hlen
      simp only [concL, conc] at hcall ⊢
      have hv : conc (fun _ => bi) (.slq 0 rows.length) = conc ρ lv := hb.1
      simp only [conc] at hv
      rw [hv] at hcall
      exact hcall
    · cases h
  · cases h
end Go.Proofs.YtpdgmgkkbbndfaaGreatDoor

set_option maxRecDepth 100000
namespace Go.Proofs.YtpdgmgkkbbndfaaGreatDoor
open Go Go.Proofs Go.Proofs.YtpdgmgkkbbndfaaGreatDoor.SX
def strOf (r : List AV) : List UInt8 := AV.toStr (List.getD r 0 AV.undef)
def spJoin (rows : List (List AV)) (sep : List UInt8) : List UInt8 := Lib.join (rows.map strOf) sep
def q75 : Entry := fun args hp nx => match args with
  | [.sl ⟨b, 0, 0⟩ n .open_, .str sep] => match hp.get b with
    | some (.cells true [.str] rows) => some (decide (n = rows.length ∧ rows.length ≤ 1048576 ∧ (spJoin rows sep).length ≤ 140737488355328), .str (spJoin rows sep), [])
    | _ => none
  | _ => none
theorem q75_ok : EntryOK Tryz.prog 75 q75 := by
  intro args hp nx c v bs h hc ρ w hs hi
  unfold q75 at h
  split at h
  · rename_i b n sep
    split at h
    · rename_i rows hb
      cases h
      obtain ⟨h0, h1, h3⟩ := of_decide_eq_true hc
      subst h0
      refine entry_pure hs rfl ?_
      have hsat := hs.sat b _ hb
      have hlt := Blk.sat_lt hsat
      obtain ⟨hz, cs, t, fr, g1, g2, g3⟩ := hsat
      obtain ⟨hoff, hsz, hrows, _⟩ := g3 rfl
      have hz : (ρ b).sz = 1 := hz
      have hcell : ∀ (j : Nat) x, (rows.map fun r => (⟨(strOf r).toArray⟩ : ByteArray))[j]? = some x → w.cell? ⟨(ρ b).blk, 0 + j, none⟩ = some (.string x) := by
        intro j x hx
        rw [List.getElem?_map, Option.map_eq_some_iff] at hx
        obtain ⟨r, hr, rfl⟩ := hx
        have hjl : j < rows.length := by
          rcases Nat.lt_or_ge j rows.length with h' | h'
          · exact h'
          · rw [List.getElem?_eq_none h'] at hr; cases hr
        have g4 := g2 j 0 .str hjl rfl
        have e : (ρ b).off + (j * (ρ b).sz + 0) = 0 + j := by rw [hz, hoff]; omega
        rw [e] at g4
        simp only [World.cell?]
        rw [g1]
        simp only [g4]
        unfold cellAt
        simp only [SX.cast, conc, strOf]
        have : rows.getD j [] = r := by rw [List.getD_eq_getElem?_getD, hr]; rfl
        rw [this]
        rfl
      have hmap : (rows.map fun r => (⟨(strOf r).toArray⟩ : ByteArray)).map (·.data.toList) = rows.map strOf := by
        rw [List.map_map]; exact List.map_congr_left fun r _ => by simp
      have hlen : (Lib.join ((rows.map fun r => (⟨(strOf r).toArray⟩ : ByteArray)).map (·.data.toList)) sep).length ≤ 140737488355328 := by rw [hmap]; exact h3
      have hj := Tryz.strings_Join (ρ b).blk 0 (ρ b).rows (rows.map fun r => (⟨(strOf r).toArray⟩ : ByteArray)) ⟨sep.toArray⟩ w hcell hlt (by simp; omega) (by simpa using hrows) hlen
      have e1 : (rows.map fun r => (⟨(strOf r).toArray⟩ : ByteArray)).length = rows.length := by simp
      rw [e1] at hj
      have hv : (concL ρ [AV.sl ⟨b, 0, 0⟩ rows.length .open_, .str sep]).toArray = #[.slice (some ⟨(ρ b).blk, 0, none⟩) rows.length (ρ b).rows, .string ⟨sep.toArray⟩] := by
        simp [concL, conc, addr, capOf, hoff]
      rw [hv]
      refine hj.mono fun e w' hq => ?_
      obtain ⟨rfl, hbel⟩ := hq
      refine ⟨?_, hbel⟩
      simp only [conc, spJoin]
      rw [hmap]
    · cases h
  · cases h
def P4 : Prims := addP P3 75 q75
theorem P4_ok : PrimsOK Tryz.prog P4 := addP_ok P3_ok q75_ok
end Go.Proofs.YtpdgmgkkbbndfaaGreatDoor

set_option maxRecDepth 100000
namespace Go.Proofs.YtpdgmgkkbbndfaaGreatDoor
open Go Go.Proofs Go.Proofs.YtpdgmgkkbbndfaaGreatDoor.SX
def c47k0 (a : Int) : Bool := decide (Int.negSucc (9223372036854775807) ≤ IntKind.wrap IntKind.i64 (IntKind.wrap IntKind.u8 (Int.fdiv a (16777216 : Int))) ∧ IntKind.wrap IntKind.i64 (IntKind.wrap IntKind.u8 (Int.fdiv a (16777216 : Int))) ≤ (9223372036854775807 : Int))
def c47k1 (a : Int) : Bool := decide (Int.negSucc (9223372036854775807) ≤ IntKind.wrap IntKind.i64 (IntKind.wrap IntKind.u8 (Int.fdiv a (65536 : Int))) ∧ IntKind.wrap IntKind.i64 (IntKind.wrap IntKind.u8 (Int.fdiv a (65536 : Int))) ≤ (9223372036854775807 : Int))
def c47k2 (a : Int) : Bool := decide (Int.negSucc (9223372036854775807) ≤ IntKind.wrap IntKind.i64 (IntKind.wrap IntKind.u8 (Int.fdiv a (256 : Int))) ∧ IntKind.wrap IntKind.i64 (IntKind.wrap IntKind.u8 (Int.fdiv a (256 : Int))) ≤ (9223372036854775807 : Int))
def c47k3 (a : Int) : Bool := decide (Int.negSucc (9223372036854775807) ≤ IntKind.wrap IntKind.i64 (IntKind.wrap IntKind.u8 (Int.fdiv a (1 : Int))) ∧ IntKind.wrap IntKind.i64 (IntKind.wrap IntKind.u8 (Int.fdiv a (1 : Int))) ≤ (9223372036854775807 : Int))
def c47k4 (a : Int) : Bool := decide (4 = 4 ∧ 4 ≤ 1048576 ∧ List.length (spJoin [[AV.str (spItoa (IntKind.wrap IntKind.i64 (IntKind.wrap IntKind.u8 (Int.fdiv a (16777216 : Int)))))], [AV.str (spItoa (IntKind.wrap IntKind.i64 (IntKind.wrap IntKind.u8 (Int.fdiv a (65536 : Int)))))], [AV.str (spItoa (IntKind.wrap IntKind.i64 (IntKind.wrap IntKind.u8 (Int.fdiv a (256 : Int)))))], [AV.str (spItoa (IntKind.wrap IntKind.i64 (IntKind.wrap IntKind.u8 (Int.fdiv a (1 : Int)))))]] [(46 : UInt8)]) ≤ 140737488355328)
theorem c47_EEEEEE (a : Int) :
 Path (runCallB Tryz.prog P4 100 47 [AV.int IntKind.u32 a] (st0 [] ([PI.ev 1, PI.ev 1, PI.ev 1, PI.ev 1, PI.ev 1, PI.ev 1]))) 0 [] (SL.mk [] [] 0) (Out.ret (AV.str (spJoin [[AV.str (spItoa (IntKind.wrap IntKind.i64 (IntKind.wrap IntKind.u8 (Int.fdiv a (16777216 : Int)))))], [AV.str (spItoa (IntKind.wrap IntKind.i64 (IntKind.wrap IntKind.u8 (Int.fdiv a (65536 : Int)))))], [AV.str (spItoa (IntKind.wrap IntKind.i64 (IntKind.wrap IntKind.u8 (Int.fdiv a (256 : Int)))))], [AV.str (spItoa (IntKind.wrap IntKind.i64 (IntKind.wrap IntKind.u8 (Int.fdiv a (1 : Int)))))]] [(46 : UInt8)])))
 ((((((((((((((((((((True ∧ true = true) ∧ c47k0 a = true) ∧ true = true) ∧ true = true) ∧ true = true) ∧ c47k1 a = true) ∧ true = true) ∧ true = true) ∧ true = true) ∧ true = true) ∧ c47k2 a = true) ∧ true = true) ∧ true = true) ∧ true = true) ∧ true = true) ∧ c47k3 a = true) ∧ true = true) ∧ true = true) ∧ true = true) ∧ c47k4 a = true) := by unfold Path; kernel_rfl
def c47_cls (a : Int) : Nat := 0
theorem c47_all (a : Int) : c47_cls a = 0 := by
  unfold c47_cls
  rfl
theorem c47_c0 (a : Int) (h : c47_cls a = 0) (m0 : c47k0 a = true) (m1 : c47k1 a = true) (m2 : c47k2 a = true) (m3 : c47k3 a = true) (m4 : c47k4 a = true) : ∃ plan ow, Path (runCallB Tryz.prog P4 100 47 [AV.int IntKind.u32 a] (st0 [] plan)) 0 [] (SL.mk [] [] 0) (Out.ret (AV.str (spJoin [[AV.str (spItoa (IntKind.wrap IntKind.i64 (IntKind.wrap IntKind.u8 (Int.fdiv a (16777216 : Int)))))], [AV.str (spItoa (IntKind.wrap IntKind.i64 (IntKind.wrap IntKind.u8 (Int.fdiv a (65536 : Int)))))], [AV.str (spItoa (IntKind.wrap IntKind.i64 (IntKind.wrap IntKind.u8 (Int.fdiv a (256 : Int)))))], [AV.str (spItoa (IntKind.wrap IntKind.i64 (IntKind.wrap IntKind.u8 (Int.fdiv a (1 : Int)))))]] [(46 : UInt8)]))) ow ∧ ow := by
  unfold c47_cls at h
  exact ⟨_, _, c47_EEEEEE a, by simp only [m0, m1, m2, m3, m4, eq_self, and_true, true_and]⟩
def octet (a d : Int) : Int := IntKind.wrap IntKind.i64 (IntKind.wrap IntKind.u8 (Int.fdiv a d))
def spDotted (a : Int) : List UInt8 := spJoin [[AV.str (spItoa (octet a 16777216))], [AV.str (spItoa (octet a 65536))], [AV.str (spItoa (octet a 256))], [AV.str (spItoa (octet a 1))]] [46]
theorem join4 (x y z t : List UInt8) : spJoin [[AV.str x], [AV.str y], [AV.str z], [AV.str t]] [46] = x ++ [46] ++ y ++ [46] ++ z ++ [46] ++ t := by
  simp [spJoin, Lib.join, strOf, AV.toStr, List.intercalate]
theorem octet_range (a d : Int) : 0 ≤ octet a d ∧ octet a d ≤ 255 := by
  unfold octet
  rw [IntKind.wrap_u8, IntKind.wrap_i64]; omega
theorem len_dotted (a : Int) : (spDotted a).length ≤ 87 := by
  unfold spDotted
  rw [join4]
  have h1 := octet_range a 16777216; have h2 := octet_range a 65536; have h3 := octet_range a 256; have h4 := octet_range a 1
  have l1 := len_itoa _ (show -9223372036854775808 ≤ octet a 16777216 ∧ octet a 16777216 ≤ 9223372036854775807 by omega)
  have l2 := len_itoa _ (show -9223372036854775808 ≤ octet a 65536 ∧ octet a 65536 ≤ 9223372036854775807 by omega)
  have l3 := len_itoa _ (show -9223372036854775808 ≤ octet a 256 ∧ octet a 256 ≤ 9223372036854775807 by omega)
  have l4 := len_itoa _ (show -9223372036854775808 ≤ octet a 1 ∧ octet a 1 ≤ 9223372036854775807 by omega)
  simp only [List.length_append, List.length_cons, List.length_nil]; omega
theorem c47_calls (a : Int) {ρ : Nat → BI} {w : World} (hE : HSim ρ (addBlks .e 0 []) ([] : List Blk).length w)  :
    Calls Tryz.prog 47 (concL ρ [AV.int .u32 a]).toArray w (fun e w' => e = .returned (conc ρ (AV.str (spDotted a))) ∧ Ext w w') := by
  rcases c47_all a with hcl
  · obtain ⟨plan, ow, hp, ho⟩ : ∃ plan ow, Path (runCallB Tryz.prog P4 100 47 [AV.int IntKind.u32 a] (st0 [] plan)) 0 [] (SL.mk [] [] 0) (Out.ret (AV.str (spJoin [[AV.str (spItoa (IntKind.wrap IntKind.i64 (IntKind.wrap IntKind.u8 (Int.fdiv a (16777216 : Int)))))], [AV.str (spItoa (IntKind.wrap IntKind.i64 (IntKind.wrap IntKind.u8 (Int.fdiv a (65536 : Int)))))], [AV.str (spItoa (IntKind.wrap IntKind.i64 (IntKind.wrap IntKind.u8 (Int.fdiv a (256 : Int)))))], [AV.str (spItoa (IntKind.wrap IntKind.i64 (IntKind.wrap IntKind.u8 (Int.fdiv a (1 : Int)))))]] [(46 : UInt8)]))) ow ∧ ow := by
      apply c47_c0 a hcl
      all_goals (intros; simp only [c47k0, c47k1, c47k2, c47k3, c47k4] at *; first | exact decide_eq_true (wrap64_range _) | (have hl := len_dotted a; unfold spDotted octet at hl; simp only [Bool.and_eq_true, decide_eq_true_eq, List.length_cons, List.length_nil, and_true, true_and, eq_self]; omega))
    simp only [spDotted, octet, hcl]
    exact calls_pureB P4_ok hp ho hE rfl rfl rfl
def q47 : Entry := fun args hp nx => match args with
  | [.int .u32 a] => some (true, .str (spDotted a), [])
  | _ => none
theorem q47_ok : EntryOK Tryz.prog 47 q47 := by
  intro args hp nx c v bs h hc ρ w hs hi
  unfold q47 at h
  split at h
  · rename_i a
    cases h
    exact entry_pure hs rfl (c47_calls a (HSim.ins hs.gw (fun i blk hi => by simp at hi)))
  · cases h
end Go.Proofs.YtpdgmgkkbbndfaaGreatDoor

set_option maxRecDepth 100000
set_option maxHeartbeats 1600000
namespace Go.Proofs.YtpdgmgkkbbndfaaGreatDoor
open Go Go.Proofs Go.Proofs.YtpdgmgkkbbndfaaGreatDoor.SX
theorem c94_EEEEEE (a : Int) :
 Path (runCallB Tryz.prog P4 100 94 [AV.int IntKind.u32 a, AV.str [(46 : UInt8)]] (st0 [] ([PI.ev 1, PI.ev 1, PI.ev 1, PI.ev 1, PI.ev 1, PI.ev 1]))) 0 [] (SL.mk [] [] 0) (Out.ret (AV.str (spJoin [[AV.str (spItoa (IntKind.wrap IntKind.i64 (IntKind.wrap IntKind.u8 (Int.fdiv a (16777216 : Int)))))], [AV.str (spItoa (IntKind.wrap IntKind.i64 (IntKind.wrap IntKind.u8 (Int.fdiv a (65536 : Int)))))], [AV.str (spItoa (IntKind.wrap IntKind.i64 (IntKind.wrap IntKind.u8 (Int.fdiv a (256 : Int)))))], [AV.str (spItoa (IntKind.wrap IntKind.i64 (IntKind.wrap IntKind.u8 (Int.fdiv a (1 : Int)))))]] [(46 : UInt8)])))
 ((((((((((((((((((((True ∧ (true = true)) ∧ (decide (Int.negSucc (9223372036854775807) ≤ IntKind.wrap IntKind.i64 (IntKind.wrap IntKind.u8 (Int.fdiv a (16777216 : Int))) ∧ IntKind.wrap IntKind.i64 (IntKind.wrap IntKind.u8 (Int.fdiv a (16777216 : Int))) ≤ (9223372036854775807 : Int)) = true)) ∧ (true = true)) ∧ (true = true)) ∧ (true = true)) ∧ (decide (Int.negSucc (9223372036854775807) ≤ IntKind.wrap IntKind.i64 (IntKind.wrap IntKind.u8 (Int.fdiv a (65536 : Int))) ∧ IntKind.wrap IntKind.i64 (IntKind.wrap IntKind.u8 (Int.fdiv a (65536 : Int))) ≤ (9223372036854775807 : Int)) = true)) ∧ (true = true)) ∧ (true = true)) ∧ (true = true)) ∧ (true = true)) ∧ (decide (Int.negSucc (9223372036854775807) ≤ IntKind.wrap IntKind.i64 (IntKind.wrap IntKind.u8 (Int.fdiv a (256 : Int))) ∧ IntKind.wrap IntKind.i64 (IntKind.wrap IntKind.u8 (Int.fdiv a (256 : Int))) ≤ (9223372036854775807 : Int)) = true)) ∧ (true = true)) ∧ (true = true)) ∧ (true = true)) ∧ (true = true)) ∧ (decide (Int.negSucc (9223372036854775807) ≤ IntKind.wrap IntKind.i64 (IntKind.wrap IntKind.u8 (Int.fdiv a (1 : Int))) ∧ IntKind.wrap IntKind.i64 (IntKind.wrap IntKind.u8 (Int.fdiv a (1 : Int))) ≤ (9223372036854775807 : Int)) = true)) ∧ (true = true)) ∧ (true = true)) ∧ (true = true)) ∧ (decide (4 = 4 ∧ 4 ≤ 1048576 ∧ List.length (spJoin [[AV.str (spItoa (IntKind.wrap IntKind.i64 (IntKind.wrap IntKind.u8 (Int.fdiv a (16777216 : Int)))))], [AV.str (spItoa (IntKind.wrap IntKind.i64 (IntKind.wrap IntKind.u8 (Int.fdiv a (65536 : Int)))))], [AV.str (spItoa (IntKind.wrap IntKind.i64 (IntKind.wrap IntKind.u8 (Int.fdiv a (256 : Int)))))], [AV.str (spItoa (IntKind.wrap IntKind.i64 (IntKind.wrap IntKind.u8 (Int.fdiv a (1 : Int)))))]] [(46 : UInt8)]) ≤ 140737488355328) = true)) := by unfold Path; kernel_rfl
def q94 : Entry := fun args hp nx => match args with
  | [.int .u32 a, .str [46]] => some (true, .str (spDotted a), [])
  | _ => none
theorem q94_ok : EntryOK Tryz.prog 94 q94 := by
  intro args hp nx c v bs h hc ρ w hs hi
  unfold q94 at h
  split at h
  · rename_i a
    cases h
    refine entry_pure hs rfl ?_
    have hE : HSim ρ (addBlks .e 0 []) ([] : List Blk).length w := HSim.ins hs.gw (fun i blk hi => by simp at hi)
    refine calls_pureB P4_ok (c94_EEEEEE a) ?_ hE rfl rfl rfl
    refine ⟨⟨⟨⟨⟨⟨⟨⟨⟨⟨⟨⟨⟨⟨⟨⟨⟨⟨⟨⟨trivial, rfl⟩, ?_⟩, rfl⟩, rfl⟩, rfl⟩, ?_⟩, rfl⟩, rfl⟩, rfl⟩, rfl⟩, ?_⟩, rfl⟩, rfl⟩, rfl⟩, rfl⟩, ?_⟩, rfl⟩, rfl⟩, rfl⟩, ?_⟩
    all_goals first | exact decide_eq_true (wrap64_range _) | (have hl := len_dotted a; unfold spDotted octet at hl; simp only [Bool.and_eq_true, decide_eq_true_eq, List.length_cons, List.length_nil, and_true, true_and, eq_self]; omega)
  · cases h
end Go.Proofs.YtpdgmgkkbbndfaaGreatDoor

set_option maxRecDepth 100000
namespace Go.Proofs.YtpdgmgkkbbndfaaGreatDoor
open Go Go.Proofs Go.Proofs.YtpdgmgkkbbndfaaGreatDoor.SX
def lowerC (c : UInt8) : UInt8 := if 65 ≤ c.toNat ∧ c.toNat ≤ 90 then c + 32 else c
def lowerS (s : List UInt8) : List UInt8 := s.map lowerC
def lrows (s : List UInt8) (k : Nat) : List (List AV) := byteRows (lowerS (s.take k))
end Go.Proofs.YtpdgmgkkbbndfaaGreatDoor

set_option maxRecDepth 100000
namespace Go.Proofs.YtpdgmgkkbbndfaaGreatDoor
open Go Go.Proofs Go.Proofs.YtpdgmgkkbbndfaaGreatDoor.SX
def b50I (rows : List (List AV)) (n : Nat) (k : Int) : SL := ⟨[(3, .sl ⟨0, 0, 0⟩ n .open_), (8, .sl ⟨0, 0, 0⟩ n .open_), (9, .int .i64 n), (10, .int .i64 k)], [(0, .cells true [.int .u8] rows)], 1⟩
theorem b50_TTT (rows : List (List AV)) (n : Nat) (k : Int) :
 Path (run Tryz.prog Pr 100 (lbody Tryz.prog 50 0) (SL.mp 30 ([pT, pT, pT]) (b50I rows n k))) 1 [] (b50I (List.set rows (0 + Int.toNat k) [AV.int IntKind.u8 (IntKind.wrap IntKind.u8 (IntKind.wrap IntKind.u8 (AV.toInt (List.getD (List.getD rows (0 + Int.toNat k) []) (0) AV.undef) + (97 : Int)) - (65 : Int)))]) (n) (IntKind.wrap IntKind.i64 (k + (1 : Int)))) (Ex.normal)
 (((((((True ∧ (decide (k < (↑n : Int)) = true)) ∧ (decide ((0 : Int) ≤ k ∧ k < (↑n : Int)) = true)) ∧ (decide (0 + Int.toNat k < List.length rows) = true)) ∧ (decide (AV.toInt (List.getD (List.getD rows (0 + Int.toNat k) []) (0) AV.undef) ≥ (65 : Int)) = true)) ∧ (decide (AV.toInt (List.getD (List.getD rows (0 + Int.toNat k) []) (0) AV.undef) ≤ (90 : Int)) = true)) ∧ (decide ((0 : Int) ≤ k ∧ k < (↑n : Int)) = true)) ∧ (decide (0 + Int.toNat k < List.length rows) = true)) := by unfold Path; kernel_rfl
theorem b50_TTF (rows : List (List AV)) (n : Nat) (k : Int) :
 Path (run Tryz.prog Pr 100 (lbody Tryz.prog 50 0) (SL.mp 30 ([pT, pT, pF]) (b50I rows n k))) 1 [] (b50I (rows) (n) (IntKind.wrap IntKind.i64 (k + (1 : Int)))) (Ex.normal)
 (((((True ∧ (decide (k < (↑n : Int)) = true)) ∧ (decide ((0 : Int) ≤ k ∧ k < (↑n : Int)) = true)) ∧ (decide (0 + Int.toNat k < List.length rows) = true)) ∧ (decide (AV.toInt (List.getD (List.getD rows (0 + Int.toNat k) []) (0) AV.undef) ≥ (65 : Int)) = true)) ∧ (decide (AV.toInt (List.getD (List.getD rows (0 + Int.toNat k) []) (0) AV.undef) ≤ (90 : Int)) = false)) := by unfold Path; kernel_rfl
theorem b50_TF (rows : List (List AV)) (n : Nat) (k : Int) :
 Path (run Tryz.prog Pr 100 (lbody Tryz.prog 50 0) (SL.mp 30 ([pT, pF]) (b50I rows n k))) 1 [] (b50I (rows) (n) (IntKind.wrap IntKind.i64 (k + (1 : Int)))) (Ex.normal)
 ((((True ∧ (decide (k < (↑n : Int)) = true)) ∧ (decide ((0 : Int) ≤ k ∧ k < (↑n : Int)) = true)) ∧ (decide (0 + Int.toNat k < List.length rows) = true)) ∧ (decide (AV.toInt (List.getD (List.getD rows (0 + Int.toNat k) []) (0) AV.undef) ≥ (65 : Int)) = false)) := by unfold Path; kernel_rfl
theorem b50_F (rows : List (List AV)) (n : Nat) (k : Int) :
 Path (run Tryz.prog Pr 100 (lbody Tryz.prog 50 0) (SL.mp 30 ([pF]) (b50I rows n k))) 1 [] (b50I rows n k) (Ex.exit 0)
 (True ∧ (decide (k < (↑n : Int)) = false)) := by unfold Path; kernel_rfl
theorem c50_L (s : List UInt8) (rows : List (List AV)) :
 Path (runCallB Tryz.prog P4 100 50 [AV.str s] (st0 [] ([PI.loop (b50I (List.map byteRow s) (List.length s) (0 : Int)) (Ex.exit 0) (b50I rows (List.length s) (↑(List.length s) : Int))]))) 0 [] (SL.mk [] [] 0) (Out.ret (AV.str (List.map rowByte (sub rows 0 (List.length s)))))
 ((True ∧ (LoopOK Tryz.prog (lbody Tryz.prog 50 0) (30) (SL.mk [(3, AV.sl (Loc.mk 0 0 0) (List.length s) Cap.open_), (8, AV.sl (Loc.mk 0 0 0) (List.length s) Cap.open_), (9, AV.int IntKind.i64 (↑(List.length s) : Int)), (10, AV.int IntKind.i64 (0 : Int))] [(0, Blk.cells true [Kd.int IntKind.u8] (List.map byteRow s))] 1) (Ex.exit 0) (SL.mk [(3, AV.sl (Loc.mk 0 0 0) (List.length s) Cap.open_), (8, AV.sl (Loc.mk 0 0 0) (List.length s) Cap.open_), (9, AV.int IntKind.i64 (↑(List.length s) : Int)), (10, AV.int IntKind.i64 (↑(List.length s) : Int))] [(0, Blk.cells true [Kd.int IntKind.u8] rows)] 1))) ∧ (decide (0 + List.length s ≤ List.length rows) = true)) := by unfold Path; kernel_rfl
def lowK (s : List UInt8) (k : Nat) : List UInt8 := List.take k (List.map lowerC s) ++ List.drop k s
theorem lowK_length (s : List UInt8) (k : Nat) : (lowK s k).length = s.length := by
  simp [lowK]; omega
theorem lowK_at {s : List UInt8} {k : Nat} (h : k < s.length) : (lowK s k)[k]'(by rw [lowK_length]; exact h) = s[k] := by
  have hl : (List.take k (List.map lowerC s)).length = k := by simp; omega
  unfold lowK
  rw [List.getElem_append_right (by omega)]
  simp only [hl, Nat.sub_self, List.getElem_drop, Nat.add_zero]
theorem lowK_succ {s : List UInt8} {k : Nat} (h : k < s.length) : lowK s (k + 1) = (lowK s k).set k (lowerC s[k]) := by
  have hl : (List.take k (List.map lowerC s)).length = k := by simp; omega
  have hm : (List.map lowerC s)[k]? = some (lowerC s[k]) := by rw [List.getElem?_map, List.getElem?_eq_getElem h]; rfl
  unfold lowK
  rw [List.set_append_right _ _ (by omega), hl, Nat.sub_self, List.drop_eq_getElem_cons h, List.set_cons_zero, List.take_add_one, hm]
  simp
theorem low_row {s : List UInt8} {k : Nat} (h : k < s.length) : AV.toInt (List.getD (List.getD (byteRows (lowK s k)) (0 + Int.toNat (k : Int)) []) 0 AV.undef) = (s[k].toNat : Int) := by
  have := byte_at (l := lowK s k) (i := k) (by rw [lowK_length]; exact h)
  rw [lowK_at h] at this
  simpa using this
theorem low_set {s : List UInt8} {k : Nat} (h : k < s.length) : List.set (byteRows (lowK s k)) (0 + Int.toNat (k : Int)) (byteRow (lowerC s[k])) = byteRows (lowK s (k + 1)) := by
  rw [lowK_succ h, byteRows, byteRows, List.map_set]; simp
theorem low_same {s : List UInt8} {k : Nat} (h : k < s.length) (he : lowerC s[k] = s[k]) : byteRows (lowK s k) = byteRows (lowK s (k + 1)) := by
  rw [lowK_succ h, he]
  have := lowK_at h
  rw [← this, List.set_getElem_self]
theorem lower50_loop {s : List UInt8} (hl : s.length ≤ 140737488355328) :
    LoopOK Tryz.prog (lbody Tryz.prog 50 0) 30 (b50I (List.map byteRow s) s.length 0) (.exit 0) (b50I (byteRows (lowerS s)) s.length s.length) := by
  have hend : byteRows (lowK s s.length) = byteRows (lowerS s) := by
    have : List.take s.length (List.map lowerC s) = List.map lowerC s := List.take_of_length_le (by simp)
    simp [lowK, lowerS, this]
  rw [← hend]
  refine loop_rule (E := b50I (List.map byteRow s) s.length 0) (I := fun k : Nat => b50I (byteRows (lowK s k)) s.length k) (pre := fun k => k ≤ s.length) (μ := fun k => s.length - k) _ _ rfl (fun ρ => by simp [Ex.conc]) ?_ (x0 := 0) (pick := []) (Nat.zero_le _) ⟨by kernel_rfl, map_fst_snd ?_⟩
  · intro k hk
    have hlen : (byteRows (lowK s k)).length = s.length := by rw [byteRows_length, lowK_length]
    by_cases hkl : k < s.length
    · left
      have hw := succ64 (n := s.length) hkl (by omega)
      have hr := low_row hkl
      refine ⟨k + 1, by omega, by omega, ?_⟩
      by_cases h1 : 65 ≤ s[k].toNat
      · by_cases h2 : s[k].toNat ≤ 90
        · have hlow : lowerC s[k] = s[k] + 32 := by simp [lowerC, h1, h2]
          have hval : IntKind.wrap IntKind.u8 (IntKind.wrap IntKind.u8 ((s[k].toNat : Int) + (97 : Int)) - (65 : Int)) = ((s[k] + 32).toNat : Int) := by
            rw [IntKind.wrap_u8, IntKind.wrap_u8, UInt8.toNat_add]
            have : (32 : UInt8).toNat = 32 := rfl
            omega
          refine body_by Pr_ok (b50_TTT (byteRows (lowK s k)) s.length k) ?_ ⟨⟨⟨⟨⟨⟨⟨trivial, decide_eq_true (by omega)⟩, decide_eq_true (by omega)⟩, decide_eq_true (by rw [hlen]; simp; omega)⟩, decide_eq_true (by rw [hr]; omega)⟩, decide_eq_true (by rw [hr]; omega)⟩, decide_eq_true (by omega)⟩, decide_eq_true (by rw [hlen]; simp; omega)⟩ rfl
          rw [hr, hval, hw, ← low_set hkl, hlow]
          rfl
        · have hlow : lowerC s[k] = s[k] := by simp [lowerC, h2]
          refine body_by Pr_ok (b50_TTF (byteRows (lowK s k)) s.length k) (by rw [hw, low_same hkl hlow]) ⟨⟨⟨⟨⟨trivial, decide_eq_true (by omega)⟩, decide_eq_true (by omega)⟩, decide_eq_true (by rw [hlen]; simp; omega)⟩, decide_eq_true (by rw [hr]; omega)⟩, decide_eq_false (by rw [hr]; omega)⟩ rfl
      · have hlow : lowerC s[k] = s[k] := by simp [lowerC, h1]
        refine body_by Pr_ok (b50_TF (byteRows (lowK s k)) s.length k) (by rw [hw, low_same hkl hlow]) ⟨⟨⟨⟨trivial, decide_eq_true (by omega)⟩, decide_eq_true (by omega)⟩, decide_eq_true (by rw [hlen]; simp; omega)⟩, decide_eq_false (by rw [hr]; omega)⟩ rfl
    · right
      have hk' : k = s.length := by omega
      subst hk'
      exact body_by Pr_ok (b50_F (byteRows (lowK s s.length)) s.length s.length) rfl ⟨trivial, decide_eq_false (by omega)⟩ rfl
  · have h0 : byteRows (lowK s 0) = List.map byteRow s := by simp [lowK, byteRows]
    show (SL.need2 (sig _ []) _ (b50I (byteRows (lowK s 0)) s.length ((0 : Nat) : Int))).map (·.1) = _
    rw [h0]
    kernel_rfl
def spLow (s : List UInt8) : List UInt8 := lowerS s
def q50 : Entry := fun args hp nx => match args with
  | [.str s] => some (decide (s.length ≤ 140737488355328), .str (spLow s), [])
  | _ => none
theorem q50_ok : EntryOK Tryz.prog 50 q50 := by
  intro args hp nx c v bs h hc ρ w hs hi
  unfold q50 at h
  split at h
  · rename_i s
    cases h
    have hc := of_decide_eq_true hc
    refine entry_pure hs rfl ?_
    have hE : HSim ρ (addBlks .e 0 []) ([] : List Blk).length w := HSim.ins hs.gw (fun i blk hi => by simp at hi)
    have hl : (lowerS s).length = s.length := by simp [lowerS]
    have hr := calls_pureB P4_ok (c50_L s (byteRows (lowerS s))) ⟨⟨trivial, lower50_loop hc⟩, decide_eq_true (by rw [byteRows_length, hl]; omega)⟩ hE rfl rfl rfl
    rw [sub_all _ (by rw [byteRows_length, hl]), map_rowByte] at hr
    exact hr
  · cases h
end Go.Proofs.YtpdgmgkkbbndfaaGreatDoor

set_option maxRecDepth 100000
namespace Go.Proofs.YtpdgmgkkbbndfaaGreatDoor
open Go Go.Proofs Go.Proofs.YtpdgmgkkbbndfaaGreatDoor.SX
def spIdxByte (s : List UInt8) (c : Int) : Int := Lib.indexByte s c.toNat.toUInt8
def spValid (r : Int) : Bool := Lib.validRune r
def q132 : Entry := fun args hp nx => match args with
  | [.str s, .int .u8 c] => some (true, .int .i64 (spIdxByte s c), [])
  | _ => none
theorem q132_ok : EntryOK Tryz.prog 132 q132 := by
  intro args hp nx c v bs h hc ρ w hs hi
  unfold q132 at h
  split at h
  · rename_i s c
    cases h
    refine entry_pure hs rfl ((Tryz.strings_IndexByte ⟨s.toArray⟩ c w).mono fun e w' hq => ?_)
    obtain ⟨rfl, rfl⟩ := hq
    exact ⟨rfl, ext_refl _⟩
  · cases h
def q133 : Entry := fun args hp nx => match args with
  | [.int .i32 r] => some (true, .bool (spValid r), [])
  | _ => none
theorem q133_ok : EntryOK Tryz.prog 133 q133 := by
  intro args hp nx c v bs h hc ρ w hs hi
  unfold q133 at h
  split at h
  · rename_i r
    cases h
    refine entry_pure hs rfl ((Tryz.utf8_ValidRune r w).mono fun e w' hq => ?_)
    obtain ⟨rfl, rfl⟩ := hq
    exact ⟨rfl, ext_refl _⟩
  · cases h
def PD : Prims := addP (addP noPrims 132 q132) 133 q133
theorem PD_ok : PrimsOK Tryz.prog PD := addP_ok (addP_ok (noPrims_ok _) q132_ok) q133_ok
theorem c112_TT (r : Int) :
 Path (runCallB Tryz.prog PD 100 112 [AV.str [(13 : UInt8), (10 : UInt8)], AV.int IntKind.i32 r] (st0 [] ([pT, pT]))) 0 [] (SL.mk [] [] 0) (Out.ret (AV.int IntKind.i64 (spIdxByte [(13 : UInt8), (10 : UInt8)] (IntKind.wrap IntKind.u8 r))))
 (((True ∧ (decide ((0 : Int) ≤ r) = true)) ∧ (decide (r < (128 : Int)) = true)) ∧ (true = true)) := by unfold Path; kernel_rfl
theorem c112_TFTEEEEE (r : Int) :
 Path (runCallB Tryz.prog PD 100 112 [AV.str [(13 : UInt8), (10 : UInt8)], AV.int IntKind.i32 r] (st0 [] ([pT, pF, pT, PI.ev 1, PI.ev 1, PI.ev 1, PI.ev 1, PI.ev 1]))) 0 [] (SL.mk [] [] 0) (Out.ret (AV.int IntKind.i64 (Int.negSucc (0))))
 (((True ∧ (decide ((0 : Int) ≤ r) = true)) ∧ (decide (r < (128 : Int)) = false)) ∧ ((r == (65533 : Int)) = true)) := by unfold Path; kernel_rfl
theorem c112_TFFT (r : Int) :
 Path (runCallB Tryz.prog PD 100 112 [AV.str [(13 : UInt8), (10 : UInt8)], AV.int IntKind.i32 r] (st0 [] ([pT, pF, pF, pT]))) 0 [] (SL.mk [] [] 0) (Out.ret (AV.int IntKind.i64 (Int.negSucc (0))))
 (((((True ∧ (decide ((0 : Int) ≤ r) = true)) ∧ (decide (r < (128 : Int)) = false)) ∧ ((r == (65533 : Int)) = false)) ∧ (true = true)) ∧ ((!spValid r) = true)) := by unfold Path; kernel_rfl
theorem c112_TFFFTTT (r : Int) :
 Path (runCallB Tryz.prog PD 100 112 [AV.str [(13 : UInt8), (10 : UInt8)], AV.int IntKind.i32 r] (st0 [] ([pT, pF, pF, pF, pT, pT, pT]))) 0 [] (SL.mk [] [] 0) (Out.ret (AV.int IntKind.i64 (Int.negSucc (0))))
 (((((((((((((True ∧ (decide ((0 : Int) ≤ r) = true)) ∧ (decide (r < (128 : Int)) = false)) ∧ ((r == (65533 : Int)) = false)) ∧ (true = true)) ∧ ((!spValid r) = false)) ∧ (decide (IntKind.wrap IntKind.i64 ((↑(List.length (spRune r)) : Int) - (1 : Int)) < (2 : Int)) = true)) ∧ (decide ((0 : Int) ≤ IntKind.wrap IntKind.i64 ((↑(List.length (spRune r)) : Int) - (1 : Int)) ∧ IntKind.wrap IntKind.i64 ((↑(List.length (spRune r)) : Int) - (1 : Int)) < (2 : Int)) = true)) ∧ (decide ((0 : Int) ≤ IntKind.wrap IntKind.i64 ((↑(List.length (spRune r)) : Int) - (1 : Int)) ∧ IntKind.wrap IntKind.i64 ((↑(List.length (spRune r)) : Int) - (1 : Int)) < (↑(List.length (spRune r)) : Int)) = true)) ∧ ((!(↑(UInt8.toNat (List.getD [(13 : UInt8), (10 : UInt8)] (Int.toNat (IntKind.wrap IntKind.i64 ((↑(List.length (spRune r)) : Int) - (1 : Int)))) (0 : UInt8))) : Int) == (↑(UInt8.toNat (List.getD (spRune r) (Int.toNat (IntKind.wrap IntKind.i64 ((↑(List.length (spRune r)) : Int) - (1 : Int)))) (0 : UInt8))) : Int)) = true)) ∧ (decide ((0 : Int) ≤ IntKind.wrap IntKind.i64 (IntKind.wrap IntKind.i64 ((↑(List.length (spRune r)) : Int) - (1 : Int)) + (1 : Int)) ∧ IntKind.wrap IntKind.i64 (IntKind.wrap IntKind.i64 ((↑(List.length (spRune r)) : Int) - (1 : Int)) + (1 : Int)) ≤ (2 : Int) ∧ (2 : Int) ≤ (2 : Int)) = true)) ∧ (decide ((0 : Int) ≤ IntKind.wrap IntKind.i64 ((↑(List.length (spRune r)) : Int) - (1 : Int)) ∧ IntKind.wrap IntKind.i64 ((↑(List.length (spRune r)) : Int) - (1 : Int)) < (↑(List.length (spRune r)) : Int)) = true)) ∧ (true = true)) ∧ (decide (spIdxByte (sub [(13 : UInt8), (10 : UInt8)] (Int.toNat (IntKind.wrap IntKind.i64 (IntKind.wrap IntKind.i64 ((↑(List.length (spRune r)) : Int) - (1 : Int)) + (1 : Int)))) (2 - Int.toNat (IntKind.wrap IntKind.i64 (IntKind.wrap IntKind.i64 ((↑(List.length (spRune r)) : Int) - (1 : Int)) + (1 : Int))))) (↑(UInt8.toNat (List.getD (spRune r) (Int.toNat (IntKind.wrap IntKind.i64 ((↑(List.length (spRune r)) : Int) - (1 : Int)))) (0 : UInt8))) : Int) < (0 : Int)) = true)) := by unfold Path; kernel_rfl
theorem c112_TFFFF (r : Int) :
 Path (runCallB Tryz.prog PD 100 112 [AV.str [(13 : UInt8), (10 : UInt8)], AV.int IntKind.i32 r] (st0 [] ([pT, pF, pF, pF, pF]))) 0 [] (SL.mk [] [] 0) (Out.ret (AV.int IntKind.i64 (Int.negSucc (0))))
 ((((((True ∧ (decide ((0 : Int) ≤ r) = true)) ∧ (decide (r < (128 : Int)) = false)) ∧ ((r == (65533 : Int)) = false)) ∧ (true = true)) ∧ ((!spValid r) = false)) ∧ (decide (IntKind.wrap IntKind.i64 ((↑(List.length (spRune r)) : Int) - (1 : Int)) < (2 : Int)) = false)) := by unfold Path; kernel_rfl
def spCrlf (r : Int) : Int := bif decide (r < 128) then spIdxByte [13, 10] (IntKind.wrap IntKind.u8 r) else -1
theorem rune_two {r : Int} (h0 : 128 ≤ r) (h1 : r < 2048) : spRune r = [UInt8.ofNat (192 + r.toNat / 64), UInt8.ofNat (128 + r.toNat % 64)] := by
  unfold spRune Utf8.encode
  have hv : Utf8.valid r = true := by unfold Utf8.valid; simp; omega
  simp only [hv, if_true]
  rw [if_neg (by omega), if_pos (by omega)]
theorem rune_more {r : Int} (h0 : 2048 ≤ r) : 3 ≤ (spRune r).length := by
  unfold spRune Utf8.encode
  by_cases hv : Utf8.valid r = true
  · simp only [hv, if_true]
    rw [if_neg (by omega), if_neg (by omega)]
    split <;> simp
  · simp only [hv]
    simp [Utf8.runeError]
theorem rune_le {r : Int} : (spRune r).length ≤ 4 := by
  unfold spRune Utf8.encode
  simp only []
  repeat' split
  all_goals simp [ByteArray.size]
def q112 : Entry := fun args hp nx => match args with
  | [.str s, .int .i32 r] => some (decide (s = [13, 10] ∧ 0 ≤ r), .int .i64 (spCrlf r), [])
  | _ => none
theorem q112_ok : EntryOK Tryz.prog 112 q112 := by
  intro args hp nx c v bs h hc ρ w hs hi
  unfold q112 at h
  split at h
  · rename_i s r
    cases h
    obtain ⟨h1, h2⟩ := of_decide_eq_true hc
    subst h1
    refine entry_pure hs rfl ?_
    have hE : HSim ρ (addBlks .e 0 []) ([] : List Blk).length w := HSim.ins hs.gw (fun i blk hi => by simp at hi)
    unfold spCrlf
    by_cases a1 : r < 128
    · rw [decide_eq_true a1]
      exact calls_pureB PD_ok (c112_TT r) ⟨⟨⟨trivial, decide_eq_true h2⟩, decide_eq_true a1⟩, rfl⟩ hE rfl rfl rfl
    · rw [decide_eq_false a1]
      by_cases a2 : r = 65533
      · exact calls_pureB PD_ok (c112_TFTEEEEE r) ⟨⟨⟨trivial, decide_eq_true h2⟩, decide_eq_false a1⟩, by simp [a2]⟩ hE rfl rfl rfl
      · have a2' : (r == 65533) = false := by simp [a2]
        cases hv : spValid r with
        | false => exact calls_pureB PD_ok (c112_TFFT r) ⟨⟨⟨⟨⟨trivial, decide_eq_true h2⟩, decide_eq_false a1⟩, a2'⟩, rfl⟩, by rw [hv]; rfl⟩ hE rfl rfl rfl
        | true =>
          by_cases a3 : r < 2048
          · have e := rune_two (by omega) a3
            have hlen : (List.length (spRune r) : Int) = 2 := by rw [e]; rfl
            have hw1 : IntKind.wrap IntKind.i64 ((List.length (spRune r) : Int) - 1) = 1 := by rw [hlen]; rw [IntKind.wrap_i64]; omega
            have hw2 : IntKind.wrap IntKind.i64 (IntKind.wrap IntKind.i64 ((List.length (spRune r) : Int) - 1) + 1) = 2 := by rw [hw1]; rw [IntKind.wrap_i64]; omega
            have hb : (List.getD (spRune r) 1 0).toNat = 128 + r.toNat % 64 := by rw [e]; simp; omega
            refine calls_pureB PD_ok (c112_TFFFTTT r) ?_ hE rfl rfl rfl
            have hw3 : IntKind.wrap IntKind.i64 ((1 : Int) + 1) = 2 := by rw [IntKind.wrap_i64]; omega
            have hw4 : IntKind.wrap IntKind.i64 ((2 : Int) - 1) = 1 := by rw [IntKind.wrap_i64]; omega
            simp only [hlen, hw4, hw3]
            refine ⟨⟨⟨⟨⟨⟨⟨⟨⟨⟨⟨⟨⟨trivial, decide_eq_true h2⟩, decide_eq_false a1⟩, a2'⟩, (by first | rfl | trivial)⟩, by rw [hv]; rfl⟩, by decide⟩, by decide⟩, by decide⟩, ?_⟩, by decide⟩, by decide⟩, (by first | rfl | trivial)⟩, ?_⟩
            · show (!((List.getD [(13 : UInt8), 10] 1 0).toNat : Int) == ((List.getD (spRune r) 1 0).toNat : Int)) = true
              rw [hb]
              simp
              omega
            · simp [sub, spIdxByte, Lib.indexByte]
          · have h3 := rune_more (r := r) (by omega)
            have h4 := rune_le (r := r)
            exact calls_pureB PD_ok (c112_TFFFF r) ⟨⟨⟨⟨⟨⟨trivial, decide_eq_true h2⟩, decide_eq_false a1⟩, a2'⟩, rfl⟩, by rw [hv]; rfl⟩, decide_eq_false (by rw [IntKind.wrap_i64]; omega)⟩ hE rfl rfl rfl
  · cases h
def PE : Prims := addP noPrims 112 q112
theorem PE_ok : PrimsOK Tryz.prog PE := addP_ok (noPrims_ok _) q112_ok
def b86I (s : List UInt8) (p : Nat) : SL := ⟨[(0, .str s), (1, .str [13, 10]), (45, .ptr ⟨0, 0, 0⟩)], [(0, .siter s p)], 1⟩
theorem b86_TT (s : List UInt8) (p : Nat) :
 Path (run Tryz.prog PE 100 (lbody Tryz.prog 86 1) (SL.mp 55 ([pT, pT]) (b86I s p))) 1 [] (SL.mk [(4, AV.int IntKind.i64 (↑p : Int))] [] 1) (Ex.ret)
 (((True ∧ (decide (p < List.length s) = true)) ∧ (decide ([(13 : UInt8), (10 : UInt8)] = [(13 : UInt8), (10 : UInt8)] ∧ (0 : Int) ≤ (↑(Prod.fst (decodeAt s p)) : Int)) = true)) ∧ (decide (spCrlf (↑(Prod.fst (decodeAt s p)) : Int) ≥ (0 : Int)) = true)) := by unfold Path; kernel_rfl
theorem b86_TF (s : List UInt8) (p : Nat) :
 Path (run Tryz.prog PE 100 (lbody Tryz.prog 86 1) (SL.mp 55 ([pT, pF]) (b86I s p))) 1 [] (b86I (s) (p + Prod.snd (decodeAt s p))) (Ex.normal)
 (((True ∧ (decide (p < List.length s) = true)) ∧ (decide ([(13 : UInt8), (10 : UInt8)] = [(13 : UInt8), (10 : UInt8)] ∧ (0 : Int) ≤ (↑(Prod.fst (decodeAt s p)) : Int)) = true)) ∧ (decide (spCrlf (↑(Prod.fst (decodeAt s p)) : Int) ≥ (0 : Int)) = false)) := by unfold Path; kernel_rfl
theorem b86_F (s : List UInt8) (p : Nat) :
 Path (run Tryz.prog PE 100 (lbody Tryz.prog 86 1) (SL.mp 55 ([pF]) (b86I s p))) 1 [] (SL.mk [] [] 1) (Ex.exit 2)
 (True ∧ (decide (p < List.length s) = false)) := by unfold Path; kernel_rfl
theorem c86_EEFL (s : List UInt8) (j : Nat) :
 Path (runCallB Tryz.prog PE 100 86 [AV.str s, AV.str [(13 : UInt8), (10 : UInt8)]] (st0 [] ([PI.ev 1, PI.ev 1, pF, PI.loop (b86I s 0) Ex.ret (SL.mk [(4, AV.int IntKind.i64 (↑j : Int))] [] 1)]))) 0 [] (SL.mk [] [] 0) (Out.ret (AV.int IntKind.i64 (↑j : Int)))
 ((True ∧ (decide ((↑(List.length s) : Int) > (8 : Int)) = false)) ∧ (LoopOK Tryz.prog (lbody Tryz.prog 86 1) (55) (SL.mk [(0, AV.str s), (1, AV.str [(13 : UInt8), (10 : UInt8)]), (45, AV.ptr (Loc.mk 0 0 0))] [(0, Blk.siter s 0)] 1) Ex.ret (SL.mk [(4, AV.int IntKind.i64 (↑j : Int))] [] 1))) := by unfold Path; kernel_rfl
theorem c86_EEFL2 (s : List UInt8) (j : Nat) :
 Path (runCallB Tryz.prog PE 100 86 [AV.str s, AV.str [(13 : UInt8), (10 : UInt8)]] (st0 [] ([PI.ev 1, PI.ev 1, pF, PI.loop (b86I s 0) (Ex.exit 2) (SL.mk [] [] 1)]))) 0 [] (SL.mk [] [] 0) (Out.ret (AV.int IntKind.i64 (Int.negSucc (0))))
 ((True ∧ (decide ((↑(List.length s) : Int) > (8 : Int)) = false)) ∧ (LoopOK Tryz.prog (lbody Tryz.prog 86 1) (55) (SL.mk [(0, AV.str s), (1, AV.str [(13 : UInt8), (10 : UInt8)]), (45, AV.ptr (Loc.mk 0 0 0))] [(0, Blk.siter s 0)] 1) (Ex.exit 2) (SL.mk [] [] 1))) := by unfold Path; kernel_rfl
def isCrlf (c : UInt8) : Bool := c == 13 || c == 10
theorem crlf_byte (c : UInt8) (h : c.toNat < 128) : decide (spCrlf (c.toNat : Int) ≥ 0) = isCrlf c := by
  unfold spCrlf spIdxByte
  rw [decide_eq_true (by omega : (c.toNat : Int) < 128), cond_true]
  have e : (IntKind.wrap IntKind.u8 (c.toNat : Int)).toNat.toUInt8 = c := by
    rw [IntKind.wrap_u8]
    have : ((c.toNat : Int) % 256).toNat = c.toNat := by omega
    rw [this]; simp
  rw [e]
  unfold isCrlf
  by_cases h1 : c = 13
  · subst h1; rfl
  · by_cases h2 : c = 10
    · subst h2; rfl
    · have n1 : ((13 : UInt8) == c) = false := by simp; exact fun h => h1 h.symm
      have n2 : ((10 : UInt8) == c) = false := by simp; exact fun h => h2 h.symm
      simp [Lib.indexByte, n1, n2, h1, h2]
theorem rune_crlf {s : List UInt8} {k : Nat} (h : k < s.length) : decide (spCrlf ((decodeAt s k).1 : Int) ≥ 0) = isCrlf s[k] ∧ ∀ j (hj : j < s.length), k ≤ j → isCrlf s[j] = true → j ≠ k → k + (decodeAt s k).2 ≤ j := by
  rcases decode_cases s k h with ⟨e1, e2⟩ | ⟨e1, e2, e3, e4, e5, e6⟩
  · rw [e2]; exact ⟨crlf_byte _ e1, fun j hj h1 _ h2 => by show k + 1 ≤ j; omega⟩
  · have hb : isCrlf s[k] = false := by
      unfold isCrlf
      have n1 : s[k] ≠ 13 := fun h => by rw [h] at e1; exact absurd e1 (by decide)
      have n2 : s[k] ≠ 10 := fun h => by rw [h] at e1; exact absurd e1 (by decide)
      simp [n1, n2]
    refine ⟨?_, fun j hj h1 h2 _ => ?_⟩
    · rw [hb]; unfold spCrlf; rw [decide_eq_false (show ¬ (((decodeAt s k).1 : Int) < 128) by omega)]; rfl
    · rcases Nat.lt_or_ge j (k + (decodeAt s k).2) with h' | h'
      · have := e6 j hj h1 h'
        unfold isCrlf at h2
        simp only [Bool.or_eq_true, beq_iff_eq] at h2
        rcases h2 with h2 | h2 <;> rw [h2] at this <;> exact absurd this (by decide)
      · exact h'
theorem step_pos {s : List UInt8} {k : Nat} (h : k < s.length) : 1 ≤ (decodeAt s k).2 ∧ k + (decodeAt s k).2 ≤ s.length := by
  rcases decode_cases s k h with ⟨e1, e2⟩ | ⟨e1, e2, e3, e4, e5, e6⟩
  · rw [e2]; exact ⟨Nat.le_refl _, h⟩
  · exact ⟨e4, e5⟩
theorem crlf_some {s : List UInt8} {j : Nat} (h : firstAt isCrlf s = some j) : LoopOK Tryz.prog (lbody Tryz.prog 86 1) 55 (b86I s 0) .ret ⟨[(4, .int .i64 (j : Int))], [], 1⟩ := by
  obtain ⟨hj, h2, h3⟩ := firstAt_some h
  refine loop_rule (E := b86I s 0) (I := fun k : Nat => b86I s k) (pre := fun k => k ≤ j) (μ := fun k => j - k) _ _ rfl (fun ρ => by simp [Ex.conc]) ?_ (x0 := 0) (pick := []) (Nat.zero_le _) ⟨by kernel_rfl, map_fst_snd (by kernel_rfl)⟩
  intro k hk
  have hkl : k < s.length := by omega
  obtain ⟨g1, g2⟩ := rune_crlf hkl
  by_cases hkj : k = j
  · right
    subst hkj
    exact body_by PE_ok (b86_TT s k) rfl ⟨⟨⟨trivial, decide_eq_true hkl⟩, decide_eq_true ⟨rfl, by omega⟩⟩, by rw [g1]; exact h2⟩ rfl
  · left
    have := g2 j hj hk h2 (Ne.symm hkj)
    have := (step_pos hkl).1
    exact ⟨k + (decodeAt s k).2, by omega, by omega, body_by PE_ok (b86_TF s k) rfl ⟨⟨⟨trivial, decide_eq_true hkl⟩, decide_eq_true ⟨rfl, by omega⟩⟩, by rw [g1]; exact h3 k (by omega)⟩ rfl⟩
theorem crlf_none {s : List UInt8} (h : firstAt isCrlf s = none) : LoopOK Tryz.prog (lbody Tryz.prog 86 1) 55 (b86I s 0) (.exit 2) ⟨[], [], 1⟩ := by
  have h3 := firstAt_none h
  refine loop_rule (E := b86I s 0) (I := fun k : Nat => b86I s k) (pre := fun k => k ≤ s.length) (μ := fun k => s.length - k) _ _ rfl (fun ρ => by simp [Ex.conc]) ?_ (x0 := 0) (pick := []) (Nat.zero_le _) ⟨by kernel_rfl, map_fst_snd (by kernel_rfl)⟩
  intro k hk
  by_cases hkl : k < s.length
  · left
    obtain ⟨g1, g2⟩ := rune_crlf hkl
    obtain ⟨p1, p2⟩ := step_pos hkl
    exact ⟨k + (decodeAt s k).2, by omega, by omega, body_by PE_ok (b86_TF s k) rfl ⟨⟨⟨trivial, decide_eq_true hkl⟩, decide_eq_true ⟨rfl, by omega⟩⟩, by rw [g1]; exact h3 k hkl⟩ rfl⟩
  · right
    exact body_by PE_ok (b86_F s k) rfl ⟨trivial, decide_eq_false hkl⟩ rfl
def spIdxCrlf (s : List UInt8) : Int := match firstAt isCrlf s with
  | some j => j
  | none => -1
theorem indexAny_crlf : ∀ s : List UInt8, Lib.indexAny s [13, 10] = spIdxCrlf s
  | [] => rfl
  | c :: s => by
    have ih := indexAny_crlf s
    have hcons : firstAt isCrlf (c :: s) = bif isCrlf c then some 0 else (firstAt isCrlf s).map (· + 1) := rfl
    have hc : [(13 : UInt8), 10].contains c = isCrlf c := by simp [isCrlf, List.contains_cons]; rfl
    rw [Lib.indexAny, ih, hc]
    unfold spIdxCrlf
    rw [hcons]
    cases isCrlf c with
    | true => rfl
    | false =>
      cases hs : firstAt isCrlf s with
      | none => rfl
      | some j =>
        have : ((j : Int) == -1) = false := by simp
        simp only [Bool.false_eq_true, if_false, cond_false, Option.map_some, this]
        simp
def q86 : Entry := fun args hp nx => match args with
  | [.str s, .str t] => some (decide (t = [13, 10] ∧ s.length < 4294967281), .int .i64 (spIdxCrlf s), [])
  | _ => none
theorem q86_ok : EntryOK Tryz.prog 86 q86 := by
  intro args hp nx c v bs h hc ρ w hs hi
  unfold q86 at h
  split at h
  · rename_i s t
    cases h
    obtain ⟨h1, h2⟩ := of_decide_eq_true hc
    subst h1
    refine entry_pure hs rfl ?_
    by_cases h8 : 8 < s.length
    · have hz : ∀ w, (zeroValue 140).run Tryz.prog w = .ok (.agg (Array.replicate 256 (.bool false))) w := (zero_of_info (by kernel_rfl : (Tryz.prog.info? 140).map (fun i => (i.zero, i.size)) = some (some (.agg (Array.replicate 256 (.bool false))), 256))).1
      refine (Tryz.strings_IndexAny_long hz ⟨s.toArray⟩ ⟨#[13, 10]⟩ w (by decide) (by rw [strSize]; exact h8) (by rw [strSize]; exact h2) (by decide) (fun j b hb => ?_)).mono fun e w' hq => ?_
      · match j, hb with
        | 0, hb => simp at hb; subst hb; decide
        | 1, hb => simp at hb; subst hb; decide
        | j + 2, hb => simp at hb
      · obtain ⟨rfl, rfl⟩ := hq
        refine ⟨?_, ext_trans (ext_alloc _ _) (ext_alloc _ _)⟩
        show Ending.returned (.int .i64 (Lib.indexAny s [13, 10])) = _
        rw [indexAny_crlf]; rfl
    · have hE : HSim ρ (addBlks .e 0 []) ([] : List Blk).length w := HSim.ins hs.gw (fun i blk hi => by simp at hi)
      unfold spIdxCrlf
      cases hf : firstAt isCrlf s with
      | some j => exact calls_pureB PE_ok (c86_EEFL s j) ⟨⟨trivial, decide_eq_false (by omega)⟩, crlf_some hf⟩ hE rfl rfl rfl
      | none => exact calls_pureB PE_ok (c86_EEFL2 s 0) ⟨⟨trivial, decide_eq_false (by omega)⟩, crlf_none hf⟩ hE rfl rfl rfl
  · cases h
def PF : Prims := addP noPrims 86 q86
theorem PF_ok : PrimsOK Tryz.prog PF := addP_ok (noPrims_ok _) q86_ok
theorem c58_ (s : List UInt8) :
 Path (runCallB Tryz.prog PF 100 58 [AV.str s, AV.str [(13 : UInt8), (10 : UInt8)]] (st0 [] ([]))) 0 [] (SL.mk [] [] 0) (Out.ret (AV.bool (decide (spIdxCrlf s ≥ (0 : Int)))))
 (True ∧ (decide ([(13 : UInt8), (10 : UInt8)] = [(13 : UInt8), (10 : UInt8)] ∧ List.length s < 4294967281) = true)) := by unfold Path; kernel_rfl
def spBroken (s : List UInt8) : Bool := s.any isCrlf
theorem broken_eq (s : List UInt8) : decide (spIdxCrlf s ≥ 0) = spBroken s := by
  unfold spIdxCrlf spBroken
  cases hf : firstAt isCrlf s with
  | some j =>
    obtain ⟨h1, h2, _⟩ := firstAt_some hf
    have : s.any isCrlf = true := List.any_eq_true.2 ⟨s[j], List.getElem_mem h1, h2⟩
    rw [this]; exact decide_eq_true (by show (j : Int) ≥ 0; omega)
  | none =>
    have h3 := firstAt_none hf
    have : s.any isCrlf = false := by
      rw [List.any_eq_false]
      intro c hc
      obtain ⟨k, hk, rfl⟩ := List.mem_iff_getElem.1 hc
      rw [h3 k hk]; simp
    rw [this]; rfl
def q58 : Entry := fun args hp nx => match args with
  | [.str s, .str t] => some (decide (t = [13, 10] ∧ s.length < 4294967281), .bool (spBroken s), [])
  | _ => none
theorem q58_ok : EntryOK Tryz.prog 58 q58 := by
  intro args hp nx c v bs h hc ρ w hs hi
  unfold q58 at h
  split at h
  · rename_i s t
    cases h
    obtain ⟨h1, h2⟩ := of_decide_eq_true hc
    subst h1
    refine entry_pure hs rfl ?_
    have hE : HSim ρ (addBlks .e 0 []) ([] : List Blk).length w := HSim.ins hs.gw (fun i blk hi => by simp at hi)
    rw [← broken_eq]
    exact calls_pureB PF_ok (c58_ s) ⟨trivial, decide_eq_true ⟨rfl, h2⟩⟩ hE rfl rfl rfl
  · cases h
end Go.Proofs.YtpdgmgkkbbndfaaGreatDoor

set_option maxRecDepth 100000
namespace Go.Proofs.YtpdgmgkkbbndfaaGreatDoor
open Go Go.Proofs Go.Proofs.YtpdgmgkkbbndfaaGreatDoor.SX
def nameC (c : UInt8) : Bool :=
  (decide ((c.toNat : Int) ≥ 97) && decide ((c.toNat : Int) ≤ 122)) || (decide ((c.toNat : Int) ≥ 65) && decide ((c.toNat : Int) ≤ 90)) || (decide ((c.toNat : Int) ≥ 48) && decide ((c.toNat : Int) ≤ 57)) || ((c.toNat : Int) == 45)
end Go.Proofs.YtpdgmgkkbbndfaaGreatDoor

set_option maxRecDepth 100000
namespace Go.Proofs.YtpdgmgkkbbndfaaGreatDoor
open Go Go.Proofs Go.Proofs.YtpdgmgkkbbndfaaGreatDoor.SX
def b59I (s : List UInt8) (p : Nat) : SL := ⟨[(0, .str s), (7, .ptr ⟨0, 0, 0⟩)], [(0, .siter s p)], 1⟩
def b59k0 (s : List UInt8) (p : Nat) : Bool := decide (p < List.length s)
def b59k1 (s : List UInt8) (p : Nat) : Bool := decide ((↑(Prod.fst (decodeAt s p)) : Int) ≥ (97 : Int))
def b59k2 (s : List UInt8) (p : Nat) : Bool := decide ((↑(Prod.fst (decodeAt s p)) : Int) ≤ (122 : Int))
theorem b59_TTT (s : List UInt8) (p : Nat) :
 Path (run Tryz.prog Pr 100 (lbody Tryz.prog 59 0) (SL.mp 41 ([pT, pT, pT]) (b59I s p))) 1 [] (b59I (s) (p + Prod.snd (decodeAt s p))) (Ex.normal)
 (((True ∧ b59k0 s p = true) ∧ b59k1 s p = true) ∧ b59k2 s p = true) := by unfold Path; kernel_rfl
def b59k3 (s : List UInt8) (p : Nat) : Bool := decide ((↑(Prod.fst (decodeAt s p)) : Int) ≥ (65 : Int))
def b59k4 (s : List UInt8) (p : Nat) : Bool := !decide ((↑(Prod.fst (decodeAt s p)) : Int) ≤ (90 : Int))
def b59k5 (s : List UInt8) (p : Nat) : Bool := decide ((↑(Prod.fst (decodeAt s p)) : Int) < (48 : Int))
def b59k6 (s : List UInt8) (p : Nat) : Bool := !(↑(Prod.fst (decodeAt s p)) : Int) == (45 : Int)
theorem b59_TTFTTTT (s : List UInt8) (p : Nat) :
 Path (run Tryz.prog Pr 100 (lbody Tryz.prog 59 0) (SL.mp 41 ([pT, pT, pF, pT, pT, pT, pT]) (b59I s p))) 1 [] (SL.mk [(2, AV.lit false)] [] 1) (Ex.ret)
 (((((((True ∧ b59k0 s p = true) ∧ b59k1 s p = true) ∧ b59k2 s p = false) ∧ b59k3 s p = true) ∧ b59k4 s p = true) ∧ b59k5 s p = true) ∧ b59k6 s p = true) := by unfold Path; kernel_rfl
theorem b59_TTFTTTF (s : List UInt8) (p : Nat) :
 Path (run Tryz.prog Pr 100 (lbody Tryz.prog 59 0) (SL.mp 41 ([pT, pT, pF, pT, pT, pT, pF]) (b59I s p))) 1 [] (b59I (s) (p + Prod.snd (decodeAt s p))) (Ex.normal)
 (((((((True ∧ b59k0 s p = true) ∧ b59k1 s p = true) ∧ b59k2 s p = false) ∧ b59k3 s p = true) ∧ b59k4 s p = true) ∧ b59k5 s p = true) ∧ b59k6 s p = false) := by unfold Path; kernel_rfl
def b59k7 (s : List UInt8) (p : Nat) : Bool := decide ((↑(Prod.fst (decodeAt s p)) : Int) > (57 : Int))
theorem b59_TTFTTFTT (s : List UInt8) (p : Nat) :
 Path (run Tryz.prog Pr 100 (lbody Tryz.prog 59 0) (SL.mp 41 ([pT, pT, pF, pT, pT, pF, pT, pT]) (b59I s p))) 1 [] (SL.mk [(2, AV.lit false)] [] 1) (Ex.ret)
 ((((((((True ∧ b59k0 s p = true) ∧ b59k1 s p = true) ∧ b59k2 s p = false) ∧ b59k3 s p = true) ∧ b59k4 s p = true) ∧ b59k5 s p = false) ∧ b59k7 s p = true) ∧ b59k6 s p = true) := by unfold Path; kernel_rfl
theorem b59_TTFTTFTF (s : List UInt8) (p : Nat) :
 Path (run Tryz.prog Pr 100 (lbody Tryz.prog 59 0) (SL.mp 41 ([pT, pT, pF, pT, pT, pF, pT, pF]) (b59I s p))) 1 [] (b59I (s) (p + Prod.snd (decodeAt s p))) (Ex.normal)
 ((((((((True ∧ b59k0 s p = true) ∧ b59k1 s p = true) ∧ b59k2 s p = false) ∧ b59k3 s p = true) ∧ b59k4 s p = true) ∧ b59k5 s p = false) ∧ b59k7 s p = true) ∧ b59k6 s p = false) := by unfold Path; kernel_rfl
theorem b59_TTFTTFF (s : List UInt8) (p : Nat) :
 Path (run Tryz.prog Pr 100 (lbody Tryz.prog 59 0) (SL.mp 41 ([pT, pT, pF, pT, pT, pF, pF]) (b59I s p))) 1 [] (b59I (s) (p + Prod.snd (decodeAt s p))) (Ex.normal)
 (((((((True ∧ b59k0 s p = true) ∧ b59k1 s p = true) ∧ b59k2 s p = false) ∧ b59k3 s p = true) ∧ b59k4 s p = true) ∧ b59k5 s p = false) ∧ b59k7 s p = false) := by unfold Path; kernel_rfl
theorem b59_TTFTF (s : List UInt8) (p : Nat) :
 Path (run Tryz.prog Pr 100 (lbody Tryz.prog 59 0) (SL.mp 41 ([pT, pT, pF, pT, pF]) (b59I s p))) 1 [] (b59I (s) (p + Prod.snd (decodeAt s p))) (Ex.normal)
 (((((True ∧ b59k0 s p = true) ∧ b59k1 s p = true) ∧ b59k2 s p = false) ∧ b59k3 s p = true) ∧ b59k4 s p = false) := by unfold Path; kernel_rfl
theorem b59_TTFFTT (s : List UInt8) (p : Nat) :
 Path (run Tryz.prog Pr 100 (lbody Tryz.prog 59 0) (SL.mp 41 ([pT, pT, pF, pF, pT, pT]) (b59I s p))) 1 [] (SL.mk [(2, AV.lit false)] [] 1) (Ex.ret)
 ((((((True ∧ b59k0 s p = true) ∧ b59k1 s p = true) ∧ b59k2 s p = false) ∧ b59k3 s p = false) ∧ b59k5 s p = true) ∧ b59k6 s p = true) := by unfold Path; kernel_rfl
theorem b59_TTFFTF (s : List UInt8) (p : Nat) :
 Path (run Tryz.prog Pr 100 (lbody Tryz.prog 59 0) (SL.mp 41 ([pT, pT, pF, pF, pT, pF]) (b59I s p))) 1 [] (b59I (s) (p + Prod.snd (decodeAt s p))) (Ex.normal)
 ((((((True ∧ b59k0 s p = true) ∧ b59k1 s p = true) ∧ b59k2 s p = false) ∧ b59k3 s p = false) ∧ b59k5 s p = true) ∧ b59k6 s p = false) := by unfold Path; kernel_rfl
theorem b59_TTFFFTT (s : List UInt8) (p : Nat) :
 Path (run Tryz.prog Pr 100 (lbody Tryz.prog 59 0) (SL.mp 41 ([pT, pT, pF, pF, pF, pT, pT]) (b59I s p))) 1 [] (SL.mk [(2, AV.lit false)] [] 1) (Ex.ret)
 (((((((True ∧ b59k0 s p = true) ∧ b59k1 s p = true) ∧ b59k2 s p = false) ∧ b59k3 s p = false) ∧ b59k5 s p = false) ∧ b59k7 s p = true) ∧ b59k6 s p = true) := by unfold Path; kernel_rfl
theorem b59_TTFFFTF (s : List UInt8) (p : Nat) :
 Path (run Tryz.prog Pr 100 (lbody Tryz.prog 59 0) (SL.mp 41 ([pT, pT, pF, pF, pF, pT, pF]) (b59I s p))) 1 [] (b59I (s) (p + Prod.snd (decodeAt s p))) (Ex.normal)
 (((((((True ∧ b59k0 s p = true) ∧ b59k1 s p = true) ∧ b59k2 s p = false) ∧ b59k3 s p = false) ∧ b59k5 s p = false) ∧ b59k7 s p = true) ∧ b59k6 s p = false) := by unfold Path; kernel_rfl
theorem b59_TTFFFF (s : List UInt8) (p : Nat) :
 Path (run Tryz.prog Pr 100 (lbody Tryz.prog 59 0) (SL.mp 41 ([pT, pT, pF, pF, pF, pF]) (b59I s p))) 1 [] (b59I (s) (p + Prod.snd (decodeAt s p))) (Ex.normal)
 ((((((True ∧ b59k0 s p = true) ∧ b59k1 s p = true) ∧ b59k2 s p = false) ∧ b59k3 s p = false) ∧ b59k5 s p = false) ∧ b59k7 s p = false) := by unfold Path; kernel_rfl
theorem b59_TFTTTT (s : List UInt8) (p : Nat) :
 Path (run Tryz.prog Pr 100 (lbody Tryz.prog 59 0) (SL.mp 41 ([pT, pF, pT, pT, pT, pT]) (b59I s p))) 1 [] (SL.mk [(2, AV.lit false)] [] 1) (Ex.ret)
 ((((((True ∧ b59k0 s p = true) ∧ b59k1 s p = false) ∧ b59k3 s p = true) ∧ b59k4 s p = true) ∧ b59k5 s p = true) ∧ b59k6 s p = true) := by unfold Path; kernel_rfl
theorem b59_TFTTTF (s : List UInt8) (p : Nat) :
 Path (run Tryz.prog Pr 100 (lbody Tryz.prog 59 0) (SL.mp 41 ([pT, pF, pT, pT, pT, pF]) (b59I s p))) 1 [] (b59I (s) (p + Prod.snd (decodeAt s p))) (Ex.normal)
 ((((((True ∧ b59k0 s p = true) ∧ b59k1 s p = false) ∧ b59k3 s p = true) ∧ b59k4 s p = true) ∧ b59k5 s p = true) ∧ b59k6 s p = false) := by unfold Path; kernel_rfl
theorem b59_TFTTFTT (s : List UInt8) (p : Nat) :
 Path (run Tryz.prog Pr 100 (lbody Tryz.prog 59 0) (SL.mp 41 ([pT, pF, pT, pT, pF, pT, pT]) (b59I s p))) 1 [] (SL.mk [(2, AV.lit false)] [] 1) (Ex.ret)
 (((((((True ∧ b59k0 s p = true) ∧ b59k1 s p = false) ∧ b59k3 s p = true) ∧ b59k4 s p = true) ∧ b59k5 s p = false) ∧ b59k7 s p = true) ∧ b59k6 s p = true) := by unfold Path; kernel_rfl
theorem b59_TFTTFTF (s : List UInt8) (p : Nat) :
 Path (run Tryz.prog Pr 100 (lbody Tryz.prog 59 0) (SL.mp 41 ([pT, pF, pT, pT, pF, pT, pF]) (b59I s p))) 1 [] (b59I (s) (p + Prod.snd (decodeAt s p))) (Ex.normal)
 (((((((True ∧ b59k0 s p = true) ∧ b59k1 s p = false) ∧ b59k3 s p = true) ∧ b59k4 s p = true) ∧ b59k5 s p = false) ∧ b59k7 s p = true) ∧ b59k6 s p = false) := by unfold Path; kernel_rfl
theorem b59_TFTTFF (s : List UInt8) (p : Nat) :
 Path (run Tryz.prog Pr 100 (lbody Tryz.prog 59 0) (SL.mp 41 ([pT, pF, pT, pT, pF, pF]) (b59I s p))) 1 [] (b59I (s) (p + Prod.snd (decodeAt s p))) (Ex.normal)
 ((((((True ∧ b59k0 s p = true) ∧ b59k1 s p = false) ∧ b59k3 s p = true) ∧ b59k4 s p = true) ∧ b59k5 s p = false) ∧ b59k7 s p = false) := by unfold Path; kernel_rfl
theorem b59_TFTF (s : List UInt8) (p : Nat) :
 Path (run Tryz.prog Pr 100 (lbody Tryz.prog 59 0) (SL.mp 41 ([pT, pF, pT, pF]) (b59I s p))) 1 [] (b59I (s) (p + Prod.snd (decodeAt s p))) (Ex.normal)
 ((((True ∧ b59k0 s p = true) ∧ b59k1 s p = false) ∧ b59k3 s p = true) ∧ b59k4 s p = false) := by unfold Path; kernel_rfl
theorem b59_TFFTT (s : List UInt8) (p : Nat) :
 Path (run Tryz.prog Pr 100 (lbody Tryz.prog 59 0) (SL.mp 41 ([pT, pF, pF, pT, pT]) (b59I s p))) 1 [] (SL.mk [(2, AV.lit false)] [] 1) (Ex.ret)
 (((((True ∧ b59k0 s p = true) ∧ b59k1 s p = false) ∧ b59k3 s p = false) ∧ b59k5 s p = true) ∧ b59k6 s p = true) := by unfold Path; kernel_rfl
theorem b59_TFFTF (s : List UInt8) (p : Nat) :
 Path (run Tryz.prog Pr 100 (lbody Tryz.prog 59 0) (SL.mp 41 ([pT, pF, pF, pT, pF]) (b59I s p))) 1 [] (b59I (s) (p + Prod.snd (decodeAt s p))) (Ex.normal)
 (((((True ∧ b59k0 s p = true) ∧ b59k1 s p = false) ∧ b59k3 s p = false) ∧ b59k5 s p = true) ∧ b59k6 s p = false) := by unfold Path; kernel_rfl
theorem b59_TFFFTT (s : List UInt8) (p : Nat) :
 Path (run Tryz.prog Pr 100 (lbody Tryz.prog 59 0) (SL.mp 41 ([pT, pF, pF, pF, pT, pT]) (b59I s p))) 1 [] (SL.mk [(2, AV.lit false)] [] 1) (Ex.ret)
 ((((((True ∧ b59k0 s p = true) ∧ b59k1 s p = false) ∧ b59k3 s p = false) ∧ b59k5 s p = false) ∧ b59k7 s p = true) ∧ b59k6 s p = true) := by unfold Path; kernel_rfl
theorem b59_TFFFTF (s : List UInt8) (p : Nat) :
 Path (run Tryz.prog Pr 100 (lbody Tryz.prog 59 0) (SL.mp 41 ([pT, pF, pF, pF, pT, pF]) (b59I s p))) 1 [] (b59I (s) (p + Prod.snd (decodeAt s p))) (Ex.normal)
 ((((((True ∧ b59k0 s p = true) ∧ b59k1 s p = false) ∧ b59k3 s p = false) ∧ b59k5 s p = false) ∧ b59k7 s p = true) ∧ b59k6 s p = false) := by unfold Path; kernel_rfl
theorem b59_TFFFF (s : List UInt8) (p : Nat) :
 Path (run Tryz.prog Pr 100 (lbody Tryz.prog 59 0) (SL.mp 41 ([pT, pF, pF, pF, pF]) (b59I s p))) 1 [] (b59I (s) (p + Prod.snd (decodeAt s p))) (Ex.normal)
 (((((True ∧ b59k0 s p = true) ∧ b59k1 s p = false) ∧ b59k3 s p = false) ∧ b59k5 s p = false) ∧ b59k7 s p = false) := by unfold Path; kernel_rfl
theorem b59_F (s : List UInt8) (p : Nat) :
 Path (run Tryz.prog Pr 100 (lbody Tryz.prog 59 0) (SL.mp 41 ([pF]) (b59I s p))) 1 [] (SL.mk [(0, AV.str s)] [] 1) (Ex.exit 0)
 (True ∧ b59k0 s p = false) := by unfold Path; kernel_rfl
def b59_cls (s : List UInt8) (p : Nat) : Nat := (bif b59k0 s p then (bif b59k1 s p then (bif b59k2 s p then 0 else (bif b59k3 s p then (bif b59k4 s p then (bif b59k5 s p then (bif b59k6 s p then 1 else 0) else (bif b59k7 s p then (bif b59k6 s p then 1 else 0) else 0)) else 0) else (bif b59k5 s p then (bif b59k6 s p then 1 else 0) else (bif b59k7 s p then (bif b59k6 s p then 1 else 0) else 0)))) else (bif b59k3 s p then (bif b59k4 s p then (bif b59k5 s p then (bif b59k6 s p then 1 else 0) else (bif b59k7 s p then (bif b59k6 s p then 1 else 0) else 0)) else 0) else (bif b59k5 s p then (bif b59k6 s p then 1 else 0) else (bif b59k7 s p then (bif b59k6 s p then 1 else 0) else 0)))) else 2)
theorem b59_c0 (s : List UInt8) (p : Nat) (h : b59_cls s p = 0)  : BodyOK Tryz.prog (lbody Tryz.prog 59 0) 41 1 (b59I s p) (Ex.normal) (b59I (s) (p + Prod.snd (decodeAt s p))) := by
  unfold b59_cls at h
  cases q1 : b59k0 s p with
  | true =>
    rw [q1, cond_true] at h
    cases q2 : b59k1 s p with
    | true =>
      rw [q2, cond_true] at h
      cases q3 : b59k2 s p with
      | true =>
        rw [q3, cond_true] at h
        exact body_by Pr_ok (b59_TTT s p) rfl (by simp only [q1, q2, q3, eq_self, and_true, true_and]) rfl
      | false =>
        rw [q3, cond_false] at h
        cases q4 : b59k3 s p with
        | true =>
          rw [q4, cond_true] at h
          cases q5 : b59k4 s p with
          | true =>
            rw [q5, cond_true] at h
            cases q6 : b59k5 s p with
            | true =>
              rw [q6, cond_true] at h
              cases q7 : b59k6 s p with
              | true =>
                rw [q7, cond_true] at h
                exact absurd h (by decide)
              | false =>
                rw [q7, cond_false] at h
                exact body_by Pr_ok (b59_TTFTTTF s p) rfl (by simp only [q1, q2, q3, q4, q5, q6, q7, eq_self, and_true, true_and]) rfl
            | false =>
              rw [q6, cond_false] at h
              cases q7 : b59k7 s p with
              | true =>
                rw [q7, cond_true] at h
                cases q8 : b59k6 s p with
                | true =>
                  rw [q8, cond_true] at h
                  exact absurd h (by decide)
                | false =>
                  rw [q8, cond_false] at h
                  exact body_by Pr_ok (b59_TTFTTFTF s p) rfl (by simp only [q1, q2, q3, q4, q5, q6, q7, q8, eq_self, and_true, true_and]) rfl
              | false =>
                rw [q7, cond_false] at h
                exact body_by Pr_ok (b59_TTFTTFF s p) rfl (by simp only [q1, q2, q3, q4, q5, q6, q7, eq_self, and_true, true_and]) rfl
          | false =>
            rw [q5, cond_false] at h
            exact body_by Pr_ok (b59_TTFTF s p) rfl (by simp only [q1, q2, q3, q4, q5, eq_self, and_true, true_and]) rfl
        | false =>
          rw [q4, cond_false] at h
          cases q5 : b59k5 s p with
          | true =>
            rw [q5, cond_true] at h
            cases q6 : b59k6 s p with
            | true =>
              rw [q6, cond_true] at h
              exact absurd h (by decide)
            | false =>
              rw [q6, cond_false] at h
              exact body_by Pr_ok (b59_TTFFTF s p) rfl (by simp only [q1, q2, q3, q4, q5, q6, eq_self, and_true, true_and]) rfl
          | false =>
            rw [q5, cond_false] at h
            cases q6 : b59k7 s p with
            | true =>
              rw [q6, cond_true] at h
              cases q7 : b59k6 s p with
              | true =>
                rw [q7, cond_true] at h
                exact absurd h (by decide)
              | false =>
                rw [q7, cond_false] at h
                exact body_by Pr_ok (b59_TTFFFTF s p) rfl (by simp only [q1, q2, q3, q4, q5, q6, q7, eq_self, and_true, true_and]) rfl
            | false =>
              rw [q6, cond_false] at h
              exact body_by Pr_ok (b59_TTFFFF s p) rfl (by simp only [q1, q2, q3, q4, q5, q6, eq_self, and_true, true_and]) rfl
    | false =>
      rw [q2, cond_false] at h
      cases q3 : b59k3 s p with
      | true =>
        rw [q3, cond_true] at h
        cases q4 : b59k4 s p with
        | true =>
          rw [q4, cond_true] at h
          cases q5 : b59k5 s p with
          | true =>
            rw [q5, cond_true] at h
            cases q6 : b59k6 s p with
            | true =>
              rw [q6, cond_true] at h
              exact absurd h (by decide)
            | false =>
              rw [q6, cond_false] at h
              exact body_by Pr_ok (b59_TFTTTF s p) rfl (by simp only [q1, q2, q3, q4, q5, q6, eq_self, and_true, true_and]) rfl
          | false =>
            rw [q5, cond_false] at h
            cases q6 : b59k7 s p with
            | true =>
              rw [q6, cond_true] at h
              cases q7 : b59k6 s p with
              | true =>
                rw [q7, cond_true] at h
                exact absurd h (by decide)
              | false =>
                rw [q7, cond_false] at h
                exact body_by Pr_ok (b59_TFTTFTF s p) rfl (by simp only [q1, q2, q3, q4, q5, q6, q7, eq_self, and_true, true_and]) rfl
            | false =>
              rw [q6, cond_false] at h
              exact body_by Pr_ok (b59_TFTTFF s p) rfl (by simp only [q1, q2, q3, q4, q5, q6, eq_self, and_true, true_and]) rfl
        | false =>
          rw [q4, cond_false] at h
          exact body_by Pr_ok (b59_TFTF s p) rfl (by simp only [q1, q2, q3, q4, eq_self, and_true, true_and]) rfl
      | false =>
        rw [q3, cond_false] at h
        cases q4 : b59k5 s p with
        | true =>
          rw [q4, cond_true] at h
          cases q5 : b59k6 s p with
          | true =>
            rw [q5, cond_true] at h
            exact absurd h (by decide)
          | false =>
            rw [q5, cond_false] at h
            exact body_by Pr_ok (b59_TFFTF s p) rfl (by simp only [q1, q2, q3, q4, q5, eq_self, and_true, true_and]) rfl
        | false =>
          rw [q4, cond_false] at h
          cases q5 : b59k7 s p with
          | true =>
            rw [q5, cond_true] at h
            cases q6 : b59k6 s p with
            | true =>
              rw [q6, cond_true] at h
              exact absurd h (by decide)
            | false =>
              rw [q6, cond_false] at h
              exact body_by Pr_ok (b59_TFFFTF s p) rfl (by simp only [q1, q2, q3, q4, q5, q6, eq_self, and_true, true_and]) rfl
          | false =>
            rw [q5, cond_false] at h
            exact body_by Pr_ok (b59_TFFFF s p) rfl (by simp only [q1, q2, q3, q4, q5, eq_self, and_true, true_and]) rfl
  | false =>
    rw [q1, cond_false] at h
    exact absurd h (by decide)
theorem b59_c1 (s : List UInt8) (p : Nat) (h : b59_cls s p = 1)  : BodyOK Tryz.prog (lbody Tryz.prog 59 0) 41 1 (b59I s p) (Ex.ret) (SL.mk [(2, AV.lit false)] [] 1) := by
  unfold b59_cls at h
  cases q1 : b59k0 s p with
  | true =>
    rw [q1, cond_true] at h
    cases q2 : b59k1 s p with
    | true =>
      rw [q2, cond_true] at h
      cases q3 : b59k2 s p with
      | true =>
        rw [q3, cond_true] at h
        exact absurd h (by decide)
      | false =>
        rw [q3, cond_false] at h
        cases q4 : b59k3 s p with
        | true =>
          rw [q4, cond_true] at h
          cases q5 : b59k4 s p with
          | true =>
            rw [q5, cond_true] at h
            cases q6 : b59k5 s p with
            | true =>
              rw [q6, cond_true] at h
              cases q7 : b59k6 s p with
              | true =>
                rw [q7, cond_true] at h
                exact body_by Pr_ok (b59_TTFTTTT s p) rfl (by simp only [q1, q2, q3, q4, q5, q6, q7, eq_self, and_true, true_and]) rfl
              | false =>
                rw [q7, cond_false] at h
                exact absurd h (by decide)
            | false =>
              rw [q6, cond_false] at h
              cases q7 : b59k7 s p with
              | true =>
                rw [q7, cond_true] at h
                cases q8 : b59k6 s p with
                | true =>
                  rw [q8, cond_true] at h
                  exact body_by Pr_ok (b59_TTFTTFTT s p) rfl (by simp only [q1, q2, q3, q4, q5, q6, q7, q8, eq_self, and_true, true_and]) rfl
                | false =>
                  rw [q8, cond_false] at h
                  exact absurd h (by decide)
              | false =>
                rw [q7, cond_false] at h
                exact absurd h (by decide)
          | false =>
            rw [q5, cond_false] at h
            exact absurd h (by decide)
        | false =>
          rw [q4, cond_false] at h
          cases q5 : b59k5 s p with
          | true =>
            rw [q5, cond_true] at h
            cases q6 : b59k6 s p with
            | true =>
              rw [q6, cond_true] at h
              exact body_by Pr_ok (b59_TTFFTT s p) rfl (by simp only [q1, q2, q3, q4, q5, q6, eq_self, and_true, true_and]) rfl
            | false =>
              rw [q6, cond_false] at h
              exact absurd h (by decide)
          | false =>
            rw [q5, cond_false] at h
            cases q6 : b59k7 s p with
            | true =>
              rw [q6, cond_true] at h
              cases q7 : b59k6 s p with
              | true =>
                rw [q7, cond_true] at h
                exact body_by Pr_ok (b59_TTFFFTT s p) rfl (by simp only [q1, q2, q3, q4, q5, q6, q7, eq_self, and_true, true_and]) rfl
              | false =>
                rw [q7, cond_false] at h
                exact absurd h (by decide)
            | false =>
              rw [q6, cond_false] at h
              exact absurd h (by decide)
    | false =>
      rw [q2, cond_false] at h
      cases q3 : b59k3 s p with
      | true =>
        rw [q3, cond_true] at h
        cases q4 : b59k4 s p with
        | true =>
          rw [q4, cond_true] at h
          cases q5 : b59k5 s p with
          | true =>
            rw [q5, cond_true] at h
            cases q6 : b59k6 s p with
            | true =>
              rw [q6, cond_true] at h
              exact body_by Pr_ok (b59_TFTTTT s p) rfl (by simp only [q1, q2, q3, q4, q5, q6, eq_self, and_true, true_and]) rfl
            | false =>
              rw [q6, cond_false] at h
              exact absurd h (by decide)
          | false =>
            rw [q5, cond_false] at h
            cases q6 : b59k7 s p with
            | true =>
              rw [q6, cond_true] at h
              cases q7 : b59k6 s p with
              | true =>
                rw [q7, cond_true] at h
                exact body_by Pr_ok (b59_TFTTFTT s p) rfl (by simp only [q1, q2, q3, q4, q5, q6, q7, eq_self, and_true, true_and]) rfl
              | false =>
                rw [q7, cond_false] at h
                exact absurd h (by decide)
            | false =>
              rw [q6, cond_false] at h
              exact absurd h (by decide)
        | false =>
          rw [q4, cond_false] at h
          exact absurd h (by decide)
      | false =>
        rw [q3, cond_false] at h
        cases q4 : b59k5 s p with
        | true =>
          rw [q4, cond_true] at h
          cases q5 : b59k6 s p with
          | true =>
            rw [q5, cond_true] at h
            exact body_by Pr_ok (b59_TFFTT s p) rfl (by simp only [q1, q2, q3, q4, q5, eq_self, and_true, true_and]) rfl
          | false =>
            rw [q5, cond_false] at h
            exact absurd h (by decide)
        | false =>
          rw [q4, cond_false] at h
          cases q5 : b59k7 s p with
          | true =>
            rw [q5, cond_true] at h
            cases q6 : b59k6 s p with
            | true =>
              rw [q6, cond_true] at h
              exact body_by Pr_ok (b59_TFFFTT s p) rfl (by simp only [q1, q2, q3, q4, q5, q6, eq_self, and_true, true_and]) rfl
            | false =>
              rw [q6, cond_false] at h
              exact absurd h (by decide)
          | false =>
            rw [q5, cond_false] at h
            exact absurd h (by decide)
  | false =>
    rw [q1, cond_false] at h
    exact absurd h (by decide)
theorem b59_c2 (s : List UInt8) (p : Nat) (h : b59_cls s p = 2)  : BodyOK Tryz.prog (lbody Tryz.prog 59 0) 41 1 (b59I s p) (Ex.exit 0) (SL.mk [(0, AV.str s)] [] 1) := by
  unfold b59_cls at h
  cases q1 : b59k0 s p with
  | true =>
    rw [q1, cond_true] at h
    cases q2 : b59k1 s p with
    | true =>
      rw [q2, cond_true] at h
      cases q3 : b59k2 s p with
      | true =>
        rw [q3, cond_true] at h
        exact absurd h (by decide)
      | false =>
        rw [q3, cond_false] at h
        cases q4 : b59k3 s p with
        | true =>
          rw [q4, cond_true] at h
          cases q5 : b59k4 s p with
          | true =>
            rw [q5, cond_true] at h
            cases q6 : b59k5 s p with
            | true =>
              rw [q6, cond_true] at h
              cases q7 : b59k6 s p with
              | true =>
                rw [q7, cond_true] at h
                exact absurd h (by decide)
              | false =>
                rw [q7, cond_false] at h
                exact absurd h (by decide)
            | false =>
              rw [q6, cond_false] at h
              cases q7 : b59k7 s p with
              | true =>
                rw [q7, cond_true] at h
                cases q8 : b59k6 s p with
                | true =>
                  rw [q8, cond_true] at h
                  exact absurd h (by decide)
                | false =>
                  rw [q8, cond_false] at h
                  exact absurd h (by decide)
              | false =>
                rw [q7, cond_false] at h
                exact absurd h (by decide)
          | false =>
            rw [q5, cond_false] at h
            exact absurd h (by decide)
        | false =>
          rw [q4, cond_false] at h
          cases q5 : b59k5 s p with
          | true =>
            rw [q5, cond_true] at h
            cases q6 : b59k6 s p with
            | true =>
              rw [q6, cond_true] at h
              exact absurd h (by decide)
            | false =>
              rw [q6, cond_false] at h
              exact absurd h (by decide)
          | false =>
            rw [q5, cond_false] at h
            cases q6 : b59k7 s p with
            | true =>
              rw [q6, cond_true] at h
              cases q7 : b59k6 s p with
              | true =>
                rw [q7, cond_true] at h
                exact absurd h (by decide)
              | false =>
                rw [q7, cond_false] at h
                exact absurd h (by decide)
            | false =>
              rw [q6, cond_false] at h
              exact absurd h (by decide)
    | false =>
      rw [q2, cond_false] at h
      cases q3 : b59k3 s p with
      | true =>
        rw [q3, cond_true] at h
        cases q4 : b59k4 s p with
        | true =>
          rw [q4, cond_true] at h
          cases q5 : b59k5 s p with
          | true =>
            rw [q5, cond_true] at h
            cases q6 : b59k6 s p with
            | true =>
              rw [q6, cond_true] at h
              exact absurd h (by decide)
            | false =>
              rw [q6, cond_false] at h
              exact absurd h (by decide)
          | false =>
            rw [q5, cond_false] at h
            cases q6 : b59k7 s p with
            | true =>
              rw [q6, cond_true] at h
              cases q7 : b59k6 s p with
              | true =>
                rw [q7, cond_true] at h
                exact absurd h (by decide)
              | false =>
                rw [q7, cond_false] at h
                exact absurd h (by decide)
            | false =>
              rw [q6, cond_false] at h
              exact absurd h (by decide)
        | false =>
          rw [q4, cond_false] at h
          exact absurd h (by decide)
      | false =>
        rw [q3, cond_false] at h
        cases q4 : b59k5 s p with
        | true =>
          rw [q4, cond_true] at h
          cases q5 : b59k6 s p with
          | true =>
            rw [q5, cond_true] at h
            exact absurd h (by decide)
          | false =>
            rw [q5, cond_false] at h
            exact absurd h (by decide)
        | false =>
          rw [q4, cond_false] at h
          cases q5 : b59k7 s p with
          | true =>
            rw [q5, cond_true] at h
            cases q6 : b59k6 s p with
            | true =>
              rw [q6, cond_true] at h
              exact absurd h (by decide)
            | false =>
              rw [q6, cond_false] at h
              exact absurd h (by decide)
          | false =>
            rw [q5, cond_false] at h
            exact absurd h (by decide)
  | false =>
    rw [q1, cond_false] at h
    exact body_by Pr_ok (b59_F s p) rfl (by simp only [q1, eq_self, and_true, true_and]) rfl
theorem c59_L (s : List UInt8) :
 Path (runCallB Tryz.prog P4 100 59 [AV.str s] (st0 [] ([PI.loop (b59I s 0) Ex.ret (SL.mk [(2, AV.lit false)] [] 1)]))) 0 [] (SL.mk [] [] 0) (Out.ret (AV.lit false))
 (True ∧ (LoopOK Tryz.prog (lbody Tryz.prog 59 0) (41) (SL.mk [(0, AV.str s), (7, AV.ptr (Loc.mk 0 0 0))] [(0, Blk.siter s 0)] 1) Ex.ret (SL.mk [(2, AV.lit false)] [] 1))) := by unfold Path; kernel_rfl
theorem c59_L2 (s : List UInt8) :
 Path (runCallB Tryz.prog P4 100 59 [AV.str s] (st0 [] ([PI.loop (b59I s 0) (Ex.exit 0) (SL.mk [(0, AV.str s)] [] 1)]))) 0 [] (SL.mk [] [] 0) (Out.ret (AV.bool (!(s == []))))
 (True ∧ (LoopOK Tryz.prog (lbody Tryz.prog 59 0) (41) (SL.mk [(0, AV.str s), (7, AV.ptr (Loc.mk 0 0 0))] [(0, Blk.siter s 0)] 1) (Ex.exit 0) (SL.mk [(0, AV.str s)] [] 1))) := by unfold Path; kernel_rfl
def goodR (r : Int) : Bool := (decide (r ≥ 97) && decide (r ≤ 122)) || (decide (r ≥ 65) && decide (r ≤ 90)) || !((decide (r < 48) || decide (r > 57)) && !(r == 45))
theorem b59_cls_eq (s : List UInt8) (p : Nat) (h : p < s.length) : b59_cls s p = bif goodR ((decodeAt s p).1 : Int) then 0 else 1 := by
  unfold b59_cls b59k0 b59k1 b59k2 b59k3 b59k4 b59k5 b59k6 b59k7 goodR
  rw [decide_eq_true h]
  generalize ((decodeAt s p).1 : Int) = r
  cases decide (r ≥ 97) <;> cases decide (r ≤ 122) <;> cases decide (r ≥ 65) <;> cases decide (r ≤ 90) <;> cases decide (r < 48) <;> cases decide (r > 57) <;> cases (r == 45) <;> rfl
theorem goodR_byte (c : UInt8) : goodR (c.toNat : Int) = nameC c := by
  unfold goodR nameC
  rw [Bool.eq_iff_iff]
  simp only [Bool.or_eq_true, Bool.and_eq_true, Bool.not_eq_true', decide_eq_true_eq, Bool.and_eq_false_iff, Bool.or_eq_false_iff, decide_eq_false_iff_not, Bool.not_eq_false', beq_iff_eq]
  constructor <;> intro h <;> omega
theorem goodR_big (r : Nat) (h : 128 ≤ r) : goodR (r : Int) = false := by
  unfold goodR
  have h1 : decide ((r : Int) ≤ 122) = false := decide_eq_false (by omega)
  have h2 : decide ((r : Int) ≤ 90) = false := decide_eq_false (by omega)
  have h3 : decide ((r : Int) > 57) = true := decide_eq_true (by omega)
  have h4 : ((r : Int) == 45) = false := by simp; omega
  rw [h1, h2, h3, h4]; simp
theorem rune_good {s : List UInt8} {k : Nat} (h : k < s.length) : goodR ((decodeAt s k).1 : Int) = nameC s[k] ∧ (nameC s[k] = true → (decodeAt s k).2 = 1) := by
  rcases decode_cases s k h with ⟨e1, e2⟩ | ⟨e1, e2, _⟩
  · rw [e2]; exact ⟨goodR_byte _, fun _ => rfl⟩
  · have hb : nameC s[k] = false := by rw [← goodR_byte]; exact goodR_big _ e1
    rw [goodR_big _ e2, hb]
    exact ⟨rfl, fun h => by cases h⟩
def badC (c : UInt8) : Bool := !nameC c
theorem name_some {s : List UInt8} {j : Nat} (h : firstAt badC s = some j) : LoopOK Tryz.prog (lbody Tryz.prog 59 0) 41 (b59I s 0) .ret ⟨[(2, .lit false)], [], 1⟩ := by
  obtain ⟨hj, h2, h3⟩ := firstAt_some h
  refine loop_rule (E := b59I s 0) (I := fun k : Nat => b59I s k) (pre := fun k => k ≤ j) (μ := fun k => j - k) _ _ rfl (fun ρ => by simp [Ex.conc]) ?_ (x0 := 0) (pick := []) (Nat.zero_le _) ⟨by kernel_rfl, map_fst_snd (by kernel_rfl)⟩
  intro k hk
  have hkl : k < s.length := by omega
  obtain ⟨g1, g2⟩ := rune_good hkl
  by_cases hkj : k = j
  · right
    subst hkj
    have hb : nameC s[k] = false := by simpa [badC] using h2
    exact b59_c1 s k (by rw [b59_cls_eq s k hkl, g1, hb]; rfl)
  · left
    have hg : nameC s[k] = true := by have := h3 k (by omega); simpa [badC] using this
    refine ⟨k + 1, by omega, by omega, (b59_c0 s k (by rw [b59_cls_eq s k hkl, g1, hg]; rfl)).to (by rw [g2 hg])⟩
theorem name_none {s : List UInt8} (h : firstAt badC s = none) : LoopOK Tryz.prog (lbody Tryz.prog 59 0) 41 (b59I s 0) (.exit 0) ⟨[(0, .str s)], [], 1⟩ := by
  have h3 := firstAt_none h
  refine loop_rule (E := b59I s 0) (I := fun k : Nat => b59I s k) (pre := fun k => k ≤ s.length) (μ := fun k => s.length - k) _ _ rfl (fun ρ => by simp [Ex.conc]) ?_ (x0 := 0) (pick := []) (Nat.zero_le _) ⟨by kernel_rfl, map_fst_snd (by kernel_rfl)⟩
  intro k hk
  by_cases hkl : k < s.length
  · left
    obtain ⟨g1, g2⟩ := rune_good hkl
    have hg : nameC s[k] = true := by have := h3 k hkl; simpa [badC] using this
    refine ⟨k + 1, by omega, by omega, (b59_c0 s k (by rw [b59_cls_eq s k hkl, g1, hg]; rfl)).to (by rw [g2 hg])⟩
  · right
    exact b59_c2 s k (by unfold b59_cls b59k0; rw [decide_eq_false hkl]; rfl)
def spIsName (s : List UInt8) : Bool := s.all nameC && !(s == [])
theorem firstAt_all {α : Type} {p : α → Bool} : ∀ {s : List α}, firstAt (fun c => !p c) s = none ↔ s.all p = true
  | [] => by simp [firstAt]
  | c :: s => by
    have ih := firstAt_all (p := p) (s := s)
    unfold firstAt
    cases hc : p c <;> simp [hc, ih]
def q59 : Entry := fun args hp nx => match args with
  | [.str s] => some (true, .bool (spIsName s), [])
  | _ => none
theorem q59_ok : EntryOK Tryz.prog 59 q59 := by
  intro args hp nx c v bs h hc ρ w hs hi
  unfold q59 at h
  split at h
  · rename_i s
    cases h
    refine entry_pure hs rfl ?_
    have hE : HSim ρ (addBlks .e 0 []) ([] : List Blk).length w := HSim.ins hs.gw (fun i blk hi => by simp at hi)
    unfold spIsName
    cases hf : firstAt badC s with
    | some j =>
      have hall : s.all nameC = false := by
        cases h : s.all nameC with
        | false => rfl
        | true => rw [← firstAt_all] at h; unfold badC at hf; rw [h] at hf; cases hf
      rw [hall]
      exact calls_pureB P4_ok (c59_L s) ⟨trivial, name_some hf⟩ hE rfl rfl rfl
    | none =>
      have hall : s.all nameC = true := firstAt_all.1 hf
      rw [hall, Bool.true_and]
      exact calls_pureB P4_ok (c59_L2 s) ⟨trivial, name_none hf⟩ hE rfl rfl rfl
  · cases h
end Go.Proofs.YtpdgmgkkbbndfaaGreatDoor

set_option maxRecDepth 100000
namespace Go.Proofs.YtpdgmgkkbbndfaaGreatDoor
open Go Go.Proofs Go.Proofs.YtpdgmgkkbbndfaaGreatDoor.SX
def P5 : Prims := addP (addP (addP (addP (addP (addP P4 49 q49) 51 q51) 47 q47) 50 q50) 58 q58) 59 q59
theorem P5_ok : PrimsOK Tryz.prog P5 := addP_ok (addP_ok (addP_ok (addP_ok (addP_ok (addP_ok P4_ok q49_ok) q51_ok) q47_ok) q50_ok) q58_ok) q59_ok
end Go.Proofs.YtpdgmgkkbbndfaaGreatDoor

set_option maxRecDepth 100000
namespace Go.Proofs.YtpdgmgkkbbndfaaGreatDoor
open Go Go.Proofs Go.Proofs.YtpdgmgkkbbndfaaGreatDoor.SX
def b26I (start : List UInt8) (hn bn : Nat) (hrows : List (List AV)) (sz ln k : Int) : SL := ⟨[(1, .ptr ⟨2, 0, 0⟩), (3, .fn (.func 57) [] []), (4, .int .i64 sz), (5, .int .i64 ln), (32, .slq 0 hn), (33, .int .i64 hn), (34, .int .i64 k)], [(0, .cells false [.str, .str] hrows), (2, .cells true [.str, .any, .any] [[.str start, .slq 0 hn, .slq 1 bn]])], 3⟩
def b26k0 (start : List UInt8) (hn bn : Nat) (hrows : List (List AV)) (sz ln k : Int) : Bool := decide (k < (↑hn : Int))
def b26k1 (start : List UInt8) (hn bn : Nat) (hrows : List (List AV)) (sz ln k : Int) : Bool := decide (0 < hn)
def b26k2 (start : List UInt8) (hn bn : Nat) (hrows : List (List AV)) (sz ln k : Int) : Bool := decide ((0 : Int) ≤ k ∧ k < (↑hn : Int))
def b26k3 (start : List UInt8) (hn bn : Nat) (hrows : List (List AV)) (sz ln k : Int) : Bool := decide (0 + Int.toNat k < List.length hrows)
def b26k4 (start : List UInt8) (hn bn : Nat) (hrows : List (List AV)) (sz ln k : Int) : Bool := !spIsName (AV.toStr (List.getD (List.getD hrows (0 + Int.toNat k) []) (0) AV.undef))
theorem b26_TT (start : List UInt8) (hn : Nat) (bn : Nat) (hrows : List (List AV)) (sz : Int) (ln : Int) (k : Int) :
 Path (run Tryz.prog P5 100 (lbody Tryz.prog 26 0) (SL.mp 87 ([pT, pT]) (b26I start hn bn hrows sz ln k))) 3 [] (SL.mk [(2, AV.lit false)] [] 3) (Ex.ret)
 (((((((((((True ∧ b26k0 start hn bn hrows sz ln k = true) ∧ b26k1 start hn bn hrows sz ln k = true) ∧ b26k2 start hn bn hrows sz ln k = true) ∧ b26k3 start hn bn hrows sz ln k = true) ∧ true = true) ∧ true = true) ∧ true = true) ∧ true = true) ∧ true = true) ∧ true = true) ∧ b26k4 start hn bn hrows sz ln k = true) := by unfold Path; kernel_rfl
def b26k5 (start : List UInt8) (hn bn : Nat) (hrows : List (List AV)) (sz ln k : Int) : Bool := decide ([(13 : UInt8), (10 : UInt8)] = [(13 : UInt8), (10 : UInt8)] ∧ List.length (AV.toStr (List.getD (List.getD hrows (0 + Int.toNat k) []) (1) AV.undef)) < 4294967281)
def b26k6 (start : List UInt8) (hn bn : Nat) (hrows : List (List AV)) (sz ln k : Int) : Bool := spBroken (AV.toStr (List.getD (List.getD hrows (0 + Int.toNat k) []) (1) AV.undef))
theorem b26_TFT (start : List UInt8) (hn : Nat) (bn : Nat) (hrows : List (List AV)) (sz : Int) (ln : Int) (k : Int) :
 Path (run Tryz.prog P5 100 (lbody Tryz.prog 26 0) (SL.mp 87 ([pT, pF, pT]) (b26I start hn bn hrows sz ln k))) 3 [] (SL.mk [(2, AV.lit false)] [] 3) (Ex.ret)
 ((((((((((((((True ∧ b26k0 start hn bn hrows sz ln k = true) ∧ b26k1 start hn bn hrows sz ln k = true) ∧ b26k2 start hn bn hrows sz ln k = true) ∧ b26k3 start hn bn hrows sz ln k = true) ∧ true = true) ∧ true = true) ∧ true = true) ∧ true = true) ∧ true = true) ∧ true = true) ∧ b26k4 start hn bn hrows sz ln k = false) ∧ true = true) ∧ b26k5 start hn bn hrows sz ln k = true) ∧ b26k6 start hn bn hrows sz ln k = true) := by unfold Path; kernel_rfl
def b26k7 (start : List UInt8) (hn bn : Nat) (hrows : List (List AV)) (sz ln k : Int) : Bool := decide (List.length (AV.toStr (List.getD (List.getD hrows (0 + Int.toNat k) []) (1) AV.undef)) ≤ 9223372036854775807 ∧ 1 < 4294967281 ∧ true = true)
def b26k8 (start : List UInt8) (hn bn : Nat) (hrows : List (List AV)) (sz ln k : Int) : Bool := !spTrim (AV.toStr (List.getD (List.getD hrows (0 + Int.toNat k) []) (1) AV.undef)) [(32 : UInt8)] == AV.toStr (List.getD (List.getD hrows (0 + Int.toNat k) []) (1) AV.undef)
theorem b26_TFFT (start : List UInt8) (hn : Nat) (bn : Nat) (hrows : List (List AV)) (sz : Int) (ln : Int) (k : Int) :
 Path (run Tryz.prog P5 100 (lbody Tryz.prog 26 0) (SL.mp 87 ([pT, pF, pF, pT]) (b26I start hn bn hrows sz ln k))) 3 [] (SL.mk [(2, AV.lit false)] [] 3) (Ex.ret)
 ((((((((((((((((((True ∧ b26k0 start hn bn hrows sz ln k = true) ∧ b26k1 start hn bn hrows sz ln k = true) ∧ b26k2 start hn bn hrows sz ln k = true) ∧ b26k3 start hn bn hrows sz ln k = true) ∧ true = true) ∧ true = true) ∧ true = true) ∧ true = true) ∧ true = true) ∧ true = true) ∧ b26k4 start hn bn hrows sz ln k = false) ∧ true = true) ∧ b26k5 start hn bn hrows sz ln k = true) ∧ b26k6 start hn bn hrows sz ln k = false) ∧ true = true) ∧ true = true) ∧ b26k7 start hn bn hrows sz ln k = true) ∧ b26k8 start hn bn hrows sz ln k = true) := by unfold Path; kernel_rfl
def b26k9 (start : List UInt8) (hn bn : Nat) (hrows : List (List AV)) (sz ln k : Int) : Bool := decide (List.length (AV.toStr (List.getD (List.getD hrows (0 + Int.toNat k) []) (0) AV.undef)) ≤ 140737488355328)
def b26k10 (start : List UInt8) (hn bn : Nat) (hrows : List (List AV)) (sz ln k : Int) : Bool := spLow (AV.toStr (List.getD (List.getD hrows (0 + Int.toNat k) []) (0) AV.undef)) == [(99 : UInt8), (111 : UInt8), (110 : UInt8), (116 : UInt8), (101 : UInt8), (110 : UInt8), (116 : UInt8), (45 : UInt8), (108 : UInt8), (101 : UInt8), (110 : UInt8), (103 : UInt8), (116 : UInt8), (104 : UInt8)]
def b26k11 (start : List UInt8) (hn bn : Nat) (hrows : List (List AV)) (sz ln k : Int) : Bool := decide (Int.negSucc (9223372036854775807) ≤ (↑bn : Int) ∧ (↑bn : Int) ≤ (9223372036854775807 : Int))
def b26k12 (start : List UInt8) (hn bn : Nat) (hrows : List (List AV)) (sz ln k : Int) : Bool := !AV.toStr (List.getD (List.getD hrows (0 + Int.toNat k) []) (1) AV.undef) == spItoa (↑bn : Int)
theorem b26_TFFFTT (start : List UInt8) (hn : Nat) (bn : Nat) (hrows : List (List AV)) (sz : Int) (ln : Int) (k : Int) :
 Path (run Tryz.prog P5 100 (lbody Tryz.prog 26 0) (SL.mp 87 ([pT, pF, pF, pF, pT, pT]) (b26I start hn bn hrows sz ln k))) 3 [] (SL.mk [(2, AV.lit false)] [] 3) (Ex.ret)
 (((((((((((((((((((((((((((True ∧ b26k0 start hn bn hrows sz ln k = true) ∧ b26k1 start hn bn hrows sz ln k = true) ∧ b26k2 start hn bn hrows sz ln k = true) ∧ b26k3 start hn bn hrows sz ln k = true) ∧ true = true) ∧ true = true) ∧ true = true) ∧ true = true) ∧ true = true) ∧ true = true) ∧ b26k4 start hn bn hrows sz ln k = false) ∧ true = true) ∧ b26k5 start hn bn hrows sz ln k = true) ∧ b26k6 start hn bn hrows sz ln k = false) ∧ true = true) ∧ true = true) ∧ b26k7 start hn bn hrows sz ln k = true) ∧ b26k8 start hn bn hrows sz ln k = false) ∧ true = true) ∧ true = true) ∧ true = true) ∧ b26k9 start hn bn hrows sz ln k = true) ∧ b26k10 start hn bn hrows sz ln k = true) ∧ true = true) ∧ true = true) ∧ b26k11 start hn bn hrows sz ln k = true) ∧ b26k12 start hn bn hrows sz ln k = true) := by unfold Path; kernel_rfl
theorem b26_TFFFTF (start : List UInt8) (hn : Nat) (bn : Nat) (hrows : List (List AV)) (sz : Int) (ln : Int) (k : Int) :
 Path (run Tryz.prog P5 100 (lbody Tryz.prog 26 0) (SL.mp 87 ([pT, pF, pF, pF, pT, pF]) (b26I start hn bn hrows sz ln k))) 3 [] (b26I (start) (hn) (bn) (hrows) (IntKind.wrap IntKind.i64 (sz + IntKind.wrap IntKind.i64 (IntKind.wrap IntKind.i64 (IntKind.wrap IntKind.i64 ((↑(List.length (AV.toStr (List.getD (List.getD hrows (0 + Int.toNat k) []) (0) AV.undef))) : Int) + (2 : Int)) + (↑(List.length (AV.toStr (List.getD (List.getD hrows (0 + Int.toNat k) []) (1) AV.undef))) : Int)) + (2 : Int)))) (IntKind.wrap IntKind.i64 (ln + (1 : Int))) (IntKind.wrap IntKind.i64 (k + (1 : Int)))) (Ex.normal)
 (((((((((((((((((((((((((((True ∧ b26k0 start hn bn hrows sz ln k = true) ∧ b26k1 start hn bn hrows sz ln k = true) ∧ b26k2 start hn bn hrows sz ln k = true) ∧ b26k3 start hn bn hrows sz ln k = true) ∧ true = true) ∧ true = true) ∧ true = true) ∧ true = true) ∧ true = true) ∧ true = true) ∧ b26k4 start hn bn hrows sz ln k = false) ∧ true = true) ∧ b26k5 start hn bn hrows sz ln k = true) ∧ b26k6 start hn bn hrows sz ln k = false) ∧ true = true) ∧ true = true) ∧ b26k7 start hn bn hrows sz ln k = true) ∧ b26k8 start hn bn hrows sz ln k = false) ∧ true = true) ∧ true = true) ∧ true = true) ∧ b26k9 start hn bn hrows sz ln k = true) ∧ b26k10 start hn bn hrows sz ln k = true) ∧ true = true) ∧ true = true) ∧ b26k11 start hn bn hrows sz ln k = true) ∧ b26k12 start hn bn hrows sz ln k = false) := by unfold Path; kernel_rfl
theorem b26_TFFFF (start : List UInt8) (hn : Nat) (bn : Nat) (hrows : List (List AV)) (sz : Int) (ln : Int) (k : Int) :
 Path (run Tryz.prog P5 100 (lbody Tryz.prog 26 0) (SL.mp 87 ([pT, pF, pF, pF, pF]) (b26I start hn bn hrows sz ln k))) 3 [] (b26I (start) (hn) (bn) (hrows) (IntKind.wrap IntKind.i64 (sz + IntKind.wrap IntKind.i64 (IntKind.wrap IntKind.i64 (IntKind.wrap IntKind.i64 ((↑(List.length (AV.toStr (List.getD (List.getD hrows (0 + Int.toNat k) []) (0) AV.undef))) : Int) + (2 : Int)) + (↑(List.length (AV.toStr (List.getD (List.getD hrows (0 + Int.toNat k) []) (1) AV.undef))) : Int)) + (2 : Int)))) (ln) (IntKind.wrap IntKind.i64 (k + (1 : Int)))) (Ex.normal)
 (((((((((((((((((((((((True ∧ b26k0 start hn bn hrows sz ln k = true) ∧ b26k1 start hn bn hrows sz ln k = true) ∧ b26k2 start hn bn hrows sz ln k = true) ∧ b26k3 start hn bn hrows sz ln k = true) ∧ true = true) ∧ true = true) ∧ true = true) ∧ true = true) ∧ true = true) ∧ true = true) ∧ b26k4 start hn bn hrows sz ln k = false) ∧ true = true) ∧ b26k5 start hn bn hrows sz ln k = true) ∧ b26k6 start hn bn hrows sz ln k = false) ∧ true = true) ∧ true = true) ∧ b26k7 start hn bn hrows sz ln k = true) ∧ b26k8 start hn bn hrows sz ln k = false) ∧ true = true) ∧ true = true) ∧ true = true) ∧ b26k9 start hn bn hrows sz ln k = true) ∧ b26k10 start hn bn hrows sz ln k = false) := by unfold Path; kernel_rfl
theorem b26_F (start : List UInt8) (hn : Nat) (bn : Nat) (hrows : List (List AV)) (sz : Int) (ln : Int) (k : Int) :
 Path (run Tryz.prog P5 100 (lbody Tryz.prog 26 0) (SL.mp 87 ([pF]) (b26I start hn bn hrows sz ln k))) 3 [] (SL.mk [(4, AV.int IntKind.i64 sz), (5, AV.int IntKind.i64 ln)] [] 3) (Ex.exit 0)
 (True ∧ b26k0 start hn bn hrows sz ln k = false) := by unfold Path; kernel_rfl
def b26_cls (start : List UInt8) (hn bn : Nat) (hrows : List (List AV)) (sz ln k : Int) : Nat := (bif b26k0 start hn bn hrows sz ln k then (bif b26k4 start hn bn hrows sz ln k then 0 else (bif b26k6 start hn bn hrows sz ln k then 0 else (bif b26k8 start hn bn hrows sz ln k then 0 else (bif b26k10 start hn bn hrows sz ln k then (bif b26k12 start hn bn hrows sz ln k then 0 else 1) else 2)))) else 3)
theorem b26_c0 (start : List UInt8) (hn bn : Nat) (hrows : List (List AV)) (sz ln k : Int) (h : b26_cls start hn bn hrows sz ln k = 0) (m0 : b26k0 start hn bn hrows sz ln k = true → b26k1 start hn bn hrows sz ln k = true) (m1 : b26k0 start hn bn hrows sz ln k = true → b26k2 start hn bn hrows sz ln k = true) (m2 : b26k0 start hn bn hrows sz ln k = true → b26k3 start hn bn hrows sz ln k = true) (m3 : b26k0 start hn bn hrows sz ln k = true → b26k4 start hn bn hrows sz ln k = false → b26k5 start hn bn hrows sz ln k = true) (m4 : b26k0 start hn bn hrows sz ln k = true → b26k4 start hn bn hrows sz ln k = false → b26k6 start hn bn hrows sz ln k = false → b26k7 start hn bn hrows sz ln k = true) (m5 : b26k0 start hn bn hrows sz ln k = true → b26k4 start hn bn hrows sz ln k = false → b26k6 start hn bn hrows sz ln k = false → b26k8 start hn bn hrows sz ln k = false → b26k9 start hn bn hrows sz ln k = true) (m6 : b26k0 start hn bn hrows sz ln k = true → b26k4 start hn bn hrows sz ln k = false → b26k6 start hn bn hrows sz ln k = false → b26k8 start hn bn hrows sz ln k = false → b26k10 start hn bn hrows sz ln k = true → b26k11 start hn bn hrows sz ln k = true) : BodyOK Tryz.prog (lbody Tryz.prog 26 0) 87 3 (b26I start hn bn hrows sz ln k) (Ex.ret) (SL.mk [(2, AV.lit false)] [] 3) := by
  unfold b26_cls at h
  cases q1 : b26k0 start hn bn hrows sz ln k with
  | true =>
    rw [q1, cond_true] at h
    cases q2 : b26k4 start hn bn hrows sz ln k with
    | true =>
      rw [q2, cond_true] at h
      exact body_by P5_ok (b26_TT start hn bn hrows sz ln k) rfl (by simp only [q1, q2, (m0 q1), (m1 q1), (m2 q1), eq_self, and_true, true_and]) rfl
    | false =>
      rw [q2, cond_false] at h
      cases q3 : b26k6 start hn bn hrows sz ln k with
      | true =>
        rw [q3, cond_true] at h
        exact body_by P5_ok (b26_TFT start hn bn hrows sz ln k) rfl (by simp only [q1, q2, q3, (m0 q1), (m1 q1), (m2 q1), (m3 q1 q2), eq_self, and_true, true_and]) rfl
      | false =>
        rw [q3, cond_false] at h
        cases q4 : b26k8 start hn bn hrows sz ln k with
        | true =>
          rw [q4, cond_true] at h
          exact body_by P5_ok (b26_TFFT start hn bn hrows sz ln k) rfl (by simp only [q1, q2, q3, q4, (m0 q1), (m1 q1), (m2 q1), (m3 q1 q2), (m4 q1 q2 q3), eq_self, and_true, true_and]) rfl
        | false =>
          rw [q4, cond_false] at h
          cases q5 : b26k10 start hn bn hrows sz ln k with
          | true =>
            rw [q5, cond_true] at h
            cases q6 : b26k12 start hn bn hrows sz ln k with
            | true =>
              rw [q6, cond_true] at h
              exact body_by P5_ok (b26_TFFFTT start hn bn hrows sz ln k) rfl (by simp only [q1, q2, q3, q4, q5, q6, (m0 q1), (m1 q1), (m2 q1), (m3 q1 q2), (m4 q1 q2 q3), (m5 q1 q2 q3 q4), (m6 q1 q2 q3 q4 q5), eq_self, and_true, true_and]) rfl
            | false =>
              rw [q6, cond_false] at h
              exact absurd h (by decide)
          | false =>
            rw [q5, cond_false] at h
            exact absurd h (by decide)
  | false =>
    rw [q1, cond_false] at h
    exact absurd h (by decide)
theorem b26_c1 (start : List UInt8) (hn bn : Nat) (hrows : List (List AV)) (sz ln k : Int) (h : b26_cls start hn bn hrows sz ln k = 1) (m0 : b26k0 start hn bn hrows sz ln k = true → b26k1 start hn bn hrows sz ln k = true) (m1 : b26k0 start hn bn hrows sz ln k = true → b26k2 start hn bn hrows sz ln k = true) (m2 : b26k0 start hn bn hrows sz ln k = true → b26k3 start hn bn hrows sz ln k = true) (m3 : b26k0 start hn bn hrows sz ln k = true → b26k4 start hn bn hrows sz ln k = false → b26k5 start hn bn hrows sz ln k = true) (m4 : b26k0 start hn bn hrows sz ln k = true → b26k4 start hn bn hrows sz ln k = false → b26k6 start hn bn hrows sz ln k = false → b26k7 start hn bn hrows sz ln k = true) (m5 : b26k0 start hn bn hrows sz ln k = true → b26k4 start hn bn hrows sz ln k = false → b26k6 start hn bn hrows sz ln k = false → b26k8 start hn bn hrows sz ln k = false → b26k9 start hn bn hrows sz ln k = true) (m6 : b26k0 start hn bn hrows sz ln k = true → b26k4 start hn bn hrows sz ln k = false → b26k6 start hn bn hrows sz ln k = false → b26k8 start hn bn hrows sz ln k = false → b26k10 start hn bn hrows sz ln k = true → b26k11 start hn bn hrows sz ln k = true) : BodyOK Tryz.prog (lbody Tryz.prog 26 0) 87 3 (b26I start hn bn hrows sz ln k) (Ex.normal) (b26I (start) (hn) (bn) (hrows) (IntKind.wrap IntKind.i64 (sz + IntKind.wrap IntKind.i64 (IntKind.wrap IntKind.i64 (IntKind.wrap IntKind.i64 ((↑(List.length (AV.toStr (List.getD (List.getD hrows (0 + Int.toNat k) []) (0) AV.undef))) : Int) + (2 : Int)) + (↑(List.length (AV.toStr (List.getD (List.getD hrows (0 + Int.toNat k) []) (1) AV.undef))) : Int)) + (2 : Int)))) (IntKind.wrap IntKind.i64 (ln + (1 : Int))) (IntKind.wrap IntKind.i64 (k + (1 : Int)))) := by
  unfold b26_cls at h
  cases q1 : b26k0 start hn bn hrows sz ln k with
  | true =>
    rw [q1, cond_true] at h
    cases q2 : b26k4 start hn bn hrows sz ln k with
    | true =>
      rw [q2, cond_true] at h
      exact absurd h (by decide)
    | false =>
      rw [q2, cond_false] at h
      cases q3 : b26k6 start hn bn hrows sz ln k with
      | true =>
        rw [q3, cond_true] at h
        exact absurd h (by decide)
      | false =>
        rw [q3, cond_false] at h
        cases q4 : b26k8 start hn bn hrows sz ln k with
        | true =>
          rw [q4, cond_true] at h
          exact absurd h (by decide)
        | false =>
          rw [q4, cond_false] at h
          cases q5 : b26k10 start hn bn hrows sz ln k with
          | true =>
            rw [q5, cond_true] at h
            cases q6 : b26k12 start hn bn hrows sz ln k with
            | true =>
              rw [q6, cond_true] at h
              exact absurd h (by decide)
            | false =>
              rw [q6, cond_false] at h
              exact body_by P5_ok (b26_TFFFTF start hn bn hrows sz ln k) rfl (by simp only [q1, q2, q3, q4, q5, q6, (m0 q1), (m1 q1), (m2 q1), (m3 q1 q2), (m4 q1 q2 q3), (m5 q1 q2 q3 q4), (m6 q1 q2 q3 q4 q5), eq_self, and_true, true_and]) rfl
          | false =>
            rw [q5, cond_false] at h
            exact absurd h (by decide)
  | false =>
    rw [q1, cond_false] at h
    exact absurd h (by decide)
theorem b26_c2 (start : List UInt8) (hn bn : Nat) (hrows : List (List AV)) (sz ln k : Int) (h : b26_cls start hn bn hrows sz ln k = 2) (m0 : b26k0 start hn bn hrows sz ln k = true → b26k1 start hn bn hrows sz ln k = true) (m1 : b26k0 start hn bn hrows sz ln k = true → b26k2 start hn bn hrows sz ln k = true) (m2 : b26k0 start hn bn hrows sz ln k = true → b26k3 start hn bn hrows sz ln k = true) (m3 : b26k0 start hn bn hrows sz ln k = true → b26k4 start hn bn hrows sz ln k = false → b26k5 start hn bn hrows sz ln k = true) (m4 : b26k0 start hn bn hrows sz ln k = true → b26k4 start hn bn hrows sz ln k = false → b26k6 start hn bn hrows sz ln k = false → b26k7 start hn bn hrows sz ln k = true) (m5 : b26k0 start hn bn hrows sz ln k = true → b26k4 start hn bn hrows sz ln k = false → b26k6 start hn bn hrows sz ln k = false → b26k8 start hn bn hrows sz ln k = false → b26k9 start hn bn hrows sz ln k = true) : BodyOK Tryz.prog (lbody Tryz.prog 26 0) 87 3 (b26I start hn bn hrows sz ln k) (Ex.normal) (b26I (start) (hn) (bn) (hrows) (IntKind.wrap IntKind.i64 (sz + IntKind.wrap IntKind.i64 (IntKind.wrap IntKind.i64 (IntKind.wrap IntKind.i64 ((↑(List.length (AV.toStr (List.getD (List.getD hrows (0 + Int.toNat k) []) (0) AV.undef))) : Int) + (2 : Int)) + (↑(List.length (AV.toStr (List.getD (List.getD hrows (0 + Int.toNat k) []) (1) AV.undef))) : Int)) + (2 : Int)))) (ln) (IntKind.wrap IntKind.i64 (k + (1 : Int)))) := by
  unfold b26_cls at h
  cases q1 : b26k0 start hn bn hrows sz ln k with
  | true =>
    rw [q1, cond_true] at h
    cases q2 : b26k4 start hn bn hrows sz ln k with
    | true =>
      rw [q2, cond_true] at h
      exact absurd h (by decide)
    | false =>
      rw [q2, cond_false] at h
      cases q3 : b26k6 start hn bn hrows sz ln k with
      | true =>
        rw [q3, cond_true] at h
        exact absurd h (by decide)
      | false =>
        rw [q3, cond_false] at h
        cases q4 : b26k8 start hn bn hrows sz ln k with
        | true =>
          rw [q4, cond_true] at h
          exact absurd h (by decide)
        | false =>
          rw [q4, cond_false] at h
          cases q5 : b26k10 start hn bn hrows sz ln k with
          | true =>
            rw [q5, cond_true] at h
            cases q6 : b26k12 start hn bn hrows sz ln k with
            | true =>
              rw [q6, cond_true] at h
              exact absurd h (by decide)
            | false =>
              rw [q6, cond_false] at h
              exact absurd h (by decide)
          | false =>
            rw [q5, cond_false] at h
            exact body_by P5_ok (b26_TFFFF start hn bn hrows sz ln k) rfl (by simp only [q1, q2, q3, q4, q5, (m0 q1), (m1 q1), (m2 q1), (m3 q1 q2), (m4 q1 q2 q3), (m5 q1 q2 q3 q4), eq_self, and_true, true_and]) rfl
  | false =>
    rw [q1, cond_false] at h
    exact absurd h (by decide)
theorem b26_c3 (start : List UInt8) (hn bn : Nat) (hrows : List (List AV)) (sz ln k : Int) (h : b26_cls start hn bn hrows sz ln k = 3)  : BodyOK Tryz.prog (lbody Tryz.prog 26 0) 87 3 (b26I start hn bn hrows sz ln k) (Ex.exit 0) (SL.mk [(4, AV.int IntKind.i64 sz), (5, AV.int IntKind.i64 ln)] [] 3) := by
  unfold b26_cls at h
  cases q1 : b26k0 start hn bn hrows sz ln k with
  | true =>
    rw [q1, cond_true] at h
    cases q2 : b26k4 start hn bn hrows sz ln k with
    | true =>
      rw [q2, cond_true] at h
      exact absurd h (by decide)
    | false =>
      rw [q2, cond_false] at h
      cases q3 : b26k6 start hn bn hrows sz ln k with
      | true =>
        rw [q3, cond_true] at h
        exact absurd h (by decide)
      | false =>
        rw [q3, cond_false] at h
        cases q4 : b26k8 start hn bn hrows sz ln k with
        | true =>
          rw [q4, cond_true] at h
          exact absurd h (by decide)
        | false =>
          rw [q4, cond_false] at h
          cases q5 : b26k10 start hn bn hrows sz ln k with
          | true =>
            rw [q5, cond_true] at h
            cases q6 : b26k12 start hn bn hrows sz ln k with
            | true =>
              rw [q6, cond_true] at h
              exact absurd h (by decide)
            | false =>
              rw [q6, cond_false] at h
              exact absurd h (by decide)
          | false =>
            rw [q5, cond_false] at h
            exact absurd h (by decide)
  | false =>
    rw [q1, cond_false] at h
    exact body_by P5_ok (b26_F start hn bn hrows sz ln k) rfl (by simp only [q1, eq_self, and_true, true_and]) rfl
theorem c26_T (start : List UInt8) (hn : Nat) (bn : Nat) (hrows : List (List AV)) (brows : List (List AV)) (sz : Int) (ln : Int) :
 Path (runCallB Tryz.prog P5 100 26 [AV.agg [AV.str start, AV.slq 0 hn, AV.slq 1 bn]] (st0 [Blk.cells false [Kd.str, Kd.str] hrows, Blk.cells false [Kd.int IntKind.u8] brows] ([pT]))) 2 [] (SL.mk [] [] 2) (Out.ret (AV.lit false))
 ((True ∧ (true = true)) ∧ ((start == []) = true)) := by unfold Path; kernel_rfl
theorem c26_FT (start : List UInt8) (hn : Nat) (bn : Nat) (hrows : List (List AV)) (brows : List (List AV)) (sz : Int) (ln : Int) :
 Path (runCallB Tryz.prog P5 100 26 [AV.agg [AV.str start, AV.slq 0 hn, AV.slq 1 bn]] (st0 [Blk.cells false [Kd.str, Kd.str] hrows, Blk.cells false [Kd.int IntKind.u8] brows] ([pF, pT]))) 2 [] (SL.mk [] [] 2) (Out.ret (AV.lit false))
 (((((True ∧ (true = true)) ∧ ((start == []) = false)) ∧ (true = true)) ∧ (decide ([(13 : UInt8), (10 : UInt8)] = [(13 : UInt8), (10 : UInt8)] ∧ List.length start < 4294967281) = true)) ∧ (spBroken start = true)) := by unfold Path; kernel_rfl
theorem c26_FFT (start : List UInt8) (hn : Nat) (bn : Nat) (hrows : List (List AV)) (brows : List (List AV)) (sz : Int) (ln : Int) :
 Path (runCallB Tryz.prog P5 100 26 [AV.agg [AV.str start, AV.slq 0 hn, AV.slq 1 bn]] (st0 [Blk.cells false [Kd.str, Kd.str] hrows, Blk.cells false [Kd.int IntKind.u8] brows] ([pF, pF, pT]))) 2 [] (SL.mk [] [] 2) (Out.ret (AV.lit false))
 (((((((True ∧ (true = true)) ∧ ((start == []) = false)) ∧ (true = true)) ∧ (decide ([(13 : UInt8), (10 : UInt8)] = [(13 : UInt8), (10 : UInt8)] ∧ List.length start < 4294967281) = true)) ∧ (spBroken start = false)) ∧ (true = true)) ∧ (decide ((↑hn : Int) > (64 : Int)) = true)) := by unfold Path; kernel_rfl
theorem c26_FFFL (start : List UInt8) (hn : Nat) (bn : Nat) (hrows : List (List AV)) (brows : List (List AV)) (sz : Int) (ln : Int) :
 Path (runCallB Tryz.prog P5 100 26 [AV.agg [AV.str start, AV.slq 0 hn, AV.slq 1 bn]] (st0 [Blk.cells false [Kd.str, Kd.str] hrows, Blk.cells false [Kd.int IntKind.u8] brows] ([pF, pF, pF, PI.loop (b26I start hn bn hrows (IntKind.wrap IntKind.i64 (IntKind.wrap IntKind.i64 ((↑(List.length start) : Int) + (4 : Int)) + (↑bn : Int))) (0 : Int) (0 : Int)) Ex.ret (SL.mk [(2, AV.lit false)] [] 3)]))) 2 [] (SL.mk [] [] 2) (Out.ret (AV.lit false))
 (((((((((((True ∧ (true = true)) ∧ ((start == []) = false)) ∧ (true = true)) ∧ (decide ([(13 : UInt8), (10 : UInt8)] = [(13 : UInt8), (10 : UInt8)] ∧ List.length start < 4294967281) = true)) ∧ (spBroken start = false)) ∧ (true = true)) ∧ (decide ((↑hn : Int) > (64 : Int)) = false)) ∧ (true = true)) ∧ (true = true)) ∧ (true = true)) ∧ (LoopOK Tryz.prog (lbody Tryz.prog 26 0) (87) (SL.mk [(1, AV.ptr (Loc.mk 2 0 0)), (3, AV.fn (Fn.func 57) [] []), (4, AV.int IntKind.i64 (IntKind.wrap IntKind.i64 (IntKind.wrap IntKind.i64 ((↑(List.length start) : Int) + (4 : Int)) + (↑bn : Int)))), (5, AV.int IntKind.i64 (0 : Int)), (32, AV.slq 0 hn), (33, AV.int IntKind.i64 (↑hn : Int)), (34, AV.int IntKind.i64 (0 : Int))] [(0, Blk.cells false [Kd.str, Kd.str] hrows), (2, Blk.cells true [Kd.str, Kd.any, Kd.any] [[AV.str start, AV.slq 0 hn, AV.slq 1 bn]])] 3) Ex.ret (SL.mk [(2, AV.lit false)] [] 3))) := by unfold Path; kernel_rfl
theorem c26_FFFLT (start : List UInt8) (hn : Nat) (bn : Nat) (hrows : List (List AV)) (brows : List (List AV)) (sz : Int) (ln : Int) :
 Path (runCallB Tryz.prog P5 100 26 [AV.agg [AV.str start, AV.slq 0 hn, AV.slq 1 bn]] (st0 [Blk.cells false [Kd.str, Kd.str] hrows, Blk.cells false [Kd.int IntKind.u8] brows] ([pF, pF, pF, PI.loop (b26I start hn bn hrows (IntKind.wrap IntKind.i64 (IntKind.wrap IntKind.i64 ((↑(List.length start) : Int) + (4 : Int)) + (↑bn : Int))) (0 : Int) (0 : Int)) (Ex.exit 0) (SL.mk [(4, AV.int IntKind.i64 sz), (5, AV.int IntKind.i64 ln)] [] 3), pT]))) 2 [] (SL.mk [] [] 2) (Out.ret (AV.bool (decide (sz ≤ (4096 : Int)))))
 ((((((((((((True ∧ (true = true)) ∧ ((start == []) = false)) ∧ (true = true)) ∧ (decide ([(13 : UInt8), (10 : UInt8)] = [(13 : UInt8), (10 : UInt8)] ∧ List.length start < 4294967281) = true)) ∧ (spBroken start = false)) ∧ (true = true)) ∧ (decide ((↑hn : Int) > (64 : Int)) = false)) ∧ (true = true)) ∧ (true = true)) ∧ (true = true)) ∧ (LoopOK Tryz.prog (lbody Tryz.prog 26 0) (87) (SL.mk [(1, AV.ptr (Loc.mk 2 0 0)), (3, AV.fn (Fn.func 57) [] []), (4, AV.int IntKind.i64 (IntKind.wrap IntKind.i64 (IntKind.wrap IntKind.i64 ((↑(List.length start) : Int) + (4 : Int)) + (↑bn : Int)))), (5, AV.int IntKind.i64 (0 : Int)), (32, AV.slq 0 hn), (33, AV.int IntKind.i64 (↑hn : Int)), (34, AV.int IntKind.i64 (0 : Int))] [(0, Blk.cells false [Kd.str, Kd.str] hrows), (2, Blk.cells true [Kd.str, Kd.any, Kd.any] [[AV.str start, AV.slq 0 hn, AV.slq 1 bn]])] 3) (Ex.exit 0) (SL.mk [(4, AV.int IntKind.i64 sz), (5, AV.int IntKind.i64 ln)] [] 3))) ∧ ((ln == (1 : Int)) = true)) := by unfold Path; kernel_rfl
theorem c26_FFFLF (start : List UInt8) (hn : Nat) (bn : Nat) (hrows : List (List AV)) (brows : List (List AV)) (sz : Int) (ln : Int) :
 Path (runCallB Tryz.prog P5 100 26 [AV.agg [AV.str start, AV.slq 0 hn, AV.slq 1 bn]] (st0 [Blk.cells false [Kd.str, Kd.str] hrows, Blk.cells false [Kd.int IntKind.u8] brows] ([pF, pF, pF, PI.loop (b26I start hn bn hrows (IntKind.wrap IntKind.i64 (IntKind.wrap IntKind.i64 ((↑(List.length start) : Int) + (4 : Int)) + (↑bn : Int))) (0 : Int) (0 : Int)) (Ex.exit 0) (SL.mk [(4, AV.int IntKind.i64 sz), (5, AV.int IntKind.i64 ln)] [] 3), pF]))) 2 [] (SL.mk [] [] 2) (Out.ret (AV.lit false))
 ((((((((((((True ∧ (true = true)) ∧ ((start == []) = false)) ∧ (true = true)) ∧ (decide ([(13 : UInt8), (10 : UInt8)] = [(13 : UInt8), (10 : UInt8)] ∧ List.length start < 4294967281) = true)) ∧ (spBroken start = false)) ∧ (true = true)) ∧ (decide ((↑hn : Int) > (64 : Int)) = false)) ∧ (true = true)) ∧ (true = true)) ∧ (true = true)) ∧ (LoopOK Tryz.prog (lbody Tryz.prog 26 0) (87) (SL.mk [(1, AV.ptr (Loc.mk 2 0 0)), (3, AV.fn (Fn.func 57) [] []), (4, AV.int IntKind.i64 (IntKind.wrap IntKind.i64 (IntKind.wrap IntKind.i64 ((↑(List.length start) : Int) + (4 : Int)) + (↑bn : Int)))), (5, AV.int IntKind.i64 (0 : Int)), (32, AV.slq 0 hn), (33, AV.int IntKind.i64 (↑hn : Int)), (34, AV.int IntKind.i64 (0 : Int))] [(0, Blk.cells false [Kd.str, Kd.str] hrows), (2, Blk.cells true [Kd.str, Kd.any, Kd.any] [[AV.str start, AV.slq 0 hn, AV.slq 1 bn]])] 3) (Ex.exit 0) (SL.mk [(4, AV.int IntKind.i64 sz), (5, AV.int IntKind.i64 ln)] [] 3))) ∧ ((ln == (1 : Int)) = false)) := by unfold Path; kernel_rfl
def hN (r : List AV) : List UInt8 := AV.toStr (List.getD r 0 AV.undef)
def hV (r : List AV) : List UInt8 := AV.toStr (List.getD r 1 AV.undef)
def sgLen : List UInt8 := [99, 111, 110, 116, 101, 110, 116, 45, 108, 101, 110, 103, 116, 104]
def isLen (r : List AV) : Bool := spLow (hN r) == sgLen
def okHdr (bn : Nat) (r : List AV) : Bool := spIsName (hN r) && (!spBroken (hV r) && ((spTrim (hV r) [32] == hV r) && (!isLen r || hV r == spItoa (bn : Int))))
def hLen (r : List AV) : Nat := (hN r).length + (hV r).length + 4
def hSize (rows : List (List AV)) : Nat := (rows.map hLen).sum
def nLens (rows : List (List AV)) : Nat := (rows.filter isLen).length
def short (r : List AV) : Bool := decide ((hN r).length ≤ 4294967200 ∧ (hV r).length ≤ 4294967200)
def spRight (start : List UInt8) (rows : List (List AV)) (bn : Nat) : Bool :=
  !(start == []) && (!spBroken start && (decide (rows.length ≤ 64) && (rows.all (okHdr bn) && (nLens rows == 1 && decide (start.length + 4 + bn + hSize rows ≤ 4096)))))
theorem take_snoc {α : Type} {l : List α} {k : Nat} (h : k < l.length) : l.take (k + 1) = l.take k ++ [l[k]] := by
  rw [List.take_add_one, List.getElem?_eq_getElem h]; rfl
theorem hSize_succ {rows : List (List AV)} {k : Nat} (h : k < rows.length) : hSize (rows.take (k + 1)) = hSize (rows.take k) + hLen rows[k] := by
  unfold hSize
  rw [take_snoc h, List.map_append, List.sum_append]
  simp only [List.map_cons, List.map_nil, List.sum_cons, List.sum_nil, Nat.add_zero]
theorem nLens_succ {rows : List (List AV)} {k : Nat} (h : k < rows.length) : nLens (rows.take (k + 1)) = nLens (rows.take k) + (bif isLen rows[k] then 1 else 0) := by
  unfold nLens
  rw [take_snoc h, List.filter_append, List.length_append]
  cases hl : isLen rows[k] <;> simp only [List.filter_cons, List.filter_nil, hl, if_true, Bool.false_eq_true, if_false, List.length_cons, List.length_nil, cond_true, cond_false]
theorem short_at {rows : List (List AV)} (hs : rows.all short = true) {k : Nat} (h : k < rows.length) : (hN rows[k]).length ≤ 4294967200 ∧ (hV rows[k]).length ≤ 4294967200 := by
  have := List.all_eq_true.1 hs rows[k] (List.getElem_mem h)
  simpa only [short, decide_eq_true_eq] using this
theorem hSize_le {rows : List (List AV)} (hs : rows.all short = true) : ∀ k, hSize (rows.take k) ≤ k * 8589934404 := by
  intro k
  induction k with
  | zero => exact Nat.zero_le _
  | succ k ih =>
    by_cases h : k < rows.length
    · rw [hSize_succ h, Nat.succ_mul]
      have := short_at hs h
      unfold hLen; omega
    · have : rows.take (k + 1) = rows.take k := by rw [List.take_of_length_le (by omega), List.take_of_length_le (by omega)]
      rw [this, Nat.succ_mul]; exact Nat.le_trans ih (Nat.le_add_right _ _)
theorem nLens_le (rows : List (List AV)) : nLens rows ≤ rows.length := List.length_filter_le ..
theorem row_cls {start : List UInt8} {bn : Nat} {rows : List (List AV)} {sz ln : Int} {k : Nat} (h : k < rows.length) :
    b26_cls start rows.length bn rows sz ln k = bif okHdr bn rows[k] then (bif isLen rows[k] then 1 else 2) else 0 := by
  unfold b26_cls b26k0 b26k4 b26k6 b26k8 b26k10 b26k12 okHdr isLen hN hV sgLen
  rw [row_at h, decide_eq_true (by omega : (k : Int) < (rows.length : Int))]
  cases spIsName (AV.toStr (List.getD rows[k] 0 AV.undef)) <;> cases spBroken (AV.toStr (List.getD rows[k] 1 AV.undef)) <;> cases (spTrim (AV.toStr (List.getD rows[k] 1 AV.undef)) [32] == AV.toStr (List.getD rows[k] 1 AV.undef)) <;>
    cases (spLow (AV.toStr (List.getD rows[k] 0 AV.undef)) == [99, 111, 110, 116, 101, 110, 116, 45, 108, 101, 110, 103, 116, 104]) <;> cases (AV.toStr (List.getD rows[k] 1 AV.undef) == spItoa (bn : Int)) <;> rfl
structure RowOK (rows : List (List AV)) (bn : Nat) : Prop where
  len : rows.length ≤ 64
  short : rows.all short = true
  bn : bn ≤ 140737488355328
def I26 (start : List UInt8) (rows : List (List AV)) (bn k : Nat) : SL := b26I start rows.length bn rows ((start.length + 4 + bn + hSize (rows.take k) : Nat) : Int) ((nLens (rows.take k) : Nat) : Int) k
theorem right_musts {start : List UInt8} {rows : List (List AV)} {bn : Nat} (ho : RowOK rows bn) {k : Nat} (h : k < rows.length) (sz ln : Int) :
    b26k1 start rows.length bn rows sz ln k = true ∧ b26k2 start rows.length bn rows sz ln k = true ∧ b26k3 start rows.length bn rows sz ln k = true ∧ b26k5 start rows.length bn rows sz ln k = true ∧
    b26k7 start rows.length bn rows sz ln k = true ∧ b26k9 start rows.length bn rows sz ln k = true ∧ b26k11 start rows.length bn rows sz ln k = true := by
  have hsh := short_at ho.short h
  have hbn := ho.bn
  unfold hN hV at hsh
  unfold b26k1 b26k2 b26k3 b26k5 b26k7 b26k9 b26k11
  rw [row_at h]
  refine ⟨decide_eq_true (by omega), decide_eq_true (by omega), decide_eq_true (by simp; omega), decide_eq_true ⟨rfl, by omega⟩, decide_eq_true ⟨by omega, by decide, rfl⟩, decide_eq_true (by omega), decide_eq_true (by omega)⟩
theorem right_ret {start : List UInt8} {rows : List (List AV)} {bn : Nat} (ho : RowOK rows bn) {k : Nat} (h : k < rows.length) (hb : okHdr bn rows[k] = false) :
    BodyOK Tryz.prog (lbody Tryz.prog 26 0) 87 3 (I26 start rows bn k) .ret ⟨[(2, .lit false)], [], 3⟩ := by
  obtain ⟨m1, m2, m3, m5, m7, m9, m11⟩ := right_musts (start := start) ho h ((start.length + 4 + bn + hSize (rows.take k) : Nat) : Int) ((nLens (rows.take k) : Nat) : Int)
  have hcl : b26_cls start rows.length bn rows ((start.length + 4 + bn + hSize (rows.take k) : Nat) : Int) ((nLens (rows.take k) : Nat) : Int) k = 0 := by rw [row_cls h, hb]; rfl
  apply b26_c0 start rows.length bn rows _ _ _ hcl
  all_goals (intros; assumption)
theorem right_next {start : List UInt8} {rows : List (List AV)} {bn : Nat} (ho : RowOK rows bn) (hst : start.length ≤ 4294967200) {k : Nat} (h : k < rows.length) (hb : okHdr bn rows[k] = true) :
    BodyOK Tryz.prog (lbody Tryz.prog 26 0) 87 3 (I26 start rows bn k) .normal (I26 start rows bn (k + 1)) := by
  obtain ⟨m1, m2, m3, m5, m7, m9, m11⟩ := right_musts (start := start) ho h ((start.length + 4 + bn + hSize (rows.take k) : Nat) : Int) ((nLens (rows.take k) : Nat) : Int)
  have hsz := hSize_le ho.short k
  have hkl : k ≤ 64 := by have := ho.len; omega
  have hlen := ho.len
  have hbn := ho.bn
  have hsh := short_at ho.short h
  have hn1 : nLens (rows.take k) ≤ 64 := by
    have := nLens_le (rows.take k)
    have : (rows.take k).length ≤ k := by rw [List.length_take]; exact Nat.min_le_left _ _
    omega
  have w1 : IntKind.wrap IntKind.i64 (((start.length + 4 + bn + hSize (rows.take k) : Nat) : Int) + IntKind.wrap IntKind.i64 (IntKind.wrap IntKind.i64 (IntKind.wrap IntKind.i64 (((hN rows[k]).length : Int) + 2) + ((hV rows[k]).length : Int)) + 2)) = ((start.length + 4 + bn + hSize (rows.take (k + 1)) : Nat) : Int) := by
    rw [hSize_succ h]
    unfold hLen
    have hk9 : k * 8589934404 ≤ 64 * 8589934404 := Nat.mul_le_mul_right _ hkl
    rw [IntWalk.i64_in (((hN rows[k]).length : Int) + 2) (by omega), IntWalk.i64_in (((hN rows[k]).length : Int) + 2 + ((hV rows[k]).length : Int)) (by omega), IntWalk.i64_in (((hN rows[k]).length : Int) + 2 + ((hV rows[k]).length : Int) + 2) (by omega), IntWalk.i64_in _ (by omega)]
    omega
  have w2 := succ64 (n := rows.length) h (by omega)
  have w3 : IntKind.wrap IntKind.i64 (((nLens (rows.take k) : Nat) : Int) + 1) = ((nLens (rows.take k) + 1 : Nat) : Int) := by rw [IntWalk.i64_in _ (by omega)]; omega
  have hls := nLens_succ h
  cases hl : isLen rows[k] with
  | true =>
    rw [hl, cond_true] at hls
    have hcl : b26_cls start rows.length bn rows ((start.length + 4 + bn + hSize (rows.take k) : Nat) : Int) ((nLens (rows.take k) : Nat) : Int) k = 1 := by rw [row_cls h, hb, hl]; rfl
    have hx := b26_c1 start rows.length bn rows _ _ _ hcl
    refine BodyOK.to (hx ?_ ?_ ?_ ?_ ?_ ?_ ?_) ?_
    iterate 7 (first | assumption | (intros; assumption))
    rw [row_at h]
    show b26I start rows.length bn rows (IntKind.wrap IntKind.i64 (((start.length + 4 + bn + hSize (rows.take k) : Nat) : Int) + IntKind.wrap IntKind.i64 (IntKind.wrap IntKind.i64 (IntKind.wrap IntKind.i64 (((hN rows[k]).length : Int) + 2) + ((hV rows[k]).length : Int)) + 2))) (IntKind.wrap IntKind.i64 (((nLens (rows.take k) : Nat) : Int) + 1)) (IntKind.wrap IntKind.i64 ((k : Int) + 1)) = _
    rw [w1, w2, w3]
    unfold I26
    rw [hls]
  | false =>
    rw [hl, cond_false] at hls
    have hcl : b26_cls start rows.length bn rows ((start.length + 4 + bn + hSize (rows.take k) : Nat) : Int) ((nLens (rows.take k) : Nat) : Int) k = 2 := by rw [row_cls h, hb, hl]; rfl
    have hx := b26_c2 start rows.length bn rows _ _ _ hcl
    refine BodyOK.to (hx ?_ ?_ ?_ ?_ ?_ ?_) ?_
    iterate 6 (first | assumption | (intros; assumption))
    rw [row_at h]
    show b26I start rows.length bn rows (IntKind.wrap IntKind.i64 (((start.length + 4 + bn + hSize (rows.take k) : Nat) : Int) + IntKind.wrap IntKind.i64 (IntKind.wrap IntKind.i64 (IntKind.wrap IntKind.i64 (((hN rows[k]).length : Int) + 2) + ((hV rows[k]).length : Int)) + 2))) ((nLens (rows.take k) : Nat) : Int) (IntKind.wrap IntKind.i64 ((k : Int) + 1)) = _
    rw [w1, w2]
    unfold I26
    rw [hls]; rfl
theorem right_bad {start : List UInt8} {rows : List (List AV)} {bn : Nat} (ho : RowOK rows bn) (hst : start.length ≤ 4294967200) {j : Nat} (h : firstAt (fun r => !okHdr bn r) rows = some j) :
    LoopOK Tryz.prog (lbody Tryz.prog 26 0) 87 (I26 start rows bn 0) .ret ⟨[(2, .lit false)], [], 3⟩ := by
  obtain ⟨hj, h2, h3⟩ := firstAt_some h
  refine loop_rule (E := I26 start rows bn 0) (I := fun k : Nat => I26 start rows bn k) (pre := fun k => k ≤ j) (μ := fun k => j - k) _ _ rfl (fun ρ => by simp [Ex.conc]) ?_ (x0 := 0) (pick := []) (Nat.zero_le _) ⟨by kernel_rfl, map_fst_snd (by kernel_rfl)⟩
  intro k hk
  by_cases hkj : k = j
  · right
    subst hkj
    exact right_ret ho hj (by simpa using h2)
  · left
    exact ⟨k + 1, by omega, by omega, right_next ho hst (by omega) (by have := h3 k (by omega); simpa using this)⟩
theorem right_end {start : List UInt8} {rows : List (List AV)} {bn : Nat} (ho : RowOK rows bn) (hst : start.length ≤ 4294967200) (h : firstAt (fun r => !okHdr bn r) rows = none) :
    LoopOK Tryz.prog (lbody Tryz.prog 26 0) 87 (I26 start rows bn 0) (.exit 0) ⟨[(4, .int .i64 ((start.length + 4 + bn + hSize rows : Nat) : Int)), (5, .int .i64 ((nLens rows : Nat) : Int))], [], 3⟩ := by
  have h3 := firstAt_none h
  refine loop_rule (E := I26 start rows bn 0) (I := fun k : Nat => I26 start rows bn k) (pre := fun k => k ≤ rows.length) (μ := fun k => rows.length - k) _ _ rfl (fun ρ => by simp [Ex.conc]) ?_ (x0 := 0) (pick := []) (Nat.zero_le _) ⟨by kernel_rfl, map_fst_snd (by kernel_rfl)⟩
  intro k hk
  by_cases hkl : k < rows.length
  · left
    exact ⟨k + 1, by omega, by omega, right_next ho hst hkl (by have := h3 k hkl; simpa using this)⟩
  · right
    have hk' : k = rows.length := by omega
    subst hk'
    have hx := b26_c3 start rows.length bn rows ((start.length + 4 + bn + hSize (rows.take rows.length) : Nat) : Int) ((nLens (rows.take rows.length) : Nat) : Int) rows.length (by unfold b26_cls b26k0; rw [decide_eq_false (by omega)]; rfl)
    rw [List.take_length] at hx
    exact (by unfold I26; rw [List.take_length]; exact hx)
theorem right_calls {start : List UInt8} {hrows brows : List (List AV)} {ρ : Nat → BI} {w : World} (hE : HSim ρ (addBlks .e 0 [.cells false [.str, .str] hrows, .cells false [.int .u8] brows]) ([.cells false [.str, .str] hrows, .cells false [.int .u8] brows] : List Blk).length w)
    (hst : start.length ≤ 4294967200) (hsh : hrows.all short = true) (hbn : brows.length ≤ 140737488355328) :
    Calls Tryz.prog 26 (concL ρ [.agg [.str start, .slq 0 hrows.length, .slq 1 brows.length]]).toArray w (fun e w' => e = .returned (conc ρ (.bool (spRight start hrows brows.length))) ∧ Ext w w') := by
  unfold spRight
  by_cases h1 : start = []
  · rw [show (start == []) = true by simp [h1]]
    exact calls_pureB P5_ok (c26_T start hrows.length brows.length hrows brows 0 0) ⟨⟨trivial, rfl⟩, (by simp [h1])⟩ hE rfl rfl rfl
  · have e1 : (start == []) = false := by simp [h1]
    rw [e1]
    cases h2 : spBroken start with
    | true => exact calls_pureB P5_ok (c26_FT start hrows.length brows.length hrows brows 0 0) ⟨⟨⟨⟨⟨trivial, rfl⟩, (by simp [h1])⟩, rfl⟩, (decide_eq_true ⟨rfl, by omega⟩)⟩, h2⟩ hE rfl rfl rfl
    | false =>
      by_cases h3 : hrows.length ≤ 64
      · rw [decide_eq_true h3]
        have ho : RowOK hrows brows.length := ⟨h3, hsh, hbn⟩
        have hs0 : IntKind.wrap IntKind.i64 (IntKind.wrap IntKind.i64 ((start.length : Int) + 4) + (brows.length : Int)) = ((start.length + 4 + brows.length + hSize (hrows.take 0) : Nat) : Int) := by
          rw [IntWalk.i64_in ((start.length : Int) + 4) (by omega), IntWalk.i64_in _ (by omega)]
          simp [hSize]
        cases hf : firstAt (fun r => !okHdr brows.length r) hrows with
        | some j =>
          have hall : hrows.all (okHdr brows.length) = false := by
            cases h : hrows.all (okHdr brows.length) with
            | false => rfl
            | true => rw [← firstAt_all] at h; rw [h] at hf; cases hf
          rw [hall]
          have hl := right_bad ho hst hf
          unfold I26 at hl
          rw [← hs0] at hl
          exact calls_pureB P5_ok (c26_FFFL start hrows.length brows.length hrows brows 0 0) ⟨⟨⟨⟨⟨⟨⟨⟨⟨⟨⟨trivial, rfl⟩, (by simp [h1])⟩, rfl⟩, (decide_eq_true ⟨rfl, by omega⟩)⟩, h2⟩, rfl⟩, (decide_eq_false (by omega))⟩, rfl⟩, rfl⟩, rfl⟩, hl⟩ hE rfl rfl rfl
        | none =>
          have hall : hrows.all (okHdr brows.length) = true := firstAt_all.1 hf
          rw [hall]
          have hl := right_end ho hst hf
          unfold I26 at hl
          rw [← hs0] at hl
          by_cases h4 : nLens hrows = 1
          · have e4 : (nLens hrows == 1) = true := by simp [h4]
            have hr := calls_pureB P5_ok (c26_FFFLT start hrows.length brows.length hrows brows ((start.length + 4 + brows.length + hSize hrows : Nat) : Int) ((nLens hrows : Nat) : Int)) ⟨⟨⟨⟨⟨⟨⟨⟨⟨⟨⟨⟨trivial, rfl⟩, (by simp [h1])⟩, rfl⟩, (decide_eq_true ⟨rfl, by omega⟩)⟩, h2⟩, rfl⟩, (decide_eq_false (by omega))⟩, rfl⟩, rfl⟩, rfl⟩, hl⟩, (by simp [h4])⟩ hE rfl rfl rfl
            rw [e4]
            have e5 : decide (((start.length + 4 + brows.length + hSize hrows : Nat) : Int) ≤ 4096) = decide (start.length + 4 + brows.length + hSize hrows ≤ 4096) := by rw [Bool.eq_iff_iff]; simp only [decide_eq_true_eq]; omega
            rw [e5] at hr
            exact hr
          · have e4 : (nLens hrows == 1) = false := by simp [h4]
            rw [e4]
            exact calls_pureB P5_ok (c26_FFFLF start hrows.length brows.length hrows brows ((start.length + 4 + brows.length + hSize hrows : Nat) : Int) ((nLens hrows : Nat) : Int)) ⟨⟨⟨⟨⟨⟨⟨⟨⟨⟨⟨⟨trivial, rfl⟩, (by simp [h1])⟩, rfl⟩, (decide_eq_true ⟨rfl, by omega⟩)⟩, h2⟩, rfl⟩, (decide_eq_false (by omega))⟩, rfl⟩, rfl⟩, rfl⟩, hl⟩, (by simp; omega)⟩ hE rfl rfl rfl
      · rw [decide_eq_false h3]
        exact calls_pureB P5_ok (c26_FFT start hrows.length brows.length hrows brows 0 0) ⟨⟨⟨⟨⟨⟨⟨trivial, rfl⟩, (by simp [h1])⟩, rfl⟩, (decide_eq_true ⟨rfl, by omega⟩)⟩, h2⟩, rfl⟩, (decide_eq_true (by omega))⟩ hE rfl rfl rfl
def q26 : Entry := fun args hp nx => match args with
  | [.agg [.str start, hv, bv]] => match slIn hp [.str, .str] hv, slIn hp [.int .u8] bv with
    | some (c1, hrows), some (c2, brows) => some (c1 && (c2 && decide (start.length ≤ 4294967200 ∧ hrows.all short = true ∧ brows.length ≤ 140737488355328)), .bool (spRight start hrows brows.length), [])
    | _, _ => none
  | _ => none
theorem q26_ok : EntryOK Tryz.prog 26 q26 := by
  intro args hp nx c v bs h hc ρ w hs hi
  unfold q26 at h
  split at h
  · rename_i start hv bv
    split at h
    · rename_i c1 hrows c2 brows hs1 hs2
      cases h
      simp only [Bool.and_eq_true] at hc
      obtain ⟨hc1, hc2, hc3⟩ := hc
      obtain ⟨g1, g2, g3⟩ := of_decide_eq_true hc3
      obtain ⟨b1, hb1⟩ := (slIn_spec hs hs1 hc1 rfl).bi hs.gw rfl
      obtain ⟨b2, hb2⟩ := (slIn_spec hs hs2 hc2 rfl).bi hs.gw rfl
      obtain ⟨ρ0, hρ0⟩ : ∃ ρ0 : Nat → BI, (fun i => if i = 0 then b1 else b2) = ρ0 := ⟨_, rfl⟩
      have h1 := hb1 ρ0 0 (by rw [← hρ0]; rfl)
      have h2 := hb2 ρ0 1 (by rw [← hρ0]; rfl)
      have hE : HSim ρ0 (addBlks .e 0 [.cells false [.str, .str] hrows, .cells false [.int .u8] brows]) ([.cells false [.str, .str] hrows, .cells false [.int .u8] brows] : List Blk).length w :=
        HSim.ins hs.gw (fun i blk hi => by
          match i with
          | 0 => simp at hi; subst hi; exact ⟨h1.2, rfl, rfl⟩
          | 1 => simp at hi; subst hi; exact ⟨h2.2, rfl, rfl⟩
          | i + 2 => simp at hi)
      refine entry_pure hs rfl ?_
      have hcall := right_calls hE g1 g2 g3
      have e1 : concL ρ0 [AV.agg [.str start, .slq 0 hrows.length, .slq 1 brows.length]] = concL ρ [AV.agg [.str start, hv, bv]] := by
        show [Value.agg (concL ρ0 [AV.str start, .slq 0 hrows.length, .slq 1 brows.length]).toArray] = [Value.agg (concL ρ [AV.str start, hv, bv]).toArray]
        simp only [concL]
        rw [h1.1, h2.1]
        rfl
      rw [e1] at hcall
      exact hcall
    · cases h
  · cases h
end Go.Proofs.YtpdgmgkkbbndfaaGreatDoor

namespace Go.Proofs.YtpdgmgkkbbndfaaGreatDoor.SX
open Go
def seqL : Code → Code | .seq a _ => a | c => c
def seqR : Code → Code | .seq _ b => b | c => c
def inBlk : Code → Code | .block _ a => a | c => c
theorem HSim.none {ρ : Nat → BI} {nx : Nat} {w : World} (gw : GW w) : HSim ρ (Tr.ofList []) nx w := by
  have hno : ∀ (b : Nat) (blk : Blk), (Tr.ofList ([] : List (Nat × Blk))).get b = some blk → False := fun b blk h => by cases b <;> cases h
  exact ⟨⟨fun b blk h => (hno b blk h).elim, fun b1 b2 k1 k2 _ h => (hno _ _ h).elim, fun b blk h => (hno b blk h).elim⟩, gw, fun b blk h => (hno b blk h).elim⟩
theorem wpOpIn_move {P : Program} {ops : Array Oper} {Q : Exit → Act → World → Prop} {i : Nat} {o : Oper} {K : Act → World → Prop} {a : Act} {w : World} {x : Operand}
    (ho : ops[i]? = some o) (hop : o.op = .move x) (hg : o.guard = none) (h : K (a.put o.dst (a.eval x)) w) : wpOpIn (RF none) 0 P ops Q i K a w := by
  refine wpOpIn_step ho fun K' hK => ?_
  have hw : Region.wanted o (yielded ops a.tmps) = true := by unfold Region.wanted; rw [hg]
  rw [if_pos hw]
  refine ⟨fun _ _ => trivial, ?_⟩
  show o.uponIn (RF none) 0 P a K' Q ((Oper.semAt none a.eval o).run P w)
  rw [Oper.semAt_none]
  have : (execOp a.eval o).run P w = .ok (.value (a.eval x)) w := by unfold execOp; rw [hop]; rfl
  rw [this]
  exact hK _ _ h
theorem wpOpIn_not {P : Program} {ops : Array Oper} {Q : Exit → Act → World → Prop} {i : Nat} {o : Oper} {K : Act → World → Prop} {a : Act} {w : World} {x : Operand} {t : TypeId} {b : Bool}
    (ho : ops[i]? = some o) (hop : o.op = .unOp .not t x) (hg : o.guard = none) (hx : a.eval x = .bool b) (h : K (a.put o.dst (.bool !b)) w) : wpOpIn (RF none) 0 P ops Q i K a w := by
  refine wpOpIn_step ho fun K' hK => ?_
  have hw : Region.wanted o (yielded ops a.tmps) = true := by unfold Region.wanted; rw [hg]
  rw [if_pos hw]
  refine ⟨fun _ _ => trivial, ?_⟩
  show o.uponIn (RF none) 0 P a K' Q ((Oper.semAt none a.eval o).run P w)
  rw [Oper.semAt_none]
  have : (execOp a.eval o).run P w = .ok (.value (.bool !b)) w := by
    unfold execOp; rw [hop]; simp only [hx]
    simp [go_sem]
  rw [this]
  exact hK _ _ h
theorem wpOpIn_yield {P : Program} {ops : Array Oper} {Q : Exit → Act → World → Prop} {i : Nat} {o : Oper} {K : Act → World → Prop} {a : Act} {w : World} {c : Call} {f : Operand} {l : Nat} {J : World → Prop} {v : Value}
    (ho : ops[i]? = some o) (hop : o.op = .call c) (hg : o.guard = none) (hc : c.callee = .value f) (hf : a.eval f = .func (.yield l) #[] #[])
    (hy : YieldOK P l (c.args.map a.eval) w (fun e W' => e = .returned v ∧ J W')) (h : ∀ W', J W' → K (a.put o.dst v) W') : wpOpIn (RF none) 0 P ops Q i K a w := by
  refine wpOpIn_step ho fun K' hK => ?_
  have hw : Region.wanted o (yielded ops a.tmps) = true := by unfold Region.wanted; rw [hg]
  rw [if_pos hw]
  refine ⟨fun _ _ => trivial, ?_⟩
  show o.uponIn (RF none) 0 P a K' Q ((Oper.semAt none a.eval o).run P w)
  rw [Oper.semAt_none]
  obtain ⟨fn, tmps, assign, body, hrun, hr⟩ := hy
  have : (execOp a.eval o).run P w = .ok (.round l fn tmps assign body) w := by
    unfold execOp; rw [hop]
    simp only [resolve, hc, hf]
    simp [go_sem, Deferred.ofValue, invoke]
    exact hrun
  rw [this, Oper.uponIn_round]
  refine ⟨fun h => absurd h (by simp [RF, Fence.wide]), hr.mono ?_⟩
  rintro e W' ⟨rfl, hJ⟩
  exact hK _ _ (h W' hJ)
end Go.Proofs.YtpdgmgkkbbndfaaGreatDoor.SX
namespace Go.Proofs.YtpdgmgkkbbndfaaGreatDoor.SX
open Go
def thenC : Code → Code | .cond _ a _ => a | c => c
def opsOf : Code → Array Oper | .region _ ops _ => ops | _ => #[]
def opAt (ops : Array Oper) (i : Nat) : Oper := ops.getD i ⟨none, .move (.const undef), 0, "", #[], none⟩
theorem sim_none {tm : List (Nat × AV)} {nx nt : Nat} {ρ : Nat → BI} {a : Act} {w : World} (gw : GW w) (hsz : a.tmps.size = nt) (hd : a.defers = [])
    (ht : ∀ p ∈ tm, a.tmps[p.1]? = some (conc ρ p.2) ∧ p.2.idsB nx = true) : @Sim env0 ρ ((⟨tm, [], nx⟩ : SL).m nt) a w :=
  @Sim.mk env0 ρ _ _ _ (HSim.none gw) hsz (fun t v hv => ht (t, v) (ofList_mem hv)) (@Dfs.mk env0 _ _ _ _ hd fun b hb => by cases hb)
theorem step_none {P : Program} {c : Code} {nt nx : Nat} {tm tm' : List (Nat × AV)} (hb : BodyOK P c nt nx ⟨tm, [], nx⟩ .normal ⟨tm', [], nx⟩) {ρ : Nat → BI} {a : Act} {w : World} (hs : @Sim env0 ρ ((⟨tm, [], nx⟩ : SL).m nt) a w) :
    c.wpIn (RF none) 0 P (fun x a' w' => x = .normal ∧ Ext w w' ∧ ∃ ρ', @Sim env0 ρ' ((⟨tm', [], nx⟩ : SL).m nt) a' w') a w := by
  have hro : ∀ (b : Nat) (blk : Blk), (Tr.ofList ([] : List (Nat × Blk))).get b = some blk → blk.isRw = false := fun b blk h => by cases b <;> cases h
  refine wpIn_mono (hb env0 rfl ρ (Tr.ofList []) w ρ a w (HStep.refl (@Sim.h env0 _ _ _ _ hs)) hs) ?_
  rintro x a' w' ⟨rfl, ρ', st, hs'⟩
  exact ⟨rfl, st.below hro, ρ', hs'⟩
end Go.Proofs.YtpdgmgkkbbndfaaGreatDoor.SX
namespace Go.Proofs.YtpdgmgkkbbndfaaGreatDoor.SX
open Go
def rangesIn : Code → List Code
  | .seq a b => rangesIn a ++ rangesIn b
  | .cond _ a b => rangesIn a ++ rangesIn b
  | .block _ a => rangesIn a
  | .loop a => rangesIn a
  | .scope a => rangesIn a
  | .rangeFunc g ps a b => [.rangeFunc g ps a b]
  | _ => []
def rcode (P : Program) (f k : Nat) : Code := (rangesIn (fbody P f)).getD k .skip
def rAs : Code → Code | .rangeFunc _ _ a _ => a | c => c
def rBo : Code → Code | .rangeFunc _ _ _ b => b | c => c
end Go.Proofs.YtpdgmgkkbbndfaaGreatDoor.SX

set_option maxRecDepth 100000
namespace Go.Proofs.YtpdgmgkkbbndfaaGreatDoor
open Go Go.Proofs Go.Proofs.YtpdgmgkkbbndfaaGreatDoor.SX
def spLinesF : Nat → List UInt8 → List (List UInt8 × List UInt8)
  | 0, _ => []
  | n + 1, s => bif spFound s [13, 10] then (spBefore s [13, 10], [13, 10]) :: spLinesF n (spAfter s [13, 10]) else [(spBefore s [13, 10], [])]
def spLines (s : List UInt8) : List (List UInt8 × List UInt8) := spLinesF (s.length + 1) s
def s76z (l n : Nat) (brows : List (List AV)) : SL := ⟨[(0, .fn (.yield l) [] []), (1, .ptr ⟨1, 0, 0⟩)], [(0, .cells false [.int .u8] brows), (1, .cells false [.any] [[.slq 0 n]])], 2⟩
def s76i (l : Nat) (rest : List UInt8) : SL := ⟨[(0, .fn (.yield l) [] []), (3, .str rest)], [], 2⟩
def s76b (l : Nat) (s t : List UInt8) (b : Bool) : SL := ⟨[(0, .fn (.yield l) [] []), (4, .str s), (5, .str t), (6, .bool b)], [], 2⟩
def s76c (l : Nat) (s t : List UInt8) (b : Bool) : SL := ⟨[(0, .fn (.yield l) [] []), (4, .str s), (5, .str t), (16, .bool (!b))], [], 2⟩
def s76d (l : Nat) (t : List UInt8) : SL := ⟨[(0, .fn (.yield l) [] []), (5, .str t)], [], 2⟩
theorem y76a (l n : Nat) (brows : List (List AV)) :
 Path (run Tryz.prog P5 100 (seqL (fbody Tryz.prog 76)) (SL.mp 25 ([]) (s76z l n brows))) 2 [] (s76i l (List.map rowByte (sub brows 0 n))) (Ex.normal)
 ((True ∧ (true = true)) ∧ (decide (0 + n ≤ List.length brows) = true)) := by unfold Path; kernel_rfl
theorem y76b (l : Nat) (rest : List UInt8) :
 Path (run Tryz.prog P5 100 (seqL (inBlk (lbody Tryz.prog 76 0))) (SL.mp 25 ([]) (s76i l rest))) 2 [] (s76b l (spBefore rest [13, 10]) (spAfter rest [13, 10]) (spFound rest [13, 10])) (Ex.normal)
 (True ∧ (decide (List.length rest < 4294967281) = true)) := by unfold Path; kernel_rfl
theorem y76c (l : Nat) (s t : List UInt8) (b : Bool) :
 Path (run Tryz.prog P5 100 (seqL (seqL (seqR (inBlk (lbody Tryz.prog 76 0))))) (SL.mp 25 ([]) (s76b l s t b))) 2 [] (s76c l s t b) (Ex.normal) True := by unfold Path; kernel_rfl
theorem y76d (l : Nat) (t : List UInt8) :
 Path (run Tryz.prog P5 100 (seqR (seqR (seqR (inBlk (lbody Tryz.prog 76 0))))) (SL.mp 25 ([]) (s76d l t))) 2 [] (s76i l t) (Ex.normal) True := by unfold Path; kernel_rfl
end Go.Proofs.YtpdgmgkkbbndfaaGreatDoor

set_option maxRecDepth 100000
namespace Go.Proofs.YtpdgmgkkbbndfaaGreatDoor
open Go Go.Proofs Go.Proofs.YtpdgmgkkbbndfaaGreatDoor.SX
theorem after_lt {s t : List UInt8} (h : spFound s t = true) (ht : 0 < t.length) : (spAfter s t).length < s.length ∨ s.length = 0 := by
  unfold spFound spAfter Lib.cut at *
  split
  · rename_i h1
    simp only [List.length_drop]; omega
  · rename_i h1
    rw [if_neg h1] at h; cases h
def R3 (P : Program) : Code := seqL (thenC (seqR (seqL (seqR (inBlk (lbody P 76 0))))))
def R4 (P : Program) : Code := seqL (seqL (seqR (seqR (inBlk (lbody P 76 0)))))
def o3 (P : Program) (i : Nat) : Oper := opAt (opsOf (R3 P)) i
def o4 (P : Program) (i : Nat) : Oper := opAt (opsOf (R4 P)) i
theorem h76 : lbody Tryz.prog 76 0 = .block 1 (.seq (seqL (inBlk (lbody Tryz.prog 76 0))) (.seq (.seq (seqL (seqL (seqR (inBlk (lbody Tryz.prog 76 0))))) (.cond (.tmp 16) (.seq (.region 3 (opsOf (R3 Tryz.prog)) false) .ret) .skip)) (.seq (.seq (.region 4 (opsOf (R4 Tryz.prog)) false) (.cond (.tmp 23) .ret .skip)) (seqR (seqR (seqR (inBlk (lbody Tryz.prog 76 0)))))))) := by kernel_rfl
theorem ops3 : List.range (opsOf (R3 Tryz.prog)).size = [0, 1, 2] := by kernel_rfl
theorem ops4 : List.range (opsOf (R4 Tryz.prog)).size = [0, 1, 2, 3] := by kernel_rfl
def callOf (o : Oper) : Call := match o.op with | .call c => c | _ => ⟨.value (.const undef), #[], #[]⟩
theorem p30 : (opsOf (R3 Tryz.prog))[0]? = some (o3 Tryz.prog 0) ∧ (o3 Tryz.prog 0).op = .move (.tmp 0) ∧ (o3 Tryz.prog 0).guard = none ∧ (o3 Tryz.prog 0).dst = some 17 := ⟨by kernel_rfl, by kernel_rfl, by kernel_rfl, by kernel_rfl⟩
theorem p31 : (opsOf (R3 Tryz.prog))[1]? = some (o3 Tryz.prog 1) ∧ (o3 Tryz.prog 1).op = .move (.tmp 4) ∧ (o3 Tryz.prog 1).guard = none ∧ (o3 Tryz.prog 1).dst = some 18 := ⟨by kernel_rfl, by kernel_rfl, by kernel_rfl, by kernel_rfl⟩
theorem p32 : (opsOf (R3 Tryz.prog))[2]? = some (o3 Tryz.prog 2) ∧ (o3 Tryz.prog 2).op = .call (callOf (o3 Tryz.prog 2)) ∧ (o3 Tryz.prog 2).guard = none ∧ (callOf (o3 Tryz.prog 2)).callee = .value (.tmp 17) ∧ (callOf (o3 Tryz.prog 2)).args = #[.tmp 18, .const (.string ⟨#[]⟩)] := ⟨by kernel_rfl, by kernel_rfl, by kernel_rfl, by kernel_rfl, by kernel_rfl⟩
theorem p40 : (opsOf (R4 Tryz.prog))[0]? = some (o4 Tryz.prog 0) ∧ (o4 Tryz.prog 0).op = .move (.tmp 0) ∧ (o4 Tryz.prog 0).guard = none ∧ (o4 Tryz.prog 0).dst = some 20 := ⟨by kernel_rfl, by kernel_rfl, by kernel_rfl, by kernel_rfl⟩
theorem p41 : (opsOf (R4 Tryz.prog))[1]? = some (o4 Tryz.prog 1) ∧ (o4 Tryz.prog 1).op = .move (.tmp 4) ∧ (o4 Tryz.prog 1).guard = none ∧ (o4 Tryz.prog 1).dst = some 21 := ⟨by kernel_rfl, by kernel_rfl, by kernel_rfl, by kernel_rfl⟩
theorem p42 : (opsOf (R4 Tryz.prog))[2]? = some (o4 Tryz.prog 2) ∧ (o4 Tryz.prog 2).op = .call (callOf (o4 Tryz.prog 2)) ∧ (o4 Tryz.prog 2).guard = none ∧ (callOf (o4 Tryz.prog 2)).callee = .value (.tmp 20) ∧ (callOf (o4 Tryz.prog 2)).args = #[.tmp 21, .const (.string ⟨#[13, 10]⟩)] ∧ (o4 Tryz.prog 2).dst = some 22 := ⟨by kernel_rfl, by kernel_rfl, by kernel_rfl, by kernel_rfl, by kernel_rfl, by kernel_rfl⟩
theorem p43 : (opsOf (R4 Tryz.prog))[3]? = some (o4 Tryz.prog 3) ∧ (o4 Tryz.prog 3).op = .unOp .not 4 (.tmp 22) ∧ (o4 Tryz.prog 3).guard = none ∧ (o4 Tryz.prog 3).dst = some 23 := ⟨by kernel_rfl, by kernel_rfl, by kernel_rfl, by kernel_rfl⟩
abbrev Yv (p : List UInt8 × List UInt8) : Array Value := #[.string ⟨p.1.toArray⟩, .string ⟨p.2.toArray⟩]
theorem getD_of {a : Array Value} {i : Nat} {v : Value} (h : a[i]? = some v) : a.getD i undef = v := by simp [Array.getD_eq_getD_getElem?, h]
theorem rounds76 {l : Nat} {J : Nat → World → Prop} {Lst : List (List UInt8 × List UInt8)} (hExt : ∀ k W W', J k W → Ext W W' → J k W') (hgw : ∀ k W, J k W → GW W)
    (hy : ∀ (k : Nat) (W : World) (p : List UInt8 × List UInt8), Lst[k]? = some p → J k W → YieldOK Tryz.prog l (Yv p) W (fun e W' => e = .returned (.bool true) ∧ J (k + 1) W')) :
    ∀ (n : Nat) (rest : List UInt8) (k : Nat) (ρ : Nat → BI) (a : Act) (W : World), rest.length < n → rest.length < 4294967281 → spLinesF n rest = Lst.drop k → J k W → @Sim env0 ρ ((s76i l rest).m 25) a W →
      @roundsE env0 Tryz.prog (lbody Tryz.prog 76 0) (fun x a' w' => x = .ret ∧ a'.defers = [] ∧ J Lst.length w') n a W := by
  intro n
  induction n with
  | zero => intro rest k ρ a W h; omega
  | succ n ih =>
    intro rest k ρ a W hn hb hL hJ hs
    rw [roundsE_succ, h76]
    refine @wpE_block env0 _ _ _ _ _ _ (@wpE_seq env0 _ _ _ _ _ _ ?_)
    refine wpIn_mono (step_none (body_of P5_ok (y76b l rest) ⟨trivial, decide_eq_true hb⟩ rfl) hs) ?_
    rintro x a1 W1 ⟨rfl, e1, ρ1, hs1⟩
    refine @wpE_seq env0 _ _ _ _ _ _ (@wpE_seq env0 _ _ _ _ _ _ ?_)
    refine wpIn_mono (step_none (body_of P5_ok (y76c l _ _ _) trivial rfl) hs1) ?_
    rintro x a2 W2 ⟨rfl, e2, ρ2, hs2⟩
    have hJ2 : J k W2 := hExt _ _ _ (hExt _ _ _ hJ e1) e2
    have t0 : a2.tmps[0]? = some (.func (.yield l) #[] #[]) := (@Sim.tms env0 _ _ _ _ hs2 0 _ rfl).1
    have t4 : a2.tmps[4]? = some (.string ⟨(spBefore rest [13, 10]).toArray⟩) := (@Sim.tms env0 _ _ _ _ hs2 4 _ rfl).1
    have t5 : a2.tmps[5]? = some (.string ⟨(spAfter rest [13, 10]).toArray⟩) := (@Sim.tms env0 _ _ _ _ hs2 5 _ rfl).1
    have t16 : a2.tmps[16]? = some (.bool (!spFound rest [13, 10])) := (@Sim.tms env0 _ _ _ _ hs2 16 _ rfl).1
    obtain ⟨_, t0'⟩ := Array.getElem?_eq_some_iff.1 t0
    obtain ⟨_, t4'⟩ := Array.getElem?_eq_some_iff.1 t4
    obtain ⟨_, t5'⟩ := Array.getElem?_eq_some_iff.1 t5
    have hsz : a2.tmps.size = 25 := @Sim.size env0 _ _ _ _ hs2
    have hd : a2.defers = [] := (@Sim.defers env0 _ _ _ _ hs2).eq
    cases hf : spFound rest [13, 10] with
    | false =>
      rw [hf] at t16
      unfold spLinesF at hL
      rw [hf, cond_false] at hL
      have hk : Lst[k]? = some (spBefore rest [13, 10], []) := by
        have := congrArg (fun l => l[0]?) hL
        simpa [List.getElem?_drop] using this.symm
      have hN : k + 1 = Lst.length := by
        have := congrArg List.length hL
        simp at this; omega
      refine @wpE_cond_true env0 _ _ _ _ _ _ _ (getD_of t16) (@wpE_seq env0 _ _ _ _ _ _ ?_)
      refine wpIn_region ?_
      rw [ops3]
      rw [wpOpsIn_cons]
      refine wpOpIn_move p30.1 p30.2.1 p30.2.2.1 ?_
      rw [wpOpsIn_cons]
      refine wpOpIn_move p31.1 p31.2.1 p31.2.2.1 ?_
      rw [wpOpsIn_cons]
      refine wpOpIn_yield p32.1 p32.2.1 p32.2.2.1 p32.2.2.2.1 (l := l) (v := .bool true) (J := J (k + 1)) ?_ ?_ ?_
      · rw [p30.2.2.2, p31.2.2.2]
        simp [Act.eval, Act.put, Array.getD_eq_getD_getElem?, Array.getElem?_setIfInBounds, hsz, t0, t0']
      · rw [p32.2.2.2.2, p30.2.2.2, p31.2.2.2]
        have hv : (#[Operand.tmp 18, .const (.string ⟨#[]⟩)].map ((a2.put (some 17) (a2.eval (.tmp 0))).put (some 18) ((a2.put (some 17) (a2.eval (.tmp 0))).eval (.tmp 4))).eval) = Yv (spBefore rest [13, 10], []) := by
          simp [Act.eval, Act.put, Array.getD_eq_getD_getElem?, Array.getElem?_setIfInBounds, hsz, t0, t4, t0', t4']
        rw [hv]
        exact hy k W2 _ hk hJ2
      · intro W' hJ'
        refine @wpE_ret env0 _ _ _ _ ⟨rfl, ?_, hN ▸ hJ'⟩
        cases (o3 Tryz.prog 2).dst <;> cases (o3 Tryz.prog 1).dst <;> cases (o3 Tryz.prog 0).dst <;> exact hd
    | true =>
      rw [hf] at t16
      unfold spLinesF at hL
      rw [hf, cond_true] at hL
      have hk : Lst[k]? = some (spBefore rest [13, 10], [13, 10]) := by
        have := congrArg (fun l => l[0]?) hL
        simpa [List.getElem?_drop] using this.symm
      have hL' : spLinesF n (spAfter rest [13, 10]) = Lst.drop (k + 1) := by
        have := congrArg List.tail hL
        simpa using this
      refine @wpE_cond_false env0 _ _ _ _ _ _ _ (getD_of t16) (@wpE_skip env0 _ _ _ _ ?_)
      refine @wpE_seq env0 _ _ _ _ _ _ (@wpE_seq env0 _ _ _ _ _ _ ?_)
      refine wpIn_region ?_
      rw [ops4]
      rw [wpOpsIn_cons]
      refine wpOpIn_move p40.1 p40.2.1 p40.2.2.1 ?_
      rw [wpOpsIn_cons]
      refine wpOpIn_move p41.1 p41.2.1 p41.2.2.1 ?_
      rw [wpOpsIn_cons]
      refine wpOpIn_yield p42.1 p42.2.1 p42.2.2.1 p42.2.2.2.1 (l := l) (v := .bool true) (J := J (k + 1)) ?_ ?_ ?_
      · rw [p40.2.2.2, p41.2.2.2]
        simp [Act.eval, Act.put, Array.getD_eq_getD_getElem?, Array.getElem?_setIfInBounds, hsz, t0, t0']
      · rw [p42.2.2.2.2.1, p40.2.2.2, p41.2.2.2]
        have hv : (#[Operand.tmp 21, .const (.string ⟨#[13, 10]⟩)].map ((a2.put (some 20) (a2.eval (.tmp 0))).put (some 21) ((a2.put (some 20) (a2.eval (.tmp 0))).eval (.tmp 4))).eval) = Yv (spBefore rest [13, 10], [13, 10]) := by
          simp [Act.eval, Act.put, Array.getD_eq_getD_getElem?, Array.getElem?_setIfInBounds, hsz, t0, t4, t0', t4']
        rw [hv]
        exact hy k W2 _ hk hJ2
      · intro W' hJ'
        rw [p42.2.2.2.2.2, p40.2.2.2, p41.2.2.2]
        rw [wpOpsIn_cons]
        refine wpOpIn_not p43.1 p43.2.1 p43.2.2.1 (b := true) (by simp [Act.eval, Act.put, Array.getD_eq_getD_getElem?, Array.getElem?_setIfInBounds, hsz]) ?_
        rw [p43.2.2.2]
        refine @wpE_cond_false env0 _ _ _ _ _ _ _ (by simp [Act.eval, Act.put, Array.getD_eq_getD_getElem?, Array.getElem?_setIfInBounds, hsz]) (@wpE_skip env0 _ _ _ _ ?_)
        refine wpIn_mono (step_none (ρ := ρ2) (body_of P5_ok (y76d l (spAfter rest [13, 10])) trivial rfl) (sim_none (hgw _ _ hJ') (by simp [Act.put, hsz]) hd ?_)) ?_
        · intro p hp
          simp only [List.mem_cons, List.not_mem_nil, or_false] at hp
          rcases hp with rfl | rfl
          · exact ⟨by simp [Act.put, Array.getElem?_setIfInBounds, t0, t0', conc, concL], rfl⟩
          · exact ⟨by simp [Act.put, Array.getElem?_setIfInBounds, t5, t5', conc], rfl⟩
        · rintro x a3 W3 ⟨rfl, e3, ρ3, hs3⟩
          have hlt := len_after rest [13, 10]
          have hlt2 : (spAfter rest [13, 10]).length < n := by
            rcases after_lt hf (by decide) with h | h
            · omega
            · rw [List.length_eq_zero_iff.1 h] at hf; exact absurd hf (by decide)
          exact ih _ (k + 1) ρ3 a3 W3 hlt2 (by omega) hL' (hExt _ _ _ hJ' e3) hs3
theorem iter76 {ρ : Nat → BI} {hp : Tr Blk} {nx : Nat} {w : World} (hs : HSim ρ hp nx w) {b c n : Nat} {rb rc : Bool} {brows : List (List AV)} (hb : hp.get b = some (.cells rb [.any] [[.slq c n]])) (hc : hp.get c = some (.cells rc [.int .u8] brows))
    (hn : n = brows.length) (hlen : n < 4294967280) : IterOK Tryz.prog 76 (concL ρ [.ptr ⟨b, 0, 0⟩]).toArray w (spLines (brows.map rowByte)).length
      (fun k => #[conc ρ (.str ((spLines (brows.map rowByte)).getD k ([], [])).1), conc ρ (.str ((spLines (brows.map rowByte)).getD k ([], [])).2)]) := by
  intro l J hExt hgw hy hJ0
  subst hn
  obtain ⟨σ, hσ⟩ : ∃ σ : Nat → Nat, (fun i => if i = 0 then c else b) = σ := ⟨_, rfl⟩
  have hσ0 : σ 0 = c := by rw [← hσ]; rfl
  have hσ1 : σ 1 = b := by rw [← hσ]; rfl
  have hE : HSim (fun i => ρ (σ i)) (addBlks .e 0 [.cells false [.int .u8] brows, .cells false [.any] [[.slq 0 brows.length]]]) ([.cells false [.int .u8] brows, .cells false [.any] [[.slq 0 brows.length]]] : List Blk).length w := by
    refine HSim.ins hs.gw fun i blk hi => ?_
    match i with
    | 0 =>
      simp at hi; subst hi
      refine ⟨Blk.sat_ren (σ := σ) ?_, rfl, rfl⟩
      rw [hσ0]; exact Blk.ro (hs.sat c _ hc)
    | 1 =>
      simp at hi; subst hi
      refine ⟨Blk.sat_ren (σ := σ) ?_, rfl, rfl⟩
      rw [hσ1]
      have : (Blk.cells false [.any] [[.slq 0 brows.length]]).ren σ = .cells false [.any] [[.slq c brows.length]] := by
        simp [Blk.ren, Kd.isAny, renL, ren, hσ0]
      rw [this]
      exact Blk.ro (hs.sat b _ hb)
    | i + 2 => simp at hi
  have hfn : Tryz.prog.funcs[76]? = some Tryz.f76 := by kernel_rfl
  have hbody : Tryz.f76.body = some (.seq (seqL (fbody Tryz.prog 76)) (.block 0 (.loop (lbody Tryz.prog 76 0)))) := by kernel_rfl
  refine callsIn_wide (n := 0).1 (callsIn_of_wp_marks hfn hbody trivial ?_ rfl)
  refine @wpE_seq env0 _ _ _ _ _ _ ?_
  have hsim : @Sim env0 (fun i => ρ (σ i)) ((s76z l brows.length brows).m 25) { tmps := #[Value.func (Fn.yield l) #[] #[]] ++ (concL ρ [.ptr ⟨b, 0, 0⟩]).toArray ++ Array.replicate (Tryz.f76.ntmps - (#[Value.func (Fn.yield l) #[] #[]] ++ (concL ρ [.ptr ⟨b, 0, 0⟩]).toArray).size) undef, defers := [] } w := by
    have hnt : Tryz.f76.ntmps = 25 := by kernel_rfl
    refine @Sim.mk env0 _ _ _ _ ?_ (by simp [concL, hnt, SL.m]) ?_ (@Dfs.mk env0 _ _ _ _ rfl fun b hb => by cases hb)
    · have : Tr.ofList (s76z l brows.length brows).hp = addBlks .e 0 [.cells false [.int .u8] brows, .cells false [.any] [[.slq 0 brows.length]]] := by rfl
      show HSim _ (Tr.ofList (s76z l brows.length brows).hp) 2 w
      refine ⟨⟨fun b blk h => hE.sat b blk ?_, fun b1 b2 k1 k2 hne h1 h2 => hE.sep b1 b2 k1 k2 hne ?_ ?_, fun b blk h => hE.wf b blk ?_⟩, hE.gw, fun b blk h => hE.ng b blk ?_⟩
      all_goals (first | exact h | exact h1 | exact h2)
    · intro t v hv
      have hv := ofList_mem (show (Tr.ofList (s76z l brows.length brows).tm).get t = some v from hv)
      simp only [s76z, List.mem_cons, Prod.mk.injEq, List.not_mem_nil, or_false] at hv
      rcases hv with ⟨rfl, rfl⟩ | ⟨rfl, rfl⟩
      · exact ⟨by simp [conc, concL], rfl⟩
      · refine ⟨?_, rfl⟩
        simp [conc, concL, hσ1, addr]
  have hstep := body_of P5_ok (y76a l brows.length brows) ⟨⟨trivial, rfl⟩, decide_eq_true (by omega)⟩ rfl env0 rfl _ _ w _ _ w (HStep.refl (@Sim.h env0 _ _ _ _ hsim)) hsim
  refine wpIn_mono hstep ?_
  rintro x a1 W1 ⟨rfl, ρ1, st, hs1⟩
  have hE1 : Ext w W1 := st.below (fun b blk h => by
    have := ofList_mem h
    simp only [s76z, List.mem_cons, Prod.mk.injEq, List.not_mem_nil, or_false] at this
    rcases this with ⟨rfl, rfl⟩ | ⟨rfl, rfl⟩ <;> rfl)
  refine @wpE_block env0 _ _ _ _ _ _ ?_
  have hsub : (sub brows 0 brows.length).map rowByte = brows.map rowByte := by rw [sub_all brows rfl]
  rw [hsub] at hs1
  have hr := rounds76 (l := l) (J := J) (Lst := spLines (brows.map rowByte)) hExt hgw (fun k W p hp hJ => by
    have hkl : k < (spLines (brows.map rowByte)).length := by
      rcases Nat.lt_or_ge k (spLines (brows.map rowByte)).length with h | h
      · exact h
      · rw [List.getElem?_eq_none h] at hp; cases hp
    have := hy k W hkl hJ
    have hg : (spLines (brows.map rowByte)).getD k ([], []) = p := by rw [List.getD_eq_getElem?_getD, hp]; rfl
    simp only [hg] at this
    exact this) ((brows.map rowByte).length + 1) (brows.map rowByte) 0 ρ1 a1 W1 (by omega) (by simp; omega) rfl (hExt _ _ _ hJ0 hE1) hs1
  refine wpIn_mono (@wpE_loop_rounds env0 _ _ _ _ _ _ hr) ?_
  rintro x a' w' ⟨rfl, hd, hJ⟩
  show LeavesInM Fence.wide 0 Tryz.prog Tryz.f76 a'.tmps _ a'.defers .returning w'
  rw [hd]
  have hres : Tryz.f76.results = #[] := by kernel_rfl
  refine ⟨_, results_run (vs := []) (ρ := ρ) ?_, ⟨_, rfl⟩, hJ⟩
  rw [hres]; rfl
end Go.Proofs.YtpdgmgkkbbndfaaGreatDoor

set_option maxRecDepth 100000
namespace Go.Proofs.YtpdgmgkkbbndfaaGreatDoor
open Go Go.Proofs Go.Proofs.YtpdgmgkkbbndfaaGreatDoor.SX
def q45p : Entry := fun args hp nx => match args with
  | [sv] => match slIn hp [Kd.str, Kd.str] sv with
    | some (c, rows) => some (c && decide (0 < rows.length ∧ rows.length ≤ 4398046511104), .sl ⟨nx, 0, 0⟩ rows.length .open_, [.cells true [Kd.str, Kd.str] rows])
    | none => none
  | _ => none
theorem q45p_ok : EntryOK Tryz.prog 45 q45p := by
  intro args hp nx c v bs h hc ρ w hs hi
  unfold q45p at h
  split at h
  · rename_i sv
    split at h
    · rename_i c0 rows hsl
      cases h
      simp only [Bool.and_eq_true] at hc
      obtain ⟨hc1, hc2⟩ := hc
      obtain ⟨hpos, hlen⟩ := of_decide_eq_true hc2
      have hr := slIn_spec hs hsl hc1 rfl
      have hv0 : (concL ρ [sv]).toArray = #[conc ρ sv] := by simp [concL]
      rw [hv0]
      generalize conc ρ sv = val at hr
      cases hr with
      | nil h => rw [h] at hpos; exact absurd hpos (by decide)
      | cells bi c h =>
        have hE : HSim (fun _ => bi) (addBlks .e 0 [.cells false [Kd.str, Kd.str] rows]) ([.cells false [Kd.str, Kd.str] rows] : List Blk).length w := HSim.ins hs.gw (fun i blk hi => by
          obtain ⟨rfl, rfl⟩ := bs1 hi
          exact ⟨h, rfl, rfl⟩)
        have hv : (concL (fun _ => bi) [AV.sl (Loc.mk 0 0 0) rows.length (Cap.known c)]).toArray = #[.slice (some ⟨bi.blk, bi.off, none⟩) rows.length c] := by simp [concL, conc, addr, capOf]
        rw [← hv]
        refine entry_of (ρ0 := fun _ => bi) (ins := [.cells false [Kd.str, Kd.str] rows]) (v0 := .sl ⟨1, 0, 0⟩ (0 + rows.length) .open_) hs rfl rfl ?_ (by simp [AV.idsB, blt_iff]) ?_ (fun blk hb => by
          simp only [List.mem_cons, List.not_mem_nil, or_false] at hb; subst hb; exact cells_sat_at rfl)
        · refine (calls_ofB P2_ok (c45n rows rows.length c) ⟨⟨⟨⟨trivial, decide_eq_true (by omega)⟩, decide_eq_false (by omega)⟩, rfl⟩, decide_eq_true (by omega)⟩ hE rfl).mono fun e w' hq => ?_
          obtain ⟨ρ', rfl, st⟩ := hq
          rw [sub_all rows rfl] at st
          exact ⟨ρ', rfl, st⟩
        · intro ρ' ρ'' h1 h2 h3
          have := h3 0 (by simp)
          simp at this
          simp [conc, addr, capOf, this]
    · cases h
  · cases h
def P6 : Prims := addP (addP P5 26 q26) 46 q46
theorem P6_ok : PrimsOK Tryz.prog P6 := addP_ok (addP_ok P5_ok q26_ok) q46_ok
def P6o : Prims := addP P6 45 q45
theorem P6o_ok : PrimsOK Tryz.prog P6o := addP_ok P6_ok q45_ok
def P6w : Prims := addP P6 45 q45p
theorem P6w_ok : PrimsOK Tryz.prog P6w := addP_ok P6_ok q45p_ok
end Go.Proofs.YtpdgmgkkbbndfaaGreatDoor

