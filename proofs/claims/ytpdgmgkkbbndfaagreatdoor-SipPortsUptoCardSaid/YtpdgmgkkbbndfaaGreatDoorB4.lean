/- Part 5 of the proof: texts that the last one builds upon. Conditions: as each theorem says. -/
import Derived.Test.YtpdgmgkkbbndfaaGreatDoorB3
set_option linter.unusedSectionVars false
set_option linter.unusedSimpArgs false
set_option linter.unusedVariables false
set_option maxRecDepth 100000
set_option maxHeartbeats 1600000
namespace Go.Proofs.YtpdgmgkkbbndfaaGreatDoor
open Go Go.Proofs Go.Proofs.YtpdgmgkkbbndfaaGreatDoor.SX
def b14zI (start : List UInt8) (hrows : List (List AV)) (hn bn : Nat) : SL := ⟨[(1, .ptr ⟨2, 0, 0⟩), (2, .ptr ⟨3, 0, 0⟩), (3, .ptr ⟨4, 0, 0⟩), (4, .int .i64 0)], [(0, .cells false [.str, .str] hrows), (2, .cells true [.str, .any, .any] [[.str start, .slq 0 hn, .slq 1 bn]]), (3, .cells true [.str, .any, .any] [[.str [], .nilSl, .nilSl]]), (4, .cells true [.str, .any, .any] [[.str start, .nilSl, .slq 1 bn]])], 5⟩
def b14I (start : List UInt8) (hrows : List (List AV)) (hn bn : Nat) (rows : List (List AV)) (n : Nat) (k : Int) : SL := ⟨[(1, .ptr ⟨2, 0, 0⟩), (2, .ptr ⟨3, 0, 0⟩), (3, .ptr ⟨4, 0, 0⟩), (4, .int .i64 k)], [(0, .cells false [.str, .str] hrows), (2, .cells true [.str, .any, .any] [[.str start, .slq 0 hn, .slq 1 bn]]), (3, .cells true [.str, .any, .any] [[.str [], .nilSl, .nilSl]]), (4, .cells true [.str, .any, .any] [[.str start, .sl ⟨5, 0, 0⟩ n .open_, .slq 1 bn]]), (5, .cells true [.str, .str] rows)], 6⟩
theorem b14z_TEE (start : List UInt8) (hrows : List (List AV)) (hn : Nat) (bn : Nat) :
 Path (run Tryz.prog Pr 100 (lbody Tryz.prog 14 0) (SL.mp 40 ([.as_ true, PI.ev 1, PI.ev 1]) (b14zI start hrows hn bn))) 5 [6] (b14I (start) (hrows) (hn) (bn) ([[AV.str (AV.toStr (List.getD (List.getD hrows 0 []) 0 AV.undef)), AV.str (AV.toStr (List.getD (List.getD hrows 0 []) 1 AV.undef))]]) (1) ((1 : Int))) (Ex.normal)
 (((((((((((((((True ∧ (true = true)) ∧ (decide ((0 : Int) < (↑hn : Int)) = true)) ∧ (true = true)) ∧ (true = true)) ∧ (decide (0 < hn) = true)) ∧ (decide ((0 : Int) ≤ (0 : Int) ∧ (0 : Int) < (↑hn : Int)) = true)) ∧ (decide (0 < List.length hrows) = true)) ∧ (true = true)) ∧ (decide (0 < hn) = true)) ∧ (decide ((0 : Int) ≤ (0 : Int) ∧ (0 : Int) < (↑hn : Int)) = true)) ∧ (decide (0 < List.length hrows) = true)) ∧ (true = true)) ∧ (true = true)) ∧ (true = true)) ∧ (true = true)) := by unfold Path; kernel_rfl
theorem b14z_F (start : List UInt8) (hrows : List (List AV)) (hn : Nat) (bn : Nat) :
 Path (run Tryz.prog Pr 100 (lbody Tryz.prog 14 0) (SL.mp 40 ([.as_ false]) (b14zI start hrows hn bn))) 5 [] (b14zI (start) (hrows) (hn) (bn)) (Ex.exit 0)
 ((True ∧ (true = true)) ∧ (decide ((0 : Int) < (↑hn : Int)) = false)) := by unfold Path; kernel_rfl
theorem b14_TT (start : List UInt8) (hrows : List (List AV)) (hn : Nat) (bn : Nat) (rows : List (List AV)) (n : Nat) (k : Int) :
 Path (run Tryz.prog Pr 100 (lbody Tryz.prog 14 0) (SL.mp 40 ([.as_ true, .as_ true]) (b14I start hrows hn bn rows n k))) 5 [7] (b14I (start) (hrows) (hn) (bn) (rows ++ [[AV.str (AV.toStr (List.getD (List.getD hrows (0 + Int.toNat k) []) (0) AV.undef)), AV.str (AV.toStr (List.getD (List.getD hrows (0 + Int.toNat k) []) (1) AV.undef))]]) (n + 1) (IntKind.wrap IntKind.i64 (k + (1 : Int)))) (Ex.normal)
 (((((((((((((((((True ∧ (true = true)) ∧ (decide (k < (↑hn : Int)) = true)) ∧ (decide (k < (200 : Int)) = true)) ∧ (true = true)) ∧ (true = true)) ∧ (decide (0 < hn) = true)) ∧ (decide ((0 : Int) ≤ k ∧ k < (↑hn : Int)) = true)) ∧ (decide (0 + Int.toNat k < List.length hrows) = true)) ∧ (true = true)) ∧ (decide (0 < hn) = true)) ∧ (decide ((0 : Int) ≤ k ∧ k < (↑hn : Int)) = true)) ∧ (decide (0 + Int.toNat k < List.length hrows) = true)) ∧ (true = true)) ∧ (decide (0 = 0 ∧ n = List.length rows) = true)) ∧ (decide ((n + 1) * 32 ≤ 140737488355328) = true)) ∧ (true = true)) ∧ (true = true)) := by unfold Path; kernel_rfl
theorem b14_F (start : List UInt8) (hrows : List (List AV)) (hn : Nat) (bn : Nat) (rows : List (List AV)) (n : Nat) (k : Int) :
 Path (run Tryz.prog Pr 100 (lbody Tryz.prog 14 0) (SL.mp 40 ([.as_ false]) (b14I start hrows hn bn rows n k))) 5 [5] (b14I (start) (hrows) (hn) (bn) (rows) (n) (k)) (Ex.exit 0)
 ((True ∧ (true = true)) ∧ (decide (k < (↑hn : Int)) = false)) := by unfold Path; kernel_rfl
theorem c14z_L (start : List UInt8) (hrows : List (List AV)) (brows : List (List AV)) :
 Path (runCallB Tryz.prog Pr 100 14 [AV.agg [AV.str start, AV.slq 0 (List.length hrows), AV.slq 1 (List.length brows)]] (st0 [Blk.cells false [Kd.str, Kd.str] hrows, Blk.cells false [Kd.int IntKind.u8] brows] ([PI.loop (b14zI start hrows (List.length hrows) (List.length brows)) (Ex.exit 0) (b14zI start hrows (List.length hrows) (List.length brows))]))) 2 [] (SL.mk [] [] 2) (Out.ret (AV.agg [AV.str start, AV.nilSl, AV.slq 1 (List.length brows)]))
 (((((((((((((((((True ∧ (true = true)) ∧ (true = true)) ∧ (true = true)) ∧ (true = true)) ∧ (true = true)) ∧ (true = true)) ∧ (true = true)) ∧ (true = true)) ∧ (LoopOK Tryz.prog (lbody Tryz.prog 14 0) (40) (SL.mk [(1, AV.ptr (Loc.mk 2 0 0)), (2, AV.ptr (Loc.mk 3 0 0)), (3, AV.ptr (Loc.mk 4 0 0)), (4, AV.int IntKind.i64 (0 : Int))] [(0, Blk.cells false [Kd.str, Kd.str] hrows), (2, Blk.cells true [Kd.str, Kd.any, Kd.any] [[AV.str start, AV.slq 0 (List.length hrows), AV.slq 1 (List.length brows)]]), (3, Blk.cells true [Kd.str, Kd.any, Kd.any] [[AV.str [], AV.nilSl, AV.nilSl]]), (4, Blk.cells true [Kd.str, Kd.any, Kd.any] [[AV.str start, AV.nilSl, AV.slq 1 (List.length brows)]])] 5) (Ex.exit 0) (SL.mk [(1, AV.ptr (Loc.mk 2 0 0)), (2, AV.ptr (Loc.mk 3 0 0)), (3, AV.ptr (Loc.mk 4 0 0)), (4, AV.int IntKind.i64 (0 : Int))] [(0, Blk.cells false [Kd.str, Kd.str] hrows), (2, Blk.cells true [Kd.str, Kd.any, Kd.any] [[AV.str start, AV.slq 0 (List.length hrows), AV.slq 1 (List.length brows)]]), (3, Blk.cells true [Kd.str, Kd.any, Kd.any] [[AV.str [], AV.nilSl, AV.nilSl]]), (4, Blk.cells true [Kd.str, Kd.any, Kd.any] [[AV.str start, AV.nilSl, AV.slq 1 (List.length brows)]])] 5))) ∧ (true = true)) ∧ (true = true)) ∧ (true = true)) ∧ (true = true)) ∧ (true = true)) ∧ (true = true)) ∧ (true = true)) ∧ (true = true)) := by unfold Path; kernel_rfl
theorem c14_L (start : List UInt8) (hrows : List (List AV)) (brows : List (List AV)) (rows : List (List AV)) (n : Nat) (k : Int) :
 Path (runCallB Tryz.prog Pr 100 14 [AV.agg [AV.str start, AV.slq 0 (List.length hrows), AV.slq 1 (List.length brows)]] (st0 [Blk.cells false [Kd.str, Kd.str] hrows, Blk.cells false [Kd.int IntKind.u8] brows] ([PI.loop (b14zI start hrows (List.length hrows) (List.length brows)) (Ex.exit 0) (b14I start hrows (List.length hrows) (List.length brows) rows n k)]))) 2 [5] (SL.mk [] [(2, .cells true [Kd.str, Kd.str] rows)] 3) (Out.ret (ren (sig 2 [5]) (AV.agg [AV.str start, AV.sl (Loc.mk 2 0 0) n Cap.open_, AV.slq 1 (List.length brows)])))
 (((((((((((((((((True ∧ (true = true)) ∧ (true = true)) ∧ (true = true)) ∧ (true = true)) ∧ (true = true)) ∧ (true = true)) ∧ (true = true)) ∧ (true = true)) ∧ (LoopOK Tryz.prog (lbody Tryz.prog 14 0) (40) (SL.mk [(1, AV.ptr (Loc.mk 2 0 0)), (2, AV.ptr (Loc.mk 3 0 0)), (3, AV.ptr (Loc.mk 4 0 0)), (4, AV.int IntKind.i64 (0 : Int))] [(0, Blk.cells false [Kd.str, Kd.str] hrows), (2, Blk.cells true [Kd.str, Kd.any, Kd.any] [[AV.str start, AV.slq 0 (List.length hrows), AV.slq 1 (List.length brows)]]), (3, Blk.cells true [Kd.str, Kd.any, Kd.any] [[AV.str [], AV.nilSl, AV.nilSl]]), (4, Blk.cells true [Kd.str, Kd.any, Kd.any] [[AV.str start, AV.nilSl, AV.slq 1 (List.length brows)]])] 5) (Ex.exit 0) (SL.mk [(1, AV.ptr (Loc.mk 2 0 0)), (2, AV.ptr (Loc.mk 3 0 0)), (3, AV.ptr (Loc.mk 4 0 0)), (4, AV.int IntKind.i64 k)] [(0, Blk.cells false [Kd.str, Kd.str] hrows), (2, Blk.cells true [Kd.str, Kd.any, Kd.any] [[AV.str start, AV.slq 0 (List.length hrows), AV.slq 1 (List.length brows)]]), (3, Blk.cells true [Kd.str, Kd.any, Kd.any] [[AV.str [], AV.nilSl, AV.nilSl]]), (4, Blk.cells true [Kd.str, Kd.any, Kd.any] [[AV.str start, AV.sl (Loc.mk 5 0 0) n Cap.open_, AV.slq 1 (List.length brows)]]), (5, Blk.cells true [Kd.str, Kd.str] rows)] 6))) ∧ (true = true)) ∧ (true = true)) ∧ (true = true)) ∧ (true = true)) ∧ (true = true)) ∧ (true = true)) ∧ (true = true)) ∧ (true = true)) := by unfold Path; kernel_rfl
def nrm (r : List AV) : List AV := [.str (hN r), .str (hV r)]
def spNorm (rows : List (List AV)) : List (List AV) := rows.map nrm
theorem norm_length (rows : List (List AV)) : (spNorm rows).length = rows.length := by simp [spNorm]
def I14 (start : List UInt8) (rows : List (List AV)) (bn : Nat) : Nat → SL
  | 0 => b14zI start rows rows.length bn
  | k + 1 => b14I start rows rows.length bn (spNorm (rows.take (k + 1))) (k + 1) ((k + 1 : Nat) : Int)
theorem norm_succ {rows : List (List AV)} {k : Nat} (h : k < rows.length) : spNorm (rows.take (k + 1)) = spNorm (rows.take k) ++ [[.str (hN rows[k]), .str (hV rows[k])]] := by
  unfold spNorm
  rw [take_snoc h, List.map_append]
  rfl
theorem ref_loop {start : List UInt8} {rows : List (List AV)} (bn : Nat) (hl : rows.length ≤ 200) :
    LoopOK Tryz.prog (lbody Tryz.prog 14 0) 40 (I14 start rows bn 0) (.exit 0) (I14 start rows bn rows.length) := by
  refine loop_rule (I := I14 start rows bn) (pre := fun k => k ≤ rows.length) (μ := fun k => rows.length - k) _ _ rfl (fun ρ => by simp [Ex.conc]) ?_ (x0 := 0) (pick := []) (Nat.zero_le _) ⟨by kernel_rfl, map_fst_snd (by kernel_rfl)⟩
  intro k hk
  by_cases h : k < rows.length
  · left
    refine ⟨k + 1, by omega, by omega, ?_⟩
    have w := succ64 (n := rows.length) h (by omega)
    have hr := row_at h
    have hlen : (spNorm (rows.take k)).length = k := by rw [norm_length, List.length_take]; omega
    cases k with
    | zero =>
      have c1 : decide ((0 : Int) < ((rows.length : Nat) : Int)) = true := decide_eq_true (by omega)
      have c2 : decide (0 < rows.length) = true := decide_eq_true h
      have c3 : decide ((0 : Int) ≤ (0 : Int) ∧ (0 : Int) < ((rows.length : Nat) : Int)) = true := decide_eq_true (by omega)
      refine body_by Pr_ok (b14z_TEE start rows rows.length bn) ?_ ⟨⟨⟨⟨⟨⟨⟨⟨⟨⟨⟨⟨⟨⟨⟨trivial, rfl⟩, c1⟩, rfl⟩, rfl⟩, c2⟩, c3⟩, c2⟩, rfl⟩, c2⟩, c3⟩, c2⟩, rfl⟩, rfl⟩, rfl⟩, rfl⟩ rfl
      have hr0 : rows.getD 0 [] = rows[0] := hr
      rw [hr0]
      show _ = b14I start rows rows.length bn (spNorm (rows.take (0 + 1))) (0 + 1) ((0 + 1 : Nat) : Int)
      rw [norm_succ h]
      rfl
    | succ k =>
      have c1 : decide (((k + 1 : Nat) : Int) < ((rows.length : Nat) : Int)) = true := decide_eq_true (by omega)
      have c2 : decide (((k + 1 : Nat) : Int) < (200 : Int)) = true := decide_eq_true (by omega)
      have c3 : decide (0 < rows.length) = true := decide_eq_true (by omega)
      have c4 : decide ((0 : Int) ≤ ((k + 1 : Nat) : Int) ∧ ((k + 1 : Nat) : Int) < ((rows.length : Nat) : Int)) = true := decide_eq_true (by omega)
      have c5 : decide (0 + Int.toNat ((k + 1 : Nat) : Int) < rows.length) = true := decide_eq_true (by simp only [Int.toNat_natCast]; omega)
      have c6 : decide (0 = 0 ∧ k + 1 = (spNorm (rows.take (k + 1))).length) = true := decide_eq_true ⟨rfl, hlen.symm⟩
      have c7 : decide ((k + 1 + 1) * 32 ≤ 140737488355328) = true := decide_eq_true (by omega)
      refine body_by Pr_ok (b14_TT start rows rows.length bn _ _ _) ?_ ⟨⟨⟨⟨⟨⟨⟨⟨⟨⟨⟨⟨⟨⟨⟨⟨⟨trivial, rfl⟩, c1⟩, c2⟩, rfl⟩, rfl⟩, c3⟩, c4⟩, c5⟩, rfl⟩, c3⟩, c4⟩, c5⟩, rfl⟩, c6⟩, c7⟩, rfl⟩, rfl⟩ rfl
      rw [hr, w]
      show b14I start rows rows.length bn (spNorm (rows.take (k + 1)) ++ [[AV.str (hN rows[k + 1]), AV.str (hV rows[k + 1])]]) _ _ = _
      rw [← norm_succ h]
      rfl
  · right
    have hk' : k = rows.length := by omega
    have c1 : decide (((k : Nat) : Int) < ((rows.length : Nat) : Int)) = false := decide_eq_false (by omega)
    rw [← hk']
    cases k with
    | zero => exact body_by Pr_ok (b14z_F start rows rows.length bn) rfl ⟨⟨trivial, rfl⟩, c1⟩ rfl
    | succ k => exact body_by Pr_ok (b14_F start rows rows.length bn _ _ _) rfl ⟨⟨trivial, rfl⟩, c1⟩ rfl
theorem ro_two (r1 r2 : List (List AV)) : ∀ c k, (addBlks .e 0 [Blk.cells false [Kd.str, Kd.str] r1, Blk.cells false [Kd.int IntKind.u8] r2]).get c = some k → k.isRw = false := by
  intro c k hk
  rw [addBlks_get] at hk
  split at hk
  · have := List.mem_of_getElem? hk
    simp only [List.mem_cons, List.not_mem_nil, or_false] at this
    rcases this with rfl | rfl <;> rfl
  · cases c <;> cases hk
theorem ref_calls {start : List UInt8} {hrows brows : List (List AV)} {ρ : Nat → BI} {w : World} (hE : HSim ρ (addBlks .e 0 [Blk.cells false [Kd.str, Kd.str] hrows, Blk.cells false [Kd.int IntKind.u8] brows]) ([Blk.cells false [Kd.str, Kd.str] hrows, Blk.cells false [Kd.int IntKind.u8] brows] : List Blk).length w) (hl : hrows.length ≤ 200) :
    Calls Tryz.prog 14 (concL ρ [.agg [.str start, .slq 0 hrows.length, .slq 1 brows.length]]).toArray w (fun e w' => (∃ v, e = .returned (.agg #[.string ⟨start.toArray⟩, v, conc ρ (.slq 1 brows.length)]) ∧ NewSl w.heap.size w' [.str, .str] (spNorm hrows) v) ∧ Ext w w') := by
  have hL := ref_loop (start := start) (rows := hrows) brows.length hl
  by_cases hn : hrows.length = 0
  · have e0 : hrows = [] := List.length_eq_zero_iff.1 hn
    have hL' : LoopOK Tryz.prog (lbody Tryz.prog 14 0) 40 (b14zI start hrows hrows.length brows.length) (.exit 0) (b14zI start hrows hrows.length brows.length) := by
      subst e0; exact hL
    refine (calls_pureB Pr_ok (c14z_L start hrows brows) ⟨⟨⟨⟨⟨⟨⟨⟨⟨⟨⟨⟨⟨⟨⟨⟨⟨trivial, rfl⟩, rfl⟩, rfl⟩, rfl⟩, rfl⟩, rfl⟩, rfl⟩, rfl⟩, hL'⟩, rfl⟩, rfl⟩, rfl⟩, rfl⟩, rfl⟩, rfl⟩, rfl⟩, rfl⟩ hE rfl rfl rfl).mono fun e w' hq => ?_
    obtain ⟨rfl, he⟩ := hq
    refine ⟨⟨_, rfl, ?_⟩, he⟩
    rw [e0]
    exact NewSl.none (ρ' := ρ) (hE.gw.ext he) rfl
  · obtain ⟨k, hn⟩ := Nat.exists_eq_succ_of_ne_zero hn
    have e : I14 start hrows brows.length hrows.length = b14I start hrows hrows.length brows.length (spNorm hrows) hrows.length (hrows.length : Int) := by
      have h9 : I14 start hrows brows.length (k + 1) = b14I start hrows hrows.length brows.length (spNorm (hrows.take (k + 1))) (k + 1) ((k + 1 : Nat) : Int) := rfl
      have h8 : I14 start hrows brows.length hrows.length = I14 start hrows brows.length (k + 1) := congrArg _ hn
      rw [h8, h9, List.take_of_length_le (by omega), ← Nat.succ_eq_add_one, ← hn]
    rw [e] at hL
    have hL' : LoopOK Tryz.prog (lbody Tryz.prog 14 0) 40 (b14zI start hrows hrows.length brows.length) (.exit 0) (b14I start hrows hrows.length brows.length (spNorm hrows) hrows.length (hrows.length : Int)) := hL
    refine (calls_ofB Pr_ok (c14_L start hrows brows (spNorm hrows) hrows.length (hrows.length : Int)) ⟨⟨⟨⟨⟨⟨⟨⟨⟨⟨⟨⟨⟨⟨⟨⟨⟨trivial, rfl⟩, rfl⟩, rfl⟩, rfl⟩, rfl⟩, rfl⟩, rfl⟩, rfl⟩, hL'⟩, rfl⟩, rfl⟩, rfl⟩, rfl⟩, rfl⟩, rfl⟩, rfl⟩, rfl⟩ hE rfl).mono fun e w' hq => ?_
    obtain ⟨ρ', rfl, st⟩ := hq
    have hro : ∀ c k, (addBlks .e 0 [Blk.cells false [Kd.str, Kd.str] hrows, Blk.cells false [Kd.int IntKind.u8] brows]).get c = some k → k.isRw = false := ro_two hrows brows
    refine ⟨⟨conc ρ' (.sl ⟨2, 0, 0⟩ hrows.length .open_), ?_, NewSl.of_rw st (by rw [ofList_cons, if_pos rfl]) hro rfl (norm_length hrows).symm⟩, st.below hro⟩
    have h1 : conc ρ' (.slq 1 brows.length) = conc ρ (.slq 1 brows.length) := conc_agree st.agree _ rfl
    rw [← h1]
    rfl
def q14 : Entry := fun args hp nx => match args with
  | [.agg [.str start, hv, bv]] => match slIn hp [.str, .str] hv, slIn hp [.int .u8] bv with
    | some (c1, hrows), some (c2, brows) => some (c1 && (c2 && (decide (hrows.length ≤ 200) && bv.idsB nx)), .agg [.str start, .slq nx (spNorm hrows).length, bv], [.cells false [.str, .str] (spNorm hrows)])
    | _, _ => none
  | _ => none
theorem q14_ok : EntryOK Tryz.prog 14 q14 := by
  intro args hp nx c v bs h hc ρ w hs hi
  unfold q14 at h
  split at h
  · rename_i start hv bv
    split at h
    · rename_i c1 hrows c2 brows hs1 hs2
      cases h
      simp only [Bool.and_eq_true] at hc
      obtain ⟨hc1, hc2, hc3, hbi⟩ := hc
      obtain ⟨ρ0, hE, e1, e2⟩ := two_ro hs hs1 hc1 hs2 hc2
      have hcall := ref_calls (start := start) hE (of_decide_eq_true hc3)
      have ea : concL ρ0 [AV.agg [AV.str start, AV.slq 0 hrows.length, AV.slq 1 brows.length]] = concL ρ [AV.agg [.str start, hv, bv]] := by
        show [Value.agg (concL ρ0 [AV.str start, .slq 0 hrows.length, .slq 1 brows.length]).toArray] = _
        simp only [concL]
        rw [e1, e2]
        rfl
      rw [ea, e2] at hcall
      refine hcall.mono fun e w' hq => ?_
      obtain ⟨⟨v, rfl, b1, n1, k1⟩, he⟩ := hq
      have x1 : extB ρ nx [b1] nx = b1 := by have := extB_new ρ nx [b1] 0; simpa using this
      have st := HStep.bis (bs := [Blk.cells false [.str, .str] (spNorm hrows)]) [b1] hs he (fun i blk hi => by
        match i with
        | 0 => simp at hi; subst hi; exact ⟨rfl, n1, rfl, fun ρ' b hb => (k1 ρ' b hb).2⟩
        | i + 1 => simp at hi)
      refine ⟨_, ?_, ?_, st⟩
      · have h1 := (k1 _ _ x1).1
        have h2 : conc (extB ρ nx [b1]) bv = conc ρ bv := conc_agree st.agree _ hbi
        simp only [conc, concL] at h1 ⊢
        rw [h1, h2]
      · have h3 := idsB_mono (Nat.le_succ nx) bv hbi
        simp only [AV.idsB, idsBL, Bool.and_true, Bool.true_and, Bool.and_eq_true]
        exact ⟨(blt_iff _ _).2 (Nat.lt_succ_self _), h3⟩
    · cases h
  · cases h
end Go.Proofs.YtpdgmgkkbbndfaaGreatDoor

set_option maxRecDepth 100000
namespace Go.Proofs.YtpdgmgkkbbndfaaGreatDoor
open Go Go.Proofs Go.Proofs.YtpdgmgkkbbndfaaGreatDoor.SX
end Go.Proofs.YtpdgmgkkbbndfaaGreatDoor

set_option maxRecDepth 100000
set_option maxHeartbeats 1600000
namespace Go.Proofs.YtpdgmgkkbbndfaaGreatDoor
open Go Go.Proofs Go.Proofs.YtpdgmgkkbbndfaaGreatDoor.SX
end Go.Proofs.YtpdgmgkkbbndfaaGreatDoor

set_option maxRecDepth 100000
set_option maxHeartbeats 1600000
namespace Go.Proofs.YtpdgmgkkbbndfaaGreatDoor
open Go Go.Proofs Go.Proofs.YtpdgmgkkbbndfaaGreatDoor.SX
end Go.Proofs.YtpdgmgkkbbndfaaGreatDoor

set_option maxRecDepth 100000
set_option maxHeartbeats 1600000
namespace Go.Proofs.YtpdgmgkkbbndfaaGreatDoor
open Go Go.Proofs Go.Proofs.YtpdgmgkkbbndfaaGreatDoor.SX
end Go.Proofs.YtpdgmgkkbbndfaaGreatDoor

set_option maxRecDepth 100000
namespace Go.Proofs.YtpdgmgkkbbndfaaGreatDoor
open Go Go.Proofs Go.Proofs.YtpdgmgkkbbndfaaGreatDoor.SX
end Go.Proofs.YtpdgmgkkbbndfaaGreatDoor

set_option maxRecDepth 100000
namespace Go.Proofs.YtpdgmgkkbbndfaaGreatDoor
open Go Go.Proofs Go.Proofs.YtpdgmgkkbbndfaaGreatDoor.SX
end Go.Proofs.YtpdgmgkkbbndfaaGreatDoor

set_option maxRecDepth 100000
namespace Go.Proofs.YtpdgmgkkbbndfaaGreatDoor
open Go Go.Proofs Go.Proofs.YtpdgmgkkbbndfaaGreatDoor.SX
theorem cut_back {s t : List UInt8} (h : spFound s t = true) : s = spBefore s t ++ (t ++ spAfter s t) := by
  unfold spFound spBefore spAfter Lib.cut at *
  rcases Lib.index_spec s t with ⟨h1, _⟩ | ⟨i, h1, h2, h3, _⟩
  · rw [h1] at h; simp at h
  · rw [h1, if_pos (show 0 ≤ (i : Int) by omega), Int.toNat_natCast]
    unfold Lib.occAt at h3
    rw [List.isPrefixOf_iff_prefix] at h3
    obtain ⟨r, hr⟩ := h3
    show s = s.take i ++ (t ++ s.drop (i + t.length))
    rw [← List.drop_drop, ← hr, List.drop_left', hr, List.take_append_drop]
    rfl
def hdLine (r : List AV) : List UInt8 := hN r ++ colon ++ hV r
def hd (rows : List (List AV)) : List UInt8 := (rows.map fun r => crlf ++ hdLine r).flatten
structure GoodR (r : List AV) : Prop where
  ne : hN r ≠ []
  n13 : ∀ c ∈ hN r, c ≠ 13
  n58 : ∀ c ∈ hN r, c ≠ 58
  v13 : ∀ c ∈ hV r, c ≠ 13
end Go.Proofs.YtpdgmgkkbbndfaaGreatDoor

set_option maxRecDepth 100000
namespace Go.Proofs.YtpdgmgkkbbndfaaGreatDoor
open Go Go.Proofs Go.Proofs.YtpdgmgkkbbndfaaGreatDoor.SX
theorem linesF_fuel : ∀ (n m : Nat) (s : List UInt8), s.length < n → s.length < m → spLinesF n s = spLinesF m s
  | 0, _, _, h, _ => absurd h (Nat.not_lt_zero _)
  | _, 0, _, _, h => absurd h (Nat.not_lt_zero _)
  | n + 1, m + 1, s, h1, h2 => by
    unfold spLinesF
    cases hf : spFound s [13, 10] with
    | false => rfl
    | true =>
      have hl := congrArg List.length (cut_back hf)
      simp only [List.length_append, List.length_cons, List.length_nil] at hl
      rw [cond_true, cond_true, linesF_fuel n m _ (by omega) (by omega)]
end Go.Proofs.YtpdgmgkkbbndfaaGreatDoor

set_option maxRecDepth 100000
set_option maxHeartbeats 1600000
namespace Go.Proofs.YtpdgmgkkbbndfaaGreatDoor
open Go Go.Proofs Go.Proofs.YtpdgmgkkbbndfaaGreatDoor.SX
def b66zI (brows : List (List AV)) (o n c : Nat) : SL := ⟨[(0, .sl ⟨0, o, 0⟩ n (.known c)), (4, .nilSl), (5, .nilSl)], [(0, .cells false [.int .u8] brows)], 1⟩
def b66I (brows : List (List AV)) (o n c : Nat) (rows ends : List (List AV)) (m : Nat) : SL := ⟨[(0, .sl ⟨0, o, 0⟩ n (.known c)), (4, .sl ⟨1, 0, 0⟩ m .open_), (5, .sl ⟨2, 0, 0⟩ m .open_)], [(0, .cells false [.int .u8] brows), (1, .cells true [.str] rows), (2, .cells true [.bool] ends)], 3⟩
def rt66 (rows ends : List (List AV)) (m : Nat) : SL := ⟨[(2, .sl ⟨1, 0, 0⟩ m .open_), (3, .sl ⟨2, 0, 0⟩ m .open_)], [(1, .cells true [.str] rows), (2, .cells true [.bool] ends)], 3⟩
def b71qI (brows : List (List AV)) (n : Nat) : SL := ⟨[(0, .slq 0 n), (5, .int .i64 0)], [(0, .cells false [.int .u8] brows)], 1⟩
def b66qI (brows : List (List AV)) (n : Nat) : SL := ⟨[(0, .slq 0 n), (4, .nilSl), (5, .nilSl)], [(0, .cells false [.int .u8] brows)], 1⟩
theorem b66z_end (brows : List (List AV)) (o n c : Nat) (l : List UInt8) (o2 n2 c2 : Nat) :
 Path (run Tryz.prog Pr 100 (lbody Tryz.prog 66 0) (SL.mp 33 ([PI.loop (b711I brows o n c 0) (Ex.exit 0) (e711 brows), PI.ev 1, PI.ev 1]) (b66zI brows o n c))) 1 [2, 4] (rt66 [[AV.str (List.map rowByte (sub brows o n))]] [[AV.lit false]] 1) (Ex.ret)
 ((((((True ∧ (LoopOK Tryz.prog (lbody Tryz.prog 71 0) (34) (SL.mk [(0, AV.sl (Loc.mk 0 o 0) n (Cap.known c)), (5, AV.int IntKind.i64 (0 : Int))] [(0, Blk.cells false [Kd.int IntKind.u8] brows)] 1) (Ex.exit 0) (SL.mk [] [(0, Blk.cells false [Kd.int IntKind.u8] brows)] 1))) ∧ (decide (o + n ≤ List.length brows) = true)) ∧ (true = true)) ∧ (true = true)) ∧ (true = true)) ∧ (true = true)) := by unfold Path; kernel_rfl
theorem b66z_next (brows : List (List AV)) (o n c : Nat) (l : List UInt8) (o2 n2 c2 : Nat) :
 Path (run Tryz.prog Pr 100 (lbody Tryz.prog 66 0) (SL.mp 33 ([PI.loop (b711I brows o n c 0) Ex.ret (r711 brows l o2 n2 c2), PI.ev 1, PI.ev 1]) (b66zI brows o n c))) 1 [2, 4] (b66I brows o2 n2 c2 [[AV.str l]] [[AV.lit true]] 1) (Ex.normal)
 (((((True ∧ (LoopOK Tryz.prog (lbody Tryz.prog 71 0) (34) (SL.mk [(0, AV.sl (Loc.mk 0 o 0) n (Cap.known c)), (5, AV.int IntKind.i64 (0 : Int))] [(0, Blk.cells false [Kd.int IntKind.u8] brows)] 1) Ex.ret (SL.mk [(2, AV.str l), (3, AV.sl (Loc.mk 0 o2 0) n2 (Cap.known c2)), (4, AV.lit true)] [(0, Blk.cells false [Kd.int IntKind.u8] brows)] 1))) ∧ (true = true)) ∧ (true = true)) ∧ (true = true)) ∧ (true = true)) := by unfold Path; kernel_rfl
theorem b66n_end (brows : List (List AV)) (o n c : Nat) (rows ends : List (List AV)) (m : Nat) (l : List UInt8) (o2 n2 c2 : Nat) :
 Path (run Tryz.prog Pr 100 (lbody Tryz.prog 66 0) (SL.mp 33 ([PI.loop (b713I brows o n c 0) (Ex.exit 0) (e713 brows)]) (b66I brows o n c rows ends m))) 1 [4, 6] (rt66 (rows ++ [[AV.str (List.map rowByte (sub brows o n))]]) (ends ++ [[AV.lit false]]) (m + 1)) (Ex.ret)
 ((((((((True ∧ (LoopOK Tryz.prog (lbody Tryz.prog 71 0) (34) (SL.mk [(0, AV.sl (Loc.mk 0 o 0) n (Cap.known c)), (5, AV.int IntKind.i64 (0 : Int))] [(0, Blk.cells false [Kd.int IntKind.u8] brows)] 3) (Ex.exit 0) (SL.mk [] [(0, Blk.cells false [Kd.int IntKind.u8] brows)] 3))) ∧ (decide (o + n ≤ List.length brows) = true)) ∧ (true = true)) ∧ (decide (0 = 0 ∧ m = List.length rows) = true)) ∧ (decide ((m + 1) * 16 ≤ 140737488355328) = true)) ∧ (true = true)) ∧ (decide (0 = 0 ∧ m = List.length ends) = true)) ∧ (decide ((m + 1) * 1 ≤ 140737488355328) = true)) := by unfold Path; kernel_rfl
theorem b66n_next (brows : List (List AV)) (o n c : Nat) (rows ends : List (List AV)) (m : Nat) (l : List UInt8) (o2 n2 c2 : Nat) :
 Path (run Tryz.prog Pr 100 (lbody Tryz.prog 66 0) (SL.mp 33 ([PI.loop (b713I brows o n c 0) Ex.ret (r713 brows l o2 n2 c2)]) (b66I brows o n c rows ends m))) 1 [4, 6] (b66I brows o2 n2 c2 (rows ++ [[AV.str l]]) (ends ++ [[AV.lit true]]) (m + 1)) (Ex.normal)
 (((((((True ∧ (LoopOK Tryz.prog (lbody Tryz.prog 71 0) (34) (SL.mk [(0, AV.sl (Loc.mk 0 o 0) n (Cap.known c)), (5, AV.int IntKind.i64 (0 : Int))] [(0, Blk.cells false [Kd.int IntKind.u8] brows)] 3) Ex.ret (SL.mk [(2, AV.str l), (3, AV.sl (Loc.mk 0 o2 0) n2 (Cap.known c2)), (4, AV.lit true)] [(0, Blk.cells false [Kd.int IntKind.u8] brows)] 3))) ∧ (true = true)) ∧ (decide (0 = 0 ∧ m = List.length rows) = true)) ∧ (decide ((m + 1) * 16 ≤ 140737488355328) = true)) ∧ (true = true)) ∧ (decide (0 = 0 ∧ m = List.length ends) = true)) ∧ (decide ((m + 1) * 1 ≤ 140737488355328) = true)) := by unfold Path; kernel_rfl
theorem b71q_F (brows : List (List AV)) (n : Nat) :
 Path (run Tryz.prog Pr 100 (lbody Tryz.prog 71 0) (SL.mp 34 ([.as_ false]) (b71qI brows n))) 1 [] (e711 brows) (Ex.exit 0)
 (True ∧ (decide ((1 : Int) < (↑n : Int)) = false)) := by unfold Path; kernel_rfl
theorem b66q_LEE (brows : List (List AV)) (n : Nat) :
 Path (run Tryz.prog Pr 100 (lbody Tryz.prog 66 0) (SL.mp 33 ([PI.loop (b71qI brows n) (Ex.exit 0) (e711 brows), PI.ev 1, PI.ev 1]) (b66qI brows n))) 1 [2, 4] (rt66 [[AV.str (List.map rowByte (sub brows 0 n))]] [[AV.lit false]] 1) (Ex.ret)
 ((((((True ∧ (LoopOK Tryz.prog (lbody Tryz.prog 71 0) (34) (SL.mk [(0, AV.slq 0 n), (5, AV.int IntKind.i64 (0 : Int))] [(0, Blk.cells false [Kd.int IntKind.u8] brows)] 1) (Ex.exit 0) (SL.mk [] [(0, Blk.cells false [Kd.int IntKind.u8] brows)] 1))) ∧ (decide (0 + n ≤ List.length brows) = true)) ∧ (true = true)) ∧ (true = true)) ∧ (true = true)) ∧ (true = true)) := by unfold Path; kernel_rfl
theorem c66k_L (brows : List (List AV)) (n : Nat) (c : Nat) (rows : List (List AV)) (ends : List (List AV)) (m : Nat) :
 Path (runCallB Tryz.prog Pr 100 66 [AV.sl (Loc.mk 0 0 0) n (Cap.known c)] (st0 [Blk.cells false [Kd.int IntKind.u8] brows] ([PI.loop (b66zI brows 0 n c) Ex.ret (rt66 rows ends m)]))) 1 [1, 2] (SL.mk [] [(1, .cells true [.str] rows), (2, .cells true [.bool] ends)] 3) (Out.ret (ren (sig 1 [1, 2]) (AV.tup [AV.sl (Loc.mk 1 0 0) m Cap.open_, AV.sl (Loc.mk 2 0 0) m Cap.open_])))
 (True ∧ (LoopOK Tryz.prog (lbody Tryz.prog 66 0) (33) (SL.mk [(0, AV.sl (Loc.mk 0 0 0) n (Cap.known c)), (4, AV.nilSl), (5, AV.nilSl)] [(0, Blk.cells false [Kd.int IntKind.u8] brows)] 1) Ex.ret (SL.mk [(2, AV.sl (Loc.mk 1 0 0) m Cap.open_), (3, AV.sl (Loc.mk 2 0 0) m Cap.open_)] [(1, Blk.cells true [Kd.str] rows), (2, Blk.cells true [Kd.bool] ends)] 3))) := by unfold Path; kernel_rfl
theorem c66q_L (brows : List (List AV)) (n : Nat) (rows : List (List AV)) (ends : List (List AV)) (m : Nat) :
 Path (runCallB Tryz.prog Pr 100 66 [AV.slq 0 n] (st0 [Blk.cells false [Kd.int IntKind.u8] brows] ([PI.loop (b66qI brows n) Ex.ret (rt66 rows ends m)]))) 1 [1, 2] (SL.mk [] [(1, .cells true [.str] rows), (2, .cells true [.bool] ends)] 3) (Out.ret (ren (sig 1 [1, 2]) (AV.tup [AV.sl (Loc.mk 1 0 0) m Cap.open_, AV.sl (Loc.mk 2 0 0) m Cap.open_])))
 (True ∧ (LoopOK Tryz.prog (lbody Tryz.prog 66 0) (33) (SL.mk [(0, AV.slq 0 n), (4, AV.nilSl), (5, AV.nilSl)] [(0, Blk.cells false [Kd.int IntKind.u8] brows)] 1) Ex.ret (SL.mk [(2, AV.sl (Loc.mk 1 0 0) m Cap.open_), (3, AV.sl (Loc.mk 2 0 0) m Cap.open_)] [(1, Blk.cells true [Kd.str] rows), (2, Blk.cells true [Kd.bool] ends)] 3))) := by unfold Path; kernel_rfl
def strRow (q : List UInt8 × List UInt8) : List AV := [.str q.1]
def endRow (q : List UInt8 × List UInt8) : List AV := [.lit (!(q.2 == []))]
def spLineRows (s : List UInt8) : List (List AV) := (spLines s).map strRow
def spEndRows (s : List UInt8) : List (List AV) := (spLines s).map endRow
theorem lines_some {s : List UInt8} (h : spFound s [13, 10] = true) : spLines s = (spBefore s [13, 10], [13, 10]) :: spLines (spAfter s [13, 10]) := by
  have hl := congrArg List.length (cut_back h)
  simp only [List.length_append, List.length_cons, List.length_nil] at hl
  unfold spLines
  rw [spLinesF, h, cond_true, linesF_fuel s.length ((spAfter s [13, 10]).length + 1) _ (by omega) (by omega)]
theorem lines_none {s : List UInt8} (h : spFound s [13, 10] = false) : spLines s = [(s, [])] := by
  unfold spLines
  rw [spLinesF, h, cond_false, cut_none h]
structure Ok66 (s : List UInt8) (o n c : Nat) (rows ends RA RE : List (List AV)) : Prop where
  ho : o + n ≤ s.length
  hc : n ≤ c
  eq : rows.length = ends.length
  sz : rows.length + n ≤ s.length
  ra : rows ++ spLineRows (sub s o n) = RA
  re : ends ++ spEndRows (sub s o n) = RE
def I66 (s : List UInt8) : Nat × Nat × Nat × List (List AV) × List (List AV) → SL
  | (o, n, c, [], _) => b66zI (byteRows s) o n c
  | (o, n, c, r :: rs, ends) => b66I (byteRows s) o n c (r :: rs) ends (r :: rs).length
theorem rd66 {s : List UInt8} {o n c : Nat} {rows ends RA RE : List (List AV)} (hs : s.length ≤ 1048576) (ok : Ok66 s o n c rows ends RA RE) :
    (∃ o2 n2 c2 rows2 ends2, BodyOK Tryz.prog (lbody Tryz.prog 66 0) 33 1 (I66 s (o, n, c, rows, ends)) .normal (I66 s (o2, n2, c2, rows2, ends2)) ∧ Ok66 s o2 n2 c2 rows2 ends2 RA RE ∧ n2 < n) ∨
    BodyOK Tryz.prog (lbody Tryz.prog 66 0) 33 1 (I66 s (o, n, c, rows, ends)) .ret (rt66 RA RE RA.length) := by
  have h1 := ok.ho; have h2 := ok.hc; have h3 := ok.eq; have h4 := ok.sz
  have hsb : List.map rowByte (sub (byteRows s) o n) = sub s o n := by rw [sub_map, rowsB]
  have c1 : decide (o + n ≤ List.length (byteRows s)) = true := decide_eq_true (by rw [byteRows_length]; exact h1)
  cases hf : spFound (sub s o n) [13, 10] with
  | false =>
    right
    have eA : RA = rows ++ [[AV.str (sub s o n)]] := by rw [← ok.ra]; unfold spLineRows; rw [lines_none hf]; rfl
    have eE : RE = ends ++ [[AV.lit false]] := by rw [← ok.re]; unfold spEndRows; rw [lines_none hf]; rfl
    have eL : RA.length = rows.length + 1 := by rw [eA, List.length_append]; rfl
    rw [eL, eA, eE]
    cases rows with
    | nil =>
      obtain ⟨l0, _⟩ := loop711 (s := s) (o := o) (n := n) (c := c) h1 h2 hs
      have hl := l0 hf
      have he : ends = [] := List.length_eq_zero_iff.1 h3.symm
      rw [he]
      exact body_by Pr_ok (b66z_end (byteRows s) o n c [] 0 0 0) (by rw [hsb]; rfl) ⟨⟨⟨⟨⟨⟨trivial, hl⟩, c1⟩, rfl⟩, rfl⟩, rfl⟩, rfl⟩ rfl
    | cons r rs =>
      obtain ⟨l0, _⟩ := loop713 (s := s) (o := o) (n := n) (c := c) h1 h2 hs
      have hl := l0 hf
      have c2 : decide (0 = 0 ∧ (r :: rs).length = List.length (r :: rs)) = true := decide_eq_true ⟨rfl, rfl⟩
      have c3 : decide (0 = 0 ∧ (r :: rs).length = List.length ends) = true := decide_eq_true ⟨rfl, h3⟩
      have c4 : decide (((r :: rs).length + 1) * 16 ≤ 140737488355328) = true := decide_eq_true (by omega)
      have c5 : decide (((r :: rs).length + 1) * 1 ≤ 140737488355328) = true := decide_eq_true (by omega)
      exact body_by Pr_ok (b66n_end (byteRows s) o n c (r :: rs) ends (r :: rs).length [] 0 0 0) (by rw [hsb]) ⟨⟨⟨⟨⟨⟨⟨⟨trivial, hl⟩, c1⟩, rfl⟩, c2⟩, c4⟩, rfl⟩, c3⟩, c5⟩ rfl
  | true =>
    left
    cases rows with
    | nil =>
      obtain ⟨_, l1⟩ := loop711 (s := s) (o := o) (n := n) (c := c) h1 h2 hs
      obtain ⟨o2, n2, c2, hl, k1, k2, k3, k4⟩ := l1 hf
      have he : ends = [] := List.length_eq_zero_iff.1 h3.symm
      refine ⟨o2, n2, c2, [[AV.str (spBefore (sub s o n) [13, 10])]], [[AV.lit true]], body_by Pr_ok (b66z_next (byteRows s) o n c (spBefore (sub s o n) [13, 10]) o2 n2 c2) rfl ⟨⟨⟨⟨⟨trivial, hl⟩, rfl⟩, rfl⟩, rfl⟩, rfl⟩ rfl, ⟨k1, k2, rfl, ?_, ?_, ?_⟩, by omega⟩
      · simp only [List.length_cons, List.length_nil]; omega
      · rw [← ok.ra, k3]; unfold spLineRows; rw [lines_some hf]; rfl
      · rw [← ok.re, k3, he]; unfold spEndRows; rw [lines_some hf]; rfl
    | cons r rs =>
      obtain ⟨_, l1⟩ := loop713 (s := s) (o := o) (n := n) (c := c) h1 h2 hs
      obtain ⟨o2, n2, d2, hl, k1, k2, k3, k4⟩ := l1 hf
      have c2 : decide (0 = 0 ∧ (r :: rs).length = List.length (r :: rs)) = true := decide_eq_true ⟨rfl, rfl⟩
      have c3 : decide (0 = 0 ∧ (r :: rs).length = List.length ends) = true := decide_eq_true ⟨rfl, h3⟩
      have c4 : decide (((r :: rs).length + 1) * 16 ≤ 140737488355328) = true := decide_eq_true (by omega)
      have c5 : decide (((r :: rs).length + 1) * 1 ≤ 140737488355328) = true := decide_eq_true (by omega)
      have hb := body_by Pr_ok (b66n_next (byteRows s) o n c (r :: rs) ends (r :: rs).length (spBefore (sub s o n) [13, 10]) o2 n2 d2) rfl ⟨⟨⟨⟨⟨⟨⟨trivial, hl⟩, rfl⟩, c2⟩, c4⟩, rfl⟩, c3⟩, c5⟩ rfl
      refine ⟨o2, n2, d2, (r :: rs) ++ [[AV.str (spBefore (sub s o n) [13, 10])]], ends ++ [[AV.lit true]], hb.to ?_, ⟨k1, k2, ?_, ?_, ?_, ?_⟩, by omega⟩
      · show b66I _ _ _ _ _ _ _ = b66I (byteRows s) o2 n2 d2 ((r :: rs) ++ [[AV.str (spBefore (sub s o n) [13, 10])]]) (ends ++ [[AV.lit true]]) ((r :: rs) ++ [[AV.str (spBefore (sub s o n) [13, 10])]]).length
        rw [List.length_append]; rfl
      · rw [List.length_append, List.length_append, h3]; rfl
      · rw [List.length_append]; simp only [List.length_cons, List.length_nil] at *; omega
      · rw [← ok.ra, k3, List.append_assoc]; unfold spLineRows; rw [lines_some hf]; rfl
      · rw [← ok.re, k3, List.append_assoc]; unfold spEndRows; rw [lines_some hf]; rfl
theorem loop66 {s : List UInt8} {c : Nat} (hs : s.length ≤ 1048576) (hc : s.length ≤ c) :
    LoopOK Tryz.prog (lbody Tryz.prog 66 0) 33 (b66zI (byteRows s) 0 s.length c) .ret (rt66 (spLineRows s) (spEndRows s) (spLineRows s).length) := by
  have hw : sub s 0 s.length = s := sub_all s rfl
  refine loop_rule (X := Nat × Nat × Nat × List (List AV) × List (List AV)) (I := I66 s) (pre := fun x => Ok66 s x.1 x.2.1 x.2.2.1 x.2.2.2.1 x.2.2.2.2 (spLineRows s) (spEndRows s)) (μ := fun x => x.2.1) _ _ rfl (fun ρ => by simp [Ex.conc]) ?_ (x0 := (0, s.length, c, [], [])) (pick := [])
    ⟨by show 0 + s.length ≤ s.length; omega, hc, rfl, by show 0 + s.length ≤ s.length; omega, by show [] ++ _ = _; rw [hw]; rfl, by show [] ++ _ = _; rw [hw]; rfl⟩ ⟨by kernel_rfl, map_fst_snd (by kernel_rfl)⟩
  rintro ⟨o, n, c1, rows, ends⟩ ok
  rcases rd66 hs ok with ⟨o2, n2, c2, rows2, ends2, g1, g2, g3⟩ | g
  · exact .inl ⟨(o2, n2, c2, rows2, ends2), g2, g3, g1⟩
  · exact .inr g
theorem loop66q (brows : List (List AV)) (h0 : brows = []) : LoopOK Tryz.prog (lbody Tryz.prog 66 0) 33 (b66qI brows 0) .ret (rt66 (spLineRows []) (spEndRows []) (spLineRows []).length) := by
  subst h0
  have hl : LoopOK Tryz.prog (lbody Tryz.prog 71 0) 34 (b71qI [] 0) (.exit 0) (e711 []) := by
    refine loop_rule (X := Nat) (I := fun _ => b71qI [] 0) (pre := fun _ => True) (μ := fun _ => 0) _ _ rfl (fun ρ => by simp [Ex.conc]) ?_ (x0 := 0) (pick := []) trivial ⟨by kernel_rfl, map_fst_snd (by kernel_rfl)⟩
    intro k _
    exact .inr (body_by Pr_ok (b71q_F [] 0) rfl ⟨trivial, rfl⟩ rfl)
  have c1 : decide (0 + 0 ≤ List.length ([] : List (List AV))) = true := rfl
  refine loop_rule (X := Nat) (I := fun _ => b66qI [] 0) (pre := fun _ => True) (μ := fun _ => 0) _ _ rfl (fun ρ => by simp [Ex.conc]) ?_ (x0 := 0) (pick := []) trivial ⟨by kernel_rfl, map_fst_snd (by kernel_rfl)⟩
  intro k _
  exact .inr (body_by Pr_ok (b66q_LEE [] 0) rfl ⟨⟨⟨⟨⟨⟨trivial, hl⟩, c1⟩, rfl⟩, rfl⟩, rfl⟩, rfl⟩ rfl)
def PostL (w : World) (s : List UInt8) (e : Ending) (w' : World) : Prop :=
  (∃ v1 v2, e = .returned (.tuple #[v1, v2]) ∧ NewSl w.heap.size w' [.str] (spLineRows s) v1 ∧ NewSl w.heap.size w' [.bool] (spEndRows s) v2) ∧ Ext w w'
theorem rows_ends (s : List UInt8) : (spEndRows s).length = (spLineRows s).length := by unfold spEndRows spLineRows; rw [List.length_map, List.length_map]
theorem lines_calls {w : World} {s : List UInt8} {v : Value} (gw : GW w) (hv : Reads w [.int .u8] (byteRows s) v) (hs : s.length ≤ 1048576) (hcap : ∀ a n c, v = .slice a n c → n ≤ c) :
    Calls Tryz.prog 66 #[v] w (PostL w s) := by
  have fin : ∀ {ρ : Nat → BI} {brows : List (List AV)} {args : Array Value}, HSim ρ (addBlks .e 0 [Blk.cells false [Kd.int IntKind.u8] brows]) ([Blk.cells false [Kd.int IntKind.u8] brows] : List Blk).length w →
      Calls Tryz.prog 66 args w (fun e w' => ∃ ρ', e = .returned (conc ρ' (.tup [.sl ⟨1, 0, 0⟩ (spLineRows s).length .open_, .sl ⟨2, 0, 0⟩ (spLineRows s).length .open_])) ∧ HStep ρ (addBlks .e 0 [Blk.cells false [Kd.int IntKind.u8] brows]) ([Blk.cells false [Kd.int IntKind.u8] brows] : List Blk).length w ρ' (Tr.ofList [(1, .cells true [.str] (spLineRows s)), (2, .cells true [.bool] (spEndRows s))]) 3 w') →
      Calls Tryz.prog 66 args w (PostL w s) := by
    intro ρ brows args hE hc
    have hro : ∀ c k, (addBlks .e 0 [Blk.cells false [Kd.int IntKind.u8] brows]).get c = some k → k.isRw = false := by
      intro c k hk
      rw [addBlks_get] at hk
      split at hk
      · obtain ⟨_, rfl⟩ := bs1 hk; rfl
      · cases c <;> cases hk
    refine hc.mono fun e w' hq => ?_
    obtain ⟨ρ', rfl, st⟩ := hq
    exact ⟨⟨conc ρ' (.sl ⟨1, 0, 0⟩ (spLineRows s).length .open_), conc ρ' (.sl ⟨2, 0, 0⟩ (spLineRows s).length .open_), rfl, NewSl.of_rw st (by rw [ofList_cons, if_pos rfl]) hro rfl rfl, NewSl.of_rw st (by rw [ofList_cons, if_neg (by decide), ofList_cons, if_pos rfl]) hro rfl (rows_ends s).symm⟩, st.below hro⟩
  by_cases h0 : s.length = 0
  · have hs0 : s = [] := List.length_eq_zero_iff.1 h0
    subst hs0
    obtain ⟨y1, hy1⟩ := hv.bi gw rfl
    have hE : HSim (fun _ => y1) (addBlks .e 0 [Blk.cells false [Kd.int IntKind.u8] (byteRows [])]) ([Blk.cells false [Kd.int IntKind.u8] (byteRows [])] : List Blk).length w := HSim.ins gw (fun i blk hi => by
        obtain ⟨rfl, rfl⟩ := bs1 hi
        exact ⟨(hy1 _ 0 rfl).2, rfl, rfl⟩)
    have ea : concL (fun _ => y1) [AV.slq 0 (byteRows []).length] = [v] := by
      simp only [concL]
      rw [(hy1 (fun _ => y1) 0 rfl).1]
    have hcall := calls_ofB Pr_ok (c66q_L (byteRows []) 0 (spLineRows []) (spEndRows []) (spLineRows []).length) ⟨trivial, loop66q _ rfl⟩ hE rfl
    have e0 : concL (fun _ => y1) [AV.slq 0 0] = [v] := ea
    rw [e0] at hcall
    exact fin hE hcall
  · generalize hbr : byteRows s = brows at hv
    cases hv with
    | nil h => rw [← hbr] at h; have := congrArg List.length h; rw [byteRows_length] at this; exact absurd this h0
    | cells bi c h =>
      subst hbr
      have hle := hcap _ _ _ rfl
      rw [byteRows_length] at hle
      have hE : HSim (fun _ => bi) (addBlks .e 0 [Blk.cells false [Kd.int IntKind.u8] (byteRows s)]) ([Blk.cells false [Kd.int IntKind.u8] (byteRows s)] : List Blk).length w := HSim.ins gw (fun i blk hi => by
        obtain ⟨rfl, rfl⟩ := bs1 hi
        exact ⟨Blk.sat_at (ρ := fun _ => bi) (b := 0) rfl rfl h, rfl, rfl⟩)
      have ea : concL (fun _ => bi) [AV.sl ⟨0, 0, 0⟩ s.length (.known c)] = [.slice (some ⟨bi.blk, bi.off, none⟩) (byteRows s).length c] := by
        rw [byteRows_length]; simp [concL, conc, addr, capOf]
      have hcall := calls_ofB Pr_ok (c66k_L (byteRows s) s.length c (spLineRows s) (spEndRows s) (spLineRows s).length) ⟨trivial, loop66 hs hle⟩ hE rfl
      rw [ea] at hcall
      exact fin hE hcall
def q66 : Entry := fun args hp nx => match args with
  | [.slq l n] => match slIn hp [.int .u8] (.slq l n) with
    | some (c1, brows) => some (c1 && (brows.all spByteOk && decide (n = 0 ∧ brows.length ≤ 1048576)), .tup [.slq nx (spLineRows (brows.map rowByte)).length, .slq (nx + 1) (spEndRows (brows.map rowByte)).length],
        [.cells false [.str] (spLineRows (brows.map rowByte)), .cells false [.bool] (spEndRows (brows.map rowByte))])
    | _ => none
  | [.sl l n (.known c)] => match slIn hp [.int .u8] (.sl l n (.known c)) with
    | some (c1, brows) => some (c1 && (brows.all spByteOk && decide (n ≤ c ∧ brows.length ≤ 1048576)), .tup [.slq nx (spLineRows (brows.map rowByte)).length, .slq (nx + 1) (spEndRows (brows.map rowByte)).length],
        [.cells false [.str] (spLineRows (brows.map rowByte)), .cells false [.bool] (spEndRows (brows.map rowByte))])
    | _ => none
  | _ => none
theorem postL_entry {ρ : Nat → BI} {hp : Tr Blk} {nx : Nat} {w : World} {s : List UInt8} {vs : Array Value} (hs : HSim ρ hp nx w) (h : Calls Tryz.prog 66 vs w (PostL w s)) :
    Calls Tryz.prog 66 vs w (fun e w' => ∃ ρ', e = .returned (conc ρ' (.tup [.slq nx (spLineRows s).length, .slq (nx + 1) (spEndRows s).length])) ∧ (AV.tup [.slq nx (spLineRows s).length, .slq (nx + 1) (spEndRows s).length]).idsB (nx + [Blk.cells false [.str] (spLineRows s), Blk.cells false [.bool] (spEndRows s)].length) = true ∧ HStep ρ hp nx w ρ' (addBlks hp nx [.cells false [.str] (spLineRows s), .cells false [.bool] (spEndRows s)]) (nx + [Blk.cells false [.str] (spLineRows s), Blk.cells false [.bool] (spEndRows s)].length) w') := by
  refine h.mono fun e w' hq => ?_
  obtain ⟨⟨v1, v2, rfl, ⟨b1, n1, g1⟩, b2, n2, g2⟩, he⟩ := hq
  have e1 : extB ρ nx [b1, b2] nx = b1 := by have := extB_new ρ nx [b1, b2] 0; simpa using this
  have e2 : extB ρ nx [b1, b2] (nx + 1) = b2 := by have := extB_new ρ nx [b1, b2] 1; simpa using this
  have st := HStep.bis (bs := [Blk.cells false [.str] (spLineRows s), Blk.cells false [.bool] (spEndRows s)]) [b1, b2] hs he (fun i blk hi => by
    match i with
    | 0 => simp at hi; subst hi; exact ⟨rfl, n1, rfl, fun ρ' b hb => (g1 ρ' b hb).2⟩
    | 1 => simp at hi; subst hi; exact ⟨rfl, n2, rfl, fun ρ' b hb => (g2 ρ' b hb).2⟩
    | i + 2 => simp at hi)
  refine ⟨_, ?_, ?_, st⟩
  · have h1 := (g1 _ _ e1).1
    have h2 := (g2 _ _ e2).1
    simp only [conc, concL] at h1 h2 ⊢
    rw [h1, h2]
  · simp [AV.idsB, idsBL, blt_iff]
theorem q66_ok : EntryOK Tryz.prog 66 q66 := by
  intro args hp nx c v bs h hc ρ w hs hi
  unfold q66 at h
  split at h
  · rename_i l n
    split at h
    · rename_i c1 brows hs1
      cases h
      simp only [Bool.and_eq_true] at hc
      obtain ⟨hc1, hc2, hc3⟩ := hc
      obtain ⟨hk, hl⟩ := of_decide_eq_true hc3
      have hr := slIn_spec hs hs1 hc1 rfl
      rw [bytes_of hc2] at hr
      exact postL_entry hs (lines_calls hs.gw hr (by rw [List.length_map]; exact hl) (fun a n' c' h => by
        simp only [conc] at h
        split at h
        · cases h; exact Nat.le_refl _
        · cases h; omega))
    · cases h
  · rename_i l n k
    split at h
    · rename_i c1 brows hs1
      cases h
      simp only [Bool.and_eq_true] at hc
      obtain ⟨hc1, hc2, hc3⟩ := hc
      obtain ⟨hk, hl⟩ := of_decide_eq_true hc3
      have hr := slIn_spec hs hs1 hc1 rfl
      rw [bytes_of hc2] at hr
      exact postL_entry hs (lines_calls hs.gw hr (by rw [List.length_map]; exact hl) (fun a n' c' h => by simp only [conc, capOf] at h; cases h; exact hk))
    · cases h
  · cases h
end Go.Proofs.YtpdgmgkkbbndfaaGreatDoor

set_option maxRecDepth 100000
namespace Go.Proofs.YtpdgmgkkbbndfaaGreatDoor
open Go Go.Proofs Go.Proofs.YtpdgmgkkbbndfaaGreatDoor.SX
theorem c100_T (m : Int) :
 Path (runCallB Tryz.prog (addP Pr 100 (qDig m)) 100 100 [AV.int IntKind.i64 m] (st0 [] ([.as_ true]))) 0 [] ⟨[], [], 0⟩ (Out.ret (AV.str [rowByte [AV.int IntKind.u8 (IntKind.wrap IntKind.u8 (IntKind.wrap IntKind.i64 ((48 : Int) + m)))]]))
 ((True ∧ (decide (m < (10 : Int)) = true)) ∧ (true = true)) := by unfold Path; kernel_rfl
theorem c100_F (m : Int) :
 Path (runCallB Tryz.prog (addP Pr 100 (qDig m)) 100 100 [AV.int IntKind.i64 m] (st0 [] ([.as_ false]))) 0 [] ⟨[], [], 0⟩ (Out.ret (AV.str (spDigits (Int.toNat (IntKind.wrap IntKind.i64 (Int.tdiv m (10 : Int)))) ++ [rowByte [AV.int IntKind.u8 (IntKind.wrap IntKind.u8 (IntKind.wrap IntKind.i64 ((48 : Int) + Int.tmod m (10 : Int))))]])))
 (((((((((True ∧ (decide (m < (10 : Int)) = false)) ∧ (true = true)) ∧ (true = true)) ∧ (decide ((0 : Int) ≤ IntKind.wrap IntKind.i64 (Int.tdiv m (10 : Int)) ∧ IntKind.wrap IntKind.i64 (Int.tdiv m (10 : Int)) < m) = true)) ∧ (true = true)) ∧ (decide (List.length (spDigits (Int.toNat (IntKind.wrap IntKind.i64 (Int.tdiv m (10 : Int))))) + 1 ≤ 9223372036854775807) = true)) ∧ (true = true)) ∧ (decide ((0 : Int) ≤ IntKind.wrap IntKind.i64 (Int.tdiv m (10 : Int)) ∧ IntKind.wrap IntKind.i64 (Int.tdiv m (10 : Int)) < m) = true)) ∧ (decide (List.length (spDigits (Int.toNat (IntKind.wrap IntKind.i64 (Int.tdiv m (10 : Int))))) + 1 ≤ 9223372036854775807) = true)) := by unfold Path; kernel_rfl
theorem qDig100 : ∀ N : Nat, N ≤ 9223372036854775808 → EntryOK Tryz.prog 100 (qDig N) := by
  intro N
  induction N using Nat.strongRecOn with
  | ind N ih =>
    intro hN args hp nx c v bs h hc ρ w hs hi
    unfold qDig at h
    split at h
    · rename_i m
      cases h
      obtain ⟨h0, h1⟩ := of_decide_eq_true hc
      refine entry_pure hs rfl ?_
      have hE : HSim ρ (addBlks .e 0 []) ([] : List Blk).length w := HSim.ins hs.gw (fun i blk hi => by simp at hi)
      have hm : ((m.toNat : Nat) : Int) = m := by omega
      have hP : PrimsOK Tryz.prog (addP Pr 100 (qDig m)) := by
        have := ih m.toNat (by omega) (by omega)
        rw [hm] at this
        exact addP_ok Pr_ok this
      by_cases hlt : m < 10
      · rw [spDigits_lt (by omega), ← dig_row h0 hlt]
        exact calls_pureB hP (c100_T m) ⟨⟨trivial, by simpa using hlt⟩, rfl⟩ hE rfl rfl rfl
      · have hq : Int.tdiv m 10 = ((m.toNat / 10 : Nat) : Int) := by
          rw [Int.tdiv_eq_ediv_of_nonneg h0]; omega
        have hr : Int.tmod m 10 = ((m.toNat % 10 : Nat) : Int) := by
          rw [Int.tmod_eq_emod_of_nonneg h0]; omega
        have hw : IntKind.wrap IntKind.i64 (Int.tdiv m 10) = ((m.toNat / 10 : Nat) : Int) := by rw [hq]; exact IntWalk.i64_in _ (by omega)
        have e : spDigits m.toNat = spDigits (Int.toNat (IntKind.wrap IntKind.i64 (Int.tdiv m 10))) ++ [rowByte [AV.int IntKind.u8 (IntKind.wrap IntKind.u8 (IntKind.wrap IntKind.i64 (48 + Int.tmod m 10)))]] := by
          rw [spDigits_ge (by omega), hw, hr, dig_row (by omega) (by omega)]; rfl
        rw [e]
        have hl := spDigits_len (m.toNat / 10)
        have hl2 : (spDigits (Int.toNat (IntKind.wrap IntKind.i64 (Int.tdiv m 10)))).length + 1 ≤ 9223372036854775807 := by
          rw [hw]; show (spDigits (m.toNat / 10)).length + 1 ≤ _; omega
        have hc1 : (0 : Int) ≤ IntKind.wrap IntKind.i64 (Int.tdiv m 10) ∧ IntKind.wrap IntKind.i64 (Int.tdiv m 10) < m := by rw [hw]; omega
        exact calls_pureB hP (c100_F m) (by simp only [decide_eq_true_eq, decide_eq_false_iff_not, eq_self, and_true, true_and]; exact ⟨⟨⟨⟨hlt, hc1⟩, hl2⟩, hc1⟩, hl2⟩) hE rfl rfl rfl
    · cases h
end Go.Proofs.YtpdgmgkkbbndfaaGreatDoor

set_option maxRecDepth 100000
set_option maxHeartbeats 1600000
namespace Go.Proofs.YtpdgmgkkbbndfaaGreatDoor
open Go Go.Proofs Go.Proofs.YtpdgmgkkbbndfaaGreatDoor.SX
def Pd : Prims := addP Pr 100 (qDig 9223372036854775808)
theorem Pd_ok : PrimsOK Tryz.prog Pd := addP_ok Pr_ok (qDig100 _ (Nat.le_refl _))
theorem c67_ (l : List UInt8) (a : Int) :
 Path (runCallB Tryz.prog Pd 100 67 [AV.str l, AV.int IntKind.u32 a] (st0 [] ([]))) 0 [] (SL.mk [] [] 0) (Out.ret (AV.bool (l == (99 : UInt8) :: (61 : UInt8) :: (73 : UInt8) :: (78 : UInt8) :: (32 : UInt8) :: (73 : UInt8) :: (80 : UInt8) :: (52 : UInt8) :: (32 : UInt8) :: (spDigits (Int.toNat (IntKind.wrap IntKind.i64 (Int.fdiv a (16777216 : Int)))) ++ [(46 : UInt8)] ++ spDigits (Int.toNat (IntKind.wrap IntKind.i64 (bitsI BinOp.and IntKind.u32 (Int.fdiv a (65536 : Int)) (255 : Int)))) ++ [(46 : UInt8)] ++ spDigits (Int.toNat (IntKind.wrap IntKind.i64 (bitsI BinOp.and IntKind.u32 (Int.fdiv a (256 : Int)) (255 : Int)))) ++ [(46 : UInt8)] ++ spDigits (Int.toNat (IntKind.wrap IntKind.i64 (Int.tmod a (256 : Int))))))))
 (((((((((((((((True ∧ (true = true)) ∧ (decide ((0 : Int) ≤ IntKind.wrap IntKind.i64 (Int.fdiv a (16777216 : Int)) ∧ IntKind.wrap IntKind.i64 (Int.fdiv a (16777216 : Int)) < (9223372036854775808 : Int)) = true)) ∧ (decide (List.length (spDigits (Int.toNat (IntKind.wrap IntKind.i64 (Int.fdiv a (16777216 : Int))))) + 1 ≤ 9223372036854775807) = true)) ∧ (true = true)) ∧ (decide ((0 : Int) ≤ IntKind.wrap IntKind.i64 (bitsI BinOp.and IntKind.u32 (Int.fdiv a (65536 : Int)) (255 : Int)) ∧ IntKind.wrap IntKind.i64 (bitsI BinOp.and IntKind.u32 (Int.fdiv a (65536 : Int)) (255 : Int)) < (9223372036854775808 : Int)) = true)) ∧ (decide (List.length (spDigits (Int.toNat (IntKind.wrap IntKind.i64 (Int.fdiv a (16777216 : Int)))) ++ [(46 : UInt8)]) + List.length (spDigits (Int.toNat (IntKind.wrap IntKind.i64 (bitsI BinOp.and IntKind.u32 (Int.fdiv a (65536 : Int)) (255 : Int))))) ≤ 9223372036854775807) = true)) ∧ (decide (List.length (spDigits (Int.toNat (IntKind.wrap IntKind.i64 (Int.fdiv a (16777216 : Int)))) ++ [(46 : UInt8)] ++ spDigits (Int.toNat (IntKind.wrap IntKind.i64 (bitsI BinOp.and IntKind.u32 (Int.fdiv a (65536 : Int)) (255 : Int))))) + 1 ≤ 9223372036854775807) = true)) ∧ (true = true)) ∧ (decide ((0 : Int) ≤ IntKind.wrap IntKind.i64 (bitsI BinOp.and IntKind.u32 (Int.fdiv a (256 : Int)) (255 : Int)) ∧ IntKind.wrap IntKind.i64 (bitsI BinOp.and IntKind.u32 (Int.fdiv a (256 : Int)) (255 : Int)) < (9223372036854775808 : Int)) = true)) ∧ (decide (List.length (spDigits (Int.toNat (IntKind.wrap IntKind.i64 (Int.fdiv a (16777216 : Int)))) ++ [(46 : UInt8)] ++ spDigits (Int.toNat (IntKind.wrap IntKind.i64 (bitsI BinOp.and IntKind.u32 (Int.fdiv a (65536 : Int)) (255 : Int)))) ++ [(46 : UInt8)]) + List.length (spDigits (Int.toNat (IntKind.wrap IntKind.i64 (bitsI BinOp.and IntKind.u32 (Int.fdiv a (256 : Int)) (255 : Int))))) ≤ 9223372036854775807) = true)) ∧ (decide (List.length (spDigits (Int.toNat (IntKind.wrap IntKind.i64 (Int.fdiv a (16777216 : Int)))) ++ [(46 : UInt8)] ++ spDigits (Int.toNat (IntKind.wrap IntKind.i64 (bitsI BinOp.and IntKind.u32 (Int.fdiv a (65536 : Int)) (255 : Int)))) ++ [(46 : UInt8)] ++ spDigits (Int.toNat (IntKind.wrap IntKind.i64 (bitsI BinOp.and IntKind.u32 (Int.fdiv a (256 : Int)) (255 : Int))))) + 1 ≤ 9223372036854775807) = true)) ∧ (true = true)) ∧ (decide ((0 : Int) ≤ IntKind.wrap IntKind.i64 (Int.tmod a (256 : Int)) ∧ IntKind.wrap IntKind.i64 (Int.tmod a (256 : Int)) < (9223372036854775808 : Int)) = true)) ∧ (decide (List.length (spDigits (Int.toNat (IntKind.wrap IntKind.i64 (Int.fdiv a (16777216 : Int)))) ++ [(46 : UInt8)] ++ spDigits (Int.toNat (IntKind.wrap IntKind.i64 (bitsI BinOp.and IntKind.u32 (Int.fdiv a (65536 : Int)) (255 : Int)))) ++ [(46 : UInt8)] ++ spDigits (Int.toNat (IntKind.wrap IntKind.i64 (bitsI BinOp.and IntKind.u32 (Int.fdiv a (256 : Int)) (255 : Int)))) ++ [(46 : UInt8)]) + List.length (spDigits (Int.toNat (IntKind.wrap IntKind.i64 (Int.tmod a (256 : Int))))) ≤ 9223372036854775807) = true)) ∧ (decide (9 + List.length (spDigits (Int.toNat (IntKind.wrap IntKind.i64 (Int.fdiv a (16777216 : Int)))) ++ [(46 : UInt8)] ++ spDigits (Int.toNat (IntKind.wrap IntKind.i64 (bitsI BinOp.and IntKind.u32 (Int.fdiv a (65536 : Int)) (255 : Int)))) ++ [(46 : UInt8)] ++ spDigits (Int.toNat (IntKind.wrap IntKind.i64 (bitsI BinOp.and IntKind.u32 (Int.fdiv a (256 : Int)) (255 : Int)))) ++ [(46 : UInt8)] ++ spDigits (Int.toNat (IntKind.wrap IntKind.i64 (Int.tmod a (256 : Int))))) ≤ 9223372036854775807) = true)) := by unfold Path; kernel_rfl
theorem oct_low {a : Int} (h0 : 0 ≤ a) (h1 : a < 4294967296) : IntKind.wrap IntKind.i64 (Int.tmod a 256) = octet a 1 := by
  unfold octet
  rw [Int.fdiv_eq_ediv_of_nonneg _ (by decide), Int.tmod_eq_emod_of_nonneg h0, IntKind.wrap_u8, IntKind.wrap_i64, IntKind.wrap_i64]
  omega
theorem dig_oct (a d : Int) : spDigits (octet a d).toNat = spItoa (octet a d) := by
  have h := octet_range a d
  rw [digits_itoa, Int.toNat_of_nonneg h.1]
theorem dotted_spell (a : Int) : spDotted a = spItoa (octet a 16777216) ++ [46] ++ spItoa (octet a 65536) ++ [46] ++ spItoa (octet a 256) ++ [46] ++ spItoa (octet a 1) := by unfold spDotted; rw [join4]
def spConn (l : List UInt8) (a : Int) : Bool := l == sgConn ++ spDotted a
def q67 : Entry := fun args hp nx => match args with
  | [.str l, .int .u32 a] => some (decide (0 ≤ a ∧ a < 4294967296), .bool (spConn l a), [])
  | _ => none
theorem q67_ok : EntryOK Tryz.prog 67 q67 := by
  intro args hp nx c v bs h hc ρ w hs hi
  unfold q67 at h
  split at h
  · rename_i l a
    cases h
    obtain ⟨h0, h1⟩ := of_decide_eq_true hc
    refine entry_pure hs rfl ?_
    have hE : HSim ρ (addBlks .e 0 []) ([] : List Blk).length w := HSim.ins hs.gw (fun i blk hi => by simp at hi)
    have hp := c67_ l a
    have e1 := oct_top h0 h1
    have e2 := oct_mid h0 h1 (d := 65536) (.inl rfl)
    have e3 := oct_mid h0 h1 (d := 256) (.inr (.inl rfl))
    have e4 := oct_low h0 h1
    rw [e1, e2, e3, e4, dig_oct, dig_oct, dig_oct, dig_oct] at hp
    have g1 := octet_range a 16777216; have g2 := octet_range a 65536; have g3 := octet_range a 256; have g4 := octet_range a 1
    have l1 := len_itoa _ (show -9223372036854775808 ≤ octet a 16777216 ∧ octet a 16777216 ≤ 9223372036854775807 by omega)
    have l2 := len_itoa _ (show -9223372036854775808 ≤ octet a 65536 ∧ octet a 65536 ≤ 9223372036854775807 by omega)
    have l3 := len_itoa _ (show -9223372036854775808 ≤ octet a 256 ∧ octet a 256 ≤ 9223372036854775807 by omega)
    have l4 := len_itoa _ (show -9223372036854775808 ≤ octet a 1 ∧ octet a 1 ≤ 9223372036854775807 by omega)
    unfold spConn
    rw [dotted_spell]
    refine calls_pureB Pd_ok hp ?_ hE rfl rfl rfl
    simp only [decide_eq_true_eq, List.length_append, List.length_cons, List.length_nil, eq_self, true_and, and_true]
    omega
  · cases h
end Go.Proofs.YtpdgmgkkbbndfaaGreatDoor

set_option maxRecDepth 100000
namespace Go.Proofs.YtpdgmgkkbbndfaaGreatDoor
open Go Go.Proofs Go.Proofs.YtpdgmgkkbbndfaaGreatDoor.SX
def b74I (bs : List (List AV)) (len cap : Nat) (at_ most i n : Int) : SL := ⟨[(0, .sl ⟨0,0,0⟩ len (.known cap)), (1, .int .i64 at_), (2, .int .i64 most), (10, .int .i64 i), (9, .int .i64 n)], [(0, .cells false [.int .u8] bs)], 1⟩
def b74k0 (bs : List (List AV)) (len cap : Nat) (at_ most i n : Int) : Bool := decide (i < ↑len)
def b74k1 (bs : List (List AV)) (len cap : Nat) (at_ most i n : Int) : Bool := decide ((0 : Int) ≤ i ∧ i < ↑len)
def b74k2 (bs : List (List AV)) (len cap : Nat) (at_ most i n : Int) : Bool := decide (0 + Int.toNat i < List.length bs)
def b74k3 (bs : List (List AV)) (len cap : Nat) (at_ most i n : Int) : Bool := decide (AV.toInt (List.getD (List.getD bs (0 + Int.toNat i) []) (0) AV.undef) ≥ (48 : Int))
def b74k4 (bs : List (List AV)) (len cap : Nat) (at_ most i n : Int) : Bool := decide (AV.toInt (List.getD (List.getD bs (0 + Int.toNat i) []) (0) AV.undef) ≤ (57 : Int))
def b74k5 (bs : List (List AV)) (len cap : Nat) (at_ most i n : Int) : Bool := decide (n ≤ most)
theorem b74_TTTT (bs : List (List AV)) (len : Nat) (cap : Nat) (at_ : Int) (most : Int) (i : Int) (n : Int) :
 Path (run Tryz.prog Pr 100 (lbody Tryz.prog 74 0) (SL.mp 90 ([pT, pT, pT, pT]) (b74I bs len cap at_ most i n))) 1 [] (b74I (bs) (len) (cap) (at_) (most) (IntKind.wrap IntKind.i64 (i + (1 : Int))) (IntKind.wrap IntKind.i64 (IntKind.wrap IntKind.i64 (n * (10 : Int)) + IntKind.wrap IntKind.i64 (IntKind.wrap IntKind.u8 (AV.toInt (List.getD (List.getD bs (0 + Int.toNat i) []) (0) AV.undef) - (48 : Int)))))) (Ex.normal)
 ((((((((((True ∧ b74k0 bs len cap at_ most i n = true) ∧ b74k1 bs len cap at_ most i n = true) ∧ b74k2 bs len cap at_ most i n = true) ∧ b74k3 bs len cap at_ most i n = true) ∧ b74k1 bs len cap at_ most i n = true) ∧ b74k2 bs len cap at_ most i n = true) ∧ b74k4 bs len cap at_ most i n = true) ∧ b74k5 bs len cap at_ most i n = true) ∧ b74k1 bs len cap at_ most i n = true) ∧ b74k2 bs len cap at_ most i n = true) := by unfold Path; kernel_rfl
theorem b74_TTTF (bs : List (List AV)) (len : Nat) (cap : Nat) (at_ : Int) (most : Int) (i : Int) (n : Int) :
 Path (run Tryz.prog Pr 100 (lbody Tryz.prog 74 0) (SL.mp 90 ([pT, pT, pT, pF]) (b74I bs len cap at_ most i n))) 1 [] (b74I (bs) (len) (cap) (at_) (most) (i) (n)) (Ex.exit 0)
 ((((((((True ∧ b74k0 bs len cap at_ most i n = true) ∧ b74k1 bs len cap at_ most i n = true) ∧ b74k2 bs len cap at_ most i n = true) ∧ b74k3 bs len cap at_ most i n = true) ∧ b74k1 bs len cap at_ most i n = true) ∧ b74k2 bs len cap at_ most i n = true) ∧ b74k4 bs len cap at_ most i n = true) ∧ b74k5 bs len cap at_ most i n = false) := by unfold Path; kernel_rfl
theorem b74_TTF (bs : List (List AV)) (len : Nat) (cap : Nat) (at_ : Int) (most : Int) (i : Int) (n : Int) :
 Path (run Tryz.prog Pr 100 (lbody Tryz.prog 74 0) (SL.mp 90 ([pT, pT, pF]) (b74I bs len cap at_ most i n))) 1 [] (b74I (bs) (len) (cap) (at_) (most) (i) (n)) (Ex.exit 0)
 (((((((True ∧ b74k0 bs len cap at_ most i n = true) ∧ b74k1 bs len cap at_ most i n = true) ∧ b74k2 bs len cap at_ most i n = true) ∧ b74k3 bs len cap at_ most i n = true) ∧ b74k1 bs len cap at_ most i n = true) ∧ b74k2 bs len cap at_ most i n = true) ∧ b74k4 bs len cap at_ most i n = false) := by unfold Path; kernel_rfl
theorem b74_TF (bs : List (List AV)) (len : Nat) (cap : Nat) (at_ : Int) (most : Int) (i : Int) (n : Int) :
 Path (run Tryz.prog Pr 100 (lbody Tryz.prog 74 0) (SL.mp 90 ([pT, pF]) (b74I bs len cap at_ most i n))) 1 [] (b74I (bs) (len) (cap) (at_) (most) (i) (n)) (Ex.exit 0)
 ((((True ∧ b74k0 bs len cap at_ most i n = true) ∧ b74k1 bs len cap at_ most i n = true) ∧ b74k2 bs len cap at_ most i n = true) ∧ b74k3 bs len cap at_ most i n = false) := by unfold Path; kernel_rfl
theorem b74_F (bs : List (List AV)) (len : Nat) (cap : Nat) (at_ : Int) (most : Int) (i : Int) (n : Int) :
 Path (run Tryz.prog Pr 100 (lbody Tryz.prog 74 0) (SL.mp 90 ([pF]) (b74I bs len cap at_ most i n))) 1 [] (b74I (bs) (len) (cap) (at_) (most) (i) (n)) (Ex.exit 0)
 (True ∧ b74k0 bs len cap at_ most i n = false) := by unfold Path; kernel_rfl
def b74_cls (bs : List (List AV)) (len cap : Nat) (at_ most i n : Int) : Nat := (bif b74k0 bs len cap at_ most i n then (bif b74k3 bs len cap at_ most i n then (bif b74k4 bs len cap at_ most i n then (bif b74k5 bs len cap at_ most i n then 0 else 1) else 1) else 1) else 1)
theorem b74_c0 (bs : List (List AV)) (len cap : Nat) (at_ most i n : Int) (h : b74_cls bs len cap at_ most i n = 0) (m0 : b74k0 bs len cap at_ most i n = true → b74k1 bs len cap at_ most i n = true) (m1 : b74k0 bs len cap at_ most i n = true → b74k2 bs len cap at_ most i n = true) : BodyOK Tryz.prog (lbody Tryz.prog 74 0) 90 1 (b74I bs len cap at_ most i n) (Ex.normal) (b74I (bs) (len) (cap) (at_) (most) (IntKind.wrap IntKind.i64 (i + (1 : Int))) (IntKind.wrap IntKind.i64 (IntKind.wrap IntKind.i64 (n * (10 : Int)) + IntKind.wrap IntKind.i64 (IntKind.wrap IntKind.u8 (AV.toInt (List.getD (List.getD bs (0 + Int.toNat i) []) (0) AV.undef) - (48 : Int)))))) := by
  unfold b74_cls at h
  cases q1 : b74k0 bs len cap at_ most i n with
  | true =>
    rw [q1, cond_true] at h
    cases q2 : b74k3 bs len cap at_ most i n with
    | true =>
      rw [q2, cond_true] at h
      cases q3 : b74k4 bs len cap at_ most i n with
      | true =>
        rw [q3, cond_true] at h
        cases q4 : b74k5 bs len cap at_ most i n with
        | true =>
          rw [q4, cond_true] at h
          exact body_by Pr_ok (b74_TTTT bs len cap at_ most i n) rfl (by simp only [q1, q2, q3, q4, (m0 q1), (m1 q1), eq_self, and_true, true_and]) rfl
        | false =>
          rw [q4, cond_false] at h
          exact absurd h (by decide)
      | false =>
        rw [q3, cond_false] at h
        exact absurd h (by decide)
    | false =>
      rw [q2, cond_false] at h
      exact absurd h (by decide)
  | false =>
    rw [q1, cond_false] at h
    exact absurd h (by decide)
theorem b74_c1 (bs : List (List AV)) (len cap : Nat) (at_ most i n : Int) (h : b74_cls bs len cap at_ most i n = 1) (m0 : b74k0 bs len cap at_ most i n = true → b74k1 bs len cap at_ most i n = true) (m1 : b74k0 bs len cap at_ most i n = true → b74k2 bs len cap at_ most i n = true) : BodyOK Tryz.prog (lbody Tryz.prog 74 0) 90 1 (b74I bs len cap at_ most i n) (Ex.exit 0) (b74I (bs) (len) (cap) (at_) (most) (i) (n)) := by
  unfold b74_cls at h
  cases q1 : b74k0 bs len cap at_ most i n with
  | true =>
    rw [q1, cond_true] at h
    cases q2 : b74k3 bs len cap at_ most i n with
    | true =>
      rw [q2, cond_true] at h
      cases q3 : b74k4 bs len cap at_ most i n with
      | true =>
        rw [q3, cond_true] at h
        cases q4 : b74k5 bs len cap at_ most i n with
        | true =>
          rw [q4, cond_true] at h
          exact absurd h (by decide)
        | false =>
          rw [q4, cond_false] at h
          exact body_by Pr_ok (b74_TTTF bs len cap at_ most i n) rfl (by simp only [q1, q2, q3, q4, (m0 q1), (m1 q1), eq_self, and_true, true_and]) rfl
      | false =>
        rw [q3, cond_false] at h
        exact body_by Pr_ok (b74_TTF bs len cap at_ most i n) rfl (by simp only [q1, q2, q3, (m0 q1), (m1 q1), eq_self, and_true, true_and]) rfl
    | false =>
      rw [q2, cond_false] at h
      exact body_by Pr_ok (b74_TF bs len cap at_ most i n) rfl (by simp only [q1, q2, (m0 q1), (m1 q1), eq_self, and_true, true_and]) rfl
  | false =>
    rw [q1, cond_false] at h
    exact body_by Pr_ok (b74_F bs len cap at_ most i n) rfl (by simp only [q1, eq_self, and_true, true_and]) rfl
def isDigB (c : UInt8) : Bool := decide ((c.toNat : Int) ≥ 48) && decide ((c.toNat : Int) ≤ 57)
def numGo (l : List UInt8) (most : Nat) : Nat → Nat → Nat → Nat × Nat
  | 0, i, n => (i, n)
  | f + 1, i, n => bif isDigB (l.getD i 0) && decide (n ≤ most) then numGo l most f (i + 1) (n * 10 + ((l.getD i 0).toNat - 48)) else (i, n)
theorem b74_cls_in (l : List UInt8) (cap : Nat) (at_ : Int) (most i n : Nat) (h : i < l.length) :
    b74_cls (byteRows l) l.length cap at_ most i n = bif isDigB (l.getD i 0) && decide (n ≤ most) then 0 else 1 := by
  have h0 : decide ((i : Int) < (l.length : Int)) = true := by simpa using h
  have h1 : decide ((n : Int) ≤ (most : Int)) = decide (n ≤ most) := by simp
  unfold b74_cls b74k0 b74k3 b74k4 b74k5 isDigB
  simp only [Int.toNat_natCast, Nat.zero_add, byte_at h, getD_lt h, h0, h1, cond_true]
  cases decide ((l[i].toNat : Int) ≥ 48) <;> cases decide ((l[i].toNat : Int) ≤ 57) <;> cases decide (n ≤ most) <;> rfl
theorem number_loop (l : List UInt8) (cap a most : Nat) (hl : l.length ≤ 4611686018427387904) (ha : a ≤ l.length) (hm : most ≤ 1000000000) :
    LoopOK Tryz.prog (lbody Tryz.prog 74 0) 90 (b74I (byteRows l) l.length cap a most a 0) (.exit 0)
      (b74I (byteRows l) l.length cap a most ((numGo l most (l.length - a) a 0).1 : Nat) ((numGo l most (l.length - a) a 0).2 : Nat)) := by
  refine loop_rule (X := Nat × Nat) (I := fun x => b74I (byteRows l) l.length cap a most (x.1 : Nat) (x.2 : Nat)) (pre := fun x => x.1 ≤ l.length ∧ x.2 ≤ 10 * most + 9 ∧ numGo l most (l.length - x.1) x.1 x.2 = numGo l most (l.length - a) a 0)
    (μ := fun x => l.length - x.1) _ _ rfl (fun ρ => by simp [Ex.conc]) ?_ (x0 := (a, 0)) (pick := []) ⟨ha, by simp, rfl⟩ ⟨by kernel_rfl, map_fst_snd (by kernel_rfl)⟩
  rintro ⟨i, n⟩ ⟨hi, hn, hg⟩
  simp only at hi hn hg ⊢
  have hk1 : b74k0 (byteRows l) l.length cap a most i n = true → b74k1 (byteRows l) l.length cap a most i n = true := by
    unfold b74k0 b74k1; simp only [decide_eq_true_eq]; omega
  have hk2 : b74k0 (byteRows l) l.length cap a most i n = true → b74k2 (byteRows l) l.length cap a most i n = true := by
    unfold b74k0 b74k2; simp only [decide_eq_true_eq, byteRows_length]; omega
  by_cases h : i < l.length
  · obtain ⟨f, hf⟩ : ∃ f, l.length - i = f + 1 := ⟨l.length - i - 1, by omega⟩
    cases hc : isDigB (l.getD i 0) && decide (n ≤ most) with
    | true =>
      left
      rw [hf] at hg
      rw [numGo, hc, cond_true] at hg
      have hc' := hc
      simp only [Bool.and_eq_true, decide_eq_true_eq, isDigB] at hc'
      obtain ⟨⟨d1, d2⟩, d3⟩ := hc'
      rw [getD_lt h] at d1 d2 hg
      refine ⟨(i + 1, n * 10 + (l[i].toNat - 48)), ⟨by omega, by show n * 10 + (l[i].toNat - 48) ≤ _; omega, by show numGo l most (l.length - (i + 1)) _ _ = _; rw [show l.length - (i + 1) = f by omega]; exact hg⟩, by omega, ?_⟩
      refine (b74_c0 (byteRows l) l.length cap a most i n (by rw [b74_cls_in l cap a most i n h, hc]; rfl) hk1 hk2).to ?_
      have w1 := succ64 h hl
      have w2 : IntKind.wrap IntKind.u8 ((l[i].toNat : Int) - 48) = ((l[i].toNat - 48 : Nat) : Int) := by rw [IntWalk.u8_in _ (by omega)]; omega
      simp only [Int.toNat_natCast, Nat.zero_add, byte_at h, w1, w2]
      rw [IntWalk.i64_in ((n : Int) * 10) (by omega), IntWalk.i64_in (((l[i].toNat - 48 : Nat) : Int)) (by omega), IntWalk.i64_in _ (by omega)]
      congr 1 <;> omega
    | false =>
      right
      rw [hf] at hg
      rw [numGo, hc, cond_false] at hg
      rw [← hg]
      exact b74_c1 (byteRows l) l.length cap a most i n (by rw [b74_cls_in l cap a most i n h, hc]; rfl) hk1 hk2
  · right
    have e : l.length - i = 0 := by omega
    rw [e] at hg
    rw [← hg]
    refine b74_c1 (byteRows l) l.length cap a most i n ?_ hk1 hk2
    have h0 : decide ((i : Int) < (l.length : Int)) = false := by simpa using h
    unfold b74_cls b74k0
    rw [h0]; rfl
def c74k0 (bs : List (List AV)) (len cap : Nat) (at_ most i n : Int) : Bool := i == at_
theorem c74_LT (bs : List (List AV)) (len : Nat) (cap : Nat) (at_ : Int) (most : Int) (i : Int) (n : Int) :
 Path (runCallB Tryz.prog Pr 100 74 [AV.sl (Loc.mk 0 0 0) len (Cap.known cap), AV.int IntKind.i64 at_, AV.int IntKind.i64 most] (st0 [Blk.cells false [Kd.int IntKind.u8] bs] ([PI.loop (b74I bs len cap at_ most at_ (0 : Int)) (Ex.exit 0) (b74I bs len cap at_ most i n), pT]))) 1 [] (SL.mk [] [] 1) (Out.ret (AV.tup [AV.int IntKind.i64 (0 : Int), AV.int IntKind.i64 at_, AV.lit false]))
 ((True ∧ LoopOK Tryz.prog (lbody Tryz.prog 74 0) (90) (SL.mk [(0, AV.sl (Loc.mk 0 0 0) len (Cap.known cap)), (1, AV.int IntKind.i64 at_), (2, AV.int IntKind.i64 most), (10, AV.int IntKind.i64 at_), (9, AV.int IntKind.i64 (0 : Int))] [(0, Blk.cells false [Kd.int IntKind.u8] bs)] 1) (Ex.exit 0) (SL.mk [(0, AV.sl (Loc.mk 0 0 0) len (Cap.known cap)), (1, AV.int IntKind.i64 at_), (2, AV.int IntKind.i64 most), (10, AV.int IntKind.i64 i), (9, AV.int IntKind.i64 n)] [(0, Blk.cells false [Kd.int IntKind.u8] bs)] 1)) ∧ c74k0 bs len cap at_ most i n = true) := by unfold Path; kernel_rfl
def c74k1 (bs : List (List AV)) (len cap : Nat) (at_ most i n : Int) : Bool := decide (n > most)
theorem c74_LFT (bs : List (List AV)) (len : Nat) (cap : Nat) (at_ : Int) (most : Int) (i : Int) (n : Int) :
 Path (runCallB Tryz.prog Pr 100 74 [AV.sl (Loc.mk 0 0 0) len (Cap.known cap), AV.int IntKind.i64 at_, AV.int IntKind.i64 most] (st0 [Blk.cells false [Kd.int IntKind.u8] bs] ([PI.loop (b74I bs len cap at_ most at_ (0 : Int)) (Ex.exit 0) (b74I bs len cap at_ most i n), pF, pT]))) 1 [] (SL.mk [] [] 1) (Out.ret (AV.tup [AV.int IntKind.i64 (0 : Int), AV.int IntKind.i64 at_, AV.lit false]))
 (((True ∧ LoopOK Tryz.prog (lbody Tryz.prog 74 0) (90) (SL.mk [(0, AV.sl (Loc.mk 0 0 0) len (Cap.known cap)), (1, AV.int IntKind.i64 at_), (2, AV.int IntKind.i64 most), (10, AV.int IntKind.i64 at_), (9, AV.int IntKind.i64 (0 : Int))] [(0, Blk.cells false [Kd.int IntKind.u8] bs)] 1) (Ex.exit 0) (SL.mk [(0, AV.sl (Loc.mk 0 0 0) len (Cap.known cap)), (1, AV.int IntKind.i64 at_), (2, AV.int IntKind.i64 most), (10, AV.int IntKind.i64 i), (9, AV.int IntKind.i64 n)] [(0, Blk.cells false [Kd.int IntKind.u8] bs)] 1)) ∧ c74k0 bs len cap at_ most i n = false) ∧ c74k1 bs len cap at_ most i n = true) := by unfold Path; kernel_rfl
def c74k2 (bs : List (List AV)) (len cap : Nat) (at_ most i n : Int) : Bool := decide ((0 : Int) ≤ at_ ∧ at_ < ↑len)
def c74k3 (bs : List (List AV)) (len cap : Nat) (at_ most i n : Int) : Bool := decide (0 + Int.toNat at_ < List.length bs)
def c74k4 (bs : List (List AV)) (len cap : Nat) (at_ most i n : Int) : Bool := AV.toInt (List.getD (List.getD bs (0 + Int.toNat at_) []) (0) AV.undef) == (48 : Int)
def c74k5 (bs : List (List AV)) (len cap : Nat) (at_ most i n : Int) : Bool := decide (i > IntKind.wrap IntKind.i64 (at_ + (1 : Int)))
theorem c74_LFFTT (bs : List (List AV)) (len : Nat) (cap : Nat) (at_ : Int) (most : Int) (i : Int) (n : Int) :
 Path (runCallB Tryz.prog Pr 100 74 [AV.sl (Loc.mk 0 0 0) len (Cap.known cap), AV.int IntKind.i64 at_, AV.int IntKind.i64 most] (st0 [Blk.cells false [Kd.int IntKind.u8] bs] ([PI.loop (b74I bs len cap at_ most at_ (0 : Int)) (Ex.exit 0) (b74I bs len cap at_ most i n), pF, pF, pT, pT]))) 1 [] (SL.mk [] [] 1) (Out.ret (AV.tup [AV.int IntKind.i64 (0 : Int), AV.int IntKind.i64 at_, AV.lit false]))
 (((((((True ∧ LoopOK Tryz.prog (lbody Tryz.prog 74 0) (90) (SL.mk [(0, AV.sl (Loc.mk 0 0 0) len (Cap.known cap)), (1, AV.int IntKind.i64 at_), (2, AV.int IntKind.i64 most), (10, AV.int IntKind.i64 at_), (9, AV.int IntKind.i64 (0 : Int))] [(0, Blk.cells false [Kd.int IntKind.u8] bs)] 1) (Ex.exit 0) (SL.mk [(0, AV.sl (Loc.mk 0 0 0) len (Cap.known cap)), (1, AV.int IntKind.i64 at_), (2, AV.int IntKind.i64 most), (10, AV.int IntKind.i64 i), (9, AV.int IntKind.i64 n)] [(0, Blk.cells false [Kd.int IntKind.u8] bs)] 1)) ∧ c74k0 bs len cap at_ most i n = false) ∧ c74k1 bs len cap at_ most i n = false) ∧ c74k2 bs len cap at_ most i n = true) ∧ c74k3 bs len cap at_ most i n = true) ∧ c74k4 bs len cap at_ most i n = true) ∧ c74k5 bs len cap at_ most i n = true) := by unfold Path; kernel_rfl
def c74k6 (bs : List (List AV)) (len cap : Nat) (at_ most i n : Int) : Bool := decide (i < ↑len)
def c74k7 (bs : List (List AV)) (len cap : Nat) (at_ most i n : Int) : Bool := decide ((0 : Int) ≤ i ∧ i < ↑len)
def c74k8 (bs : List (List AV)) (len cap : Nat) (at_ most i n : Int) : Bool := decide (0 + Int.toNat i < List.length bs)
def c74k9 (bs : List (List AV)) (len cap : Nat) (at_ most i n : Int) : Bool := decide (AV.toInt (List.getD (List.getD bs (0 + Int.toNat i) []) (0) AV.undef) ≥ (48 : Int))
def c74k10 (bs : List (List AV)) (len cap : Nat) (at_ most i n : Int) : Bool := decide (AV.toInt (List.getD (List.getD bs (0 + Int.toNat i) []) (0) AV.undef) ≤ (57 : Int))
theorem c74_LFFTFTTT (bs : List (List AV)) (len : Nat) (cap : Nat) (at_ : Int) (most : Int) (i : Int) (n : Int) :
 Path (runCallB Tryz.prog Pr 100 74 [AV.sl (Loc.mk 0 0 0) len (Cap.known cap), AV.int IntKind.i64 at_, AV.int IntKind.i64 most] (st0 [Blk.cells false [Kd.int IntKind.u8] bs] ([PI.loop (b74I bs len cap at_ most at_ (0 : Int)) (Ex.exit 0) (b74I bs len cap at_ most i n), pF, pF, pT, pF, pT, pT, pT]))) 1 [] (SL.mk [] [] 1) (Out.ret (AV.tup [AV.int IntKind.i64 (0 : Int), AV.int IntKind.i64 at_, AV.lit false]))
 ((((((((((((((True ∧ LoopOK Tryz.prog (lbody Tryz.prog 74 0) (90) (SL.mk [(0, AV.sl (Loc.mk 0 0 0) len (Cap.known cap)), (1, AV.int IntKind.i64 at_), (2, AV.int IntKind.i64 most), (10, AV.int IntKind.i64 at_), (9, AV.int IntKind.i64 (0 : Int))] [(0, Blk.cells false [Kd.int IntKind.u8] bs)] 1) (Ex.exit 0) (SL.mk [(0, AV.sl (Loc.mk 0 0 0) len (Cap.known cap)), (1, AV.int IntKind.i64 at_), (2, AV.int IntKind.i64 most), (10, AV.int IntKind.i64 i), (9, AV.int IntKind.i64 n)] [(0, Blk.cells false [Kd.int IntKind.u8] bs)] 1)) ∧ c74k0 bs len cap at_ most i n = false) ∧ c74k1 bs len cap at_ most i n = false) ∧ c74k2 bs len cap at_ most i n = true) ∧ c74k3 bs len cap at_ most i n = true) ∧ c74k4 bs len cap at_ most i n = true) ∧ c74k5 bs len cap at_ most i n = false) ∧ c74k6 bs len cap at_ most i n = true) ∧ c74k7 bs len cap at_ most i n = true) ∧ c74k8 bs len cap at_ most i n = true) ∧ c74k9 bs len cap at_ most i n = true) ∧ c74k7 bs len cap at_ most i n = true) ∧ c74k8 bs len cap at_ most i n = true) ∧ c74k10 bs len cap at_ most i n = true) := by unfold Path; kernel_rfl
theorem c74_LFFTFTTF (bs : List (List AV)) (len : Nat) (cap : Nat) (at_ : Int) (most : Int) (i : Int) (n : Int) :
 Path (runCallB Tryz.prog Pr 100 74 [AV.sl (Loc.mk 0 0 0) len (Cap.known cap), AV.int IntKind.i64 at_, AV.int IntKind.i64 most] (st0 [Blk.cells false [Kd.int IntKind.u8] bs] ([PI.loop (b74I bs len cap at_ most at_ (0 : Int)) (Ex.exit 0) (b74I bs len cap at_ most i n), pF, pF, pT, pF, pT, pT, pF]))) 1 [] (SL.mk [] [] 1) (Out.ret (AV.tup [AV.int IntKind.i64 n, AV.int IntKind.i64 i, AV.lit true]))
 ((((((((((((((True ∧ LoopOK Tryz.prog (lbody Tryz.prog 74 0) (90) (SL.mk [(0, AV.sl (Loc.mk 0 0 0) len (Cap.known cap)), (1, AV.int IntKind.i64 at_), (2, AV.int IntKind.i64 most), (10, AV.int IntKind.i64 at_), (9, AV.int IntKind.i64 (0 : Int))] [(0, Blk.cells false [Kd.int IntKind.u8] bs)] 1) (Ex.exit 0) (SL.mk [(0, AV.sl (Loc.mk 0 0 0) len (Cap.known cap)), (1, AV.int IntKind.i64 at_), (2, AV.int IntKind.i64 most), (10, AV.int IntKind.i64 i), (9, AV.int IntKind.i64 n)] [(0, Blk.cells false [Kd.int IntKind.u8] bs)] 1)) ∧ c74k0 bs len cap at_ most i n = false) ∧ c74k1 bs len cap at_ most i n = false) ∧ c74k2 bs len cap at_ most i n = true) ∧ c74k3 bs len cap at_ most i n = true) ∧ c74k4 bs len cap at_ most i n = true) ∧ c74k5 bs len cap at_ most i n = false) ∧ c74k6 bs len cap at_ most i n = true) ∧ c74k7 bs len cap at_ most i n = true) ∧ c74k8 bs len cap at_ most i n = true) ∧ c74k9 bs len cap at_ most i n = true) ∧ c74k7 bs len cap at_ most i n = true) ∧ c74k8 bs len cap at_ most i n = true) ∧ c74k10 bs len cap at_ most i n = false) := by unfold Path; kernel_rfl
theorem c74_LFFTFTF (bs : List (List AV)) (len : Nat) (cap : Nat) (at_ : Int) (most : Int) (i : Int) (n : Int) :
 Path (runCallB Tryz.prog Pr 100 74 [AV.sl (Loc.mk 0 0 0) len (Cap.known cap), AV.int IntKind.i64 at_, AV.int IntKind.i64 most] (st0 [Blk.cells false [Kd.int IntKind.u8] bs] ([PI.loop (b74I bs len cap at_ most at_ (0 : Int)) (Ex.exit 0) (b74I bs len cap at_ most i n), pF, pF, pT, pF, pT, pF]))) 1 [] (SL.mk [] [] 1) (Out.ret (AV.tup [AV.int IntKind.i64 n, AV.int IntKind.i64 i, AV.lit true]))
 (((((((((((True ∧ LoopOK Tryz.prog (lbody Tryz.prog 74 0) (90) (SL.mk [(0, AV.sl (Loc.mk 0 0 0) len (Cap.known cap)), (1, AV.int IntKind.i64 at_), (2, AV.int IntKind.i64 most), (10, AV.int IntKind.i64 at_), (9, AV.int IntKind.i64 (0 : Int))] [(0, Blk.cells false [Kd.int IntKind.u8] bs)] 1) (Ex.exit 0) (SL.mk [(0, AV.sl (Loc.mk 0 0 0) len (Cap.known cap)), (1, AV.int IntKind.i64 at_), (2, AV.int IntKind.i64 most), (10, AV.int IntKind.i64 i), (9, AV.int IntKind.i64 n)] [(0, Blk.cells false [Kd.int IntKind.u8] bs)] 1)) ∧ c74k0 bs len cap at_ most i n = false) ∧ c74k1 bs len cap at_ most i n = false) ∧ c74k2 bs len cap at_ most i n = true) ∧ c74k3 bs len cap at_ most i n = true) ∧ c74k4 bs len cap at_ most i n = true) ∧ c74k5 bs len cap at_ most i n = false) ∧ c74k6 bs len cap at_ most i n = true) ∧ c74k7 bs len cap at_ most i n = true) ∧ c74k8 bs len cap at_ most i n = true) ∧ c74k9 bs len cap at_ most i n = false) := by unfold Path; kernel_rfl
theorem c74_LFFTFF (bs : List (List AV)) (len : Nat) (cap : Nat) (at_ : Int) (most : Int) (i : Int) (n : Int) :
 Path (runCallB Tryz.prog Pr 100 74 [AV.sl (Loc.mk 0 0 0) len (Cap.known cap), AV.int IntKind.i64 at_, AV.int IntKind.i64 most] (st0 [Blk.cells false [Kd.int IntKind.u8] bs] ([PI.loop (b74I bs len cap at_ most at_ (0 : Int)) (Ex.exit 0) (b74I bs len cap at_ most i n), pF, pF, pT, pF, pF]))) 1 [] (SL.mk [] [] 1) (Out.ret (AV.tup [AV.int IntKind.i64 n, AV.int IntKind.i64 i, AV.lit true]))
 ((((((((True ∧ LoopOK Tryz.prog (lbody Tryz.prog 74 0) (90) (SL.mk [(0, AV.sl (Loc.mk 0 0 0) len (Cap.known cap)), (1, AV.int IntKind.i64 at_), (2, AV.int IntKind.i64 most), (10, AV.int IntKind.i64 at_), (9, AV.int IntKind.i64 (0 : Int))] [(0, Blk.cells false [Kd.int IntKind.u8] bs)] 1) (Ex.exit 0) (SL.mk [(0, AV.sl (Loc.mk 0 0 0) len (Cap.known cap)), (1, AV.int IntKind.i64 at_), (2, AV.int IntKind.i64 most), (10, AV.int IntKind.i64 i), (9, AV.int IntKind.i64 n)] [(0, Blk.cells false [Kd.int IntKind.u8] bs)] 1)) ∧ c74k0 bs len cap at_ most i n = false) ∧ c74k1 bs len cap at_ most i n = false) ∧ c74k2 bs len cap at_ most i n = true) ∧ c74k3 bs len cap at_ most i n = true) ∧ c74k4 bs len cap at_ most i n = true) ∧ c74k5 bs len cap at_ most i n = false) ∧ c74k6 bs len cap at_ most i n = false) := by unfold Path; kernel_rfl
theorem c74_LFFFTTT (bs : List (List AV)) (len : Nat) (cap : Nat) (at_ : Int) (most : Int) (i : Int) (n : Int) :
 Path (runCallB Tryz.prog Pr 100 74 [AV.sl (Loc.mk 0 0 0) len (Cap.known cap), AV.int IntKind.i64 at_, AV.int IntKind.i64 most] (st0 [Blk.cells false [Kd.int IntKind.u8] bs] ([PI.loop (b74I bs len cap at_ most at_ (0 : Int)) (Ex.exit 0) (b74I bs len cap at_ most i n), pF, pF, pF, pT, pT, pT]))) 1 [] (SL.mk [] [] 1) (Out.ret (AV.tup [AV.int IntKind.i64 (0 : Int), AV.int IntKind.i64 at_, AV.lit false]))
 (((((((((((((True ∧ LoopOK Tryz.prog (lbody Tryz.prog 74 0) (90) (SL.mk [(0, AV.sl (Loc.mk 0 0 0) len (Cap.known cap)), (1, AV.int IntKind.i64 at_), (2, AV.int IntKind.i64 most), (10, AV.int IntKind.i64 at_), (9, AV.int IntKind.i64 (0 : Int))] [(0, Blk.cells false [Kd.int IntKind.u8] bs)] 1) (Ex.exit 0) (SL.mk [(0, AV.sl (Loc.mk 0 0 0) len (Cap.known cap)), (1, AV.int IntKind.i64 at_), (2, AV.int IntKind.i64 most), (10, AV.int IntKind.i64 i), (9, AV.int IntKind.i64 n)] [(0, Blk.cells false [Kd.int IntKind.u8] bs)] 1)) ∧ c74k0 bs len cap at_ most i n = false) ∧ c74k1 bs len cap at_ most i n = false) ∧ c74k2 bs len cap at_ most i n = true) ∧ c74k3 bs len cap at_ most i n = true) ∧ c74k4 bs len cap at_ most i n = false) ∧ c74k6 bs len cap at_ most i n = true) ∧ c74k7 bs len cap at_ most i n = true) ∧ c74k8 bs len cap at_ most i n = true) ∧ c74k9 bs len cap at_ most i n = true) ∧ c74k7 bs len cap at_ most i n = true) ∧ c74k8 bs len cap at_ most i n = true) ∧ c74k10 bs len cap at_ most i n = true) := by unfold Path; kernel_rfl
theorem c74_LFFFTTF (bs : List (List AV)) (len : Nat) (cap : Nat) (at_ : Int) (most : Int) (i : Int) (n : Int) :
 Path (runCallB Tryz.prog Pr 100 74 [AV.sl (Loc.mk 0 0 0) len (Cap.known cap), AV.int IntKind.i64 at_, AV.int IntKind.i64 most] (st0 [Blk.cells false [Kd.int IntKind.u8] bs] ([PI.loop (b74I bs len cap at_ most at_ (0 : Int)) (Ex.exit 0) (b74I bs len cap at_ most i n), pF, pF, pF, pT, pT, pF]))) 1 [] (SL.mk [] [] 1) (Out.ret (AV.tup [AV.int IntKind.i64 n, AV.int IntKind.i64 i, AV.lit true]))
 (((((((((((((True ∧ LoopOK Tryz.prog (lbody Tryz.prog 74 0) (90) (SL.mk [(0, AV.sl (Loc.mk 0 0 0) len (Cap.known cap)), (1, AV.int IntKind.i64 at_), (2, AV.int IntKind.i64 most), (10, AV.int IntKind.i64 at_), (9, AV.int IntKind.i64 (0 : Int))] [(0, Blk.cells false [Kd.int IntKind.u8] bs)] 1) (Ex.exit 0) (SL.mk [(0, AV.sl (Loc.mk 0 0 0) len (Cap.known cap)), (1, AV.int IntKind.i64 at_), (2, AV.int IntKind.i64 most), (10, AV.int IntKind.i64 i), (9, AV.int IntKind.i64 n)] [(0, Blk.cells false [Kd.int IntKind.u8] bs)] 1)) ∧ c74k0 bs len cap at_ most i n = false) ∧ c74k1 bs len cap at_ most i n = false) ∧ c74k2 bs len cap at_ most i n = true) ∧ c74k3 bs len cap at_ most i n = true) ∧ c74k4 bs len cap at_ most i n = false) ∧ c74k6 bs len cap at_ most i n = true) ∧ c74k7 bs len cap at_ most i n = true) ∧ c74k8 bs len cap at_ most i n = true) ∧ c74k9 bs len cap at_ most i n = true) ∧ c74k7 bs len cap at_ most i n = true) ∧ c74k8 bs len cap at_ most i n = true) ∧ c74k10 bs len cap at_ most i n = false) := by unfold Path; kernel_rfl
theorem c74_LFFFTF (bs : List (List AV)) (len : Nat) (cap : Nat) (at_ : Int) (most : Int) (i : Int) (n : Int) :
 Path (runCallB Tryz.prog Pr 100 74 [AV.sl (Loc.mk 0 0 0) len (Cap.known cap), AV.int IntKind.i64 at_, AV.int IntKind.i64 most] (st0 [Blk.cells false [Kd.int IntKind.u8] bs] ([PI.loop (b74I bs len cap at_ most at_ (0 : Int)) (Ex.exit 0) (b74I bs len cap at_ most i n), pF, pF, pF, pT, pF]))) 1 [] (SL.mk [] [] 1) (Out.ret (AV.tup [AV.int IntKind.i64 n, AV.int IntKind.i64 i, AV.lit true]))
 ((((((((((True ∧ LoopOK Tryz.prog (lbody Tryz.prog 74 0) (90) (SL.mk [(0, AV.sl (Loc.mk 0 0 0) len (Cap.known cap)), (1, AV.int IntKind.i64 at_), (2, AV.int IntKind.i64 most), (10, AV.int IntKind.i64 at_), (9, AV.int IntKind.i64 (0 : Int))] [(0, Blk.cells false [Kd.int IntKind.u8] bs)] 1) (Ex.exit 0) (SL.mk [(0, AV.sl (Loc.mk 0 0 0) len (Cap.known cap)), (1, AV.int IntKind.i64 at_), (2, AV.int IntKind.i64 most), (10, AV.int IntKind.i64 i), (9, AV.int IntKind.i64 n)] [(0, Blk.cells false [Kd.int IntKind.u8] bs)] 1)) ∧ c74k0 bs len cap at_ most i n = false) ∧ c74k1 bs len cap at_ most i n = false) ∧ c74k2 bs len cap at_ most i n = true) ∧ c74k3 bs len cap at_ most i n = true) ∧ c74k4 bs len cap at_ most i n = false) ∧ c74k6 bs len cap at_ most i n = true) ∧ c74k7 bs len cap at_ most i n = true) ∧ c74k8 bs len cap at_ most i n = true) ∧ c74k9 bs len cap at_ most i n = false) := by unfold Path; kernel_rfl
theorem c74_LFFFF (bs : List (List AV)) (len : Nat) (cap : Nat) (at_ : Int) (most : Int) (i : Int) (n : Int) :
 Path (runCallB Tryz.prog Pr 100 74 [AV.sl (Loc.mk 0 0 0) len (Cap.known cap), AV.int IntKind.i64 at_, AV.int IntKind.i64 most] (st0 [Blk.cells false [Kd.int IntKind.u8] bs] ([PI.loop (b74I bs len cap at_ most at_ (0 : Int)) (Ex.exit 0) (b74I bs len cap at_ most i n), pF, pF, pF, pF]))) 1 [] (SL.mk [] [] 1) (Out.ret (AV.tup [AV.int IntKind.i64 n, AV.int IntKind.i64 i, AV.lit true]))
 (((((((True ∧ LoopOK Tryz.prog (lbody Tryz.prog 74 0) (90) (SL.mk [(0, AV.sl (Loc.mk 0 0 0) len (Cap.known cap)), (1, AV.int IntKind.i64 at_), (2, AV.int IntKind.i64 most), (10, AV.int IntKind.i64 at_), (9, AV.int IntKind.i64 (0 : Int))] [(0, Blk.cells false [Kd.int IntKind.u8] bs)] 1) (Ex.exit 0) (SL.mk [(0, AV.sl (Loc.mk 0 0 0) len (Cap.known cap)), (1, AV.int IntKind.i64 at_), (2, AV.int IntKind.i64 most), (10, AV.int IntKind.i64 i), (9, AV.int IntKind.i64 n)] [(0, Blk.cells false [Kd.int IntKind.u8] bs)] 1)) ∧ c74k0 bs len cap at_ most i n = false) ∧ c74k1 bs len cap at_ most i n = false) ∧ c74k2 bs len cap at_ most i n = true) ∧ c74k3 bs len cap at_ most i n = true) ∧ c74k4 bs len cap at_ most i n = false) ∧ c74k6 bs len cap at_ most i n = false) := by unfold Path; kernel_rfl
def c74_cls (bs : List (List AV)) (len cap : Nat) (at_ most i n : Int) : Nat := (bif c74k0 bs len cap at_ most i n then 0 else (bif c74k1 bs len cap at_ most i n then 0 else (bif c74k4 bs len cap at_ most i n then (bif c74k5 bs len cap at_ most i n then 0 else (bif c74k6 bs len cap at_ most i n then (bif c74k9 bs len cap at_ most i n then (bif c74k10 bs len cap at_ most i n then 0 else 1) else 1) else 1)) else (bif c74k6 bs len cap at_ most i n then (bif c74k9 bs len cap at_ most i n then (bif c74k10 bs len cap at_ most i n then 0 else 1) else 1) else 1))))
theorem c74_c0 (bs : List (List AV)) (len cap : Nat) (at_ most i n : Int) (h : c74_cls bs len cap at_ most i n = 0) (m0 : LoopOK Tryz.prog (lbody Tryz.prog 74 0) (90) (SL.mk [(0, AV.sl (Loc.mk 0 0 0) len (Cap.known cap)), (1, AV.int IntKind.i64 at_), (2, AV.int IntKind.i64 most), (10, AV.int IntKind.i64 at_), (9, AV.int IntKind.i64 (0 : Int))] [(0, Blk.cells false [Kd.int IntKind.u8] bs)] 1) (Ex.exit 0) (SL.mk [(0, AV.sl (Loc.mk 0 0 0) len (Cap.known cap)), (1, AV.int IntKind.i64 at_), (2, AV.int IntKind.i64 most), (10, AV.int IntKind.i64 i), (9, AV.int IntKind.i64 n)] [(0, Blk.cells false [Kd.int IntKind.u8] bs)] 1)) (m1 : c74k0 bs len cap at_ most i n = false → c74k1 bs len cap at_ most i n = false → c74k2 bs len cap at_ most i n = true) (m2 : c74k0 bs len cap at_ most i n = false → c74k1 bs len cap at_ most i n = false → c74k3 bs len cap at_ most i n = true) (m3 : c74k0 bs len cap at_ most i n = false → c74k1 bs len cap at_ most i n = false → c74k6 bs len cap at_ most i n = true → c74k7 bs len cap at_ most i n = true) (m4 : c74k0 bs len cap at_ most i n = false → c74k1 bs len cap at_ most i n = false → c74k6 bs len cap at_ most i n = true → c74k8 bs len cap at_ most i n = true) : ∃ plan ow, Path (runCallB Tryz.prog Pr 100 74 [AV.sl (Loc.mk 0 0 0) len (Cap.known cap), AV.int IntKind.i64 at_, AV.int IntKind.i64 most] (st0 [Blk.cells false [Kd.int IntKind.u8] bs] plan)) 1 [] (SL.mk [] [] 1) (Out.ret (AV.tup [AV.int IntKind.i64 (0 : Int), AV.int IntKind.i64 at_, AV.lit false])) ow ∧ ow := by
  unfold c74_cls at h
  cases q1 : c74k0 bs len cap at_ most i n with
  | true =>
    rw [q1, cond_true] at h
    exact ⟨_, _, c74_LT bs len cap at_ most i n, by simp only [q1, m0, eq_self, and_true, true_and]⟩
  | false =>
    rw [q1, cond_false] at h
    cases q2 : c74k1 bs len cap at_ most i n with
    | true =>
      rw [q2, cond_true] at h
      exact ⟨_, _, c74_LFT bs len cap at_ most i n, by simp only [q1, q2, m0, eq_self, and_true, true_and]⟩
    | false =>
      rw [q2, cond_false] at h
      cases q3 : c74k4 bs len cap at_ most i n with
      | true =>
        rw [q3, cond_true] at h
        cases q4 : c74k5 bs len cap at_ most i n with
        | true =>
          rw [q4, cond_true] at h
          exact ⟨_, _, c74_LFFTT bs len cap at_ most i n, by simp only [q1, q2, q3, q4, m0, (m1 q1 q2), (m2 q1 q2), eq_self, and_true, true_and]⟩
        | false =>
          rw [q4, cond_false] at h
          cases q5 : c74k6 bs len cap at_ most i n with
          | true =>
            rw [q5, cond_true] at h
            cases q6 : c74k9 bs len cap at_ most i n with
            | true =>
              rw [q6, cond_true] at h
              cases q7 : c74k10 bs len cap at_ most i n with
              | true =>
                rw [q7, cond_true] at h
                exact ⟨_, _, c74_LFFTFTTT bs len cap at_ most i n, by simp only [q1, q2, q3, q4, q5, q6, q7, m0, (m1 q1 q2), (m2 q1 q2), (m3 q1 q2 q5), (m4 q1 q2 q5), eq_self, and_true, true_and]⟩
              | false =>
                rw [q7, cond_false] at h
                exact absurd h (by decide)
            | false =>
              rw [q6, cond_false] at h
              exact absurd h (by decide)
          | false =>
            rw [q5, cond_false] at h
            exact absurd h (by decide)
      | false =>
        rw [q3, cond_false] at h
        cases q4 : c74k6 bs len cap at_ most i n with
        | true =>
          rw [q4, cond_true] at h
          cases q5 : c74k9 bs len cap at_ most i n with
          | true =>
            rw [q5, cond_true] at h
            cases q6 : c74k10 bs len cap at_ most i n with
            | true =>
              rw [q6, cond_true] at h
              exact ⟨_, _, c74_LFFFTTT bs len cap at_ most i n, by simp only [q1, q2, q3, q4, q5, q6, m0, (m1 q1 q2), (m2 q1 q2), (m3 q1 q2 q4), (m4 q1 q2 q4), eq_self, and_true, true_and]⟩
            | false =>
              rw [q6, cond_false] at h
              exact absurd h (by decide)
          | false =>
            rw [q5, cond_false] at h
            exact absurd h (by decide)
        | false =>
          rw [q4, cond_false] at h
          exact absurd h (by decide)
theorem c74_c1 (bs : List (List AV)) (len cap : Nat) (at_ most i n : Int) (h : c74_cls bs len cap at_ most i n = 1) (m0 : LoopOK Tryz.prog (lbody Tryz.prog 74 0) (90) (SL.mk [(0, AV.sl (Loc.mk 0 0 0) len (Cap.known cap)), (1, AV.int IntKind.i64 at_), (2, AV.int IntKind.i64 most), (10, AV.int IntKind.i64 at_), (9, AV.int IntKind.i64 (0 : Int))] [(0, Blk.cells false [Kd.int IntKind.u8] bs)] 1) (Ex.exit 0) (SL.mk [(0, AV.sl (Loc.mk 0 0 0) len (Cap.known cap)), (1, AV.int IntKind.i64 at_), (2, AV.int IntKind.i64 most), (10, AV.int IntKind.i64 i), (9, AV.int IntKind.i64 n)] [(0, Blk.cells false [Kd.int IntKind.u8] bs)] 1)) (m1 : c74k0 bs len cap at_ most i n = false → c74k1 bs len cap at_ most i n = false → c74k2 bs len cap at_ most i n = true) (m2 : c74k0 bs len cap at_ most i n = false → c74k1 bs len cap at_ most i n = false → c74k3 bs len cap at_ most i n = true) (m3 : c74k0 bs len cap at_ most i n = false → c74k1 bs len cap at_ most i n = false → c74k6 bs len cap at_ most i n = true → c74k7 bs len cap at_ most i n = true) (m4 : c74k0 bs len cap at_ most i n = false → c74k1 bs len cap at_ most i n = false → c74k6 bs len cap at_ most i n = true → c74k8 bs len cap at_ most i n = true) : ∃ plan ow, Path (runCallB Tryz.prog Pr 100 74 [AV.sl (Loc.mk 0 0 0) len (Cap.known cap), AV.int IntKind.i64 at_, AV.int IntKind.i64 most] (st0 [Blk.cells false [Kd.int IntKind.u8] bs] plan)) 1 [] (SL.mk [] [] 1) (Out.ret (AV.tup [AV.int IntKind.i64 n, AV.int IntKind.i64 i, AV.lit true])) ow ∧ ow := by
  unfold c74_cls at h
  cases q1 : c74k0 bs len cap at_ most i n with
  | true =>
    rw [q1, cond_true] at h
    exact absurd h (by decide)
  | false =>
    rw [q1, cond_false] at h
    cases q2 : c74k1 bs len cap at_ most i n with
    | true =>
      rw [q2, cond_true] at h
      exact absurd h (by decide)
    | false =>
      rw [q2, cond_false] at h
      cases q3 : c74k4 bs len cap at_ most i n with
      | true =>
        rw [q3, cond_true] at h
        cases q4 : c74k5 bs len cap at_ most i n with
        | true =>
          rw [q4, cond_true] at h
          exact absurd h (by decide)
        | false =>
          rw [q4, cond_false] at h
          cases q5 : c74k6 bs len cap at_ most i n with
          | true =>
            rw [q5, cond_true] at h
            cases q6 : c74k9 bs len cap at_ most i n with
            | true =>
              rw [q6, cond_true] at h
              cases q7 : c74k10 bs len cap at_ most i n with
              | true =>
                rw [q7, cond_true] at h
                exact absurd h (by decide)
              | false =>
                rw [q7, cond_false] at h
                exact ⟨_, _, c74_LFFTFTTF bs len cap at_ most i n, by simp only [q1, q2, q3, q4, q5, q6, q7, m0, (m1 q1 q2), (m2 q1 q2), (m3 q1 q2 q5), (m4 q1 q2 q5), eq_self, and_true, true_and]⟩
            | false =>
              rw [q6, cond_false] at h
              exact ⟨_, _, c74_LFFTFTF bs len cap at_ most i n, by simp only [q1, q2, q3, q4, q5, q6, m0, (m1 q1 q2), (m2 q1 q2), (m3 q1 q2 q5), (m4 q1 q2 q5), eq_self, and_true, true_and]⟩
          | false =>
            rw [q5, cond_false] at h
            exact ⟨_, _, c74_LFFTFF bs len cap at_ most i n, by simp only [q1, q2, q3, q4, q5, m0, (m1 q1 q2), (m2 q1 q2), eq_self, and_true, true_and]⟩
      | false =>
        rw [q3, cond_false] at h
        cases q4 : c74k6 bs len cap at_ most i n with
        | true =>
          rw [q4, cond_true] at h
          cases q5 : c74k9 bs len cap at_ most i n with
          | true =>
            rw [q5, cond_true] at h
            cases q6 : c74k10 bs len cap at_ most i n with
            | true =>
              rw [q6, cond_true] at h
              exact absurd h (by decide)
            | false =>
              rw [q6, cond_false] at h
              exact ⟨_, _, c74_LFFFTTF bs len cap at_ most i n, by simp only [q1, q2, q3, q4, q5, q6, m0, (m1 q1 q2), (m2 q1 q2), (m3 q1 q2 q4), (m4 q1 q2 q4), eq_self, and_true, true_and]⟩
          | false =>
            rw [q5, cond_false] at h
            exact ⟨_, _, c74_LFFFTF bs len cap at_ most i n, by simp only [q1, q2, q3, q4, q5, m0, (m1 q1 q2), (m2 q1 q2), (m3 q1 q2 q4), (m4 q1 q2 q4), eq_self, and_true, true_and]⟩
        | false =>
          rw [q4, cond_false] at h
          exact ⟨_, _, c74_LFFFF bs len cap at_ most i n, by simp only [q1, q2, q3, q4, m0, (m1 q1 q2), (m2 q1 q2), eq_self, and_true, true_and]⟩
def numBad (l : List UInt8) (a most i n : Nat) : Bool :=
  (decide (i = a)) || (decide (n > most)) || ((l.getD a 0 == 48) && decide (i > a + 1)) || (decide (i < l.length) && isDigB (l.getD i 0))
def spNumber (l : List UInt8) (a most : Nat) : Nat × Nat × Bool :=
  let r := numGo l most (l.length - a) a 0
  bif numBad l a most r.1 r.2 then (0, a, false) else (r.2, r.1, true)
theorem numGo_le (l : List UInt8) (most : Nat) : ∀ f i n, i + f ≤ l.length → i ≤ (numGo l most f i n).1 ∧ (numGo l most f i n).1 ≤ l.length := by
  intro f
  induction f with
  | zero => intro i n h; exact ⟨Nat.le_refl _, h⟩
  | succ f ih =>
    intro i n h
    unfold numGo
    cases isDigB (l.getD i 0) && decide (n ≤ most) with
    | true => have := ih (i + 1) (n * 10 + ((l.getD i 0).toNat - 48)) (by omega); simp only [cond_true]; omega
    | false => simp only [cond_false]; omega
theorem u8_48 (c : UInt8) : ((c.toNat : Int) == 48) = (c == 48) := u8i c 48
theorem c74_cls_eq (l : List UInt8) (cap a most i n : Nat) (hl : l.length ≤ 4611686018427387904) (hai : a ≤ i) (hi : i ≤ l.length) :
    c74_cls (byteRows l) l.length cap a most i n = bif numBad l a most i n then 0 else 1 := by
  have e0 : ((i : Int) == (a : Int)) = decide (i = a) := by rw [Bool.eq_iff_iff]; simp only [beq_iff_eq, decide_eq_true_eq]; omega
  have e1 : decide ((n : Int) > (most : Int)) = decide (n > most) := by rw [Bool.eq_iff_iff]; simp only [decide_eq_true_eq]; omega
  have e6 : decide ((i : Int) < (l.length : Int)) = decide (i < l.length) := by rw [Bool.eq_iff_iff]; simp only [decide_eq_true_eq]; omega
  unfold c74_cls c74k0 c74k1 c74k4 c74k5 c74k6 c74k9 c74k10 numBad isDigB
  simp only [e0, e1, e6, Int.toNat_natCast, Nat.zero_add]
  by_cases h0 : i = a
  · simp [h0]
  · have ha : a < l.length := by omega
    have e5 : decide ((i : Int) > IntKind.wrap IntKind.i64 ((a : Int) + 1)) = decide (i > a + 1) := by
      rw [succ64 ha hl, Bool.eq_iff_iff]; simp only [decide_eq_true_eq]; omega
    rw [e5, byte_at ha, u8_48, getD_lt ha]
    by_cases h6 : i < l.length
    · rw [byte_at h6, getD_lt h6]
      simp only [h0, h6, decide_true, decide_false, cond_true, cond_false, Bool.false_or, Bool.true_and]
      cases decide (n > most) <;> cases (l[a] == 48) <;> cases decide (i > a + 1) <;> cases decide ((l[i].toNat : Int) ≥ 48) <;> cases decide ((l[i].toNat : Int) ≤ 57) <;> rfl
    · simp only [h0, h6, decide_false, cond_false, Bool.false_or, Bool.false_and, Bool.or_false]
      cases decide (n > most) <;> cases (l[a] == 48) <;> cases decide (i > a + 1) <;> rfl
end Go.Proofs.YtpdgmgkkbbndfaaGreatDoor

set_option maxRecDepth 100000
set_option maxHeartbeats 1600000
namespace Go.Proofs.YtpdgmgkkbbndfaaGreatDoor
open Go Go.Proofs Go.Proofs.YtpdgmgkkbbndfaaGreatDoor.SX
def spNumN (l : List UInt8) (a most : Nat) : Nat := (spNumber l a most).1
def spNumE (l : List UInt8) (a most : Nat) : Nat := (spNumber l a most).2.1
def spNumK (l : List UInt8) (a most : Nat) : Bool := (spNumber l a most).2.2
theorem number_calls {l : List UInt8} {cap a most : Nat} (hl : l.length ≤ 4611686018427387904) (ha : a ≤ l.length) (hm : most ≤ 1000000000) {ρ : Nat → BI} {w : World}
    (hE : HSim ρ (addBlks .e 0 [Blk.cells false [Kd.int IntKind.u8] (byteRows l)]) ([Blk.cells false [Kd.int IntKind.u8] (byteRows l)] : List Blk).length w) :
    Calls Tryz.prog 74 (concL ρ [.sl ⟨0, 0, 0⟩ l.length (.known cap), .int .i64 a, .int .i64 most]).toArray w
      (fun e w' => e = .returned (conc ρ (.tup [.int .i64 (spNumN l a most : Nat), .int .i64 (spNumE l a most : Nat), .bool (spNumK l a most)])) ∧ Ext w w') := by
  obtain ⟨r, hr⟩ : ∃ r, r = numGo l most (l.length - a) a 0 := ⟨_, rfl⟩
  have m0 := number_loop l cap a most hl ha hm
  obtain ⟨g1, g2⟩ := numGo_le l most (l.length - a) a 0 (by omega)
  rw [← hr] at m0 g1 g2
  have hcls := c74_cls_eq l cap a most r.1 r.2 hl g1 g2
  have m1 : c74k0 (byteRows l) l.length cap a most r.1 r.2 = false → c74k1 (byteRows l) l.length cap a most r.1 r.2 = false → c74k2 (byteRows l) l.length cap a most r.1 r.2 = true := by
    intro h _
    unfold c74k0 at h
    rw [beq_eq_false_iff_ne] at h
    exact decide_eq_true (by omega)
  have m2 : c74k0 (byteRows l) l.length cap a most r.1 r.2 = false → c74k1 (byteRows l) l.length cap a most r.1 r.2 = false → c74k3 (byteRows l) l.length cap a most r.1 r.2 = true := by
    intro h _
    unfold c74k0 at h
    rw [beq_eq_false_iff_ne] at h
    exact decide_eq_true (by rw [byteRows_length, Int.toNat_natCast]; omega)
  have m3 : c74k0 (byteRows l) l.length cap a most r.1 r.2 = false → c74k1 (byteRows l) l.length cap a most r.1 r.2 = false → c74k6 (byteRows l) l.length cap a most r.1 r.2 = true → c74k7 (byteRows l) l.length cap a most r.1 r.2 = true := by
    intro _ _ h
    have h := of_decide_eq_true h
    exact decide_eq_true (by omega)
  have m4 : c74k0 (byteRows l) l.length cap a most r.1 r.2 = false → c74k1 (byteRows l) l.length cap a most r.1 r.2 = false → c74k6 (byteRows l) l.length cap a most r.1 r.2 = true → c74k8 (byteRows l) l.length cap a most r.1 r.2 = true := by
    intro _ _ h
    have h := of_decide_eq_true h
    exact decide_eq_true (by rw [byteRows_length, Int.toNat_natCast]; omega)
  unfold spNumN spNumE spNumK spNumber
  simp only [← hr]
  cases hb : numBad l a most r.1 r.2 with
  | true =>
    obtain ⟨plan, ow, hp, ho⟩ := c74_c0 (byteRows l) l.length cap a most r.1 r.2 (by rw [hcls, hb]; rfl) m0 m1 m2 m3 m4
    exact calls_pureB Pr_ok hp ho hE rfl rfl rfl
  | false =>
    obtain ⟨plan, ow, hp, ho⟩ := c74_c1 (byteRows l) l.length cap a most r.1 r.2 (by rw [hcls, hb]; rfl) m0 m1 m2 m3 m4
    exact calls_pureB Pr_ok hp ho hE rfl rfl rfl
def q74 : Entry := fun args hp nx => match args with
  | [lv, .int .i64 a, .int .i64 m] => match slIn hp [.int .u8] lv with
    | some (c, rows) => some (c && (rows.all spByteOk && decide (0 < rows.length ∧ rows.length ≤ 4611686018427387904 ∧ 0 ≤ a ∧ a ≤ rows.length ∧ 0 ≤ m ∧ m ≤ 1000000000)),
        .tup [.int .i64 (spNumN (rows.map rowByte) a.toNat m.toNat : Nat), .int .i64 (spNumE (rows.map rowByte) a.toNat m.toNat : Nat), .bool (spNumK (rows.map rowByte) a.toNat m.toNat)], [])
    | _ => none
  | _ => none
theorem q74_ok : EntryOK Tryz.prog 74 q74 := by
  intro args hp nx c v bs h hc ρ w hs hi
  unfold q74 at h
  split at h
  · rename_i lv a m
    split at h
    · rename_i c1 rows hs1
      cases h
      simp only [Bool.and_eq_true] at hc
      obtain ⟨hc1, hc2, hc3⟩ := hc
      obtain ⟨k1, k2, k3, k4, k5, k6⟩ := of_decide_eq_true hc3
      have hb := bytes_of hc2
      obtain ⟨l, hl⟩ : ∃ l, l = rows.map rowByte := ⟨_, rfl⟩
      rw [← hl] at hb ⊢
      have hr := slIn_spec hs hs1 hc1 rfl
      refine entry_pure hs rfl ?_
      have hll : rows.length = l.length := by rw [hb, byteRows_length]
      rw [hb] at hr
      generalize hv : conc ρ lv = v at hr
      cases hr with
      | nil h => rw [← hb] at h; rw [h] at k1; exact absurd k1 (by decide)
      | cells bi cp h =>
        have hE : HSim (fun _ => bi) (addBlks .e 0 [Blk.cells false [Kd.int IntKind.u8] (byteRows l)]) ([Blk.cells false [Kd.int IntKind.u8] (byteRows l)] : List Blk).length w := HSim.ins hs.gw (fun i blk hi => by
          obtain ⟨rfl, rfl⟩ := bs1 hi
          exact ⟨Blk.sat_at (ρ := fun _ => bi) (b := 0) rfl rfl h, rfl, rfl⟩)
        have hcall := number_calls (cap := cp) (a := a.toNat) (most := m.toNat) (by omega) (by omega) (by omega) hE
        have e1 : ((a.toNat : Nat) : Int) = a := by omega
        have e2 : ((m.toNat : Nat) : Int) = m := by omega
        have ea : (concL (fun _ => bi) [AV.sl ⟨0, 0, 0⟩ l.length (.known cp), .int .i64 (a.toNat : Nat), .int .i64 (m.toNat : Nat)]).toArray = (concL ρ [lv, .int .i64 a, .int .i64 m]).toArray := by
          simp only [concL]
          rw [hv, byteRows_length, e1, e2]
          simp [conc, addr, capOf]
        rw [ea] at hcall
        exact hcall
    · cases h
  · cases h
end Go.Proofs.YtpdgmgkkbbndfaaGreatDoor

set_option maxRecDepth 100000
namespace Go.Proofs.YtpdgmgkkbbndfaaGreatDoor
open Go Go.Proofs Go.Proofs.YtpdgmgkkbbndfaaGreatDoor.SX
def isLet (c : UInt8) : Bool := (decide (97 ≤ c.toNat) && decide (c.toNat ≤ 122)) || (decide (65 ≤ c.toNat) && decide (c.toNat ≤ 90))
def spLet (l : List UInt8) : Nat := 2 + ((l.drop 2).takeWhile isLet).length
def medOk1 (l : List UInt8) : Bool := decide (2 ≤ l.length) && l.take 2 == [109, 61]
def medOk2 (l : List UInt8) : Bool := !(spLet l == 2) && (decide (spLet l < l.length) && l.getD (spLet l) 0 == 32)
def medOk3 (l : List UInt8) : Bool := spNumK l (spLet l + 1) 65535 && (!(spNumN l (spLet l + 1) 65535 == 0) && (decide (spNumE l (spLet l + 1) 65535 < l.length) && l.getD (spNumE l (spLet l + 1) 65535) 0 == 32))
def spRMedK (l : List UInt8) : Bool := medOk1 l && (medOk2 l && medOk3 l)
def spRMedN (l : List UInt8) : Nat := bif spRMedK l then spNumN l (spLet l + 1) 65535 else 0
def spRMedF (l : List UInt8) : Nat := bif spRMedK l then spLet l + 1 else 0
def spRMedE (l : List UInt8) : Nat := bif spRMedK l then spNumE l (spLet l + 1) 65535 else 0
end Go.Proofs.YtpdgmgkkbbndfaaGreatDoor

set_option maxRecDepth 100000
set_option maxHeartbeats 1600000
namespace Go.Proofs.YtpdgmgkkbbndfaaGreatDoor
open Go Go.Proofs Go.Proofs.YtpdgmgkkbbndfaaGreatDoor.SX
def Pn : Prims := addP Pr 74 q74
theorem Pn_ok : PrimsOK Tryz.prog Pn := addP_ok Pr_ok q74_ok
def b68I (l : List UInt8) (k : Int) : SL := ⟨[(0, .str l), (6, .int .i64 k)], [], 0⟩
theorem b68_TTT (l : List UInt8) (k : Int) :
 Path (run Tryz.prog Pr 100 (lbody Tryz.prog 68 0) (SL.mp 93 ([.as_ true, .as_ true, .as_ true]) (b68I l k))) 0 [] (b68I (l) (IntKind.wrap IntKind.i64 (k + (1 : Int)))) (Ex.normal)
 (((((True ∧ (decide (k < (↑(List.length l) : Int)) = true)) ∧ (decide ((0 : Int) ≤ k ∧ k < (↑(List.length l) : Int)) = true)) ∧ (decide ((↑(UInt8.toNat (List.getD l (Int.toNat k) (0 : UInt8))) : Int) ≥ (97 : Int)) = true)) ∧ (decide ((0 : Int) ≤ k ∧ k < (↑(List.length l) : Int)) = true)) ∧ (decide ((↑(UInt8.toNat (List.getD l (Int.toNat k) (0 : UInt8))) : Int) ≤ (122 : Int)) = true)) := by unfold Path; kernel_rfl
theorem b68_TTFTT (l : List UInt8) (k : Int) :
 Path (run Tryz.prog Pr 100 (lbody Tryz.prog 68 0) (SL.mp 93 ([.as_ true, .as_ true, .as_ false, .as_ true, .as_ true]) (b68I l k))) 0 [] (b68I (l) (IntKind.wrap IntKind.i64 (k + (1 : Int)))) (Ex.normal)
 (((((((((True ∧ (decide (k < (↑(List.length l) : Int)) = true)) ∧ (decide ((0 : Int) ≤ k ∧ k < (↑(List.length l) : Int)) = true)) ∧ (decide ((↑(UInt8.toNat (List.getD l (Int.toNat k) (0 : UInt8))) : Int) ≥ (97 : Int)) = true)) ∧ (decide ((0 : Int) ≤ k ∧ k < (↑(List.length l) : Int)) = true)) ∧ (decide ((↑(UInt8.toNat (List.getD l (Int.toNat k) (0 : UInt8))) : Int) ≤ (122 : Int)) = false)) ∧ (decide ((0 : Int) ≤ k ∧ k < (↑(List.length l) : Int)) = true)) ∧ (decide ((↑(UInt8.toNat (List.getD l (Int.toNat k) (0 : UInt8))) : Int) ≥ (65 : Int)) = true)) ∧ (decide ((0 : Int) ≤ k ∧ k < (↑(List.length l) : Int)) = true)) ∧ (decide ((↑(UInt8.toNat (List.getD l (Int.toNat k) (0 : UInt8))) : Int) ≤ (90 : Int)) = true)) := by unfold Path; kernel_rfl
theorem b68_TTFTF (l : List UInt8) (k : Int) :
 Path (run Tryz.prog Pr 100 (lbody Tryz.prog 68 0) (SL.mp 93 ([.as_ true, .as_ true, .as_ false, .as_ true, .as_ false]) (b68I l k))) 0 [] (b68I (l) (k)) (Ex.exit 0)
 (((((((((True ∧ (decide (k < (↑(List.length l) : Int)) = true)) ∧ (decide ((0 : Int) ≤ k ∧ k < (↑(List.length l) : Int)) = true)) ∧ (decide ((↑(UInt8.toNat (List.getD l (Int.toNat k) (0 : UInt8))) : Int) ≥ (97 : Int)) = true)) ∧ (decide ((0 : Int) ≤ k ∧ k < (↑(List.length l) : Int)) = true)) ∧ (decide ((↑(UInt8.toNat (List.getD l (Int.toNat k) (0 : UInt8))) : Int) ≤ (122 : Int)) = false)) ∧ (decide ((0 : Int) ≤ k ∧ k < (↑(List.length l) : Int)) = true)) ∧ (decide ((↑(UInt8.toNat (List.getD l (Int.toNat k) (0 : UInt8))) : Int) ≥ (65 : Int)) = true)) ∧ (decide ((0 : Int) ≤ k ∧ k < (↑(List.length l) : Int)) = true)) ∧ (decide ((↑(UInt8.toNat (List.getD l (Int.toNat k) (0 : UInt8))) : Int) ≤ (90 : Int)) = false)) := by unfold Path; kernel_rfl
theorem b68_TTFF (l : List UInt8) (k : Int) :
 Path (run Tryz.prog Pr 100 (lbody Tryz.prog 68 0) (SL.mp 93 ([.as_ true, .as_ true, .as_ false, .as_ false]) (b68I l k))) 0 [] (b68I (l) (k)) (Ex.exit 0)
 (((((((True ∧ (decide (k < (↑(List.length l) : Int)) = true)) ∧ (decide ((0 : Int) ≤ k ∧ k < (↑(List.length l) : Int)) = true)) ∧ (decide ((↑(UInt8.toNat (List.getD l (Int.toNat k) (0 : UInt8))) : Int) ≥ (97 : Int)) = true)) ∧ (decide ((0 : Int) ≤ k ∧ k < (↑(List.length l) : Int)) = true)) ∧ (decide ((↑(UInt8.toNat (List.getD l (Int.toNat k) (0 : UInt8))) : Int) ≤ (122 : Int)) = false)) ∧ (decide ((0 : Int) ≤ k ∧ k < (↑(List.length l) : Int)) = true)) ∧ (decide ((↑(UInt8.toNat (List.getD l (Int.toNat k) (0 : UInt8))) : Int) ≥ (65 : Int)) = false)) := by unfold Path; kernel_rfl
theorem b68_TFTT (l : List UInt8) (k : Int) :
 Path (run Tryz.prog Pr 100 (lbody Tryz.prog 68 0) (SL.mp 93 ([.as_ true, .as_ false, .as_ true, .as_ true]) (b68I l k))) 0 [] (b68I (l) (IntKind.wrap IntKind.i64 (k + (1 : Int)))) (Ex.normal)
 (((((((True ∧ (decide (k < (↑(List.length l) : Int)) = true)) ∧ (decide ((0 : Int) ≤ k ∧ k < (↑(List.length l) : Int)) = true)) ∧ (decide ((↑(UInt8.toNat (List.getD l (Int.toNat k) (0 : UInt8))) : Int) ≥ (97 : Int)) = false)) ∧ (decide ((0 : Int) ≤ k ∧ k < (↑(List.length l) : Int)) = true)) ∧ (decide ((↑(UInt8.toNat (List.getD l (Int.toNat k) (0 : UInt8))) : Int) ≥ (65 : Int)) = true)) ∧ (decide ((0 : Int) ≤ k ∧ k < (↑(List.length l) : Int)) = true)) ∧ (decide ((↑(UInt8.toNat (List.getD l (Int.toNat k) (0 : UInt8))) : Int) ≤ (90 : Int)) = true)) := by unfold Path; kernel_rfl
theorem b68_TFTF (l : List UInt8) (k : Int) :
 Path (run Tryz.prog Pr 100 (lbody Tryz.prog 68 0) (SL.mp 93 ([.as_ true, .as_ false, .as_ true, .as_ false]) (b68I l k))) 0 [] (b68I (l) (k)) (Ex.exit 0)
 (((((((True ∧ (decide (k < (↑(List.length l) : Int)) = true)) ∧ (decide ((0 : Int) ≤ k ∧ k < (↑(List.length l) : Int)) = true)) ∧ (decide ((↑(UInt8.toNat (List.getD l (Int.toNat k) (0 : UInt8))) : Int) ≥ (97 : Int)) = false)) ∧ (decide ((0 : Int) ≤ k ∧ k < (↑(List.length l) : Int)) = true)) ∧ (decide ((↑(UInt8.toNat (List.getD l (Int.toNat k) (0 : UInt8))) : Int) ≥ (65 : Int)) = true)) ∧ (decide ((0 : Int) ≤ k ∧ k < (↑(List.length l) : Int)) = true)) ∧ (decide ((↑(UInt8.toNat (List.getD l (Int.toNat k) (0 : UInt8))) : Int) ≤ (90 : Int)) = false)) := by unfold Path; kernel_rfl
theorem b68_TFF (l : List UInt8) (k : Int) :
 Path (run Tryz.prog Pr 100 (lbody Tryz.prog 68 0) (SL.mp 93 ([.as_ true, .as_ false, .as_ false]) (b68I l k))) 0 [] (b68I (l) (k)) (Ex.exit 0)
 (((((True ∧ (decide (k < (↑(List.length l) : Int)) = true)) ∧ (decide ((0 : Int) ≤ k ∧ k < (↑(List.length l) : Int)) = true)) ∧ (decide ((↑(UInt8.toNat (List.getD l (Int.toNat k) (0 : UInt8))) : Int) ≥ (97 : Int)) = false)) ∧ (decide ((0 : Int) ≤ k ∧ k < (↑(List.length l) : Int)) = true)) ∧ (decide ((↑(UInt8.toNat (List.getD l (Int.toNat k) (0 : UInt8))) : Int) ≥ (65 : Int)) = false)) := by unfold Path; kernel_rfl
theorem b68_F (l : List UInt8) (k : Int) :
 Path (run Tryz.prog Pr 100 (lbody Tryz.prog 68 0) (SL.mp 93 ([.as_ false]) (b68I l k))) 0 [] (b68I (l) (k)) (Ex.exit 0)
 (True ∧ (decide (k < (↑(List.length l) : Int)) = false)) := by unfold Path; kernel_rfl
theorem c68_T (l : List UInt8) (a : Int) :
 Path (runCallB Tryz.prog Pn 100 68 [AV.str l] (st0 [] ([.as_ true]))) 0 [] (SL.mk [] [] 0) (Out.ret (AV.tup [AV.int IntKind.i64 (0 : Int), AV.int IntKind.i64 (0 : Int), AV.int IntKind.i64 (0 : Int), AV.lit false]))
 (True ∧ (decide ((↑(List.length l) : Int) < (2 : Int)) = true)) := by unfold Path; kernel_rfl
theorem c68_FT (l : List UInt8) (a : Int) :
 Path (runCallB Tryz.prog Pn 100 68 [AV.str l] (st0 [] ([.as_ false, .as_ true]))) 0 [] (SL.mk [] [] 0) (Out.ret (AV.tup [AV.int IntKind.i64 (0 : Int), AV.int IntKind.i64 (0 : Int), AV.int IntKind.i64 (0 : Int), AV.lit false]))
 (((True ∧ (decide ((↑(List.length l) : Int) < (2 : Int)) = false)) ∧ (decide ((0 : Int) ≤ (0 : Int) ∧ (0 : Int) ≤ (2 : Int) ∧ (2 : Int) ≤ (↑(List.length l) : Int)) = true)) ∧ ((!sub l 0 2 == [(109 : UInt8), (61 : UInt8)]) = true)) := by unfold Path; kernel_rfl
theorem c68_FFLT (l : List UInt8) (a : Int) :
 Path (runCallB Tryz.prog Pn 100 68 [AV.str l] (st0 [] ([.as_ false, .as_ false, PI.loop (b68I l (2 : Int)) (Ex.exit 0) (b68I l a), .as_ true]))) 0 [] (SL.mk [] [] 0) (Out.ret (AV.tup [AV.int IntKind.i64 (0 : Int), AV.int IntKind.i64 (0 : Int), AV.int IntKind.i64 (0 : Int), AV.lit false]))
 (((((True ∧ (decide ((↑(List.length l) : Int) < (2 : Int)) = false)) ∧ (decide ((0 : Int) ≤ (0 : Int) ∧ (0 : Int) ≤ (2 : Int) ∧ (2 : Int) ≤ (↑(List.length l) : Int)) = true)) ∧ ((!sub l 0 2 == [(109 : UInt8), (61 : UInt8)]) = false)) ∧ (LoopOK Tryz.prog (lbody Tryz.prog 68 0) (93) (SL.mk [(0, AV.str l), (6, AV.int IntKind.i64 (2 : Int))] [] 0) (Ex.exit 0) (SL.mk [(0, AV.str l), (6, AV.int IntKind.i64 a)] [] 0))) ∧ ((a == (2 : Int)) = true)) := by unfold Path; kernel_rfl
theorem c68_FFLFT (l : List UInt8) (a : Int) :
 Path (runCallB Tryz.prog Pn 100 68 [AV.str l] (st0 [] ([.as_ false, .as_ false, PI.loop (b68I l (2 : Int)) (Ex.exit 0) (b68I l a), .as_ false, .as_ true]))) 0 [] (SL.mk [] [] 0) (Out.ret (AV.tup [AV.int IntKind.i64 (0 : Int), AV.int IntKind.i64 (0 : Int), AV.int IntKind.i64 (0 : Int), AV.lit false]))
 ((((((True ∧ (decide ((↑(List.length l) : Int) < (2 : Int)) = false)) ∧ (decide ((0 : Int) ≤ (0 : Int) ∧ (0 : Int) ≤ (2 : Int) ∧ (2 : Int) ≤ (↑(List.length l) : Int)) = true)) ∧ ((!sub l 0 2 == [(109 : UInt8), (61 : UInt8)]) = false)) ∧ (LoopOK Tryz.prog (lbody Tryz.prog 68 0) (93) (SL.mk [(0, AV.str l), (6, AV.int IntKind.i64 (2 : Int))] [] 0) (Ex.exit 0) (SL.mk [(0, AV.str l), (6, AV.int IntKind.i64 a)] [] 0))) ∧ ((a == (2 : Int)) = false)) ∧ (decide (a ≥ (↑(List.length l) : Int)) = true)) := by unfold Path; kernel_rfl
theorem c68_FFLFFT (l : List UInt8) (a : Int) :
 Path (runCallB Tryz.prog Pn 100 68 [AV.str l] (st0 [] ([.as_ false, .as_ false, PI.loop (b68I l (2 : Int)) (Ex.exit 0) (b68I l a), .as_ false, .as_ false, .as_ true]))) 0 [] (SL.mk [] [] 0) (Out.ret (AV.tup [AV.int IntKind.i64 (0 : Int), AV.int IntKind.i64 (0 : Int), AV.int IntKind.i64 (0 : Int), AV.lit false]))
 ((((((((True ∧ (decide ((↑(List.length l) : Int) < (2 : Int)) = false)) ∧ (decide ((0 : Int) ≤ (0 : Int) ∧ (0 : Int) ≤ (2 : Int) ∧ (2 : Int) ≤ (↑(List.length l) : Int)) = true)) ∧ ((!sub l 0 2 == [(109 : UInt8), (61 : UInt8)]) = false)) ∧ (LoopOK Tryz.prog (lbody Tryz.prog 68 0) (93) (SL.mk [(0, AV.str l), (6, AV.int IntKind.i64 (2 : Int))] [] 0) (Ex.exit 0) (SL.mk [(0, AV.str l), (6, AV.int IntKind.i64 a)] [] 0))) ∧ ((a == (2 : Int)) = false)) ∧ (decide (a ≥ (↑(List.length l) : Int)) = false)) ∧ (decide ((0 : Int) ≤ a ∧ a < (↑(List.length l) : Int)) = true)) ∧ ((!(↑(UInt8.toNat (List.getD l (Int.toNat a) (0 : UInt8))) : Int) == (32 : Int)) = true)) := by unfold Path; kernel_rfl
theorem c68_FFLFFFT (l : List UInt8) (a : Int) :
 Path (runCallB Tryz.prog Pn 100 68 [AV.str l] (st0 [] ([.as_ false, .as_ false, PI.loop (b68I l (2 : Int)) (Ex.exit 0) (b68I l a), .as_ false, .as_ false, .as_ false, .as_ true]))) 0 [] (SL.mk [] [] 0) (Out.ret (AV.tup [AV.int IntKind.i64 (0 : Int), AV.int IntKind.i64 (0 : Int), AV.int IntKind.i64 (0 : Int), AV.lit false]))
 ((((((((((True ∧ (decide ((↑(List.length l) : Int) < (2 : Int)) = false)) ∧ (decide ((0 : Int) ≤ (0 : Int) ∧ (0 : Int) ≤ (2 : Int) ∧ (2 : Int) ≤ (↑(List.length l) : Int)) = true)) ∧ ((!sub l 0 2 == [(109 : UInt8), (61 : UInt8)]) = false)) ∧ (LoopOK Tryz.prog (lbody Tryz.prog 68 0) (93) (SL.mk [(0, AV.str l), (6, AV.int IntKind.i64 (2 : Int))] [] 0) (Ex.exit 0) (SL.mk [(0, AV.str l), (6, AV.int IntKind.i64 a)] [] 0))) ∧ ((a == (2 : Int)) = false)) ∧ (decide (a ≥ (↑(List.length l) : Int)) = false)) ∧ (decide ((0 : Int) ≤ a ∧ a < (↑(List.length l) : Int)) = true)) ∧ ((!(↑(UInt8.toNat (List.getD l (Int.toNat a) (0 : UInt8))) : Int) == (32 : Int)) = false)) ∧ ((decide (0 + List.length l ≤ List.length (List.map byteRow l)) && (List.all (sub (List.map byteRow l) (0) (List.length l)) spByteOk && decide (0 < List.length (sub (List.map byteRow l) (0) (List.length l)) ∧ List.length (sub (List.map byteRow l) (0) (List.length l)) ≤ 4611686018427387904 ∧ (0 : Int) ≤ IntKind.wrap IntKind.i64 (a + (1 : Int)) ∧ IntKind.wrap IntKind.i64 (a + (1 : Int)) ≤ (↑(List.length (sub (List.map byteRow l) (0) (List.length l))) : Int) ∧ (0 : Int) ≤ (65535 : Int) ∧ (65535 : Int) ≤ (1000000000 : Int)))) = true)) ∧ ((!spNumK (List.map rowByte (sub (List.map byteRow l) (0) (List.length l))) (Int.toNat (IntKind.wrap IntKind.i64 (a + (1 : Int)))) 65535) = true)) := by unfold Path; kernel_rfl
theorem c68_FFLFFFFT (l : List UInt8) (a : Int) :
 Path (runCallB Tryz.prog Pn 100 68 [AV.str l] (st0 [] ([.as_ false, .as_ false, PI.loop (b68I l (2 : Int)) (Ex.exit 0) (b68I l a), .as_ false, .as_ false, .as_ false, .as_ false, .as_ true]))) 0 [] (SL.mk [] [] 0) (Out.ret (AV.tup [AV.int IntKind.i64 (0 : Int), AV.int IntKind.i64 (0 : Int), AV.int IntKind.i64 (0 : Int), AV.lit false]))
 (((((((((((True ∧ (decide ((↑(List.length l) : Int) < (2 : Int)) = false)) ∧ (decide ((0 : Int) ≤ (0 : Int) ∧ (0 : Int) ≤ (2 : Int) ∧ (2 : Int) ≤ (↑(List.length l) : Int)) = true)) ∧ ((!sub l 0 2 == [(109 : UInt8), (61 : UInt8)]) = false)) ∧ (LoopOK Tryz.prog (lbody Tryz.prog 68 0) (93) (SL.mk [(0, AV.str l), (6, AV.int IntKind.i64 (2 : Int))] [] 0) (Ex.exit 0) (SL.mk [(0, AV.str l), (6, AV.int IntKind.i64 a)] [] 0))) ∧ ((a == (2 : Int)) = false)) ∧ (decide (a ≥ (↑(List.length l) : Int)) = false)) ∧ (decide ((0 : Int) ≤ a ∧ a < (↑(List.length l) : Int)) = true)) ∧ ((!(↑(UInt8.toNat (List.getD l (Int.toNat a) (0 : UInt8))) : Int) == (32 : Int)) = false)) ∧ ((decide (0 + List.length l ≤ List.length (List.map byteRow l)) && (List.all (sub (List.map byteRow l) (0) (List.length l)) spByteOk && decide (0 < List.length (sub (List.map byteRow l) (0) (List.length l)) ∧ List.length (sub (List.map byteRow l) (0) (List.length l)) ≤ 4611686018427387904 ∧ (0 : Int) ≤ IntKind.wrap IntKind.i64 (a + (1 : Int)) ∧ IntKind.wrap IntKind.i64 (a + (1 : Int)) ≤ (↑(List.length (sub (List.map byteRow l) (0) (List.length l))) : Int) ∧ (0 : Int) ≤ (65535 : Int) ∧ (65535 : Int) ≤ (1000000000 : Int)))) = true)) ∧ ((!spNumK (List.map rowByte (sub (List.map byteRow l) (0) (List.length l))) (Int.toNat (IntKind.wrap IntKind.i64 (a + (1 : Int)))) 65535) = false)) ∧ (((↑(spNumN (List.map rowByte (sub (List.map byteRow l) (0) (List.length l))) (Int.toNat (IntKind.wrap IntKind.i64 (a + (1 : Int)))) 65535) : Int) == (0 : Int)) = true)) := by unfold Path; kernel_rfl
theorem c68_FFLFFFFFT (l : List UInt8) (a : Int) :
 Path (runCallB Tryz.prog Pn 100 68 [AV.str l] (st0 [] ([.as_ false, .as_ false, PI.loop (b68I l (2 : Int)) (Ex.exit 0) (b68I l a), .as_ false, .as_ false, .as_ false, .as_ false, .as_ false, .as_ true]))) 0 [] (SL.mk [] [] 0) (Out.ret (AV.tup [AV.int IntKind.i64 (0 : Int), AV.int IntKind.i64 (0 : Int), AV.int IntKind.i64 (0 : Int), AV.lit false]))
 ((((((((((((True ∧ (decide ((↑(List.length l) : Int) < (2 : Int)) = false)) ∧ (decide ((0 : Int) ≤ (0 : Int) ∧ (0 : Int) ≤ (2 : Int) ∧ (2 : Int) ≤ (↑(List.length l) : Int)) = true)) ∧ ((!sub l 0 2 == [(109 : UInt8), (61 : UInt8)]) = false)) ∧ (LoopOK Tryz.prog (lbody Tryz.prog 68 0) (93) (SL.mk [(0, AV.str l), (6, AV.int IntKind.i64 (2 : Int))] [] 0) (Ex.exit 0) (SL.mk [(0, AV.str l), (6, AV.int IntKind.i64 a)] [] 0))) ∧ ((a == (2 : Int)) = false)) ∧ (decide (a ≥ (↑(List.length l) : Int)) = false)) ∧ (decide ((0 : Int) ≤ a ∧ a < (↑(List.length l) : Int)) = true)) ∧ ((!(↑(UInt8.toNat (List.getD l (Int.toNat a) (0 : UInt8))) : Int) == (32 : Int)) = false)) ∧ ((decide (0 + List.length l ≤ List.length (List.map byteRow l)) && (List.all (sub (List.map byteRow l) (0) (List.length l)) spByteOk && decide (0 < List.length (sub (List.map byteRow l) (0) (List.length l)) ∧ List.length (sub (List.map byteRow l) (0) (List.length l)) ≤ 4611686018427387904 ∧ (0 : Int) ≤ IntKind.wrap IntKind.i64 (a + (1 : Int)) ∧ IntKind.wrap IntKind.i64 (a + (1 : Int)) ≤ (↑(List.length (sub (List.map byteRow l) (0) (List.length l))) : Int) ∧ (0 : Int) ≤ (65535 : Int) ∧ (65535 : Int) ≤ (1000000000 : Int)))) = true)) ∧ ((!spNumK (List.map rowByte (sub (List.map byteRow l) (0) (List.length l))) (Int.toNat (IntKind.wrap IntKind.i64 (a + (1 : Int)))) 65535) = false)) ∧ (((↑(spNumN (List.map rowByte (sub (List.map byteRow l) (0) (List.length l))) (Int.toNat (IntKind.wrap IntKind.i64 (a + (1 : Int)))) 65535) : Int) == (0 : Int)) = false)) ∧ (decide ((↑(spNumE (List.map rowByte (sub (List.map byteRow l) (0) (List.length l))) (Int.toNat (IntKind.wrap IntKind.i64 (a + (1 : Int)))) 65535) : Int) ≥ (↑(List.length l) : Int)) = true)) := by unfold Path; kernel_rfl
theorem c68_FFLFFFFFFT (l : List UInt8) (a : Int) :
 Path (runCallB Tryz.prog Pn 100 68 [AV.str l] (st0 [] ([.as_ false, .as_ false, PI.loop (b68I l (2 : Int)) (Ex.exit 0) (b68I l a), .as_ false, .as_ false, .as_ false, .as_ false, .as_ false, .as_ false, .as_ true]))) 0 [] (SL.mk [] [] 0) (Out.ret (AV.tup [AV.int IntKind.i64 (0 : Int), AV.int IntKind.i64 (0 : Int), AV.int IntKind.i64 (0 : Int), AV.lit false]))
 ((((((((((((((True ∧ (decide ((↑(List.length l) : Int) < (2 : Int)) = false)) ∧ (decide ((0 : Int) ≤ (0 : Int) ∧ (0 : Int) ≤ (2 : Int) ∧ (2 : Int) ≤ (↑(List.length l) : Int)) = true)) ∧ ((!sub l 0 2 == [(109 : UInt8), (61 : UInt8)]) = false)) ∧ (LoopOK Tryz.prog (lbody Tryz.prog 68 0) (93) (SL.mk [(0, AV.str l), (6, AV.int IntKind.i64 (2 : Int))] [] 0) (Ex.exit 0) (SL.mk [(0, AV.str l), (6, AV.int IntKind.i64 a)] [] 0))) ∧ ((a == (2 : Int)) = false)) ∧ (decide (a ≥ (↑(List.length l) : Int)) = false)) ∧ (decide ((0 : Int) ≤ a ∧ a < (↑(List.length l) : Int)) = true)) ∧ ((!(↑(UInt8.toNat (List.getD l (Int.toNat a) (0 : UInt8))) : Int) == (32 : Int)) = false)) ∧ ((decide (0 + List.length l ≤ List.length (List.map byteRow l)) && (List.all (sub (List.map byteRow l) (0) (List.length l)) spByteOk && decide (0 < List.length (sub (List.map byteRow l) (0) (List.length l)) ∧ List.length (sub (List.map byteRow l) (0) (List.length l)) ≤ 4611686018427387904 ∧ (0 : Int) ≤ IntKind.wrap IntKind.i64 (a + (1 : Int)) ∧ IntKind.wrap IntKind.i64 (a + (1 : Int)) ≤ (↑(List.length (sub (List.map byteRow l) (0) (List.length l))) : Int) ∧ (0 : Int) ≤ (65535 : Int) ∧ (65535 : Int) ≤ (1000000000 : Int)))) = true)) ∧ ((!spNumK (List.map rowByte (sub (List.map byteRow l) (0) (List.length l))) (Int.toNat (IntKind.wrap IntKind.i64 (a + (1 : Int)))) 65535) = false)) ∧ (((↑(spNumN (List.map rowByte (sub (List.map byteRow l) (0) (List.length l))) (Int.toNat (IntKind.wrap IntKind.i64 (a + (1 : Int)))) 65535) : Int) == (0 : Int)) = false)) ∧ (decide ((↑(spNumE (List.map rowByte (sub (List.map byteRow l) (0) (List.length l))) (Int.toNat (IntKind.wrap IntKind.i64 (a + (1 : Int)))) 65535) : Int) ≥ (↑(List.length l) : Int)) = false)) ∧ (decide ((0 : Int) ≤ (↑(spNumE (List.map rowByte (sub (List.map byteRow l) (0) (List.length l))) (Int.toNat (IntKind.wrap IntKind.i64 (a + (1 : Int)))) 65535) : Int) ∧ (↑(spNumE (List.map rowByte (sub (List.map byteRow l) (0) (List.length l))) (Int.toNat (IntKind.wrap IntKind.i64 (a + (1 : Int)))) 65535) : Int) < (↑(List.length l) : Int)) = true)) ∧ ((!(↑(UInt8.toNat (List.getD l (Int.toNat (↑(spNumE (List.map rowByte (sub (List.map byteRow l) (0) (List.length l))) (Int.toNat (IntKind.wrap IntKind.i64 (a + (1 : Int)))) 65535) : Int)) (0 : UInt8))) : Int) == (32 : Int)) = true)) := by unfold Path; kernel_rfl
theorem c68_FFLFFFFFFF (l : List UInt8) (a : Int) :
 Path (runCallB Tryz.prog Pn 100 68 [AV.str l] (st0 [] ([.as_ false, .as_ false, PI.loop (b68I l (2 : Int)) (Ex.exit 0) (b68I l a), .as_ false, .as_ false, .as_ false, .as_ false, .as_ false, .as_ false, .as_ false]))) 0 [] (SL.mk [] [] 0) (Out.ret (AV.tup [AV.int IntKind.i64 (↑(spNumN (List.map rowByte (sub (List.map byteRow l) (0) (List.length l))) (Int.toNat (IntKind.wrap IntKind.i64 (a + (1 : Int)))) 65535) : Int), AV.int IntKind.i64 (IntKind.wrap IntKind.i64 (a + (1 : Int))), AV.int IntKind.i64 (↑(spNumE (List.map rowByte (sub (List.map byteRow l) (0) (List.length l))) (Int.toNat (IntKind.wrap IntKind.i64 (a + (1 : Int)))) 65535) : Int), AV.lit true]))
 ((((((((((((((True ∧ (decide ((↑(List.length l) : Int) < (2 : Int)) = false)) ∧ (decide ((0 : Int) ≤ (0 : Int) ∧ (0 : Int) ≤ (2 : Int) ∧ (2 : Int) ≤ (↑(List.length l) : Int)) = true)) ∧ ((!sub l 0 2 == [(109 : UInt8), (61 : UInt8)]) = false)) ∧ (LoopOK Tryz.prog (lbody Tryz.prog 68 0) (93) (SL.mk [(0, AV.str l), (6, AV.int IntKind.i64 (2 : Int))] [] 0) (Ex.exit 0) (SL.mk [(0, AV.str l), (6, AV.int IntKind.i64 a)] [] 0))) ∧ ((a == (2 : Int)) = false)) ∧ (decide (a ≥ (↑(List.length l) : Int)) = false)) ∧ (decide ((0 : Int) ≤ a ∧ a < (↑(List.length l) : Int)) = true)) ∧ ((!(↑(UInt8.toNat (List.getD l (Int.toNat a) (0 : UInt8))) : Int) == (32 : Int)) = false)) ∧ ((decide (0 + List.length l ≤ List.length (List.map byteRow l)) && (List.all (sub (List.map byteRow l) (0) (List.length l)) spByteOk && decide (0 < List.length (sub (List.map byteRow l) (0) (List.length l)) ∧ List.length (sub (List.map byteRow l) (0) (List.length l)) ≤ 4611686018427387904 ∧ (0 : Int) ≤ IntKind.wrap IntKind.i64 (a + (1 : Int)) ∧ IntKind.wrap IntKind.i64 (a + (1 : Int)) ≤ (↑(List.length (sub (List.map byteRow l) (0) (List.length l))) : Int) ∧ (0 : Int) ≤ (65535 : Int) ∧ (65535 : Int) ≤ (1000000000 : Int)))) = true)) ∧ ((!spNumK (List.map rowByte (sub (List.map byteRow l) (0) (List.length l))) (Int.toNat (IntKind.wrap IntKind.i64 (a + (1 : Int)))) 65535) = false)) ∧ (((↑(spNumN (List.map rowByte (sub (List.map byteRow l) (0) (List.length l))) (Int.toNat (IntKind.wrap IntKind.i64 (a + (1 : Int)))) 65535) : Int) == (0 : Int)) = false)) ∧ (decide ((↑(spNumE (List.map rowByte (sub (List.map byteRow l) (0) (List.length l))) (Int.toNat (IntKind.wrap IntKind.i64 (a + (1 : Int)))) 65535) : Int) ≥ (↑(List.length l) : Int)) = false)) ∧ (decide ((0 : Int) ≤ (↑(spNumE (List.map rowByte (sub (List.map byteRow l) (0) (List.length l))) (Int.toNat (IntKind.wrap IntKind.i64 (a + (1 : Int)))) 65535) : Int) ∧ (↑(spNumE (List.map rowByte (sub (List.map byteRow l) (0) (List.length l))) (Int.toNat (IntKind.wrap IntKind.i64 (a + (1 : Int)))) 65535) : Int) < (↑(List.length l) : Int)) = true)) ∧ ((!(↑(UInt8.toNat (List.getD l (Int.toNat (↑(spNumE (List.map rowByte (sub (List.map byteRow l) (0) (List.length l))) (Int.toNat (IntKind.wrap IntKind.i64 (a + (1 : Int)))) 65535) : Int)) (0 : UInt8))) : Int) == (32 : Int)) = false)) := by unfold Path; kernel_rfl
theorem rd68 {l : List UInt8} {k : Nat} (hk : k < l.length) (hl : l.length ≤ 4294967200) :
    (isLet l[k] = true → BodyOK Tryz.prog (lbody Tryz.prog 68 0) 93 0 (b68I l k) .normal (b68I l ((k + 1 : Nat) : Int))) ∧ (isLet l[k] = false → BodyOK Tryz.prog (lbody Tryz.prog 68 0) 93 0 (b68I l k) (.exit 0) (b68I l k)) := by
  have w := succ64 (n := l.length) hk (by omega)
  have c0 : decide ((k : Int) < ((List.length l : Nat) : Int)) = true := decide_eq_true (by omega)
  have c1 : decide ((0 : Int) ≤ (k : Int) ∧ (k : Int) < ((List.length l : Nat) : Int)) = true := decide_eq_true (by omega)
  have e : ((UInt8.toNat (List.getD l (Int.toNat (k : Int)) (0 : UInt8)) : Nat) : Int) = ((l[k].toNat : Nat) : Int) := by rw [Int.toNat_natCast, getD_lt hk]
  have e1 : decide (((UInt8.toNat (List.getD l (Int.toNat (k : Int)) (0 : UInt8)) : Nat) : Int) ≥ (97 : Int)) = decide (97 ≤ l[k].toNat) := by rw [e, Bool.eq_iff_iff]; simp only [decide_eq_true_eq]; omega
  have e2 : decide (((UInt8.toNat (List.getD l (Int.toNat (k : Int)) (0 : UInt8)) : Nat) : Int) ≤ (122 : Int)) = decide (l[k].toNat ≤ 122) := by rw [e, Bool.eq_iff_iff]; simp only [decide_eq_true_eq]; omega
  have e3 : decide (((UInt8.toNat (List.getD l (Int.toNat (k : Int)) (0 : UInt8)) : Nat) : Int) ≥ (65 : Int)) = decide (65 ≤ l[k].toNat) := by rw [e, Bool.eq_iff_iff]; simp only [decide_eq_true_eq]; omega
  have e4 : decide (((UInt8.toNat (List.getD l (Int.toNat (k : Int)) (0 : UInt8)) : Nat) : Int) ≤ (90 : Int)) = decide (l[k].toNat ≤ 90) := by rw [e, Bool.eq_iff_iff]; simp only [decide_eq_true_eq]; omega
  unfold isLet
  rw [← e1, ← e2, ← e3, ← e4]
  cases q1 : decide (((UInt8.toNat (List.getD l (Int.toNat (k : Int)) (0 : UInt8)) : Nat) : Int) ≥ (97 : Int)) with
  | true =>
    cases q2 : decide (((UInt8.toNat (List.getD l (Int.toNat (k : Int)) (0 : UInt8)) : Nat) : Int) ≤ (122 : Int)) with
    | true =>
      exact ⟨fun _ => body_by Pr_ok (b68_TTT l k) (by rw [w]) ⟨⟨⟨⟨⟨trivial, c0⟩, c1⟩, q1⟩, c1⟩, q2⟩ rfl, fun h => by simp at h⟩
    | false =>
      cases q3 : decide (((UInt8.toNat (List.getD l (Int.toNat (k : Int)) (0 : UInt8)) : Nat) : Int) ≥ (65 : Int)) with
      | true =>
        cases q4 : decide (((UInt8.toNat (List.getD l (Int.toNat (k : Int)) (0 : UInt8)) : Nat) : Int) ≤ (90 : Int)) with
        | true =>
          exact ⟨fun _ => body_by Pr_ok (b68_TTFTT l k) (by rw [w]) ⟨⟨⟨⟨⟨⟨⟨⟨⟨trivial, c0⟩, c1⟩, q1⟩, c1⟩, q2⟩, c1⟩, q3⟩, c1⟩, q4⟩ rfl, fun h => by simp at h⟩
        | false =>
          exact ⟨fun h => by simp at h, fun _ => body_by Pr_ok (b68_TTFTF l k) rfl ⟨⟨⟨⟨⟨⟨⟨⟨⟨trivial, c0⟩, c1⟩, q1⟩, c1⟩, q2⟩, c1⟩, q3⟩, c1⟩, q4⟩ rfl⟩
      | false =>
        exact ⟨fun h => by simp at h, fun _ => body_by Pr_ok (b68_TTFF l k) rfl ⟨⟨⟨⟨⟨⟨⟨trivial, c0⟩, c1⟩, q1⟩, c1⟩, q2⟩, c1⟩, q3⟩ rfl⟩
  | false =>
    cases q3 : decide (((UInt8.toNat (List.getD l (Int.toNat (k : Int)) (0 : UInt8)) : Nat) : Int) ≥ (65 : Int)) with
    | true =>
      cases q4 : decide (((UInt8.toNat (List.getD l (Int.toNat (k : Int)) (0 : UInt8)) : Nat) : Int) ≤ (90 : Int)) with
      | true =>
        exact ⟨fun _ => body_by Pr_ok (b68_TFTT l k) (by rw [w]) ⟨⟨⟨⟨⟨⟨⟨trivial, c0⟩, c1⟩, q1⟩, c1⟩, q3⟩, c1⟩, q4⟩ rfl, fun h => by simp at h⟩
      | false =>
        exact ⟨fun h => by simp at h, fun _ => body_by Pr_ok (b68_TFTF l k) rfl ⟨⟨⟨⟨⟨⟨⟨trivial, c0⟩, c1⟩, q1⟩, c1⟩, q3⟩, c1⟩, q4⟩ rfl⟩
    | false =>
      exact ⟨fun h => by simp at h, fun _ => body_by Pr_ok (b68_TFF l k) rfl ⟨⟨⟨⟨⟨trivial, c0⟩, c1⟩, q1⟩, c1⟩, q3⟩ rfl⟩
theorem let_at {l : List UInt8} (h : 2 ≤ l.length) : spLet l ≤ l.length ∧ (∀ k (hk : k < l.length), 2 ≤ k → k < spLet l → isLet l[k] = true) ∧ (∀ (hk : spLet l < l.length), isLet l[spLet l] = false) := by
  obtain ⟨t, ht⟩ : ∃ t, t = (l.drop 2).takeWhile isLet := ⟨_, rfl⟩
  obtain ⟨d, hd⟩ : ∃ d, d = (l.drop 2).dropWhile isLet := ⟨_, rfl⟩
  have hr : l.drop 2 = t ++ d := by rw [ht, hd, List.takeWhile_append_dropWhile]
  have hall : t.all isLet = true := by rw [ht]; exact List.all_takeWhile
  have hlen := congrArg List.length hr
  rw [List.length_append, List.length_drop] at hlen
  unfold spLet
  rw [← ht]
  refine ⟨by omega, fun k hk h2 hk2 => ?_, fun hk => ?_⟩
  · have h1 : k - 2 < t.length := by omega
    have h3 : t[k - 2] = l[k] := by
      have : (l.drop 2)[k - 2]? = some t[k - 2] := by rw [hr, List.getElem?_append_left h1, List.getElem?_eq_getElem h1]
      rw [List.getElem?_drop, show 2 + (k - 2) = k by omega, List.getElem?_eq_getElem hk] at this
      exact (Option.some.inj this).symm
    rw [← h3]
    exact List.all_eq_true.1 hall _ (List.getElem_mem h1)
  · cases hdl : d with
    | nil => rw [hdl] at hlen; simp only [List.length_nil] at hlen; omega
    | cons c r =>
      have h0 : isLet c = false := by
        have := List.head_dropWhile_not isLet (l := l.drop 2) (by rw [← hd, hdl]; simp)
        simpa [← hd, hdl] using this
      have h3 : l[2 + t.length] = c := by
        have h4 : (l.drop 2)[t.length]? = some c := by
          rw [hr, List.getElem?_append_right (Nat.le_refl _), Nat.sub_self, hdl]; rfl
        rw [List.getElem?_drop, List.getElem?_eq_getElem hk] at h4
        exact Option.some.inj h4
      rw [h3]; exact h0
theorem loop68 {l : List UInt8} (h : 2 ≤ l.length) (hl : l.length ≤ 4294967200) : LoopOK Tryz.prog (lbody Tryz.prog 68 0) 93 (b68I l 2) (.exit 0) (b68I l (spLet l : Nat)) := by
  obtain ⟨h1, h2, h3⟩ := let_at h
  have h4 : 2 ≤ spLet l := by unfold spLet; omega
  refine loop_rule (X := Nat) (I := fun k => b68I l (k : Int)) (pre := fun k => 2 ≤ k ∧ k ≤ spLet l) (μ := fun k => l.length - k) _ _ rfl (fun ρ => by simp [Ex.conc]) ?_ (x0 := 2) (pick := []) ⟨Nat.le_refl _, h4⟩ ⟨by kernel_rfl, map_fst_snd (by kernel_rfl)⟩
  rintro k ⟨hk2, hk⟩
  by_cases hkl : k < l.length
  · by_cases hks : k < spLet l
    · exact .inl ⟨k + 1, ⟨by omega, by omega⟩, by omega, (rd68 hkl hl).1 (h2 k hkl hk2 hks)⟩
    · have : k = spLet l := by omega
      subst this
      exact .inr ((rd68 hkl hl).2 (h3 hkl))
  · right
    have : k = spLet l := by omega
    rw [← this]
    have c0 : decide ((k : Int) < ((List.length l : Nat) : Int)) = false := decide_eq_false (by omega)
    exact body_by Pr_ok (b68_F l k) rfl ⟨trivial, c0⟩ rfl
theorem media_calls {l : List UInt8} (hlen : l.length ≤ 4294967200) {ρ : Nat → BI} {w : World} (hE : HSim ρ (addBlks .e 0 []) ([] : List Blk).length w) :
    Calls Tryz.prog 68 (concL ρ [AV.str l]).toArray w (fun e w' => e = .returned (conc ρ (.tup [.int .i64 (spRMedN l : Nat), .int .i64 (spRMedF l : Nat), .int .i64 (spRMedE l : Nat), .bool (spRMedK l)])) ∧ Ext w w') := by
  have no : spRMedK l = false → Calls Tryz.prog 68 (concL ρ [AV.str l]).toArray w (fun e w' => e = .returned (conc ρ (.tup [.int .i64 (0 : Int), .int .i64 (0 : Int), .int .i64 (0 : Int), .lit false])) ∧ Ext w w') →
      Calls Tryz.prog 68 (concL ρ [AV.str l]).toArray w (fun e w' => e = .returned (conc ρ (.tup [.int .i64 (spRMedN l : Nat), .int .i64 (spRMedF l : Nat), .int .i64 (spRMedE l : Nat), .bool (spRMedK l)])) ∧ Ext w w') := by
    intro h hc
    unfold spRMedN spRMedF spRMedE
    rw [h]; exact hc
  have i32 : ∀ (x : UInt8), (((x.toNat : Nat) : Int) == 32) = (x == 32) := fun x => u8i x 32
  have hs2 : sub l 0 2 = l.take 2 := rfl
  by_cases h2 : 2 ≤ l.length
  · have k0 : decide (((List.length l : Nat) : Int) < (2 : Int)) = false := decide_eq_false (by omega)
    have k1 : decide ((0 : Int) ≤ (0 : Int) ∧ (0 : Int) ≤ (2 : Int) ∧ (2 : Int) ≤ ((List.length l : Nat) : Int)) = true := decide_eq_true (by omega)
    cases hm : l.take 2 == [109, 61] with
    | false =>
      have k2 : (!sub l 0 2 == [(109 : UInt8), (61 : UInt8)]) = true := by rw [hs2, hm]; rfl
      exact no (by unfold spRMedK medOk1; rw [hm]; simp) (calls_pureB Pn_ok (c68_FT l 0) ⟨⟨⟨trivial, k0⟩, k1⟩, k2⟩ hE rfl rfl rfl)
    | true =>
      have k2 : (!sub l 0 2 == [(109 : UInt8), (61 : UInt8)]) = false := by rw [hs2, hm]; rfl
      have hl := loop68 h2 hlen
      obtain ⟨a1, _, _⟩ := let_at h2
      have a2 : 2 ≤ spLet l := by unfold spLet; omega
      by_cases h3 : spLet l = 2
      · have k3 : (((spLet l : Nat) : Int) == (2 : Int)) = true := by rw [beq_iff_eq]; omega
        exact no (by unfold spRMedK medOk2; rw [h3]; simp) (calls_pureB Pn_ok (c68_FFLT l (spLet l : Nat)) ⟨⟨⟨⟨⟨trivial, k0⟩, k1⟩, k2⟩, hl⟩, k3⟩ hE rfl rfl rfl)
      · have k3 : (((spLet l : Nat) : Int) == (2 : Int)) = false := by rw [beq_eq_false_iff_ne]; omega
        have h3b : (spLet l == 2) = false := by rw [beq_eq_false_iff_ne]; exact h3
        by_cases h4 : spLet l < l.length
        · have k4 : decide (((spLet l : Nat) : Int) ≥ ((List.length l : Nat) : Int)) = false := decide_eq_false (by omega)
          have k5 : decide ((0 : Int) ≤ ((spLet l : Nat) : Int) ∧ ((spLet l : Nat) : Int) < ((List.length l : Nat) : Int)) = true := decide_eq_true (by omega)
          cases h5 : l.getD (spLet l) 0 == 32 with
          | false =>
            have k6 : (!((UInt8.toNat (List.getD l (Int.toNat ((spLet l : Nat) : Int)) (0 : UInt8)) : Nat) : Int) == (32 : Int)) = true := by rw [Int.toNat_natCast, i32, h5]; rfl
            exact no (by unfold spRMedK medOk2; rw [h5]; simp) (calls_pureB Pn_ok (c68_FFLFFT l (spLet l : Nat)) ⟨⟨⟨⟨⟨⟨⟨⟨trivial, k0⟩, k1⟩, k2⟩, hl⟩, k3⟩, k4⟩, k5⟩, k6⟩ hE rfl rfl rfl)
          | true =>
            have k6 : (!((UInt8.toNat (List.getD l (Int.toNat ((spLet l : Nat) : Int)) (0 : UInt8)) : Nat) : Int) == (32 : Int)) = false := by rw [Int.toNat_natCast, i32, h5]; rfl
            have w1 : IntKind.wrap IntKind.i64 (((spLet l : Nat) : Int) + 1) = ((spLet l + 1 : Nat) : Int) := succ64 (n := l.length) h4 (by omega)
            have hsub : sub (List.map byteRow l) 0 (List.length l) = byteRows l := sub_all _ (by simp)
            have k7 : (decide (0 + List.length l ≤ List.length (List.map byteRow l)) && (List.all (sub (List.map byteRow l) (0) (List.length l)) spByteOk && decide (0 < List.length (sub (List.map byteRow l) (0) (List.length l)) ∧ List.length (sub (List.map byteRow l) (0) (List.length l)) ≤ 4611686018427387904 ∧ (0 : Int) ≤ IntKind.wrap IntKind.i64 (((spLet l : Nat) : Int) + (1 : Int)) ∧ IntKind.wrap IntKind.i64 (((spLet l : Nat) : Int) + (1 : Int)) ≤ ((List.length (sub (List.map byteRow l) (0) (List.length l)) : Nat) : Int) ∧ (0 : Int) ≤ (65535 : Int) ∧ (65535 : Int) ≤ (1000000000 : Int)))) = true := by
              rw [hsub, byteRows_ok, byteRows_length, List.length_map, w1]
              simp only [Bool.and_eq_true, decide_eq_true_eq, true_and]
              omega
            have eK : ∀ (b : Bool), (!spNumK (List.map rowByte (sub (List.map byteRow l) (0) (List.length l))) (Int.toNat (IntKind.wrap IntKind.i64 (((spLet l : Nat) : Int) + (1 : Int)))) 65535) = b ↔ (!spNumK l (spLet l + 1) 65535) = b := by
              intro b; rw [hsub, rowsB, w1, Int.toNat_natCast]
            have eN : spNumN (List.map rowByte (sub (List.map byteRow l) (0) (List.length l))) (Int.toNat (IntKind.wrap IntKind.i64 (((spLet l : Nat) : Int) + (1 : Int)))) 65535 = spNumN l (spLet l + 1) 65535 := by
              rw [hsub, rowsB, w1, Int.toNat_natCast]
            have eE : spNumE (List.map rowByte (sub (List.map byteRow l) (0) (List.length l))) (Int.toNat (IntKind.wrap IntKind.i64 (((spLet l : Nat) : Int) + (1 : Int)))) 65535 = spNumE l (spLet l + 1) 65535 := by
              rw [hsub, rowsB, w1, Int.toNat_natCast]
            cases h6 : spNumK l (spLet l + 1) 65535 with
            | false =>
              have k8 := (eK true).2 (by rw [h6]; rfl)
              exact no (by unfold spRMedK medOk3; rw [h6]; simp) (calls_pureB Pn_ok (c68_FFLFFFT l (spLet l : Nat)) ⟨⟨⟨⟨⟨⟨⟨⟨⟨⟨trivial, k0⟩, k1⟩, k2⟩, hl⟩, k3⟩, k4⟩, k5⟩, k6⟩, k7⟩, k8⟩ hE rfl rfl rfl)
            | true =>
              have k8 := (eK false).2 (by rw [h6]; rfl)
              by_cases h7 : spNumN l (spLet l + 1) 65535 = 0
              · have k9 : (((spNumN (List.map rowByte (sub (List.map byteRow l) (0) (List.length l))) (Int.toNat (IntKind.wrap IntKind.i64 (((spLet l : Nat) : Int) + (1 : Int)))) 65535 : Nat) : Int) == (0 : Int)) = true := by rw [eN, h7]; rfl
                exact no (by unfold spRMedK medOk3; rw [h7]; simp) (calls_pureB Pn_ok (c68_FFLFFFFT l (spLet l : Nat)) ⟨⟨⟨⟨⟨⟨⟨⟨⟨⟨⟨trivial, k0⟩, k1⟩, k2⟩, hl⟩, k3⟩, k4⟩, k5⟩, k6⟩, k7⟩, k8⟩, k9⟩ hE rfl rfl rfl)
              · have k9 : (((spNumN (List.map rowByte (sub (List.map byteRow l) (0) (List.length l))) (Int.toNat (IntKind.wrap IntKind.i64 (((spLet l : Nat) : Int) + (1 : Int)))) 65535 : Nat) : Int) == (0 : Int)) = false := by rw [eN, beq_eq_false_iff_ne]; omega
                have h7b : (spNumN l (spLet l + 1) 65535 == 0) = false := by rw [beq_eq_false_iff_ne]; exact h7
                by_cases h8 : spNumE l (spLet l + 1) 65535 < l.length
                · have ka : decide (((spNumE (List.map rowByte (sub (List.map byteRow l) (0) (List.length l))) (Int.toNat (IntKind.wrap IntKind.i64 (((spLet l : Nat) : Int) + (1 : Int)))) 65535 : Nat) : Int) ≥ ((List.length l : Nat) : Int)) = false := by rw [eE]; exact decide_eq_false (by omega)
                  have kb : decide ((0 : Int) ≤ ((spNumE (List.map rowByte (sub (List.map byteRow l) (0) (List.length l))) (Int.toNat (IntKind.wrap IntKind.i64 (((spLet l : Nat) : Int) + (1 : Int)))) 65535 : Nat) : Int) ∧ ((spNumE (List.map rowByte (sub (List.map byteRow l) (0) (List.length l))) (Int.toNat (IntKind.wrap IntKind.i64 (((spLet l : Nat) : Int) + (1 : Int)))) 65535 : Nat) : Int) < ((List.length l : Nat) : Int)) = true := by rw [eE]; exact decide_eq_true (by omega)
                  cases h9 : l.getD (spNumE l (spLet l + 1) 65535) 0 == 32 with
                  | false =>
                    have kc : (!((UInt8.toNat (List.getD l (Int.toNat ((spNumE (List.map rowByte (sub (List.map byteRow l) (0) (List.length l))) (Int.toNat (IntKind.wrap IntKind.i64 (((spLet l : Nat) : Int) + (1 : Int)))) 65535 : Nat) : Int)) (0 : UInt8)) : Nat) : Int) == (32 : Int)) = true := by rw [eE, Int.toNat_natCast, i32, h9]; rfl
                    exact no (by unfold spRMedK medOk3; rw [h9]; simp) (calls_pureB Pn_ok (c68_FFLFFFFFFT l (spLet l : Nat)) ⟨⟨⟨⟨⟨⟨⟨⟨⟨⟨⟨⟨⟨⟨trivial, k0⟩, k1⟩, k2⟩, hl⟩, k3⟩, k4⟩, k5⟩, k6⟩, k7⟩, k8⟩, k9⟩, ka⟩, kb⟩, kc⟩ hE rfl rfl rfl)
                  | true =>
                    have kc : (!((UInt8.toNat (List.getD l (Int.toNat ((spNumE (List.map rowByte (sub (List.map byteRow l) (0) (List.length l))) (Int.toNat (IntKind.wrap IntKind.i64 (((spLet l : Nat) : Int) + (1 : Int)))) 65535 : Nat) : Int)) (0 : UInt8)) : Nat) : Int) == (32 : Int)) = false := by rw [eE, Int.toNat_natCast, i32, h9]; rfl
                    have hK : spRMedK l = true := by
                      unfold spRMedK medOk1 medOk2 medOk3
                      rw [hm, h3b, h5, h6, h7b, h9, decide_eq_true h2, decide_eq_true h4, decide_eq_true h8]; rfl
                    have hc := calls_pureB Pn_ok (c68_FFLFFFFFFF l (spLet l : Nat)) ⟨⟨⟨⟨⟨⟨⟨⟨⟨⟨⟨⟨⟨⟨trivial, k0⟩, k1⟩, k2⟩, hl⟩, k3⟩, k4⟩, k5⟩, k6⟩, k7⟩, k8⟩, k9⟩, ka⟩, kb⟩, kc⟩ hE rfl rfl rfl
                    unfold spRMedN spRMedF spRMedE
                    rw [hK, cond_true, cond_true, cond_true]
                    rw [eN, eE, w1] at hc
                    exact hc
                · have ka : decide (((spNumE (List.map rowByte (sub (List.map byteRow l) (0) (List.length l))) (Int.toNat (IntKind.wrap IntKind.i64 (((spLet l : Nat) : Int) + (1 : Int)))) 65535 : Nat) : Int) ≥ ((List.length l : Nat) : Int)) = true := by rw [eE]; exact decide_eq_true (by omega)
                  exact no (by unfold spRMedK medOk3; rw [decide_eq_false h8]; simp) (calls_pureB Pn_ok (c68_FFLFFFFFT l (spLet l : Nat)) ⟨⟨⟨⟨⟨⟨⟨⟨⟨⟨⟨⟨trivial, k0⟩, k1⟩, k2⟩, hl⟩, k3⟩, k4⟩, k5⟩, k6⟩, k7⟩, k8⟩, k9⟩, ka⟩ hE rfl rfl rfl)
        · have k4 : decide (((spLet l : Nat) : Int) ≥ ((List.length l : Nat) : Int)) = true := decide_eq_true (by omega)
          exact no (by unfold spRMedK medOk2; rw [decide_eq_false h4]; simp) (calls_pureB Pn_ok (c68_FFLFT l (spLet l : Nat)) ⟨⟨⟨⟨⟨⟨trivial, k0⟩, k1⟩, k2⟩, hl⟩, k3⟩, k4⟩ hE rfl rfl rfl)
  · have k0 : decide (((List.length l : Nat) : Int) < (2 : Int)) = true := decide_eq_true (by omega)
    exact no (by unfold spRMedK medOk1; rw [decide_eq_false h2]; rfl) (calls_pureB Pn_ok (c68_T l 0) ⟨trivial, k0⟩ hE rfl rfl rfl)
def q68 : Entry := fun args hp nx => match args with
  | [.str l] => some (decide (l.length ≤ 4294967200), .tup [.int .i64 (spRMedN l : Nat), .int .i64 (spRMedF l : Nat), .int .i64 (spRMedE l : Nat), .bool (spRMedK l)], [])
  | _ => none
theorem q68_ok : EntryOK Tryz.prog 68 q68 := by
  intro args hp nx c v bs h hc ρ w hs hi
  unfold q68 at h
  split at h
  · cases h
    have hE : HSim ρ (addBlks .e 0 []) ([] : List Blk).length w := HSim.ins hs.gw (fun i blk hi => by simp at hi)
    exact entry_pure hs rfl (media_calls (of_decide_eq_true hc) hE)
  · cases h
end Go.Proofs.YtpdgmgkkbbndfaaGreatDoor

set_option maxRecDepth 100000
set_option maxHeartbeats 1600000
namespace Go.Proofs.YtpdgmgkkbbndfaaGreatDoor
open Go Go.Proofs Go.Proofs.YtpdgmgkkbbndfaaGreatDoor.SX
def b97I (rows : List (List AV)) (len : Nat) (n : Int) (k : Int) : SL := ⟨[(0, .slq 0 len), (1, .int .u16 n), (7, .int .i64 len), (8, .int .i64 k)], [(0, .cells false [.int .u16] rows)], 1⟩
theorem b97_TT (rows : List (List AV)) (len : Nat) (n : Int) (k : Int) :
 Path (run Tryz.prog Pr 100 (lbody Tryz.prog 97 0) (SL.mp 19 ([.as_ true, .as_ true]) (b97I rows len n k))) 1 [] (SL.mk [(4, AV.int IntKind.i64 k)] [] 1) (Ex.ret)
 (((((True ∧ (decide (k < (↑len : Int)) = true)) ∧ (decide (0 < len) = true)) ∧ (decide ((0 : Int) ≤ k ∧ k < (↑len : Int)) = true)) ∧ (decide (0 + Int.toNat k < List.length rows) = true)) ∧ ((n == AV.toInt (List.getD (List.getD rows (0 + Int.toNat k) []) (0) AV.undef)) = true)) := by unfold Path; kernel_rfl
theorem b97_TF (rows : List (List AV)) (len : Nat) (n : Int) (k : Int) :
 Path (run Tryz.prog Pr 100 (lbody Tryz.prog 97 0) (SL.mp 19 ([.as_ true, .as_ false]) (b97I rows len n k))) 1 [] (b97I (rows) (len) (n) (IntKind.wrap IntKind.i64 (k + (1 : Int)))) (Ex.normal)
 (((((True ∧ (decide (k < (↑len : Int)) = true)) ∧ (decide (0 < len) = true)) ∧ (decide ((0 : Int) ≤ k ∧ k < (↑len : Int)) = true)) ∧ (decide (0 + Int.toNat k < List.length rows) = true)) ∧ ((n == AV.toInt (List.getD (List.getD rows (0 + Int.toNat k) []) (0) AV.undef)) = false)) := by unfold Path; kernel_rfl
theorem b97_F (rows : List (List AV)) (len : Nat) (n : Int) (k : Int) :
 Path (run Tryz.prog Pr 100 (lbody Tryz.prog 97 0) (SL.mp 19 ([.as_ false]) (b97I rows len n k))) 1 [] (SL.mk [] [] 1) (Ex.exit 0)
 (True ∧ (decide (k < (↑len : Int)) = false)) := by unfold Path; kernel_rfl
theorem c65_L (rows : List (List AV)) (len : Nat) (n : Int) (j : Int) :
 Path (runCallB Tryz.prog Pr 100 65 [AV.slq 0 len, AV.int IntKind.u16 n] (st0 [Blk.cells false [Kd.int IntKind.u16] rows] ([PI.loop (b97I rows len n (0 : Int)) Ex.ret (SL.mk [(4, AV.int IntKind.i64 j)] [] 1)]))) 1 [] (SL.mk [] [] 1) (Out.ret (AV.bool (decide (j ≥ (0 : Int)))))
 (True ∧ (LoopOK Tryz.prog (lbody Tryz.prog 97 0) (19) (SL.mk [(0, AV.slq 0 len), (1, AV.int IntKind.u16 n), (7, AV.int IntKind.i64 (↑len : Int)), (8, AV.int IntKind.i64 (0 : Int))] [(0, Blk.cells false [Kd.int IntKind.u16] rows)] 1) Ex.ret (SL.mk [(4, AV.int IntKind.i64 j)] [] 1))) := by unfold Path; kernel_rfl
theorem c65_E (rows : List (List AV)) (len : Nat) (n : Int) (j : Int) :
 Path (runCallB Tryz.prog Pr 100 65 [AV.slq 0 len, AV.int IntKind.u16 n] (st0 [Blk.cells false [Kd.int IntKind.u16] rows] ([PI.loop (b97I rows len n (0 : Int)) (Ex.exit 0) (SL.mk [] [] 1)]))) 1 [] (SL.mk [] [] 1) (Out.ret (AV.bool false))
 (True ∧ (LoopOK Tryz.prog (lbody Tryz.prog 97 0) (19) (SL.mk [(0, AV.slq 0 len), (1, AV.int IntKind.u16 n), (7, AV.int IntKind.i64 (↑len : Int)), (8, AV.int IntKind.i64 (0 : Int))] [(0, Blk.cells false [Kd.int IntKind.u16] rows)] 1) (Ex.exit 0) (SL.mk [] [] 1))) := by unfold Path; kernel_rfl
def portOf (r : List AV) : Int := AV.toInt (List.getD r 0 AV.undef)
def isPort (n : Int) (r : List AV) : Bool := n == portOf r
theorem ct_step {rows : List (List AV)} {n : Int} {k : Nat} (hk : k < rows.length) (hl : rows.length ≤ 4611686018427387904) (hno : isPort n rows[k] = false) :
    BodyOK Tryz.prog (lbody Tryz.prog 97 0) 19 1 (b97I rows rows.length n k) .normal (b97I rows rows.length n ((k + 1 : Nat) : Int)) := by
  have hw := succ64 (n := rows.length) hk hl
  refine body_by Pr_ok (b97_TF rows rows.length n k) (by rw [hw]) ⟨⟨⟨⟨⟨trivial, decide_eq_true (by omega)⟩, decide_eq_true (by omega)⟩, decide_eq_true (by omega)⟩, decide_eq_true (by simp; omega)⟩, ?_⟩ rfl
  rw [row_at hk]; exact hno
theorem ct_some {rows : List (List AV)} {n : Int} {j : Nat} (hl : rows.length ≤ 4611686018427387904) (h : firstAt (isPort n) rows = some j) :
    LoopOK Tryz.prog (lbody Tryz.prog 97 0) 19 (b97I rows rows.length n 0) .ret ⟨[(4, .int .i64 (j : Int))], [], 1⟩ := by
  obtain ⟨hj, h2, h3⟩ := firstAt_some h
  refine loop_rule (E := b97I rows rows.length n 0) (I := fun k : Nat => b97I rows rows.length n k) (pre := fun k => k ≤ j) (μ := fun k => j - k) _ _ rfl (fun ρ => by simp [Ex.conc]) ?_ (x0 := 0) (pick := []) (Nat.zero_le _) ⟨by kernel_rfl, map_fst_snd (by kernel_rfl)⟩
  intro k hk
  by_cases hkj : k = j
  · right
    subst hkj
    refine body_by Pr_ok (b97_TT rows rows.length n k) rfl ⟨⟨⟨⟨⟨trivial, decide_eq_true (by omega)⟩, decide_eq_true (by omega)⟩, decide_eq_true (by omega)⟩, decide_eq_true (by simp; omega)⟩, ?_⟩ rfl
    rw [row_at hj]; exact h2
  · left
    exact ⟨k + 1, by omega, by omega, ct_step (by omega) hl (h3 k (by omega))⟩
theorem ct_none {rows : List (List AV)} {n : Int} (hl : rows.length ≤ 4611686018427387904) (h : firstAt (isPort n) rows = none) :
    LoopOK Tryz.prog (lbody Tryz.prog 97 0) 19 (b97I rows rows.length n 0) (.exit 0) ⟨[], [], 1⟩ := by
  have h3 := firstAt_none h
  refine loop_rule (E := b97I rows rows.length n 0) (I := fun k : Nat => b97I rows rows.length n k) (pre := fun k => k ≤ rows.length) (μ := fun k => rows.length - k) _ _ rfl (fun ρ => by simp [Ex.conc]) ?_ (x0 := 0) (pick := []) (Nat.zero_le _) ⟨by kernel_rfl, map_fst_snd (by kernel_rfl)⟩
  intro k hk
  by_cases hkl : k < rows.length
  · left
    exact ⟨k + 1, by omega, by omega, ct_step hkl hl (h3 k hkl)⟩
  · right
    exact body_by Pr_ok (b97_F rows rows.length n k) rfl ⟨trivial, decide_eq_false (by omega)⟩ rfl
def spHasP (rows : List (List AV)) (n : Int) : Bool := rows.any (isPort n)
theorem has_some {rows : List (List AV)} {n : Int} {j : Nat} (h : firstAt (isPort n) rows = some j) : spHasP rows n = true := by
  obtain ⟨hj, h2, _⟩ := firstAt_some h
  exact List.any_eq_true.2 ⟨_, List.getElem_mem hj, h2⟩
theorem has_none {rows : List (List AV)} {n : Int} (h : firstAt (isPort n) rows = none) : spHasP rows n = false := by
  have h3 := firstAt_none h
  unfold spHasP
  rw [List.any_eq_false]
  intro r hr
  obtain ⟨k, hk, rfl⟩ := List.getElem_of_mem hr
  rw [h3 k hk]; decide
def q65 : Entry := fun args hp nx => match args with
  | [lv, .int .u16 n] => match slIn hp [.int .u16] lv with
    | some (c, rows) => some (c && decide (rows.length ≤ 4611686018427387904), .bool (spHasP rows n), [])
    | _ => none
  | _ => none
theorem q65_ok : EntryOK Tryz.prog 65 q65 := by
  intro args hp nx c v bs h hc ρ w hs hi
  unfold q65 at h
  split at h
  · rename_i lv n
    split at h
    · rename_i c1 rows hs1
      cases h
      simp only [Bool.and_eq_true] at hc
      have hlen := of_decide_eq_true hc.2
      obtain ⟨b0, hb0⟩ := (slIn_spec hs hs1 hc.1 rfl).bi hs.gw rfl
      have hE : HSim (fun _ => b0) (addBlks .e 0 [Blk.cells false [Kd.int IntKind.u16] rows]) ([Blk.cells false [Kd.int IntKind.u16] rows] : List Blk).length w := HSim.ins hs.gw (fun i blk hi => by
        obtain ⟨rfl, rfl⟩ := bs1 hi
        exact ⟨(hb0 _ 0 rfl).2, rfl, rfl⟩)
      refine entry_pure hs rfl ?_
      have ea : (concL (fun _ => b0) [AV.slq 0 rows.length, .int .u16 n]).toArray = (concL ρ [lv, .int .u16 n]).toArray := by
        have e1 := (hb0 (fun _ => b0) 0 rfl).1
        simp only [concL]
        rw [e1]
        rfl
      rw [← ea]
      cases hf : firstAt (isPort n) rows with
      | some j =>
        rw [has_some hf]
        have hc := calls_pureB Pr_ok (c65_L rows rows.length n j) ⟨trivial, ct_some hlen hf⟩ hE rfl rfl rfl
        have hd : decide ((j : Int) ≥ 0) = true := decide_eq_true (by omega)
        rw [hd] at hc
        exact hc
      | none =>
        rw [has_none hf]
        exact calls_pureB Pr_ok (c65_E rows rows.length n 0) ⟨trivial, ct_none hlen hf⟩ hE rfl rfl rfl
    · cases h
  · cases h
end Go.Proofs.YtpdgmgkkbbndfaaGreatDoor

set_option maxRecDepth 100000
set_option maxHeartbeats 1600000
namespace Go.Proofs.YtpdgmgkkbbndfaaGreatDoor
open Go Go.Proofs Go.Proofs.YtpdgmgkkbbndfaaGreatDoor.SX
def Pp : Prims := addP P5 65 q65
theorem Pp_ok : PrimsOK Tryz.prog Pp := addP_ok P5_ok q65_ok
def B30z (l : List UInt8) (host : Int) (fb : AV) : SL := ⟨[(3, .ptr ⟨3, 0, 0⟩), (5, .ptr ⟨4, 0, 0⟩), (6, .ptr ⟨5, 0, 0⟩), (7, .str l)], [(3, .cells true [.int .u32] [[.int .u32 host]]), (4, .cells true [.any] [[.nilSl]]), (5, .cells true [.bool] [[fb]]), (7, .mark)], 8⟩
def B30o (l : List UInt8) (host : Int) (fb : AV) (rows : List (List AV)) : SL := ⟨[(3, .ptr ⟨3, 0, 0⟩), (5, .ptr ⟨4, 0, 0⟩), (6, .ptr ⟨5, 0, 0⟩), (7, .str l)], [(3, .cells true [.int .u32] [[.int .u32 host]]), (4, .cells true [.any] [[.sl ⟨8, 0, 0⟩ rows.length .open_]]), (5, .cells true [.bool] [[fb]]), (7, .mark), (8, .cells true [.int .u16] rows)], 9⟩
def I30 (host : Int) (brows : List (List AV)) : SL := ⟨[(13, .fn (.func 76) [] [.ptr ⟨6, 0, 0⟩]), (3, .ptr ⟨3, 0, 0⟩), (5, .ptr ⟨4, 0, 0⟩), (6, .ptr ⟨5, 0, 0⟩)], [(3, .cells true [.int .u32] [[.int .u32 host]]), (4, .cells true [.any] [[.nilSl]]), (5, .cells true [.bool] [[.lit false]]), (6, .cells true [.any] [[.slq 1 brows.length]]), (1, .cells false [.int .u8] brows)], 7⟩
def S30z (host : Int) (fb : AV) : SL := ⟨[], [(3, .cells true [.int .u32] [[.int .u32 host]]), (4, .cells true [.any] [[.nilSl]]), (5, .cells true [.bool] [[fb]]), (7, .mark)], 8⟩
def S30o (host : Int) (fb : AV) (rows : List (List AV)) : SL := ⟨[], [(3, .cells true [.int .u32] [[.int .u32 host]]), (4, .cells true [.any] [[.sl ⟨8, 0, 0⟩ rows.length .open_]]), (5, .cells true [.bool] [[fb]]), (7, .mark), (8, .cells true [.int .u16] rows)], 9⟩
def A30z (l e : List UInt8) (host : Int) (fb : AV) : SL := ⟨[(15, .str e), (14, .str l), (13, .fn (.func 76) [] [.ptr ⟨6, 0, 0⟩]), (3, .ptr ⟨3, 0, 0⟩), (5, .ptr ⟨4, 0, 0⟩), (6, .ptr ⟨5, 0, 0⟩)], (S30z host fb).hp, 8⟩
def A30o (l e : List UInt8) (host : Int) (fb : AV) (rows : List (List AV)) : SL := ⟨[(15, .str e), (14, .str l), (13, .fn (.func 76) [] [.ptr ⟨6, 0, 0⟩]), (3, .ptr ⟨3, 0, 0⟩), (5, .ptr ⟨4, 0, 0⟩), (6, .ptr ⟨5, 0, 0⟩)], (S30o host fb rows).hp, 9⟩
theorem r30az (l e : List UInt8) (host : Int) (fb : AV) : Path (runR Tryz.prog Pp 100 (rAs (rcode Tryz.prog 30 0)) (SL.mp 47 [] (A30z l e host fb))) 8 [] (B30z l host fb) (Ex.normal) True := by unfold Path; kernel_rfl
theorem r30ao (l e : List UInt8) (host : Int) (fb : AV) (rows : List (List AV)) : Path (runR Tryz.prog Pp 100 (rAs (rcode Tryz.prog 30 0)) (SL.mp 47 [] (A30o l e host fb rows))) 8 [8] (B30o l host fb rows) (Ex.normal) True := by unfold Path; kernel_rfl
theorem r30z_TTTE (l : List UInt8) (host : Int) (fb : AV) :
 Path (runR Tryz.prog Pp 100 (rBo (rcode Tryz.prog 30 0)) (SL.mp 47 ([.as_ true, .as_ true, .as_ true, PI.ev 1]) (B30z l host fb))) 8 [9] (S30o host (.lit true) [[AV.int IntKind.u16 (IntKind.wrap IntKind.u16 (spMedN l))]]) (Ex.normal)
 ((((((((((((True ∧ (true = true)) ∧ ((AV.toBool (List.getD [fb] 0 AV.undef)) = true)) ∧ (true = true)) ∧ (decide (List.length l ≤ 4294967200) = true)) ∧ ((decide (spMedN l > (0 : Int))) = true)) ∧ (true = true)) ∧ (true = true)) ∧ ((!spHasP [] (IntKind.wrap IntKind.u16 (spMedN l))) = true)) ∧ (true = true)) ∧ (true = true)) ∧ (true = true)) ∧ (true = true)) := by unfold Path; kernel_rfl
theorem r30z_TF (l : List UInt8) (host : Int) (fb : AV) :
 Path (runR Tryz.prog Pp 100 (rBo (rcode Tryz.prog 30 0)) (SL.mp 47 ([.as_ true, .as_ false]) (B30z l host fb))) 8 [] (S30z host (.lit true)) (Ex.normal)
 (((((True ∧ (true = true)) ∧ ((AV.toBool (List.getD [fb] 0 AV.undef)) = true)) ∧ (true = true)) ∧ (decide (List.length l ≤ 4294967200) = true)) ∧ ((decide (spMedN l > (0 : Int))) = false)) := by unfold Path; kernel_rfl
theorem r30o_TTT (l : List UInt8) (host : Int) (fb : AV) (rows : List (List AV)) :
 Path (runR Tryz.prog Pp 100 (rBo (rcode Tryz.prog 30 0)) (SL.mp 47 ([.as_ true, .as_ true, .as_ true]) (B30o l host fb rows))) 8 [10] ⟨[], [(3, .cells true [.int .u32] [[.int .u32 host]]), (4, .cells true [.any] [[.sl ⟨8, 0, 0⟩ (rows.length + 1) .open_]]), (5, .cells true [.bool] [[(.lit true)]]), (7, .mark), (8, .cells true [.int .u16] (rows ++ [[AV.int IntKind.u16 (IntKind.wrap IntKind.u16 (spMedN l))]]))], 9⟩ (Ex.normal)
 (((((((((((((True ∧ (true = true)) ∧ ((AV.toBool (List.getD [fb] 0 AV.undef)) = true)) ∧ (true = true)) ∧ (decide (List.length l ≤ 4294967200) = true)) ∧ ((decide (spMedN l > (0 : Int))) = true)) ∧ (true = true)) ∧ ((decide (0 + List.length rows ≤ List.length rows) && decide (List.length (sub rows 0 (List.length rows)) ≤ 4611686018427387904)) = true)) ∧ ((!spHasP (sub rows 0 (List.length rows)) (IntKind.wrap IntKind.u16 (spMedN l))) = true)) ∧ (true = true)) ∧ (true = true)) ∧ (decide (0 = 0 ∧ List.length rows = List.length rows) = true)) ∧ (decide ((List.length rows + 1) * 2 ≤ 140737488355328) = true)) ∧ (true = true)) := by unfold Path; kernel_rfl
theorem r30o_TTF (l : List UInt8) (host : Int) (fb : AV) (rows : List (List AV)) :
 Path (runR Tryz.prog Pp 100 (rBo (rcode Tryz.prog 30 0)) (SL.mp 47 ([.as_ true, .as_ true, .as_ false]) (B30o l host fb rows))) 8 [8] (S30o host (.lit true) rows) (Ex.normal)
 ((((((((True ∧ (true = true)) ∧ ((AV.toBool (List.getD [fb] 0 AV.undef)) = true)) ∧ (true = true)) ∧ (decide (List.length l ≤ 4294967200) = true)) ∧ ((decide (spMedN l > (0 : Int))) = true)) ∧ (true = true)) ∧ ((decide (0 + List.length rows ≤ List.length rows) && decide (List.length (sub rows 0 (List.length rows)) ≤ 4611686018427387904)) = true)) ∧ ((!spHasP (sub rows 0 (List.length rows)) (IntKind.wrap IntKind.u16 (spMedN l))) = false)) := by unfold Path; kernel_rfl
theorem r30o_TF (l : List UInt8) (host : Int) (fb : AV) (rows : List (List AV)) :
 Path (runR Tryz.prog Pp 100 (rBo (rcode Tryz.prog 30 0)) (SL.mp 47 ([.as_ true, .as_ false]) (B30o l host fb rows))) 8 [8] (S30o host (.lit true) rows) (Ex.normal)
 (((((True ∧ (true = true)) ∧ ((AV.toBool (List.getD [fb] 0 AV.undef)) = true)) ∧ (true = true)) ∧ (decide (List.length l ≤ 4294967200) = true)) ∧ ((decide (spMedN l > (0 : Int))) = false)) := by unfold Path; kernel_rfl
theorem r30z_FTTE (l : List UInt8) (host : Int) (fb : AV) :
 Path (runR Tryz.prog Pp 100 (rBo (rcode Tryz.prog 30 0)) (SL.mp 47 ([.as_ false, .as_ true, .as_ true, PI.ev 1]) (B30z l host fb))) 8 [9] (S30o host (.bool (l == (99 : UInt8) :: (61 : UInt8) :: (73 : UInt8) :: (78 : UInt8) :: (32 : UInt8) :: (73 : UInt8) :: (80 : UInt8) :: (52 : UInt8) :: (32 : UInt8) :: spDotted host)) [[AV.int IntKind.u16 (IntKind.wrap IntKind.u16 (spMedN l))]]) (Ex.normal)
 (((((((((((((((True ∧ (true = true)) ∧ ((AV.toBool (List.getD [fb] 0 AV.undef)) = false)) ∧ (true = true)) ∧ (true = true)) ∧ (decide (9 + List.length (spDotted host) ≤ 9223372036854775807) = true)) ∧ (true = true)) ∧ (decide (List.length l ≤ 4294967200) = true)) ∧ ((decide (spMedN l > (0 : Int))) = true)) ∧ (true = true)) ∧ (true = true)) ∧ ((!spHasP [] (IntKind.wrap IntKind.u16 (spMedN l))) = true)) ∧ (true = true)) ∧ (true = true)) ∧ (true = true)) ∧ (true = true)) := by unfold Path; kernel_rfl
theorem r30z_FF (l : List UInt8) (host : Int) (fb : AV) :
 Path (runR Tryz.prog Pp 100 (rBo (rcode Tryz.prog 30 0)) (SL.mp 47 ([.as_ false, .as_ false]) (B30z l host fb))) 8 [] (S30z host (.bool (l == (99 : UInt8) :: (61 : UInt8) :: (73 : UInt8) :: (78 : UInt8) :: (32 : UInt8) :: (73 : UInt8) :: (80 : UInt8) :: (52 : UInt8) :: (32 : UInt8) :: spDotted host))) (Ex.normal)
 ((((((((True ∧ (true = true)) ∧ ((AV.toBool (List.getD [fb] 0 AV.undef)) = false)) ∧ (true = true)) ∧ (true = true)) ∧ (decide (9 + List.length (spDotted host) ≤ 9223372036854775807) = true)) ∧ (true = true)) ∧ (decide (List.length l ≤ 4294967200) = true)) ∧ ((decide (spMedN l > (0 : Int))) = false)) := by unfold Path; kernel_rfl
theorem r30o_FTT (l : List UInt8) (host : Int) (fb : AV) (rows : List (List AV)) :
 Path (runR Tryz.prog Pp 100 (rBo (rcode Tryz.prog 30 0)) (SL.mp 47 ([.as_ false, .as_ true, .as_ true]) (B30o l host fb rows))) 8 [10] ⟨[], [(3, .cells true [.int .u32] [[.int .u32 host]]), (4, .cells true [.any] [[.sl ⟨8, 0, 0⟩ (rows.length + 1) .open_]]), (5, .cells true [.bool] [[(.bool (l == (99 : UInt8) :: (61 : UInt8) :: (73 : UInt8) :: (78 : UInt8) :: (32 : UInt8) :: (73 : UInt8) :: (80 : UInt8) :: (52 : UInt8) :: (32 : UInt8) :: spDotted host))]]), (7, .mark), (8, .cells true [.int .u16] (rows ++ [[AV.int IntKind.u16 (IntKind.wrap IntKind.u16 (spMedN l))]]))], 9⟩ (Ex.normal)
 ((((((((((((((((True ∧ (true = true)) ∧ ((AV.toBool (List.getD [fb] 0 AV.undef)) = false)) ∧ (true = true)) ∧ (true = true)) ∧ (decide (9 + List.length (spDotted host) ≤ 9223372036854775807) = true)) ∧ (true = true)) ∧ (decide (List.length l ≤ 4294967200) = true)) ∧ ((decide (spMedN l > (0 : Int))) = true)) ∧ (true = true)) ∧ ((decide (0 + List.length rows ≤ List.length rows) && decide (List.length (sub rows 0 (List.length rows)) ≤ 4611686018427387904)) = true)) ∧ ((!spHasP (sub rows 0 (List.length rows)) (IntKind.wrap IntKind.u16 (spMedN l))) = true)) ∧ (true = true)) ∧ (true = true)) ∧ (decide (0 = 0 ∧ List.length rows = List.length rows) = true)) ∧ (decide ((List.length rows + 1) * 2 ≤ 140737488355328) = true)) ∧ (true = true)) := by unfold Path; kernel_rfl
theorem r30o_FTF (l : List UInt8) (host : Int) (fb : AV) (rows : List (List AV)) :
 Path (runR Tryz.prog Pp 100 (rBo (rcode Tryz.prog 30 0)) (SL.mp 47 ([.as_ false, .as_ true, .as_ false]) (B30o l host fb rows))) 8 [8] (S30o host (.bool (l == (99 : UInt8) :: (61 : UInt8) :: (73 : UInt8) :: (78 : UInt8) :: (32 : UInt8) :: (73 : UInt8) :: (80 : UInt8) :: (52 : UInt8) :: (32 : UInt8) :: spDotted host)) rows) (Ex.normal)
 (((((((((((True ∧ (true = true)) ∧ ((AV.toBool (List.getD [fb] 0 AV.undef)) = false)) ∧ (true = true)) ∧ (true = true)) ∧ (decide (9 + List.length (spDotted host) ≤ 9223372036854775807) = true)) ∧ (true = true)) ∧ (decide (List.length l ≤ 4294967200) = true)) ∧ ((decide (spMedN l > (0 : Int))) = true)) ∧ (true = true)) ∧ ((decide (0 + List.length rows ≤ List.length rows) && decide (List.length (sub rows 0 (List.length rows)) ≤ 4611686018427387904)) = true)) ∧ ((!spHasP (sub rows 0 (List.length rows)) (IntKind.wrap IntKind.u16 (spMedN l))) = false)) := by unfold Path; kernel_rfl
theorem r30o_FF (l : List UInt8) (host : Int) (fb : AV) (rows : List (List AV)) :
 Path (runR Tryz.prog Pp 100 (rBo (rcode Tryz.prog 30 0)) (SL.mp 47 ([.as_ false, .as_ false]) (B30o l host fb rows))) 8 [8] (S30o host (.bool (l == (99 : UInt8) :: (61 : UInt8) :: (73 : UInt8) :: (78 : UInt8) :: (32 : UInt8) :: (73 : UInt8) :: (80 : UInt8) :: (52 : UInt8) :: (32 : UInt8) :: spDotted host)) rows) (Ex.normal)
 ((((((((True ∧ (true = true)) ∧ ((AV.toBool (List.getD [fb] 0 AV.undef)) = false)) ∧ (true = true)) ∧ (true = true)) ∧ (decide (9 + List.length (spDotted host) ≤ 9223372036854775807) = true)) ∧ (true = true)) ∧ (decide (List.length l ≤ 4294967200) = true)) ∧ ((decide (spMedN l > (0 : Int))) = false)) := by unfold Path; kernel_rfl
theorem c30z_LT (start : List UInt8) (hrows : List (List AV)) (brows : List (List AV)) (host : Int) (fb : AV) :
 Path (runCallB Tryz.prog Pp 100 30 [AV.agg [AV.str start, AV.slq 0 (List.length hrows), AV.slq 1 (List.length brows)], AV.int IntKind.u32 host] (st0 [Blk.cells false [Kd.str, Kd.str] hrows, Blk.cells false [Kd.int IntKind.u8] brows] ([PI.loop (I30 host brows) Ex.normal (S30z host fb), .as_ true]))) 2 [] (SL.mk [] [] 2) (Out.ret AV.nilSl)
 (((((True ∧ (true = true)) ∧ (true = true)) ∧ (RangeOK Tryz.prog (rcode Tryz.prog 30 0) (47) (SL.mk [(13, AV.fn (Fn.func 76) [] [AV.ptr (Loc.mk 6 0 0)]), (3, AV.ptr (Loc.mk 3 0 0)), (5, AV.ptr (Loc.mk 4 0 0)), (6, AV.ptr (Loc.mk 5 0 0))] [(3, Blk.cells true [Kd.int IntKind.u32] [[AV.int IntKind.u32 host]]), (4, Blk.cells true [Kd.any] [[AV.nilSl]]), (5, Blk.cells true [Kd.bool] [[AV.lit false]]), (6, Blk.cells true [Kd.any] [[AV.slq 1 (List.length brows)]]), (1, Blk.cells false [Kd.int IntKind.u8] brows)] 7) (SL.mk [] [(3, Blk.cells true [Kd.int IntKind.u32] [[AV.int IntKind.u32 host]]), (4, Blk.cells true [Kd.any] [[AV.nilSl]]), (5, Blk.cells true [Kd.bool] [[fb]]), (7, Blk.mark)] 8))) ∧ (true = true)) ∧ ((!AV.toBool (List.getD [fb] (0) AV.undef)) = true)) := by unfold Path; kernel_rfl
theorem c30z_LF (start : List UInt8) (hrows : List (List AV)) (brows : List (List AV)) (host : Int) (fb : AV) :
 Path (runCallB Tryz.prog Pp 100 30 [AV.agg [AV.str start, AV.slq 0 (List.length hrows), AV.slq 1 (List.length brows)], AV.int IntKind.u32 host] (st0 [Blk.cells false [Kd.str, Kd.str] hrows, Blk.cells false [Kd.int IntKind.u8] brows] ([PI.loop (I30 host brows) Ex.normal (S30z host fb), .as_ false]))) 2 [] (SL.mk [] [] 2) (Out.ret AV.nilSl)
 ((((((True ∧ (true = true)) ∧ (true = true)) ∧ (RangeOK Tryz.prog (rcode Tryz.prog 30 0) (47) (SL.mk [(13, AV.fn (Fn.func 76) [] [AV.ptr (Loc.mk 6 0 0)]), (3, AV.ptr (Loc.mk 3 0 0)), (5, AV.ptr (Loc.mk 4 0 0)), (6, AV.ptr (Loc.mk 5 0 0))] [(3, Blk.cells true [Kd.int IntKind.u32] [[AV.int IntKind.u32 host]]), (4, Blk.cells true [Kd.any] [[AV.nilSl]]), (5, Blk.cells true [Kd.bool] [[AV.lit false]]), (6, Blk.cells true [Kd.any] [[AV.slq 1 (List.length brows)]]), (1, Blk.cells false [Kd.int IntKind.u8] brows)] 7) (SL.mk [] [(3, Blk.cells true [Kd.int IntKind.u32] [[AV.int IntKind.u32 host]]), (4, Blk.cells true [Kd.any] [[AV.nilSl]]), (5, Blk.cells true [Kd.bool] [[fb]]), (7, Blk.mark)] 8))) ∧ (true = true)) ∧ ((!AV.toBool (List.getD [fb] (0) AV.undef)) = false)) ∧ (true = true)) := by unfold Path; kernel_rfl
theorem c30o_LT (start : List UInt8) (hrows : List (List AV)) (brows : List (List AV)) (host : Int) (fb : AV) (rows : List (List AV)) :
 Path (runCallB Tryz.prog Pp 100 30 [AV.agg [AV.str start, AV.slq 0 (List.length hrows), AV.slq 1 (List.length brows)], AV.int IntKind.u32 host] (st0 [Blk.cells false [Kd.str, Kd.str] hrows, Blk.cells false [Kd.int IntKind.u8] brows] ([PI.loop (I30 host brows) Ex.normal (S30o host fb rows), .as_ true]))) 2 [] (SL.mk [] [] 2) (Out.ret AV.nilSl)
 (((((True ∧ (true = true)) ∧ (true = true)) ∧ (RangeOK Tryz.prog (rcode Tryz.prog 30 0) (47) (SL.mk [(13, AV.fn (Fn.func 76) [] [AV.ptr (Loc.mk 6 0 0)]), (3, AV.ptr (Loc.mk 3 0 0)), (5, AV.ptr (Loc.mk 4 0 0)), (6, AV.ptr (Loc.mk 5 0 0))] [(3, Blk.cells true [Kd.int IntKind.u32] [[AV.int IntKind.u32 host]]), (4, Blk.cells true [Kd.any] [[AV.nilSl]]), (5, Blk.cells true [Kd.bool] [[AV.lit false]]), (6, Blk.cells true [Kd.any] [[AV.slq 1 (List.length brows)]]), (1, Blk.cells false [Kd.int IntKind.u8] brows)] 7) (SL.mk [] [(3, Blk.cells true [Kd.int IntKind.u32] [[AV.int IntKind.u32 host]]), (4, Blk.cells true [Kd.any] [[AV.sl (Loc.mk 8 0 0) (List.length rows) Cap.open_]]), (5, Blk.cells true [Kd.bool] [[fb]]), (7, Blk.mark), (8, Blk.cells true [Kd.int IntKind.u16] rows)] 9))) ∧ (true = true)) ∧ ((!AV.toBool (List.getD [fb] (0) AV.undef)) = true)) := by unfold Path; kernel_rfl
theorem c30o_LF (start : List UInt8) (hrows : List (List AV)) (brows : List (List AV)) (host : Int) (fb : AV) (rows : List (List AV)) :
 Path (runCallB Tryz.prog Pp 100 30 [AV.agg [AV.str start, AV.slq 0 (List.length hrows), AV.slq 1 (List.length brows)], AV.int IntKind.u32 host] (st0 [Blk.cells false [Kd.str, Kd.str] hrows, Blk.cells false [Kd.int IntKind.u8] brows] ([PI.loop (I30 host brows) Ex.normal (S30o host fb rows), .as_ false]))) 2 [8] (SL.mk [] [(2, .cells true [Kd.int IntKind.u16] rows)] 3) (Out.ret (ren (sig 2 [8]) (AV.sl (Loc.mk 2 0 0) (List.length rows) Cap.open_)))
 ((((((True ∧ (true = true)) ∧ (true = true)) ∧ (RangeOK Tryz.prog (rcode Tryz.prog 30 0) (47) (SL.mk [(13, AV.fn (Fn.func 76) [] [AV.ptr (Loc.mk 6 0 0)]), (3, AV.ptr (Loc.mk 3 0 0)), (5, AV.ptr (Loc.mk 4 0 0)), (6, AV.ptr (Loc.mk 5 0 0))] [(3, Blk.cells true [Kd.int IntKind.u32] [[AV.int IntKind.u32 host]]), (4, Blk.cells true [Kd.any] [[AV.nilSl]]), (5, Blk.cells true [Kd.bool] [[AV.lit false]]), (6, Blk.cells true [Kd.any] [[AV.slq 1 (List.length brows)]]), (1, Blk.cells false [Kd.int IntKind.u8] brows)] 7) (SL.mk [] [(3, Blk.cells true [Kd.int IntKind.u32] [[AV.int IntKind.u32 host]]), (4, Blk.cells true [Kd.any] [[AV.sl (Loc.mk 8 0 0) (List.length rows) Cap.open_]]), (5, Blk.cells true [Kd.bool] [[fb]]), (7, Blk.mark), (8, Blk.cells true [Kd.int IntKind.u16] rows)] 9))) ∧ (true = true)) ∧ ((!AV.toBool (List.getD [fb] (0) AV.undef)) = false)) ∧ (true = true)) := by unfold Path; kernel_rfl
def portN (l : List UInt8) : Int := IntKind.wrap IntKind.u16 (spMedN l)
def addPort (rows : List (List AV)) (l : List UInt8) : List (List AV) := bif decide (spMedN l > 0) && !spHasP rows (portN l) then rows ++ [[AV.int .u16 (portN l)]] else rows
def fbStep (host : Int) (fb : AV) (l : List UInt8) : AV := bif fb.toBool then .lit true else .bool (spConn l host)
def spPortRows (ls : List (List UInt8)) : List (List AV) := ls.foldl addPort []
def fbOf (host : Int) (ls : List (List UInt8)) : AV := ls.foldl (fbStep host) (.lit false)
theorem fb_step (host : Int) (fb : AV) (l : List UInt8) : (fbStep host fb l).toBool = (fb.toBool || spConn l host) := by
  unfold fbStep
  cases h : fb.toBool <;> rfl
theorem fb_any (host : Int) (ls : List (List UInt8)) : (fbOf host ls).toBool = ls.any (fun l => spConn l host) := by
  have key : ∀ (ls : List (List UInt8)) (fb : AV), (ls.foldl (fbStep host) fb).toBool = (fb.toBool || ls.any (fun l => spConn l host)) := by
    intro ls
    induction ls with
    | nil => intro fb; simp
    | cons l t ih => intro fb; rw [List.foldl_cons, ih, fb_step, List.any_cons, Bool.or_assoc]
  exact (key ls (.lit false)).trans (by rfl)
theorem addPort_len (rows : List (List AV)) (l : List UInt8) : (addPort rows l).length ≤ rows.length + 1 := by
  unfold addPort
  cases decide (spMedN l > 0) && !spHasP rows (portN l) <;> simp
theorem ports_len : ∀ (ls : List (List UInt8)) (rows : List (List AV)), (ls.foldl addPort rows).length ≤ rows.length + ls.length
  | [], rows => by simp
  | l :: t, rows => by
    rw [List.foldl_cons]
    have := ports_len t (addPort rows l)
    have := addPort_len rows l
    simp only [List.length_cons]; omega
def S30 (host : Int) (fb : AV) : List (List AV) → SL
  | [] => S30z host fb
  | r :: rs => S30o host fb (r :: rs)
def B30 (l : List UInt8) (host : Int) (fb : AV) : List (List AV) → SL
  | [] => B30z l host fb
  | r :: rs => B30o l host fb (r :: rs)
theorem round30 {l : List UInt8} {host : Int} {fb : AV} {rows : List (List AV)} (hl : l.length ≤ 4294967200) (hr : rows.length ≤ 4294967296) :
    BodyR Tryz.prog (rBo (rcode Tryz.prog 30 0)) 47 8 (B30 l host fb rows) .normal (S30 host (fbStep host fb l) (addPort rows l)) := by
  have cl : decide (List.length l ≤ 4294967200) = true := decide_eq_true hl
  have c9 : decide (9 + List.length (spDotted host) ≤ 9223372036854775807) = true := decide_eq_true (by have := len_dotted host; omega)
  have hp : portN l = IntKind.wrap IntKind.u16 (spMedN l) := rfl
  unfold addPort
  cases q1 : fb.toBool with
  | false =>
    have e1 : fbStep host fb l = (.bool (l == (99 : UInt8) :: (61 : UInt8) :: (73 : UInt8) :: (78 : UInt8) :: (32 : UInt8) :: (73 : UInt8) :: (80 : UInt8) :: (52 : UInt8) :: (32 : UInt8) :: spDotted host)) := by unfold fbStep; rw [q1]; rfl
    rw [e1]
    cases q2 : decide (spMedN l > 0) with
    | false =>
      rw [Bool.false_and, cond_false]
      cases rows with
      | nil => exact body_ofR Pp_ok (r30z_FF l host fb) ⟨⟨⟨⟨⟨⟨⟨⟨trivial, rfl⟩, q1⟩, rfl⟩, rfl⟩, c9⟩, rfl⟩, cl⟩, q2⟩ rfl
      | cons r rs => exact body_ofR Pp_ok (r30o_FF l host fb (r :: rs)) ⟨⟨⟨⟨⟨⟨⟨⟨trivial, rfl⟩, q1⟩, rfl⟩, rfl⟩, c9⟩, rfl⟩, cl⟩, q2⟩ rfl
    | true =>
      rw [Bool.true_and]
      cases rows with
      | nil =>
        have q3 : (!spHasP [] (IntKind.wrap IntKind.u16 (spMedN l))) = true := rfl
        exact body_ofR Pp_ok (r30z_FTTE l host fb) ⟨⟨⟨⟨⟨⟨⟨⟨⟨⟨⟨⟨⟨⟨⟨trivial, rfl⟩, q1⟩, rfl⟩, rfl⟩, c9⟩, rfl⟩, cl⟩, q2⟩, rfl⟩, rfl⟩, q3⟩, rfl⟩, rfl⟩, rfl⟩, rfl⟩ rfl
      | cons r rs =>
        have hsub : sub (r :: rs) 0 (List.length (r :: rs)) = r :: rs := sub_all _ rfl
        have cr : (decide (0 + List.length (r :: rs) ≤ List.length (r :: rs)) && decide (List.length (sub (r :: rs) 0 (List.length (r :: rs))) ≤ 4611686018427387904)) = true := by
          rw [hsub]; simp only [Bool.and_eq_true, decide_eq_true_eq]; omega
        cases hq : spHasP (r :: rs) (portN l) with
        | true =>
          have q3 : (!spHasP (sub (r :: rs) 0 (List.length (r :: rs))) (IntKind.wrap IntKind.u16 (spMedN l))) = false := by rw [hsub, ← hp, hq]; rfl
          exact body_ofR Pp_ok (r30o_FTF l host fb (r :: rs)) ⟨⟨⟨⟨⟨⟨⟨⟨⟨⟨⟨trivial, rfl⟩, q1⟩, rfl⟩, rfl⟩, c9⟩, rfl⟩, cl⟩, q2⟩, rfl⟩, cr⟩, q3⟩ rfl
        | false =>
          have q3 : (!spHasP (sub (r :: rs) 0 (List.length (r :: rs))) (IntKind.wrap IntKind.u16 (spMedN l))) = true := by rw [hsub, ← hp, hq]; rfl
          have ca : decide ((List.length (r :: rs) + 1) * 2 ≤ 140737488355328) = true := decide_eq_true (by omega)
          have hx := body_ofR Pp_ok (r30o_FTT l host fb (r :: rs)) ⟨⟨⟨⟨⟨⟨⟨⟨⟨⟨⟨⟨⟨⟨⟨⟨trivial, rfl⟩, q1⟩, rfl⟩, rfl⟩, c9⟩, rfl⟩, cl⟩, q2⟩, rfl⟩, cr⟩, q3⟩, rfl⟩, rfl⟩, (decide_eq_true ⟨rfl, rfl⟩)⟩, ca⟩, rfl⟩ rfl
          have e4 : (r :: rs).length + 1 = ((r :: rs) ++ [[AV.int IntKind.u16 (IntKind.wrap IntKind.u16 (spMedN l))]]).length := by rw [List.length_append]; rfl
          rw [e4] at hx
          exact hx
  | true =>
    have e1 : fbStep host fb l = (.lit true) := by unfold fbStep; rw [q1]; rfl
    rw [e1]
    cases q2 : decide (spMedN l > 0) with
    | false =>
      rw [Bool.false_and, cond_false]
      cases rows with
      | nil => exact body_ofR Pp_ok (r30z_TF l host fb) ⟨⟨⟨⟨⟨trivial, rfl⟩, q1⟩, rfl⟩, cl⟩, q2⟩ rfl
      | cons r rs => exact body_ofR Pp_ok (r30o_TF l host fb (r :: rs)) ⟨⟨⟨⟨⟨trivial, rfl⟩, q1⟩, rfl⟩, cl⟩, q2⟩ rfl
    | true =>
      rw [Bool.true_and]
      cases rows with
      | nil =>
        have q3 : (!spHasP [] (IntKind.wrap IntKind.u16 (spMedN l))) = true := rfl
        exact body_ofR Pp_ok (r30z_TTTE l host fb) ⟨⟨⟨⟨⟨⟨⟨⟨⟨⟨⟨⟨trivial, rfl⟩, q1⟩, rfl⟩, cl⟩, q2⟩, rfl⟩, rfl⟩, q3⟩, rfl⟩, rfl⟩, rfl⟩, rfl⟩ rfl
      | cons r rs =>
        have hsub : sub (r :: rs) 0 (List.length (r :: rs)) = r :: rs := sub_all _ rfl
        have cr : (decide (0 + List.length (r :: rs) ≤ List.length (r :: rs)) && decide (List.length (sub (r :: rs) 0 (List.length (r :: rs))) ≤ 4611686018427387904)) = true := by
          rw [hsub]; simp only [Bool.and_eq_true, decide_eq_true_eq]; omega
        cases hq : spHasP (r :: rs) (portN l) with
        | true =>
          have q3 : (!spHasP (sub (r :: rs) 0 (List.length (r :: rs))) (IntKind.wrap IntKind.u16 (spMedN l))) = false := by rw [hsub, ← hp, hq]; rfl
          exact body_ofR Pp_ok (r30o_TTF l host fb (r :: rs)) ⟨⟨⟨⟨⟨⟨⟨⟨trivial, rfl⟩, q1⟩, rfl⟩, cl⟩, q2⟩, rfl⟩, cr⟩, q3⟩ rfl
        | false =>
          have q3 : (!spHasP (sub (r :: rs) 0 (List.length (r :: rs))) (IntKind.wrap IntKind.u16 (spMedN l))) = true := by rw [hsub, ← hp, hq]; rfl
          have ca : decide ((List.length (r :: rs) + 1) * 2 ≤ 140737488355328) = true := decide_eq_true (by omega)
          have hx := body_ofR Pp_ok (r30o_TTT l host fb (r :: rs)) ⟨⟨⟨⟨⟨⟨⟨⟨⟨⟨⟨⟨⟨trivial, rfl⟩, q1⟩, rfl⟩, cl⟩, q2⟩, rfl⟩, cr⟩, q3⟩, rfl⟩, rfl⟩, (decide_eq_true ⟨rfl, rfl⟩)⟩, ca⟩, rfl⟩ rfl
          have e4 : (r :: rs).length + 1 = ((r :: rs) ++ [[AV.int IntKind.u16 (IntKind.wrap IntKind.u16 (spMedN l))]]).length := by rw [List.length_append]; rfl
          rw [e4] at hx
          exact hx
theorem rcode30 : rcode Tryz.prog 30 0 = .rangeFunc (.tmp 13) #[14, 15] (rAs (rcode Tryz.prog 30 0)) (rBo (rcode Tryz.prog 30 0)) := by kernel_rfl
theorem hent76p : ∀ (args : Array Value) (w : World), (callFunc 76 args).run Tryz.prog w = .ok (.enter 76 args) w := by
  intro args w
  have hfn : Tryz.prog.funcs[76]? = some Tryz.f76 := by kernel_rfl
  have h1 : ¬ (Tryz.f76.name = "runtime.NumGoroutine") := by decide
  have h2 : ¬ (Tryz.f76.body = none) := by
    intro h
    have : Tryz.f76.body.isSome = true := by kernel_rfl
    rw [h] at this; cases this
  simp [callFunc, go_sem, hfn]
  rw [if_neg h1, if_neg h2]
def lnOf (brows : List (List AV)) (k : Nat) : List UInt8 := ((spLines (brows.map rowByte)).getD k ([], [])).1
def lnsOf (brows : List (List AV)) : List (List UInt8) := (spLines (brows.map rowByte)).map Prod.fst
theorem take_ln {brows : List (List AV)} {k : Nat} (h : k < (spLines (brows.map rowByte)).length) : (lnsOf brows).take (k + 1) = (lnsOf brows).take k ++ [lnOf brows k] := by
  unfold lnsOf lnOf
  have h' : k < ((spLines (brows.map rowByte)).map Prod.fst).length := by rw [List.length_map]; exact h
  rw [take_snoc h', List.getElem_map]
  simp [List.getD_eq_getElem?_getD, h]
theorem range30 {host : Int} {brows : List (List AV)} (hb : brows.length ≤ 1048576) :
    RangeOK Tryz.prog (rcode Tryz.prog 30 0) 47 (I30 host brows) (S30 host (fbOf host (lnsOf brows)) (spPortRows (lnsOf brows))) := by
  obtain ⟨hl1, hl2⟩ := len_lines ((brows.map rowByte).length + 1) (brows.map rowByte)
  have hl1 : (spLines (brows.map rowByte)).length ≤ brows.length + 1 := by
    have e : (brows.map rowByte).length + 1 = brows.length + 1 := by rw [List.length_map]
    rw [← e]; exact hl1
  have hln : (lnsOf brows).length = (spLines (brows.map rowByte)).length := by unfold lnsOf; rw [List.length_map]
  rw [rcode30]
  have hx := range_rule (P := Tryz.prog) (t := 13) (p0 := 14) (p1 := 15) (assign := rAs (rcode Tryz.prog 30 0)) (body := rBo (rcode Tryz.prog 30 0)) (nt := 47) (I := I30 host brows) (f := 76) (caps := [.ptr ⟨6, 0, 0⟩])
    (S := fun k => S30 host (fbOf host ((lnsOf brows).take k)) (spPortRows ((lnsOf brows).take k)))
    (B := fun k => B30 (lnOf brows k) host (fbOf host ((lnsOf brows).take k)) (spPortRows ((lnsOf brows).take k)))
    (N := (spLines (brows.map rowByte)).length) (arg := fun k => (.str ((spLines (brows.map rowByte)).getD k ([], [])).1, .str ((spLines (brows.map rowByte)).getD k ([], [])).2))
    hent76p rfl (by decide) (by decide) (by decide) (fun k hk => ⟨rfl, rfl⟩) (pick := []) ⟨by kernel_rfl, map_fst_snd (by kernel_rfl)⟩ ?_ ?_ ?_
  · rw [← hln, List.take_length] at hx; exact hx
  · intro k hk
    show BodyR Tryz.prog (rAs (rcode Tryz.prog 30 0)) 47 8 ⟨(15, _) :: (14, _) :: (I30 host brows).tm, (S30 host (fbOf host ((lnsOf brows).take k)) (spPortRows ((lnsOf brows).take k))).hp, (S30 host (fbOf host ((lnsOf brows).take k)) (spPortRows ((lnsOf brows).take k))).nx⟩ .normal (B30 (lnOf brows k) host (fbOf host ((lnsOf brows).take k)) (spPortRows ((lnsOf brows).take k)))
    generalize spPortRows ((lnsOf brows).take k) = rows
    cases rows with
    | nil => exact body_ofR Pp_ok (r30az (lnOf brows k) ((spLines (brows.map rowByte)).getD k ([], [])).2 host (fbOf host ((lnsOf brows).take k))) trivial rfl
    | cons r rs => exact body_ofR Pp_ok (r30ao (lnOf brows k) ((spLines (brows.map rowByte)).getD k ([], [])).2 host (fbOf host ((lnsOf brows).take k)) (r :: rs)) trivial rfl
  · intro k hk
    have e1 : fbOf host ((lnsOf brows).take (k + 1)) = fbStep host (fbOf host ((lnsOf brows).take k)) (lnOf brows k) := by
      unfold fbOf; rw [take_ln hk, List.foldl_append]; rfl
    have e2 : spPortRows ((lnsOf brows).take (k + 1)) = addPort (spPortRows ((lnsOf brows).take k)) (lnOf brows k) := by
      unfold spPortRows; rw [take_ln hk, List.foldl_append]; rfl
    show BodyR Tryz.prog (rBo (rcode Tryz.prog 30 0)) 47 8 (B30 (lnOf brows k) host (fbOf host ((lnsOf brows).take k)) (spPortRows ((lnsOf brows).take k))) .normal (S30 host (fbOf host ((lnsOf brows).take (k + 1))) (spPortRows ((lnsOf brows).take (k + 1))))
    rw [e1, e2]
    have hg : (spLines (brows.map rowByte)).getD k ([], []) ∈ spLines (brows.map rowByte) := by
      rw [List.getD_eq_getElem?_getD, List.getElem?_eq_getElem hk]; exact List.getElem_mem hk
    have h1 : (lnOf brows k).length ≤ (brows.map rowByte).length := (hl2 _ hg).1
    have h2 := ports_len ((lnsOf brows).take k) []
    rw [List.length_map] at h1
    rw [List.length_take] at h2
    simp only [List.length_nil] at h2
    refine round30 (by omega) ?_
    show (((lnsOf brows).take k).foldl addPort []).length ≤ _
    omega
  · intro ρ w hs
    exact iter76 hs (b := 6) (c := 1) rfl rfl rfl (by omega)
def spPorts (host : Int) (s : List UInt8) : List (List AV) := bif ((spLines s).map Prod.fst).any (fun l => spConn l host) then spPortRows ((spLines s).map Prod.fst) else []
theorem ports_calls {start : List UInt8} {hrows brows : List (List AV)} {host : Int} {ρ : Nat → BI} {w : World} (hb : brows.length ≤ 1048576)
    (hE : HSim ρ (addBlks .e 0 [Blk.cells false [Kd.str, Kd.str] hrows, Blk.cells false [Kd.int IntKind.u8] brows]) ([Blk.cells false [Kd.str, Kd.str] hrows, Blk.cells false [Kd.int IntKind.u8] brows] : List Blk).length w) :
    Calls Tryz.prog 30 (concL ρ [.agg [.str start, .slq 0 hrows.length, .slq 1 brows.length], .int .u32 host]).toArray w (fun e w' => (∃ v, e = .returned v ∧ NewSl w.heap.size w' [.int .u16] (spPorts host (brows.map rowByte)) v) ∧ Ext w w') := by
  have hR := range30 (host := host) hb
  have hF := fb_any host (lnsOf brows)
  have hro : ∀ c k, (addBlks .e 0 [Blk.cells false [Kd.str, Kd.str] hrows, Blk.cells false [Kd.int IntKind.u8] brows]).get c = some k → k.isRw = false := by
    intro c k hk
    rw [addBlks_get] at hk
    split at hk
    · rename_i h
      match hc : c, hk with
      | 0, hk => simp at hk; subst hk; rfl
      | 1, hk => simp at hk; subst hk; rfl
      | c + 2, hk => simp at hk
    · cases c <;> cases hk
  generalize hfb : fbOf host (lnsOf brows) = fb at hR hF
  have none : ∀ (v : AV), v = .nilSl → spPorts host (brows.map rowByte) = [] → Calls Tryz.prog 30 (concL ρ [.agg [.str start, .slq 0 hrows.length, .slq 1 brows.length], .int .u32 host]).toArray w (fun e w' => e = .returned (conc ρ v) ∧ Ext w w') →
      Calls Tryz.prog 30 (concL ρ [.agg [.str start, .slq 0 hrows.length, .slq 1 brows.length], .int .u32 host]).toArray w (fun e w' => (∃ v, e = .returned v ∧ NewSl w.heap.size w' [.int .u16] (spPorts host (brows.map rowByte)) v) ∧ Ext w w') := by
    intro v hv hs hc
    subst hv
    refine hc.mono fun e w' hq => ?_
    obtain ⟨rfl, he⟩ := hq
    rw [hs]
    exact ⟨⟨_, rfl, NewSl.none (ρ' := ρ) (hE.gw.ext he) rfl⟩, he⟩
  have hSp : spPorts host (brows.map rowByte) = bif fb.toBool then spPortRows (lnsOf brows) else [] := by
    unfold spPorts
    rw [hF]; rfl
  cases hbv : fb.toBool with
  | false =>
    rw [hbv, cond_false] at hSp
    have qb : (!AV.toBool (List.getD [fb] (0) AV.undef)) = true := by show (!fb.toBool) = true; rw [hbv]; rfl
    generalize spPortRows (lnsOf brows) = rows at hR
    cases rows with
    | nil => exact none _ rfl hSp (calls_pureB Pp_ok (c30z_LT start hrows brows host fb) ⟨⟨⟨⟨⟨trivial, rfl⟩, rfl⟩, hR⟩, rfl⟩, qb⟩ hE rfl rfl rfl)
    | cons r rs => exact none _ rfl hSp (calls_pureB Pp_ok (c30o_LT start hrows brows host fb (r :: rs)) ⟨⟨⟨⟨⟨trivial, rfl⟩, rfl⟩, hR⟩, rfl⟩, qb⟩ hE rfl rfl rfl)
  | true =>
    rw [hbv, cond_true] at hSp
    have qb : (!AV.toBool (List.getD [fb] (0) AV.undef)) = false := by show (!fb.toBool) = false; rw [hbv]; rfl
    generalize hrw : spPortRows (lnsOf brows) = rows at hR hSp
    cases rows with
    | nil => exact none _ rfl hSp (calls_pureB Pp_ok (c30z_LF start hrows brows host fb) ⟨⟨⟨⟨⟨⟨trivial, rfl⟩, rfl⟩, hR⟩, rfl⟩, qb⟩, rfl⟩ hE rfl rfl rfl)
    | cons r rs =>
      refine (calls_ofB Pp_ok (c30o_LF start hrows brows host fb (r :: rs)) ⟨⟨⟨⟨⟨⟨trivial, rfl⟩, rfl⟩, hR⟩, rfl⟩, qb⟩, rfl⟩ hE rfl).mono fun e w' hq => ?_
      obtain ⟨ρ', rfl, st⟩ := hq
      have st2 : HStep ρ (addBlks .e 0 [Blk.cells false [Kd.str, Kd.str] hrows, Blk.cells false [Kd.int IntKind.u8] brows]) ([Blk.cells false [Kd.str, Kd.str] hrows, Blk.cells false [Kd.int IntKind.u8] brows] : List Blk).length w ρ' (Tr.ofList [(2, Blk.cells true [Kd.int IntKind.u16] (r :: rs))]) 3 w' := st
      rw [hSp]
      exact ⟨⟨conc ρ' (.sl ⟨2, 0, 0⟩ (r :: rs).length .open_), rfl, NewSl.of_rw st2 (by rw [ofList_cons, if_pos rfl]) hro rfl rfl⟩, st2.below hro⟩
def q30 : Entry := fun args hp nx => match args with
  | [.agg [.str start, hv, bv], .int .u32 host] => match slIn hp [.str, .str] hv, slIn hp [.int .u8] bv with
    | some (c1, hrows), some (c2, brows) => some (c1 && (c2 && decide (brows.length ≤ 1048576)), .slq nx (spPorts host (brows.map rowByte)).length, [.cells false [.int .u16] (spPorts host (brows.map rowByte))])
    | _, _ => none
  | _ => none
theorem q30_ok : EntryOK Tryz.prog 30 q30 := by
  intro args hp nx c v bs h hc ρ w hs hi
  unfold q30 at h
  split at h
  · rename_i start hv bv host
    split at h
    · rename_i c1 hrows c2 brows hs1 hs2
      cases h
      simp only [Bool.and_eq_true] at hc
      obtain ⟨hc1, hc2, hc3⟩ := hc
      obtain ⟨b1, hb1⟩ := (slIn_spec hs hs1 hc1 rfl).bi hs.gw rfl
      obtain ⟨b2, hb2⟩ := (slIn_spec hs hs2 hc2 rfl).bi hs.gw rfl
      obtain ⟨ρ0, hρ0⟩ : ∃ ρ0 : Nat → BI, (fun i => if i = 0 then b1 else b2) = ρ0 := ⟨_, rfl⟩
      have h0 : ρ0 0 = b1 := by rw [← hρ0]; rfl
      have h1 : ρ0 1 = b2 := by rw [← hρ0]; rfl
      have hE : HSim ρ0 (addBlks .e 0 [Blk.cells false [Kd.str, Kd.str] hrows, Blk.cells false [Kd.int IntKind.u8] brows]) ([Blk.cells false [Kd.str, Kd.str] hrows, Blk.cells false [Kd.int IntKind.u8] brows] : List Blk).length w := HSim.ins hs.gw (fun i blk hi => by
        match i with
        | 0 => simp at hi; subst hi; exact ⟨(hb1 ρ0 0 h0).2, rfl, rfl⟩
        | 1 => simp at hi; subst hi; exact ⟨(hb2 ρ0 1 h1).2, rfl, rfl⟩
        | i + 2 => simp at hi)
      have hcall := ports_calls (start := start) (host := host) (of_decide_eq_true hc3) hE
      have ea : concL ρ0 [AV.agg [.str start, .slq 0 hrows.length, .slq 1 brows.length], .int .u32 host] = concL ρ [AV.agg [.str start, hv, bv], .int .u32 host] := by
        show [Value.agg (concL ρ0 [AV.str start, .slq 0 hrows.length, .slq 1 brows.length]).toArray, _] = _
        simp only [concL]
        rw [(hb1 ρ0 0 h0).1, (hb2 ρ0 1 h1).1]
        rfl
      rw [ea] at hcall
      refine hcall.mono fun e w' hq => ?_
      obtain ⟨⟨v1, rfl, ⟨b3, n3, g3⟩⟩, he⟩ := hq
      have e1 : extB ρ nx [b3] nx = b3 := by have := extB_new ρ nx [b3] 0; simpa using this
      have st := HStep.bis (bs := [Blk.cells false [.int .u16] (spPorts host (brows.map rowByte))]) [b3] hs he (fun i blk hi => by
        obtain ⟨rfl, rfl⟩ := bs1 hi
        exact ⟨rfl, n3, rfl, fun ρ' b hb => (g3 ρ' b hb).2⟩)
      refine ⟨_, ?_, ?_, st⟩
      · have k1 := (g3 _ _ e1).1
        simp only [conc] at k1 ⊢
        rw [k1]
      · simp [AV.idsB, blt_iff]
    · cases h
  · cases h
end Go.Proofs.YtpdgmgkkbbndfaaGreatDoor

set_option maxRecDepth 100000
namespace Go.Proofs.YtpdgmgkkbbndfaaGreatDoor
open Go Go.Proofs Go.Proofs.YtpdgmgkkbbndfaaGreatDoor.SX
theorem digB_eq (c : UInt8) : isDigB c = isDig c := by
  unfold isDigB isDig
  rw [Bool.eq_iff_iff]
  simp only [Bool.and_eq_true, decide_eq_true_eq]
  omega
def numL (most : Nat) : List UInt8 → Nat → Nat × Nat
  | [], n => (0, n)
  | c :: t, n => bif isDig c && decide (n ≤ most) then ((numL most t (n * 10 + (c.toNat - 48))).1 + 1, (numL most t (n * 10 + (c.toNat - 48))).2) else (0, n)
theorem go_L (l : List UInt8) (most : Nat) : ∀ f i n, i + f = l.length → numGo l most f i n = (i + (numL most (l.drop i) n).1, (numL most (l.drop i) n).2)
  | 0, i, n, h => by
    rw [List.drop_eq_nil_of_le (by omega)]; rfl
  | f + 1, i, n, h => by
    have hi : i < l.length := by omega
    rw [List.drop_eq_getElem_cons hi, numGo, numL, getD_lt hi, digB_eq]
    cases isDig l[i] && decide (n ≤ most) with
    | false => rfl
    | true =>
      rw [cond_true, cond_true, go_L l most f (i + 1) _ (by omega)]
      simp only [Nat.add_assoc, Nat.add_comm 1]
def val : Nat → List UInt8 → Nat
  | n, [] => n
  | n, c :: t => val (n * 10 + (c.toNat - 48)) t
theorem val_ge : ∀ (D : List UInt8) (n : Nat), n ≤ val n D
  | [], n => Nat.le_refl _
  | c :: t, n => by have := val_ge t (n * 10 + (c.toNat - 48)); unfold val; omega
theorem val_snoc : ∀ (D : List UInt8) (n : Nat) (c : UInt8), val n (D ++ [c]) = val n D * 10 + (c.toNat - 48)
  | [], n, c => rfl
  | d :: t, n, c => by show val _ (t ++ [c]) = _; exact val_snoc t _ c
theorem numL_all (most : Nat) : ∀ (D : List UInt8) (n : Nat) {y : List UInt8}, D.all isDig = true → val n D ≤ most → y.takeWhile isDig = [] → numL most (D ++ y) n = (D.length, val n D)
  | [], n, y, _, h, hy => by
    cases y with
    | nil => rfl
    | cons c t =>
      have : isDig c = false := by
        cases hc : isDig c with
        | false => rfl
        | true => rw [List.takeWhile_cons, if_pos hc] at hy; cases hy
      simp only [List.nil_append, numL, this, Bool.false_and, cond_false]; rfl
  | c :: t, n, y, hD, h, hy => by
    rw [List.all_cons, Bool.and_eq_true] at hD
    have hg := val_ge t (n * 10 + (c.toNat - 48))
    have h' : val (n * 10 + (c.toNat - 48)) t ≤ most := h
    have ih := numL_all most t (n * 10 + (c.toNat - 48)) hD.2 h' hy
    have : decide (n ≤ most) = true := decide_eq_true (by omega)
    simp only [List.cons_append, numL, hD.1, this, Bool.and_true, cond_true, ih]; rfl
theorem numL_inv (most : Nat) : ∀ (r : List UInt8) (n : Nat), (numL most r n).2 ≤ most → numL most r n = ((r.takeWhile isDig).length, val n (r.takeWhile isDig))
  | [], n, _ => rfl
  | c :: t, n, h => by
    rw [numL] at h ⊢
    rw [List.takeWhile_cons]
    cases hc : isDig c with
    | false => rw [hc] at h; rfl
    | true =>
      rw [hc, Bool.true_and] at h
      by_cases hn : n ≤ most
      · rw [decide_eq_true hn, cond_true] at h
        rw [decide_eq_true hn, Bool.true_and, cond_true, if_pos rfl, numL_inv most t _ h]; rfl
      · rw [decide_eq_false hn, cond_false] at h
        exact absurd h hn
theorem dec_val : ∀ (D : List UInt8), D ≠ [] → D.all isDig = true → (D.headD 0 = 48 → D.length = 1) → Lib.decDigits (val 0 D) = D := by
  intro D
  induction h : D.length using Nat.strongRecOn generalizing D with
  | ind k ih =>
    intro hne hd h0
    obtain ⟨t, c, rfl⟩ : ∃ t c, D = t ++ [c] := ⟨D.dropLast, D.getLast hne, (List.dropLast_concat_getLast hne).symm⟩
    rw [List.all_append, List.all_cons, List.all_nil, Bool.and_true, Bool.and_eq_true] at hd
    obtain ⟨hd1, hd2⟩ := hd
    have hc := of_decide_eq_true hd2
    have hcc : UInt8.ofNat (48 + (c.toNat - 48)) = c := by
      apply UInt8.toNat_inj.1
      rw [UInt8.toNat_ofNat']; omega
    rw [val_snoc]
    cases t with
    | nil =>
      rw [Lib.decDigits, dif_pos (by show 0 * 10 + _ < 10; omega)]
      show [UInt8.ofNat (48 + (0 * 10 + (c.toNat - 48)))] = _
      rw [Nat.zero_mul, Nat.zero_add, hcc]; rfl
    | cons d t =>
      have hd0 : d ≠ 48 := by
        intro e
        have := h0 (by rw [e]; rfl)
        have h1 : (d :: t ++ [c]).length = 1 := h.trans this
        simp only [List.length_append, List.length_cons, List.length_nil] at h1
        omega
      rw [List.all_cons, Bool.and_eq_true] at hd1
      have hdd := of_decide_eq_true hd1.1
      have hd48 : d.toNat ≠ 48 := fun e => hd0 (UInt8.toNat_inj.1 e)
      have hv : 1 ≤ val 0 (d :: t) := by
        have := val_ge t (0 * 10 + (d.toNat - 48))
        show 1 ≤ val (0 * 10 + (d.toNat - 48)) t
        omega
      have ih' := ih (d :: t).length (by rw [← h]; simp) (d :: t) rfl (by simp) (by rw [List.all_cons, hd1.1, hd1.2]; rfl) (fun e => absurd e hd0)
      rw [Lib.decDigits, dif_neg (by omega)]
      have e1 : (val 0 (d :: t) * 10 + (c.toNat - 48)) / 10 = val 0 (d :: t) := by omega
      have e2 : (val 0 (d :: t) * 10 + (c.toNat - 48)) % 10 = c.toNat - 48 := by omega
      rw [e1, e2, ih', hcc]
theorem tw_all {p : UInt8 → Bool} : ∀ {a : List UInt8} {y : List UInt8}, a.all p = true → y.takeWhile p = [] → (a ++ y).takeWhile p = a
  | [], y, _, h => h
  | c :: t, y, ha, h => by
    rw [List.all_cons, Bool.and_eq_true] at ha
    rw [List.cons_append, List.takeWhile_cons, if_pos ha.1, tw_all ha.2 h]
theorem tw_prop {p : UInt8 → Bool} (r : List UInt8) : (r.takeWhile p).all p = true := List.all_takeWhile
theorem val_dec (n : Nat) (h : n < 1000000000000000000) : val 0 (Lib.decDigits n) = n := by
  induction n using Nat.strongRecOn with
  | ind n ih =>
    have e : ∀ d, d < 10 → (UInt8.ofNat (48 + d)).toNat - 48 = d := fun d hd => by rw [UInt8.toNat_ofNat']; omega
    rw [Lib.decDigits]
    by_cases h0 : n < 10
    · rw [dif_pos h0]
      show 0 * 10 + ((UInt8.ofNat (48 + n)).toNat - 48) = n
      rw [e n h0]; omega
    · rw [dif_neg h0, val_snoc, ih (n / 10) (by omega) (by omega), e (n % 10) (by omega)]; omega
theorem dec_head (n : Nat) : (Lib.decDigits n).headD 0 = 48 → (Lib.decDigits n).length = 1 := by
  induction n using Nat.strongRecOn with
  | ind n ih =>
    rw [Lib.decDigits]
    by_cases h0 : n < 10
    · rw [dif_pos h0]; intro _; rfl
    · rw [dif_neg h0]
      intro h
      exfalso
      have hne := (dec_dig (n / 10)).2
      have hh : (Lib.decDigits (n / 10)).headD 0 = 48 := by
        cases hl : Lib.decDigits (n / 10) with
        | nil => exact absurd hl hne
        | cons c t => rw [hl] at h; exact h
      have h1 := ih (n / 10) (by omega) hh
      have h10 : n / 10 < 10 := by
        by_cases h2 : n / 10 < 10
        · exact h2
        · rw [Lib.decDigits, dif_neg h2, List.length_append] at h1
          have := List.length_pos_iff.2 (dec_dig (n / 10 / 10)).2
          simp only [List.length_cons, List.length_nil] at h1
          omega
      rw [Lib.decDigits, dif_pos h10] at hh
      have := congrArg UInt8.toNat hh
      simp only [List.headD_cons, UInt8.toNat_ofNat'] at this
      have h48 : (48 : UInt8).toNat = 48 := rfl
      omega
theorem num_some {l : List UInt8} {p most n : Nat} {r : List UInt8} (hm : most < 1000000000000000000) (hp : p ≤ l.length) (hr : l.drop p = Lib.decDigits n ++ r) (hn : n ≤ most) (hy : r.takeWhile isDig = []) :
    spNumK l p most = true ∧ spNumN l p most = n ∧ spNumE l p most = p + (Lib.decDigits n).length := by
  obtain ⟨hd, hne⟩ := dec_dig n
  have hv := val_dec n (by omega)
  have hL := numL_all most (Lib.decDigits n) 0 hd (by omega) hy
  have hg := go_L l most (l.length - p) p 0 (by omega)
  rw [hr, hL, hv] at hg
  have hlen : (Lib.decDigits n).length + r.length = l.length - p := by
    have := congrArg List.length hr
    rw [List.length_drop, List.length_append] at this; omega
  have hpos := List.length_pos_iff.2 hne
  have hbad : numBad l p most (p + (Lib.decDigits n).length) n = false := by
    unfold numBad
    have a1 : decide (p + (Lib.decDigits n).length = p) = false := decide_eq_false (by omega)
    have a2 : decide (n > most) = false := decide_eq_false (by omega)
    have a3 : ((l.getD p 0 == 48) && decide (p + (Lib.decDigits n).length > p + 1)) = false := by
      cases hh : l.getD p 0 == 48 with
      | false => rfl
      | true =>
        have h1 : l.getD p 0 = 48 := by simpa using hh
        have h2 : (Lib.decDigits n).headD 0 = 48 := by
          rw [← h1]
          have h3 : l.getD p 0 = (l.drop p).headD 0 := by
            rw [List.headD_eq_head?_getD, List.head?_drop, List.getD_eq_getElem?_getD]
          rw [h3, hr]
          cases hl : Lib.decDigits n with
          | nil => exact absurd hl hne
          | cons c t => rfl
        have := dec_head n h2
        exact decide_eq_false (by omega)
    have a4 : (decide (p + (Lib.decDigits n).length < l.length) && isDigB (l.getD (p + (Lib.decDigits n).length) 0)) = false := by
      by_cases h : p + (Lib.decDigits n).length < l.length
      · have h3 : l.getD (p + (Lib.decDigits n).length) 0 = r.headD 0 := by
          have : r = l.drop (p + (Lib.decDigits n).length) := by
            rw [← List.drop_drop, hr, List.drop_left]
          rw [this, List.headD_eq_head?_getD, List.head?_drop, List.getD_eq_getElem?_getD]
        rw [h3, digB_eq]
        cases r with
        | nil => simp only [List.length_nil] at hlen; omega
        | cons c t =>
          cases hc : isDig c with
          | false => simp [hc]
          | true => rw [List.takeWhile_cons, if_pos hc] at hy; cases hy
      · rw [decide_eq_false h]; rfl
    rw [a1, a2, a3, a4]; rfl
  unfold spNumK spNumN spNumE spNumber
  simp only [hg, hbad, cond_false]
  exact ⟨trivial, trivial, trivial⟩
theorem num_inv {l : List UInt8} {p most : Nat} (hm : most < 1000000000000000000) (hp : p ≤ l.length) (h : spNumK l p most = true) :
    ∃ n r, l.drop p = Lib.decDigits n ++ r ∧ n ≤ most ∧ r.takeWhile isDig = [] ∧ spNumN l p most = n ∧ spNumE l p most = p + (Lib.decDigits n).length := by
  have hg := go_L l most (l.length - p) p 0 (by omega)
  unfold spNumK spNumber at h
  simp only at h
  obtain ⟨D, hD⟩ : ∃ D, D = (l.drop p).takeWhile isDig := ⟨_, rfl⟩
  have hb : numBad l p most (numGo l most (l.length - p) p 0).1 (numGo l most (l.length - p) p 0).2 = false := by
    cases hb : numBad l p most (numGo l most (l.length - p) p 0).1 (numGo l most (l.length - p) p 0).2 with
    | false => rfl
    | true => rw [hb] at h; cases h
  have hb' := hb
  unfold numBad at hb
  rw [Bool.or_eq_false_iff, Bool.or_eq_false_iff, Bool.or_eq_false_iff] at hb
  obtain ⟨⟨⟨b1, b2⟩, b3⟩, b4⟩ := hb
  have b1 := of_decide_eq_false b1
  have b2 := of_decide_eq_false b2
  rw [hg] at b1 b2 b3
  simp only at b1 b2 b3
  have hi := numL_inv most (l.drop p) 0 (by omega)
  rw [← hD] at hi
  rw [hi] at b1 b2 b3 hg
  simp only at b1 b2 b3
  have hne : D ≠ [] := by intro e; rw [e] at b1; simp at b1
  have hall : D.all isDig = true := by rw [hD]; exact tw_prop _
  have hdrop : l.drop p = D ++ (l.drop p).dropWhile isDig := by rw [hD, List.takeWhile_append_dropWhile]
  have h0 : D.headD 0 = 48 → D.length = 1 := by
    intro e
    have h3 : l.getD p 0 = 48 := by
      have h4 : l.getD p 0 = (l.drop p).headD 0 := by
        rw [List.headD_eq_head?_getD, List.head?_drop, List.getD_eq_getElem?_getD]
      rw [h4, hdrop]
      cases hl : D with
      | nil => exact absurd hl hne
      | cons c t => rw [hl] at e; exact e
    rw [h3] at b3
    have := of_decide_eq_false (by simpa using b3 : decide (p + D.length > p + 1) = false)
    have := List.length_pos_iff.2 hne
    omega
  have hdec := dec_val D hne hall h0
  have hb2 : numBad l p most (p + D.length) (val 0 D) = false := by rw [hg] at hb'; exact hb'
  refine ⟨val 0 D, (l.drop p).dropWhile isDig, by rw [hdec]; exact hdrop, by omega, ?_, ?_, ?_⟩
  · cases hl : (l.drop p).dropWhile isDig with
    | nil => rfl
    | cons c t =>
      have : isDig c = false := by
        have := List.head_dropWhile_not isDig (l := l.drop p) (by rw [hl]; simp)
        simpa [hl] using this
      rw [List.takeWhile_cons, this]; rfl
  · unfold spNumN spNumber
    simp only [hg, hb2, cond_false]
  · unfold spNumE spNumber
    simp only [hg, hb2, cond_false]
    rw [hdec]
end Go.Proofs.YtpdgmgkkbbndfaaGreatDoor

set_option maxRecDepth 100000
namespace Go.Proofs.YtpdgmgkkbbndfaaGreatDoor
open Go Go.Proofs Go.Proofs.YtpdgmgkkbbndfaaGreatDoor.SX
def letB : List UInt8 := [97, 98, 99, 100, 101, 102, 103, 104, 105, 106, 107, 108, 109, 110, 111, 112, 113, 114, 115, 116, 117, 118, 119, 120, 121, 122, 65, 66, 67, 68, 69, 70, 71, 72, 73, 74, 75, 76, 77, 78, 79, 80, 81, 82, 83, 84, 85, 86, 87, 88, 89, 90]
theorem let_tab : ((List.range 256).all fun n => isLet (UInt8.ofNat n) == letB.contains (UInt8.ofNat n)) = true := by decide +kernel
theorem isLet_mem (c : UInt8) : isLet c = letB.contains c := by
  have h := List.all_eq_true.1 let_tab c.toNat (List.mem_range.2 c.toNat_lt)
  have e : UInt8.ofNat c.toNat = c := by apply UInt8.toNat_inj.1; rw [UInt8.toNat_ofNat']; have := c.toNat_lt; omega
  rw [e] at h
  simpa using h
theorem trim_nil {s cs : List UInt8} : spTrim s cs = [] ↔ s.all (fun x => cs.contains x) = true := by
  unfold spTrim Lib.trimS Lib.trimLeftS Lib.trimRightS
  constructor
  · intro h
    cases hd : s.reverse.dropWhile (fun x => cs.contains x) with
    | nil =>
      have h1 : s.reverse.all (fun x => cs.contains x) = true := by
        have h2 := List.takeWhile_append_dropWhile (p := fun x => cs.contains x) (l := s.reverse)
        rw [hd, List.append_nil] at h2
        rw [← h2]; exact List.all_takeWhile
      rw [List.all_reverse] at h1
      exact h1
    | cons c t =>
      exfalso
      have hn : (cs.contains c) = false := by
        have := List.head?_dropWhile_not (fun x => cs.contains x) s.reverse
        rw [hd] at this
        exact this
      rw [hd] at h
      have h2 := List.takeWhile_append_dropWhile (p := fun x => cs.contains x) (l := (c :: t).reverse)
      rw [h, List.append_nil] at h2
      have h3 : ((c :: t).reverse).all (fun x => cs.contains x) = true := by rw [← h2]; exact List.all_takeWhile
      rw [List.all_reverse, List.all_cons, hn] at h3
      cases h3
  · intro h
    have h1 : s.reverse.dropWhile (fun x => cs.contains x) = [] := by
      have h2 : ∀ (l : List UInt8), l.all (fun x => cs.contains x) = true → l.dropWhile (fun x => cs.contains x) = [] := by
        intro l
        induction l with
        | nil => intro _; rfl
        | cons c t ih =>
          intro h
          rw [List.all_cons, Bool.and_eq_true] at h
          rw [List.dropWhile_cons, if_pos h.1]; exact ih h.2
      exact h2 _ (by rw [List.all_reverse]; exact h)
    rw [h1]; rfl
theorem med_cls (s : List UInt8) : spMedK s = true ↔ (spMedW s ≠ [] ∧ spHasPre s [109, 61] = true ∧ spFound (spTrimPre s [109, 61]) [32] = true ∧ spFound (spAfter (spTrimPre s [109, 61]) [32]) [32] = true ∧ spTrim (spMedW s) letB = []) := by
  have e7 : c64k7 s = !(spTrim (spMedW s) letB == []) := rfl
  have e2 : c64k2 s = !(spMedW s == []) := rfl
  have e4 : c64k4 s = !spHasPre s [109, 61] := rfl
  have e5 : c64k5 s = !spFound (spTrimPre s [109, 61]) [32] := rfl
  have e6 : c64k6 s = !spFound (spAfter (spTrimPre s [109, 61]) [32]) [32] := rfl
  unfold spMedK c64_cls
  rw [e7, e2, e4, e5, e6]
  cases h1 : spMedW s == [] <;> cases h2 : spHasPre s [109, 61] <;> cases h3 : spFound (spTrimPre s [109, 61]) [32] <;> cases h4 : spFound (spAfter (spTrimPre s [109, 61]) [32]) [32] <;> cases h5 : spTrim (spMedW s) letB == [] <;> simp_all
theorem pre_m (rest : List UInt8) : spTrimPre (109 :: 61 :: rest) [109, 61] = rest ∧ spHasPre (109 :: 61 :: rest) [109, 61] = true := by
  unfold spTrimPre spHasPre Lib.trimPrefix Lib.hasPrefix
  exact ⟨by simp, by simp⟩
theorem has_m {s : List UInt8} (h : spHasPre s [109, 61] = true) : ∃ rest, s = 109 :: 61 :: rest := by
  unfold spHasPre Lib.hasPrefix at h
  have h : ([109, 61] : List UInt8).isPrefixOf s = true := by simpa using h
  obtain ⟨r, hr⟩ := List.isPrefixOf_iff_prefix.1 h
  exact ⟨r, hr.symm⟩
theorem let32 {w : List UInt8} (h : w.all isLet = true) : ∀ c ∈ w, c ≠ 32 := by
  intro c hc e
  have := List.all_eq_true.1 h c hc
  rw [e] at this
  exact absurd this (by decide)
theorem dig32 {w : List UInt8} (h : w.all isDig = true) : ∀ c ∈ w, c ≠ 32 := by
  intro c hc e
  have := List.all_eq_true.1 h c hc
  rw [e] at this
  exact absurd this (by decide)
structure MedLine (l w : List UInt8) (n : Nat) (r : List UInt8) : Prop where
  eq : l = 109 :: 61 :: (w ++ 32 :: (Lib.decDigits n ++ 32 :: r))
  ne : w ≠ []
  lets : w.all isLet = true
  n1 : 1 ≤ n
  n2 : n ≤ 65535
theorem line_prog {l w r : List UInt8} {n : Nat} (h : MedLine l w n r) : spMedN l = (n : Int) ∧ spMedA l = 109 :: 61 :: w ++ [32] ∧ spMedB l = 32 :: r := by
  obtain ⟨p1, p2⟩ := pre_m (w ++ 32 :: (Lib.decDigits n ++ 32 :: r))
  obtain ⟨a1, a2, a3⟩ := cut_char (r := Lib.decDigits n ++ 32 :: r) (let32 h.lets)
  obtain ⟨b1, b2, b3⟩ := cut_char (r := r) (dig32 (dec_dig n).1)
  have hW : spMedW l = w := by unfold spMedW; rw [h.eq, p1, a1]
  have hD : spMedD l = Lib.decDigits n := by unfold spMedD; rw [h.eq, p1, a2, b1]
  have hR : spMedR l = r := by unfold spMedR; rw [h.eq, p1, a2, b2]
  have hK : spMedK l = true := by
    rw [med_cls, hW, h.eq, p1, p2, a2, a3, b3]
    refine ⟨h.ne, rfl, rfl, rfl, trim_nil.2 ?_⟩
    rw [List.all_eq_true]
    intro x hx
    rw [← isLet_mem]; exact List.all_eq_true.1 h.lets x hx
  unfold spMedN spMedA spMedB
  rw [hK, cond_true, cond_true, cond_true, hW, hD, hR]
  refine ⟨?_, rfl, rfl⟩
  have := numeral_itoa n h.n1 h.n2
  rw [itoa_nat] at this
  exact this
theorem line_of_prog {l : List UInt8} (h : spMedN l ≠ 0) : ∃ w n r, MedLine l w n r := by
  unfold spMedN at h
  cases hK : spMedK l with
  | false => rw [hK, cond_false] at h; exact absurd rfl h
  | true =>
    rw [hK, cond_true] at h
    obtain ⟨h1, h2, h3, h4, h5⟩ := (med_cls l).1 hK
    obtain ⟨rest, hr⟩ := has_m h2
    have hp : spTrimPre l [109, 61] = rest := by rw [hr]; exact (pre_m rest).1
    obtain ⟨i1, i2, i3⟩ := numeral_inv h
    rw [hp] at h3 h4
    have c1 := cut_back h3
    have c2 := cut_back h4
    have hW : spMedW l = spBefore rest [32] := by unfold spMedW; rw [hp]
    have hD : spMedD l = spBefore (spAfter rest [32]) [32] := by unfold spMedD; rw [hp]
    obtain ⟨m, hm⟩ : ∃ m : Nat, spNumeral (spMedD l) = (m : Int) := ⟨(spNumeral (spMedD l)).toNat, by omega⟩
    rw [hm] at i1 i2 i3
    rw [itoa_nat] at i1
    refine ⟨spMedW l, m, spAfter (spAfter rest [32]) [32], ⟨?_, h1, ?_, by omega, by omega⟩⟩
    · rw [hW, ← i1, hD]
      conv => lhs; rw [hr]
      congr 2
      conv => lhs; rw [c1, c2]
      rfl
    · rw [List.all_eq_true]
      intro x hx
      rw [isLet_mem]; exact List.all_eq_true.1 (trim_nil.1 h5) x hx
theorem tw_let {w y : List UInt8} (h : w.all isLet = true) (hy : y.takeWhile isLet = []) : (w ++ y).takeWhile isLet = w := tw_all h hy
theorem line_ref {l w r : List UInt8} {n : Nat} (h : MedLine l w n r) : spRMedK l = true ∧ spRMedN l = n ∧ spRMedF l = 3 + w.length ∧ spRMedE l = 3 + w.length + (Lib.decDigits n).length := by
  have hL : spLet l = 2 + w.length := by
    unfold spLet
    rw [h.eq]
    show 2 + ((w ++ 32 :: (Lib.decDigits n ++ 32 :: r)).takeWhile isLet).length = _
    rw [tw_let h.lets (by rw [List.takeWhile_cons, if_neg (by decide)])]
  have hlen : l.length = 2 + (w.length + (1 + ((Lib.decDigits n).length + (1 + r.length)))) := by
    rw [h.eq]; simp only [List.length_cons, List.length_append]; omega
  have hpos := List.length_pos_iff.2 h.ne
  have hdrop : l.drop (2 + w.length + 1) = Lib.decDigits n ++ 32 :: r := by
    have e : l = (109 :: 61 :: w ++ [32]) ++ (Lib.decDigits n ++ 32 :: r) := by rw [h.eq]; simp
    conv => lhs; rw [e]
    exact List.drop_left' (by simp only [List.length_append, List.length_cons, List.length_nil]; omega)
  obtain ⟨k1, k2, k3⟩ := num_some (most := 65535) (by decide) (by omega) hdrop h.n2 (by rw [List.takeWhile_cons, if_neg (by decide)])
  have g1 : l.getD (2 + w.length) 0 = 32 := by
    have e : l = (109 :: 61 :: w) ++ 32 :: (Lib.decDigits n ++ 32 :: r) := by rw [h.eq]; simp
    rw [List.getD_eq_getElem?_getD, e, List.getElem?_append_right (by simp only [List.length_cons]; omega)]
    have : 2 + w.length - (109 :: 61 :: w).length = 0 := by simp only [List.length_cons]; omega
    rw [this]; rfl
  have g2 : l.getD (2 + w.length + 1 + (Lib.decDigits n).length) 0 = 32 := by
    have e : l = ((109 :: 61 :: w ++ [32]) ++ Lib.decDigits n) ++ 32 :: r := by rw [h.eq]; simp
    have el : ((109 :: 61 :: w ++ [32]) ++ Lib.decDigits n).length = 2 + w.length + 1 + (Lib.decDigits n).length := by simp only [List.length_append, List.length_cons, List.length_nil]; omega
    rw [List.getD_eq_getElem?_getD, e, List.getElem?_append_right (by rw [el]; exact Nat.le_refl _), el, Nat.sub_self]; rfl
  have t2 : l.take 2 = [109, 61] := by rw [h.eq]; rfl
  have hK : spRMedK l = true := by
    unfold spRMedK medOk1 medOk2 medOk3
    rw [hL, k1, k2, k3, t2, g1, g2]
    have z1 : decide (2 ≤ l.length) = true := decide_eq_true (by omega)
    have z2 : decide (2 + w.length < l.length) = true := decide_eq_true (by omega)
    have z3 : decide (2 + w.length + 1 + (Lib.decDigits n).length < l.length) = true := decide_eq_true (by omega)
    have z4 : (2 + w.length == 2) = false := by rw [beq_eq_false_iff_ne]; omega
    have z5 : (n == 0) = false := by rw [beq_eq_false_iff_ne]; have := h.n1; omega
    rw [z1, z2, z3, z4, z5]; rfl
  unfold spRMedN spRMedF spRMedE
  rw [hK, cond_true, cond_true, cond_true, hL, k2, k3]
  exact ⟨rfl, rfl, by omega, by omega⟩
theorem line_of_ref {l : List UInt8} (h : spRMedK l = true) : ∃ w n r, MedLine l w n r := by
  unfold spRMedK medOk1 medOk2 medOk3 at h
  simp only [Bool.and_eq_true, Bool.not_eq_true', beq_eq_false_iff_ne, decide_eq_true_eq, beq_iff_eq] at h
  obtain ⟨⟨h1, h2⟩, ⟨h3, h4, h5⟩, h6, h7, h8, h9⟩ := h
  obtain ⟨rest, hr⟩ : ∃ rest, l = 109 :: 61 :: rest := ⟨l.drop 2, (by
    have e := List.take_append_drop 2 l
    rw [h2] at e
    exact e.symm)⟩
  obtain ⟨w, hw⟩ : ∃ w, w = rest.takeWhile isLet := ⟨_, rfl⟩
  have hL : spLet l = 2 + w.length := by unfold spLet; rw [hr, hw]; rfl
  rw [hL] at h3 h4 h5 h6 h7 h8 h9
  have hall : w.all isLet = true := by rw [hw]; exact List.all_takeWhile
  have hrest : rest = w ++ rest.dropWhile isLet := by rw [hw, List.takeWhile_append_dropWhile]
  obtain ⟨r1, hr1⟩ : ∃ r1, rest.dropWhile isLet = 32 :: r1 := by
    cases hd : rest.dropWhile isLet with
    | nil =>
      rw [hd, List.append_nil] at hrest
      rw [hr] at h4; simp only [List.length_cons] at h4; rw [hrest] at h4; omega
    | cons c t =>
      refine ⟨t, ?_⟩
      have e : l = (109 :: 61 :: w) ++ c :: t := by
        rw [hd] at hrest
        rw [hr]; conv => lhs; rw [hrest]
        rfl
      rw [List.getD_eq_getElem?_getD, e, List.getElem?_append_right (by simp only [List.length_cons]; omega)] at h5
      have h0 : 2 + w.length - (109 :: 61 :: w).length = 0 := by simp only [List.length_cons]; omega
      rw [h0] at h5
      have : c = 32 := by simpa using h5
      rw [this]
  rw [hr1] at hrest
  have hdrop : l.drop (2 + w.length + 1) = r1 := by
    have e : l = (109 :: 61 :: w ++ [32]) ++ r1 := by
      rw [hr]; conv => lhs; rw [hrest]
      simp
    conv => lhs; rw [e]
    exact List.drop_left' (by simp only [List.length_append, List.length_cons, List.length_nil]; omega)
  obtain ⟨n, r, g1, g2, g3, g4, g5⟩ := num_inv (most := 65535) (by decide) (by omega) h6
  rw [hdrop] at g1
  rw [g4] at h7
  rw [g5] at h8 h9
  obtain ⟨r2, hr2⟩ : ∃ r2, r = 32 :: r2 := by
    have e : l = ((109 :: 61 :: w ++ [32]) ++ Lib.decDigits n) ++ r := by
      rw [hr]; conv => lhs; rw [hrest, g1]
      simp
    have el : ((109 :: 61 :: w ++ [32]) ++ Lib.decDigits n).length = 2 + w.length + 1 + (Lib.decDigits n).length := by simp only [List.length_append, List.length_cons, List.length_nil]; omega
    cases hrr : r with
    | nil =>
      rw [hrr, List.append_nil] at e
      have := congrArg List.length e
      rw [el] at this; omega
    | cons c t =>
      refine ⟨t, ?_⟩
      rw [hrr] at e
      rw [List.getD_eq_getElem?_getD, e, List.getElem?_append_right (by rw [el]; exact Nat.le_refl _), el, Nat.sub_self] at h9
      have : c = 32 := by simpa using h9
      rw [this]
  exact ⟨w, n, r2, ⟨by rw [hr, hrest, g1, hr2], by intro e; rw [e] at h3; simp at h3, hall, by omega, g2⟩⟩
theorem med_same (l : List UInt8) : spMedN l = ((spRMedN l : Nat) : Int) ∧ (spRMedK l = true ↔ spMedN l ≠ 0) := by
  by_cases h : spRMedK l = true
  · obtain ⟨w, n, r, hm⟩ := line_of_ref h
    obtain ⟨a1, _, _⟩ := line_prog hm
    obtain ⟨_, b2, _, _⟩ := line_ref hm
    refine ⟨by rw [a1, b2], fun _ => ?_, fun _ => h⟩
    rw [a1]; have := hm.n1; omega
  · have h0 : spMedN l = 0 := by
      by_cases h0 : spMedN l = 0
      · exact h0
      · obtain ⟨w, n, r, hm⟩ := line_of_prog h0
        exact absurd (line_ref hm).1 h
    have hf : spRMedK l = false := by cases hk : spRMedK l with
      | false => rfl
      | true => exact absurd hk h
    refine ⟨?_, fun hk => absurd hk h, fun hn => absurd h0 hn⟩
    unfold spRMedN
    rw [h0, hf]; rfl
end Go.Proofs.YtpdgmgkkbbndfaaGreatDoor

