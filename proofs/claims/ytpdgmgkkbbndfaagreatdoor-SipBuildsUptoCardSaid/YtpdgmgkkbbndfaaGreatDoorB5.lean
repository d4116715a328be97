/- Part 6 of the proof: texts that the last one builds upon. Conditions: as each theorem says. -/
import Derived.Test.YtpdgmgkkbbndfaaGreatDoorB4
set_option maxRecDepth 100000
set_option maxHeartbeats 1600000
set_option linter.unusedVariables false
set_option linter.unusedSimpArgs false
namespace Go.Proofs.YtpdgmgkkbbndfaaGreatDoor
open Go Go.Proofs Go.Proofs.YtpdgmgkkbbndfaaGreatDoor.SX
theorem c13_F (start : List UInt8) (hrows : List (List AV)) (brows : List (List AV)) :
    Path (runCallB Tryz.prog P16 100 13 [AV.agg [AV.str start, AV.slq 0 (List.length hrows), AV.slq 1 (List.length brows)]] (st0 [Blk.cells false [Kd.str, Kd.str] hrows, Blk.cells false [Kd.int IntKind.u8] brows] ([.as_ false]))) 2 [] (SL.mk [] [] 2) (Out.ret (AV.agg [AV.str start, AV.slq 0 (List.length hrows), AV.slq 1 (List.length brows)]))
      ((((((((((True ∧ (true = true)) ∧ (decide ((↑(List.length hrows) : Int) > (100 : Int)) = false)) ∧ (true = true)) ∧ (true = true)) ∧ (true = true)) ∧ (true = true)) ∧ (true = true)) ∧ (true = true)) ∧ (true = true)) ∧ (true = true)) := by unfold Path; kernel_rfl
theorem c13s_T (start : List UInt8) (hrows : List (List AV)) (brows : List (List AV)) (c : Nat) :
    Path (runCallB Tryz.prog P16 100 13 [AV.agg [AV.str start, AV.sl (Loc.mk 0 0 0) (List.length hrows) (Cap.known c), AV.slq 1 (List.length brows)]] (st0 [Blk.cells false [Kd.str, Kd.str] hrows, Blk.cells false [Kd.int IntKind.u8] brows] ([.as_ true]))) 2 [] (SL.mk [] [] 2) (Out.ret (AV.agg [AV.str start, AV.sl (Loc.mk 0 (0) 0) 100 (Cap.known (Int.toNat (↑c : Int) - 0)), AV.slq 1 (List.length brows)]))
      ((((((((((((((True ∧ (true = true)) ∧ (decide ((↑(List.length hrows) : Int) > (100 : Int)) = true)) ∧ (true = true)) ∧ (decide ((0 : Int) ≤ (0 : Int) ∧ (0 : Int) ≤ (100 : Int) ∧ (100 : Int) ≤ (↑c : Int) ∧ (↑c : Int) ≤ (↑c : Int)) = true)) ∧ (true = true)) ∧ (true = true)) ∧ (true = true)) ∧ (true = true)) ∧ (true = true)) ∧ (true = true)) ∧ (true = true)) ∧ (true = true)) ∧ (true = true)) ∧ (true = true)) := by unfold Path; kernel_rfl
theorem c25_T (start : List UInt8) (hrows : List (List AV)) (brows : List (List AV)) :
    Path (runCallB Tryz.prog P16 100 25 [AV.agg [AV.str start, AV.slq 0 (List.length hrows), AV.slq 1 (List.length brows)]] (st0 [Blk.cells false [Kd.str, Kd.str] hrows, Blk.cells false [Kd.int IntKind.u8] brows] ([.as_ true]))) 2 [] (SL.mk [] [] 2) (Out.ret (AV.tup [AV.nilSl, AV.int IntKind.i64 (4 : Int)]))
      (((True ∧ (true = true)) ∧ ((decide (0 + List.length hrows ≤ List.length hrows) && (decide (0 + List.length brows ≤ List.length brows) && decide (List.length start ≤ 4294967200 ∧ List.all (sub hrows 0 (List.length hrows)) short = true ∧ List.length (sub brows 0 (List.length brows)) ≤ 140737488355328))) = true)) ∧ ((!spRefRight start (sub hrows 0 (List.length hrows)) (List.length (sub brows 0 (List.length brows)))) = true)) := by unfold Path; kernel_rfl
theorem c25_F (start : List UInt8) (hrows : List (List AV)) (brows : List (List AV)) :
    Path (runCallB Tryz.prog P16 100 25 [AV.agg [AV.str start, AV.slq 0 (List.length hrows), AV.slq 1 (List.length brows)]] (st0 [Blk.cells false [Kd.str, Kd.str] hrows, Blk.cells false [Kd.int IntKind.u8] brows] ([.as_ false]))) 2 [3] (SL.mk [] [(2, .cells false [Kd.int IntKind.u8] (spTextB start (sub hrows 0 (List.length hrows)) (sub brows 0 (List.length brows))))] 3) (Out.ret (ren (sig 2 [3]) (AV.tup [AV.slq 2 (List.length (spTextB start (sub hrows 0 (List.length hrows)) (sub brows 0 (List.length brows)))), AV.int IntKind.i64 (0 : Int)])))
      (((((True ∧ (true = true)) ∧ ((decide (0 + List.length hrows ≤ List.length hrows) && (decide (0 + List.length brows ≤ List.length brows) && decide (List.length start ≤ 4294967200 ∧ List.all (sub hrows 0 (List.length hrows)) short = true ∧ List.length (sub brows 0 (List.length brows)) ≤ 140737488355328))) = true)) ∧ ((!spRefRight start (sub hrows 0 (List.length hrows)) (List.length (sub brows 0 (List.length brows)))) = false)) ∧ (true = true)) ∧ ((decide (0 + List.length hrows ≤ List.length hrows) && (decide (0 + List.length brows ≤ List.length brows) && decide (List.length start ≤ 4294967200 ∧ List.length (sub hrows 0 (List.length hrows)) ≤ 1000 ∧ List.all (sub hrows 0 (List.length hrows)) short = true ∧ List.length (sub brows 0 (List.length brows)) ≤ 4398046511104))) = true)) := by unfold Path; kernel_rfl
theorem c27_TT (s1 : List UInt8) (s2 : List UInt8) (h1 : List (List AV)) (b1 : List (List AV)) (h2 : List (List AV)) (b2 : List (List AV)) :
    Path (runCallB Tryz.prog P16 100 27 [AV.agg [AV.str s1, AV.slq 0 (List.length h1), AV.slq 1 (List.length b1)], AV.agg [AV.str s2, AV.slq 2 (List.length h2), AV.slq 3 (List.length b2)]] (st0 [Blk.cells false [Kd.str, Kd.str] h1, Blk.cells false [Kd.int IntKind.u8] b1, Blk.cells false [Kd.str, Kd.str] h2, Blk.cells false [Kd.int IntKind.u8] b2] ([.as_ true, .as_ true]))) 4 [] (SL.mk [] [] 4) (Out.ret (AV.bool (List.map rowByte (sub b1 0 (List.length b1)) == List.map rowByte (sub b2 0 (List.length b2)))))
      ((((((((((True ∧ (true = true)) ∧ (true = true)) ∧ ((s1 == s2) = true)) ∧ (true = true)) ∧ (true = true)) ∧ ((decide (0 + List.length h1 ≤ List.length h1) && (decide (0 + List.length h2 ≤ List.length h2) && decide (List.length (sub h1 0 (List.length h1)) ≤ 4611686018427387904))) = true)) ∧ (spEqH (sub h1 0 (List.length h1)) (sub h2 0 (List.length h2)) = true)) ∧ (true = true)) ∧ (true = true)) ∧ ((decide (0 + List.length b1 ≤ List.length b1) && decide (0 + List.length b2 ≤ List.length b2)) = true)) := by unfold Path; kernel_rfl
theorem c27_TF (s1 : List UInt8) (s2 : List UInt8) (h1 : List (List AV)) (b1 : List (List AV)) (h2 : List (List AV)) (b2 : List (List AV)) :
    Path (runCallB Tryz.prog P16 100 27 [AV.agg [AV.str s1, AV.slq 0 (List.length h1), AV.slq 1 (List.length b1)], AV.agg [AV.str s2, AV.slq 2 (List.length h2), AV.slq 3 (List.length b2)]] (st0 [Blk.cells false [Kd.str, Kd.str] h1, Blk.cells false [Kd.int IntKind.u8] b1, Blk.cells false [Kd.str, Kd.str] h2, Blk.cells false [Kd.int IntKind.u8] b2] ([.as_ true, .as_ false]))) 4 [] (SL.mk [] [] 4) (Out.ret (AV.lit false))
      (((((((True ∧ (true = true)) ∧ (true = true)) ∧ ((s1 == s2) = true)) ∧ (true = true)) ∧ (true = true)) ∧ ((decide (0 + List.length h1 ≤ List.length h1) && (decide (0 + List.length h2 ≤ List.length h2) && decide (List.length (sub h1 0 (List.length h1)) ≤ 4611686018427387904))) = true)) ∧ (spEqH (sub h1 0 (List.length h1)) (sub h2 0 (List.length h2)) = false)) := by unfold Path; kernel_rfl
theorem c27_F (s1 : List UInt8) (s2 : List UInt8) (h1 : List (List AV)) (b1 : List (List AV)) (h2 : List (List AV)) (b2 : List (List AV)) :
    Path (runCallB Tryz.prog P16 100 27 [AV.agg [AV.str s1, AV.slq 0 (List.length h1), AV.slq 1 (List.length b1)], AV.agg [AV.str s2, AV.slq 2 (List.length h2), AV.slq 3 (List.length b2)]] (st0 [Blk.cells false [Kd.str, Kd.str] h1, Blk.cells false [Kd.int IntKind.u8] b1, Blk.cells false [Kd.str, Kd.str] h2, Blk.cells false [Kd.int IntKind.u8] b2] ([.as_ false]))) 4 [] (SL.mk [] [] 4) (Out.ret (AV.lit false))
      (((True ∧ (true = true)) ∧ (true = true)) ∧ ((s1 == s2) = false)) := by unfold Path; kernel_rfl
theorem few_ins {w : World} {r1 r2 : List (List AV)} {v1 v2 : Value} (gw : GW w) (h1 : Reads w [.str, .str] r1 v1) (hp : 0 < r1.length) (h2 : Reads w [.int .u8] r2 v2) :
    ∃ (ρ0 : Nat → BI) (c : Nat), HSim ρ0 (addBlks .e 0 [Blk.cells false [Kd.str, Kd.str] r1, Blk.cells false [Kd.int IntKind.u8] r2]) ([Blk.cells false [Kd.str, Kd.str] r1, Blk.cells false [Kd.int IntKind.u8] r2] : List Blk).length w ∧ conc ρ0 (.sl ⟨0, 0, 0⟩ r1.length (.known c)) = v1 ∧ conc ρ0 (.slq 1 r2.length) = v2 ∧ ∃ a, v1 = .slice a r1.length c := by
  cases h1 with
  | nil h => rw [h] at hp; exact absurd hp (by decide)
  | cells bi c h =>
    obtain ⟨b2, hb2⟩ := h2.bi gw rfl
    refine ⟨fun i => if i = 0 then bi else b2, c, HSim.ins gw (fun i blk hi => ?_), by simp [conc, addr, capOf], (hb2 _ 1 rfl).1, _, rfl⟩
    match i with
    | 0 => simp at hi; subst hi; exact ⟨Blk.sat_at (ρ := fun _ => bi) (b := 0) rfl rfl h, rfl, rfl⟩
    | 1 => simp at hi; subst hi; exact ⟨(hb2 _ 1 rfl).2, rfl, rfl⟩
    | i + 2 => simp at hi
def q13 : Entry := fun args hp nx => match args with
  | [.agg [.str start, .slq b n, bv]] => match slIn hp [.str, .str] (.slq b n), slIn hp [.int .u8] bv with
    | some (c1, hrows), some (c2, brows) => some (c1 && (c2 && decide (hrows.length ≤ 100)), .agg [.str start, .slq b n, bv], [])
    | _, _ => none
  | [.agg [.str start, .sl ⟨b, 0, 0⟩ n (.known c), bv]] => match slIn hp [.str, .str] (.sl ⟨b, 0, 0⟩ n (.known c)), slIn hp [.int .u8] bv with
    | some (c1, hrows), some (c2, brows) => some (c1 && (c2 && decide (100 < hrows.length ∧ 100 ≤ c)), .agg [.str start, .sl ⟨b, 0, 0⟩ 100 (.known c), bv], [])
    | _, _ => none
  | _ => none
theorem q13_ok : EntryOK Tryz.prog 13 q13 := by
  intro args hp nx c v bs h hc ρ w hs hi
  unfold q13 at h
  split at h
  · rename_i start b n bv
    split at h
    · rename_i c1 hrows c2 brows hs1 hs2
      cases h
      simp only [Bool.and_eq_true] at hc
      obtain ⟨hc1, hc2, hc3⟩ := hc
      have g1 := of_decide_eq_true hc3
      obtain ⟨ρ0, hE, e1, e2⟩ := two_ro hs hs1 hc1 hs2 hc2
      refine entry_pure hs (by simp only [idsBL, Bool.and_true] at hi; exact hi) ?_
      have hcall := calls_pureB P16_ok (c13_F start hrows brows) ⟨⟨⟨⟨⟨⟨⟨⟨⟨⟨trivial, rfl⟩, (decide_eq_false (by omega))⟩, rfl⟩, rfl⟩, rfl⟩, rfl⟩, rfl⟩, rfl⟩, rfl⟩, rfl⟩ hE rfl rfl rfl
      have ea : concL ρ0 [AV.agg [AV.str start, AV.slq 0 hrows.length, AV.slq 1 brows.length]] = concL ρ [AV.agg [.str start, .slq b n, bv]] := by
        show [Value.agg (concL ρ0 [AV.str start, .slq 0 hrows.length, .slq 1 brows.length]).toArray] = _
        simp only [concL]
        rw [e1, e2]
        rfl
      have eb : conc ρ0 (AV.agg [AV.str start, AV.slq 0 hrows.length, AV.slq 1 brows.length]) = conc ρ (AV.agg [.str start, .slq b n, bv]) := List.cons.inj ea |>.1
      rw [ea, eb] at hcall
      exact hcall
    · cases h
  · rename_i start b n k bv
    split at h
    · rename_i c1 hrows c2 brows hs1 hs2
      cases h
      simp only [Bool.and_eq_true] at hc
      obtain ⟨hc1, hc2, hc3⟩ := hc
      obtain ⟨g1, g2⟩ := of_decide_eq_true hc3
      obtain ⟨ρ0, k', hE, e1, e2, a, ha⟩ := few_ins hs.gw (slIn_spec hs hs1 hc1 rfl) (by omega) (slIn_spec hs hs2 hc2 rfl)
      have hk : k' = k := by
        simp only [conc, capOf] at ha
        injection ha with _ _ h3
        exact h3.symm
      subst hk
      have e3 : conc ρ0 (.sl ⟨0, 0, 0⟩ 100 (.known k')) = conc ρ (.sl ⟨b, 0, 0⟩ 100 (.known k')) := by
        simp only [conc, capOf] at e1 ⊢
        injection e1 with h1 _ _
        rw [h1]
      refine entry_pure hs (by simp only [idsBL, Bool.and_true] at hi; exact hi) ?_
      have hcall := calls_pureB P16_ok (c13s_T start hrows brows k') ⟨⟨⟨⟨⟨⟨⟨⟨⟨⟨⟨⟨⟨⟨trivial, rfl⟩, (decide_eq_true (by omega))⟩, rfl⟩, (decide_eq_true (by omega))⟩, rfl⟩, rfl⟩, rfl⟩, rfl⟩, rfl⟩, rfl⟩, rfl⟩, rfl⟩, rfl⟩, rfl⟩ hE rfl rfl rfl
      have ea : concL ρ0 [AV.agg [AV.str start, AV.sl ⟨0, 0, 0⟩ hrows.length (.known k'), AV.slq 1 brows.length]] = concL ρ [AV.agg [.str start, .sl ⟨b, 0, 0⟩ n (.known k'), bv]] := by
        show [Value.agg (concL ρ0 [AV.str start, .sl ⟨0, 0, 0⟩ hrows.length (.known k'), .slq 1 brows.length]).toArray] = _
        simp only [concL]
        rw [e1, e2]
        rfl
      have eb : conc ρ0 (AV.agg [AV.str start, AV.sl ⟨0, 0, 0⟩ 100 (.known k'), AV.slq 1 brows.length]) = conc ρ (AV.agg [.str start, .sl ⟨b, 0, 0⟩ 100 (.known k'), bv]) := by
        show Value.agg (concL ρ0 [AV.str start, .sl ⟨0, 0, 0⟩ 100 (.known k'), .slq 1 brows.length]).toArray = _
        simp only [concL]
        rw [e3, e2]
        rfl
      rw [ea] at hcall
      rw [← eb]
      exact hcall
    · cases h
  · cases h
theorem norm_text (rows : List (List AV)) : hdrText (spNorm rows) = hdrText rows := by
  unfold hdrText spNorm; rw [List.map_map]; rfl
theorem build25_calls {start : List UInt8} {hrows brows : List (List AV)} {ρ : Nat → BI} {w : World} (hE : HSim ρ (addBlks .e 0 [Blk.cells false [Kd.str, Kd.str] hrows, Blk.cells false [Kd.int IntKind.u8] brows]) ([Blk.cells false [Kd.str, Kd.str] hrows, Blk.cells false [Kd.int IntKind.u8] brows] : List Blk).length w)
    (hst : start.length ≤ 4294967200) (hsh : hrows.all short = true) (hbn : brows.length ≤ 140737488355328) :
    Calls Tryz.prog 25 (concL ρ [.agg [.str start, .slq 0 hrows.length, .slq 1 brows.length]]).toArray w (fun e w' => (∃ v, e = .returned (.tuple #[v, .int .i64 (spBuildE start hrows brows)]) ∧ NewSl w.heap.size w' [.int .u8] (spBuildB start hrows brows) v) ∧ Ext w w') := by
  have f1 : sub hrows 0 hrows.length = hrows := sub_all hrows rfl
  have f2 : sub brows 0 brows.length = brows := sub_all brows rfl
  have k1 : (decide (0 + hrows.length ≤ hrows.length) && (decide (0 + brows.length ≤ brows.length) && decide (start.length ≤ 4294967200 ∧ (sub hrows 0 hrows.length).all short = true ∧ (sub brows 0 brows.length).length ≤ 140737488355328))) = true := by
    rw [f1, f2]; simp only [Bool.and_eq_true, decide_eq_true_eq]; exact ⟨by omega, by omega, hst, hsh, hbn⟩
  unfold spBuildB spBuildE
  cases h : spRight start hrows brows.length with
  | false =>
    have er : (!spRefRight start (sub hrows 0 hrows.length) (sub brows 0 brows.length).length) = true := by rw [f1, f2, refRight_eq, h]; rfl
    refine (calls_pureB P16_ok (c25_T start hrows brows) ⟨⟨⟨trivial, rfl⟩, k1⟩, er⟩ hE rfl rfl rfl).mono fun e w' hq => ?_
    obtain ⟨rfl, he⟩ := hq
    exact ⟨⟨_, rfl, NewSl.none (ρ' := ρ) (hE.gw.ext he) rfl⟩, he⟩
  | true =>
    have hz := right_sized h
    have hz1 := hz.n
    have hz2 := hz.bn
    have er : (!spRefRight start (sub hrows 0 hrows.length) (sub brows 0 brows.length).length) = false := by rw [f1, f2, refRight_eq, h]; rfl
    have k2 : (decide (0 + hrows.length ≤ hrows.length) && (decide (0 + brows.length ≤ brows.length) && decide (start.length ≤ 4294967200 ∧ (sub hrows 0 hrows.length).length ≤ 1000 ∧ (sub hrows 0 hrows.length).all short = true ∧ (sub brows 0 brows.length).length ≤ 4398046511104))) = true := by
      rw [f1, f2]; simp only [Bool.and_eq_true, decide_eq_true_eq]; exact ⟨by omega, by omega, hst, by omega, hsh, by omega⟩
    refine (calls_ofB P16_ok (c25_F start hrows brows) ⟨⟨⟨⟨⟨trivial, rfl⟩, k1⟩, er⟩, rfl⟩, k2⟩ hE rfl).mono fun e w' hq => ?_
    obtain ⟨ρ', rfl, st⟩ := hq
    rw [f1, f2] at st
    rw [f1, f2]
    show (∃ v, Ending.returned (conc ρ' (AV.tup [AV.slq 2 (spTextB start hrows brows).length, AV.int IntKind.i64 0])) = Ending.returned (.tuple #[v, .int .i64 0]) ∧ NewSl w.heap.size w' [.int .u8] (spTextB start hrows brows) v) ∧ Ext w w'
    exact ⟨⟨conc ρ' (.slq 2 (spTextB start hrows brows).length), rfl, NewSl.of_ro st (b := 2) (by rw [ofList_cons, if_pos rfl]) (show 2 ≤ 2 from Nat.le_refl 2) rfl rfl⟩, st.below (ro_two hrows brows)⟩
def q25 : Entry := fun args hp nx => match args with
  | [.agg [.str start, hv, bv]] => match slIn hp [.str, .str] hv, slIn hp [.int .u8] bv with
    | some (c1, hrows), some (c2, brows) =>
      some (c1 && (c2 && decide (start.length ≤ 4294967200 ∧ hrows.all short = true ∧ brows.length ≤ 140737488355328)),
        .tup [.slq nx (spBuildB start hrows brows).length, .int .i64 (spBuildE start hrows brows)], [.cells false [.int .u8] (spBuildB start hrows brows)])
    | _, _ => none
  | _ => none
theorem q25_ok : EntryOK Tryz.prog 25 q25 := by
  intro args hp nx c v bs h hc ρ w hs hi
  unfold q25 at h
  split at h
  · rename_i start hv bv
    split at h
    · rename_i c1 hrows c2 brows hs1 hs2
      cases h
      simp only [Bool.and_eq_true] at hc
      obtain ⟨hc1, hc2, hc3⟩ := hc
      obtain ⟨g1, g2, g3⟩ := of_decide_eq_true hc3
      obtain ⟨ρ0, hE, e1, e2⟩ := two_ro hs hs1 hc1 hs2 hc2
      have hcall := build25_calls (start := start) hE g1 g2 g3
      have ea : concL ρ0 [AV.agg [AV.str start, AV.slq 0 hrows.length, AV.slq 1 brows.length]] = concL ρ [AV.agg [.str start, hv, bv]] := by
        show [Value.agg (concL ρ0 [AV.str start, .slq 0 hrows.length, .slq 1 brows.length]).toArray] = _
        simp only [concL]
        rw [e1, e2]
        rfl
      rw [ea] at hcall
      refine hcall.mono fun e w' hq => ?_
      obtain ⟨⟨v, rfl, b1, n1, k1⟩, he⟩ := hq
      have e1 : extB ρ nx [b1] nx = b1 := by have := extB_new ρ nx [b1] 0; simpa using this
      have st := HStep.bis (bs := [Blk.cells false [.int .u8] (spBuildB start hrows brows)]) [b1] hs he (fun i blk hi => by
        match i with
        | 0 => simp at hi; subst hi; exact ⟨rfl, n1, rfl, fun ρ' b hb => (k1 ρ' b hb).2⟩
        | i + 1 => simp at hi)
      refine ⟨_, ?_, ?_, st⟩
      · have h1 := (k1 _ _ e1).1
        simp only [conc, concL] at h1 ⊢
        rw [h1]
      · simp [AV.idsB, idsBL, blt_iff]
    · cases h
  · cases h
theorem same27_calls {s1 s2 : List UInt8} {h1 b1 h2 b2 : List (List AV)} {ρ : Nat → BI} {w : World} (hE : HSim ρ (addBlks .e 0 (ins28 h1 b1 h2 b2)) (ins28 h1 b1 h2 b2).length w) (hl : h1.length ≤ 4611686018427387904) :
    Calls Tryz.prog 27 (concL ρ [.agg [.str s1, .slq 0 h1.length, .slq 1 b1.length], .agg [.str s2, .slq 2 h2.length, .slq 3 b2.length]]).toArray w (fun e w' => e = .returned (conc ρ (.bool (spSameM s1 h1 b1 s2 h2 b2))) ∧ Ext w w') := by
  have f1 : sub b1 0 (List.length b1) = b1 := sub_all b1 rfl
  have f2 : sub b2 0 (List.length b2) = b2 := sub_all b2 rfl
  have f3 : sub h1 0 (List.length h1) = h1 := sub_all h1 rfl
  have f4 : sub h2 0 (List.length h2) = h2 := sub_all h2 rfl
  have k1 : (decide (0 + h1.length ≤ h1.length) && (decide (0 + h2.length ≤ h2.length) && decide ((sub h1 0 h1.length).length ≤ 4611686018427387904))) = true := by
    rw [f3]; simp only [Bool.and_eq_true, decide_eq_true_eq]; omega
  have k2 : (decide (0 + b1.length ≤ b1.length) && decide (0 + b2.length ≤ b2.length)) = true := by
    simp only [Bool.and_eq_true, decide_eq_true_eq]; omega
  unfold spSameM
  cases e1 : (s1 == s2) with
  | false => exact calls_pureB P16_ok (c27_F s1 s2 h1 b1 h2 b2) ⟨⟨⟨trivial, rfl⟩, rfl⟩, e1⟩ hE rfl rfl rfl
  | true =>
    cases e : spEqH h1 h2 with
    | false =>
      have e2 : spEqH (sub h1 0 h1.length) (sub h2 0 h2.length) = false := by rw [f3, f4]; exact e
      exact calls_pureB P16_ok (c27_TF s1 s2 h1 b1 h2 b2) ⟨⟨⟨⟨⟨⟨⟨trivial, rfl⟩, rfl⟩, e1⟩, rfl⟩, rfl⟩, k1⟩, e2⟩ hE rfl rfl rfl
    | true =>
      have e2 : spEqH (sub h1 0 h1.length) (sub h2 0 h2.length) = true := by rw [f3, f4]; exact e
      have hr := calls_pureB P16_ok (c27_TT s1 s2 h1 b1 h2 b2) ⟨⟨⟨⟨⟨⟨⟨⟨⟨⟨trivial, rfl⟩, rfl⟩, e1⟩, rfl⟩, rfl⟩, k1⟩, e2⟩, rfl⟩, rfl⟩, k2⟩ hE rfl rfl rfl
      rw [f1, f2] at hr
      exact hr
def q27 : Entry := fun args hp nx => match args with
  | [.agg [.str s1, hv1, bv1], .agg [.str s2, hv2, bv2]] => match slIn hp [.str, .str] hv1, slIn hp [.int .u8] bv1, slIn hp [.str, .str] hv2, slIn hp [.int .u8] bv2 with
    | some (c1, h1), some (c2, b1), some (c3, h2), some (c4, b2) => some (c1 && (c2 && (c3 && (c4 && decide (h1.length ≤ 4611686018427387904)))), .bool (spSameM s1 h1 b1 s2 h2 b2), [])
    | _, _, _, _ => none
  | _ => none
theorem q27_ok : EntryOK Tryz.prog 27 q27 := by
  intro args hp nx c v bs h hc ρ w hs hi
  unfold q27 at h
  split at h
  · rename_i s1 hv1 bv1 s2 hv2 bv2
    split at h
    · rename_i c1 h1 c2 b1 c3 h2 c4 b2 hs1 hs2 hs3 hs4
      cases h
      simp only [Bool.and_eq_true] at hc
      obtain ⟨hc1, hc2, hc3, hc4, hc5⟩ := hc
      obtain ⟨ρ0, hE, e1, e2, e3, e4⟩ := four_in hs.gw (slIn_spec hs hs1 hc1 rfl) (slIn_spec hs hs2 hc2 rfl) (slIn_spec hs hs3 hc3 rfl) (slIn_spec hs hs4 hc4 rfl)
      refine entry_pure hs rfl ?_
      have hcall := same27_calls (s1 := s1) (s2 := s2) hE (of_decide_eq_true hc5)
      have ea : concL ρ0 [AV.agg [.str s1, .slq 0 h1.length, .slq 1 b1.length], .agg [.str s2, .slq 2 h2.length, .slq 3 b2.length]] = concL ρ [AV.agg [.str s1, hv1, bv1], .agg [.str s2, hv2, bv2]] := by
        show [Value.agg (concL ρ0 [AV.str s1, .slq 0 h1.length, .slq 1 b1.length]).toArray, Value.agg (concL ρ0 [AV.str s2, .slq 2 h2.length, .slq 3 b2.length]).toArray] = _
        simp only [concL]
        rw [e1, e2, e3, e4]
        rfl
      rw [ea] at hcall
      exact hcall
    · cases h
  · cases h
def P17 : Prims := addP (addP (addP P16 13 q13) 25 q25) 27 q27
theorem P17_ok : PrimsOK Tryz.prog P17 := addP_ok (addP_ok (addP_ok P16_ok q13_ok) q25_ok) q27_ok
end Go.Proofs.YtpdgmgkkbbndfaaGreatDoor
set_option maxRecDepth 100000
set_option maxHeartbeats 6400000
set_option linter.unusedVariables false
set_option linter.unusedSimpArgs false
namespace Go.Proofs.YtpdgmgkkbbndfaaGreatDoor
open Go Go.Proofs Go.Proofs.YtpdgmgkkbbndfaaGreatDoor.SX Go.Proofs.YtpdgmgkkbbndfaaGreatDoor
open Go.ChangeShapes Go.WideShapes Go.ChangeAt Go.RowKit
theorem add_eq {a : Addr} (h : a.spot = none) (k : Nat) : a.add k = ⟨a.block, a.off + k, none⟩ := by
  obtain ⟨b, o, s⟩ := a
  have h : s = none := h
  subst h
  unfold Addr.add
  by_cases hk : k = 0
  · rw [if_pos hk, hk]; rfl
  · rw [if_neg hk]
def strAt (W : World) (b o : Nat) : List UInt8 := match W.cell? ⟨b, o, none⟩ with | some (.string s) => s.data.toList | _ => []
def intAt (W : World) (b o : Nat) : Int := match W.cell? ⟨b, o, none⟩ with | some (.int _ n) => n | _ => 0
theorem ba_eta (s : ByteArray) : (⟨s.data.toList.toArray⟩ : ByteArray) = s := by cases s; simp
theorem hdr_cell {H : Type} {enc : TypeId × Value → H} {W : World} {sp : Nat → Bool} {held : Bool} {n k : Nat} {a : Addr} {e : DataW H × List MemPlace} (hs : a.spot = none)
    (h : (W.cells? 0 (a.add k) 2).bind (DataW.trod enc Tryz.prog W 0 sp held n 44) = some e) :
    ∃ s0 s1 : ByteArray, W.cell? ⟨a.block, a.off + k, none⟩ = some (.string s0) ∧ W.cell? ⟨a.block, a.off + (k + 1), none⟩ = some (.string s1) ∧ e.1 = .agg [.lit (.string s0.data.toList), .lit (.string s1.data.toList)] := by
  obtain ⟨l, hl, ht⟩ := Option.bind_eq_some_iff.1 h
  obtain ⟨xs, m, _, ex, hlen, hxs, hf⟩ := DataW.trod_struct Tryz.underlying44 ht
  have hc9 : Tryz.prog.cellsOf 9 = 1 := by kernel_rfl
  have hc44 : Tryz.prog.cellsOf 44 = 2 := by kernel_rfl
  rw [hc44] at hlen
  have hx2 : xs.length = 2 := hxs
  match l, hlen, xs, hx2 with
  | [c0, c1], _, [x0, x1], _ =>
    have h0 : DataW.trod enc Tryz.prog W 0 sp held m 9 (([c0, c1].drop 0).take (Tryz.prog.cellsOf 9)) = some x0 := hf 0 _ rfl
    have h1 : DataW.trod enc Tryz.prog W 0 sp held m 9 (([c0, c1].drop 1).take (Tryz.prog.cellsOf 9)) = some x1 := hf 1 _ rfl
    rw [hc9] at h0 h1
    obtain ⟨s0, e0, f0, _⟩ := DataW.trod_string Tryz.underlying9 (show DataW.trod enc Tryz.prog W 0 sp held m 9 [c0] = some x0 from h0)
    obtain ⟨s1, e1, f1, _⟩ := DataW.trod_string Tryz.underlying9 (show DataW.trod enc Tryz.prog W 0 sp held m 9 [c1] = some x1 from h1)
    cases e0; cases e1
    unfold World.cells? at hl
    rw [if_pos (Nat.zero_le _)] at hl
    have hr : List.range 2 = [0, 1] := rfl
    rw [hr] at hl
    simp only [List.mapM_cons, List.mapM_nil, Option.bind_eq_bind, Option.bind_eq_some_iff, Option.pure_def, Option.some.injEq, List.cons.injEq] at hl
    obtain ⟨y0, hy0, r, ⟨y1, hy1, r2, hr2, hr⟩, hy⟩ := hl
    subst hr2
    obtain ⟨rfl, hy⟩ := hy
    subst hr
    simp only [List.cons.injEq, and_true] at hy
    subst hy
    rw [add_eq hs] at hy0 hy1
    refine ⟨s0, s1, by simpa [Addr.add] using hy0, by simpa [Addr.add, Nat.add_assoc] using hy1, ?_⟩
    rw [ex, f0, f1]
    rfl
theorem byte_cell {H : Type} {enc : TypeId × Value → H} {W : World} {sp : Nat → Bool} {held : Bool} {n k t : Nat} {kk : IntKind} {a : Addr} {e : DataW H × List MemPlace} (hs : a.spot = none) (hu : Tryz.prog.underlying t = some (.int kk))
    (h : (W.cells? 0 (a.add k) 1).bind (DataW.trod enc Tryz.prog W 0 sp held n t) = some e) : ∃ z : Int, W.cell? ⟨a.block, a.off + k, none⟩ = some (.int kk z) ∧ kk.min ≤ z ∧ z ≤ kk.max := by
  obtain ⟨l, hl, ht⟩ := Option.bind_eq_some_iff.1 h
  obtain ⟨z, rfl, _, hz⟩ := DataW.trod_int hu ht
  unfold World.cells? at hl
  rw [if_pos (Nat.zero_le _)] at hl
  have hr : List.range 1 = [0] := rfl
  rw [hr] at hl
  simp only [List.mapM_cons, List.mapM_nil, Option.bind_eq_bind, Option.bind_eq_some_iff, Option.pure_def, Option.some.injEq, List.cons.injEq] at hl
  obtain ⟨y0, hy0, r, hr1, hy⟩ := hl
  subst hr1
  obtain ⟨rfl, _⟩ := hy
  rw [add_eq hs] at hy0
  refine ⟨z, by simpa [Addr.add] using hy0, ?_⟩
  unfold Lit.wf at hz
  simpa using hz
theorem bulk_mem {H : Type} : ∀ {l : List (DataW H)} {d : DataW H}, d ∈ l → Rows.uptoBulk d ≤ Rows.uptoBulkAll l
  | x :: l, d, h => by
    unfold Rows.uptoBulkAll
    rcases List.mem_cons.1 h with rfl | h
    · omega
    · have := bulk_mem h; omega
theorem bulk_pos {H : Type} (d : DataW H) : 1 ≤ Rows.uptoBulk d := by
  cases d with
  | lit l => cases l <;> simp [Rows.uptoBulk]
  | _ => simp [Rows.uptoBulk]
theorem bulk_len {H : Type} : ∀ (l : List (DataW H)), l.length ≤ Rows.uptoBulkAll l
  | [] => by simp
  | x :: l => by
    have := bulk_len l
    have := bulk_pos x
    unfold Rows.uptoBulkAll
    simp only [List.length_cons]; omega
theorem slice_has {W : World} {b0 t e : TypeId} {a : Addr} {len cap : Nat} (hu : Tryz.prog.underlying t = some (.slice e)) (h : Cell.okWide Tryz.prog W .any b0 t (.slice (some a) len cap)) : a.spot = none ∧ ∃ c tt fr, W.heap[a.block]? = some (.cells c tt fr) := by
  unfold Cell.okWide at h
  rw [hu] at h
  simp only [Cell.ok, hu] at h
  obtain ⟨_, _, _, hs, row, cells, hsh, _⟩ := h
  refine ⟨hs, ?_⟩
  unfold World.shape? at hsh
  split at hsh
  · rename_i c tt fr hh; exact ⟨c, tt, fr, hh⟩
  · cases hsh
theorem cell_in {W : World} {b o : Nat} {c : Array Value} {tt : TypeId} {fr : Nat × Nat} {v : Value} (h : W.heap[b]? = some (.cells c tt fr)) (hc : W.cell? ⟨b, o, none⟩ = some v) : c[o]? = some v := by
  unfold World.cell? at hc
  simp only at hc
  rw [h] at hc
  simpa using hc
theorem hdrs_read {H : Type} {enc : TypeId × Value → H} {W : World} {sp : Nat → Bool} {held : Bool} {n b0 : Nat} {hv : Value} {x : DataW H × List MemPlace} (h : DataW.trod enc Tryz.prog W 0 sp held n 22 [hv] = some x) (hok : Cell.okWide Tryz.prog W .any b0 22 hv) :
    ∃ rows, Reads W [.str, .str] rows hv ∧ rows.length ≤ Rows.uptoBulk x.1 ∧ ∀ r ∈ rows, r.length = 2 ∧ (∃ a b, r = [.str a, .str b]) ∧ (hN r).length ≤ Rows.uptoBulk x.1 ∧ (hV r).length ≤ Rows.uptoBulk x.1 := by
  have hc44 : Tryz.prog.cellsOf 44 = 2 := by kernel_rfl
  rcases DataW.trod_slice Tryz.underlying22 h with ⟨hx, _⟩ | ⟨a, len, cap, elems, rest, m, _, hx, ex, _, _, _, hl, hel, _, _⟩
  · cases hx
    exact ⟨[], .nil rfl, Nat.zero_le _, fun r hr => by cases hr⟩
  · cases hx
    obtain ⟨hs, c, tt, fr, hh⟩ := slice_has Tryz.underlying22 hok
    obtain ⟨b, o, sp'⟩ := a
    have hs : sp' = none := hs
    subst hs
    have key : ∀ i, i < len → ∃ s0 s1 : ByteArray, W.cell? ⟨b, o + i * 2, none⟩ = some (.string s0) ∧ W.cell? ⟨b, o + (i * 2 + 1), none⟩ = some (.string s1) ∧ ∃ e ∈ elems, e.1 = .agg [.lit (.string s0.data.toList), .lit (.string s1.data.toList)] := by
      intro i hi
      have h1 := hel i hi
      rw [hc44, List.getElem?_eq_getElem (by omega)] at h1
      obtain ⟨s0, s1, g0, g1, g2⟩ := hdr_cell (a := ⟨b, o, none⟩) rfl h1
      exact ⟨s0, s1, g0, g1, _, List.getElem_mem (by omega), g2⟩
    have hbulk : Rows.uptoBulk x.1 = Rows.uptoBulkAll (elems.map (·.1)) + Rows.uptoBulkAll (rest.map (·.1)) + 1 := by rw [ex]; rfl
    refine ⟨(List.range len).map fun i => [.str (strAt W b (o + i * 2)), .str (strAt W b (o + (i * 2 + 1)))], ?_, ?_, fun r hr => ?_⟩
    · have hR := Reads.cells (w := W) (ks := [.str, .str]) (rows := (List.range len).map fun i => [AV.str (strAt W b (o + i * 2)), .str (strAt W b (o + (i * 2 + 1)))]) ⟨b, o, 2, cap, false⟩ cap
        ⟨rfl, c, tt, fr, hh, fun i j kd hi hj => ?_, fun h => by cases h⟩
      · simpa using hR
      · have hi : i < len := by simpa using hi
        obtain ⟨s0, s1, g0, g1, _⟩ := key i hi
        have hrow : ((List.range len).map fun i => [AV.str (strAt W b (o + i * 2)), .str (strAt W b (o + (i * 2 + 1)))]).getD i [] = [AV.str (strAt W b (o + i * 2)), .str (strAt W b (o + (i * 2 + 1)))] := by
          simp [List.getD_eq_getElem?_getD, hi]
        have hj' : (j = 0 ∨ j = 1) ∧ kd = .str := by
          match j with
          | 0 => simp at hj; exact ⟨.inl rfl, hj.symm⟩
          | 1 => simp at hj; exact ⟨.inr rfl, hj.symm⟩
          | j + 2 => simp at hj
        obtain ⟨hj0, rfl⟩ := hj'
        unfold cellAt
        rw [hrow]
        rcases hj0 with rfl | rfl
        · show c[o + (i * 2 + 0)]? = some (.string ⟨(strAt W b (o + i * 2)).toArray⟩)
          rw [Nat.add_zero, cell_in hh g0]
          have e : strAt W b (o + i * 2) = s0.data.toList := by unfold strAt; rw [g0]
          rw [e, ba_eta]
        · show c[o + (i * 2 + 1)]? = some (.string ⟨(strAt W b (o + (i * 2 + 1))).toArray⟩)
          rw [cell_in hh g1]
          have e : strAt W b (o + (i * 2 + 1)) = s1.data.toList := by unfold strAt; rw [g1]
          rw [e, ba_eta]
    · have := bulk_len (elems.map (·.1))
      simp only [List.length_map, List.length_range] at this ⊢
      omega
    · obtain ⟨i, hi, rfl⟩ := List.mem_map.1 hr
      obtain ⟨s0, s1, g0, g1, e, he, ee⟩ := key i (List.mem_range.1 hi)
      have hb := bulk_mem (List.mem_map_of_mem (f := (·.1)) he)
      rw [ee] at hb
      simp only [Rows.uptoBulk, Rows.uptoBulkAll] at hb
      refine ⟨rfl, ⟨_, _, rfl⟩, ?_, ?_⟩
      · show (strAt W b (o + i * 2)).length ≤ _
        unfold strAt; rw [g0]; simp only; omega
      · show (strAt W b (o + (i * 2 + 1))).length ≤ _
        unfold strAt; rw [g1]; simp only; omega
theorem body_read {H : Type} {enc : TypeId × Value → H} {W : World} {sp : Nat → Bool} {held : Bool} {n b0 : Nat} {hv : Value} {x : DataW H × List MemPlace} (h : DataW.trod enc Tryz.prog W 0 sp held n 23 [hv] = some x) (hok : Cell.okWide Tryz.prog W .any b0 23 hv) :
    ∃ l : List UInt8, Reads W [.int .u8] (byteRows l) hv ∧ l.length ≤ Rows.uptoBulk x.1 := by
  have hc5 : Tryz.prog.cellsOf 5 = 1 := by kernel_rfl
  rcases DataW.trod_slice Tryz.underlying23 h with ⟨hx, _⟩ | ⟨a, len, cap, elems, rest, m, _, hx, ex, _, _, _, hl, hel, _, _⟩
  · cases hx
    exact ⟨[], .nil rfl, Nat.zero_le _⟩
  · cases hx
    obtain ⟨hs, c, tt, fr, hh⟩ := slice_has Tryz.underlying23 hok
    obtain ⟨b, o, sp'⟩ := a
    have hs : sp' = none := hs
    subst hs
    have key : ∀ i, i < len → ∃ z : Int, W.cell? ⟨b, o + i, none⟩ = some (.int .u8 z) ∧ 0 ≤ z ∧ z ≤ 255 := by
      intro i hi
      have h1 := hel i hi
      rw [hc5, List.getElem?_eq_getElem (by omega), Nat.mul_one] at h1
      obtain ⟨z, g0, g1, g2⟩ := byte_cell (a := ⟨b, o, none⟩) rfl Tryz.underlying5 h1
      exact ⟨z, g0, g1, g2⟩
    have hbulk : Rows.uptoBulk x.1 = Rows.uptoBulkAll (elems.map (·.1)) + Rows.uptoBulkAll (rest.map (·.1)) + 1 := by rw [ex]; rfl
    refine ⟨(List.range len).map fun i => UInt8.ofNat (intAt W b (o + i)).toNat, ?_, ?_⟩
    · have hR := Reads.cells (w := W) (ks := [.int .u8]) (rows := byteRows ((List.range len).map fun i => UInt8.ofNat (intAt W b (o + i)).toNat)) ⟨b, o, 1, cap, false⟩ cap
        ⟨rfl, c, tt, fr, hh, fun i j kd hi hj => ?_, fun h => by cases h⟩
      · rw [byteRows_length] at hR
        simpa using hR
      · have hi : i < len := by rw [byteRows_length] at hi; simpa using hi
        obtain ⟨z, g0, g1, g2⟩ := key i hi
        have hj' : j = 0 ∧ kd = .int .u8 := by
          match j with
          | 0 => simp at hj; exact ⟨rfl, hj.symm⟩
          | j + 1 => simp at hj
        obtain ⟨rfl, rfl⟩ := hj'
        have hrow : (byteRows ((List.range len).map fun i => UInt8.ofNat (intAt W b (o + i)).toNat)).getD i [] = byteRow (UInt8.ofNat (intAt W b (o + i)).toNat) := by
          simp [byteRows, List.getD_eq_getElem?_getD, hi]
        unfold cellAt
        rw [hrow]
        show c[o + (i * 1 + 0)]? = some (.int .u8 ((UInt8.ofNat (intAt W b (o + i)).toNat).toNat : Int))
        rw [show o + (i * 1 + 0) = o + i by omega, cell_in hh g0]
        unfold intAt
        rw [g0]
        simp only
        congr 2
        rw [UInt8.toNat_ofNat']
        omega
    · have := bulk_len (elems.map (·.1))
      simp only [List.length_map, List.length_range] at this ⊢
      omega
structure MsgIn (W : World) (N : Nat) (start : List UInt8) (hrows : List (List AV)) (body : List UInt8) (hv bv : Value) : Prop where
  h : Reads W [.str, .str] hrows hv
  b : Reads W [.int .u8] (byteRows body) bv
  st : start.length ≤ N
  hl : hrows.length ≤ N
  bl : body.length ≤ N
  rows : ∀ r ∈ hrows, r.length = 2 ∧ (∃ a b, r = [.str a, .str b]) ∧ (hN r).length ≤ N ∧ (hV r).length ≤ N
  cap : ∀ a n c, hv = .slice a n c → n ≤ c
theorem msg_read {H : Type} {enc : TypeId × Value → H} {W : World} {sp : Nat → Bool} {held : Bool} {b0 N : Nat} {v : Value} {d : DataW H} {ps : List MemPlace} (h : DataW.Trod enc Tryz.prog W 0 sp held 25 v d ps) (hok : Value.okWide Tryz.prog W .any b0 25 v) (hN : Rows.uptoBulk d ≤ N) :
    ∃ start hrows body hv bv, v = .agg #[.string ⟨start.toArray⟩, hv, bv] ∧ MsgIn W N start hrows body hv bv := by
  unfold Value.okWide at hok
  rw [Tryz.underlying25] at hok
  obtain ⟨cs, rfl, hsz, ts, hts, _, hall⟩ := hok
  have hc : Tryz.prog.cellTypes Tryz.prog.depth 25 = some [9, 22, 23] := by kernel_rfl
  rw [hc] at hts
  cases hts
  have h3 : cs.size = 3 := hsz.trans (by kernel_rfl)
  obtain ⟨c0, c1, c2, rfl⟩ : ∃ c0 c1 c2, cs = #[c0, c1, c2] := by
    refine ⟨cs[0], cs[1], cs[2], ?_⟩
    apply Array.ext
    · simp [h3]
    · intro i hi1 hi2
      simp at hi2
      have : i = 0 ∨ i = 1 ∨ i = 2 := by omega
      rcases this with rfl | rfl | rfl <;> rfl
  have ok1 : Cell.okWide Tryz.prog W .any b0 22 c1 := by
    obtain ⟨u, hu, hok⟩ := hall 1 c1 rfl
    have : u = 22 := by simpa using hu.symm
    rw [this] at hok; exact hok
  have ok2 : Cell.okWide Tryz.prog W .any b0 23 c2 := by
    obtain ⟨u, hu, hok⟩ := hall 2 c2 rfl
    have : u = 23 := by simpa using hu.symm
    rw [this] at hok; exact hok
  obtain ⟨fuel, hf⟩ := h
  obtain ⟨xs, m, _, ex, hlen, hxs, hfs⟩ := DataW.trod_struct Tryz.underlying25 hf
  have hx3 : xs.length = 3 := hxs
  match xs, hx3 with
  | [x0, x1, x2], _ =>
    have hc9 : Tryz.prog.cellsOf 9 = 1 := by kernel_rfl
    have hc22 : Tryz.prog.cellsOf 22 = 1 := by kernel_rfl
    have hc23 : Tryz.prog.cellsOf 23 = 1 := by kernel_rfl
    have f0 : DataW.trod enc Tryz.prog W 0 sp held m 9 (((#[c0, c1, c2] : Array Value).toList.drop 0).take (Tryz.prog.cellsOf 9)) = some x0 := hfs 0 _ rfl
    have f1 : DataW.trod enc Tryz.prog W 0 sp held m 22 (((#[c0, c1, c2] : Array Value).toList.drop 1).take (Tryz.prog.cellsOf 22)) = some x1 := hfs 1 _ rfl
    have f2 : DataW.trod enc Tryz.prog W 0 sp held m 23 (((#[c0, c1, c2] : Array Value).toList.drop 2).take (Tryz.prog.cellsOf 23)) = some x2 := hfs 2 _ rfl
    rw [hc9] at f0
    rw [hc22] at f1
    rw [hc23] at f2
    obtain ⟨s, e0, g0, _⟩ := DataW.trod_string Tryz.underlying9 (show DataW.trod enc Tryz.prog W 0 sp held m 9 [c0] = some x0 from f0)
    cases e0
    obtain ⟨hrows, r1, r2, r3⟩ := hdrs_read (show DataW.trod enc Tryz.prog W 0 sp held m 22 [c1] = some x1 from f1) ok1
    obtain ⟨body, b1, b2⟩ := body_read (show DataW.trod enc Tryz.prog W 0 sp held m 23 [c2] = some x2 from f2) ok2
    have hd : d = .agg [x0.1, x1.1, x2.1] := (Prod.mk.inj ex).1
    rw [hd, g0] at hN
    simp only [Rows.uptoBulk, Rows.uptoBulkAll] at hN
    refine ⟨s.data.toList, hrows, body, c1, c2, by rw [ba_eta], r1, b1, by omega, by omega, by omega, fun r hr => ?_, fun a n c he => ?_⟩
    · obtain ⟨k1, k2, k3, k4⟩ := r3 r hr
      exact ⟨k1, k2, by omega, by omega⟩
    · subst he
      unfold Cell.okWide at ok1
      rw [Tryz.underlying22] at ok1
      simp only [Cell.ok, Tryz.underlying22] at ok1
      cases a with
      | none => cases n <;> cases c <;> simp at ok1 ⊢
      | some a => exact ok1.1
end Go.Proofs.YtpdgmgkkbbndfaaGreatDoor
set_option maxRecDepth 100000
set_option maxHeartbeats 6400000
set_option linter.unusedVariables false
set_option linter.unusedSimpArgs false
namespace Go.Proofs.YtpdgmgkkbbndfaaGreatDoor
open Go Go.Proofs Go.Proofs.YtpdgmgkkbbndfaaGreatDoor.SX
theorem reads_sl {w : World} {ks : List Kd} {rows : List (List AV)} {v : Value} (h : Reads w ks rows v) (hp : 0 < rows.length) (hk : noAny ks = true) :
    ∃ (bi : BI) (c : Nat), (∀ (ρ : Nat → BI) (b : Nat), ρ b = bi → conc ρ (.sl ⟨b, 0, 0⟩ rows.length (.known c)) = v ∧ (Blk.cells false ks rows).sat ρ w b) ∧ ∃ a, v = .slice a rows.length c := by
  cases h with
  | nil h => rw [h] at hp; exact absurd hp (by decide)
  | cells bi c h => exact ⟨bi, c, fun ρ b hb => ⟨by simp [conc, addr, capOf, hb], Blk.sat_at (ρ := fun _ => bi) (b := 0) hk hb h⟩, _, rfl⟩
theorem four_ins {w : World} {r1 r2 r3 r4 : List (List AV)} {b1 b2 b3 b4 : BI} (gw : GW w) (h1 : ∀ (ρ : Nat → BI) (b : Nat), ρ b = b1 → (Blk.cells false [.str, .str] r1).sat ρ w b) (h2 : ∀ (ρ : Nat → BI) (b : Nat), ρ b = b2 → (Blk.cells false [.int .u8] r2).sat ρ w b)
    (h3 : ∀ (ρ : Nat → BI) (b : Nat), ρ b = b3 → (Blk.cells false [.str, .str] r3).sat ρ w b) (h4 : ∀ (ρ : Nat → BI) (b : Nat), ρ b = b4 → (Blk.cells false [.int .u8] r4).sat ρ w b) :
    ∃ ρ0 : Nat → BI, ρ0 0 = b1 ∧ ρ0 1 = b2 ∧ ρ0 2 = b3 ∧ ρ0 3 = b4 ∧ HSim ρ0 (addBlks .e 0 (ins28 r1 r2 r3 r4)) (ins28 r1 r2 r3 r4).length w := by
  refine ⟨fun i => if i = 0 then b1 else if i = 1 then b2 else if i = 2 then b3 else b4, rfl, rfl, rfl, rfl, HSim.ins gw (fun i blk hi => ?_)⟩
  match i with
  | 0 => simp [ins28] at hi; subst hi; exact ⟨h1 _ 0 rfl, rfl, rfl⟩
  | 1 => simp [ins28] at hi; subst hi; exact ⟨h2 _ 1 rfl, rfl, rfl⟩
  | 2 => simp [ins28] at hi; subst hi; exact ⟨h3 _ 2 rfl, rfl, rfl⟩
  | 3 => simp [ins28] at hi; subst hi; exact ⟨h4 _ 3 rfl, rfl, rfl⟩
  | i + 4 => simp [ins28] at hi
theorem c6v11_ETTT (s1 : List UInt8) (s2 : List UInt8) (h1 : List (List AV)) (b1 : List (List AV)) (h2 : List (List AV)) (b2 : List (List AV)) :
    Path (runCallB Tryz.prog P17 100 6 [AV.agg [AV.str s1, AV.slq 0 (List.length h1), AV.slq 1 (List.length b1)], AV.agg [AV.str s2, AV.slq 2 (List.length h2), AV.slq 3 (List.length b2)]] (st0 [Blk.cells false [Kd.str, Kd.str] h1, Blk.cells false [Kd.int IntKind.u8] b1, Blk.cells false [Kd.str, Kd.str] h2, Blk.cells false [Kd.int IntKind.u8] b2] ([PI.ev 1, .as_ true, .as_ true, .as_ true]))) 4 [] (SL.mk [] [] 4) (Out.ret (AV.bool (spSameM s1 (sub h1 0 (List.length h1)) (sub b1 0 (List.length b1)) s2 (sub h2 0 (List.length h2)) (sub b2 0 (List.length b2)) == spSameM s1 (sub (spNorm (sub h1 0 (List.length h1))) 0 (List.length (spNorm (sub h1 0 (List.length h1))))) (sub b1 0 (List.length b1)) s2 (sub (spNorm (sub h2 0 (List.length h2))) 0 (List.length (spNorm (sub h2 0 (List.length h2))))) (sub b2 0 (List.length b2)))))
      ((((((((((((((((((((((((((((((((((((((((((((((((((((((((((((((((((((((((((((((((((((((((((((((((((((((((((((((((((((((((((((((((((((((((((((((((((((((((((((((((((((((((((((((((((((((((((True ∧ (true = true)) ∧ (true = true)) ∧ ((decide (0 + List.length h1 ≤ List.length h1) && (decide (0 + List.length b1 ≤ List.length b1) && decide (List.length (sub h1 0 (List.length h1)) ≤ 100))) = true)) ∧ ((decide (0 + List.length h2 ≤ List.length h2) && (decide (0 + List.length b2 ≤ List.length b2) && decide (List.length (sub h2 0 (List.length h2)) ≤ 100))) = true)) ∧ (true = true)) ∧ (true = true)) ∧ (true = true)) ∧ (true = true)) ∧ (true = true)) ∧ (true = true)) ∧ (true = true)) ∧ (true = true)) ∧ (true = true)) ∧ (true = true)) ∧ (true = true)) ∧ (true = true)) ∧ (true = true)) ∧ (true = true)) ∧ (true = true)) ∧ (true = true)) ∧ (true = true)) ∧ (true = true)) ∧ (true = true)) ∧ (true = true)) ∧ (true = true)) ∧ (true = true)) ∧ (true = true)) ∧ (true = true)) ∧ ((decide (0 + List.length h2 ≤ List.length h2) && (decide (0 + List.length b2 ≤ List.length b2) && decide (List.length (sub h2 0 (List.length h2)) ≤ 100))) = true)) ∧ (true = true)) ∧ (true = true)) ∧ (true = true)) ∧ (true = true)) ∧ (true = true)) ∧ (true = true)) ∧ (true = true)) ∧ (true = true)) ∧ (true = true)) ∧ (true = true)) ∧ (true = true)) ∧ (true = true)) ∧ ((decide (0 + List.length h2 ≤ List.length h2) && (decide (0 + List.length b2 ≤ List.length b2) && decide (List.length (sub h2 0 (List.length h2)) ≤ 100))) = true)) ∧ (true = true)) ∧ (true = true)) ∧ (true = true)) ∧ (true = true)) ∧ (true = true)) ∧ (true = true)) ∧ (true = true)) ∧ (true = true)) ∧ (true = true)) ∧ (true = true)) ∧ (true = true)) ∧ (true = true)) ∧ ((decide (0 + List.length h2 ≤ List.length h2) && (decide (0 + List.length b2 ≤ List.length b2) && decide (List.length (sub h2 0 (List.length h2)) ≤ 100))) = true)) ∧ (true = true)) ∧ (true = true)) ∧ (true = true)) ∧ (true = true)) ∧ (true = true)) ∧ (true = true)) ∧ (true = true)) ∧ (true = true)) ∧ (true = true)) ∧ (true = true)) ∧ (true = true)) ∧ (true = true)) ∧ ((decide (0 + List.length h2 ≤ List.length h2) && (decide (0 + List.length b2 ≤ List.length b2) && decide (List.length (sub h2 0 (List.length h2)) ≤ 100))) = true)) ∧ (true = true)) ∧ (true = true)) ∧ (true = true)) ∧ (true = true)) ∧ (true = true)) ∧ (true = true)) ∧ (true = true)) ∧ (true = true)) ∧ (true = true)) ∧ (true = true)) ∧ (true = true)) ∧ (true = true)) ∧ ((decide (0 + List.length h1 ≤ List.length h1) && (decide (0 + List.length b1 ≤ List.length b1) && decide (List.length (sub h1 0 (List.length h1)) ≤ 100))) = true)) ∧ ((decide (0 + List.length h2 ≤ List.length h2) && (decide (0 + List.length b2 ≤ List.length b2) && decide (List.length (sub h2 0 (List.length h2)) ≤ 100))) = true)) ∧ (true = true)) ∧ (true = true)) ∧ (true = true)) ∧ (true = true)) ∧ (true = true)) ∧ (true = true)) ∧ (true = true)) ∧ (true = true)) ∧ (true = true)) ∧ (true = true)) ∧ (true = true)) ∧ (true = true)) ∧ ((decide (0 + List.length h2 ≤ List.length h2) && (decide (0 + List.length b2 ≤ List.length b2) && decide (List.length (sub h2 0 (List.length h2)) ≤ 100))) = true)) ∧ (true = true)) ∧ (true = true)) ∧ (true = true)) ∧ (true = true)) ∧ (true = true)) ∧ (true = true)) ∧ (true = true)) ∧ (true = true)) ∧ (true = true)) ∧ (true = true)) ∧ (true = true)) ∧ (true = true)) ∧ ((decide (0 + List.length h1 ≤ List.length h1) && (decide (0 + List.length b1 ≤ List.length b1) && decide (List.length (sub h1 0 (List.length h1)) ≤ 100))) = true)) ∧ ((decide (0 + List.length h2 ≤ List.length h2) && (decide (0 + List.length b2 ≤ List.length b2) && decide (List.length (sub h2 0 (List.length h2)) ≤ 100))) = true)) ∧ (true = true)) ∧ (true = true)) ∧ (true = true)) ∧ (true = true)) ∧ (true = true)) ∧ (true = true)) ∧ (true = true)) ∧ (true = true)) ∧ (true = true)) ∧ (true = true)) ∧ (true = true)) ∧ (true = true)) ∧ ((decide (0 + List.length h1 ≤ List.length h1) && (decide (0 + List.length b1 ≤ List.length b1) && decide (List.length (sub h1 0 (List.length h1)) ≤ 100))) = true)) ∧ ((decide (0 + List.length h2 ≤ List.length h2) && (decide (0 + List.length b2 ≤ List.length b2) && decide (List.length (sub h2 0 (List.length h2)) ≤ 100))) = true)) ∧ (true = true)) ∧ (true = true)) ∧ (true = true)) ∧ (true = true)) ∧ (true = true)) ∧ (true = true)) ∧ (true = true)) ∧ (true = true)) ∧ (true = true)) ∧ (true = true)) ∧ (true = true)) ∧ (true = true)) ∧ ((decide (0 + List.length h2 ≤ List.length h2) && (decide (0 + List.length b2 ≤ List.length b2) && decide (List.length (sub h2 0 (List.length h2)) ≤ 100))) = true)) ∧ (true = true)) ∧ (true = true)) ∧ (true = true)) ∧ (true = true)) ∧ (true = true)) ∧ (true = true)) ∧ (true = true)) ∧ (true = true)) ∧ (true = true)) ∧ (true = true)) ∧ (true = true)) ∧ (true = true)) ∧ ((decide (0 + List.length h1 ≤ List.length h1) && (decide (0 + List.length b1 ≤ List.length b1) && decide (List.length (sub h1 0 (List.length h1)) ≤ 100))) = true)) ∧ ((decide (0 + List.length h2 ≤ List.length h2) && (decide (0 + List.length b2 ≤ List.length b2) && decide (List.length (sub h2 0 (List.length h2)) ≤ 100))) = true)) ∧ (true = true)) ∧ (true = true)) ∧ (true = true)) ∧ (true = true)) ∧ (true = true)) ∧ (true = true)) ∧ (true = true)) ∧ (true = true)) ∧ (true = true)) ∧ (true = true)) ∧ (true = true)) ∧ (true = true)) ∧ (true = true)) ∧ ((decide (0 + List.length h1 ≤ List.length h1) && (decide (0 + List.length b1 ≤ List.length b1) && decide (List.length s1 ≤ 4294967200 ∧ List.all (sub h1 0 (List.length h1)) short = true ∧ List.length (sub b1 0 (List.length b1)) ≤ 140737488355328))) = true)) ∧ (true = true)) ∧ ((decide (0 + List.length h1 ≤ List.length h1) && (decide (0 + List.length b1 ≤ List.length b1) && (decide (List.length (sub h1 0 (List.length h1)) ≤ 200) && true))) = true)) ∧ ((decide (0 + List.length (spNorm (sub h1 0 (List.length h1))) ≤ List.length (spNorm (sub h1 0 (List.length h1)))) && (decide (0 + List.length b1 ≤ List.length b1) && decide (List.length s1 ≤ 4294967200 ∧ List.all (sub (spNorm (sub h1 0 (List.length h1))) 0 (List.length (spNorm (sub h1 0 (List.length h1))))) short = true ∧ List.length (sub b1 0 (List.length b1)) ≤ 140737488355328))) = true)) ∧ (true = true)) ∧ (decide (0 + List.length (spBuildB s1 (sub h1 0 (List.length h1)) (sub b1 0 (List.length b1))) ≤ List.length (spBuildB s1 (sub h1 0 (List.length h1)) (sub b1 0 (List.length b1)))) = true)) ∧ (decide (0 + List.length (spBuildB s1 (sub (spNorm (sub h1 0 (List.length h1))) 0 (List.length (spNorm (sub h1 0 (List.length h1))))) (sub b1 0 (List.length b1))) ≤ List.length (spBuildB s1 (sub (spNorm (sub h1 0 (List.length h1))) 0 (List.length (spNorm (sub h1 0 (List.length h1))))) (sub b1 0 (List.length b1)))) = true)) ∧ ((List.map rowByte (sub (spBuildB s1 (sub h1 0 (List.length h1)) (sub b1 0 (List.length b1))) 0 (List.length (spBuildB s1 (sub h1 0 (List.length h1)) (sub b1 0 (List.length b1))))) == List.map rowByte (sub (spBuildB s1 (sub (spNorm (sub h1 0 (List.length h1))) 0 (List.length (spNorm (sub h1 0 (List.length h1))))) (sub b1 0 (List.length b1))) 0 (List.length (spBuildB s1 (sub (spNorm (sub h1 0 (List.length h1))) 0 (List.length (spNorm (sub h1 0 (List.length h1))))) (sub b1 0 (List.length b1)))))) = true)) ∧ ((spBuildE s1 (sub h1 0 (List.length h1)) (sub b1 0 (List.length b1)) == spBuildE s1 (sub (spNorm (sub h1 0 (List.length h1))) 0 (List.length (spNorm (sub h1 0 (List.length h1))))) (sub b1 0 (List.length b1))) = true)) ∧ (true = true)) ∧ (true = true)) ∧ ((decide (0 + List.length h1 ≤ List.length h1) && (decide (0 + List.length b1 ≤ List.length b1) && decide (List.length s1 ≤ 4294967200 ∧ List.all (sub h1 0 (List.length h1)) short = true ∧ List.length (sub b1 0 (List.length b1)) ≤ 140737488355328))) = true)) ∧ ((decide (0 + List.length h1 ≤ List.length h1) && (decide (0 + List.length b1 ≤ List.length b1) && (decide (List.length (sub h1 0 (List.length h1)) ≤ 200) && true))) = true)) ∧ ((decide (0 + List.length (spNorm (sub h1 0 (List.length h1))) ≤ List.length (spNorm (sub h1 0 (List.length h1)))) && (decide (0 + List.length b1 ≤ List.length b1) && decide (List.length s1 ≤ 4294967200 ∧ List.all (sub (spNorm (sub h1 0 (List.length h1))) 0 (List.length (spNorm (sub h1 0 (List.length h1))))) short = true ∧ List.length (sub b1 0 (List.length b1)) ≤ 140737488355328))) = true)) ∧ ((spRight s1 (sub h1 0 (List.length h1)) (List.length (sub b1 0 (List.length b1))) == spRefRight s1 (sub (spNorm (sub h1 0 (List.length h1))) 0 (List.length (spNorm (sub h1 0 (List.length h1))))) (List.length (sub b1 0 (List.length b1)))) = true)) ∧ (true = true)) ∧ (true = true)) ∧ (true = true)) ∧ (true = true)) ∧ ((decide (0 + List.length h1 ≤ List.length h1) && (decide (0 + List.length b1 ≤ List.length b1) && (decide (0 + List.length h2 ≤ List.length h2) && (decide (0 + List.length b2 ≤ List.length b2) && decide (List.length (sub h1 0 (List.length h1)) ≤ 4611686018427387904))))) = true)) ∧ ((decide (0 + List.length h1 ≤ List.length h1) && (decide (0 + List.length b1 ≤ List.length b1) && (decide (List.length (sub h1 0 (List.length h1)) ≤ 200) && true))) = true)) ∧ ((decide (0 + List.length h2 ≤ List.length h2) && (decide (0 + List.length b2 ≤ List.length b2) && (decide (List.length (sub h2 0 (List.length h2)) ≤ 200) && true))) = true)) ∧ ((decide (0 + List.length (spNorm (sub h1 0 (List.length h1))) ≤ List.length (spNorm (sub h1 0 (List.length h1)))) && (decide (0 + List.length b1 ≤ List.length b1) && (decide (0 + List.length (spNorm (sub h2 0 (List.length h2))) ≤ List.length (spNorm (sub h2 0 (List.length h2)))) && (decide (0 + List.length b2 ≤ List.length b2) && decide (List.length (sub (spNorm (sub h1 0 (List.length h1))) 0 (List.length (spNorm (sub h1 0 (List.length h1))))) ≤ 4611686018427387904))))) = true)) := by unfold Path; kernel_rfl
theorem c6v12_ETTT (s1 : List UInt8) (s2 : List UInt8) (h1 : List (List AV)) (b1 : List (List AV)) (h2 : List (List AV)) (b2 : List (List AV)) (c2 : Nat) :
    Path (runCallB Tryz.prog P17 100 6 [AV.agg [AV.str s1, AV.slq 0 (List.length h1), AV.slq 1 (List.length b1)], AV.agg [AV.str s2, AV.sl (Loc.mk 2 0 0) (List.length h2) (Cap.known c2), AV.slq 3 (List.length b2)]] (st0 [Blk.cells false [Kd.str, Kd.str] h1, Blk.cells false [Kd.int IntKind.u8] b1, Blk.cells false [Kd.str, Kd.str] h2, Blk.cells false [Kd.int IntKind.u8] b2] ([PI.ev 1, .as_ true, .as_ true, .as_ true]))) 4 [] (SL.mk [] [] 4) (Out.ret (AV.bool (spSameM s1 (sub h1 0 (List.length h1)) (sub b1 0 (List.length b1)) s2 (sub h2 0 100) (sub b2 0 (List.length b2)) == spSameM s1 (sub (spNorm (sub h1 0 (List.length h1))) 0 (List.length (spNorm (sub h1 0 (List.length h1))))) (sub b1 0 (List.length b1)) s2 (sub (spNorm (sub h2 0 100)) 0 (List.length (spNorm (sub h2 0 100)))) (sub b2 0 (List.length b2)))))
      ((((((((((((((((((((((((((((((((((((((((((((((((((((((((((((((((((((((((((((((((((((((((((((((((((((((((((((((((((((((((((((((((((((((((((((((((((((((((((((((((((((((((((((((((((((((((((True ∧ (true = true)) ∧ (true = true)) ∧ ((decide (0 + List.length h1 ≤ List.length h1) && (decide (0 + List.length b1 ≤ List.length b1) && decide (List.length (sub h1 0 (List.length h1)) ≤ 100))) = true)) ∧ ((decide (0 + List.length h2 ≤ List.length h2) && (decide (0 + List.length b2 ≤ List.length b2) && decide (100 < List.length (sub h2 0 (List.length h2)) ∧ 100 ≤ c2))) = true)) ∧ (true = true)) ∧ (true = true)) ∧ (true = true)) ∧ (true = true)) ∧ (true = true)) ∧ (true = true)) ∧ (true = true)) ∧ (true = true)) ∧ (true = true)) ∧ (true = true)) ∧ (true = true)) ∧ (true = true)) ∧ (true = true)) ∧ (true = true)) ∧ (true = true)) ∧ (true = true)) ∧ (true = true)) ∧ (true = true)) ∧ (true = true)) ∧ (true = true)) ∧ (true = true)) ∧ (true = true)) ∧ (true = true)) ∧ (true = true)) ∧ ((decide (0 + List.length h2 ≤ List.length h2) && (decide (0 + List.length b2 ≤ List.length b2) && decide (100 < List.length (sub h2 0 (List.length h2)) ∧ 100 ≤ c2))) = true)) ∧ (true = true)) ∧ (true = true)) ∧ (true = true)) ∧ (true = true)) ∧ (true = true)) ∧ (true = true)) ∧ (true = true)) ∧ (true = true)) ∧ (true = true)) ∧ (true = true)) ∧ (true = true)) ∧ (true = true)) ∧ ((decide (0 + List.length h2 ≤ List.length h2) && (decide (0 + List.length b2 ≤ List.length b2) && decide (100 < List.length (sub h2 0 (List.length h2)) ∧ 100 ≤ c2))) = true)) ∧ (true = true)) ∧ (true = true)) ∧ (true = true)) ∧ (true = true)) ∧ (true = true)) ∧ (true = true)) ∧ (true = true)) ∧ (true = true)) ∧ (true = true)) ∧ (true = true)) ∧ (true = true)) ∧ (true = true)) ∧ ((decide (0 + List.length h2 ≤ List.length h2) && (decide (0 + List.length b2 ≤ List.length b2) && decide (100 < List.length (sub h2 0 (List.length h2)) ∧ 100 ≤ c2))) = true)) ∧ (true = true)) ∧ (true = true)) ∧ (true = true)) ∧ (true = true)) ∧ (true = true)) ∧ (true = true)) ∧ (true = true)) ∧ (true = true)) ∧ (true = true)) ∧ (true = true)) ∧ (true = true)) ∧ (true = true)) ∧ ((decide (0 + List.length h2 ≤ List.length h2) && (decide (0 + List.length b2 ≤ List.length b2) && decide (100 < List.length (sub h2 0 (List.length h2)) ∧ 100 ≤ c2))) = true)) ∧ (true = true)) ∧ (true = true)) ∧ (true = true)) ∧ (true = true)) ∧ (true = true)) ∧ (true = true)) ∧ (true = true)) ∧ (true = true)) ∧ (true = true)) ∧ (true = true)) ∧ (true = true)) ∧ (true = true)) ∧ ((decide (0 + List.length h1 ≤ List.length h1) && (decide (0 + List.length b1 ≤ List.length b1) && decide (List.length (sub h1 0 (List.length h1)) ≤ 100))) = true)) ∧ ((decide (0 + List.length h2 ≤ List.length h2) && (decide (0 + List.length b2 ≤ List.length b2) && decide (100 < List.length (sub h2 0 (List.length h2)) ∧ 100 ≤ c2))) = true)) ∧ (true = true)) ∧ (true = true)) ∧ (true = true)) ∧ (true = true)) ∧ (true = true)) ∧ (true = true)) ∧ (true = true)) ∧ (true = true)) ∧ (true = true)) ∧ (true = true)) ∧ (true = true)) ∧ (true = true)) ∧ ((decide (0 + List.length h2 ≤ List.length h2) && (decide (0 + List.length b2 ≤ List.length b2) && decide (100 < List.length (sub h2 0 (List.length h2)) ∧ 100 ≤ c2))) = true)) ∧ (true = true)) ∧ (true = true)) ∧ (true = true)) ∧ (true = true)) ∧ (true = true)) ∧ (true = true)) ∧ (true = true)) ∧ (true = true)) ∧ (true = true)) ∧ (true = true)) ∧ (true = true)) ∧ (true = true)) ∧ ((decide (0 + List.length h1 ≤ List.length h1) && (decide (0 + List.length b1 ≤ List.length b1) && decide (List.length (sub h1 0 (List.length h1)) ≤ 100))) = true)) ∧ ((decide (0 + List.length h2 ≤ List.length h2) && (decide (0 + List.length b2 ≤ List.length b2) && decide (100 < List.length (sub h2 0 (List.length h2)) ∧ 100 ≤ c2))) = true)) ∧ (true = true)) ∧ (true = true)) ∧ (true = true)) ∧ (true = true)) ∧ (true = true)) ∧ (true = true)) ∧ (true = true)) ∧ (true = true)) ∧ (true = true)) ∧ (true = true)) ∧ (true = true)) ∧ (true = true)) ∧ ((decide (0 + List.length h1 ≤ List.length h1) && (decide (0 + List.length b1 ≤ List.length b1) && decide (List.length (sub h1 0 (List.length h1)) ≤ 100))) = true)) ∧ ((decide (0 + List.length h2 ≤ List.length h2) && (decide (0 + List.length b2 ≤ List.length b2) && decide (100 < List.length (sub h2 0 (List.length h2)) ∧ 100 ≤ c2))) = true)) ∧ (true = true)) ∧ (true = true)) ∧ (true = true)) ∧ (true = true)) ∧ (true = true)) ∧ (true = true)) ∧ (true = true)) ∧ (true = true)) ∧ (true = true)) ∧ (true = true)) ∧ (true = true)) ∧ (true = true)) ∧ ((decide (0 + List.length h2 ≤ List.length h2) && (decide (0 + List.length b2 ≤ List.length b2) && decide (100 < List.length (sub h2 0 (List.length h2)) ∧ 100 ≤ c2))) = true)) ∧ (true = true)) ∧ (true = true)) ∧ (true = true)) ∧ (true = true)) ∧ (true = true)) ∧ (true = true)) ∧ (true = true)) ∧ (true = true)) ∧ (true = true)) ∧ (true = true)) ∧ (true = true)) ∧ (true = true)) ∧ ((decide (0 + List.length h1 ≤ List.length h1) && (decide (0 + List.length b1 ≤ List.length b1) && decide (List.length (sub h1 0 (List.length h1)) ≤ 100))) = true)) ∧ ((decide (0 + List.length h2 ≤ List.length h2) && (decide (0 + List.length b2 ≤ List.length b2) && decide (100 < List.length (sub h2 0 (List.length h2)) ∧ 100 ≤ c2))) = true)) ∧ (true = true)) ∧ (true = true)) ∧ (true = true)) ∧ (true = true)) ∧ (true = true)) ∧ (true = true)) ∧ (true = true)) ∧ (true = true)) ∧ (true = true)) ∧ (true = true)) ∧ (true = true)) ∧ (true = true)) ∧ (true = true)) ∧ ((decide (0 + List.length h1 ≤ List.length h1) && (decide (0 + List.length b1 ≤ List.length b1) && decide (List.length s1 ≤ 4294967200 ∧ List.all (sub h1 0 (List.length h1)) short = true ∧ List.length (sub b1 0 (List.length b1)) ≤ 140737488355328))) = true)) ∧ (true = true)) ∧ ((decide (0 + List.length h1 ≤ List.length h1) && (decide (0 + List.length b1 ≤ List.length b1) && (decide (List.length (sub h1 0 (List.length h1)) ≤ 200) && true))) = true)) ∧ ((decide (0 + List.length (spNorm (sub h1 0 (List.length h1))) ≤ List.length (spNorm (sub h1 0 (List.length h1)))) && (decide (0 + List.length b1 ≤ List.length b1) && decide (List.length s1 ≤ 4294967200 ∧ List.all (sub (spNorm (sub h1 0 (List.length h1))) 0 (List.length (spNorm (sub h1 0 (List.length h1))))) short = true ∧ List.length (sub b1 0 (List.length b1)) ≤ 140737488355328))) = true)) ∧ (true = true)) ∧ (decide (0 + List.length (spBuildB s1 (sub h1 0 (List.length h1)) (sub b1 0 (List.length b1))) ≤ List.length (spBuildB s1 (sub h1 0 (List.length h1)) (sub b1 0 (List.length b1)))) = true)) ∧ (decide (0 + List.length (spBuildB s1 (sub (spNorm (sub h1 0 (List.length h1))) 0 (List.length (spNorm (sub h1 0 (List.length h1))))) (sub b1 0 (List.length b1))) ≤ List.length (spBuildB s1 (sub (spNorm (sub h1 0 (List.length h1))) 0 (List.length (spNorm (sub h1 0 (List.length h1))))) (sub b1 0 (List.length b1)))) = true)) ∧ ((List.map rowByte (sub (spBuildB s1 (sub h1 0 (List.length h1)) (sub b1 0 (List.length b1))) 0 (List.length (spBuildB s1 (sub h1 0 (List.length h1)) (sub b1 0 (List.length b1))))) == List.map rowByte (sub (spBuildB s1 (sub (spNorm (sub h1 0 (List.length h1))) 0 (List.length (spNorm (sub h1 0 (List.length h1))))) (sub b1 0 (List.length b1))) 0 (List.length (spBuildB s1 (sub (spNorm (sub h1 0 (List.length h1))) 0 (List.length (spNorm (sub h1 0 (List.length h1))))) (sub b1 0 (List.length b1)))))) = true)) ∧ ((spBuildE s1 (sub h1 0 (List.length h1)) (sub b1 0 (List.length b1)) == spBuildE s1 (sub (spNorm (sub h1 0 (List.length h1))) 0 (List.length (spNorm (sub h1 0 (List.length h1))))) (sub b1 0 (List.length b1))) = true)) ∧ (true = true)) ∧ (true = true)) ∧ ((decide (0 + List.length h1 ≤ List.length h1) && (decide (0 + List.length b1 ≤ List.length b1) && decide (List.length s1 ≤ 4294967200 ∧ List.all (sub h1 0 (List.length h1)) short = true ∧ List.length (sub b1 0 (List.length b1)) ≤ 140737488355328))) = true)) ∧ ((decide (0 + List.length h1 ≤ List.length h1) && (decide (0 + List.length b1 ≤ List.length b1) && (decide (List.length (sub h1 0 (List.length h1)) ≤ 200) && true))) = true)) ∧ ((decide (0 + List.length (spNorm (sub h1 0 (List.length h1))) ≤ List.length (spNorm (sub h1 0 (List.length h1)))) && (decide (0 + List.length b1 ≤ List.length b1) && decide (List.length s1 ≤ 4294967200 ∧ List.all (sub (spNorm (sub h1 0 (List.length h1))) 0 (List.length (spNorm (sub h1 0 (List.length h1))))) short = true ∧ List.length (sub b1 0 (List.length b1)) ≤ 140737488355328))) = true)) ∧ ((spRight s1 (sub h1 0 (List.length h1)) (List.length (sub b1 0 (List.length b1))) == spRefRight s1 (sub (spNorm (sub h1 0 (List.length h1))) 0 (List.length (spNorm (sub h1 0 (List.length h1))))) (List.length (sub b1 0 (List.length b1)))) = true)) ∧ (true = true)) ∧ (true = true)) ∧ (true = true)) ∧ (true = true)) ∧ ((decide (0 + List.length h1 ≤ List.length h1) && (decide (0 + List.length b1 ≤ List.length b1) && (decide (100 ≤ List.length h2) && (decide (0 + List.length b2 ≤ List.length b2) && decide (List.length (sub h1 0 (List.length h1)) ≤ 4611686018427387904))))) = true)) ∧ ((decide (0 + List.length h1 ≤ List.length h1) && (decide (0 + List.length b1 ≤ List.length b1) && (decide (List.length (sub h1 0 (List.length h1)) ≤ 200) && true))) = true)) ∧ ((decide (100 ≤ List.length h2) && (decide (0 + List.length b2 ≤ List.length b2) && (decide (List.length (sub h2 0 100) ≤ 200) && true))) = true)) ∧ ((decide (0 + List.length (spNorm (sub h1 0 (List.length h1))) ≤ List.length (spNorm (sub h1 0 (List.length h1)))) && (decide (0 + List.length b1 ≤ List.length b1) && (decide (0 + List.length (spNorm (sub h2 0 100)) ≤ List.length (spNorm (sub h2 0 100))) && (decide (0 + List.length b2 ≤ List.length b2) && decide (List.length (sub (spNorm (sub h1 0 (List.length h1))) 0 (List.length (spNorm (sub h1 0 (List.length h1))))) ≤ 4611686018427387904))))) = true)) := by unfold Path; kernel_rfl
theorem c6v21_ETTT (s1 : List UInt8) (s2 : List UInt8) (h1 : List (List AV)) (b1 : List (List AV)) (h2 : List (List AV)) (b2 : List (List AV)) (c1 : Nat) :
    Path (runCallB Tryz.prog P17 100 6 [AV.agg [AV.str s1, AV.sl (Loc.mk 0 0 0) (List.length h1) (Cap.known c1), AV.slq 1 (List.length b1)], AV.agg [AV.str s2, AV.slq 2 (List.length h2), AV.slq 3 (List.length b2)]] (st0 [Blk.cells false [Kd.str, Kd.str] h1, Blk.cells false [Kd.int IntKind.u8] b1, Blk.cells false [Kd.str, Kd.str] h2, Blk.cells false [Kd.int IntKind.u8] b2] ([PI.ev 1, .as_ true, .as_ true, .as_ true]))) 4 [] (SL.mk [] [] 4) (Out.ret (AV.bool (spSameM s1 (sub h1 0 100) (sub b1 0 (List.length b1)) s2 (sub h2 0 (List.length h2)) (sub b2 0 (List.length b2)) == spSameM s1 (sub (spNorm (sub h1 0 100)) 0 (List.length (spNorm (sub h1 0 100)))) (sub b1 0 (List.length b1)) s2 (sub (spNorm (sub h2 0 (List.length h2))) 0 (List.length (spNorm (sub h2 0 (List.length h2))))) (sub b2 0 (List.length b2)))))
      ((((((((((((((((((((((((((((((((((((((((((((((((((((((((((((((((((((((((((((((((((((((((((((((((((((((((((((((((((((((((((((((((((((((((((((((((((((((((((((((((((((((((((((((((((((((((((True ∧ (true = true)) ∧ (true = true)) ∧ ((decide (0 + List.length h1 ≤ List.length h1) && (decide (0 + List.length b1 ≤ List.length b1) && decide (100 < List.length (sub h1 0 (List.length h1)) ∧ 100 ≤ c1))) = true)) ∧ ((decide (0 + List.length h2 ≤ List.length h2) && (decide (0 + List.length b2 ≤ List.length b2) && decide (List.length (sub h2 0 (List.length h2)) ≤ 100))) = true)) ∧ (true = true)) ∧ (true = true)) ∧ (true = true)) ∧ (true = true)) ∧ (true = true)) ∧ (true = true)) ∧ (true = true)) ∧ (true = true)) ∧ (true = true)) ∧ (true = true)) ∧ (true = true)) ∧ (true = true)) ∧ (true = true)) ∧ (true = true)) ∧ (true = true)) ∧ (true = true)) ∧ (true = true)) ∧ (true = true)) ∧ (true = true)) ∧ (true = true)) ∧ (true = true)) ∧ (true = true)) ∧ (true = true)) ∧ (true = true)) ∧ ((decide (0 + List.length h2 ≤ List.length h2) && (decide (0 + List.length b2 ≤ List.length b2) && decide (List.length (sub h2 0 (List.length h2)) ≤ 100))) = true)) ∧ (true = true)) ∧ (true = true)) ∧ (true = true)) ∧ (true = true)) ∧ (true = true)) ∧ (true = true)) ∧ (true = true)) ∧ (true = true)) ∧ (true = true)) ∧ (true = true)) ∧ (true = true)) ∧ (true = true)) ∧ ((decide (0 + List.length h2 ≤ List.length h2) && (decide (0 + List.length b2 ≤ List.length b2) && decide (List.length (sub h2 0 (List.length h2)) ≤ 100))) = true)) ∧ (true = true)) ∧ (true = true)) ∧ (true = true)) ∧ (true = true)) ∧ (true = true)) ∧ (true = true)) ∧ (true = true)) ∧ (true = true)) ∧ (true = true)) ∧ (true = true)) ∧ (true = true)) ∧ (true = true)) ∧ ((decide (0 + List.length h2 ≤ List.length h2) && (decide (0 + List.length b2 ≤ List.length b2) && decide (List.length (sub h2 0 (List.length h2)) ≤ 100))) = true)) ∧ (true = true)) ∧ (true = true)) ∧ (true = true)) ∧ (true = true)) ∧ (true = true)) ∧ (true = true)) ∧ (true = true)) ∧ (true = true)) ∧ (true = true)) ∧ (true = true)) ∧ (true = true)) ∧ (true = true)) ∧ ((decide (0 + List.length h2 ≤ List.length h2) && (decide (0 + List.length b2 ≤ List.length b2) && decide (List.length (sub h2 0 (List.length h2)) ≤ 100))) = true)) ∧ (true = true)) ∧ (true = true)) ∧ (true = true)) ∧ (true = true)) ∧ (true = true)) ∧ (true = true)) ∧ (true = true)) ∧ (true = true)) ∧ (true = true)) ∧ (true = true)) ∧ (true = true)) ∧ (true = true)) ∧ ((decide (0 + List.length h1 ≤ List.length h1) && (decide (0 + List.length b1 ≤ List.length b1) && decide (100 < List.length (sub h1 0 (List.length h1)) ∧ 100 ≤ c1))) = true)) ∧ ((decide (0 + List.length h2 ≤ List.length h2) && (decide (0 + List.length b2 ≤ List.length b2) && decide (List.length (sub h2 0 (List.length h2)) ≤ 100))) = true)) ∧ (true = true)) ∧ (true = true)) ∧ (true = true)) ∧ (true = true)) ∧ (true = true)) ∧ (true = true)) ∧ (true = true)) ∧ (true = true)) ∧ (true = true)) ∧ (true = true)) ∧ (true = true)) ∧ (true = true)) ∧ ((decide (0 + List.length h2 ≤ List.length h2) && (decide (0 + List.length b2 ≤ List.length b2) && decide (List.length (sub h2 0 (List.length h2)) ≤ 100))) = true)) ∧ (true = true)) ∧ (true = true)) ∧ (true = true)) ∧ (true = true)) ∧ (true = true)) ∧ (true = true)) ∧ (true = true)) ∧ (true = true)) ∧ (true = true)) ∧ (true = true)) ∧ (true = true)) ∧ (true = true)) ∧ ((decide (0 + List.length h1 ≤ List.length h1) && (decide (0 + List.length b1 ≤ List.length b1) && decide (100 < List.length (sub h1 0 (List.length h1)) ∧ 100 ≤ c1))) = true)) ∧ ((decide (0 + List.length h2 ≤ List.length h2) && (decide (0 + List.length b2 ≤ List.length b2) && decide (List.length (sub h2 0 (List.length h2)) ≤ 100))) = true)) ∧ (true = true)) ∧ (true = true)) ∧ (true = true)) ∧ (true = true)) ∧ (true = true)) ∧ (true = true)) ∧ (true = true)) ∧ (true = true)) ∧ (true = true)) ∧ (true = true)) ∧ (true = true)) ∧ (true = true)) ∧ ((decide (0 + List.length h1 ≤ List.length h1) && (decide (0 + List.length b1 ≤ List.length b1) && decide (100 < List.length (sub h1 0 (List.length h1)) ∧ 100 ≤ c1))) = true)) ∧ ((decide (0 + List.length h2 ≤ List.length h2) && (decide (0 + List.length b2 ≤ List.length b2) && decide (List.length (sub h2 0 (List.length h2)) ≤ 100))) = true)) ∧ (true = true)) ∧ (true = true)) ∧ (true = true)) ∧ (true = true)) ∧ (true = true)) ∧ (true = true)) ∧ (true = true)) ∧ (true = true)) ∧ (true = true)) ∧ (true = true)) ∧ (true = true)) ∧ (true = true)) ∧ ((decide (0 + List.length h2 ≤ List.length h2) && (decide (0 + List.length b2 ≤ List.length b2) && decide (List.length (sub h2 0 (List.length h2)) ≤ 100))) = true)) ∧ (true = true)) ∧ (true = true)) ∧ (true = true)) ∧ (true = true)) ∧ (true = true)) ∧ (true = true)) ∧ (true = true)) ∧ (true = true)) ∧ (true = true)) ∧ (true = true)) ∧ (true = true)) ∧ (true = true)) ∧ ((decide (0 + List.length h1 ≤ List.length h1) && (decide (0 + List.length b1 ≤ List.length b1) && decide (100 < List.length (sub h1 0 (List.length h1)) ∧ 100 ≤ c1))) = true)) ∧ ((decide (0 + List.length h2 ≤ List.length h2) && (decide (0 + List.length b2 ≤ List.length b2) && decide (List.length (sub h2 0 (List.length h2)) ≤ 100))) = true)) ∧ (true = true)) ∧ (true = true)) ∧ (true = true)) ∧ (true = true)) ∧ (true = true)) ∧ (true = true)) ∧ (true = true)) ∧ (true = true)) ∧ (true = true)) ∧ (true = true)) ∧ (true = true)) ∧ (true = true)) ∧ (true = true)) ∧ ((decide (100 ≤ List.length h1) && (decide (0 + List.length b1 ≤ List.length b1) && decide (List.length s1 ≤ 4294967200 ∧ List.all (sub h1 0 100) short = true ∧ List.length (sub b1 0 (List.length b1)) ≤ 140737488355328))) = true)) ∧ (true = true)) ∧ ((decide (100 ≤ List.length h1) && (decide (0 + List.length b1 ≤ List.length b1) && (decide (List.length (sub h1 0 100) ≤ 200) && true))) = true)) ∧ ((decide (0 + List.length (spNorm (sub h1 0 100)) ≤ List.length (spNorm (sub h1 0 100))) && (decide (0 + List.length b1 ≤ List.length b1) && decide (List.length s1 ≤ 4294967200 ∧ List.all (sub (spNorm (sub h1 0 100)) 0 (List.length (spNorm (sub h1 0 100)))) short = true ∧ List.length (sub b1 0 (List.length b1)) ≤ 140737488355328))) = true)) ∧ (true = true)) ∧ (decide (0 + List.length (spBuildB s1 (sub h1 0 100) (sub b1 0 (List.length b1))) ≤ List.length (spBuildB s1 (sub h1 0 100) (sub b1 0 (List.length b1)))) = true)) ∧ (decide (0 + List.length (spBuildB s1 (sub (spNorm (sub h1 0 100)) 0 (List.length (spNorm (sub h1 0 100)))) (sub b1 0 (List.length b1))) ≤ List.length (spBuildB s1 (sub (spNorm (sub h1 0 100)) 0 (List.length (spNorm (sub h1 0 100)))) (sub b1 0 (List.length b1)))) = true)) ∧ ((List.map rowByte (sub (spBuildB s1 (sub h1 0 100) (sub b1 0 (List.length b1))) 0 (List.length (spBuildB s1 (sub h1 0 100) (sub b1 0 (List.length b1))))) == List.map rowByte (sub (spBuildB s1 (sub (spNorm (sub h1 0 100)) 0 (List.length (spNorm (sub h1 0 100)))) (sub b1 0 (List.length b1))) 0 (List.length (spBuildB s1 (sub (spNorm (sub h1 0 100)) 0 (List.length (spNorm (sub h1 0 100)))) (sub b1 0 (List.length b1)))))) = true)) ∧ ((spBuildE s1 (sub h1 0 100) (sub b1 0 (List.length b1)) == spBuildE s1 (sub (spNorm (sub h1 0 100)) 0 (List.length (spNorm (sub h1 0 100)))) (sub b1 0 (List.length b1))) = true)) ∧ (true = true)) ∧ (true = true)) ∧ ((decide (100 ≤ List.length h1) && (decide (0 + List.length b1 ≤ List.length b1) && decide (List.length s1 ≤ 4294967200 ∧ List.all (sub h1 0 100) short = true ∧ List.length (sub b1 0 (List.length b1)) ≤ 140737488355328))) = true)) ∧ ((decide (100 ≤ List.length h1) && (decide (0 + List.length b1 ≤ List.length b1) && (decide (List.length (sub h1 0 100) ≤ 200) && true))) = true)) ∧ ((decide (0 + List.length (spNorm (sub h1 0 100)) ≤ List.length (spNorm (sub h1 0 100))) && (decide (0 + List.length b1 ≤ List.length b1) && decide (List.length s1 ≤ 4294967200 ∧ List.all (sub (spNorm (sub h1 0 100)) 0 (List.length (spNorm (sub h1 0 100)))) short = true ∧ List.length (sub b1 0 (List.length b1)) ≤ 140737488355328))) = true)) ∧ ((spRight s1 (sub h1 0 100) (List.length (sub b1 0 (List.length b1))) == spRefRight s1 (sub (spNorm (sub h1 0 100)) 0 (List.length (spNorm (sub h1 0 100)))) (List.length (sub b1 0 (List.length b1)))) = true)) ∧ (true = true)) ∧ (true = true)) ∧ (true = true)) ∧ (true = true)) ∧ ((decide (100 ≤ List.length h1) && (decide (0 + List.length b1 ≤ List.length b1) && (decide (0 + List.length h2 ≤ List.length h2) && (decide (0 + List.length b2 ≤ List.length b2) && decide (List.length (sub h1 0 100) ≤ 4611686018427387904))))) = true)) ∧ ((decide (100 ≤ List.length h1) && (decide (0 + List.length b1 ≤ List.length b1) && (decide (List.length (sub h1 0 100) ≤ 200) && true))) = true)) ∧ ((decide (0 + List.length h2 ≤ List.length h2) && (decide (0 + List.length b2 ≤ List.length b2) && (decide (List.length (sub h2 0 (List.length h2)) ≤ 200) && true))) = true)) ∧ ((decide (0 + List.length (spNorm (sub h1 0 100)) ≤ List.length (spNorm (sub h1 0 100))) && (decide (0 + List.length b1 ≤ List.length b1) && (decide (0 + List.length (spNorm (sub h2 0 (List.length h2))) ≤ List.length (spNorm (sub h2 0 (List.length h2)))) && (decide (0 + List.length b2 ≤ List.length b2) && decide (List.length (sub (spNorm (sub h1 0 100)) 0 (List.length (spNorm (sub h1 0 100)))) ≤ 4611686018427387904))))) = true)) := by unfold Path; kernel_rfl
theorem c6v22_ETTT (s1 : List UInt8) (s2 : List UInt8) (h1 : List (List AV)) (b1 : List (List AV)) (h2 : List (List AV)) (b2 : List (List AV)) (c1 : Nat) (c2 : Nat) :
    Path (runCallB Tryz.prog P17 100 6 [AV.agg [AV.str s1, AV.sl (Loc.mk 0 0 0) (List.length h1) (Cap.known c1), AV.slq 1 (List.length b1)], AV.agg [AV.str s2, AV.sl (Loc.mk 2 0 0) (List.length h2) (Cap.known c2), AV.slq 3 (List.length b2)]] (st0 [Blk.cells false [Kd.str, Kd.str] h1, Blk.cells false [Kd.int IntKind.u8] b1, Blk.cells false [Kd.str, Kd.str] h2, Blk.cells false [Kd.int IntKind.u8] b2] ([PI.ev 1, .as_ true, .as_ true, .as_ true]))) 4 [] (SL.mk [] [] 4) (Out.ret (AV.bool (spSameM s1 (sub h1 0 100) (sub b1 0 (List.length b1)) s2 (sub h2 0 100) (sub b2 0 (List.length b2)) == spSameM s1 (sub (spNorm (sub h1 0 100)) 0 (List.length (spNorm (sub h1 0 100)))) (sub b1 0 (List.length b1)) s2 (sub (spNorm (sub h2 0 100)) 0 (List.length (spNorm (sub h2 0 100)))) (sub b2 0 (List.length b2)))))
      ((((((((((((((((((((((((((((((((((((((((((((((((((((((((((((((((((((((((((((((((((((((((((((((((((((((((((((((((((((((((((((((((((((((((((((((((((((((((((((((((((((((((((((((((((((((((((True ∧ (true = true)) ∧ (true = true)) ∧ ((decide (0 + List.length h1 ≤ List.length h1) && (decide (0 + List.length b1 ≤ List.length b1) && decide (100 < List.length (sub h1 0 (List.length h1)) ∧ 100 ≤ c1))) = true)) ∧ ((decide (0 + List.length h2 ≤ List.length h2) && (decide (0 + List.length b2 ≤ List.length b2) && decide (100 < List.length (sub h2 0 (List.length h2)) ∧ 100 ≤ c2))) = true)) ∧ (true = true)) ∧ (true = true)) ∧ (true = true)) ∧ (true = true)) ∧ (true = true)) ∧ (true = true)) ∧ (true = true)) ∧ (true = true)) ∧ (true = true)) ∧ (true = true)) ∧ (true = true)) ∧ (true = true)) ∧ (true = true)) ∧ (true = true)) ∧ (true = true)) ∧ (true = true)) ∧ (true = true)) ∧ (true = true)) ∧ (true = true)) ∧ (true = true)) ∧ (true = true)) ∧ (true = true)) ∧ (true = true)) ∧ (true = true)) ∧ ((decide (0 + List.length h2 ≤ List.length h2) && (decide (0 + List.length b2 ≤ List.length b2) && decide (100 < List.length (sub h2 0 (List.length h2)) ∧ 100 ≤ c2))) = true)) ∧ (true = true)) ∧ (true = true)) ∧ (true = true)) ∧ (true = true)) ∧ (true = true)) ∧ (true = true)) ∧ (true = true)) ∧ (true = true)) ∧ (true = true)) ∧ (true = true)) ∧ (true = true)) ∧ (true = true)) ∧ ((decide (0 + List.length h2 ≤ List.length h2) && (decide (0 + List.length b2 ≤ List.length b2) && decide (100 < List.length (sub h2 0 (List.length h2)) ∧ 100 ≤ c2))) = true)) ∧ (true = true)) ∧ (true = true)) ∧ (true = true)) ∧ (true = true)) ∧ (true = true)) ∧ (true = true)) ∧ (true = true)) ∧ (true = true)) ∧ (true = true)) ∧ (true = true)) ∧ (true = true)) ∧ (true = true)) ∧ ((decide (0 + List.length h2 ≤ List.length h2) && (decide (0 + List.length b2 ≤ List.length b2) && decide (100 < List.length (sub h2 0 (List.length h2)) ∧ 100 ≤ c2))) = true)) ∧ (true = true)) ∧ (true = true)) ∧ (true = true)) ∧ (true = true)) ∧ (true = true)) ∧ (true = true)) ∧ (true = true)) ∧ (true = true)) ∧ (true = true)) ∧ (true = true)) ∧ (true = true)) ∧ (true = true)) ∧ ((decide (0 + List.length h2 ≤ List.length h2) && (decide (0 + List.length b2 ≤ List.length b2) && decide (100 < List.length (sub h2 0 (List.length h2)) ∧ 100 ≤ c2))) = true)) ∧ (true = true)) ∧ (true = true)) ∧ (true = true)) ∧ (true = true)) ∧ (true = true)) ∧ (true = true)) ∧ (true = true)) ∧ (true = true)) ∧ (true = true)) ∧ (true = true)) ∧ (true = true)) ∧ (true = true)) ∧ ((decide (0 + List.length h1 ≤ List.length h1) && (decide (0 + List.length b1 ≤ List.length b1) && decide (100 < List.length (sub h1 0 (List.length h1)) ∧ 100 ≤ c1))) = true)) ∧ ((decide (0 + List.length h2 ≤ List.length h2) && (decide (0 + List.length b2 ≤ List.length b2) && decide (100 < List.length (sub h2 0 (List.length h2)) ∧ 100 ≤ c2))) = true)) ∧ (true = true)) ∧ (true = true)) ∧ (true = true)) ∧ (true = true)) ∧ (true = true)) ∧ (true = true)) ∧ (true = true)) ∧ (true = true)) ∧ (true = true)) ∧ (true = true)) ∧ (true = true)) ∧ (true = true)) ∧ ((decide (0 + List.length h2 ≤ List.length h2) && (decide (0 + List.length b2 ≤ List.length b2) && decide (100 < List.length (sub h2 0 (List.length h2)) ∧ 100 ≤ c2))) = true)) ∧ (true = true)) ∧ (true = true)) ∧ (true = true)) ∧ (true = true)) ∧ (true = true)) ∧ (true = true)) ∧ (true = true)) ∧ (true = true)) ∧ (true = true)) ∧ (true = true)) ∧ (true = true)) ∧ (true = true)) ∧ ((decide (0 + List.length h1 ≤ List.length h1) && (decide (0 + List.length b1 ≤ List.length b1) && decide (100 < List.length (sub h1 0 (List.length h1)) ∧ 100 ≤ c1))) = true)) ∧ ((decide (0 + List.length h2 ≤ List.length h2) && (decide (0 + List.length b2 ≤ List.length b2) && decide (100 < List.length (sub h2 0 (List.length h2)) ∧ 100 ≤ c2))) = true)) ∧ (true = true)) ∧ (true = true)) ∧ (true = true)) ∧ (true = true)) ∧ (true = true)) ∧ (true = true)) ∧ (true = true)) ∧ (true = true)) ∧ (true = true)) ∧ (true = true)) ∧ (true = true)) ∧ (true = true)) ∧ ((decide (0 + List.length h1 ≤ List.length h1) && (decide (0 + List.length b1 ≤ List.length b1) && decide (100 < List.length (sub h1 0 (List.length h1)) ∧ 100 ≤ c1))) = true)) ∧ ((decide (0 + List.length h2 ≤ List.length h2) && (decide (0 + List.length b2 ≤ List.length b2) && decide (100 < List.length (sub h2 0 (List.length h2)) ∧ 100 ≤ c2))) = true)) ∧ (true = true)) ∧ (true = true)) ∧ (true = true)) ∧ (true = true)) ∧ (true = true)) ∧ (true = true)) ∧ (true = true)) ∧ (true = true)) ∧ (true = true)) ∧ (true = true)) ∧ (true = true)) ∧ (true = true)) ∧ ((decide (0 + List.length h2 ≤ List.length h2) && (decide (0 + List.length b2 ≤ List.length b2) && decide (100 < List.length (sub h2 0 (List.length h2)) ∧ 100 ≤ c2))) = true)) ∧ (true = true)) ∧ (true = true)) ∧ (true = true)) ∧ (true = true)) ∧ (true = true)) ∧ (true = true)) ∧ (true = true)) ∧ (true = true)) ∧ (true = true)) ∧ (true = true)) ∧ (true = true)) ∧ (true = true)) ∧ ((decide (0 + List.length h1 ≤ List.length h1) && (decide (0 + List.length b1 ≤ List.length b1) && decide (100 < List.length (sub h1 0 (List.length h1)) ∧ 100 ≤ c1))) = true)) ∧ ((decide (0 + List.length h2 ≤ List.length h2) && (decide (0 + List.length b2 ≤ List.length b2) && decide (100 < List.length (sub h2 0 (List.length h2)) ∧ 100 ≤ c2))) = true)) ∧ (true = true)) ∧ (true = true)) ∧ (true = true)) ∧ (true = true)) ∧ (true = true)) ∧ (true = true)) ∧ (true = true)) ∧ (true = true)) ∧ (true = true)) ∧ (true = true)) ∧ (true = true)) ∧ (true = true)) ∧ (true = true)) ∧ ((decide (100 ≤ List.length h1) && (decide (0 + List.length b1 ≤ List.length b1) && decide (List.length s1 ≤ 4294967200 ∧ List.all (sub h1 0 100) short = true ∧ List.length (sub b1 0 (List.length b1)) ≤ 140737488355328))) = true)) ∧ (true = true)) ∧ ((decide (100 ≤ List.length h1) && (decide (0 + List.length b1 ≤ List.length b1) && (decide (List.length (sub h1 0 100) ≤ 200) && true))) = true)) ∧ ((decide (0 + List.length (spNorm (sub h1 0 100)) ≤ List.length (spNorm (sub h1 0 100))) && (decide (0 + List.length b1 ≤ List.length b1) && decide (List.length s1 ≤ 4294967200 ∧ List.all (sub (spNorm (sub h1 0 100)) 0 (List.length (spNorm (sub h1 0 100)))) short = true ∧ List.length (sub b1 0 (List.length b1)) ≤ 140737488355328))) = true)) ∧ (true = true)) ∧ (decide (0 + List.length (spBuildB s1 (sub h1 0 100) (sub b1 0 (List.length b1))) ≤ List.length (spBuildB s1 (sub h1 0 100) (sub b1 0 (List.length b1)))) = true)) ∧ (decide (0 + List.length (spBuildB s1 (sub (spNorm (sub h1 0 100)) 0 (List.length (spNorm (sub h1 0 100)))) (sub b1 0 (List.length b1))) ≤ List.length (spBuildB s1 (sub (spNorm (sub h1 0 100)) 0 (List.length (spNorm (sub h1 0 100)))) (sub b1 0 (List.length b1)))) = true)) ∧ ((List.map rowByte (sub (spBuildB s1 (sub h1 0 100) (sub b1 0 (List.length b1))) 0 (List.length (spBuildB s1 (sub h1 0 100) (sub b1 0 (List.length b1))))) == List.map rowByte (sub (spBuildB s1 (sub (spNorm (sub h1 0 100)) 0 (List.length (spNorm (sub h1 0 100)))) (sub b1 0 (List.length b1))) 0 (List.length (spBuildB s1 (sub (spNorm (sub h1 0 100)) 0 (List.length (spNorm (sub h1 0 100)))) (sub b1 0 (List.length b1)))))) = true)) ∧ ((spBuildE s1 (sub h1 0 100) (sub b1 0 (List.length b1)) == spBuildE s1 (sub (spNorm (sub h1 0 100)) 0 (List.length (spNorm (sub h1 0 100)))) (sub b1 0 (List.length b1))) = true)) ∧ (true = true)) ∧ (true = true)) ∧ ((decide (100 ≤ List.length h1) && (decide (0 + List.length b1 ≤ List.length b1) && decide (List.length s1 ≤ 4294967200 ∧ List.all (sub h1 0 100) short = true ∧ List.length (sub b1 0 (List.length b1)) ≤ 140737488355328))) = true)) ∧ ((decide (100 ≤ List.length h1) && (decide (0 + List.length b1 ≤ List.length b1) && (decide (List.length (sub h1 0 100) ≤ 200) && true))) = true)) ∧ ((decide (0 + List.length (spNorm (sub h1 0 100)) ≤ List.length (spNorm (sub h1 0 100))) && (decide (0 + List.length b1 ≤ List.length b1) && decide (List.length s1 ≤ 4294967200 ∧ List.all (sub (spNorm (sub h1 0 100)) 0 (List.length (spNorm (sub h1 0 100)))) short = true ∧ List.length (sub b1 0 (List.length b1)) ≤ 140737488355328))) = true)) ∧ ((spRight s1 (sub h1 0 100) (List.length (sub b1 0 (List.length b1))) == spRefRight s1 (sub (spNorm (sub h1 0 100)) 0 (List.length (spNorm (sub h1 0 100)))) (List.length (sub b1 0 (List.length b1)))) = true)) ∧ (true = true)) ∧ (true = true)) ∧ (true = true)) ∧ (true = true)) ∧ ((decide (100 ≤ List.length h1) && (decide (0 + List.length b1 ≤ List.length b1) && (decide (100 ≤ List.length h2) && (decide (0 + List.length b2 ≤ List.length b2) && decide (List.length (sub h1 0 100) ≤ 4611686018427387904))))) = true)) ∧ ((decide (100 ≤ List.length h1) && (decide (0 + List.length b1 ≤ List.length b1) && (decide (List.length (sub h1 0 100) ≤ 200) && true))) = true)) ∧ ((decide (100 ≤ List.length h2) && (decide (0 + List.length b2 ≤ List.length b2) && (decide (List.length (sub h2 0 100) ≤ 200) && true))) = true)) ∧ ((decide (0 + List.length (spNorm (sub h1 0 100)) ≤ List.length (spNorm (sub h1 0 100))) && (decide (0 + List.length b1 ≤ List.length b1) && (decide (0 + List.length (spNorm (sub h2 0 100)) ≤ List.length (spNorm (sub h2 0 100))) && (decide (0 + List.length b2 ≤ List.length b2) && decide (List.length (sub (spNorm (sub h1 0 100)) 0 (List.length (spNorm (sub h1 0 100)))) ≤ 4611686018427387904))))) = true)) := by unfold Path; kernel_rfl
theorem builds_calls {w : World} {s1 s2 : List UInt8} {h1 h2 : List (List AV)} {body1 body2 : List UInt8} {hv1 bv1 hv2 bv2 : Value} (gw : GW w) (hm1 : MsgIn w 1048576 s1 h1 body1 hv1 bv1) (hm2 : MsgIn w 1048576 s2 h2 body2 hv2 bv2) :
    Calls Tryz.prog 6 #[.agg #[.string ⟨s1.toArray⟩, hv1, bv1], .agg #[.string ⟨s2.toArray⟩, hv2, bv2]] w (fun e w' => e = .returned (.bool true) ∧ RowKit.Below w.heap.size w w') := by
  have hst1 := hm1.st; have hhl1 := hm1.hl; have hb01 := hm1.bl
  have hst2 := hm2.st; have hhl2 := hm2.hl; have hb02 := hm2.bl
  obtain ⟨b1, hbr1⟩ : ∃ b1, b1 = byteRows body1 := ⟨_, rfl⟩
  have hbl1 : b1.length ≤ 1048576 := by rw [hbr1, byteRows_length]; exact hb01
  have hmb1 : Reads w [.int .u8] b1 bv1 := by rw [hbr1]; exact hm1.b
  obtain ⟨b2, hbr2⟩ : ∃ b2, b2 = byteRows body2 := ⟨_, rfl⟩
  have hbl2 : b2.length ≤ 1048576 := by rw [hbr2, byteRows_length]; exact hb02
  have hmb2 : Reads w [.int .u8] b2 bv2 := by rw [hbr2]; exact hm2.b
  obtain ⟨y1, hy1⟩ := hmb1.bi gw rfl
  obtain ⟨y2, hy2⟩ := hmb2.bi gw rfl
  by_cases hn1 : h1.length ≤ 100
  · obtain ⟨x1, hx1⟩ := hm1.h.bi gw rfl
    have hmem1 : ∀ r ∈ h1, r ∈ h1 := fun r hr => hr
    have h101 : h1.length = h1.length := rfl
    have hsh1 : h1.all short = true := List.all_eq_true.2 fun r hr => decide_eq_true (by have := hm1.rows r (hmem1 r hr); omega)
    have eN1 : spNorm h1 = h1 := norm_self fun r hr => (hm1.rows r (hmem1 r hr)).2.1
    by_cases hn2 : h2.length ≤ 100
    · obtain ⟨x2, hx2⟩ := hm2.h.bi gw rfl
      have hmem2 : ∀ r ∈ h2, r ∈ h2 := fun r hr => hr
      have h102 : h2.length = h2.length := rfl
      have hsh2 : h2.all short = true := List.all_eq_true.2 fun r hr => decide_eq_true (by have := hm2.rows r (hmem2 r hr); omega)
      have eN2 : spNorm h2 = h2 := norm_self fun r hr => (hm2.rows r (hmem2 r hr)).2.1
      obtain ⟨ρ0, p1, p2, p3, p4, hE⟩ := four_ins gw (fun ρ b hb => (hx1 ρ b hb).2) (fun ρ b hb => (hy1 ρ b hb).2) (fun ρ b hb => (hx2 ρ b hb).2) (fun ρ b hb => (hy2 ρ b hb).2)
      have g1 := (hx1 ρ0 0 p1).1
      have g2 := (hy1 ρ0 1 p2).1
      have g3 := (hx2 ρ0 2 p3).1
      have g4 := (hy2 ρ0 3 p4).1
      have hcall := calls_pureB P17_ok (c6v11_ETTT s1 s2 h1 b1 h2 b2) (by refine ⟨⟨⟨⟨⟨⟨⟨⟨⟨⟨⟨⟨⟨⟨⟨⟨⟨⟨⟨⟨⟨⟨⟨⟨⟨⟨⟨⟨⟨⟨⟨⟨⟨⟨⟨⟨⟨⟨⟨⟨⟨⟨⟨⟨⟨⟨⟨⟨⟨⟨⟨⟨⟨⟨⟨⟨⟨⟨⟨⟨⟨⟨⟨⟨⟨⟨⟨⟨⟨⟨⟨⟨⟨⟨⟨⟨⟨⟨⟨⟨⟨⟨⟨⟨⟨⟨⟨⟨⟨⟨⟨⟨⟨⟨⟨⟨⟨⟨⟨⟨⟨⟨⟨⟨⟨⟨⟨⟨⟨⟨⟨⟨⟨⟨⟨⟨⟨⟨⟨⟨⟨⟨⟨⟨⟨⟨⟨⟨⟨⟨⟨⟨⟨⟨⟨⟨⟨⟨⟨⟨⟨⟨⟨⟨⟨⟨⟨⟨⟨⟨⟨⟨⟨⟨⟨⟨⟨⟨⟨⟨⟨⟨⟨⟨⟨⟨⟨⟨⟨⟨⟨⟨⟨⟨⟨⟨⟨⟨⟨⟨⟨⟨⟨⟨⟨⟨trivial, rfl⟩, rfl⟩, ?_⟩, ?_⟩, rfl⟩, rfl⟩, rfl⟩, rfl⟩, rfl⟩, rfl⟩, rfl⟩, rfl⟩, rfl⟩, rfl⟩, rfl⟩, rfl⟩, rfl⟩, rfl⟩, rfl⟩, rfl⟩, rfl⟩, rfl⟩, rfl⟩, rfl⟩, rfl⟩, rfl⟩, rfl⟩, rfl⟩, ?_⟩, rfl⟩, rfl⟩, rfl⟩, rfl⟩, rfl⟩, rfl⟩, rfl⟩, rfl⟩, rfl⟩, rfl⟩, rfl⟩, rfl⟩, ?_⟩, rfl⟩, rfl⟩, rfl⟩, rfl⟩, rfl⟩, rfl⟩, rfl⟩, rfl⟩, rfl⟩, rfl⟩, rfl⟩, rfl⟩, ?_⟩, rfl⟩, rfl⟩, rfl⟩, rfl⟩, rfl⟩, rfl⟩, rfl⟩, rfl⟩, rfl⟩, rfl⟩, rfl⟩, rfl⟩, ?_⟩, rfl⟩, rfl⟩, rfl⟩, rfl⟩, rfl⟩, rfl⟩, rfl⟩, rfl⟩, rfl⟩, rfl⟩, rfl⟩, rfl⟩, ?_⟩, ?_⟩, rfl⟩, rfl⟩, rfl⟩, rfl⟩, rfl⟩, rfl⟩, rfl⟩, rfl⟩, rfl⟩, rfl⟩, rfl⟩, rfl⟩, ?_⟩, rfl⟩, rfl⟩, rfl⟩, rfl⟩, rfl⟩, rfl⟩, rfl⟩, rfl⟩, rfl⟩, rfl⟩, rfl⟩, rfl⟩, ?_⟩, ?_⟩, rfl⟩, rfl⟩, rfl⟩, rfl⟩, rfl⟩, rfl⟩, rfl⟩, rfl⟩, rfl⟩, rfl⟩, rfl⟩, rfl⟩, ?_⟩, ?_⟩, rfl⟩, rfl⟩, rfl⟩, rfl⟩, rfl⟩, rfl⟩, rfl⟩, rfl⟩, rfl⟩, rfl⟩, rfl⟩, rfl⟩, ?_⟩, rfl⟩, rfl⟩, rfl⟩, rfl⟩, rfl⟩, rfl⟩, rfl⟩, rfl⟩, rfl⟩, rfl⟩, rfl⟩, rfl⟩, ?_⟩, ?_⟩, rfl⟩, rfl⟩, rfl⟩, rfl⟩, rfl⟩, rfl⟩, rfl⟩, rfl⟩, rfl⟩, rfl⟩, rfl⟩, rfl⟩, rfl⟩, ?_⟩, rfl⟩, ?_⟩, ?_⟩, rfl⟩, ?_⟩, ?_⟩, ?_⟩, ?_⟩, rfl⟩, rfl⟩, ?_⟩, ?_⟩, ?_⟩, ?_⟩, rfl⟩, rfl⟩, rfl⟩, rfl⟩, ?_⟩, ?_⟩, ?_⟩, ?_⟩ <;> (first | rfl | exact decide_eq_true (by omega) | exact decide_eq_false (by omega) | ((try simp only [sub_whl]); simp only [eN1, eN2, refRight_eq, hsh1, hsh2, h101, h102, Bool.and_eq_true, decide_eq_true_eq, and_true, true_and, eq_self, beq_self_eq_true] <;> omega) | ((try simp only [sub_whl]); simp only [eN1, eN2, refRight_eq, hsh1, hsh2, h101, h102, Bool.and_eq_true, decide_eq_true_eq, and_true, true_and, eq_self, beq_self_eq_true]))) hE rfl rfl rfl
      have hargs : concL ρ0 [AV.agg [.str s1, .slq 0 h1.length, .slq 1 b1.length], AV.agg [.str s2, .slq 2 h2.length, .slq 3 b2.length]] = [.agg #[.string ⟨s1.toArray⟩, hv1, bv1], .agg #[.string ⟨s2.toArray⟩, hv2, bv2]] := by
        show [Value.agg (concL ρ0 [AV.str s1, .slq 0 h1.length, .slq 1 b1.length]).toArray, Value.agg (concL ρ0 [AV.str s2, .slq 2 h2.length, .slq 3 b2.length]).toArray] = _
        simp only [concL]
        rw [g1, g2, g3, g4]
        rfl
      rw [hargs] at hcall
      refine hcall.mono fun e w' hx => ?_
      obtain ⟨rfl, hb⟩ := hx
      refine ⟨?_, hb⟩
      simp only [sub_whl, eN1, eN2, conc, beq_self_eq_true]
    · obtain ⟨x2, c2, hx2, a2, ha2⟩ := reads_sl hm2.h (by omega) rfl
      have hc2 := hm2.cap _ _ _ ha2
      have hmem2 : ∀ r ∈ sub h2 0 100, r ∈ h2 := fun r hr => List.mem_of_mem_drop (List.mem_of_mem_take hr)
      have h102 : (sub h2 0 100).length = 100 := sub_length (by omega)
      have hsh2 : (sub h2 0 100).all short = true := List.all_eq_true.2 fun r hr => decide_eq_true (by have := hm2.rows r (hmem2 r hr); omega)
      have eN2 : spNorm (sub h2 0 100) = (sub h2 0 100) := norm_self fun r hr => (hm2.rows r (hmem2 r hr)).2.1
      obtain ⟨ρ0, p1, p2, p3, p4, hE⟩ := four_ins gw (fun ρ b hb => (hx1 ρ b hb).2) (fun ρ b hb => (hy1 ρ b hb).2) (fun ρ b hb => (hx2 ρ b hb).2) (fun ρ b hb => (hy2 ρ b hb).2)
      have g1 := (hx1 ρ0 0 p1).1
      have g2 := (hy1 ρ0 1 p2).1
      have g3 := (hx2 ρ0 2 p3).1
      have g4 := (hy2 ρ0 3 p4).1
      have hcall := calls_pureB P17_ok (c6v12_ETTT s1 s2 h1 b1 h2 b2 c2) (by refine ⟨⟨⟨⟨⟨⟨⟨⟨⟨⟨⟨⟨⟨⟨⟨⟨⟨⟨⟨⟨⟨⟨⟨⟨⟨⟨⟨⟨⟨⟨⟨⟨⟨⟨⟨⟨⟨⟨⟨⟨⟨⟨⟨⟨⟨⟨⟨⟨⟨⟨⟨⟨⟨⟨⟨⟨⟨⟨⟨⟨⟨⟨⟨⟨⟨⟨⟨⟨⟨⟨⟨⟨⟨⟨⟨⟨⟨⟨⟨⟨⟨⟨⟨⟨⟨⟨⟨⟨⟨⟨⟨⟨⟨⟨⟨⟨⟨⟨⟨⟨⟨⟨⟨⟨⟨⟨⟨⟨⟨⟨⟨⟨⟨⟨⟨⟨⟨⟨⟨⟨⟨⟨⟨⟨⟨⟨⟨⟨⟨⟨⟨⟨⟨⟨⟨⟨⟨⟨⟨⟨⟨⟨⟨⟨⟨⟨⟨⟨⟨⟨⟨⟨⟨⟨⟨⟨⟨⟨⟨⟨⟨⟨⟨⟨⟨⟨⟨⟨⟨⟨⟨⟨⟨⟨⟨⟨⟨⟨⟨⟨⟨⟨⟨⟨⟨⟨trivial, rfl⟩, rfl⟩, ?_⟩, ?_⟩, rfl⟩, rfl⟩, rfl⟩, rfl⟩, rfl⟩, rfl⟩, rfl⟩, rfl⟩, rfl⟩, rfl⟩, rfl⟩, rfl⟩, rfl⟩, rfl⟩, rfl⟩, rfl⟩, rfl⟩, rfl⟩, rfl⟩, rfl⟩, rfl⟩, rfl⟩, rfl⟩, rfl⟩, ?_⟩, rfl⟩, rfl⟩, rfl⟩, rfl⟩, rfl⟩, rfl⟩, rfl⟩, rfl⟩, rfl⟩, rfl⟩, rfl⟩, rfl⟩, ?_⟩, rfl⟩, rfl⟩, rfl⟩, rfl⟩, rfl⟩, rfl⟩, rfl⟩, rfl⟩, rfl⟩, rfl⟩, rfl⟩, rfl⟩, ?_⟩, rfl⟩, rfl⟩, rfl⟩, rfl⟩, rfl⟩, rfl⟩, rfl⟩, rfl⟩, rfl⟩, rfl⟩, rfl⟩, rfl⟩, ?_⟩, rfl⟩, rfl⟩, rfl⟩, rfl⟩, rfl⟩, rfl⟩, rfl⟩, rfl⟩, rfl⟩, rfl⟩, rfl⟩, rfl⟩, ?_⟩, ?_⟩, rfl⟩, rfl⟩, rfl⟩, rfl⟩, rfl⟩, rfl⟩, rfl⟩, rfl⟩, rfl⟩, rfl⟩, rfl⟩, rfl⟩, ?_⟩, rfl⟩, rfl⟩, rfl⟩, rfl⟩, rfl⟩, rfl⟩, rfl⟩, rfl⟩, rfl⟩, rfl⟩, rfl⟩, rfl⟩, ?_⟩, ?_⟩, rfl⟩, rfl⟩, rfl⟩, rfl⟩, rfl⟩, rfl⟩, rfl⟩, rfl⟩, rfl⟩, rfl⟩, rfl⟩, rfl⟩, ?_⟩, ?_⟩, rfl⟩, rfl⟩, rfl⟩, rfl⟩, rfl⟩, rfl⟩, rfl⟩, rfl⟩, rfl⟩, rfl⟩, rfl⟩, rfl⟩, ?_⟩, rfl⟩, rfl⟩, rfl⟩, rfl⟩, rfl⟩, rfl⟩, rfl⟩, rfl⟩, rfl⟩, rfl⟩, rfl⟩, rfl⟩, ?_⟩, ?_⟩, rfl⟩, rfl⟩, rfl⟩, rfl⟩, rfl⟩, rfl⟩, rfl⟩, rfl⟩, rfl⟩, rfl⟩, rfl⟩, rfl⟩, rfl⟩, ?_⟩, rfl⟩, ?_⟩, ?_⟩, rfl⟩, ?_⟩, ?_⟩, ?_⟩, ?_⟩, rfl⟩, rfl⟩, ?_⟩, ?_⟩, ?_⟩, ?_⟩, rfl⟩, rfl⟩, rfl⟩, rfl⟩, ?_⟩, ?_⟩, ?_⟩, ?_⟩ <;> (first | rfl | exact decide_eq_true (by omega) | exact decide_eq_false (by omega) | ((try simp only [sub_whl]); simp only [eN1, eN2, refRight_eq, hsh1, hsh2, h101, h102, Bool.and_eq_true, decide_eq_true_eq, and_true, true_and, eq_self, beq_self_eq_true] <;> omega) | ((try simp only [sub_whl]); simp only [eN1, eN2, refRight_eq, hsh1, hsh2, h101, h102, Bool.and_eq_true, decide_eq_true_eq, and_true, true_and, eq_self, beq_self_eq_true]))) hE rfl rfl rfl
      have hargs : concL ρ0 [AV.agg [.str s1, .slq 0 h1.length, .slq 1 b1.length], AV.agg [.str s2, .sl ⟨2, 0, 0⟩ h2.length (.known c2), .slq 3 b2.length]] = [.agg #[.string ⟨s1.toArray⟩, hv1, bv1], .agg #[.string ⟨s2.toArray⟩, hv2, bv2]] := by
        show [Value.agg (concL ρ0 [AV.str s1, .slq 0 h1.length, .slq 1 b1.length]).toArray, Value.agg (concL ρ0 [AV.str s2, .sl ⟨2, 0, 0⟩ h2.length (.known c2), .slq 3 b2.length]).toArray] = _
        simp only [concL]
        rw [g1, g2, g3, g4]
        rfl
      rw [hargs] at hcall
      refine hcall.mono fun e w' hx => ?_
      obtain ⟨rfl, hb⟩ := hx
      refine ⟨?_, hb⟩
      simp only [sub_whl, eN1, eN2, conc, beq_self_eq_true]
  · obtain ⟨x1, c1, hx1, a1, ha1⟩ := reads_sl hm1.h (by omega) rfl
    have hc1 := hm1.cap _ _ _ ha1
    have hmem1 : ∀ r ∈ sub h1 0 100, r ∈ h1 := fun r hr => List.mem_of_mem_drop (List.mem_of_mem_take hr)
    have h101 : (sub h1 0 100).length = 100 := sub_length (by omega)
    have hsh1 : (sub h1 0 100).all short = true := List.all_eq_true.2 fun r hr => decide_eq_true (by have := hm1.rows r (hmem1 r hr); omega)
    have eN1 : spNorm (sub h1 0 100) = (sub h1 0 100) := norm_self fun r hr => (hm1.rows r (hmem1 r hr)).2.1
    by_cases hn2 : h2.length ≤ 100
    · obtain ⟨x2, hx2⟩ := hm2.h.bi gw rfl
      have hmem2 : ∀ r ∈ h2, r ∈ h2 := fun r hr => hr
      have h102 : h2.length = h2.length := rfl
      have hsh2 : h2.all short = true := List.all_eq_true.2 fun r hr => decide_eq_true (by have := hm2.rows r (hmem2 r hr); omega)
      have eN2 : spNorm h2 = h2 := norm_self fun r hr => (hm2.rows r (hmem2 r hr)).2.1
      obtain ⟨ρ0, p1, p2, p3, p4, hE⟩ := four_ins gw (fun ρ b hb => (hx1 ρ b hb).2) (fun ρ b hb => (hy1 ρ b hb).2) (fun ρ b hb => (hx2 ρ b hb).2) (fun ρ b hb => (hy2 ρ b hb).2)
      have g1 := (hx1 ρ0 0 p1).1
      have g2 := (hy1 ρ0 1 p2).1
      have g3 := (hx2 ρ0 2 p3).1
      have g4 := (hy2 ρ0 3 p4).1
      have hcall := calls_pureB P17_ok (c6v21_ETTT s1 s2 h1 b1 h2 b2 c1) (by refine ⟨⟨⟨⟨⟨⟨⟨⟨⟨⟨⟨⟨⟨⟨⟨⟨⟨⟨⟨⟨⟨⟨⟨⟨⟨⟨⟨⟨⟨⟨⟨⟨⟨⟨⟨⟨⟨⟨⟨⟨⟨⟨⟨⟨⟨⟨⟨⟨⟨⟨⟨⟨⟨⟨⟨⟨⟨⟨⟨⟨⟨⟨⟨⟨⟨⟨⟨⟨⟨⟨⟨⟨⟨⟨⟨⟨⟨⟨⟨⟨⟨⟨⟨⟨⟨⟨⟨⟨⟨⟨⟨⟨⟨⟨⟨⟨⟨⟨⟨⟨⟨⟨⟨⟨⟨⟨⟨⟨⟨⟨⟨⟨⟨⟨⟨⟨⟨⟨⟨⟨⟨⟨⟨⟨⟨⟨⟨⟨⟨⟨⟨⟨⟨⟨⟨⟨⟨⟨⟨⟨⟨⟨⟨⟨⟨⟨⟨⟨⟨⟨⟨⟨⟨⟨⟨⟨⟨⟨⟨⟨⟨⟨⟨⟨⟨⟨⟨⟨⟨⟨⟨⟨⟨⟨⟨⟨⟨⟨⟨⟨⟨⟨⟨⟨⟨⟨trivial, rfl⟩, rfl⟩, ?_⟩, ?_⟩, rfl⟩, rfl⟩, rfl⟩, rfl⟩, rfl⟩, rfl⟩, rfl⟩, rfl⟩, rfl⟩, rfl⟩, rfl⟩, rfl⟩, rfl⟩, rfl⟩, rfl⟩, rfl⟩, rfl⟩, rfl⟩, rfl⟩, rfl⟩, rfl⟩, rfl⟩, rfl⟩, rfl⟩, ?_⟩, rfl⟩, rfl⟩, rfl⟩, rfl⟩, rfl⟩, rfl⟩, rfl⟩, rfl⟩, rfl⟩, rfl⟩, rfl⟩, rfl⟩, ?_⟩, rfl⟩, rfl⟩, rfl⟩, rfl⟩, rfl⟩, rfl⟩, rfl⟩, rfl⟩, rfl⟩, rfl⟩, rfl⟩, rfl⟩, ?_⟩, rfl⟩, rfl⟩, rfl⟩, rfl⟩, rfl⟩, rfl⟩, rfl⟩, rfl⟩, rfl⟩, rfl⟩, rfl⟩, rfl⟩, ?_⟩, rfl⟩, rfl⟩, rfl⟩, rfl⟩, rfl⟩, rfl⟩, rfl⟩, rfl⟩, rfl⟩, rfl⟩, rfl⟩, rfl⟩, ?_⟩, ?_⟩, rfl⟩, rfl⟩, rfl⟩, rfl⟩, rfl⟩, rfl⟩, rfl⟩, rfl⟩, rfl⟩, rfl⟩, rfl⟩, rfl⟩, ?_⟩, rfl⟩, rfl⟩, rfl⟩, rfl⟩, rfl⟩, rfl⟩, rfl⟩, rfl⟩, rfl⟩, rfl⟩, rfl⟩, rfl⟩, ?_⟩, ?_⟩, rfl⟩, rfl⟩, rfl⟩, rfl⟩, rfl⟩, rfl⟩, rfl⟩, rfl⟩, rfl⟩, rfl⟩, rfl⟩, rfl⟩, ?_⟩, ?_⟩, rfl⟩, rfl⟩, rfl⟩, rfl⟩, rfl⟩, rfl⟩, rfl⟩, rfl⟩, rfl⟩, rfl⟩, rfl⟩, rfl⟩, ?_⟩, rfl⟩, rfl⟩, rfl⟩, rfl⟩, rfl⟩, rfl⟩, rfl⟩, rfl⟩, rfl⟩, rfl⟩, rfl⟩, rfl⟩, ?_⟩, ?_⟩, rfl⟩, rfl⟩, rfl⟩, rfl⟩, rfl⟩, rfl⟩, rfl⟩, rfl⟩, rfl⟩, rfl⟩, rfl⟩, rfl⟩, rfl⟩, ?_⟩, rfl⟩, ?_⟩, ?_⟩, rfl⟩, ?_⟩, ?_⟩, ?_⟩, ?_⟩, rfl⟩, rfl⟩, ?_⟩, ?_⟩, ?_⟩, ?_⟩, rfl⟩, rfl⟩, rfl⟩, rfl⟩, ?_⟩, ?_⟩, ?_⟩, ?_⟩ <;> (first | rfl | exact decide_eq_true (by omega) | exact decide_eq_false (by omega) | ((try simp only [sub_whl]); simp only [eN1, eN2, refRight_eq, hsh1, hsh2, h101, h102, Bool.and_eq_true, decide_eq_true_eq, and_true, true_and, eq_self, beq_self_eq_true] <;> omega) | ((try simp only [sub_whl]); simp only [eN1, eN2, refRight_eq, hsh1, hsh2, h101, h102, Bool.and_eq_true, decide_eq_true_eq, and_true, true_and, eq_self, beq_self_eq_true]))) hE rfl rfl rfl
      have hargs : concL ρ0 [AV.agg [.str s1, .sl ⟨0, 0, 0⟩ h1.length (.known c1), .slq 1 b1.length], AV.agg [.str s2, .slq 2 h2.length, .slq 3 b2.length]] = [.agg #[.string ⟨s1.toArray⟩, hv1, bv1], .agg #[.string ⟨s2.toArray⟩, hv2, bv2]] := by
        show [Value.agg (concL ρ0 [AV.str s1, .sl ⟨0, 0, 0⟩ h1.length (.known c1), .slq 1 b1.length]).toArray, Value.agg (concL ρ0 [AV.str s2, .slq 2 h2.length, .slq 3 b2.length]).toArray] = _
        simp only [concL]
        rw [g1, g2, g3, g4]
        rfl
      rw [hargs] at hcall
      refine hcall.mono fun e w' hx => ?_
      obtain ⟨rfl, hb⟩ := hx
      refine ⟨?_, hb⟩
      simp only [sub_whl, eN1, eN2, conc, beq_self_eq_true]
    · obtain ⟨x2, c2, hx2, a2, ha2⟩ := reads_sl hm2.h (by omega) rfl
      have hc2 := hm2.cap _ _ _ ha2
      have hmem2 : ∀ r ∈ sub h2 0 100, r ∈ h2 := fun r hr => List.mem_of_mem_drop (List.mem_of_mem_take hr)
      have h102 : (sub h2 0 100).length = 100 := sub_length (by omega)
      have hsh2 : (sub h2 0 100).all short = true := List.all_eq_true.2 fun r hr => decide_eq_true (by have := hm2.rows r (hmem2 r hr); omega)
      have eN2 : spNorm (sub h2 0 100) = (sub h2 0 100) := norm_self fun r hr => (hm2.rows r (hmem2 r hr)).2.1
      obtain ⟨ρ0, p1, p2, p3, p4, hE⟩ := four_ins gw (fun ρ b hb => (hx1 ρ b hb).2) (fun ρ b hb => (hy1 ρ b hb).2) (fun ρ b hb => (hx2 ρ b hb).2) (fun ρ b hb => (hy2 ρ b hb).2)
      have g1 := (hx1 ρ0 0 p1).1
      have g2 := (hy1 ρ0 1 p2).1
      have g3 := (hx2 ρ0 2 p3).1
      have g4 := (hy2 ρ0 3 p4).1
      have hcall := calls_pureB P17_ok (c6v22_ETTT s1 s2 h1 b1 h2 b2 c1 c2) (by refine ⟨⟨⟨⟨⟨⟨⟨⟨⟨⟨⟨⟨⟨⟨⟨⟨⟨⟨⟨⟨⟨⟨⟨⟨⟨⟨⟨⟨⟨⟨⟨⟨⟨⟨⟨⟨⟨⟨⟨⟨⟨⟨⟨⟨⟨⟨⟨⟨⟨⟨⟨⟨⟨⟨⟨⟨⟨⟨⟨⟨⟨⟨⟨⟨⟨⟨⟨⟨⟨⟨⟨⟨⟨⟨⟨⟨⟨⟨⟨⟨⟨⟨⟨⟨⟨⟨⟨⟨⟨⟨⟨⟨⟨⟨⟨⟨⟨⟨⟨⟨⟨⟨⟨⟨⟨⟨⟨⟨⟨⟨⟨⟨⟨⟨⟨⟨⟨⟨⟨⟨⟨⟨⟨⟨⟨⟨⟨⟨⟨⟨⟨⟨⟨⟨⟨⟨⟨⟨⟨⟨⟨⟨⟨⟨⟨⟨⟨⟨⟨⟨⟨⟨⟨⟨⟨⟨⟨⟨⟨⟨⟨⟨⟨⟨⟨⟨⟨⟨⟨⟨⟨⟨⟨⟨⟨⟨⟨⟨⟨⟨⟨⟨⟨⟨⟨⟨trivial, rfl⟩, rfl⟩, ?_⟩, ?_⟩, rfl⟩, rfl⟩, rfl⟩, rfl⟩, rfl⟩, rfl⟩, rfl⟩, rfl⟩, rfl⟩, rfl⟩, rfl⟩, rfl⟩, rfl⟩, rfl⟩, rfl⟩, rfl⟩, rfl⟩, rfl⟩, rfl⟩, rfl⟩, rfl⟩, rfl⟩, rfl⟩, rfl⟩, ?_⟩, rfl⟩, rfl⟩, rfl⟩, rfl⟩, rfl⟩, rfl⟩, rfl⟩, rfl⟩, rfl⟩, rfl⟩, rfl⟩, rfl⟩, ?_⟩, rfl⟩, rfl⟩, rfl⟩, rfl⟩, rfl⟩, rfl⟩, rfl⟩, rfl⟩, rfl⟩, rfl⟩, rfl⟩, rfl⟩, ?_⟩, rfl⟩, rfl⟩, rfl⟩, rfl⟩, rfl⟩, rfl⟩, rfl⟩, rfl⟩, rfl⟩, rfl⟩, rfl⟩, rfl⟩, ?_⟩, rfl⟩, rfl⟩, rfl⟩, rfl⟩, rfl⟩, rfl⟩, rfl⟩, rfl⟩, rfl⟩, rfl⟩, rfl⟩, rfl⟩, ?_⟩, ?_⟩, rfl⟩, rfl⟩, rfl⟩, rfl⟩, rfl⟩, rfl⟩, rfl⟩, rfl⟩, rfl⟩, rfl⟩, rfl⟩, rfl⟩, ?_⟩, rfl⟩, rfl⟩, rfl⟩, rfl⟩, rfl⟩, rfl⟩, rfl⟩, rfl⟩, rfl⟩, rfl⟩, rfl⟩, rfl⟩, ?_⟩, ?_⟩, rfl⟩, rfl⟩, rfl⟩, rfl⟩, rfl⟩, rfl⟩, rfl⟩, rfl⟩, rfl⟩, rfl⟩, rfl⟩, rfl⟩, ?_⟩, ?_⟩, rfl⟩, rfl⟩, rfl⟩, rfl⟩, rfl⟩, rfl⟩, rfl⟩, rfl⟩, rfl⟩, rfl⟩, rfl⟩, rfl⟩, ?_⟩, rfl⟩, rfl⟩, rfl⟩, rfl⟩, rfl⟩, rfl⟩, rfl⟩, rfl⟩, rfl⟩, rfl⟩, rfl⟩, rfl⟩, ?_⟩, ?_⟩, rfl⟩, rfl⟩, rfl⟩, rfl⟩, rfl⟩, rfl⟩, rfl⟩, rfl⟩, rfl⟩, rfl⟩, rfl⟩, rfl⟩, rfl⟩, ?_⟩, rfl⟩, ?_⟩, ?_⟩, rfl⟩, ?_⟩, ?_⟩, ?_⟩, ?_⟩, rfl⟩, rfl⟩, ?_⟩, ?_⟩, ?_⟩, ?_⟩, rfl⟩, rfl⟩, rfl⟩, rfl⟩, ?_⟩, ?_⟩, ?_⟩, ?_⟩ <;> (first | rfl | exact decide_eq_true (by omega) | exact decide_eq_false (by omega) | ((try simp only [sub_whl]); simp only [eN1, eN2, refRight_eq, hsh1, hsh2, h101, h102, Bool.and_eq_true, decide_eq_true_eq, and_true, true_and, eq_self, beq_self_eq_true] <;> omega) | ((try simp only [sub_whl]); simp only [eN1, eN2, refRight_eq, hsh1, hsh2, h101, h102, Bool.and_eq_true, decide_eq_true_eq, and_true, true_and, eq_self, beq_self_eq_true]))) hE rfl rfl rfl
      have hargs : concL ρ0 [AV.agg [.str s1, .sl ⟨0, 0, 0⟩ h1.length (.known c1), .slq 1 b1.length], AV.agg [.str s2, .sl ⟨2, 0, 0⟩ h2.length (.known c2), .slq 3 b2.length]] = [.agg #[.string ⟨s1.toArray⟩, hv1, bv1], .agg #[.string ⟨s2.toArray⟩, hv2, bv2]] := by
        show [Value.agg (concL ρ0 [AV.str s1, .sl ⟨0, 0, 0⟩ h1.length (.known c1), .slq 1 b1.length]).toArray, Value.agg (concL ρ0 [AV.str s2, .sl ⟨2, 0, 0⟩ h2.length (.known c2), .slq 3 b2.length]).toArray] = _
        simp only [concL]
        rw [g1, g2, g3, g4]
        rfl
      rw [hargs] at hcall
      refine hcall.mono fun e w' hx => ?_
      obtain ⟨rfl, hb⟩ := hx
      refine ⟨?_, hb⟩
      simp only [sub_whl, eN1, eN2, conc, beq_self_eq_true]
end Go.Proofs.YtpdgmgkkbbndfaaGreatDoor
