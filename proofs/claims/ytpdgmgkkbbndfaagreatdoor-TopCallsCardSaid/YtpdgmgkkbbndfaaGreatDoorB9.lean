/- TopCalls: a call's message, rewritten, names the public address and ports in place of the host's, and its length is right; for every input -/
import Derived.Test.YtpdgmgkkbbndfaaGreatDoorB4
set_option linter.unusedSectionVars false
set_option linter.unusedSimpArgs false
set_option linter.unusedVariables false
set_option maxRecDepth 100000
set_option maxHeartbeats 6400000
namespace Go.Proofs.YtpdgmgkkbbndfaaGreatDoor
open Go Go.Proofs Go.Proofs.YtpdgmgkkbbndfaaGreatDoor.SX Go.Proofs.YtpdgmgkkbbndfaaGreatDoor
open Go.ChangeShapes Go.WideShapes Go.ChangeAt Go.RowKit
theorem pair_arg {W : World} {b0 : Nat} {v : Value} (hval : Value.okWide Tryz.prog W .any b0 46 v) : ∃ p0 p1, v = .agg #[.int .u16 p0, .int .u16 p1] ∧ (0 ≤ p0 ∧ p0 ≤ 65535) ∧ 0 ≤ p1 ∧ p1 ≤ 65535 := by
  unfold Value.okWide at hval
  rw [Tryz.underlying46] at hval
  obtain ⟨cs, rfl, hsz, ts, hts, _, hall⟩ := hval
  have hc : Tryz.prog.cellTypes Tryz.prog.depth 46 = some [27, 27] := by kernel_rfl
  rw [hc] at hts
  cases hts
  have h2 : cs.size = 2 := hsz.trans (by kernel_rfl)
  have key : ∀ i (hi : i < 2), ∃ n, cs[i]? = some (.int .u16 n) ∧ 0 ≤ n ∧ n ≤ 65535 := by
    intro i hi
    obtain ⟨u, hu, hok⟩ := hall i cs[i] (by simp [h2, hi])
    have : u = 27 := by
      have hi' : i = 0 ∨ i = 1 := by omega
      rcases hi' with rfl | rfl <;> simpa using hu.symm
    subst this
    obtain ⟨n, hn, h3, h4⟩ := int_arg (W := W) (b0 := b0) Tryz.underlying27 (v := cs[i]) (by unfold Value.okWide; rw [Tryz.underlying27]; exact hok)
    exact ⟨n, by rw [← hn]; simp [h2, hi], h3, h4⟩
  obtain ⟨p0, e0, r0⟩ := key 0 (by omega)
  obtain ⟨p1, e1, r1⟩ := key 1 (by omega)
  refine ⟨p0, p1, ?_, r0, r1⟩
  congr 1
  apply Array.ext
  · simp [h2]
  · intro i hi1 hi2
    simp at hi2
    match i, hi2 with
    | 0, _ => rw [Array.getElem?_eq_getElem (by omega)] at e0; simpa using Option.some.inj e0
    | 1, _ => rw [Array.getElem?_eq_getElem (by omega)] at e1; simpa using Option.some.inj e1
theorem pair58 {W : World} {b0 : Nat} {v : Value} (hval : Value.okWide Tryz.prog W .any b0 58 v) : ∃ p0 p1, v = .agg #[.int .u32 p0, .int .u32 p1] ∧ (0 ≤ p0 ∧ p0 ≤ 4294967295) ∧ 0 ≤ p1 ∧ p1 ≤ 4294967295 := by
  unfold Value.okWide at hval
  rw [Tryz.underlying58] at hval
  obtain ⟨cs, rfl, hsz, ts, hts, _, hall⟩ := hval
  have hc : Tryz.prog.cellTypes Tryz.prog.depth 58 = some [26, 26] := by kernel_rfl
  rw [hc] at hts
  cases hts
  have h2 : cs.size = 2 := hsz.trans (by kernel_rfl)
  have key : ∀ i (hi : i < 2), ∃ n, cs[i]? = some (.int .u32 n) ∧ 0 ≤ n ∧ n ≤ 4294967295 := by
    intro i hi
    obtain ⟨u, hu, hok⟩ := hall i cs[i] (by simp [h2, hi])
    have : u = 26 := by
      have hi' : i = 0 ∨ i = 1 := by omega
      rcases hi' with rfl | rfl <;> simpa using hu.symm
    subst this
    obtain ⟨n, hn, h3, h4⟩ := int_arg (W := W) (b0 := b0) Tryz.underlying26 (v := cs[i]) (by unfold Value.okWide; rw [Tryz.underlying26]; exact hok)
    exact ⟨n, by rw [← hn]; simp [h2, hi], h3, h4⟩
  obtain ⟨p0, e0, r0⟩ := key 0 (by omega)
  obtain ⟨p1, e1, r1⟩ := key 1 (by omega)
  refine ⟨p0, p1, ?_, r0, r1⟩
  congr 1
  apply Array.ext
  · simp [h2]
  · intro i hi1 hi2
    simp at hi2
    match i, hi2 with
    | 0, _ => rw [Array.getElem?_eq_getElem (by omega)] at e0; simpa using Option.some.inj e0
    | 1, _ => rw [Array.getElem?_eq_getElem (by omega)] at e1; simpa using Option.some.inj e1
theorem topc_types : ∀ t ∈ Tryz.f7.params.toList, Tryz.prog.readableRec t = true ∧ t < Tryz.prog.types.size := by
  have h : (Tryz.f7.params.toList.all fun t => Tryz.prog.readableRec t && Nat.blt t Tryz.prog.types.size) = true := by kernel_rfl
  intro t ht
  have := List.all_eq_true.1 h t ht
  rw [Bool.and_eq_true] at this
  exact ⟨this.1, (blt_iff _ _).1 this.2⟩
theorem topc_contract (H : Type) (enc : TypeId × Value → H) (W : World) (base : Nat) (args : Array Value) (ds gs : List (DataW H)) (before : List MemPlace)
    (hval : ∀ (j : Nat) t v, Tryz.f7.params[j]? = some t → args[j]? = some v → Value.okWide Tryz.prog W .any base t v)
    (hW : DataW.Whole enc Tryz.prog Tryz.f7.params.toList Rows.topCallsSpec.vars false W args.toList ds gs before) (hL : laidMetH Tryz.prog theLaid7 W) (hS : W.ShapedOpen Tryz.prog) :
    Calls Tryz.prog 7 args W fun e W' => ∃ v, e = .returned v ∧ Rows.topCallsSpec.post enc Tryz.prog Tryz.f7 false true false false W args v W' := by
  have hW' := hW
  obtain ⟨p, q, hA, hV, rfl, hfz, hnd⟩ := hW
  obtain ⟨v0, vs0, d0, ds0, p0, q0, e0, rfl, rfl, t0, r0⟩ := trodAll_cons (t := 58) (ts := [46, 46]) hA
  obtain ⟨v1, vs1, d1, ds1, p1, q1, rfl, rfl, rfl, t1, r1⟩ := trodAll_cons (t := 46) (ts := [46]) r0
  obtain ⟨v2, vs2, d2, ds2, p2, q2, rfl, rfl, rfl, t2, r2⟩ := trodAll_cons (t := 46) (ts := []) r1
  obtain ⟨rfl, rfl, rfl⟩ := trodAll_nil r2
  obtain rfl : args = #[v0, v1, v2] := by cases args; simp_all
  obtain ⟨a0, a1, rfl, _, _⟩ := pair58 (hval 0 58 v0 rfl rfl)
  obtain ⟨b0, b1, rfl, h2, h3⟩ := pair_arg (hval 1 46 v1 rfl rfl)
  obtain ⟨m0, m1, rfl, h4, h5⟩ := pair_arg (hval 2 46 v2 rfl rfl)
  refine (calls7 (gw_of7 hL hS) h2 h3 h4 h5).mono fun e W' hq => ?_
  obtain ⟨rfl, hb⟩ := hq
  exact ⟨_, rfl, post_law rfl hW' rfl topc_types rfl rfl rfl hb⟩
def topcArgs : Array Value := #[.agg #[.int .u32 0, .int .u32 0], .agg #[.int .u16 0, .int .u16 0], .agg #[.int .u16 0, .int .u16 0]]
theorem topc_reads (os : Os) {H : Type} (enc : TypeId × Value → H) : ∃ places, DataW.whole enc Tryz.prog ((theWorld7 os).forCall (fun _ _ => 0) ⟨#[], topcArgs, []⟩).memory Tryz.f7.params.toList Rows.topCallsSpec.vars false topcArgs.toList 8 = some ([.agg [.lit (.int .u32 0), .lit (.int .u32 0)], .agg [.lit (.int .u16 0), .lit (.int .u16 0)], .agg [.lit (.int .u16 0), .lit (.int .u16 0)]], [], places) :=
  ⟨[], by kernel_rfl⟩
theorem topc_lifted (os : Os) (started : os.Started) (H : Type) (enc : TypeId × Value → H) (F : Stop.Interp) :
    ReturnsInHanded {} Tryz.checked os 7 .any ((OpenSpec.ofChange Rows.topCallsSpec).preRow enc Tryz.prog Tryz.f7 Rows.topCallsRow.domain false Rows.topCallsRow.laid) (((OpenSpec.ofChange Rows.topCallsSpec).at F).post enc Tryz.prog Tryz.f7 false true false false) := by
  obtain ⟨places, hx⟩ := topc_reads os enc
  refine returnsInHanded_of_row (C := Tryz.checked) (s := OpenSpec.ofChange Rows.topCallsSpec) own started (by kernel_rfl) Tryz.func7
    (witness_row_at (enc := enc) (C := Tryz.checked) false (theWorld7 os) topcArgs (world_os7 os) (world_vars7 os topcArgs) (world_rest7 os topcArgs) (by kernel_rfl)
      (OpenSpec.preRow_of_cond 8 hx (by kernel_rfl) (fun k hk => by cases hk) (by kernel_rfl) (world_met7 os topcArgs))) ?_
  intro W base args ds gs before hval hW _ _ _ hL hS _
  exact topc_contract H enc W base args ds gs before hval hW hL hS
theorem topc_said : Rows.TopCallsSaid :=
  OpenClaim.holds_of_cond 7 Tryz.f7 rfl rfl rfl rfl rfl rfl rfl ⟨rfl, rfl, rfl, rfl, rfl⟩ rfl rfl rfl rfl rfl (by kernel_rfl) Tryz.func7 (by kernel_rfl)
    (of_decide_eq_true (by kernel_rfl)) (by unfold Func.isWrapper; first | (rw [if_pos (by decide +kernel)]; kernel_rfl) | (rw [if_neg (by decide +kernel)]; exact ⟨rfl, rfl⟩))
    (fun os started H enc _ F => by rw [OpenClaim.pre_eq_preRow]; exact topc_lifted os started H enc F)
theorem topc_plain (f : FuncId) (fn : Func) (hf : Tryz.pinned.checked.prog.funcNamed "lychgate/lychgatetop.TopCalls" = some f) (hfn : Tryz.pinned.checked.prog.funcs[f]? = some fn) :
    true = Tryz.pinned.checked.prog.looks [] ∧ ∀ (j : Nat) t, fn.params[j]? = some t → Tryz.pinned.checked.prog.wantsStandIn t = false := by
  obtain rfl : f = 7 := Option.some.inj ((show Tryz.prog.funcNamed "lychgate/lychgatetop.TopCalls" = some 7 by kernel_rfl).symm.trans hf) |>.symm
  obtain rfl : fn = Tryz.f7 := (Option.some.inj (Tryz.func7.symm.trans hfn)).symm
  refine ⟨by kernel_rfl, fun j t ht => ?_⟩
  have hall : (Tryz.f7.params.toList.all fun t => Tryz.prog.wantsStandIn t == false) = true := by kernel_rfl
  have := List.all_eq_true.1 hall t (by simpa using Array.mem_of_getElem? ht)
  have h2 : Tryz.prog.wantsStandIn t = false := by simpa using this
  exact h2
theorem topc_card : Rows.TopCallsCardSaid :=
  Claim7.holds_tied_plain_at .later [] _ _ _ _ topc_said (fun _ h => by cases h) (by kernel_rfl) (fun _ h => by cases h) topCalls_row_tie rfl ⟨rfl, rfl⟩ (by kernel_rfl) rfl topc_plain (by kernel_rfl)
end Go.Proofs.YtpdgmgkkbbndfaaGreatDoor

