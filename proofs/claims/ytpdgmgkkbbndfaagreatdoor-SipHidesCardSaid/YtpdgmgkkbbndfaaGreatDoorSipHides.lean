/- SipHides answers true at every address and every two ports. Conditions: none beside the row's own. -/
import Derived.Test.YtpdgmgkkbbndfaaGreatDoorB4
set_option maxRecDepth 100000
set_option maxHeartbeats 6400000
set_option linter.unusedVariables false
set_option linter.unusedSimpArgs false
namespace Go.Proofs.YtpdgmgkkbbndfaaGreatDoor
open Go Go.Proofs Go.Proofs.YtpdgmgkkbbndfaaGreatDoor.SX Go.Proofs.YtpdgmgkkbbndfaaGreatDoor
open Go.ChangeShapes Go.WideShapes Go.ChangeAt Go.RowKit
theorem pair_arg {W : World} {b0 : Nat} {v : Value} (hval : Value.okWide Tryz.prog W .any b0 46 v) : ∃ p0 p1, v = .agg #[.int .u16 p0, .int .u16 p1] ∧ (0 ≤ p0 ∧ p0 ≤ 65535) ∧ 0 ≤ p1 ∧ p1 ≤ 65535 := by
  unfold Value.okWide at hval
  rw [Tryz.underlying46] at hval
  obtain ⟨cs, rfl, hsz, ts, hts, _, hall⟩ := hval
  have hc : Tryz.prog.cellTypes Tryz.prog.depth 46 = some [27, 27] := by kernel_rfl
  rw [hc] at hts
  cases hts
  have h2 : cs.size = 2 := hsz.trans (by kernel_rfl)
  have key : ∀ i (hi : i < 2), ∃ n, cs[i]? = some (.int .u16 n) ∧ 0 ≤ n ∧ n ≤ 65535 := by
    intro i hi
    obtain ⟨u, hu, hok⟩ := hall i cs[i] (by simp [h2, hi])
    have : u = 27 := by
      have hi' : i = 0 ∨ i = 1 := by omega
      rcases hi' with rfl | rfl <;> simpa using hu.symm
    subst this
    obtain ⟨n, hn, h3, h4⟩ := int_arg (W := W) (b0 := b0) Tryz.underlying27 (v := cs[i]) (by unfold Value.okWide; rw [Tryz.underlying27]; exact hok)
    exact ⟨n, by rw [← hn]; simp [h2, hi], h3, h4⟩
  obtain ⟨p0, e0, r0⟩ := key 0 (by omega)
  obtain ⟨p1, e1, r1⟩ := key 1 (by omega)
  refine ⟨p0, p1, ?_, r0, r1⟩
  congr 1
  apply Array.ext
  · simp [h2]
  · intro i hi1 hi2
    simp at hi2
    match i, hi2 with
    | 0, _ => rw [Array.getElem?_eq_getElem (by omega)] at e0; simpa using Option.some.inj e0
    | 1, _ => rw [Array.getElem?_eq_getElem (by omega)] at e1; simpa using Option.some.inj e1
theorem hides_types : ∀ t ∈ Tryz.f5.params.toList, Tryz.prog.readableRec t = true ∧ t < Tryz.prog.types.size := by
  have h : (Tryz.f5.params.toList.all fun t => Tryz.prog.readableRec t && Nat.blt t Tryz.prog.types.size) = true := by kernel_rfl
  intro t ht
  have := List.all_eq_true.1 h t ht
  rw [Bool.and_eq_true] at this
  exact ⟨this.1, (blt_iff _ _).1 this.2⟩
theorem hides_contract (H : Type) (enc : TypeId × Value → H) (W : World) (base : Nat) (args : Array Value) (ds gs : List (DataW H)) (before : List MemPlace)
    (hval : ∀ (j : Nat) t v, Tryz.f5.params[j]? = some t → args[j]? = some v → Value.okWide Tryz.prog W .any base t v)
    (hW : DataW.Whole enc Tryz.prog Tryz.f5.params.toList Rows.sipHidesSpec.vars false W args.toList ds gs before) (hL : laidMetH Tryz.prog theLaid W) (hS : W.ShapedOpen Tryz.prog) :
    Calls Tryz.prog 5 args W fun e W' => ∃ v, e = .returned v ∧ Rows.sipHidesSpec.post enc Tryz.prog Tryz.f5 false true false false W args v W' := by
  have hW' := hW
  obtain ⟨p, q, hA, hV, rfl, hfz, hnd⟩ := hW
  obtain ⟨v0, vs0, d0, ds0, p0, q0, e0, rfl, rfl, t0, r0⟩ := trodAll_cons (t := 26) (ts := [26, 46]) hA
  obtain ⟨v1, vs1, d1, ds1, p1, q1, rfl, rfl, rfl, t1, r1⟩ := trodAll_cons (t := 26) (ts := [46]) r0
  obtain ⟨v2, vs2, d2, ds2, p2, q2, rfl, rfl, rfl, t2, r2⟩ := trodAll_cons (t := 46) (ts := []) r1
  obtain ⟨rfl, rfl, rfl⟩ := trodAll_nil r2
  obtain rfl : args = #[v0, v1, v2] := by cases args; simp_all
  obtain ⟨host, rfl, h0⟩ := int_arg Tryz.underlying26 (hval 0 26 v0 rfl rfl)
  obtain ⟨to_, rfl, h1⟩ := int_arg Tryz.underlying26 (hval 1 26 v1 rfl rfl)
  obtain ⟨a, b, rfl, h2, h3⟩ := pair_arg (hval 2 46 v2 rfl rfl)
  have h0' : 0 ≤ host ∧ host ≤ 4294967295 := h0
  have h1' : 0 ≤ to_ ∧ to_ ≤ 4294967295 := h1
  refine (hides_calls (by omega) (by omega) h2 h3 (gw_of hL hS)).mono fun e W' hq => ?_
  obtain ⟨rfl, hb⟩ := hq
  exact ⟨_, rfl, post_law rfl hW' rfl hides_types rfl rfl rfl hb⟩
def args0 : Array Value := #[.int .u32 0, .int .u32 0, .agg #[.int .u16 0, .int .u16 0]]
theorem hides_reads (os : Os) {H : Type} (enc : TypeId × Value → H) : ∃ places, DataW.whole enc Tryz.prog ((theWorld os).forCall (fun _ _ => 0) ⟨#[], args0, []⟩).memory Tryz.f5.params.toList Rows.sipHidesSpec.vars false args0.toList 8 = some ([.lit (.int .u32 0), .lit (.int .u32 0), .agg [.lit (.int .u16 0), .lit (.int .u16 0)]], [], places) :=
  ⟨[], by kernel_rfl⟩
theorem hides_lifted (os : Os) (started : os.Started) (H : Type) (enc : TypeId × Value → H) (F : Stop.Interp) :
    ReturnsInHanded {} Tryz.checked os 5 .any ((OpenSpec.ofChange Rows.sipHidesSpec).preRow enc Tryz.prog Tryz.f5 Rows.sipHidesRow.domain false Rows.sipHidesRow.laid) (((OpenSpec.ofChange Rows.sipHidesSpec).at F).post enc Tryz.prog Tryz.f5 false true false false) := by
  obtain ⟨places, hx⟩ := hides_reads os enc
  refine returnsInHanded_of_row (C := Tryz.checked) (s := OpenSpec.ofChange Rows.sipHidesSpec) own started (by kernel_rfl) Tryz.func5
    (witness_row_at (enc := enc) (C := Tryz.checked) false (theWorld os) args0 (world_os os) (world_vars os args0) (world_rest os args0) (by kernel_rfl)
      (OpenSpec.preRow_of_cond 8 hx (by kernel_rfl) (fun k hk => by cases hk) (by kernel_rfl) (world_met os args0))) ?_
  intro W base args ds gs before hval hW _ _ _ hL hS _
  exact hides_contract H enc W base args ds gs before hval hW hL hS
theorem hides_said : Rows.SipHidesSaid :=
  OpenClaim.holds_of_cond 5 Tryz.f5 rfl rfl rfl rfl rfl rfl rfl ⟨rfl, rfl, rfl, rfl, rfl⟩ rfl rfl rfl rfl rfl (by kernel_rfl) Tryz.func5 (by kernel_rfl)
    (of_decide_eq_true (by kernel_rfl)) (by unfold Func.isWrapper; first | (rw [if_pos (by decide +kernel)]; kernel_rfl) | (rw [if_neg (by decide +kernel)]; exact ⟨rfl, rfl⟩))
    (fun os started H enc _ F => by rw [OpenClaim.pre_eq_preRow]; exact hides_lifted os started H enc F)
theorem hides_plain (f : FuncId) (fn : Func) (hf : Tryz.pinned.checked.prog.funcNamed "lychgate/lychgatelaw14.SipHides" = some f) (hfn : Tryz.pinned.checked.prog.funcs[f]? = some fn) :
    true = Tryz.pinned.checked.prog.looks [] ∧ ∀ (j : Nat) t, fn.params[j]? = some t → Tryz.pinned.checked.prog.wantsStandIn t = false := by
  obtain rfl : f = 5 := Option.some.inj ((show Tryz.prog.funcNamed "lychgate/lychgatelaw14.SipHides" = some 5 by kernel_rfl).symm.trans hf) |>.symm
  obtain rfl : fn = Tryz.f5 := (Option.some.inj (Tryz.func5.symm.trans hfn)).symm
  refine ⟨by kernel_rfl, fun j t ht => ?_⟩
  have hall : (Tryz.f5.params.toList.all fun t => Tryz.prog.wantsStandIn t == false) = true := by kernel_rfl
  have := List.all_eq_true.1 hall t (by simpa using Array.mem_of_getElem? ht)
  have h2 : Tryz.prog.wantsStandIn t = false := by simpa using this
  exact h2
theorem hides_card : Rows.SipHidesCardSaid :=
  Claim7.holds_tied_plain_at .later [] _ _ _ _ hides_said (fun _ h => by cases h) (by kernel_rfl) (fun _ h => by cases h) sipHides_row_tie rfl ⟨rfl, rfl⟩ (by kernel_rfl) rfl hides_plain (by kernel_rfl)
end Go.Proofs.YtpdgmgkkbbndfaaGreatDoor
