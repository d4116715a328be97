/- SipRight answers true at every message and change. Conditions: what it reads is of bulk at most 1048576. -/
import Derived.Test.YtpdgmgkkbbndfaaGreatDoorB5
set_option maxRecDepth 100000
set_option maxHeartbeats 6400000
set_option linter.unusedVariables false
set_option linter.unusedSimpArgs false
namespace Go.Proofs.YtpdgmgkkbbndfaaGreatDoor
open Go Go.Proofs Go.Proofs.YtpdgmgkkbbndfaaGreatDoor.SX Go.Proofs.YtpdgmgkkbbndfaaGreatDoor
open Go.ChangeShapes Go.WideShapes Go.ChangeAt Go.RowKit
theorem rightl_types : ∀ t ∈ Tryz.f4.params.toList, Tryz.prog.readableRec t = true ∧ t < Tryz.prog.types.size := by
  have h : (Tryz.f4.params.toList.all fun t => Tryz.prog.readableRec t && Nat.blt t Tryz.prog.types.size) = true := by kernel_rfl
  intro t ht
  have := List.all_eq_true.1 h t ht
  rw [Bool.and_eq_true] at this
  exact ⟨this.1, (blt_iff _ _).1 this.2⟩
theorem rightl_contract (H : Type) (enc : TypeId × Value → H) (W : World) (base : Nat) (args : Array Value) (ds gs : List (DataW H)) (before : List MemPlace)
    (hval : ∀ (j : Nat) t v, Tryz.f4.params[j]? = some t → args[j]? = some v → Value.okWide Tryz.prog W .any base t v)
    (hW : DataW.Whole enc Tryz.prog Tryz.f4.params.toList Rows.sipRightSpec.vars false W args.toList ds gs before) (hsmall : Rows.uptoBulkAll (ds ++ gs) ≤ 1048576) (hL : laidMetH Tryz.prog theLaid W) (hS : W.ShapedOpen Tryz.prog) :
    Calls Tryz.prog 4 args W fun e W' => ∃ v, e = .returned v ∧ Rows.sipRightSpec.post enc Tryz.prog Tryz.f4 false true false false W args v W' := by
  have hW' := hW
  obtain ⟨p, q, hA, hV, rfl, hfz, hnd⟩ := hW
  obtain ⟨v0, vs0, d0, ds0, p0, q0, e0, rfl, rfl, t0, r0⟩ := trodAll_cons (t := 25) (ts := [30]) hA
  obtain ⟨v1, vs1, d1, ds1, p1, q1, rfl, rfl, rfl, t1, r1⟩ := trodAll_cons (t := 30) (ts := []) r0
  obtain ⟨rfl, rfl, rfl⟩ := trodAll_nil r1
  obtain rfl : args = #[v0, v1] := by cases args; simp_all
  have hb : Rows.uptoBulk d0 ≤ 1048576 := Nat.le_trans (bulk_mem (List.mem_append_left _ (List.mem_cons_self ..))) hsmall
  have hb1 : Rows.uptoBulk d1 ≤ 1048576 := Nat.le_trans (bulk_mem (List.mem_append_left _ (List.mem_cons_of_mem _ (List.mem_cons_self ..)))) hsmall
  obtain ⟨start, hrows, body, hv, bv, rfl, hm⟩ := msg_read t0 (hval 0 25 v0 rfl rfl) hb
  obtain ⟨host, to_, port, toPort, mrows, lv, rfl, hmr, hml⟩ := change_read t1 (hval 1 30 v1 rfl rfl) hb1
  refine (right_law_calls (gw_of hL hS) hm hmr hml).mono fun e W' hq => ?_
  obtain ⟨rfl, hb⟩ := hq
  exact ⟨_, rfl, post_law rfl hW' rfl rightl_types rfl rfl rfl hb⟩
def rightlArgs : Array Value := #[.agg #[.string ⟨#[]⟩, .slice none 0 0, .slice none 0 0], .agg #[.int .u32 0, .int .u32 0, .int .u16 0, .int .u16 0, .slice none 0 0]]
theorem rightl_reads (os : Os) {H : Type} (enc : TypeId × Value → H) : ∃ places, DataW.whole enc Tryz.prog ((theWorld os).forCall (fun _ _ => 0) ⟨#[], rightlArgs, []⟩).memory Tryz.f4.params.toList Rows.sipRightSpec.vars false rightlArgs.toList 8 = some ([.agg [.lit (.string []), .nil, .nil], .agg [.lit (.int .u32 0), .lit (.int .u32 0), .lit (.int .u16 0), .lit (.int .u16 0), .nil]], [], places) :=
  ⟨[], by kernel_rfl⟩
theorem rightl_lifted (os : Os) (started : os.Started) (H : Type) (enc : TypeId × Value → H) (F : Stop.Interp) :
    ReturnsInHanded {} Tryz.checked os 4 .any ((Rows.OpenSpec.upto Rows.sipRightSpec).preRow enc Tryz.prog Tryz.f4 Rows.sipRightUptoRow.domain false Rows.sipRightUptoRow.laid) (((Rows.OpenSpec.upto Rows.sipRightSpec).at F).post enc Tryz.prog Tryz.f4 false true false false) := by
  obtain ⟨places, hx⟩ := rightl_reads os enc
  refine returnsInHanded_of_row (C := Tryz.checked) (s := Rows.OpenSpec.upto Rows.sipRightSpec) own started (by kernel_rfl) Tryz.func4
    (witness_row_at (enc := enc) (C := Tryz.checked) false (theWorld os) rightlArgs (world_os os) (world_vars os rightlArgs) (world_rest os rightlArgs) (by kernel_rfl)
      (OpenSpec.preRow_of_cond 8 hx (by kernel_rfl) (fun k hk => by cases hk; kernel_rfl) (by kernel_rfl) (world_met os rightlArgs))) ?_
  intro W base args ds gs before hval hW _ hcond _ hL hS _
  have hsmall : Rows.uptoBulkAll (ds ++ gs) ≤ 1048576 := of_decide_eq_true (hcond _ rfl)
  exact rightl_contract H enc W base args ds gs before hval hW hsmall hL hS
theorem rightl_said : Rows.SipRightUptoSaid :=
  OpenClaim.holds_of_cond 4 Tryz.f4 rfl rfl rfl rfl rfl rfl rfl ⟨rfl, rfl, rfl, rfl, rfl⟩ rfl rfl rfl rfl rfl (by kernel_rfl) Tryz.func4 (by kernel_rfl)
    (of_decide_eq_true (by kernel_rfl)) (by unfold Func.isWrapper; first | (rw [if_pos (by decide +kernel)]; kernel_rfl) | (rw [if_neg (by decide +kernel)]; exact ⟨rfl, rfl⟩))
    (fun os started H enc _ F => by rw [OpenClaim.pre_eq_preRow]; exact rightl_lifted os started H enc F)
theorem rightl_plain (f : FuncId) (fn : Func) (hf : Tryz.pinned.checked.prog.funcNamed "lychgate/lychgatelaw14.SipRight" = some f) (hfn : Tryz.pinned.checked.prog.funcs[f]? = some fn) :
    true = Tryz.pinned.checked.prog.looks [] ∧ ∀ (j : Nat) t, fn.params[j]? = some t → Tryz.pinned.checked.prog.wantsStandIn t = false := by
  obtain rfl : f = 4 := Option.some.inj ((show Tryz.prog.funcNamed "lychgate/lychgatelaw14.SipRight" = some 4 by kernel_rfl).symm.trans hf) |>.symm
  obtain rfl : fn = Tryz.f4 := (Option.some.inj (Tryz.func4.symm.trans hfn)).symm
  refine ⟨by kernel_rfl, fun j t ht => ?_⟩
  have hall : (Tryz.f4.params.toList.all fun t => Tryz.prog.wantsStandIn t == false) = true := by kernel_rfl
  have := List.all_eq_true.1 hall t (by simpa using Array.mem_of_getElem? ht)
  have h2 : Tryz.prog.wantsStandIn t = false := by simpa using this
  exact h2
theorem rightl_card : Rows.SipRightUptoCardSaid :=
  Claim7.holds_tied_plain_at .later [] _ _ _ _ rightl_said (fun _ h => by cases h) (by kernel_rfl) (fun _ h => by cases h) sipRightUpto_row_tie rfl ⟨rfl, rfl⟩ (by kernel_rfl) rfl rightl_plain (by kernel_rfl)
end Go.Proofs.YtpdgmgkkbbndfaaGreatDoor
