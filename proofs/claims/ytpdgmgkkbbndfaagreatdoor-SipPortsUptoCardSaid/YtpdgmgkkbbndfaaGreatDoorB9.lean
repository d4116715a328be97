/- SipPorts: the ports of the body's media, where its address is the host's, are those that the document says; of arguments of bulk at most 1048576 -/
import Derived.Test.YtpdgmgkkbbndfaaGreatDoorB5
set_option linter.unusedSectionVars false
set_option linter.unusedSimpArgs false
set_option linter.unusedVariables false
set_option maxRecDepth 100000
set_option maxHeartbeats 6400000
namespace Go.Proofs.YtpdgmgkkbbndfaaGreatDoor
open Go Go.Proofs Go.Proofs.YtpdgmgkkbbndfaaGreatDoor.SX Go.Proofs.YtpdgmgkkbbndfaaGreatDoor
open Go.ChangeShapes Go.WideShapes Go.ChangeAt Go.RowKit
theorem ports_types : ∀ t ∈ Tryz.f10.params.toList, Tryz.prog.readableRec t = true ∧ t < Tryz.prog.types.size := by
  have h : (Tryz.f10.params.toList.all fun t => Tryz.prog.readableRec t && Nat.blt t Tryz.prog.types.size) = true := by kernel_rfl
  intro t ht
  have := List.all_eq_true.1 h t ht
  rw [Bool.and_eq_true] at this
  exact ⟨this.1, (blt_iff _ _).1 this.2⟩
theorem ports_contract (H : Type) (enc : TypeId × Value → H) (W : World) (base : Nat) (args : Array Value) (ds gs : List (DataW H)) (before : List MemPlace)
    (hval : ∀ (j : Nat) t v, Tryz.f10.params[j]? = some t → args[j]? = some v → Value.okWide Tryz.prog W .any base t v)
    (hW : DataW.Whole enc Tryz.prog Tryz.f10.params.toList Rows.sipPortsSpec.vars false W args.toList ds gs before) (hsmall : Rows.uptoBulkAll (ds ++ gs) ≤ 1048576) (hL : laidMetH Tryz.prog theLaid W) (hS : W.ShapedOpen Tryz.prog) :
    Calls Tryz.prog 10 args W fun e W' => ∃ v, e = .returned v ∧ Rows.sipPortsSpec.post enc Tryz.prog Tryz.f10 false true false false W args v W' := by
  have hW' := hW
  obtain ⟨p, q, hA, hV, rfl, hfz, hnd⟩ := hW
  obtain ⟨v0, vs0, d0, ds0, p0, q0, e0, rfl, rfl, t0, r0⟩ := trodAll_cons (t := 25) (ts := [26]) hA
  obtain ⟨v1, vs1, d1, ds1, p1, q1, rfl, rfl, rfl, t1, r1⟩ := trodAll_cons (t := 26) (ts := []) r0
  obtain ⟨rfl, rfl, rfl⟩ := trodAll_nil r1
  obtain rfl : args = #[v0, v1] := by cases args; simp_all
  have hb : Rows.uptoBulk d0 ≤ 1048576 := Nat.le_trans (bulk_mem (List.mem_append_left _ (List.mem_cons_self ..))) hsmall
  obtain ⟨start, hrows, body, hv, bv, rfl, hm⟩ := msg_read t0 (hval 0 25 v0 rfl rfl) hb
  have hbc := msg_bcap (hval 0 25 _ rfl rfl)
  obtain ⟨host, rfl, hh1, hh2⟩ := int_arg Tryz.underlying26 (hval 1 26 v1 rfl rfl)
  have hh : (0 : Int) ≤ host ∧ host < 4294967296 := by
    have h1 : (0 : Int) ≤ host := hh1
    have h2 : host ≤ (4294967295 : Int) := hh2
    omega
  refine (ports10_calls (gw_of hL hS) hm hbc hh).mono fun e W' hq => ?_
  obtain ⟨rfl, hb⟩ := hq
  exact ⟨_, rfl, post_law rfl hW' rfl ports_types rfl rfl rfl hb⟩
def portsArgs : Array Value := #[.agg #[.string ⟨#[]⟩, .slice none 0 0, .slice none 0 0], .int .u32 0]
theorem ports_reads (os : Os) {H : Type} (enc : TypeId × Value → H) : ∃ places, DataW.whole enc Tryz.prog ((theWorld os).forCall (fun _ _ => 0) ⟨#[], portsArgs, []⟩).memory Tryz.f10.params.toList Rows.sipPortsSpec.vars false portsArgs.toList 8 = some ([.agg [.lit (.string []), .nil, .nil], .lit (.int .u32 0)], [], places) :=
  ⟨[], by kernel_rfl⟩
theorem ports_lifted (os : Os) (started : os.Started) (H : Type) (enc : TypeId × Value → H) (F : Stop.Interp) :
    ReturnsInHanded {} Tryz.checked os 10 .any ((Rows.OpenSpec.upto Rows.sipPortsSpec).preRow enc Tryz.prog Tryz.f10 Rows.sipPortsUptoRow.domain false Rows.sipPortsUptoRow.laid) (((Rows.OpenSpec.upto Rows.sipPortsSpec).at F).post enc Tryz.prog Tryz.f10 false true false false) := by
  obtain ⟨places, hx⟩ := ports_reads os enc
  refine returnsInHanded_of_row (C := Tryz.checked) (s := Rows.OpenSpec.upto Rows.sipPortsSpec) own started (by kernel_rfl) Tryz.func10
    (witness_row_at (enc := enc) (C := Tryz.checked) false (theWorld os) portsArgs (world_os os) (world_vars os portsArgs) (world_rest os portsArgs) (by kernel_rfl)
      (OpenSpec.preRow_of_cond 8 hx (by kernel_rfl) (fun k hk => by cases hk; kernel_rfl) (by kernel_rfl) (world_met os portsArgs))) ?_
  intro W base args ds gs before hval hW _ hcond _ hL hS _
  have hsmall : Rows.uptoBulkAll (ds ++ gs) ≤ 1048576 := of_decide_eq_true (hcond _ rfl)
  exact ports_contract H enc W base args ds gs before hval hW hsmall hL hS
theorem ports_said : Rows.SipPortsUptoSaid :=
  OpenClaim.holds_of_cond 10 Tryz.f10 rfl rfl rfl rfl rfl rfl rfl ⟨rfl, rfl, rfl, rfl, rfl⟩ rfl rfl rfl rfl rfl (by kernel_rfl) Tryz.func10 (by kernel_rfl)
    (of_decide_eq_true (by kernel_rfl)) (by unfold Func.isWrapper; first | (rw [if_pos (by decide +kernel)]; kernel_rfl) | (rw [if_neg (by decide +kernel)]; exact ⟨rfl, rfl⟩))
    (fun os started H enc _ F => by rw [OpenClaim.pre_eq_preRow]; exact ports_lifted os started H enc F)
theorem ports_plain (f : FuncId) (fn : Func) (hf : Tryz.pinned.checked.prog.funcNamed "lychgate/lychgatelaw14.SipPorts" = some f) (hfn : Tryz.pinned.checked.prog.funcs[f]? = some fn) :
    true = Tryz.pinned.checked.prog.looks [] ∧ ∀ (j : Nat) t, fn.params[j]? = some t → Tryz.pinned.checked.prog.wantsStandIn t = false := by
  obtain rfl : f = 10 := Option.some.inj ((show Tryz.prog.funcNamed "lychgate/lychgatelaw14.SipPorts" = some 10 by kernel_rfl).symm.trans hf) |>.symm
  obtain rfl : fn = Tryz.f10 := (Option.some.inj (Tryz.func10.symm.trans hfn)).symm
  refine ⟨by kernel_rfl, fun j t ht => ?_⟩
  have hall : (Tryz.f10.params.toList.all fun t => Tryz.prog.wantsStandIn t == false) = true := by kernel_rfl
  have := List.all_eq_true.1 hall t (by simpa using Array.mem_of_getElem? ht)
  have h2 : Tryz.prog.wantsStandIn t = false := by simpa using this
  exact h2
theorem ports_card : Rows.SipPortsUptoCardSaid :=
  Claim7.holds_tied_plain_at .later [] _ _ _ _ ports_said (fun _ h => by cases h) (by kernel_rfl) (fun _ h => by cases h) sipPortsUpto_row_tie rfl ⟨rfl, rfl⟩ (by kernel_rfl) rfl ports_plain (by kernel_rfl)
end Go.Proofs.YtpdgmgkkbbndfaaGreatDoor

