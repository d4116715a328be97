/- Part 4 of the proof: texts that the last one builds upon. Conditions: as each theorem says. -/
import Derived.Test.YtpdgmgkkbbndfaaGreatDoorB2
import Derived.Shelf.LaysM
import Derived.Shelf.Bytes.Bytes
import Derived.Shelf.LaysC
import Derived.Shelf.Bytes.GrowKept
import Derived.Shelf.Bytes.WriteStringKept
import Derived.Shelf.Bytes.WriteAny
import Derived.Shelf.Bytes.Small
import Derived.Test.YtpdgmgkkbbndfaaGreatDoorProg
set_option maxRecDepth 100000
set_option linter.unusedVariables false
set_option linter.unusedSimpArgs false
namespace Go.Proofs.YtpdgmgkkbbndfaaGreatDoor
open Go Go.Proofs Go.Proofs.YtpdgmgkkbbndfaaGreatDoor.SX
theorem after_lt {s t : List UInt8} (h : spFound s t = true) (ht : 0 < t.length) : (spAfter s t).length < s.length ∨ s.length = 0 := by
  unfold spFound spAfter Lib.cut at *
  split
  · rename_i h1
    simp only [List.length_drop]; omega
  · rename_i h1
    rw [if_neg h1] at h; cases h
def R3 (P : Program) : Code := seqL (thenC (seqR (seqL (seqR (inBlk (lbody P 76 0))))))
def R4 (P : Program) : Code := seqL (seqL (seqR (seqR (inBlk (lbody P 76 0)))))
def o3 (P : Program) (i : Nat) : Oper := opAt (opsOf (R3 P)) i
def o4 (P : Program) (i : Nat) : Oper := opAt (opsOf (R4 P)) i
theorem h76 : lbody Tryz.prog 76 0 = .block 1 (.seq (seqL (inBlk (lbody Tryz.prog 76 0))) (.seq (.seq (seqL (seqL (seqR (inBlk (lbody Tryz.prog 76 0))))) (.cond (.tmp 16) (.seq (.region 3 (opsOf (R3 Tryz.prog)) false) .ret) .skip)) (.seq (.seq (.region 4 (opsOf (R4 Tryz.prog)) false) (.cond (.tmp 23) .ret .skip)) (seqR (seqR (seqR (inBlk (lbody Tryz.prog 76 0)))))))) := by kernel_rfl
theorem ops3 : List.range (opsOf (R3 Tryz.prog)).size = [0, 1, 2] := by kernel_rfl
theorem ops4 : List.range (opsOf (R4 Tryz.prog)).size = [0, 1, 2, 3] := by kernel_rfl
def callOf (o : Oper) : Call := match o.op with | .call c => c | _ => ⟨.value (.const undef), #[], #[]⟩
theorem p30 : (opsOf (R3 Tryz.prog))[0]? = some (o3 Tryz.prog 0) ∧ (o3 Tryz.prog 0).op = .move (.tmp 0) ∧ (o3 Tryz.prog 0).guard = none ∧ (o3 Tryz.prog 0).dst = some 17 := ⟨by kernel_rfl, by kernel_rfl, by kernel_rfl, by kernel_rfl⟩
theorem p31 : (opsOf (R3 Tryz.prog))[1]? = some (o3 Tryz.prog 1) ∧ (o3 Tryz.prog 1).op = .move (.tmp 4) ∧ (o3 Tryz.prog 1).guard = none ∧ (o3 Tryz.prog 1).dst = some 18 := ⟨by kernel_rfl, by kernel_rfl, by kernel_rfl, by kernel_rfl⟩
theorem p32 : (opsOf (R3 Tryz.prog))[2]? = some (o3 Tryz.prog 2) ∧ (o3 Tryz.prog 2).op = .call (callOf (o3 Tryz.prog 2)) ∧ (o3 Tryz.prog 2).guard = none ∧ (callOf (o3 Tryz.prog 2)).callee = .value (.tmp 17) ∧ (callOf (o3 Tryz.prog 2)).args = #[.tmp 18, .const (.string ⟨#[]⟩)] := ⟨by kernel_rfl, by kernel_rfl, by kernel_rfl, by kernel_rfl, by kernel_rfl⟩
theorem p40 : (opsOf (R4 Tryz.prog))[0]? = some (o4 Tryz.prog 0) ∧ (o4 Tryz.prog 0).op = .move (.tmp 0) ∧ (o4 Tryz.prog 0).guard = none ∧ (o4 Tryz.prog 0).dst = some 20 := ⟨by kernel_rfl, by kernel_rfl, by kernel_rfl, by kernel_rfl⟩
theorem p41 : (opsOf (R4 Tryz.prog))[1]? = some (o4 Tryz.prog 1) ∧ (o4 Tryz.prog 1).op = .move (.tmp 4) ∧ (o4 Tryz.prog 1).guard = none ∧ (o4 Tryz.prog 1).dst = some 21 := ⟨by kernel_rfl, by kernel_rfl, by kernel_rfl, by kernel_rfl⟩
theorem p42 : (opsOf (R4 Tryz.prog))[2]? = some (o4 Tryz.prog 2) ∧ (o4 Tryz.prog 2).op = .call (callOf (o4 Tryz.prog 2)) ∧ (o4 Tryz.prog 2).guard = none ∧ (callOf (o4 Tryz.prog 2)).callee = .value (.tmp 20) ∧ (callOf (o4 Tryz.prog 2)).args = #[.tmp 21, .const (.string ⟨#[13, 10]⟩)] ∧ (o4 Tryz.prog 2).dst = some 22 := ⟨by kernel_rfl, by kernel_rfl, by kernel_rfl, by kernel_rfl, by kernel_rfl, by kernel_rfl⟩
theorem p43 : (opsOf (R4 Tryz.prog))[3]? = some (o4 Tryz.prog 3) ∧ (o4 Tryz.prog 3).op = .unOp .not 4 (.tmp 22) ∧ (o4 Tryz.prog 3).guard = none ∧ (o4 Tryz.prog 3).dst = some 23 := ⟨by kernel_rfl, by kernel_rfl, by kernel_rfl, by kernel_rfl⟩
abbrev Yv (p : List UInt8 × List UInt8) : Array Value := #[.string ⟨p.1.toArray⟩, .string ⟨p.2.toArray⟩]
theorem getD_of {a : Array Value} {i : Nat} {v : Value} (h : a[i]? = some v) : a.getD i undef = v := by simp [Array.getD_eq_getD_getElem?, h]
theorem rounds76 {l : Nat} {J : Nat → World → Prop} {Lst : List (List UInt8 × List UInt8)} (hExt : ∀ k W W', J k W → Ext W W' → J k W') (hgw : ∀ k W, J k W → GW W)
    (hy : ∀ (k : Nat) (W : World) (p : List UInt8 × List UInt8), Lst[k]? = some p → J k W → YieldOK Tryz.prog l (Yv p) W (fun e W' => e = .returned (.bool true) ∧ J (k + 1) W')) :
    ∀ (n : Nat) (rest : List UInt8) (k : Nat) (ρ : Nat → BI) (a : Act) (W : World), rest.length < n → rest.length < 4294967281 → spLinesF n rest = Lst.drop k → J k W → @Sim env0 ρ ((s76i l rest).m 25) a W →
      @roundsE env0 Tryz.prog (lbody Tryz.prog 76 0) (fun x a' w' => x = .ret ∧ a'.defers = [] ∧ J Lst.length w') n a W := by
  intro n
  induction n with
  | zero => intro rest k ρ a W h; omega
  | succ n ih =>
    intro rest k ρ a W hn hb hL hJ hs
    rw [roundsE_succ, h76]
    refine @wpE_block env0 _ _ _ _ _ _ (@wpE_seq env0 _ _ _ _ _ _ ?_)
    refine wpIn_mono (step_none (body_of P5_ok (y76b l rest) ⟨trivial, decide_eq_true hb⟩ rfl) hs) ?_
    rintro x a1 W1 ⟨rfl, e1, ρ1, hs1⟩
    refine @wpE_seq env0 _ _ _ _ _ _ (@wpE_seq env0 _ _ _ _ _ _ ?_)
    refine wpIn_mono (step_none (body_of P5_ok (y76c l _ _ _) trivial rfl) hs1) ?_
    rintro x a2 W2 ⟨rfl, e2, ρ2, hs2⟩
    have hJ2 : J k W2 := hExt _ _ _ (hExt _ _ _ hJ e1) e2
    have t0 : a2.tmps[0]? = some (.func (.yield l) #[] #[]) := (@Sim.tms env0 _ _ _ _ hs2 0 _ rfl).1
    have t4 : a2.tmps[4]? = some (.string ⟨(spBefore rest [13, 10]).toArray⟩) := (@Sim.tms env0 _ _ _ _ hs2 4 _ rfl).1
    have t5 : a2.tmps[5]? = some (.string ⟨(spAfter rest [13, 10]).toArray⟩) := (@Sim.tms env0 _ _ _ _ hs2 5 _ rfl).1
    have t16 : a2.tmps[16]? = some (.bool (!spFound rest [13, 10])) := (@Sim.tms env0 _ _ _ _ hs2 16 _ rfl).1
    obtain ⟨_, t0'⟩ := Array.getElem?_eq_some_iff.1 t0
    obtain ⟨_, t4'⟩ := Array.getElem?_eq_some_iff.1 t4
    obtain ⟨_, t5'⟩ := Array.getElem?_eq_some_iff.1 t5
    have hsz : a2.tmps.size = 25 := @Sim.size env0 _ _ _ _ hs2
    have hd : a2.defers = [] := (@Sim.defers env0 _ _ _ _ hs2).eq
    cases hf : spFound rest [13, 10] with
    | false =>
      rw [hf] at t16
      unfold spLinesF at hL
      rw [hf, cond_false] at hL
      have hk : Lst[k]? = some (spBefore rest [13, 10], []) := by
        have := congrArg (fun l => l[0]?) hL
        simpa [List.getElem?_drop] using this.symm
      have hN : k + 1 = Lst.length := by
        have := congrArg List.length hL
        simp at this; omega
      refine @wpE_cond_true env0 _ _ _ _ _ _ _ (getD_of t16) (@wpE_seq env0 _ _ _ _ _ _ ?_)
      refine wpIn_region ?_
      rw [ops3]
      rw [wpOpsIn_cons]
      refine wpOpIn_move p30.1 p30.2.1 p30.2.2.1 ?_
      rw [wpOpsIn_cons]
      refine wpOpIn_move p31.1 p31.2.1 p31.2.2.1 ?_
      rw [wpOpsIn_cons]
      refine wpOpIn_yield p32.1 p32.2.1 p32.2.2.1 p32.2.2.2.1 (l := l) (v := .bool true) (J := J (k + 1)) ?_ ?_ ?_
      · rw [p30.2.2.2, p31.2.2.2]
        simp [Act.eval, Act.put, Array.getD_eq_getD_getElem?, Array.getElem?_setIfInBounds, hsz, t0, t0']
      · rw [p32.2.2.2.2, p30.2.2.2, p31.2.2.2]
        have hv : (#[Operand.tmp 18, .const (.string ⟨#[]⟩)].map ((a2.put (some 17) (a2.eval (.tmp 0))).put (some 18) ((a2.put (some 17) (a2.eval (.tmp 0))).eval (.tmp 4))).eval) = Yv (spBefore rest [13, 10], []) := by
          simp [Act.eval, Act.put, Array.getD_eq_getD_getElem?, Array.getElem?_setIfInBounds, hsz, t0, t4, t0', t4']
        rw [hv]
        exact hy k W2 _ hk hJ2
      · intro W' hJ'
        refine @wpE_ret env0 _ _ _ _ ⟨rfl, ?_, hN ▸ hJ'⟩
        cases (o3 Tryz.prog 2).dst <;> cases (o3 Tryz.prog 1).dst <;> cases (o3 Tryz.prog 0).dst <;> exact hd
    | true =>
      rw [hf] at t16
      unfold spLinesF at hL
      rw [hf, cond_true] at hL
      have hk : Lst[k]? = some (spBefore rest [13, 10], [13, 10]) := by
        have := congrArg (fun l => l[0]?) hL
        simpa [List.getElem?_drop] using this.symm
      have hL' : spLinesF n (spAfter rest [13, 10]) = Lst.drop (k + 1) := by
        have := congrArg List.tail hL
        simpa using this
      refine @wpE_cond_false env0 _ _ _ _ _ _ _ (getD_of t16) (@wpE_skip env0 _ _ _ _ ?_)
      refine @wpE_seq env0 _ _ _ _ _ _ (@wpE_seq env0 _ _ _ _ _ _ ?_)
      refine wpIn_region ?_
      rw [ops4]
      rw [wpOpsIn_cons]
      refine wpOpIn_move p40.1 p40.2.1 p40.2.2.1 ?_
      rw [wpOpsIn_cons]
      refine wpOpIn_move p41.1 p41.2.1 p41.2.2.1 ?_
      rw [wpOpsIn_cons]
      refine wpOpIn_yield p42.1 p42.2.1 p42.2.2.1 p42.2.2.2.1 (l := l) (v := .bool true) (J := J (k + 1)) ?_ ?_ ?_
      · rw [p40.2.2.2, p41.2.2.2]
        simp [Act.eval, Act.put, Array.getD_eq_getD_getElem?, Array.getElem?_setIfInBounds, hsz, t0, t0']
      · rw [p42.2.2.2.2.1, p40.2.2.2, p41.2.2.2]
        have hv : (#[Operand.tmp 21, .const (.string ⟨#[13, 10]⟩)].map ((a2.put (some 20) (a2.eval (.tmp 0))).put (some 21) ((a2.put (some 20) (a2.eval (.tmp 0))).eval (.tmp 4))).eval) = Yv (spBefore rest [13, 10], [13, 10]) := by
          simp [Act.eval, Act.put, Array.getD_eq_getD_getElem?, Array.getElem?_setIfInBounds, hsz, t0, t4, t0', t4']
        rw [hv]
        exact hy k W2 _ hk hJ2
      · intro W' hJ'
        rw [p42.2.2.2.2.2, p40.2.2.2, p41.2.2.2]
        rw [wpOpsIn_cons]
        refine wpOpIn_not p43.1 p43.2.1 p43.2.2.1 (b := true) (by simp [Act.eval, Act.put, Array.getD_eq_getD_getElem?, Array.getElem?_setIfInBounds, hsz]) ?_
        rw [p43.2.2.2]
        refine @wpE_cond_false env0 _ _ _ _ _ _ _ (by simp [Act.eval, Act.put, Array.getD_eq_getD_getElem?, Array.getElem?_setIfInBounds, hsz]) (@wpE_skip env0 _ _ _ _ ?_)
        refine wpIn_mono (step_none (ρ := ρ2) (body_of P5_ok (y76d l (spAfter rest [13, 10])) trivial rfl) (sim_none (hgw _ _ hJ') (by simp [Act.put, hsz]) hd ?_)) ?_
        · intro p hp
          simp only [List.mem_cons, List.not_mem_nil, or_false] at hp
          rcases hp with rfl | rfl
          · exact ⟨by simp [Act.put, Array.getElem?_setIfInBounds, t0, t0', conc, concL], rfl⟩
          · exact ⟨by simp [Act.put, Array.getElem?_setIfInBounds, t5, t5', conc], rfl⟩
        · rintro x a3 W3 ⟨rfl, e3, ρ3, hs3⟩
          have hlt := len_after rest [13, 10]
          have hlt2 : (spAfter rest [13, 10]).length < n := by
            rcases after_lt hf (by decide) with h | h
            · omega
            · rw [List.length_eq_zero_iff.1 h] at hf; exact absurd hf (by decide)
          exact ih _ (k + 1) ρ3 a3 W3 hlt2 (by omega) hL' (hExt _ _ _ hJ' e3) hs3
theorem iter76 {ρ : Nat → BI} {hp : Tr Blk} {nx : Nat} {w : World} (hs : HSim ρ hp nx w) {b c n : Nat} {rb rc : Bool} {brows : List (List AV)} (hb : hp.get b = some (.cells rb [.any] [[.slq c n]])) (hc : hp.get c = some (.cells rc [.int .u8] brows))
    (hn : n = brows.length) (hlen : n < 4294967280) : IterOK Tryz.prog 76 (concL ρ [.ptr ⟨b, 0, 0⟩]).toArray w (spLines (brows.map rowByte)).length
      (fun k => #[conc ρ (.str ((spLines (brows.map rowByte)).getD k ([], [])).1), conc ρ (.str ((spLines (brows.map rowByte)).getD k ([], [])).2)]) := by
  intro l J hExt hgw hy hJ0
  subst hn
  obtain ⟨σ, hσ⟩ : ∃ σ : Nat → Nat, (fun i => if i = 0 then c else b) = σ := ⟨_, rfl⟩
  have hσ0 : σ 0 = c := by rw [← hσ]; rfl
  have hσ1 : σ 1 = b := by rw [← hσ]; rfl
  have hE : HSim (fun i => ρ (σ i)) (addBlks .e 0 [.cells false [.int .u8] brows, .cells false [.any] [[.slq 0 brows.length]]]) ([.cells false [.int .u8] brows, .cells false [.any] [[.slq 0 brows.length]]] : List Blk).length w := by
    refine HSim.ins hs.gw fun i blk hi => ?_
    match i with
    | 0 =>
      simp at hi; subst hi
      refine ⟨Blk.sat_ren (σ := σ) ?_, rfl, rfl⟩
      rw [hσ0]; exact Blk.ro (hs.sat c _ hc)
    | 1 =>
      simp at hi; subst hi
      refine ⟨Blk.sat_ren (σ := σ) ?_, rfl, rfl⟩
      rw [hσ1]
      have : (Blk.cells false [.any] [[.slq 0 brows.length]]).ren σ = .cells false [.any] [[.slq c brows.length]] := by
        simp [Blk.ren, Kd.isAny, renL, ren, hσ0]
      rw [this]
      exact Blk.ro (hs.sat b _ hb)
    | i + 2 => simp at hi
  have hfn : Tryz.prog.funcs[76]? = some Tryz.f76 := by kernel_rfl
  have hbody : Tryz.f76.body = some (.seq (seqL (fbody Tryz.prog 76)) (.block 0 (.loop (lbody Tryz.prog 76 0)))) := by kernel_rfl
  refine callsIn_wide (n := 0).1 (callsIn_of_wp_marks hfn hbody trivial ?_ rfl)
  refine @wpE_seq env0 _ _ _ _ _ _ ?_
  have hsim : @Sim env0 (fun i => ρ (σ i)) ((s76z l brows.length brows).m 25) { tmps := #[Value.func (Fn.yield l) #[] #[]] ++ (concL ρ [.ptr ⟨b, 0, 0⟩]).toArray ++ Array.replicate (Tryz.f76.ntmps - (#[Value.func (Fn.yield l) #[] #[]] ++ (concL ρ [.ptr ⟨b, 0, 0⟩]).toArray).size) undef, defers := [] } w := by
    have hnt : Tryz.f76.ntmps = 25 := by kernel_rfl
    refine @Sim.mk env0 _ _ _ _ ?_ (by simp [concL, hnt, SL.m]) ?_ (@Dfs.mk env0 _ _ _ _ rfl fun b hb => by cases hb)
    · have : Tr.ofList (s76z l brows.length brows).hp = addBlks .e 0 [.cells false [.int .u8] brows, .cells false [.any] [[.slq 0 brows.length]]] := by rfl
      show HSim _ (Tr.ofList (s76z l brows.length brows).hp) 2 w
      refine ⟨⟨fun b blk h => hE.sat b blk ?_, fun b1 b2 k1 k2 hne h1 h2 => hE.sep b1 b2 k1 k2 hne ?_ ?_, fun b blk h => hE.wf b blk ?_⟩, hE.gw, fun b blk h => hE.ng b blk ?_⟩
      all_goals (first | exact h | exact h1 | exact h2)
    · intro t v hv
      have hv := ofList_mem (show (Tr.ofList (s76z l brows.length brows).tm).get t = some v from hv)
      simp only [s76z, List.mem_cons, Prod.mk.injEq, List.not_mem_nil, or_false] at hv
      rcases hv with ⟨rfl, rfl⟩ | ⟨rfl, rfl⟩
      · exact ⟨by simp [conc, concL], rfl⟩
      · refine ⟨?_, rfl⟩
        simp [conc, concL, hσ1, addr]
  have hstep := body_of P5_ok (y76a l brows.length brows) ⟨⟨trivial, rfl⟩, decide_eq_true (by omega)⟩ rfl env0 rfl _ _ w _ _ w (HStep.refl (@Sim.h env0 _ _ _ _ hsim)) hsim
  refine wpIn_mono hstep ?_
  rintro x a1 W1 ⟨rfl, ρ1, st, hs1⟩
  have hE1 : Ext w W1 := st.below (fun b blk h => by
    have := ofList_mem h
    simp only [s76z, List.mem_cons, Prod.mk.injEq, List.not_mem_nil, or_false] at this
    rcases this with ⟨rfl, rfl⟩ | ⟨rfl, rfl⟩ <;> rfl)
  refine @wpE_block env0 _ _ _ _ _ _ ?_
  have hsub : (sub brows 0 brows.length).map rowByte = brows.map rowByte := by rw [sub_all brows rfl]
  rw [hsub] at hs1
  have hr := rounds76 (l := l) (J := J) (Lst := spLines (brows.map rowByte)) hExt hgw (fun k W p hp hJ => by
    have hkl : k < (spLines (brows.map rowByte)).length := by
      rcases Nat.lt_or_ge k (spLines (brows.map rowByte)).length with h | h
      · exact h
      · rw [List.getElem?_eq_none h] at hp; cases hp
    have := hy k W hkl hJ
    have hg : (spLines (brows.map rowByte)).getD k ([], []) = p := by rw [List.getD_eq_getElem?_getD, hp]; rfl
    simp only [hg] at this
    exact this) ((brows.map rowByte).length + 1) (brows.map rowByte) 0 ρ1 a1 W1 (by omega) (by simp; omega) rfl (hExt _ _ _ hJ0 hE1) hs1
  refine wpIn_mono (@wpE_loop_rounds env0 _ _ _ _ _ _ hr) ?_
  rintro x a' w' ⟨rfl, hd, hJ⟩
  show LeavesInM Fence.wide 0 Tryz.prog Tryz.f76 a'.tmps _ a'.defers .returning w'
  rw [hd]
  have hres : Tryz.f76.results = #[] := by kernel_rfl
  refine ⟨_, results_run (vs := []) (ρ := ρ) ?_, ⟨_, rfl⟩, hJ⟩
  rw [hres]; rfl
end Go.Proofs.YtpdgmgkkbbndfaaGreatDoor

set_option maxRecDepth 100000
set_option linter.unusedVariables false
set_option linter.unusedSimpArgs false
namespace Go.Proofs.YtpdgmgkkbbndfaaGreatDoor
open Go Go.Proofs Go.Proofs.YtpdgmgkkbbndfaaGreatDoor.SX
def q45p : Entry := fun args hp nx => match args with
  | [sv] => match slIn hp [Kd.str, Kd.str] sv with
    | some (c, rows) => some (c && decide (0 < rows.length ∧ rows.length ≤ 4398046511104), .sl ⟨nx, 0, 0⟩ rows.length .open_, [.cells true [Kd.str, Kd.str] rows])
    | none => none
  | _ => none
theorem q45p_ok : EntryOK Tryz.prog 45 q45p := by
  intro args hp nx c v bs h hc ρ w hs hi
  unfold q45p at h
  split at h
  · rename_i sv
    split at h
    · rename_i c0 rows hsl
      cases h
      simp only [Bool.and_eq_true] at hc
      obtain ⟨hc1, hc2⟩ := hc
      obtain ⟨hpos, hlen⟩ := of_decide_eq_true hc2
      have hr := slIn_spec hs hsl hc1 rfl
      have hv0 : (concL ρ [sv]).toArray = #[conc ρ sv] := by simp [concL]
      rw [hv0]
      generalize conc ρ sv = val at hr
      cases hr with
      | nil h => rw [h] at hpos; exact absurd hpos (by decide)
      | cells bi c h =>
        have hE : HSim (fun _ => bi) (addBlks .e 0 [.cells false [Kd.str, Kd.str] rows]) ([.cells false [Kd.str, Kd.str] rows] : List Blk).length w := HSim.ins hs.gw (fun i blk hi => by
          obtain ⟨rfl, rfl⟩ := bs1 hi
          exact ⟨h, rfl, rfl⟩)
        have hv : (concL (fun _ => bi) [AV.sl (Loc.mk 0 0 0) rows.length (Cap.known c)]).toArray = #[.slice (some ⟨bi.blk, bi.off, none⟩) rows.length c] := by simp [concL, conc, addr, capOf]
        rw [← hv]
        refine entry_of (ρ0 := fun _ => bi) (ins := [.cells false [Kd.str, Kd.str] rows]) (v0 := .sl ⟨1, 0, 0⟩ (0 + rows.length) .open_) hs rfl rfl ?_ (by simp [AV.idsB, blt_iff]) ?_ (fun blk hb => by
          simp only [List.mem_cons, List.not_mem_nil, or_false] at hb; subst hb; exact cells_sat_at rfl)
        · refine (calls_ofB P2_ok (c45n rows rows.length c) ⟨⟨⟨⟨trivial, decide_eq_true (by omega)⟩, decide_eq_false (by omega)⟩, rfl⟩, decide_eq_true (by omega)⟩ hE rfl).mono fun e w' hq => ?_
          obtain ⟨ρ', rfl, st⟩ := hq
          rw [sub_all rows rfl] at st
          exact ⟨ρ', rfl, st⟩
        · intro ρ' ρ'' h1 h2 h3
          have := h3 0 (by simp)
          simp at this
          simp [conc, addr, capOf, this]
    · cases h
  · cases h
def P6 : Prims := addP (addP P5 26 q26) 46 q46
theorem P6_ok : PrimsOK Tryz.prog P6 := addP_ok (addP_ok P5_ok q26_ok) q46_ok
def P6o : Prims := addP P6 45 q45
theorem P6o_ok : PrimsOK Tryz.prog P6o := addP_ok P6_ok q45_ok
def P6w : Prims := addP P6 45 q45p
theorem P6w_ok : PrimsOK Tryz.prog P6w := addP_ok P6_ok q45p_ok
end Go.Proofs.YtpdgmgkkbbndfaaGreatDoor

set_option maxRecDepth 100000
set_option linter.unusedVariables false
set_option linter.unusedSimpArgs false
namespace Go.Proofs.YtpdgmgkkbbndfaaGreatDoor
open Go Go.Proofs Go.Proofs.YtpdgmgkkbbndfaaGreatDoor.SX
def b23zI (start hs ts : List UInt8) (n m mn : Nat) (p tp : Int) (mrows hrows : List (List AV)) (k : Int) : SL := ⟨[(12, .ptr ⟨4, 0, 0⟩), (13, .ptr ⟨7, 0, 0⟩), (14, .ptr ⟨8, 0, 0⟩), (15, .ptr ⟨10, 0, 0⟩), (64, .sl ⟨9, 0, 0⟩ n .open_), (65, .int .i64 n), (66, .int .i64 k)], [(2, .cells false [.int .u16, .int .u16] mrows), (8, .cells true [.str, .str, .int .i64, .int .i64, .any] [[.str hs, .str ts, .int .i64 p, .int .i64 tp, .slq 2 mn]]), (9, .cells true [.str, .str] hrows), (10, .cells true [.str, .any, .any] [[.str start, .sl ⟨9, 0, 0⟩ n .open_, .nilSl]])], 13⟩
def b23oI (start hs ts : List UInt8) (n m mn : Nat) (p tp : Int) (mrows hrows : List (List AV)) (k : Int) : SL := ⟨[(12, .ptr ⟨4, 0, 0⟩), (13, .ptr ⟨7, 0, 0⟩), (14, .ptr ⟨8, 0, 0⟩), (15, .ptr ⟨10, 0, 0⟩), (64, .sl ⟨9, 0, 0⟩ n .open_), (65, .int .i64 n), (66, .int .i64 k)], [(2, .cells false [.int .u16, .int .u16] mrows), (8, .cells true [.str, .str, .int .i64, .int .i64, .any] [[.str hs, .str ts, .int .i64 p, .int .i64 tp, .slq 2 mn]]), (9, .cells true [.str, .str] hrows), (10, .cells true [.str, .any, .any] [[.str start, .sl ⟨9, 0, 0⟩ n .open_, .sl ⟨13, 0, 0⟩ m .open_]])], 14⟩
def b23zk0 (start hs ts : List UInt8) (n m mn : Nat) (p tp : Int) (mrows hrows : List (List AV)) (k : Int) : Bool := decide (k < (↑n : Int))
def b23zk1 (start hs ts : List UInt8) (n m mn : Nat) (p tp : Int) (mrows hrows : List (List AV)) (k : Int) : Bool := decide ((0 : Int) ≤ k ∧ k < (↑n : Int))
def b23zk2 (start hs ts : List UInt8) (n m mn : Nat) (p tp : Int) (mrows hrows : List (List AV)) (k : Int) : Bool := decide (0 + Int.toNat k < List.length hrows)
def b23zk3 (start hs ts : List UInt8) (n m mn : Nat) (p tp : Int) (mrows hrows : List (List AV)) (k : Int) : Bool := decide (List.length (AV.toStr (List.getD (List.getD hrows (0 + Int.toNat k) []) (0) AV.undef)) ≤ 140737488355328)
def b23zk4 (start hs ts : List UInt8) (n m mn : Nat) (p tp : Int) (mrows hrows : List (List AV)) (k : Int) : Bool := spLow (AV.toStr (List.getD (List.getD hrows (0 + Int.toNat k) []) (0) AV.undef)) == [(118 : UInt8), (105 : UInt8), (97 : UInt8)]
def b23zk5 (start hs ts : List UInt8) (n m mn : Nat) (p tp : Int) (mrows hrows : List (List AV)) (k : Int) : Bool := (decide (0 + mn ≤ List.length mrows) && decide (List.length (AV.toStr (List.getD (List.getD hrows (0 + Int.toNat k) []) (1) AV.undef)) ≤ 4294967200 ∧ 12 ≤ 4294967200 ∧ List.length hs ≤ 140737488355328 ∧ List.length ts ≤ 140737488355328 ∧ (Int.negSucc (9223372036854775807) ≤ tp ∧ tp ≤ (9223372036854775807 : Int)) ∧ ([(59 : UInt8)] = [(62 : UInt8), (59 : UInt8)] ∨ [(59 : UInt8)] = [(59 : UInt8)])))
def b23zk6 (start hs ts : List UInt8) (n m mn : Nat) (p tp : Int) (mrows hrows : List (List AV)) (k : Int) : Bool := decide (1 < List.length (List.getD hrows (0 + Int.toNat k) []))
theorem b23z_TT (start : List UInt8) (hs : List UInt8) (ts : List UInt8) (n : Nat) (m : Nat) (mn : Nat) (p : Int) (tp : Int) (mrows : List (List AV)) (hrows : List (List AV)) (k : Int) :
    Path (run Tryz.prog P6w 100 (lbody Tryz.prog 23 0) (SL.mp 113 ([pT, pT]) (b23zI start hs ts n m mn p tp mrows hrows k))) 13 [] (b23zI (start) (hs) (ts) (n) (m) (mn) (p) (tp) (mrows) (setAt hrows (0 + Int.toNat k) (1) (AV.str (spBehind hs ts (AV.toStr (List.getD (List.getD hrows (0 + Int.toNat k) []) (1) AV.undef)) [(83 : UInt8), (73 : UInt8), (80 : UInt8), (47 : UInt8), (50 : UInt8), (46 : UInt8), (48 : UInt8), (47 : UInt8), (85 : UInt8), (68 : UInt8), (80 : UInt8), (32 : UInt8)] [(59 : UInt8)] p tp))) (IntKind.wrap IntKind.i64 (k + (1 : Int)))) (Ex.normal)
      (((((((((((((((((True ∧ b23zk0 start hs ts n m mn p tp mrows hrows k = true) ∧ b23zk1 start hs ts n m mn p tp mrows hrows k = true) ∧ b23zk2 start hs ts n m mn p tp mrows hrows k = true) ∧ true = true) ∧ true = true) ∧ true = true) ∧ true = true) ∧ true = true) ∧ b23zk3 start hs ts n m mn p tp mrows hrows k = true) ∧ b23zk4 start hs ts n m mn p tp mrows hrows k = true) ∧ true = true) ∧ true = true) ∧ true = true) ∧ b23zk5 start hs ts n m mn p tp mrows hrows k = true) ∧ b23zk1 start hs ts n m mn p tp mrows hrows k = true) ∧ b23zk2 start hs ts n m mn p tp mrows hrows k = true) ∧ b23zk6 start hs ts n m mn p tp mrows hrows k = true) := by unfold Path; kernel_rfl
def b23zk7 (start hs ts : List UInt8) (n m mn : Nat) (p tp : Int) (mrows hrows : List (List AV)) (k : Int) : Bool := spLow (AV.toStr (List.getD (List.getD hrows (0 + Int.toNat k) []) (0) AV.undef)) == [(99 : UInt8), (111 : UInt8), (110 : UInt8), (116 : UInt8), (97 : UInt8), (99 : UInt8), (116 : UInt8)]
def b23zk8 (start hs ts : List UInt8) (n m mn : Nat) (p tp : Int) (mrows hrows : List (List AV)) (k : Int) : Bool := (decide (0 + mn ≤ List.length mrows) && decide (List.length (AV.toStr (List.getD (List.getD hrows (0 + Int.toNat k) []) (1) AV.undef)) ≤ 4294967200 ∧ 1 ≤ 4294967200 ∧ List.length hs ≤ 140737488355328 ∧ List.length ts ≤ 140737488355328 ∧ (Int.negSucc (9223372036854775807) ≤ tp ∧ tp ≤ (9223372036854775807 : Int)) ∧ ([(62 : UInt8), (59 : UInt8)] = [(62 : UInt8), (59 : UInt8)] ∨ [(62 : UInt8), (59 : UInt8)] = [(59 : UInt8)])))
theorem b23z_TFT (start : List UInt8) (hs : List UInt8) (ts : List UInt8) (n : Nat) (m : Nat) (mn : Nat) (p : Int) (tp : Int) (mrows : List (List AV)) (hrows : List (List AV)) (k : Int) :
    Path (run Tryz.prog P6w 100 (lbody Tryz.prog 23 0) (SL.mp 113 ([pT, pF, pT]) (b23zI start hs ts n m mn p tp mrows hrows k))) 13 [] (b23zI (start) (hs) (ts) (n) (m) (mn) (p) (tp) (mrows) (setAt hrows (0 + Int.toNat k) (1) (AV.str (spBehind hs ts (AV.toStr (List.getD (List.getD hrows (0 + Int.toNat k) []) (1) AV.undef)) [(64 : UInt8)] [(62 : UInt8), (59 : UInt8)] p tp))) (IntKind.wrap IntKind.i64 (k + (1 : Int)))) (Ex.normal)
      ((((((((((((((((((True ∧ b23zk0 start hs ts n m mn p tp mrows hrows k = true) ∧ b23zk1 start hs ts n m mn p tp mrows hrows k = true) ∧ b23zk2 start hs ts n m mn p tp mrows hrows k = true) ∧ true = true) ∧ true = true) ∧ true = true) ∧ true = true) ∧ true = true) ∧ b23zk3 start hs ts n m mn p tp mrows hrows k = true) ∧ b23zk4 start hs ts n m mn p tp mrows hrows k = false) ∧ b23zk7 start hs ts n m mn p tp mrows hrows k = true) ∧ true = true) ∧ true = true) ∧ true = true) ∧ b23zk8 start hs ts n m mn p tp mrows hrows k = true) ∧ b23zk1 start hs ts n m mn p tp mrows hrows k = true) ∧ b23zk2 start hs ts n m mn p tp mrows hrows k = true) ∧ b23zk6 start hs ts n m mn p tp mrows hrows k = true) := by unfold Path; kernel_rfl
def b23zk9 (start hs ts : List UInt8) (n m mn : Nat) (p tp : Int) (mrows hrows : List (List AV)) (k : Int) : Bool := spLow (AV.toStr (List.getD (List.getD hrows (0 + Int.toNat k) []) (0) AV.undef)) == [(99 : UInt8), (111 : UInt8), (110 : UInt8), (116 : UInt8), (101 : UInt8), (110 : UInt8), (116 : UInt8), (45 : UInt8), (108 : UInt8), (101 : UInt8), (110 : UInt8), (103 : UInt8), (116 : UInt8), (104 : UInt8)]
theorem b23z_TFFT (start : List UInt8) (hs : List UInt8) (ts : List UInt8) (n : Nat) (m : Nat) (mn : Nat) (p : Int) (tp : Int) (mrows : List (List AV)) (hrows : List (List AV)) (k : Int) :
    Path (run Tryz.prog P6w 100 (lbody Tryz.prog 23 0) (SL.mp 113 ([pT, pF, pF, pT]) (b23zI start hs ts n m mn p tp mrows hrows k))) 13 [] (b23zI (start) (hs) (ts) (n) (m) (mn) (p) (tp) (mrows) (setAt hrows (0 + Int.toNat k) (1) (AV.str [(48 : UInt8)])) (IntKind.wrap IntKind.i64 (k + (1 : Int)))) (Ex.normal)
      ((((((((((((((((((True ∧ b23zk0 start hs ts n m mn p tp mrows hrows k = true) ∧ b23zk1 start hs ts n m mn p tp mrows hrows k = true) ∧ b23zk2 start hs ts n m mn p tp mrows hrows k = true) ∧ true = true) ∧ true = true) ∧ true = true) ∧ true = true) ∧ true = true) ∧ b23zk3 start hs ts n m mn p tp mrows hrows k = true) ∧ b23zk4 start hs ts n m mn p tp mrows hrows k = false) ∧ b23zk7 start hs ts n m mn p tp mrows hrows k = false) ∧ b23zk9 start hs ts n m mn p tp mrows hrows k = true) ∧ true = true) ∧ true = true) ∧ true = true) ∧ b23zk1 start hs ts n m mn p tp mrows hrows k = true) ∧ b23zk2 start hs ts n m mn p tp mrows hrows k = true) ∧ b23zk6 start hs ts n m mn p tp mrows hrows k = true) := by unfold Path; kernel_rfl
theorem b23z_TFFF (start : List UInt8) (hs : List UInt8) (ts : List UInt8) (n : Nat) (m : Nat) (mn : Nat) (p : Int) (tp : Int) (mrows : List (List AV)) (hrows : List (List AV)) (k : Int) :
    Path (run Tryz.prog P6w 100 (lbody Tryz.prog 23 0) (SL.mp 113 ([pT, pF, pF, pF]) (b23zI start hs ts n m mn p tp mrows hrows k))) 13 [] (b23zI (start) (hs) (ts) (n) (m) (mn) (p) (tp) (mrows) (hrows) (IntKind.wrap IntKind.i64 (k + (1 : Int)))) (Ex.normal)
      ((((((((((((True ∧ b23zk0 start hs ts n m mn p tp mrows hrows k = true) ∧ b23zk1 start hs ts n m mn p tp mrows hrows k = true) ∧ b23zk2 start hs ts n m mn p tp mrows hrows k = true) ∧ true = true) ∧ true = true) ∧ true = true) ∧ true = true) ∧ true = true) ∧ b23zk3 start hs ts n m mn p tp mrows hrows k = true) ∧ b23zk4 start hs ts n m mn p tp mrows hrows k = false) ∧ b23zk7 start hs ts n m mn p tp mrows hrows k = false) ∧ b23zk9 start hs ts n m mn p tp mrows hrows k = false) := by unfold Path; kernel_rfl
theorem b23z_F (start : List UInt8) (hs : List UInt8) (ts : List UInt8) (n : Nat) (m : Nat) (mn : Nat) (p : Int) (tp : Int) (mrows : List (List AV)) (hrows : List (List AV)) (k : Int) :
    Path (run Tryz.prog P6w 100 (lbody Tryz.prog 23 0) (SL.mp 113 ([pF]) (b23zI start hs ts n m mn p tp mrows hrows k))) 13 [] (b23zI (start) (hs) (ts) (n) (m) (mn) (p) (tp) (mrows) (hrows) (k)) (Ex.exit 2)
      (True ∧ b23zk0 start hs ts n m mn p tp mrows hrows k = false) := by unfold Path; kernel_rfl
def b23z_cls (start hs ts : List UInt8) (n m mn : Nat) (p tp : Int) (mrows hrows : List (List AV)) (k : Int) : Nat := (bif b23zk0 start hs ts n m mn p tp mrows hrows k then (bif b23zk4 start hs ts n m mn p tp mrows hrows k then 0 else (bif b23zk7 start hs ts n m mn p tp mrows hrows k then 1 else (bif b23zk9 start hs ts n m mn p tp mrows hrows k then 2 else 3))) else 4)
theorem b23z_c0 (start hs ts : List UInt8) (n m mn : Nat) (p tp : Int) (mrows hrows : List (List AV)) (k : Int) (h : b23z_cls start hs ts n m mn p tp mrows hrows k = 0) (m0 : b23zk0 start hs ts n m mn p tp mrows hrows k = true → b23zk1 start hs ts n m mn p tp mrows hrows k = true) (m1 : b23zk0 start hs ts n m mn p tp mrows hrows k = true → b23zk2 start hs ts n m mn p tp mrows hrows k = true) (m2 : b23zk0 start hs ts n m mn p tp mrows hrows k = true → b23zk3 start hs ts n m mn p tp mrows hrows k = true) (m3 : b23zk0 start hs ts n m mn p tp mrows hrows k = true → b23zk4 start hs ts n m mn p tp mrows hrows k = true → b23zk5 start hs ts n m mn p tp mrows hrows k = true) (m4 : b23zk0 start hs ts n m mn p tp mrows hrows k = true → b23zk4 start hs ts n m mn p tp mrows hrows k = true → b23zk6 start hs ts n m mn p tp mrows hrows k = true) : BodyOK Tryz.prog (lbody Tryz.prog 23 0) 113 13 (b23zI start hs ts n m mn p tp mrows hrows k) (Ex.normal) (b23zI (start) (hs) (ts) (n) (m) (mn) (p) (tp) (mrows) (setAt hrows (0 + Int.toNat k) (1) (AV.str (spBehind hs ts (AV.toStr (List.getD (List.getD hrows (0 + Int.toNat k) []) (1) AV.undef)) [(83 : UInt8), (73 : UInt8), (80 : UInt8), (47 : UInt8), (50 : UInt8), (46 : UInt8), (48 : UInt8), (47 : UInt8), (85 : UInt8), (68 : UInt8), (80 : UInt8), (32 : UInt8)] [(59 : UInt8)] p tp))) (IntKind.wrap IntKind.i64 (k + (1 : Int)))) := by
  unfold b23z_cls at h
  cases q1 : b23zk0 start hs ts n m mn p tp mrows hrows k with
  | true =>
    rw [q1, cond_true] at h
    cases q2 : b23zk4 start hs ts n m mn p tp mrows hrows k with
    | true =>
      rw [q2, cond_true] at h
      exact body_by P6w_ok (b23z_TT start hs ts n m mn p tp mrows hrows k) rfl (by simp only [q1, q2, (m0 q1), (m1 q1), (m2 q1), (m3 q1 q2), (m4 q1 q2), eq_self, and_true, true_and]) rfl
    | false =>
      rw [q2, cond_false] at h
      cases q3 : b23zk7 start hs ts n m mn p tp mrows hrows k with
      | true =>
        rw [q3, cond_true] at h
        exact absurd h (by decide)
      | false =>
        rw [q3, cond_false] at h
        cases q4 : b23zk9 start hs ts n m mn p tp mrows hrows k with
        | true =>
          rw [q4, cond_true] at h
          exact absurd h (by decide)
        | false =>
          rw [q4, cond_false] at h
          exact absurd h (by decide)
  | false =>
    rw [q1, cond_false] at h
    exact absurd h (by decide)
theorem b23z_c1 (start hs ts : List UInt8) (n m mn : Nat) (p tp : Int) (mrows hrows : List (List AV)) (k : Int) (h : b23z_cls start hs ts n m mn p tp mrows hrows k = 1) (m0 : b23zk0 start hs ts n m mn p tp mrows hrows k = true → b23zk1 start hs ts n m mn p tp mrows hrows k = true) (m1 : b23zk0 start hs ts n m mn p tp mrows hrows k = true → b23zk2 start hs ts n m mn p tp mrows hrows k = true) (m2 : b23zk0 start hs ts n m mn p tp mrows hrows k = true → b23zk3 start hs ts n m mn p tp mrows hrows k = true) (m3 : b23zk0 start hs ts n m mn p tp mrows hrows k = true → b23zk4 start hs ts n m mn p tp mrows hrows k = false → b23zk7 start hs ts n m mn p tp mrows hrows k = true → b23zk8 start hs ts n m mn p tp mrows hrows k = true) (m4 : b23zk0 start hs ts n m mn p tp mrows hrows k = true → b23zk4 start hs ts n m mn p tp mrows hrows k = false → b23zk7 start hs ts n m mn p tp mrows hrows k = true → b23zk6 start hs ts n m mn p tp mrows hrows k = true) : BodyOK Tryz.prog (lbody Tryz.prog 23 0) 113 13 (b23zI start hs ts n m mn p tp mrows hrows k) (Ex.normal) (b23zI (start) (hs) (ts) (n) (m) (mn) (p) (tp) (mrows) (setAt hrows (0 + Int.toNat k) (1) (AV.str (spBehind hs ts (AV.toStr (List.getD (List.getD hrows (0 + Int.toNat k) []) (1) AV.undef)) [(64 : UInt8)] [(62 : UInt8), (59 : UInt8)] p tp))) (IntKind.wrap IntKind.i64 (k + (1 : Int)))) := by
  unfold b23z_cls at h
  cases q1 : b23zk0 start hs ts n m mn p tp mrows hrows k with
  | true =>
    rw [q1, cond_true] at h
    cases q2 : b23zk4 start hs ts n m mn p tp mrows hrows k with
    | true =>
      rw [q2, cond_true] at h
      exact absurd h (by decide)
    | false =>
      rw [q2, cond_false] at h
      cases q3 : b23zk7 start hs ts n m mn p tp mrows hrows k with
      | true =>
        rw [q3, cond_true] at h
        exact body_by P6w_ok (b23z_TFT start hs ts n m mn p tp mrows hrows k) rfl (by simp only [q1, q2, q3, (m0 q1), (m1 q1), (m2 q1), (m3 q1 q2 q3), (m4 q1 q2 q3), eq_self, and_true, true_and]) rfl
      | false =>
        rw [q3, cond_false] at h
        cases q4 : b23zk9 start hs ts n m mn p tp mrows hrows k with
        | true =>
          rw [q4, cond_true] at h
          exact absurd h (by decide)
        | false =>
          rw [q4, cond_false] at h
          exact absurd h (by decide)
  | false =>
    rw [q1, cond_false] at h
    exact absurd h (by decide)
theorem b23z_c2 (start hs ts : List UInt8) (n m mn : Nat) (p tp : Int) (mrows hrows : List (List AV)) (k : Int) (h : b23z_cls start hs ts n m mn p tp mrows hrows k = 2) (m0 : b23zk0 start hs ts n m mn p tp mrows hrows k = true → b23zk1 start hs ts n m mn p tp mrows hrows k = true) (m1 : b23zk0 start hs ts n m mn p tp mrows hrows k = true → b23zk2 start hs ts n m mn p tp mrows hrows k = true) (m2 : b23zk0 start hs ts n m mn p tp mrows hrows k = true → b23zk3 start hs ts n m mn p tp mrows hrows k = true) (m3 : b23zk0 start hs ts n m mn p tp mrows hrows k = true → b23zk4 start hs ts n m mn p tp mrows hrows k = false → b23zk7 start hs ts n m mn p tp mrows hrows k = false → b23zk9 start hs ts n m mn p tp mrows hrows k = true → b23zk6 start hs ts n m mn p tp mrows hrows k = true) : BodyOK Tryz.prog (lbody Tryz.prog 23 0) 113 13 (b23zI start hs ts n m mn p tp mrows hrows k) (Ex.normal) (b23zI (start) (hs) (ts) (n) (m) (mn) (p) (tp) (mrows) (setAt hrows (0 + Int.toNat k) (1) (AV.str [(48 : UInt8)])) (IntKind.wrap IntKind.i64 (k + (1 : Int)))) := by
  unfold b23z_cls at h
  cases q1 : b23zk0 start hs ts n m mn p tp mrows hrows k with
  | true =>
    rw [q1, cond_true] at h
    cases q2 : b23zk4 start hs ts n m mn p tp mrows hrows k with
    | true =>
      rw [q2, cond_true] at h
      exact absurd h (by decide)
    | false =>
      rw [q2, cond_false] at h
      cases q3 : b23zk7 start hs ts n m mn p tp mrows hrows k with
      | true =>
        rw [q3, cond_true] at h
        exact absurd h (by decide)
      | false =>
        rw [q3, cond_false] at h
        cases q4 : b23zk9 start hs ts n m mn p tp mrows hrows k with
        | true =>
          rw [q4, cond_true] at h
          exact body_by P6w_ok (b23z_TFFT start hs ts n m mn p tp mrows hrows k) rfl (by simp only [q1, q2, q3, q4, (m0 q1), (m1 q1), (m2 q1), (m3 q1 q2 q3 q4), eq_self, and_true, true_and]) rfl
        | false =>
          rw [q4, cond_false] at h
          exact absurd h (by decide)
  | false =>
    rw [q1, cond_false] at h
    exact absurd h (by decide)
theorem b23z_c3 (start hs ts : List UInt8) (n m mn : Nat) (p tp : Int) (mrows hrows : List (List AV)) (k : Int) (h : b23z_cls start hs ts n m mn p tp mrows hrows k = 3) (m0 : b23zk0 start hs ts n m mn p tp mrows hrows k = true → b23zk1 start hs ts n m mn p tp mrows hrows k = true) (m1 : b23zk0 start hs ts n m mn p tp mrows hrows k = true → b23zk2 start hs ts n m mn p tp mrows hrows k = true) (m2 : b23zk0 start hs ts n m mn p tp mrows hrows k = true → b23zk3 start hs ts n m mn p tp mrows hrows k = true) : BodyOK Tryz.prog (lbody Tryz.prog 23 0) 113 13 (b23zI start hs ts n m mn p tp mrows hrows k) (Ex.normal) (b23zI (start) (hs) (ts) (n) (m) (mn) (p) (tp) (mrows) (hrows) (IntKind.wrap IntKind.i64 (k + (1 : Int)))) := by
  unfold b23z_cls at h
  cases q1 : b23zk0 start hs ts n m mn p tp mrows hrows k with
  | true =>
    rw [q1, cond_true] at h
    cases q2 : b23zk4 start hs ts n m mn p tp mrows hrows k with
    | true =>
      rw [q2, cond_true] at h
      exact absurd h (by decide)
    | false =>
      rw [q2, cond_false] at h
      cases q3 : b23zk7 start hs ts n m mn p tp mrows hrows k with
      | true =>
        rw [q3, cond_true] at h
        exact absurd h (by decide)
      | false =>
        rw [q3, cond_false] at h
        cases q4 : b23zk9 start hs ts n m mn p tp mrows hrows k with
        | true =>
          rw [q4, cond_true] at h
          exact absurd h (by decide)
        | false =>
          rw [q4, cond_false] at h
          exact body_by P6w_ok (b23z_TFFF start hs ts n m mn p tp mrows hrows k) rfl (by simp only [q1, q2, q3, q4, (m0 q1), (m1 q1), (m2 q1), eq_self, and_true, true_and]) rfl
  | false =>
    rw [q1, cond_false] at h
    exact absurd h (by decide)
theorem b23z_c4 (start hs ts : List UInt8) (n m mn : Nat) (p tp : Int) (mrows hrows : List (List AV)) (k : Int) (h : b23z_cls start hs ts n m mn p tp mrows hrows k = 4)  : BodyOK Tryz.prog (lbody Tryz.prog 23 0) 113 13 (b23zI start hs ts n m mn p tp mrows hrows k) (Ex.exit 2) (b23zI (start) (hs) (ts) (n) (m) (mn) (p) (tp) (mrows) (hrows) (k)) := by
  unfold b23z_cls at h
  cases q1 : b23zk0 start hs ts n m mn p tp mrows hrows k with
  | true =>
    rw [q1, cond_true] at h
    cases q2 : b23zk4 start hs ts n m mn p tp mrows hrows k with
    | true =>
      rw [q2, cond_true] at h
      exact absurd h (by decide)
    | false =>
      rw [q2, cond_false] at h
      cases q3 : b23zk7 start hs ts n m mn p tp mrows hrows k with
      | true =>
        rw [q3, cond_true] at h
        exact absurd h (by decide)
      | false =>
        rw [q3, cond_false] at h
        cases q4 : b23zk9 start hs ts n m mn p tp mrows hrows k with
        | true =>
          rw [q4, cond_true] at h
          exact absurd h (by decide)
        | false =>
          rw [q4, cond_false] at h
          exact absurd h (by decide)
  | false =>
    rw [q1, cond_false] at h
    exact body_by P6w_ok (b23z_F start hs ts n m mn p tp mrows hrows k) rfl (by simp only [q1, eq_self, and_true, true_and]) rfl
def b23ok0 (start hs ts : List UInt8) (n m mn : Nat) (p tp : Int) (mrows hrows : List (List AV)) (k : Int) : Bool := decide (k < (↑n : Int))
def b23ok1 (start hs ts : List UInt8) (n m mn : Nat) (p tp : Int) (mrows hrows : List (List AV)) (k : Int) : Bool := decide ((0 : Int) ≤ k ∧ k < (↑n : Int))
def b23ok2 (start hs ts : List UInt8) (n m mn : Nat) (p tp : Int) (mrows hrows : List (List AV)) (k : Int) : Bool := decide (0 + Int.toNat k < List.length hrows)
def b23ok3 (start hs ts : List UInt8) (n m mn : Nat) (p tp : Int) (mrows hrows : List (List AV)) (k : Int) : Bool := decide (List.length (AV.toStr (List.getD (List.getD hrows (0 + Int.toNat k) []) (0) AV.undef)) ≤ 140737488355328)
def b23ok4 (start hs ts : List UInt8) (n m mn : Nat) (p tp : Int) (mrows hrows : List (List AV)) (k : Int) : Bool := spLow (AV.toStr (List.getD (List.getD hrows (0 + Int.toNat k) []) (0) AV.undef)) == [(118 : UInt8), (105 : UInt8), (97 : UInt8)]
def b23ok5 (start hs ts : List UInt8) (n m mn : Nat) (p tp : Int) (mrows hrows : List (List AV)) (k : Int) : Bool := (decide (0 + mn ≤ List.length mrows) && decide (List.length (AV.toStr (List.getD (List.getD hrows (0 + Int.toNat k) []) (1) AV.undef)) ≤ 4294967200 ∧ 12 ≤ 4294967200 ∧ List.length hs ≤ 140737488355328 ∧ List.length ts ≤ 140737488355328 ∧ (Int.negSucc (9223372036854775807) ≤ tp ∧ tp ≤ (9223372036854775807 : Int)) ∧ ([(59 : UInt8)] = [(62 : UInt8), (59 : UInt8)] ∨ [(59 : UInt8)] = [(59 : UInt8)])))
def b23ok6 (start hs ts : List UInt8) (n m mn : Nat) (p tp : Int) (mrows hrows : List (List AV)) (k : Int) : Bool := decide (1 < List.length (List.getD hrows (0 + Int.toNat k) []))
theorem b23o_TT (start : List UInt8) (hs : List UInt8) (ts : List UInt8) (n : Nat) (m : Nat) (mn : Nat) (p : Int) (tp : Int) (mrows : List (List AV)) (hrows : List (List AV)) (k : Int) :
    Path (run Tryz.prog P6w 100 (lbody Tryz.prog 23 0) (SL.mp 113 ([pT, pT]) (b23oI start hs ts n m mn p tp mrows hrows k))) 14 [] (b23oI (start) (hs) (ts) (n) (m) (mn) (p) (tp) (mrows) (setAt hrows (0 + Int.toNat k) (1) (AV.str (spBehind hs ts (AV.toStr (List.getD (List.getD hrows (0 + Int.toNat k) []) (1) AV.undef)) [(83 : UInt8), (73 : UInt8), (80 : UInt8), (47 : UInt8), (50 : UInt8), (46 : UInt8), (48 : UInt8), (47 : UInt8), (85 : UInt8), (68 : UInt8), (80 : UInt8), (32 : UInt8)] [(59 : UInt8)] p tp))) (IntKind.wrap IntKind.i64 (k + (1 : Int)))) (Ex.normal)
      (((((((((((((((((True ∧ b23ok0 start hs ts n m mn p tp mrows hrows k = true) ∧ b23ok1 start hs ts n m mn p tp mrows hrows k = true) ∧ b23ok2 start hs ts n m mn p tp mrows hrows k = true) ∧ true = true) ∧ true = true) ∧ true = true) ∧ true = true) ∧ true = true) ∧ b23ok3 start hs ts n m mn p tp mrows hrows k = true) ∧ b23ok4 start hs ts n m mn p tp mrows hrows k = true) ∧ true = true) ∧ true = true) ∧ true = true) ∧ b23ok5 start hs ts n m mn p tp mrows hrows k = true) ∧ b23ok1 start hs ts n m mn p tp mrows hrows k = true) ∧ b23ok2 start hs ts n m mn p tp mrows hrows k = true) ∧ b23ok6 start hs ts n m mn p tp mrows hrows k = true) := by unfold Path; kernel_rfl
def b23ok7 (start hs ts : List UInt8) (n m mn : Nat) (p tp : Int) (mrows hrows : List (List AV)) (k : Int) : Bool := spLow (AV.toStr (List.getD (List.getD hrows (0 + Int.toNat k) []) (0) AV.undef)) == [(99 : UInt8), (111 : UInt8), (110 : UInt8), (116 : UInt8), (97 : UInt8), (99 : UInt8), (116 : UInt8)]
def b23ok8 (start hs ts : List UInt8) (n m mn : Nat) (p tp : Int) (mrows hrows : List (List AV)) (k : Int) : Bool := (decide (0 + mn ≤ List.length mrows) && decide (List.length (AV.toStr (List.getD (List.getD hrows (0 + Int.toNat k) []) (1) AV.undef)) ≤ 4294967200 ∧ 1 ≤ 4294967200 ∧ List.length hs ≤ 140737488355328 ∧ List.length ts ≤ 140737488355328 ∧ (Int.negSucc (9223372036854775807) ≤ tp ∧ tp ≤ (9223372036854775807 : Int)) ∧ ([(62 : UInt8), (59 : UInt8)] = [(62 : UInt8), (59 : UInt8)] ∨ [(62 : UInt8), (59 : UInt8)] = [(59 : UInt8)])))
theorem b23o_TFT (start : List UInt8) (hs : List UInt8) (ts : List UInt8) (n : Nat) (m : Nat) (mn : Nat) (p : Int) (tp : Int) (mrows : List (List AV)) (hrows : List (List AV)) (k : Int) :
    Path (run Tryz.prog P6w 100 (lbody Tryz.prog 23 0) (SL.mp 113 ([pT, pF, pT]) (b23oI start hs ts n m mn p tp mrows hrows k))) 14 [] (b23oI (start) (hs) (ts) (n) (m) (mn) (p) (tp) (mrows) (setAt hrows (0 + Int.toNat k) (1) (AV.str (spBehind hs ts (AV.toStr (List.getD (List.getD hrows (0 + Int.toNat k) []) (1) AV.undef)) [(64 : UInt8)] [(62 : UInt8), (59 : UInt8)] p tp))) (IntKind.wrap IntKind.i64 (k + (1 : Int)))) (Ex.normal)
      ((((((((((((((((((True ∧ b23ok0 start hs ts n m mn p tp mrows hrows k = true) ∧ b23ok1 start hs ts n m mn p tp mrows hrows k = true) ∧ b23ok2 start hs ts n m mn p tp mrows hrows k = true) ∧ true = true) ∧ true = true) ∧ true = true) ∧ true = true) ∧ true = true) ∧ b23ok3 start hs ts n m mn p tp mrows hrows k = true) ∧ b23ok4 start hs ts n m mn p tp mrows hrows k = false) ∧ b23ok7 start hs ts n m mn p tp mrows hrows k = true) ∧ true = true) ∧ true = true) ∧ true = true) ∧ b23ok8 start hs ts n m mn p tp mrows hrows k = true) ∧ b23ok1 start hs ts n m mn p tp mrows hrows k = true) ∧ b23ok2 start hs ts n m mn p tp mrows hrows k = true) ∧ b23ok6 start hs ts n m mn p tp mrows hrows k = true) := by unfold Path; kernel_rfl
def b23ok9 (start hs ts : List UInt8) (n m mn : Nat) (p tp : Int) (mrows hrows : List (List AV)) (k : Int) : Bool := spLow (AV.toStr (List.getD (List.getD hrows (0 + Int.toNat k) []) (0) AV.undef)) == [(99 : UInt8), (111 : UInt8), (110 : UInt8), (116 : UInt8), (101 : UInt8), (110 : UInt8), (116 : UInt8), (45 : UInt8), (108 : UInt8), (101 : UInt8), (110 : UInt8), (103 : UInt8), (116 : UInt8), (104 : UInt8)]
def b23ok10 (start hs ts : List UInt8) (n m mn : Nat) (p tp : Int) (mrows hrows : List (List AV)) (k : Int) : Bool := decide (Int.negSucc (9223372036854775807) ≤ (↑m : Int) ∧ (↑m : Int) ≤ (9223372036854775807 : Int))
theorem b23o_TFFT (start : List UInt8) (hs : List UInt8) (ts : List UInt8) (n : Nat) (m : Nat) (mn : Nat) (p : Int) (tp : Int) (mrows : List (List AV)) (hrows : List (List AV)) (k : Int) :
    Path (run Tryz.prog P6w 100 (lbody Tryz.prog 23 0) (SL.mp 113 ([pT, pF, pF, pT]) (b23oI start hs ts n m mn p tp mrows hrows k))) 14 [] (b23oI (start) (hs) (ts) (n) (m) (mn) (p) (tp) (mrows) (setAt hrows (0 + Int.toNat k) (1) (AV.str (spItoa (↑m : Int)))) (IntKind.wrap IntKind.i64 (k + (1 : Int)))) (Ex.normal)
      ((((((((((((((((((True ∧ b23ok0 start hs ts n m mn p tp mrows hrows k = true) ∧ b23ok1 start hs ts n m mn p tp mrows hrows k = true) ∧ b23ok2 start hs ts n m mn p tp mrows hrows k = true) ∧ true = true) ∧ true = true) ∧ true = true) ∧ true = true) ∧ true = true) ∧ b23ok3 start hs ts n m mn p tp mrows hrows k = true) ∧ b23ok4 start hs ts n m mn p tp mrows hrows k = false) ∧ b23ok7 start hs ts n m mn p tp mrows hrows k = false) ∧ b23ok9 start hs ts n m mn p tp mrows hrows k = true) ∧ true = true) ∧ true = true) ∧ b23ok10 start hs ts n m mn p tp mrows hrows k = true) ∧ b23ok1 start hs ts n m mn p tp mrows hrows k = true) ∧ b23ok2 start hs ts n m mn p tp mrows hrows k = true) ∧ b23ok6 start hs ts n m mn p tp mrows hrows k = true) := by unfold Path; kernel_rfl
theorem b23o_TFFF (start : List UInt8) (hs : List UInt8) (ts : List UInt8) (n : Nat) (m : Nat) (mn : Nat) (p : Int) (tp : Int) (mrows : List (List AV)) (hrows : List (List AV)) (k : Int) :
    Path (run Tryz.prog P6w 100 (lbody Tryz.prog 23 0) (SL.mp 113 ([pT, pF, pF, pF]) (b23oI start hs ts n m mn p tp mrows hrows k))) 14 [] (b23oI (start) (hs) (ts) (n) (m) (mn) (p) (tp) (mrows) (hrows) (IntKind.wrap IntKind.i64 (k + (1 : Int)))) (Ex.normal)
      ((((((((((((True ∧ b23ok0 start hs ts n m mn p tp mrows hrows k = true) ∧ b23ok1 start hs ts n m mn p tp mrows hrows k = true) ∧ b23ok2 start hs ts n m mn p tp mrows hrows k = true) ∧ true = true) ∧ true = true) ∧ true = true) ∧ true = true) ∧ true = true) ∧ b23ok3 start hs ts n m mn p tp mrows hrows k = true) ∧ b23ok4 start hs ts n m mn p tp mrows hrows k = false) ∧ b23ok7 start hs ts n m mn p tp mrows hrows k = false) ∧ b23ok9 start hs ts n m mn p tp mrows hrows k = false) := by unfold Path; kernel_rfl
theorem b23o_F (start : List UInt8) (hs : List UInt8) (ts : List UInt8) (n : Nat) (m : Nat) (mn : Nat) (p : Int) (tp : Int) (mrows : List (List AV)) (hrows : List (List AV)) (k : Int) :
    Path (run Tryz.prog P6w 100 (lbody Tryz.prog 23 0) (SL.mp 113 ([pF]) (b23oI start hs ts n m mn p tp mrows hrows k))) 14 [] (b23oI (start) (hs) (ts) (n) (m) (mn) (p) (tp) (mrows) (hrows) (k)) (Ex.exit 2)
      (True ∧ b23ok0 start hs ts n m mn p tp mrows hrows k = false) := by unfold Path; kernel_rfl
def b23o_cls (start hs ts : List UInt8) (n m mn : Nat) (p tp : Int) (mrows hrows : List (List AV)) (k : Int) : Nat := (bif b23ok0 start hs ts n m mn p tp mrows hrows k then (bif b23ok4 start hs ts n m mn p tp mrows hrows k then 0 else (bif b23ok7 start hs ts n m mn p tp mrows hrows k then 1 else (bif b23ok9 start hs ts n m mn p tp mrows hrows k then 2 else 3))) else 4)
theorem b23o_c0 (start hs ts : List UInt8) (n m mn : Nat) (p tp : Int) (mrows hrows : List (List AV)) (k : Int) (h : b23o_cls start hs ts n m mn p tp mrows hrows k = 0) (m0 : b23ok0 start hs ts n m mn p tp mrows hrows k = true → b23ok1 start hs ts n m mn p tp mrows hrows k = true) (m1 : b23ok0 start hs ts n m mn p tp mrows hrows k = true → b23ok2 start hs ts n m mn p tp mrows hrows k = true) (m2 : b23ok0 start hs ts n m mn p tp mrows hrows k = true → b23ok3 start hs ts n m mn p tp mrows hrows k = true) (m3 : b23ok0 start hs ts n m mn p tp mrows hrows k = true → b23ok4 start hs ts n m mn p tp mrows hrows k = true → b23ok5 start hs ts n m mn p tp mrows hrows k = true) (m4 : b23ok0 start hs ts n m mn p tp mrows hrows k = true → b23ok4 start hs ts n m mn p tp mrows hrows k = true → b23ok6 start hs ts n m mn p tp mrows hrows k = true) : BodyOK Tryz.prog (lbody Tryz.prog 23 0) 113 14 (b23oI start hs ts n m mn p tp mrows hrows k) (Ex.normal) (b23oI (start) (hs) (ts) (n) (m) (mn) (p) (tp) (mrows) (setAt hrows (0 + Int.toNat k) (1) (AV.str (spBehind hs ts (AV.toStr (List.getD (List.getD hrows (0 + Int.toNat k) []) (1) AV.undef)) [(83 : UInt8), (73 : UInt8), (80 : UInt8), (47 : UInt8), (50 : UInt8), (46 : UInt8), (48 : UInt8), (47 : UInt8), (85 : UInt8), (68 : UInt8), (80 : UInt8), (32 : UInt8)] [(59 : UInt8)] p tp))) (IntKind.wrap IntKind.i64 (k + (1 : Int)))) := by
  unfold b23o_cls at h
  cases q1 : b23ok0 start hs ts n m mn p tp mrows hrows k with
  | true =>
    rw [q1, cond_true] at h
    cases q2 : b23ok4 start hs ts n m mn p tp mrows hrows k with
    | true =>
      rw [q2, cond_true] at h
      exact body_by P6w_ok (b23o_TT start hs ts n m mn p tp mrows hrows k) rfl (by simp only [q1, q2, (m0 q1), (m1 q1), (m2 q1), (m3 q1 q2), (m4 q1 q2), eq_self, and_true, true_and]) rfl
    | false =>
      rw [q2, cond_false] at h
      cases q3 : b23ok7 start hs ts n m mn p tp mrows hrows k with
      | true =>
        rw [q3, cond_true] at h
        exact absurd h (by decide)
      | false =>
        rw [q3, cond_false] at h
        cases q4 : b23ok9 start hs ts n m mn p tp mrows hrows k with
        | true =>
          rw [q4, cond_true] at h
          exact absurd h (by decide)
        | false =>
          rw [q4, cond_false] at h
          exact absurd h (by decide)
  | false =>
    rw [q1, cond_false] at h
    exact absurd h (by decide)
theorem b23o_c1 (start hs ts : List UInt8) (n m mn : Nat) (p tp : Int) (mrows hrows : List (List AV)) (k : Int) (h : b23o_cls start hs ts n m mn p tp mrows hrows k = 1) (m0 : b23ok0 start hs ts n m mn p tp mrows hrows k = true → b23ok1 start hs ts n m mn p tp mrows hrows k = true) (m1 : b23ok0 start hs ts n m mn p tp mrows hrows k = true → b23ok2 start hs ts n m mn p tp mrows hrows k = true) (m2 : b23ok0 start hs ts n m mn p tp mrows hrows k = true → b23ok3 start hs ts n m mn p tp mrows hrows k = true) (m3 : b23ok0 start hs ts n m mn p tp mrows hrows k = true → b23ok4 start hs ts n m mn p tp mrows hrows k = false → b23ok7 start hs ts n m mn p tp mrows hrows k = true → b23ok8 start hs ts n m mn p tp mrows hrows k = true) (m4 : b23ok0 start hs ts n m mn p tp mrows hrows k = true → b23ok4 start hs ts n m mn p tp mrows hrows k = false → b23ok7 start hs ts n m mn p tp mrows hrows k = true → b23ok6 start hs ts n m mn p tp mrows hrows k = true) : BodyOK Tryz.prog (lbody Tryz.prog 23 0) 113 14 (b23oI start hs ts n m mn p tp mrows hrows k) (Ex.normal) (b23oI (start) (hs) (ts) (n) (m) (mn) (p) (tp) (mrows) (setAt hrows (0 + Int.toNat k) (1) (AV.str (spBehind hs ts (AV.toStr (List.getD (List.getD hrows (0 + Int.toNat k) []) (1) AV.undef)) [(64 : UInt8)] [(62 : UInt8), (59 : UInt8)] p tp))) (IntKind.wrap IntKind.i64 (k + (1 : Int)))) := by
  unfold b23o_cls at h
  cases q1 : b23ok0 start hs ts n m mn p tp mrows hrows k with
  | true =>
    rw [q1, cond_true] at h
    cases q2 : b23ok4 start hs ts n m mn p tp mrows hrows k with
    | true =>
      rw [q2, cond_true] at h
      exact absurd h (by decide)
    | false =>
      rw [q2, cond_false] at h
      cases q3 : b23ok7 start hs ts n m mn p tp mrows hrows k with
      | true =>
        rw [q3, cond_true] at h
        exact body_by P6w_ok (b23o_TFT start hs ts n m mn p tp mrows hrows k) rfl (by simp only [q1, q2, q3, (m0 q1), (m1 q1), (m2 q1), (m3 q1 q2 q3), (m4 q1 q2 q3), eq_self, and_true, true_and]) rfl
      | false =>
        rw [q3, cond_false] at h
        cases q4 : b23ok9 start hs ts n m mn p tp mrows hrows k with
        | true =>
          rw [q4, cond_true] at h
          exact absurd h (by decide)
        | false =>
          rw [q4, cond_false] at h
          exact absurd h (by decide)
  | false =>
    rw [q1, cond_false] at h
    exact absurd h (by decide)
theorem b23o_c2 (start hs ts : List UInt8) (n m mn : Nat) (p tp : Int) (mrows hrows : List (List AV)) (k : Int) (h : b23o_cls start hs ts n m mn p tp mrows hrows k = 2) (m0 : b23ok0 start hs ts n m mn p tp mrows hrows k = true → b23ok1 start hs ts n m mn p tp mrows hrows k = true) (m1 : b23ok0 start hs ts n m mn p tp mrows hrows k = true → b23ok2 start hs ts n m mn p tp mrows hrows k = true) (m2 : b23ok0 start hs ts n m mn p tp mrows hrows k = true → b23ok3 start hs ts n m mn p tp mrows hrows k = true) (m3 : b23ok0 start hs ts n m mn p tp mrows hrows k = true → b23ok4 start hs ts n m mn p tp mrows hrows k = false → b23ok7 start hs ts n m mn p tp mrows hrows k = false → b23ok9 start hs ts n m mn p tp mrows hrows k = true → b23ok10 start hs ts n m mn p tp mrows hrows k = true) (m4 : b23ok0 start hs ts n m mn p tp mrows hrows k = true → b23ok4 start hs ts n m mn p tp mrows hrows k = false → b23ok7 start hs ts n m mn p tp mrows hrows k = false → b23ok9 start hs ts n m mn p tp mrows hrows k = true → b23ok6 start hs ts n m mn p tp mrows hrows k = true) : BodyOK Tryz.prog (lbody Tryz.prog 23 0) 113 14 (b23oI start hs ts n m mn p tp mrows hrows k) (Ex.normal) (b23oI (start) (hs) (ts) (n) (m) (mn) (p) (tp) (mrows) (setAt hrows (0 + Int.toNat k) (1) (AV.str (spItoa (↑m : Int)))) (IntKind.wrap IntKind.i64 (k + (1 : Int)))) := by
  unfold b23o_cls at h
  cases q1 : b23ok0 start hs ts n m mn p tp mrows hrows k with
  | true =>
    rw [q1, cond_true] at h
    cases q2 : b23ok4 start hs ts n m mn p tp mrows hrows k with
    | true =>
      rw [q2, cond_true] at h
      exact absurd h (by decide)
    | false =>
      rw [q2, cond_false] at h
      cases q3 : b23ok7 start hs ts n m mn p tp mrows hrows k with
      | true =>
        rw [q3, cond_true] at h
        exact absurd h (by decide)
      | false =>
        rw [q3, cond_false] at h
        cases q4 : b23ok9 start hs ts n m mn p tp mrows hrows k with
        | true =>
          rw [q4, cond_true] at h
          exact body_by P6w_ok (b23o_TFFT start hs ts n m mn p tp mrows hrows k) rfl (by simp only [q1, q2, q3, q4, (m0 q1), (m1 q1), (m2 q1), (m3 q1 q2 q3 q4), (m4 q1 q2 q3 q4), eq_self, and_true, true_and]) rfl
        | false =>
          rw [q4, cond_false] at h
          exact absurd h (by decide)
  | false =>
    rw [q1, cond_false] at h
    exact absurd h (by decide)
theorem b23o_c3 (start hs ts : List UInt8) (n m mn : Nat) (p tp : Int) (mrows hrows : List (List AV)) (k : Int) (h : b23o_cls start hs ts n m mn p tp mrows hrows k = 3) (m0 : b23ok0 start hs ts n m mn p tp mrows hrows k = true → b23ok1 start hs ts n m mn p tp mrows hrows k = true) (m1 : b23ok0 start hs ts n m mn p tp mrows hrows k = true → b23ok2 start hs ts n m mn p tp mrows hrows k = true) (m2 : b23ok0 start hs ts n m mn p tp mrows hrows k = true → b23ok3 start hs ts n m mn p tp mrows hrows k = true) : BodyOK Tryz.prog (lbody Tryz.prog 23 0) 113 14 (b23oI start hs ts n m mn p tp mrows hrows k) (Ex.normal) (b23oI (start) (hs) (ts) (n) (m) (mn) (p) (tp) (mrows) (hrows) (IntKind.wrap IntKind.i64 (k + (1 : Int)))) := by
  unfold b23o_cls at h
  cases q1 : b23ok0 start hs ts n m mn p tp mrows hrows k with
  | true =>
    rw [q1, cond_true] at h
    cases q2 : b23ok4 start hs ts n m mn p tp mrows hrows k with
    | true =>
      rw [q2, cond_true] at h
      exact absurd h (by decide)
    | false =>
      rw [q2, cond_false] at h
      cases q3 : b23ok7 start hs ts n m mn p tp mrows hrows k with
      | true =>
        rw [q3, cond_true] at h
        exact absurd h (by decide)
      | false =>
        rw [q3, cond_false] at h
        cases q4 : b23ok9 start hs ts n m mn p tp mrows hrows k with
        | true =>
          rw [q4, cond_true] at h
          exact absurd h (by decide)
        | false =>
          rw [q4, cond_false] at h
          exact body_by P6w_ok (b23o_TFFF start hs ts n m mn p tp mrows hrows k) rfl (by simp only [q1, q2, q3, q4, (m0 q1), (m1 q1), (m2 q1), eq_self, and_true, true_and]) rfl
  | false =>
    rw [q1, cond_false] at h
    exact absurd h (by decide)
theorem b23o_c4 (start hs ts : List UInt8) (n m mn : Nat) (p tp : Int) (mrows hrows : List (List AV)) (k : Int) (h : b23o_cls start hs ts n m mn p tp mrows hrows k = 4)  : BodyOK Tryz.prog (lbody Tryz.prog 23 0) 113 14 (b23oI start hs ts n m mn p tp mrows hrows k) (Ex.exit 2) (b23oI (start) (hs) (ts) (n) (m) (mn) (p) (tp) (mrows) (hrows) (k)) := by
  unfold b23o_cls at h
  cases q1 : b23ok0 start hs ts n m mn p tp mrows hrows k with
  | true =>
    rw [q1, cond_true] at h
    cases q2 : b23ok4 start hs ts n m mn p tp mrows hrows k with
    | true =>
      rw [q2, cond_true] at h
      exact absurd h (by decide)
    | false =>
      rw [q2, cond_false] at h
      cases q3 : b23ok7 start hs ts n m mn p tp mrows hrows k with
      | true =>
        rw [q3, cond_true] at h
        exact absurd h (by decide)
      | false =>
        rw [q3, cond_false] at h
        cases q4 : b23ok9 start hs ts n m mn p tp mrows hrows k with
        | true =>
          rw [q4, cond_true] at h
          exact absurd h (by decide)
        | false =>
          rw [q4, cond_false] at h
          exact absurd h (by decide)
  | false =>
    rw [q1, cond_false] at h
    exact body_by P6w_ok (b23o_F start hs ts n m mn p tp mrows hrows k) rfl (by simp only [q1, eq_self, and_true, true_and]) rfl
def sgVia : List UInt8 := [118, 105, 97]
def sgContact : List UInt8 := [99, 111, 110, 116, 97, 99, 116]
def mkVia : List UInt8 := [83, 73, 80, 47, 50, 46, 48, 47, 85, 68, 80, 32]
def spHdr (hs ts : List UInt8) (p tp : Int) (m : Nat) (r : List AV) : List AV :=
  bif spLow (hN r) == sgVia then r.set 1 (.str (spBehind hs ts (hV r) mkVia [59] p tp)) else
  bif spLow (hN r) == sgContact then r.set 1 (.str (spBehind hs ts (hV r) [64] [62, 59] p tp)) else
  bif spLow (hN r) == sgLen then r.set 1 (.str (spItoa (m : Int))) else r
def hdrK (f : List AV → List AV) (rows : List (List AV)) (k : Nat) : List (List AV) := (rows.take k).map f ++ rows.drop k
theorem hdrK_length (f : List AV → List AV) (rows : List (List AV)) (k : Nat) : (hdrK f rows k).length = rows.length := by simp [hdrK]; omega
theorem hdrK_get {f : List AV → List AV} {rows : List (List AV)} {k : Nat} (h : k < rows.length) : (hdrK f rows k)[k]? = some rows[k] := by
  unfold hdrK
  have hl : ((rows.take k).map f).length = k := by simp; omega
  rw [List.getElem?_append_right (by omega), hl, Nat.sub_self, List.getElem?_drop, Nat.add_zero, List.getElem?_eq_getElem h]
theorem hdrK_row {f : List AV → List AV} {rows : List (List AV)} {k : Nat} (h : k < rows.length) : List.getD (hdrK f rows k) (0 + Int.toNat (k : Int)) [] = rows[k] := by
  rw [Nat.zero_add, Int.toNat_natCast, List.getD_eq_getElem?_getD, hdrK_get h]; rfl
theorem hdrK_succ {f : List AV → List AV} {rows : List (List AV)} {k : Nat} (h : k < rows.length) : (hdrK f rows k).set (0 + Int.toNat (k : Int)) (f rows[k]) = hdrK f rows (k + 1) := by
  rw [Nat.zero_add, Int.toNat_natCast]
  unfold hdrK
  have hl : ((rows.take k).map f).length = k := by simp; omega
  rw [List.set_append_right _ _ (by omega), hl, Nat.sub_self, take_snoc h, List.map_append, List.append_assoc, List.drop_eq_getElem_cons h]
  rfl
theorem hdrK_same {f : List AV → List AV} {rows : List (List AV)} {k : Nat} (h : k < rows.length) (hf : f rows[k] = rows[k]) : hdrK f rows k = hdrK f rows (k + 1) := by
  have hl : k < (hdrK f rows k).length := by rw [hdrK_length]; exact h
  have hg := hdrK_get (f := f) h
  rw [List.getElem?_eq_getElem hl] at hg
  have hg := Option.some.inj hg
  rw [← hdrK_succ h, hf, Nat.zero_add, Int.toNat_natCast, ← hg, List.set_getElem_self]
theorem setAt_row {f : List AV → List AV} {rows : List (List AV)} {k j : Nat} {v : AV} (h : k < rows.length) : setAt (hdrK f rows k) (0 + Int.toNat (k : Int)) j v = (hdrK f rows k).set (0 + Int.toNat (k : Int)) (rows[k].set j v) := by
  unfold setAt
  rw [hdrK_row h]
structure HdrOK (hs ts : List UInt8) (tp : Int) (rows mrows : List (List AV)) : Prop where
  len : rows.length ≤ 4611686018427387904
  short : rows.all short = true
  two : ∀ r ∈ rows, r.length = 2
  hs : hs.length ≤ 140737488355328
  ts : ts.length ≤ 140737488355328
  tp : -9223372036854775808 ≤ tp ∧ tp ≤ 9223372036854775807
theorem hdrz_round {start hs ts : List UInt8} {m : Nat} {p tp : Int} {rows mrows : List (List AV)} (ho : HdrOK hs ts tp rows mrows) (hm : m ≤ 4611686018427387904) {k : Nat} (h : k < rows.length) :
    BodyOK Tryz.prog (lbody Tryz.prog 23 0) 113 13 (b23zI start hs ts rows.length m mrows.length p tp mrows (hdrK (spHdr hs ts p tp 0) rows k) k) .normal (b23zI start hs ts rows.length m mrows.length p tp mrows (hdrK (spHdr hs ts p tp 0) rows (k + 1)) ((k + 1 : Nat) : Int)) := by
  have hlen := ho.len
  have hsh := short_at ho.short h
  have h2 := ho.two rows[k] (List.getElem_mem h)
  have hhs := ho.hs
  have hts := ho.ts
  have htp := ho.tp
  have hw := succ64 (n := rows.length) h (by omega)
  have hr : List.getD (hdrK (spHdr hs ts p tp 0) rows k) (0 + Int.toNat (k : Int)) [] = rows[k] := hdrK_row h
  have hl : (hdrK (spHdr hs ts p tp 0) rows k).length = rows.length := hdrK_length _ _ _
  have e0 : b23zk0 start hs ts rows.length m mrows.length p tp mrows (hdrK (spHdr hs ts p tp 0) rows k) k = true := decide_eq_true (by omega)
  have e1 : b23zk1 start hs ts rows.length m mrows.length p tp mrows (hdrK (spHdr hs ts p tp 0) rows k) k = true := decide_eq_true (by omega)
  have e2 : b23zk2 start hs ts rows.length m mrows.length p tp mrows (hdrK (spHdr hs ts p tp 0) rows k) k = true := by unfold b23zk2; rw [hl]; exact decide_eq_true (by simp; omega)
  have e3 : b23zk3 start hs ts rows.length m mrows.length p tp mrows (hdrK (spHdr hs ts p tp 0) rows k) k = true := by unfold b23zk3; rw [hr]; exact decide_eq_true (by have := hsh.1; unfold hN at this; omega)
  have e5 : b23zk5 start hs ts rows.length m mrows.length p tp mrows (hdrK (spHdr hs ts p tp 0) rows k) k = true := by
    unfold b23zk5; rw [hr, Bool.and_eq_true]; exact ⟨decide_eq_true (by omega), decide_eq_true ⟨by have := hsh.2; unfold hV at this; omega, by decide, hhs, hts, htp, .inr rfl⟩⟩
  have e6 : b23zk6 start hs ts rows.length m mrows.length p tp mrows (hdrK (spHdr hs ts p tp 0) rows k) k = true := by unfold b23zk6; rw [hr]; exact decide_eq_true (by omega)
  have e8 : b23zk8 start hs ts rows.length m mrows.length p tp mrows (hdrK (spHdr hs ts p tp 0) rows k) k = true := by
    unfold b23zk8; rw [hr, Bool.and_eq_true]; exact ⟨decide_eq_true (by omega), decide_eq_true ⟨by have := hsh.2; unfold hV at this; omega, by decide, hhs, hts, htp, .inl rfl⟩⟩
  have q4 : b23zk4 start hs ts rows.length m mrows.length p tp mrows (hdrK (spHdr hs ts p tp 0) rows k) k = (spLow (hN rows[k]) == sgVia) := by unfold b23zk4; rw [hr]; rfl
  have q7 : b23zk7 start hs ts rows.length m mrows.length p tp mrows (hdrK (spHdr hs ts p tp 0) rows k) k = (spLow (hN rows[k]) == sgContact) := by unfold b23zk7; rw [hr]; rfl
  have q9 : b23zk9 start hs ts rows.length m mrows.length p tp mrows (hdrK (spHdr hs ts p tp 0) rows k) k = (spLow (hN rows[k]) == sgLen) := by unfold b23zk9; rw [hr]; rfl
  cases a4 : spLow (hN rows[k]) == sgVia with
  | true =>
    have hf : spHdr hs ts p tp 0 rows[k] = rows[k].set 1 (.str (spBehind hs ts (hV rows[k]) mkVia [59] p tp)) := by unfold spHdr; rw [a4]; rfl
    refine BodyOK.to (b23z_c0 start hs ts rows.length m mrows.length p tp mrows _ k (by unfold b23z_cls; rw [e0, q4, a4]; rfl) (fun _ => e1) (fun _ => e2) (fun _ => e3) (fun _ _ => e5) (fun _ _ => e6)) ?_
    rw [hr, setAt_row h, hw]
    rw [← hdrK_succ h, hf]; rfl
  | false =>
    cases a7 : spLow (hN rows[k]) == sgContact with
    | true =>
      have hf : spHdr hs ts p tp 0 rows[k] = rows[k].set 1 (.str (spBehind hs ts (hV rows[k]) [64] [62, 59] p tp)) := by unfold spHdr; rw [a4, a7]; rfl
      refine BodyOK.to (b23z_c1 start hs ts rows.length m mrows.length p tp mrows _ k (by unfold b23z_cls; rw [e0, q4, a4, q7, a7]; rfl) (fun _ => e1) (fun _ => e2) (fun _ => e3) (fun _ _ _ => e8) (fun _ _ _ => e6)) ?_
      rw [hr, setAt_row h, hw]
      rw [← hdrK_succ h, hf]; rfl
    | false =>
      cases a9 : spLow (hN rows[k]) == sgLen with
      | true =>
        have hf : spHdr hs ts p tp 0 rows[k] = rows[k].set 1 (.str (spItoa ((0 : Nat) : Int))) := by unfold spHdr; rw [a4, a7, a9]; rfl
        refine BodyOK.to (b23z_c2 start hs ts rows.length m mrows.length p tp mrows _ k (by unfold b23z_cls; rw [e0, q4, a4, q7, a7, q9, a9]; rfl) (fun _ => e1) (fun _ => e2) (fun _ => e3) (fun _ _ _ _ => e6)) ?_
        rw [setAt_row h, hw]
        rw [← hdrK_succ h, hf, show spItoa ((0 : Nat) : Int) = [48] by kernel_rfl]
      | false =>
        have hf : spHdr hs ts p tp 0 rows[k] = rows[k] := by unfold spHdr; rw [a4, a7, a9]; rfl
        refine BodyOK.to (b23z_c3 start hs ts rows.length m mrows.length p tp mrows _ k (by unfold b23z_cls; rw [e0, q4, a4, q7, a7, q9, a9]; rfl) (fun _ => e1) (fun _ => e2) (fun _ => e3)) ?_
        rw [hw, hdrK_same h hf]
theorem hdrz_loop {start hs ts : List UInt8} {m : Nat} {p tp : Int} {rows mrows : List (List AV)} (ho : HdrOK hs ts tp rows mrows) (hm : m ≤ 4611686018427387904) :
    LoopOK Tryz.prog (lbody Tryz.prog 23 0) 113 (b23zI start hs ts rows.length m mrows.length p tp mrows rows 0) (.exit 2) (b23zI start hs ts rows.length m mrows.length p tp mrows (rows.map (spHdr hs ts p tp 0)) rows.length) := by
  refine loop_rule (E := b23zI start hs ts rows.length m mrows.length p tp mrows rows 0) (I := fun k : Nat => b23zI start hs ts rows.length m mrows.length p tp mrows (hdrK (spHdr hs ts p tp 0) rows k) k) (pre := fun k => k ≤ rows.length) (μ := fun k => rows.length - k) _ _ rfl (fun ρ => by simp [Ex.conc]) ?_ (x0 := 0) (pick := []) (Nat.zero_le _) ⟨by kernel_rfl, map_fst_snd (by kernel_rfl)⟩
  intro k hk
  by_cases hkl : k < rows.length
  · left
    exact ⟨k + 1, by omega, by omega, hdrz_round ho hm hkl⟩
  · right
    have hk' : k = rows.length := by omega
    subst hk'
    have hx := b23z_c4 start hs ts rows.length m mrows.length p tp mrows (hdrK (spHdr hs ts p tp 0) rows rows.length) rows.length (by unfold b23z_cls b23zk0; rw [decide_eq_false (by omega)]; rfl)
    have e : hdrK (spHdr hs ts p tp 0) rows rows.length = rows.map (spHdr hs ts p tp 0) := by unfold hdrK; rw [List.take_length, List.drop_length, List.append_nil]
    rw [e] at hx ⊢
    exact hx
theorem hdro_round {start hs ts : List UInt8} {m : Nat} {p tp : Int} {rows mrows : List (List AV)} (ho : HdrOK hs ts tp rows mrows) (hm : m ≤ 4611686018427387904) {k : Nat} (h : k < rows.length) :
    BodyOK Tryz.prog (lbody Tryz.prog 23 0) 113 14 (b23oI start hs ts rows.length m mrows.length p tp mrows (hdrK (spHdr hs ts p tp m) rows k) k) .normal (b23oI start hs ts rows.length m mrows.length p tp mrows (hdrK (spHdr hs ts p tp m) rows (k + 1)) ((k + 1 : Nat) : Int)) := by
  have hlen := ho.len
  have hsh := short_at ho.short h
  have h2 := ho.two rows[k] (List.getElem_mem h)
  have hhs := ho.hs
  have hts := ho.ts
  have htp := ho.tp
  have hw := succ64 (n := rows.length) h (by omega)
  have hr : List.getD (hdrK (spHdr hs ts p tp m) rows k) (0 + Int.toNat (k : Int)) [] = rows[k] := hdrK_row h
  have hl : (hdrK (spHdr hs ts p tp m) rows k).length = rows.length := hdrK_length _ _ _
  have e0 : b23ok0 start hs ts rows.length m mrows.length p tp mrows (hdrK (spHdr hs ts p tp m) rows k) k = true := decide_eq_true (by omega)
  have e1 : b23ok1 start hs ts rows.length m mrows.length p tp mrows (hdrK (spHdr hs ts p tp m) rows k) k = true := decide_eq_true (by omega)
  have e2 : b23ok2 start hs ts rows.length m mrows.length p tp mrows (hdrK (spHdr hs ts p tp m) rows k) k = true := by unfold b23ok2; rw [hl]; exact decide_eq_true (by simp; omega)
  have e3 : b23ok3 start hs ts rows.length m mrows.length p tp mrows (hdrK (spHdr hs ts p tp m) rows k) k = true := by unfold b23ok3; rw [hr]; exact decide_eq_true (by have := hsh.1; unfold hN at this; omega)
  have e5 : b23ok5 start hs ts rows.length m mrows.length p tp mrows (hdrK (spHdr hs ts p tp m) rows k) k = true := by
    unfold b23ok5; rw [hr, Bool.and_eq_true]; exact ⟨decide_eq_true (by omega), decide_eq_true ⟨by have := hsh.2; unfold hV at this; omega, by decide, hhs, hts, htp, .inr rfl⟩⟩
  have e6 : b23ok6 start hs ts rows.length m mrows.length p tp mrows (hdrK (spHdr hs ts p tp m) rows k) k = true := by unfold b23ok6; rw [hr]; exact decide_eq_true (by omega)
  have e8 : b23ok8 start hs ts rows.length m mrows.length p tp mrows (hdrK (spHdr hs ts p tp m) rows k) k = true := by
    unfold b23ok8; rw [hr, Bool.and_eq_true]; exact ⟨decide_eq_true (by omega), decide_eq_true ⟨by have := hsh.2; unfold hV at this; omega, by decide, hhs, hts, htp, .inl rfl⟩⟩
  have q4 : b23ok4 start hs ts rows.length m mrows.length p tp mrows (hdrK (spHdr hs ts p tp m) rows k) k = (spLow (hN rows[k]) == sgVia) := by unfold b23ok4; rw [hr]; rfl
  have q7 : b23ok7 start hs ts rows.length m mrows.length p tp mrows (hdrK (spHdr hs ts p tp m) rows k) k = (spLow (hN rows[k]) == sgContact) := by unfold b23ok7; rw [hr]; rfl
  have q9 : b23ok9 start hs ts rows.length m mrows.length p tp mrows (hdrK (spHdr hs ts p tp m) rows k) k = (spLow (hN rows[k]) == sgLen) := by unfold b23ok9; rw [hr]; rfl
  have e10 : b23ok10 start hs ts rows.length m mrows.length p tp mrows (hdrK (spHdr hs ts p tp m) rows k) k = true := decide_eq_true (by omega)
  cases a4 : spLow (hN rows[k]) == sgVia with
  | true =>
    have hf : spHdr hs ts p tp m rows[k] = rows[k].set 1 (.str (spBehind hs ts (hV rows[k]) mkVia [59] p tp)) := by unfold spHdr; rw [a4]; rfl
    refine BodyOK.to (b23o_c0 start hs ts rows.length m mrows.length p tp mrows _ k (by unfold b23o_cls; rw [e0, q4, a4]; rfl) (fun _ => e1) (fun _ => e2) (fun _ => e3) (fun _ _ => e5) (fun _ _ => e6)) ?_
    rw [hr, setAt_row h, hw]
    rw [← hdrK_succ h, hf]; rfl
  | false =>
    cases a7 : spLow (hN rows[k]) == sgContact with
    | true =>
      have hf : spHdr hs ts p tp m rows[k] = rows[k].set 1 (.str (spBehind hs ts (hV rows[k]) [64] [62, 59] p tp)) := by unfold spHdr; rw [a4, a7]; rfl
      refine BodyOK.to (b23o_c1 start hs ts rows.length m mrows.length p tp mrows _ k (by unfold b23o_cls; rw [e0, q4, a4, q7, a7]; rfl) (fun _ => e1) (fun _ => e2) (fun _ => e3) (fun _ _ _ => e8) (fun _ _ _ => e6)) ?_
      rw [hr, setAt_row h, hw]
      rw [← hdrK_succ h, hf]; rfl
    | false =>
      cases a9 : spLow (hN rows[k]) == sgLen with
      | true =>
        have hf : spHdr hs ts p tp m rows[k] = rows[k].set 1 (.str (spItoa ((m : Nat) : Int))) := by unfold spHdr; rw [a4, a7, a9]; rfl
        refine BodyOK.to (b23o_c2 start hs ts rows.length m mrows.length p tp mrows _ k (by unfold b23o_cls; rw [e0, q4, a4, q7, a7, q9, a9]; rfl) (fun _ => e1) (fun _ => e2) (fun _ => e3) (fun _ _ _ _ => e10) (fun _ _ _ _ => e6)) ?_
        rw [setAt_row h, hw]
        rw [← hdrK_succ h, hf]
      | false =>
        have hf : spHdr hs ts p tp m rows[k] = rows[k] := by unfold spHdr; rw [a4, a7, a9]; rfl
        refine BodyOK.to (b23o_c3 start hs ts rows.length m mrows.length p tp mrows _ k (by unfold b23o_cls; rw [e0, q4, a4, q7, a7, q9, a9]; rfl) (fun _ => e1) (fun _ => e2) (fun _ => e3)) ?_
        rw [hw, hdrK_same h hf]
theorem hdro_loop {start hs ts : List UInt8} {m : Nat} {p tp : Int} {rows mrows : List (List AV)} (ho : HdrOK hs ts tp rows mrows) (hm : m ≤ 4611686018427387904) :
    LoopOK Tryz.prog (lbody Tryz.prog 23 0) 113 (b23oI start hs ts rows.length m mrows.length p tp mrows rows 0) (.exit 2) (b23oI start hs ts rows.length m mrows.length p tp mrows (rows.map (spHdr hs ts p tp m)) rows.length) := by
  refine loop_rule (E := b23oI start hs ts rows.length m mrows.length p tp mrows rows 0) (I := fun k : Nat => b23oI start hs ts rows.length m mrows.length p tp mrows (hdrK (spHdr hs ts p tp m) rows k) k) (pre := fun k => k ≤ rows.length) (μ := fun k => rows.length - k) _ _ rfl (fun ρ => by simp [Ex.conc]) ?_ (x0 := 0) (pick := []) (Nat.zero_le _) ⟨by kernel_rfl, map_fst_snd (by kernel_rfl)⟩
  intro k hk
  by_cases hkl : k < rows.length
  · left
    exact ⟨k + 1, by omega, by omega, hdro_round ho hm hkl⟩
  · right
    have hk' : k = rows.length := by omega
    subst hk'
    have hx := b23o_c4 start hs ts rows.length m mrows.length p tp mrows (hdrK (spHdr hs ts p tp m) rows rows.length) rows.length (by unfold b23o_cls b23ok0; rw [decide_eq_false (by omega)]; rfl)
    have e : hdrK (spHdr hs ts p tp m) rows rows.length = rows.map (spHdr hs ts p tp m) := by unfold hdrK; rw [List.take_length, List.drop_length, List.append_nil]
    rw [e] at hx ⊢
    exact hx
end Go.Proofs.YtpdgmgkkbbndfaaGreatDoor

set_option maxRecDepth 100000
set_option linter.unusedVariables false
set_option linter.unusedSimpArgs false
namespace Go.Proofs.YtpdgmgkkbbndfaaGreatDoor
open Go Go.Proofs Go.Proofs.YtpdgmgkkbbndfaaGreatDoor.SX
def I23 (start hs ts : List UInt8) (n : Nat) (p tp : Int) (mrows : List (List AV)) (brows : List (List AV)) : SL := ⟨[(51, .fn (.func 76) [] [.ptr ⟨11, 0, 0⟩]), (14, .ptr ⟨8, 0, 0⟩), (15, .ptr ⟨10, 0, 0⟩)], [(2, .cells false [.int .u16, .int .u16] mrows), (8, .cells true [.str, .str, .int .i64, .int .i64, .any] [[.str hs, .str ts, .int .i64 p, .int .i64 tp, .slq 2 mrows.length]]), (10, .cells true [.str, .any, .any] [[.str start, .sl ⟨9, 0, 0⟩ n .open_, .nilSl]]), (11, .cells true [.any] [[.slq 1 brows.length]]), (1, .cells false [.int .u8] brows)], 12⟩
def S23z (start hs ts : List UInt8) (n : Nat) (p tp : Int) (mrows : List (List AV)) : SL := ⟨[], [(2, .cells false [.int .u16, .int .u16] mrows), (8, .cells true [.str, .str, .int .i64, .int .i64, .any] [[.str hs, .str ts, .int .i64 p, .int .i64 tp, .slq 2 mrows.length]]), (10, .cells true [.str, .any, .any] [[.str start, .sl ⟨9, 0, 0⟩ n .open_, .nilSl]]), (12, .mark)], 13⟩
def S23o (start hs ts : List UInt8) (n : Nat) (p tp : Int) (mrows : List (List AV)) (rows : List (List AV)) : SL := ⟨[], [(2, .cells false [.int .u16, .int .u16] mrows), (8, .cells true [.str, .str, .int .i64, .int .i64, .any] [[.str hs, .str ts, .int .i64 p, .int .i64 tp, .slq 2 mrows.length]]), (10, .cells true [.str, .any, .any] [[.str start, .sl ⟨9, 0, 0⟩ n .open_, .sl ⟨13, 0, 0⟩ rows.length .open_]]), (12, .mark), (13, .cells true [.int .u8] rows)], 14⟩
def A23z (l e : List UInt8) (start hs ts : List UInt8) (n : Nat) (p tp : Int) (mrows : List (List AV)) : SL := ⟨[(53, .str e), (52, .str l), (51, .fn (.func 76) [] [.ptr ⟨11, 0, 0⟩]), (14, .ptr ⟨8, 0, 0⟩), (15, .ptr ⟨10, 0, 0⟩)], [(2, .cells false [.int .u16, .int .u16] mrows), (8, .cells true [.str, .str, .int .i64, .int .i64, .any] [[.str hs, .str ts, .int .i64 p, .int .i64 tp, .slq 2 mrows.length]]), (10, .cells true [.str, .any, .any] [[.str start, .sl ⟨9, 0, 0⟩ n .open_, .nilSl]]), (12, .mark)], 13⟩
def A23o (l e : List UInt8) (start hs ts : List UInt8) (n : Nat) (p tp : Int) (mrows : List (List AV)) (rows : List (List AV)) : SL := ⟨[(53, .str e), (52, .str l), (51, .fn (.func 76) [] [.ptr ⟨11, 0, 0⟩]), (14, .ptr ⟨8, 0, 0⟩), (15, .ptr ⟨10, 0, 0⟩)], [(2, .cells false [.int .u16, .int .u16] mrows), (8, .cells true [.str, .str, .int .i64, .int .i64, .any] [[.str hs, .str ts, .int .i64 p, .int .i64 tp, .slq 2 mrows.length]]), (10, .cells true [.str, .any, .any] [[.str start, .sl ⟨9, 0, 0⟩ n .open_, .sl ⟨13, 0, 0⟩ rows.length .open_]]), (12, .mark), (13, .cells true [.int .u8] rows)], 14⟩
def B23z (l e : List UInt8) (start hs ts : List UInt8) (n : Nat) (p tp : Int) (mrows : List (List AV)) : SL := ⟨[(14, .ptr ⟨8, 0, 0⟩), (15, .ptr ⟨10, 0, 0⟩), (16, .str l), (17, .str e)], [(2, .cells false [.int .u16, .int .u16] mrows), (8, .cells true [.str, .str, .int .i64, .int .i64, .any] [[.str hs, .str ts, .int .i64 p, .int .i64 tp, .slq 2 mrows.length]]), (10, .cells true [.str, .any, .any] [[.str start, .sl ⟨9, 0, 0⟩ n .open_, .nilSl]]), (12, .mark)], 13⟩
def B23o (l e : List UInt8) (start hs ts : List UInt8) (n : Nat) (p tp : Int) (mrows : List (List AV)) (rows : List (List AV)) : SL := ⟨[(14, .ptr ⟨8, 0, 0⟩), (15, .ptr ⟨10, 0, 0⟩), (16, .str l), (17, .str e)], [(2, .cells false [.int .u16, .int .u16] mrows), (8, .cells true [.str, .str, .int .i64, .int .i64, .any] [[.str hs, .str ts, .int .i64 p, .int .i64 tp, .slq 2 mrows.length]]), (10, .cells true [.str, .any, .any] [[.str start, .sl ⟨9, 0, 0⟩ n .open_, .sl ⟨13, 0, 0⟩ rows.length .open_]]), (12, .mark), (13, .cells true [.int .u8] rows)], 14⟩
theorem r23az (l e : List UInt8) (start hs ts : List UInt8) (n : Nat) (p tp : Int) (mrows : List (List AV)) : Path (runR Tryz.prog P6w 100 (rAs (rcode Tryz.prog 23 0)) (SL.mp 113 [] (A23z l e start hs ts n p tp mrows))) 13 [] (B23z l e start hs ts n p tp mrows) (Ex.normal) True := by unfold Path; kernel_rfl
theorem r23ao (l e : List UInt8) (start hs ts : List UInt8) (n : Nat) (p tp : Int) (mrows : List (List AV)) (rows : List (List AV)) : Path (runR Tryz.prog P6w 100 (rAs (rcode Tryz.prog 23 0)) (SL.mp 113 [] (A23o l e start hs ts n p tp mrows rows))) 13 [13] (B23o l e start hs ts n p tp mrows rows) (Ex.normal) True := by unfold Path; kernel_rfl
def spLineOut (hs ts : List UInt8) (mrows : List (List AV)) (q : List UInt8 × List UInt8) : List UInt8 := spLine hs ts q.1 mrows ++ q.2
def k23a (l hs ts : List UInt8) (mrows : List (List AV)) : Bool := (decide (0 + mrows.length ≤ List.length mrows) && decide (List.length l ≤ 4294967200 ∧ List.length hs ≤ 140737488355328 ∧ List.length ts ≤ 140737488355328 ∧ List.length (sub mrows 0 mrows.length) ≤ 4611686018427387904))
theorem r23bT (l e : List UInt8) (start hs ts : List UInt8) (n : Nat) (p tp : Int) (mrows : List (List AV)) :
    Path (runR Tryz.prog P6w 100 (rBo (rcode Tryz.prog 23 0)) (SL.mp 113 ([.as_ true]) (B23z l e start hs ts n p tp mrows))) 13 [] ⟨[], [(2, .cells false [.int .u16, .int .u16] mrows), (8, .cells true [.str, .str, .int .i64, .int .i64, .any] [[.str hs, .str ts, .int .i64 p, .int .i64 tp, .slq 2 mrows.length]]), (10, .cells true [.str, .any, .any] [[.str start, .sl ⟨9, 0, 0⟩ n .open_, .sl ⟨13, 0, 0⟩ (List.length (spLine hs ts l (sub mrows 0 mrows.length) ++ e)) .open_]]), (12, .mark), (13, .cells true [.int .u8] (List.map byteRow (spLine hs ts l (sub mrows 0 mrows.length) ++ e)))], 14⟩ (Ex.normal)
      ((((((((True ∧ (true = true)) ∧ (true = true)) ∧ (k23a l hs ts mrows = true)) ∧ (decide (List.length (spLine hs ts l (sub mrows 0 mrows.length)) + List.length e ≤ 9223372036854775807) = true)) ∧ (decide (0 < List.length (spLine hs ts l (sub mrows 0 mrows.length) ++ e)) = true)) ∧ (decide (List.length (spLine hs ts l (sub mrows 0 mrows.length) ++ e) * 1 ≤ 140737488355328) = true)) ∧ (true = true)) ∧ (true = true)) := by unfold Path; kernel_rfl
theorem r23bF (l e : List UInt8) (start hs ts : List UInt8) (n : Nat) (p tp : Int) (mrows : List (List AV)) :
    Path (runR Tryz.prog P6w 100 (rBo (rcode Tryz.prog 23 0)) (SL.mp 113 ([.as_ false]) (B23z l e start hs ts n p tp mrows))) 13 [] (S23z start hs ts n p tp mrows) (Ex.normal)
      (((((((True ∧ (true = true)) ∧ (true = true)) ∧ (k23a l hs ts mrows = true)) ∧ (decide (List.length (spLine hs ts l (sub mrows 0 mrows.length)) + List.length e ≤ 9223372036854775807) = true)) ∧ (decide (0 < List.length (spLine hs ts l (sub mrows 0 mrows.length) ++ e)) = false)) ∧ (true = true)) ∧ (true = true)) := by unfold Path; kernel_rfl
theorem r23d (l e : List UInt8) (start hs ts : List UInt8) (n : Nat) (p tp : Int) (mrows : List (List AV)) (rows : List (List AV)) :
    Path (runR Tryz.prog P6w 100 (rBo (rcode Tryz.prog 23 0)) (SL.mp 113 ([]) (B23o l e start hs ts n p tp mrows rows))) 13 [14] ⟨[], [(2, .cells false [.int .u16, .int .u16] mrows), (8, .cells true [.str, .str, .int .i64, .int .i64, .any] [[.str hs, .str ts, .int .i64 p, .int .i64 tp, .slq 2 mrows.length]]), (10, .cells true [.str, .any, .any] [[.str start, .sl ⟨9, 0, 0⟩ n .open_, .sl ⟨13, 0, 0⟩ (rows.length + List.length (spLine hs ts l (sub mrows 0 mrows.length) ++ e)) .open_]]), (12, .mark), (13, .cells true [.int .u8] (rows ++ List.map byteRow (spLine hs ts l (sub mrows 0 mrows.length) ++ e)))], 14⟩ (Ex.normal)
      ((((((((True ∧ (true = true)) ∧ (true = true)) ∧ (k23a l hs ts mrows = true)) ∧ (decide (List.length (spLine hs ts l (sub mrows 0 mrows.length)) + List.length e ≤ 9223372036854775807) = true)) ∧ (decide (0 = 0 ∧ rows.length = List.length rows) = true)) ∧ (decide ((rows.length + List.length (spLine hs ts l (sub mrows 0 mrows.length) ++ e)) * 1 ≤ 140737488355328) = true)) ∧ (true = true)) ∧ (true = true)) := by unfold Path; kernel_rfl
def outB (hs ts : List UInt8) (mrows : List (List AV)) (l : List (List UInt8 × List UInt8)) : List UInt8 := (l.map (spLineOut hs ts mrows)).flatten
theorem outB_succ {hs ts : List UInt8} {mrows : List (List AV)} {l : List (List UInt8 × List UInt8)} {k : Nat} (h : k < l.length) : outB hs ts mrows (l.take (k + 1)) = outB hs ts mrows (l.take k) ++ spLineOut hs ts mrows l[k] := by
  unfold outB
  rw [take_snoc h, List.map_append, List.flatten_append]
  simp
def S23 (start hs ts : List UInt8) (n : Nat) (p tp : Int) (mrows : List (List AV)) (bs : List UInt8) : SL := match bs with
  | [] => S23z start hs ts n p tp mrows
  | c :: l => S23o start hs ts n p tp mrows (byteRows (c :: l))
def A23 (l e : List UInt8) (start hs ts : List UInt8) (n : Nat) (p tp : Int) (mrows : List (List AV)) (bs : List UInt8) : SL := match bs with
  | [] => A23z l e start hs ts n p tp mrows
  | c :: r => A23o l e start hs ts n p tp mrows (byteRows (c :: r))
def B23 (l e : List UInt8) (start hs ts : List UInt8) (n : Nat) (p tp : Int) (mrows : List (List AV)) (bs : List UInt8) : SL := match bs with
  | [] => B23z l e start hs ts n p tp mrows
  | c :: r => B23o l e start hs ts n p tp mrows (byteRows (c :: r))
structure LineOK (hs ts : List UInt8) (mrows : List (List AV)) (lst : List (List UInt8 × List UInt8)) : Prop where
  hsl : hs.length ≤ 140737488355328
  tsl : ts.length ≤ 140737488355328
  m : mrows.length ≤ 4611686018427387904
  line : ∀ q ∈ lst, q.1.length ≤ 4294967200
  out : (outB hs ts mrows lst).length ≤ 140737488355328
theorem outB_le {hs ts : List UInt8} {mrows : List (List AV)} {lst : List (List UInt8 × List UInt8)} (k : Nat) : (outB hs ts mrows (lst.take k)).length ≤ (outB hs ts mrows lst).length := by
  have : lst = lst.take k ++ lst.drop k := (List.take_append_drop k lst).symm
  conv => rhs; rw [this]
  unfold outB
  rw [List.map_append, List.flatten_append, List.length_append]
  exact Nat.le_add_right _ _
theorem round23 {start hs ts : List UInt8} {n : Nat} {p tp : Int} {mrows : List (List AV)} {lst : List (List UInt8 × List UInt8)} (ho : LineOK hs ts mrows lst) {k : Nat} (h : k < lst.length) :
    BodyR Tryz.prog (rBo (rcode Tryz.prog 23 0)) 113 13 (B23 lst[k].1 lst[k].2 start hs ts n p tp mrows (outB hs ts mrows (lst.take k))) .normal (S23 start hs ts n p tp mrows (outB hs ts mrows (lst.take (k + 1)))) := by
  have hl := ho.line lst[k] (List.getElem_mem h)
  have hhs := ho.hsl; have hts := ho.tsl; have hm := ho.m
  have hout := ho.out
  have hle := outB_le (hs := hs) (ts := ts) (mrows := mrows) (lst := lst) (k + 1)
  have hs' := sub_all mrows rfl
  rw [outB_succ h] at hle ⊢
  have hk : k23a lst[k].1 hs ts mrows = true := by
    unfold k23a; rw [Bool.and_eq_true, hs']; exact ⟨decide_eq_true (by omega), decide_eq_true ⟨hl, hhs, hts, hm⟩⟩
  have ht : spLineOut hs ts mrows lst[k] = spLine hs ts lst[k].1 (sub mrows 0 mrows.length) ++ lst[k].2 := by rw [hs']; rfl
  rw [List.length_append] at hle
  have hlt : (spLine hs ts lst[k].1 (sub mrows 0 mrows.length)).length + lst[k].2.length = (spLineOut hs ts mrows lst[k]).length := by rw [ht, List.length_append]
  generalize outB hs ts mrows (lst.take k) = bs at hle ⊢
  have e1 : decide (List.length (spLine hs ts lst[k].1 (sub mrows 0 mrows.length)) + List.length lst[k].2 ≤ 9223372036854775807) = true := decide_eq_true (by omega)
  cases bs with
  | nil =>
    rw [List.nil_append]
    cases hc : spLineOut hs ts mrows lst[k] with
    | nil =>
      have e2 : decide (0 < List.length (spLine hs ts lst[k].1 (sub mrows 0 mrows.length) ++ lst[k].2)) = false := by rw [← ht, hc]; rfl
      exact body_ofR P6w_ok (r23bF lst[k].1 lst[k].2 start hs ts n p tp mrows) ⟨⟨⟨⟨⟨⟨⟨trivial, rfl⟩, rfl⟩, hk⟩, e1⟩, e2⟩, rfl⟩, rfl⟩ rfl
    | cons c r =>
      have e2 : decide (0 < List.length (spLine hs ts lst[k].1 (sub mrows 0 mrows.length) ++ lst[k].2)) = true := by rw [← ht, hc]; rfl
      have e3 : decide (List.length (spLine hs ts lst[k].1 (sub mrows 0 mrows.length) ++ lst[k].2) * 1 ≤ 140737488355328) = true := decide_eq_true (by rw [← ht]; omega)
      have hx := body_ofR P6w_ok (r23bT lst[k].1 lst[k].2 start hs ts n p tp mrows) ⟨⟨⟨⟨⟨⟨⟨⟨trivial, rfl⟩, rfl⟩, hk⟩, e1⟩, e2⟩, e3⟩, rfl⟩, rfl⟩ rfl
      rw [← ht, hc] at hx
      have e4 : (c :: r).length = (byteRows (c :: r)).length := (byteRows_length _).symm
      rw [e4] at hx
      exact hx
  | cons c r =>
    have e3 : decide (((byteRows (c :: r)).length + List.length (spLine hs ts lst[k].1 (sub mrows 0 mrows.length) ++ lst[k].2)) * 1 ≤ 140737488355328) = true := decide_eq_true (by rw [← ht, byteRows_length]; omega)
    have hx := body_ofR P6w_ok (r23d lst[k].1 lst[k].2 start hs ts n p tp mrows (byteRows (c :: r))) ⟨⟨⟨⟨⟨⟨⟨⟨trivial, rfl⟩, rfl⟩, hk⟩, e1⟩, decide_eq_true ⟨rfl, rfl⟩⟩, e3⟩, rfl⟩, rfl⟩ rfl
    rw [← ht] at hx
    have e4 : byteRows (c :: r) ++ List.map byteRow (spLineOut hs ts mrows lst[k]) = byteRows (c :: r ++ spLineOut hs ts mrows lst[k]) := by unfold byteRows; rw [List.map_append]
    have e5 : (byteRows (c :: r)).length + (spLineOut hs ts mrows lst[k]).length = (byteRows (c :: r ++ spLineOut hs ts mrows lst[k])).length := by rw [byteRows_length, byteRows_length, List.length_append]
    rw [e4, e5] at hx
    exact hx
theorem assign23 {l e start hs ts : List UInt8} {n : Nat} {p tp : Int} {mrows : List (List AV)} (bs : List UInt8) :
    BodyR Tryz.prog (rAs (rcode Tryz.prog 23 0)) 113 13 (A23 l e start hs ts n p tp mrows bs) .normal (B23 l e start hs ts n p tp mrows bs) := by
  cases bs with
  | nil => exact body_ofR P6w_ok (r23az l e start hs ts n p tp mrows) trivial rfl
  | cons c r => exact body_ofR P6w_ok (r23ao l e start hs ts n p tp mrows (byteRows (c :: r))) trivial rfl
theorem hent76 : ∀ (args : Array Value) (w : World), (callFunc 76 args).run Tryz.prog w = .ok (.enter 76 args) w := by
  intro args w
  have hfn : Tryz.prog.funcs[76]? = some Tryz.f76 := by kernel_rfl
  have h1 : ¬ (Tryz.f76.name = "runtime.NumGoroutine") := by decide
  have h2 : ¬ (Tryz.f76.body = none) := by
    intro h
    have : Tryz.f76.body.isSome = true := by kernel_rfl
    rw [h] at this; cases this
  simp [callFunc, go_sem, hfn]
  rw [if_neg h1, if_neg h2]
theorem rcode23 : rcode Tryz.prog 23 0 = .rangeFunc (.tmp 51) #[52, 53] (rAs (rcode Tryz.prog 23 0)) (rBo (rcode Tryz.prog 23 0)) := by kernel_rfl
theorem range23 {start hs ts : List UInt8} {n : Nat} {p tp : Int} {mrows brows : List (List AV)} (ho : LineOK hs ts mrows (spLines (brows.map rowByte))) (hb : brows.length < 4294967280) :
    RangeOK Tryz.prog (rcode Tryz.prog 23 0) 113 (I23 start hs ts n p tp mrows brows) (S23 start hs ts n p tp mrows (outB hs ts mrows (spLines (brows.map rowByte)))) := by
  rw [rcode23]
  have hx := range_rule (P := Tryz.prog) (t := 51) (p0 := 52) (p1 := 53) (assign := rAs (rcode Tryz.prog 23 0)) (body := rBo (rcode Tryz.prog 23 0)) (nt := 113) (I := I23 start hs ts n p tp mrows brows) (f := 76) (caps := [.ptr ⟨11, 0, 0⟩])
    (S := fun k => S23 start hs ts n p tp mrows (outB hs ts mrows ((spLines (brows.map rowByte)).take k)))
    (B := fun k => B23 ((spLines (brows.map rowByte)).getD k ([], [])).1 ((spLines (brows.map rowByte)).getD k ([], [])).2 start hs ts n p tp mrows (outB hs ts mrows ((spLines (brows.map rowByte)).take k)))
    (N := (spLines (brows.map rowByte)).length) (arg := fun k => (.str ((spLines (brows.map rowByte)).getD k ([], [])).1, .str ((spLines (brows.map rowByte)).getD k ([], [])).2))
    hent76 rfl (by decide) (by decide) (by decide) (fun k hk => ⟨rfl, rfl⟩) (pick := []) ⟨by kernel_rfl, map_fst_snd (by kernel_rfl)⟩ ?_ ?_ ?_
  · rw [List.take_length] at hx; exact hx
  · intro k hk
    have hA := assign23 (l := ((spLines (brows.map rowByte)).getD k ([], [])).1) (e := ((spLines (brows.map rowByte)).getD k ([], [])).2) (start := start) (hs := hs) (ts := ts) (n := n) (p := p) (tp := tp) (mrows := mrows) (outB hs ts mrows ((spLines (brows.map rowByte)).take k))
    generalize outB hs ts mrows ((spLines (brows.map rowByte)).take k) = bs at hA ⊢
    cases bs with
    | nil => exact hA
    | cons c r => exact hA
  · intro k hk
    have hg : (spLines (brows.map rowByte)).getD k ([], []) = (spLines (brows.map rowByte))[k] := by rw [List.getD_eq_getElem?_getD, List.getElem?_eq_getElem hk]; rfl
    simp only [hg]
    exact round23 ho hk
  · intro ρ w hs
    exact iter76 hs (b := 11) (c := 1) rfl rfl rfl hb
end Go.Proofs.YtpdgmgkkbbndfaaGreatDoor

set_option maxRecDepth 100000
set_option linter.unusedVariables false
set_option linter.unusedSimpArgs false
namespace Go.Proofs.YtpdgmgkkbbndfaaGreatDoor
open Go Go.Proofs Go.Proofs.YtpdgmgkkbbndfaaGreatDoor.SX
theorem len_line (hs ts s : List UInt8) (rows : List (List AV)) : (spLine hs ts s rows).length ≤ 2 * s.length + ts.length + 40 := by
  have h1 := len_suf s (sgOrig ++ hs)
  have h2 := len_medA s
  have h3 := len_medB s
  have h4 := len_itoa (isOf (List.getD rows (Int.toNat (spIdx rows (spMedN s))) [])) (wrap64_range _)
  have h5 : sgConn.length = 9 := rfl
  have h6 : sgOrig.length = 8 := rfl
  unfold spLine
  cases s == sgConn ++ hs with
  | true => simp only [cond_true, List.length_append]; omega
  | false =>
    cases spHasSuf s (sgOrig ++ hs) && spHasPre (spTrimSuf s (sgOrig ++ hs)) [111, 61] with
    | true => simp only [cond_true, cond_false, List.length_append]; omega
    | false =>
      cases decide (spIdx rows (spMedN s) < 0) with
      | true => simp only [cond_true, cond_false]; omega
      | false => simp only [cond_false, List.length_append]; omega
theorem len_lines : ∀ (n : Nat) (s : List UInt8), (spLinesF n s).length ≤ n ∧ ∀ q ∈ spLinesF n s, q.1.length ≤ s.length ∧ q.2.length ≤ 2
  | 0, s => ⟨Nat.le_refl _, fun q hq => by cases hq⟩
  | n + 1, s => by
    have h1 := len_before s [13, 10]
    have h2 := len_after s [13, 10]
    have ih := len_lines n (spAfter s [13, 10])
    unfold spLinesF
    cases spFound s [13, 10] with
    | true =>
      rw [cond_true]
      refine ⟨by simp only [List.length_cons]; omega, fun q hq => ?_⟩
      rcases List.mem_cons.1 hq with rfl | hq
      · exact ⟨h1, Nat.le_refl _⟩
      · have := ih.2 q hq; omega
    | false =>
      rw [cond_false]
      refine ⟨by simp, fun q hq => ?_⟩
      rcases List.mem_cons.1 hq with rfl | hq
      · exact ⟨h1, Nat.zero_le _⟩
      · cases hq
theorem len_outB {hs ts : List UInt8} {mrows : List (List AV)} {c : Nat} : ∀ (l : List (List UInt8 × List UInt8)), (∀ q ∈ l, (spLineOut hs ts mrows q).length ≤ c) → (outB hs ts mrows l).length ≤ l.length * c
  | [], _ => by simp [outB]
  | q :: l, h => by
    have ih := len_outB l fun q' hq => h q' (List.mem_cons_of_mem _ hq)
    have h0 := h q (List.mem_cons_self ..)
    unfold outB at ih ⊢
    simp only [List.map_cons, List.flatten_cons, List.length_append, List.length_cons, Nat.add_mul]
    omega
theorem len_behind (hs ts s mark signs : List UInt8) (p tp : Int) (h : -9223372036854775808 ≤ tp ∧ tp ≤ 9223372036854775807) : (spBehind hs ts s mark signs p tp).length ≤ 3 * s.length + mark.length + ts.length + 22 := by
  have h1 := len_before s mark
  have h2 := len_after s mark
  have h3 := len_sub (spAfter s mark) 0 (spEnd (spAfter s mark) signs)
  have h4 := len_sub (spAfter s mark) (spEnd (spAfter s mark) signs) ((spAfter s mark).length - spEnd (spAfter s mark) signs)
  have h5 := len_place hs ts (sub (spAfter s mark) 0 (spEnd (spAfter s mark) signs)) p tp h
  unfold spBehind
  cases !spFound s mark with
  | true => rw [cond_true]; omega
  | false => simp only [cond_false, List.length_append]; omega
theorem hN_set (r : List AV) (x : AV) : hN (r.set 1 x) = hN r := by
  unfold hN
  cases r with
  | nil => rfl
  | cons a l => rfl
theorem hV_set {r : List AV} (h : r.length = 2) (s : List UInt8) : hV (r.set 1 (.str s)) = s := by
  match r, h with
  | [a, b], _ => rfl
theorem hdr_spec (hs ts : List UInt8) (p tp : Int) (m : Nat) {r : List AV} (h : r.length = 2) :
    hN (spHdr hs ts p tp m r) = hN r ∧ hV (spHdr hs ts p tp m r) = (bif spLow (hN r) == sgVia then spBehind hs ts (hV r) mkVia [59] p tp else bif spLow (hN r) == sgContact then spBehind hs ts (hV r) [64] [62, 59] p tp else bif spLow (hN r) == sgLen then spItoa (m : Int) else hV r)
    ∧ (spHdr hs ts p tp m r).length = 2 := by
  unfold spHdr
  cases spLow (hN r) == sgVia with
  | true => exact ⟨hN_set _ _, hV_set h _, by simp [h]⟩
  | false =>
    cases spLow (hN r) == sgContact with
    | true => exact ⟨hN_set _ _, hV_set h _, by simp [h]⟩
    | false =>
      cases spLow (hN r) == sgLen with
      | true => exact ⟨hN_set _ _, hV_set h _, by simp [h]⟩
      | false => exact ⟨rfl, rfl, h⟩
def rwBody (host to_ : Int) (mrows brows : List (List AV)) : List UInt8 := outB (spDotted host) (spDotted to_) mrows (spLines (brows.map rowByte))
def rwHdrs (host to_ port toPort : Int) (mrows hrows brows : List (List AV)) : List (List AV) :=
  hrows.map (spHdr (spDotted host) (spDotted to_) (IntKind.wrap .i64 port) (IntKind.wrap .i64 toPort) (rwBody host to_ mrows brows).length)
def rwOk (start : List UInt8) (host to_ port toPort : Int) (mrows hrows brows : List (List AV)) : Bool :=
  spRight start hrows brows.length && spRight start (rwHdrs host to_ port toPort mrows hrows brows) (rwBody host to_ mrows brows).length
def spRwH (start : List UInt8) (host to_ port toPort : Int) (mrows hrows brows : List (List AV)) : List (List AV) :=
  bif rwOk start host to_ port toPort mrows hrows brows then rwHdrs host to_ port toPort mrows hrows brows else hrows
def spRwB (start : List UInt8) (host to_ port toPort : Int) (mrows hrows brows : List (List AV)) : List (List AV) :=
  bif rwOk start host to_ port toPort mrows hrows brows then byteRows (rwBody host to_ mrows brows) else brows
theorem hSize_mem {rows : List (List AV)} {r : List AV} (h : r ∈ rows) : hLen r ≤ hSize rows := by
  unfold hSize
  induction rows with
  | nil => cases h
  | cons a l ih =>
    simp only [List.map_cons, List.sum_cons]
    rcases List.mem_cons.1 h with rfl | h
    · omega
    · have := ih h; omega
structure Sized (start : List UInt8) (rows : List (List AV)) (bn : Nat) : Prop where
  n : rows.length ≤ 64
  pos : 0 < rows.length
  bn : bn ≤ 4096
  v : ∀ r ∈ rows, (hV r).length ≤ 4096 ∧ (hN r).length ≤ 4096
theorem right_sized {start : List UInt8} {rows : List (List AV)} {bn : Nat} (h : spRight start rows bn = true) : Sized start rows bn := by
  unfold spRight at h
  simp only [Bool.and_eq_true, decide_eq_true_eq] at h
  obtain ⟨_, _, h3, _, h5, h6⟩ := h
  refine ⟨h3, ?_, by omega, fun r hr => ?_⟩
  · cases rows with
    | nil => simp [nLens] at h5
    | cons a l => simp
  · have := hSize_mem hr
    unfold hLen at this
    omega
theorem rw_lines {host to_ : Int} {mrows brows : List (List AV)} (hb : brows.length ≤ 4096) (hm : mrows.length ≤ 4611686018427387904) :
    LineOK (spDotted host) (spDotted to_) mrows (spLines (brows.map rowByte)) ∧ (rwBody host to_ mrows brows).length ≤ 40000000 := by
  have h1 := len_dotted host
  have h2 := len_dotted to_
  have h3 := len_lines ((brows.map rowByte).length + 1) (brows.map rowByte)
  have h4 : (brows.map rowByte).length = brows.length := by simp
  have h5 : (rwBody host to_ mrows brows).length ≤ (spLines (brows.map rowByte)).length * 8321 := by
    refine len_outB _ fun q hq => ?_
    have h6 := h3.2 q hq
    have h7 := len_line (spDotted host) (spDotted to_) q.1 mrows
    unfold spLineOut
    simp only [List.length_append]
    omega
  have h8 : (spLines (brows.map rowByte)).length ≤ 4097 := by
    have := h3.1; unfold spLines; omega
  have h9 : (rwBody host to_ mrows brows).length ≤ 4097 * 8321 := Nat.le_trans h5 (Nat.mul_le_mul_right _ h8)
  refine ⟨⟨by omega, by omega, hm, fun q hq => ?_, ?_⟩, by omega⟩
  · have h6 := h3.2 q hq; omega
  · have : (outB (spDotted host) (spDotted to_) mrows (spLines (brows.map rowByte))).length ≤ 4097 * 8321 := h9
    omega
theorem rw_hdrs {start : List UInt8} {host to_ port toPort : Int} {mrows hrows brows : List (List AV)} (hs : Sized start hrows brows.length) (h2 : ∀ r ∈ hrows, r.length = 2) (hm : mrows.length ≤ 4611686018427387904) :
    HdrOK (spDotted host) (spDotted to_) (IntKind.wrap .i64 toPort) hrows mrows ∧ (rwHdrs host to_ port toPort mrows hrows brows).all short = true ∧ ∀ r ∈ rwHdrs host to_ port toPort mrows hrows brows, r.length = 2 := by
  have h1 := len_dotted host
  have h3 := len_dotted to_
  refine ⟨⟨by have := hs.n; omega, List.all_eq_true.2 fun r hr => ?_, h2, by omega, by omega, wrap64_range _⟩, List.all_eq_true.2 fun r hr => ?_, fun r hr => ?_⟩
  · have := hs.v r hr
    exact decide_eq_true (by omega)
  · unfold rwHdrs at hr
    obtain ⟨r0, hr0, rfl⟩ := List.mem_map.1 hr
    obtain ⟨e1, e2, _⟩ := hdr_spec (spDotted host) (spDotted to_) (IntKind.wrap .i64 port) (IntKind.wrap .i64 toPort) (rwBody host to_ mrows brows).length (h2 r0 hr0)
    have hv := hs.v r0 hr0
    have b1 := len_behind (spDotted host) (spDotted to_) (hV r0) mkVia [59] (IntKind.wrap .i64 port) (IntKind.wrap .i64 toPort) (wrap64_range _)
    have b2 := len_behind (spDotted host) (spDotted to_) (hV r0) [64] [62, 59] (IntKind.wrap .i64 port) (IntKind.wrap .i64 toPort) (wrap64_range _)
    have b3 : mkVia.length = 12 := rfl
    have hb := (rw_lines (host := host) (to_ := to_) hs.bn hm).2
    have b4 := len_itoa ((rwBody host to_ mrows brows).length : Int) (by omega)
    unfold short
    rw [e1, e2]
    refine decide_eq_true ⟨by omega, ?_⟩
    cases spLow (hN r0) == sgVia with
    | true => rw [cond_true]; omega
    | false =>
      cases spLow (hN r0) == sgContact with
      | true => rw [cond_false, cond_true]; simp only [List.length_cons, List.length_nil] at b2; omega
      | false =>
        cases spLow (hN r0) == sgLen with
        | true =>
          simp only [cond_false, cond_true]; omega
        | false => simp only [cond_false]; omega
  · unfold rwHdrs at hr
    obtain ⟨r0, hr0, rfl⟩ := List.mem_map.1 hr
    exact (hdr_spec _ _ _ _ _ (h2 r0 hr0)).2.2
end Go.Proofs.YtpdgmgkkbbndfaaGreatDoor

set_option maxRecDepth 100000
set_option maxHeartbeats 4000000
set_option linter.unusedVariables false
set_option linter.unusedSimpArgs false
namespace Go.Proofs.YtpdgmgkkbbndfaaGreatDoor
open Go Go.Proofs Go.Proofs.YtpdgmgkkbbndfaaGreatDoor.SX
theorem c23nP (start : List UInt8) (hrows : List (List AV)) (brows : List (List AV)) (mrows : List (List AV)) (host : Int) (to_ : Int) (port : Int) (toPort : Int) :
    Path (runCallB Tryz.prog P6o 100 23 [AV.agg [AV.str start, AV.slq 0 (List.length hrows), AV.slq 1 (List.length brows)], AV.int IntKind.u32 host, AV.int IntKind.u32 to_, AV.int IntKind.u16 port, AV.int IntKind.u16 toPort, AV.slq 2 (List.length mrows)] (st0 [Blk.cells false [Kd.str, Kd.str] hrows, Blk.cells false [Kd.int IntKind.u8] brows, Blk.cells false [Kd.int IntKind.u16, Kd.int IntKind.u16] mrows] ([.as_ true]))) 3 [5, 6] (SL.mk [] [(3, .cells false [Kd.str, Kd.str] (sub hrows 0 (List.length hrows))), (4, .cells false [Kd.int IntKind.u8] (sub brows 0 (List.length brows)))] 5) (Out.ret (ren (sig 3 [5, 6]) (AV.agg [AV.str start, AV.slq 3 (List.length (sub hrows 0 (List.length hrows))), AV.slq 4 (List.length (sub brows 0 (List.length brows)))])))
      (((((((((((((((((((((((((((((((((((((True ∧ (true = true)) ∧ (true = true)) ∧ (true = true)) ∧ ((decide (0 + List.length hrows ≤ List.length hrows) && decide (List.length (sub hrows 0 (List.length hrows)) ≤ 4398046511104)) = true)) ∧ ((decide (0 + List.length brows ≤ List.length brows) && decide (List.length (sub brows 0 (List.length brows)) ≤ 140737488355328)) = true)) ∧ (true = true)) ∧ (true = true)) ∧ (true = true)) ∧ (true = true)) ∧ (true = true)) ∧ (true = true)) ∧ ((decide (0 + List.length brows ≤ List.length brows) && decide (List.length (sub brows 0 (List.length brows)) ≤ 140737488355328)) = true)) ∧ (true = true)) ∧ (true = true)) ∧ (true = true)) ∧ (true = true)) ∧ (true = true)) ∧ (true = true)) ∧ ((decide (0 + List.length hrows ≤ List.length hrows) && decide (List.length (sub hrows 0 (List.length hrows)) ≤ 4398046511104)) = true)) ∧ ((decide (0 + List.length brows ≤ List.length brows) && decide (List.length (sub brows 0 (List.length brows)) ≤ 140737488355328)) = true)) ∧ (true = true)) ∧ (true = true)) ∧ (true = true)) ∧ (true = true)) ∧ (true = true)) ∧ (true = true)) ∧ (true = true)) ∧ ((decide (0 + List.length hrows ≤ List.length hrows) && (decide (0 + List.length brows ≤ List.length brows) && decide (List.length start ≤ 4294967200 ∧ List.all (sub hrows 0 (List.length hrows)) short = true ∧ List.length (sub brows 0 (List.length brows)) ≤ 140737488355328))) = true)) ∧ ((!spRight start (sub hrows 0 (List.length hrows)) (List.length (sub brows 0 (List.length brows)))) = true)) ∧ (true = true)) ∧ (true = true)) ∧ (true = true)) ∧ (true = true)) ∧ (true = true)) ∧ (true = true)) ∧ (true = true)) ∧ (true = true))  := by unfold Path; kernel_rfl
theorem c23n (start : List UInt8) (hrows : List (List AV)) (brows : List (List AV)) (mrows : List (List AV)) (host : Int) (to_ : Int) (port : Int) (toPort : Int) {ρ : Nat → BI} {w : World} (hE : HSim ρ (addBlks .e 0 [Blk.cells false [Kd.str, Kd.str] hrows, Blk.cells false [Kd.int IntKind.u8] brows, Blk.cells false [Kd.int IntKind.u16, Kd.int IntKind.u16] mrows]) ([Blk.cells false [Kd.str, Kd.str] hrows, Blk.cells false [Kd.int IntKind.u8] brows, Blk.cells false [Kd.int IntKind.u16, Kd.int IntKind.u16] mrows] : List Blk).length w)
    (h0 : (decide (0 + List.length hrows ≤ List.length hrows) && decide (List.length (sub hrows 0 (List.length hrows)) ≤ 4398046511104)) = true)
    (h1 : (decide (0 + List.length brows ≤ List.length brows) && decide (List.length (sub brows 0 (List.length brows)) ≤ 140737488355328)) = true)
    (h2 : (decide (0 + List.length hrows ≤ List.length hrows) && (decide (0 + List.length brows ≤ List.length brows) && decide (List.length start ≤ 4294967200 ∧ List.all (sub hrows 0 (List.length hrows)) short = true ∧ List.length (sub brows 0 (List.length brows)) ≤ 140737488355328))) = true)
    (h3 : (!spRight start (sub hrows 0 (List.length hrows)) (List.length (sub brows 0 (List.length brows)))) = true) :
    Calls Tryz.prog 23 (concL ρ [AV.agg [AV.str start, AV.slq 0 (List.length hrows), AV.slq 1 (List.length brows)], AV.int IntKind.u32 host, AV.int IntKind.u32 to_, AV.int IntKind.u16 port, AV.int IntKind.u16 toPort, AV.slq 2 (List.length mrows)]).toArray w (fun e w' => ∃ ρ', e = .returned (conc ρ' (AV.agg [AV.str start, AV.slq 3 (List.length (sub hrows 0 (List.length hrows))), AV.slq 4 (List.length (sub brows 0 (List.length brows)))])) ∧ HStep ρ (addBlks .e 0 [Blk.cells false [Kd.str, Kd.str] hrows, Blk.cells false [Kd.int IntKind.u8] brows, Blk.cells false [Kd.int IntKind.u16, Kd.int IntKind.u16] mrows]) ([Blk.cells false [Kd.str, Kd.str] hrows, Blk.cells false [Kd.int IntKind.u8] brows, Blk.cells false [Kd.int IntKind.u16, Kd.int IntKind.u16] mrows] : List Blk).length w ρ' (Tr.ofList [(3, .cells false [Kd.str, Kd.str] (sub hrows 0 (List.length hrows))), (4, .cells false [Kd.int IntKind.u8] (sub brows 0 (List.length brows)))]) 5 w') :=
  calls_ofB P6o_ok (c23nP start hrows brows mrows host to_ port toPort) ⟨⟨⟨⟨⟨⟨⟨⟨⟨⟨⟨⟨⟨⟨⟨⟨⟨⟨⟨⟨⟨⟨⟨⟨⟨⟨⟨⟨⟨⟨⟨⟨⟨⟨⟨⟨⟨trivial, rfl⟩, rfl⟩, rfl⟩, h0⟩, h1⟩, rfl⟩, rfl⟩, rfl⟩, rfl⟩, rfl⟩, rfl⟩, h1⟩, rfl⟩, rfl⟩, rfl⟩, rfl⟩, rfl⟩, rfl⟩, h0⟩, h1⟩, rfl⟩, rfl⟩, rfl⟩, rfl⟩, rfl⟩, rfl⟩, rfl⟩, h2⟩, h3⟩, rfl⟩, rfl⟩, rfl⟩, rfl⟩, rfl⟩, rfl⟩, rfl⟩, rfl⟩ hE rfl
theorem c23zTP (start : List UInt8) (hrows : List (List AV)) (brows : List (List AV)) (mrows : List (List AV)) (hrows2 : List (List AV)) (brows2 : List (List AV)) (host : Int) (to_ : Int) (port : Int) (toPort : Int) (m : Nat) :
    Path (runCallB Tryz.prog P6w 100 23 [AV.agg [AV.str start, AV.slq 0 (List.length hrows), AV.slq 1 (List.length brows)], AV.int IntKind.u32 host, AV.int IntKind.u32 to_, AV.int IntKind.u16 port, AV.int IntKind.u16 toPort, AV.slq 2 (List.length mrows)] (st0 [Blk.cells false [Kd.str, Kd.str] hrows, Blk.cells false [Kd.int IntKind.u8] brows, Blk.cells false [Kd.int IntKind.u16, Kd.int IntKind.u16] mrows] ([.as_ false, PI.loop (SL.mk [(51, AV.fn (Fn.func (76 : FuncId)) [] [AV.ptr (Loc.mk 11 0 0)]), (14, AV.ptr (Loc.mk 8 0 0)), (15, AV.ptr (Loc.mk 10 0 0))] [(2, Blk.cells false [Kd.int IntKind.u16, Kd.int IntKind.u16] mrows), (8, Blk.cells true [Kd.str, Kd.str, Kd.int IntKind.i64, Kd.int IntKind.i64, Kd.any] [[AV.str (spDotted host), AV.str (spDotted to_), AV.int IntKind.i64 (IntKind.wrap IntKind.i64 port), AV.int IntKind.i64 (IntKind.wrap IntKind.i64 toPort), AV.slq 2 (List.length mrows)]]), (10, Blk.cells true [Kd.str, Kd.any, Kd.any] [[AV.str start, AV.sl (Loc.mk 9 0 0) (List.length (sub hrows 0 (List.length hrows))) Cap.open_, AV.nilSl]]), (11, Blk.cells true [Kd.any] [[AV.slq 1 (List.length brows)]]), (1, Blk.cells false [Kd.int IntKind.u8] brows)] 12) Ex.normal (SL.mk [] [(2, Blk.cells false [Kd.int IntKind.u16, Kd.int IntKind.u16] mrows), (8, Blk.cells true [Kd.str, Kd.str, Kd.int IntKind.i64, Kd.int IntKind.i64, Kd.any] [[AV.str (spDotted host), AV.str (spDotted to_), AV.int IntKind.i64 (IntKind.wrap IntKind.i64 port), AV.int IntKind.i64 (IntKind.wrap IntKind.i64 toPort), AV.slq 2 (List.length mrows)]]), (10, Blk.cells true [Kd.str, Kd.any, Kd.any] [[AV.str start, AV.sl (Loc.mk 9 0 0) (List.length (sub hrows 0 (List.length hrows))) Cap.open_, AV.nilSl]]), (12, Blk.mark)] 13), PI.loop (b23zI start (spDotted host) (spDotted to_) (List.length (sub hrows 0 (List.length hrows))) m (List.length mrows) (IntKind.wrap IntKind.i64 port) (IntKind.wrap IntKind.i64 toPort) mrows (sub hrows 0 (List.length hrows)) (0 : Int)) (Ex.exit 2) (b23zI start (spDotted host) (spDotted to_) (List.length (sub hrows 0 (List.length hrows))) m (List.length mrows) (IntKind.wrap IntKind.i64 port) (IntKind.wrap IntKind.i64 toPort) mrows hrows2 (↑(List.length (sub hrows 0 (List.length hrows))) : Int)), .as_ true]))) 3 [5, 6] (SL.mk [] [(3, .cells true [Kd.str, Kd.str] (sub hrows 0 (List.length hrows))), (4, .cells false [Kd.int IntKind.u8] (sub brows 0 (List.length brows)))] 5) (Out.ret (ren (sig 3 [5, 6]) (AV.agg [AV.str start, AV.sl (Loc.mk 3 0 0) (List.length (sub hrows 0 (List.length hrows))) Cap.open_, AV.slq 4 (List.length (sub brows 0 (List.length brows)))])))
      ((((((((((((((((((((((((((((((((((((((((((((((((((((((((((((((((((((((((True ∧ (true = true)) ∧ (true = true)) ∧ (true = true)) ∧ ((decide (0 + List.length hrows ≤ List.length hrows) && decide (0 < List.length (sub hrows 0 (List.length hrows)) ∧ List.length (sub hrows 0 (List.length hrows)) ≤ 4398046511104)) = true)) ∧ ((decide (0 + List.length brows ≤ List.length brows) && decide (List.length (sub brows 0 (List.length brows)) ≤ 140737488355328)) = true)) ∧ (true = true)) ∧ (true = true)) ∧ (true = true)) ∧ (true = true)) ∧ (true = true)) ∧ (true = true)) ∧ ((decide (0 + List.length brows ≤ List.length brows) && decide (List.length (sub brows 0 (List.length brows)) ≤ 140737488355328)) = true)) ∧ (true = true)) ∧ (true = true)) ∧ (true = true)) ∧ (true = true)) ∧ (true = true)) ∧ (true = true)) ∧ ((decide (0 + List.length hrows ≤ List.length hrows) && decide (0 < List.length (sub hrows 0 (List.length hrows)) ∧ List.length (sub hrows 0 (List.length hrows)) ≤ 4398046511104)) = true)) ∧ ((decide (0 + List.length brows ≤ List.length brows) && decide (List.length (sub brows 0 (List.length brows)) ≤ 140737488355328)) = true)) ∧ (true = true)) ∧ (true = true)) ∧ (true = true)) ∧ (true = true)) ∧ (true = true)) ∧ (true = true)) ∧ (true = true)) ∧ ((decide (0 + List.length hrows ≤ List.length hrows) && (decide (0 + List.length brows ≤ List.length brows) && decide (List.length start ≤ 4294967200 ∧ List.all (sub hrows 0 (List.length hrows)) short = true ∧ List.length (sub brows 0 (List.length brows)) ≤ 140737488355328))) = true)) ∧ ((!spRight start (sub hrows 0 (List.length hrows)) (List.length (sub brows 0 (List.length brows)))) = false)) ∧ (true = true)) ∧ (true = true)) ∧ (true = true)) ∧ (true = true)) ∧ (true = true)) ∧ (true = true)) ∧ (true = true)) ∧ (true = true)) ∧ (true = true)) ∧ (true = true)) ∧ (true = true)) ∧ (true = true)) ∧ (true = true)) ∧ (true = true)) ∧ ((decide (0 + List.length hrows ≤ List.length hrows) && decide (0 < List.length (sub hrows 0 (List.length hrows)) ∧ List.length (sub hrows 0 (List.length hrows)) ≤ 4398046511104)) = true)) ∧ (true = true)) ∧ (true = true)) ∧ (true = true)) ∧ (true = true)) ∧ (true = true)) ∧ (true = true)) ∧ ((decide (0 + List.length hrows ≤ List.length hrows) && decide (0 < List.length (sub hrows 0 (List.length hrows)) ∧ List.length (sub hrows 0 (List.length hrows)) ≤ 4398046511104)) = true)) ∧ (true = true)) ∧ (true = true)) ∧ (true = true)) ∧ (true = true)) ∧ (true = true)) ∧ (true = true)) ∧ (true = true)) ∧ (RangeOK Tryz.prog (rcode Tryz.prog 23 0) (113) (SL.mk [(51, AV.fn (Fn.func 76) [] [AV.ptr (Loc.mk 11 0 0)]), (14, AV.ptr (Loc.mk 8 0 0)), (15, AV.ptr (Loc.mk 10 0 0))] [(2, Blk.cells false [Kd.int IntKind.u16, Kd.int IntKind.u16] mrows), (8, Blk.cells true [Kd.str, Kd.str, Kd.int IntKind.i64, Kd.int IntKind.i64, Kd.any] [[AV.str (spDotted host), AV.str (spDotted to_), AV.int IntKind.i64 (IntKind.wrap IntKind.i64 port), AV.int IntKind.i64 (IntKind.wrap IntKind.i64 toPort), AV.slq 2 (List.length mrows)]]), (10, Blk.cells true [Kd.str, Kd.any, Kd.any] [[AV.str start, AV.sl (Loc.mk 9 0 0) (List.length (sub hrows 0 (List.length hrows))) Cap.open_, AV.nilSl]]), (11, Blk.cells true [Kd.any] [[AV.slq 1 (List.length brows)]]), (1, Blk.cells false [Kd.int IntKind.u8] brows)] 12) (SL.mk [] [(2, Blk.cells false [Kd.int IntKind.u16, Kd.int IntKind.u16] mrows), (8, Blk.cells true [Kd.str, Kd.str, Kd.int IntKind.i64, Kd.int IntKind.i64, Kd.any] [[AV.str (spDotted host), AV.str (spDotted to_), AV.int IntKind.i64 (IntKind.wrap IntKind.i64 port), AV.int IntKind.i64 (IntKind.wrap IntKind.i64 toPort), AV.slq 2 (List.length mrows)]]), (10, Blk.cells true [Kd.str, Kd.any, Kd.any] [[AV.str start, AV.sl (Loc.mk 9 0 0) (List.length (sub hrows 0 (List.length hrows))) Cap.open_, AV.nilSl]]), (12, Blk.mark)] 13))) ∧ (true = true)) ∧ (LoopOK Tryz.prog (lbody Tryz.prog 23 0) (113) (SL.mk [(12, AV.ptr (Loc.mk 4 0 0)), (13, AV.ptr (Loc.mk 7 0 0)), (14, AV.ptr (Loc.mk 8 0 0)), (15, AV.ptr (Loc.mk 10 0 0)), (64, AV.sl (Loc.mk 9 0 0) (List.length (sub hrows 0 (List.length hrows))) Cap.open_), (65, AV.int IntKind.i64 (↑(List.length (sub hrows 0 (List.length hrows))) : Int)), (66, AV.int IntKind.i64 (0 : Int))] [(2, Blk.cells false [Kd.int IntKind.u16, Kd.int IntKind.u16] mrows), (8, Blk.cells true [Kd.str, Kd.str, Kd.int IntKind.i64, Kd.int IntKind.i64, Kd.any] [[AV.str (spDotted host), AV.str (spDotted to_), AV.int IntKind.i64 (IntKind.wrap IntKind.i64 port), AV.int IntKind.i64 (IntKind.wrap IntKind.i64 toPort), AV.slq 2 (List.length mrows)]]), (9, Blk.cells true [Kd.str, Kd.str] (sub hrows 0 (List.length hrows))), (10, Blk.cells true [Kd.str, Kd.any, Kd.any] [[AV.str start, AV.sl (Loc.mk 9 0 0) (List.length (sub hrows 0 (List.length hrows))) Cap.open_, AV.nilSl]])] 13) (Ex.exit 2) (SL.mk [(12, AV.ptr (Loc.mk 4 0 0)), (13, AV.ptr (Loc.mk 7 0 0)), (14, AV.ptr (Loc.mk 8 0 0)), (15, AV.ptr (Loc.mk 10 0 0)), (64, AV.sl (Loc.mk 9 0 0) (List.length (sub hrows 0 (List.length hrows))) Cap.open_), (65, AV.int IntKind.i64 (↑(List.length (sub hrows 0 (List.length hrows))) : Int)), (66, AV.int IntKind.i64 (↑(List.length (sub hrows 0 (List.length hrows))) : Int))] [(2, Blk.cells false [Kd.int IntKind.u16, Kd.int IntKind.u16] mrows), (8, Blk.cells true [Kd.str, Kd.str, Kd.int IntKind.i64, Kd.int IntKind.i64, Kd.any] [[AV.str (spDotted host), AV.str (spDotted to_), AV.int IntKind.i64 (IntKind.wrap IntKind.i64 port), AV.int IntKind.i64 (IntKind.wrap IntKind.i64 toPort), AV.slq 2 (List.length mrows)]]), (9, Blk.cells true [Kd.str, Kd.str] hrows2), (10, Blk.cells true [Kd.str, Kd.any, Kd.any] [[AV.str start, AV.sl (Loc.mk 9 0 0) (List.length (sub hrows 0 (List.length hrows))) Cap.open_, AV.nilSl]])] 13))) ∧ (true = true)) ∧ ((decide (0 + List.length (sub hrows 0 (List.length hrows)) ≤ List.length hrows2) && (true && decide (List.length start ≤ 4294967200 ∧ List.all (sub hrows2 0 (List.length (sub hrows 0 (List.length hrows)))) short = true ∧ 0 ≤ 140737488355328))) = true)) ∧ ((!spRight start (sub hrows2 0 (List.length (sub hrows 0 (List.length hrows)))) 0) = true)) ∧ (true = true)) ∧ (true = true)) ∧ (true = true)) ∧ (true = true)) ∧ (true = true)) ∧ (true = true)) ∧ (true = true)) ∧ (true = true))  := by unfold Path; kernel_rfl
theorem c23zT (start : List UInt8) (hrows : List (List AV)) (brows : List (List AV)) (mrows : List (List AV)) (hrows2 : List (List AV)) (brows2 : List (List AV)) (host : Int) (to_ : Int) (port : Int) (toPort : Int) (m : Nat) {ρ : Nat → BI} {w : World} (hE : HSim ρ (addBlks .e 0 [Blk.cells false [Kd.str, Kd.str] hrows, Blk.cells false [Kd.int IntKind.u8] brows, Blk.cells false [Kd.int IntKind.u16, Kd.int IntKind.u16] mrows]) ([Blk.cells false [Kd.str, Kd.str] hrows, Blk.cells false [Kd.int IntKind.u8] brows, Blk.cells false [Kd.int IntKind.u16, Kd.int IntKind.u16] mrows] : List Blk).length w)
    (h0 : (decide (0 + List.length hrows ≤ List.length hrows) && decide (0 < List.length (sub hrows 0 (List.length hrows)) ∧ List.length (sub hrows 0 (List.length hrows)) ≤ 4398046511104)) = true)
    (h1 : (decide (0 + List.length brows ≤ List.length brows) && decide (List.length (sub brows 0 (List.length brows)) ≤ 140737488355328)) = true)
    (h2 : (decide (0 + List.length hrows ≤ List.length hrows) && (decide (0 + List.length brows ≤ List.length brows) && decide (List.length start ≤ 4294967200 ∧ List.all (sub hrows 0 (List.length hrows)) short = true ∧ List.length (sub brows 0 (List.length brows)) ≤ 140737488355328))) = true)
    (h3 : (!spRight start (sub hrows 0 (List.length hrows)) (List.length (sub brows 0 (List.length brows)))) = false)
    (h4 : RangeOK Tryz.prog (rcode Tryz.prog 23 0) (113) (SL.mk [(51, AV.fn (Fn.func 76) [] [AV.ptr (Loc.mk 11 0 0)]), (14, AV.ptr (Loc.mk 8 0 0)), (15, AV.ptr (Loc.mk 10 0 0))] [(2, Blk.cells false [Kd.int IntKind.u16, Kd.int IntKind.u16] mrows), (8, Blk.cells true [Kd.str, Kd.str, Kd.int IntKind.i64, Kd.int IntKind.i64, Kd.any] [[AV.str (spDotted host), AV.str (spDotted to_), AV.int IntKind.i64 (IntKind.wrap IntKind.i64 port), AV.int IntKind.i64 (IntKind.wrap IntKind.i64 toPort), AV.slq 2 (List.length mrows)]]), (10, Blk.cells true [Kd.str, Kd.any, Kd.any] [[AV.str start, AV.sl (Loc.mk 9 0 0) (List.length (sub hrows 0 (List.length hrows))) Cap.open_, AV.nilSl]]), (11, Blk.cells true [Kd.any] [[AV.slq 1 (List.length brows)]]), (1, Blk.cells false [Kd.int IntKind.u8] brows)] 12) (SL.mk [] [(2, Blk.cells false [Kd.int IntKind.u16, Kd.int IntKind.u16] mrows), (8, Blk.cells true [Kd.str, Kd.str, Kd.int IntKind.i64, Kd.int IntKind.i64, Kd.any] [[AV.str (spDotted host), AV.str (spDotted to_), AV.int IntKind.i64 (IntKind.wrap IntKind.i64 port), AV.int IntKind.i64 (IntKind.wrap IntKind.i64 toPort), AV.slq 2 (List.length mrows)]]), (10, Blk.cells true [Kd.str, Kd.any, Kd.any] [[AV.str start, AV.sl (Loc.mk 9 0 0) (List.length (sub hrows 0 (List.length hrows))) Cap.open_, AV.nilSl]]), (12, Blk.mark)] 13))
    (h5 : LoopOK Tryz.prog (lbody Tryz.prog 23 0) (113) (SL.mk [(12, AV.ptr (Loc.mk 4 0 0)), (13, AV.ptr (Loc.mk 7 0 0)), (14, AV.ptr (Loc.mk 8 0 0)), (15, AV.ptr (Loc.mk 10 0 0)), (64, AV.sl (Loc.mk 9 0 0) (List.length (sub hrows 0 (List.length hrows))) Cap.open_), (65, AV.int IntKind.i64 (↑(List.length (sub hrows 0 (List.length hrows))) : Int)), (66, AV.int IntKind.i64 (0 : Int))] [(2, Blk.cells false [Kd.int IntKind.u16, Kd.int IntKind.u16] mrows), (8, Blk.cells true [Kd.str, Kd.str, Kd.int IntKind.i64, Kd.int IntKind.i64, Kd.any] [[AV.str (spDotted host), AV.str (spDotted to_), AV.int IntKind.i64 (IntKind.wrap IntKind.i64 port), AV.int IntKind.i64 (IntKind.wrap IntKind.i64 toPort), AV.slq 2 (List.length mrows)]]), (9, Blk.cells true [Kd.str, Kd.str] (sub hrows 0 (List.length hrows))), (10, Blk.cells true [Kd.str, Kd.any, Kd.any] [[AV.str start, AV.sl (Loc.mk 9 0 0) (List.length (sub hrows 0 (List.length hrows))) Cap.open_, AV.nilSl]])] 13) (Ex.exit 2) (SL.mk [(12, AV.ptr (Loc.mk 4 0 0)), (13, AV.ptr (Loc.mk 7 0 0)), (14, AV.ptr (Loc.mk 8 0 0)), (15, AV.ptr (Loc.mk 10 0 0)), (64, AV.sl (Loc.mk 9 0 0) (List.length (sub hrows 0 (List.length hrows))) Cap.open_), (65, AV.int IntKind.i64 (↑(List.length (sub hrows 0 (List.length hrows))) : Int)), (66, AV.int IntKind.i64 (↑(List.length (sub hrows 0 (List.length hrows))) : Int))] [(2, Blk.cells false [Kd.int IntKind.u16, Kd.int IntKind.u16] mrows), (8, Blk.cells true [Kd.str, Kd.str, Kd.int IntKind.i64, Kd.int IntKind.i64, Kd.any] [[AV.str (spDotted host), AV.str (spDotted to_), AV.int IntKind.i64 (IntKind.wrap IntKind.i64 port), AV.int IntKind.i64 (IntKind.wrap IntKind.i64 toPort), AV.slq 2 (List.length mrows)]]), (9, Blk.cells true [Kd.str, Kd.str] hrows2), (10, Blk.cells true [Kd.str, Kd.any, Kd.any] [[AV.str start, AV.sl (Loc.mk 9 0 0) (List.length (sub hrows 0 (List.length hrows))) Cap.open_, AV.nilSl]])] 13))
    (h6 : (decide (0 + List.length (sub hrows 0 (List.length hrows)) ≤ List.length hrows2) && (true && decide (List.length start ≤ 4294967200 ∧ List.all (sub hrows2 0 (List.length (sub hrows 0 (List.length hrows)))) short = true ∧ 0 ≤ 140737488355328))) = true)
    (h7 : (!spRight start (sub hrows2 0 (List.length (sub hrows 0 (List.length hrows)))) 0) = true) :
    Calls Tryz.prog 23 (concL ρ [AV.agg [AV.str start, AV.slq 0 (List.length hrows), AV.slq 1 (List.length brows)], AV.int IntKind.u32 host, AV.int IntKind.u32 to_, AV.int IntKind.u16 port, AV.int IntKind.u16 toPort, AV.slq 2 (List.length mrows)]).toArray w (fun e w' => ∃ ρ', e = .returned (conc ρ' (AV.agg [AV.str start, AV.sl (Loc.mk 3 0 0) (List.length (sub hrows 0 (List.length hrows))) Cap.open_, AV.slq 4 (List.length (sub brows 0 (List.length brows)))])) ∧ HStep ρ (addBlks .e 0 [Blk.cells false [Kd.str, Kd.str] hrows, Blk.cells false [Kd.int IntKind.u8] brows, Blk.cells false [Kd.int IntKind.u16, Kd.int IntKind.u16] mrows]) ([Blk.cells false [Kd.str, Kd.str] hrows, Blk.cells false [Kd.int IntKind.u8] brows, Blk.cells false [Kd.int IntKind.u16, Kd.int IntKind.u16] mrows] : List Blk).length w ρ' (Tr.ofList [(3, .cells true [Kd.str, Kd.str] (sub hrows 0 (List.length hrows))), (4, .cells false [Kd.int IntKind.u8] (sub brows 0 (List.length brows)))]) 5 w') :=
  calls_ofB P6w_ok (c23zTP start hrows brows mrows hrows2 brows2 host to_ port toPort m) ⟨⟨⟨⟨⟨⟨⟨⟨⟨⟨⟨⟨⟨⟨⟨⟨⟨⟨⟨⟨⟨⟨⟨⟨⟨⟨⟨⟨⟨⟨⟨⟨⟨⟨⟨⟨⟨⟨⟨⟨⟨⟨⟨⟨⟨⟨⟨⟨⟨⟨⟨⟨⟨⟨⟨⟨⟨⟨⟨⟨⟨⟨⟨⟨⟨⟨⟨⟨⟨⟨⟨⟨trivial, rfl⟩, rfl⟩, rfl⟩, h0⟩, h1⟩, rfl⟩, rfl⟩, rfl⟩, rfl⟩, rfl⟩, rfl⟩, h1⟩, rfl⟩, rfl⟩, rfl⟩, rfl⟩, rfl⟩, rfl⟩, h0⟩, h1⟩, rfl⟩, rfl⟩, rfl⟩, rfl⟩, rfl⟩, rfl⟩, rfl⟩, h2⟩, h3⟩, rfl⟩, rfl⟩, rfl⟩, rfl⟩, rfl⟩, rfl⟩, rfl⟩, rfl⟩, rfl⟩, rfl⟩, rfl⟩, rfl⟩, rfl⟩, rfl⟩, h0⟩, rfl⟩, rfl⟩, rfl⟩, rfl⟩, rfl⟩, rfl⟩, h0⟩, rfl⟩, rfl⟩, rfl⟩, rfl⟩, rfl⟩, rfl⟩, rfl⟩, h4⟩, rfl⟩, h5⟩, rfl⟩, h6⟩, h7⟩, rfl⟩, rfl⟩, rfl⟩, rfl⟩, rfl⟩, rfl⟩, rfl⟩, rfl⟩ hE rfl
theorem c23zFP (start : List UInt8) (hrows : List (List AV)) (brows : List (List AV)) (mrows : List (List AV)) (hrows2 : List (List AV)) (brows2 : List (List AV)) (host : Int) (to_ : Int) (port : Int) (toPort : Int) (m : Nat) :
    Path (runCallB Tryz.prog P6w 100 23 [AV.agg [AV.str start, AV.slq 0 (List.length hrows), AV.slq 1 (List.length brows)], AV.int IntKind.u32 host, AV.int IntKind.u32 to_, AV.int IntKind.u16 port, AV.int IntKind.u16 toPort, AV.slq 2 (List.length mrows)] (st0 [Blk.cells false [Kd.str, Kd.str] hrows, Blk.cells false [Kd.int IntKind.u8] brows, Blk.cells false [Kd.int IntKind.u16, Kd.int IntKind.u16] mrows] ([.as_ false, PI.loop (SL.mk [(51, AV.fn (Fn.func (76 : FuncId)) [] [AV.ptr (Loc.mk 11 0 0)]), (14, AV.ptr (Loc.mk 8 0 0)), (15, AV.ptr (Loc.mk 10 0 0))] [(2, Blk.cells false [Kd.int IntKind.u16, Kd.int IntKind.u16] mrows), (8, Blk.cells true [Kd.str, Kd.str, Kd.int IntKind.i64, Kd.int IntKind.i64, Kd.any] [[AV.str (spDotted host), AV.str (spDotted to_), AV.int IntKind.i64 (IntKind.wrap IntKind.i64 port), AV.int IntKind.i64 (IntKind.wrap IntKind.i64 toPort), AV.slq 2 (List.length mrows)]]), (10, Blk.cells true [Kd.str, Kd.any, Kd.any] [[AV.str start, AV.sl (Loc.mk 9 0 0) (List.length (sub hrows 0 (List.length hrows))) Cap.open_, AV.nilSl]]), (11, Blk.cells true [Kd.any] [[AV.slq 1 (List.length brows)]]), (1, Blk.cells false [Kd.int IntKind.u8] brows)] 12) Ex.normal (SL.mk [] [(2, Blk.cells false [Kd.int IntKind.u16, Kd.int IntKind.u16] mrows), (8, Blk.cells true [Kd.str, Kd.str, Kd.int IntKind.i64, Kd.int IntKind.i64, Kd.any] [[AV.str (spDotted host), AV.str (spDotted to_), AV.int IntKind.i64 (IntKind.wrap IntKind.i64 port), AV.int IntKind.i64 (IntKind.wrap IntKind.i64 toPort), AV.slq 2 (List.length mrows)]]), (10, Blk.cells true [Kd.str, Kd.any, Kd.any] [[AV.str start, AV.sl (Loc.mk 9 0 0) (List.length (sub hrows 0 (List.length hrows))) Cap.open_, AV.nilSl]]), (12, Blk.mark)] 13), PI.loop (b23zI start (spDotted host) (spDotted to_) (List.length (sub hrows 0 (List.length hrows))) m (List.length mrows) (IntKind.wrap IntKind.i64 port) (IntKind.wrap IntKind.i64 toPort) mrows (sub hrows 0 (List.length hrows)) (0 : Int)) (Ex.exit 2) (b23zI start (spDotted host) (spDotted to_) (List.length (sub hrows 0 (List.length hrows))) m (List.length mrows) (IntKind.wrap IntKind.i64 port) (IntKind.wrap IntKind.i64 toPort) mrows hrows2 (↑(List.length (sub hrows 0 (List.length hrows))) : Int)), .as_ false]))) 3 [9] (SL.mk [] [(3, .cells true [Kd.str, Kd.str] hrows2)] 4) (Out.ret (ren (sig 3 [9]) (AV.agg [AV.str start, AV.sl (Loc.mk 3 0 0) (List.length (sub hrows 0 (List.length hrows))) Cap.open_, AV.nilSl])))
      ((((((((((((((((((((((((((((((((((((((((((((((((((((((((((((((((((((((((True ∧ (true = true)) ∧ (true = true)) ∧ (true = true)) ∧ ((decide (0 + List.length hrows ≤ List.length hrows) && decide (0 < List.length (sub hrows 0 (List.length hrows)) ∧ List.length (sub hrows 0 (List.length hrows)) ≤ 4398046511104)) = true)) ∧ ((decide (0 + List.length brows ≤ List.length brows) && decide (List.length (sub brows 0 (List.length brows)) ≤ 140737488355328)) = true)) ∧ (true = true)) ∧ (true = true)) ∧ (true = true)) ∧ (true = true)) ∧ (true = true)) ∧ (true = true)) ∧ ((decide (0 + List.length brows ≤ List.length brows) && decide (List.length (sub brows 0 (List.length brows)) ≤ 140737488355328)) = true)) ∧ (true = true)) ∧ (true = true)) ∧ (true = true)) ∧ (true = true)) ∧ (true = true)) ∧ (true = true)) ∧ ((decide (0 + List.length hrows ≤ List.length hrows) && decide (0 < List.length (sub hrows 0 (List.length hrows)) ∧ List.length (sub hrows 0 (List.length hrows)) ≤ 4398046511104)) = true)) ∧ ((decide (0 + List.length brows ≤ List.length brows) && decide (List.length (sub brows 0 (List.length brows)) ≤ 140737488355328)) = true)) ∧ (true = true)) ∧ (true = true)) ∧ (true = true)) ∧ (true = true)) ∧ (true = true)) ∧ (true = true)) ∧ (true = true)) ∧ ((decide (0 + List.length hrows ≤ List.length hrows) && (decide (0 + List.length brows ≤ List.length brows) && decide (List.length start ≤ 4294967200 ∧ List.all (sub hrows 0 (List.length hrows)) short = true ∧ List.length (sub brows 0 (List.length brows)) ≤ 140737488355328))) = true)) ∧ ((!spRight start (sub hrows 0 (List.length hrows)) (List.length (sub brows 0 (List.length brows)))) = false)) ∧ (true = true)) ∧ (true = true)) ∧ (true = true)) ∧ (true = true)) ∧ (true = true)) ∧ (true = true)) ∧ (true = true)) ∧ (true = true)) ∧ (true = true)) ∧ (true = true)) ∧ (true = true)) ∧ (true = true)) ∧ (true = true)) ∧ (true = true)) ∧ ((decide (0 + List.length hrows ≤ List.length hrows) && decide (0 < List.length (sub hrows 0 (List.length hrows)) ∧ List.length (sub hrows 0 (List.length hrows)) ≤ 4398046511104)) = true)) ∧ (true = true)) ∧ (true = true)) ∧ (true = true)) ∧ (true = true)) ∧ (true = true)) ∧ (true = true)) ∧ ((decide (0 + List.length hrows ≤ List.length hrows) && decide (0 < List.length (sub hrows 0 (List.length hrows)) ∧ List.length (sub hrows 0 (List.length hrows)) ≤ 4398046511104)) = true)) ∧ (true = true)) ∧ (true = true)) ∧ (true = true)) ∧ (true = true)) ∧ (true = true)) ∧ (true = true)) ∧ (true = true)) ∧ (RangeOK Tryz.prog (rcode Tryz.prog 23 0) (113) (SL.mk [(51, AV.fn (Fn.func 76) [] [AV.ptr (Loc.mk 11 0 0)]), (14, AV.ptr (Loc.mk 8 0 0)), (15, AV.ptr (Loc.mk 10 0 0))] [(2, Blk.cells false [Kd.int IntKind.u16, Kd.int IntKind.u16] mrows), (8, Blk.cells true [Kd.str, Kd.str, Kd.int IntKind.i64, Kd.int IntKind.i64, Kd.any] [[AV.str (spDotted host), AV.str (spDotted to_), AV.int IntKind.i64 (IntKind.wrap IntKind.i64 port), AV.int IntKind.i64 (IntKind.wrap IntKind.i64 toPort), AV.slq 2 (List.length mrows)]]), (10, Blk.cells true [Kd.str, Kd.any, Kd.any] [[AV.str start, AV.sl (Loc.mk 9 0 0) (List.length (sub hrows 0 (List.length hrows))) Cap.open_, AV.nilSl]]), (11, Blk.cells true [Kd.any] [[AV.slq 1 (List.length brows)]]), (1, Blk.cells false [Kd.int IntKind.u8] brows)] 12) (SL.mk [] [(2, Blk.cells false [Kd.int IntKind.u16, Kd.int IntKind.u16] mrows), (8, Blk.cells true [Kd.str, Kd.str, Kd.int IntKind.i64, Kd.int IntKind.i64, Kd.any] [[AV.str (spDotted host), AV.str (spDotted to_), AV.int IntKind.i64 (IntKind.wrap IntKind.i64 port), AV.int IntKind.i64 (IntKind.wrap IntKind.i64 toPort), AV.slq 2 (List.length mrows)]]), (10, Blk.cells true [Kd.str, Kd.any, Kd.any] [[AV.str start, AV.sl (Loc.mk 9 0 0) (List.length (sub hrows 0 (List.length hrows))) Cap.open_, AV.nilSl]]), (12, Blk.mark)] 13))) ∧ (true = true)) ∧ (LoopOK Tryz.prog (lbody Tryz.prog 23 0) (113) (SL.mk [(12, AV.ptr (Loc.mk 4 0 0)), (13, AV.ptr (Loc.mk 7 0 0)), (14, AV.ptr (Loc.mk 8 0 0)), (15, AV.ptr (Loc.mk 10 0 0)), (64, AV.sl (Loc.mk 9 0 0) (List.length (sub hrows 0 (List.length hrows))) Cap.open_), (65, AV.int IntKind.i64 (↑(List.length (sub hrows 0 (List.length hrows))) : Int)), (66, AV.int IntKind.i64 (0 : Int))] [(2, Blk.cells false [Kd.int IntKind.u16, Kd.int IntKind.u16] mrows), (8, Blk.cells true [Kd.str, Kd.str, Kd.int IntKind.i64, Kd.int IntKind.i64, Kd.any] [[AV.str (spDotted host), AV.str (spDotted to_), AV.int IntKind.i64 (IntKind.wrap IntKind.i64 port), AV.int IntKind.i64 (IntKind.wrap IntKind.i64 toPort), AV.slq 2 (List.length mrows)]]), (9, Blk.cells true [Kd.str, Kd.str] (sub hrows 0 (List.length hrows))), (10, Blk.cells true [Kd.str, Kd.any, Kd.any] [[AV.str start, AV.sl (Loc.mk 9 0 0) (List.length (sub hrows 0 (List.length hrows))) Cap.open_, AV.nilSl]])] 13) (Ex.exit 2) (SL.mk [(12, AV.ptr (Loc.mk 4 0 0)), (13, AV.ptr (Loc.mk 7 0 0)), (14, AV.ptr (Loc.mk 8 0 0)), (15, AV.ptr (Loc.mk 10 0 0)), (64, AV.sl (Loc.mk 9 0 0) (List.length (sub hrows 0 (List.length hrows))) Cap.open_), (65, AV.int IntKind.i64 (↑(List.length (sub hrows 0 (List.length hrows))) : Int)), (66, AV.int IntKind.i64 (↑(List.length (sub hrows 0 (List.length hrows))) : Int))] [(2, Blk.cells false [Kd.int IntKind.u16, Kd.int IntKind.u16] mrows), (8, Blk.cells true [Kd.str, Kd.str, Kd.int IntKind.i64, Kd.int IntKind.i64, Kd.any] [[AV.str (spDotted host), AV.str (spDotted to_), AV.int IntKind.i64 (IntKind.wrap IntKind.i64 port), AV.int IntKind.i64 (IntKind.wrap IntKind.i64 toPort), AV.slq 2 (List.length mrows)]]), (9, Blk.cells true [Kd.str, Kd.str] hrows2), (10, Blk.cells true [Kd.str, Kd.any, Kd.any] [[AV.str start, AV.sl (Loc.mk 9 0 0) (List.length (sub hrows 0 (List.length hrows))) Cap.open_, AV.nilSl]])] 13))) ∧ (true = true)) ∧ ((decide (0 + List.length (sub hrows 0 (List.length hrows)) ≤ List.length hrows2) && (true && decide (List.length start ≤ 4294967200 ∧ List.all (sub hrows2 0 (List.length (sub hrows 0 (List.length hrows)))) short = true ∧ 0 ≤ 140737488355328))) = true)) ∧ ((!spRight start (sub hrows2 0 (List.length (sub hrows 0 (List.length hrows)))) 0) = false)) ∧ (true = true)) ∧ (true = true)) ∧ (true = true)) ∧ (true = true)) ∧ (true = true)) ∧ (true = true)) ∧ (true = true)) ∧ (true = true))  := by unfold Path; kernel_rfl
theorem c23zF (start : List UInt8) (hrows : List (List AV)) (brows : List (List AV)) (mrows : List (List AV)) (hrows2 : List (List AV)) (brows2 : List (List AV)) (host : Int) (to_ : Int) (port : Int) (toPort : Int) (m : Nat) {ρ : Nat → BI} {w : World} (hE : HSim ρ (addBlks .e 0 [Blk.cells false [Kd.str, Kd.str] hrows, Blk.cells false [Kd.int IntKind.u8] brows, Blk.cells false [Kd.int IntKind.u16, Kd.int IntKind.u16] mrows]) ([Blk.cells false [Kd.str, Kd.str] hrows, Blk.cells false [Kd.int IntKind.u8] brows, Blk.cells false [Kd.int IntKind.u16, Kd.int IntKind.u16] mrows] : List Blk).length w)
    (h0 : (decide (0 + List.length hrows ≤ List.length hrows) && decide (0 < List.length (sub hrows 0 (List.length hrows)) ∧ List.length (sub hrows 0 (List.length hrows)) ≤ 4398046511104)) = true)
    (h1 : (decide (0 + List.length brows ≤ List.length brows) && decide (List.length (sub brows 0 (List.length brows)) ≤ 140737488355328)) = true)
    (h2 : (decide (0 + List.length hrows ≤ List.length hrows) && (decide (0 + List.length brows ≤ List.length brows) && decide (List.length start ≤ 4294967200 ∧ List.all (sub hrows 0 (List.length hrows)) short = true ∧ List.length (sub brows 0 (List.length brows)) ≤ 140737488355328))) = true)
    (h3 : (!spRight start (sub hrows 0 (List.length hrows)) (List.length (sub brows 0 (List.length brows)))) = false)
    (h4 : RangeOK Tryz.prog (rcode Tryz.prog 23 0) (113) (SL.mk [(51, AV.fn (Fn.func 76) [] [AV.ptr (Loc.mk 11 0 0)]), (14, AV.ptr (Loc.mk 8 0 0)), (15, AV.ptr (Loc.mk 10 0 0))] [(2, Blk.cells false [Kd.int IntKind.u16, Kd.int IntKind.u16] mrows), (8, Blk.cells true [Kd.str, Kd.str, Kd.int IntKind.i64, Kd.int IntKind.i64, Kd.any] [[AV.str (spDotted host), AV.str (spDotted to_), AV.int IntKind.i64 (IntKind.wrap IntKind.i64 port), AV.int IntKind.i64 (IntKind.wrap IntKind.i64 toPort), AV.slq 2 (List.length mrows)]]), (10, Blk.cells true [Kd.str, Kd.any, Kd.any] [[AV.str start, AV.sl (Loc.mk 9 0 0) (List.length (sub hrows 0 (List.length hrows))) Cap.open_, AV.nilSl]]), (11, Blk.cells true [Kd.any] [[AV.slq 1 (List.length brows)]]), (1, Blk.cells false [Kd.int IntKind.u8] brows)] 12) (SL.mk [] [(2, Blk.cells false [Kd.int IntKind.u16, Kd.int IntKind.u16] mrows), (8, Blk.cells true [Kd.str, Kd.str, Kd.int IntKind.i64, Kd.int IntKind.i64, Kd.any] [[AV.str (spDotted host), AV.str (spDotted to_), AV.int IntKind.i64 (IntKind.wrap IntKind.i64 port), AV.int IntKind.i64 (IntKind.wrap IntKind.i64 toPort), AV.slq 2 (List.length mrows)]]), (10, Blk.cells true [Kd.str, Kd.any, Kd.any] [[AV.str start, AV.sl (Loc.mk 9 0 0) (List.length (sub hrows 0 (List.length hrows))) Cap.open_, AV.nilSl]]), (12, Blk.mark)] 13))
    (h5 : LoopOK Tryz.prog (lbody Tryz.prog 23 0) (113) (SL.mk [(12, AV.ptr (Loc.mk 4 0 0)), (13, AV.ptr (Loc.mk 7 0 0)), (14, AV.ptr (Loc.mk 8 0 0)), (15, AV.ptr (Loc.mk 10 0 0)), (64, AV.sl (Loc.mk 9 0 0) (List.length (sub hrows 0 (List.length hrows))) Cap.open_), (65, AV.int IntKind.i64 (↑(List.length (sub hrows 0 (List.length hrows))) : Int)), (66, AV.int IntKind.i64 (0 : Int))] [(2, Blk.cells false [Kd.int IntKind.u16, Kd.int IntKind.u16] mrows), (8, Blk.cells true [Kd.str, Kd.str, Kd.int IntKind.i64, Kd.int IntKind.i64, Kd.any] [[AV.str (spDotted host), AV.str (spDotted to_), AV.int IntKind.i64 (IntKind.wrap IntKind.i64 port), AV.int IntKind.i64 (IntKind.wrap IntKind.i64 toPort), AV.slq 2 (List.length mrows)]]), (9, Blk.cells true [Kd.str, Kd.str] (sub hrows 0 (List.length hrows))), (10, Blk.cells true [Kd.str, Kd.any, Kd.any] [[AV.str start, AV.sl (Loc.mk 9 0 0) (List.length (sub hrows 0 (List.length hrows))) Cap.open_, AV.nilSl]])] 13) (Ex.exit 2) (SL.mk [(12, AV.ptr (Loc.mk 4 0 0)), (13, AV.ptr (Loc.mk 7 0 0)), (14, AV.ptr (Loc.mk 8 0 0)), (15, AV.ptr (Loc.mk 10 0 0)), (64, AV.sl (Loc.mk 9 0 0) (List.length (sub hrows 0 (List.length hrows))) Cap.open_), (65, AV.int IntKind.i64 (↑(List.length (sub hrows 0 (List.length hrows))) : Int)), (66, AV.int IntKind.i64 (↑(List.length (sub hrows 0 (List.length hrows))) : Int))] [(2, Blk.cells false [Kd.int IntKind.u16, Kd.int IntKind.u16] mrows), (8, Blk.cells true [Kd.str, Kd.str, Kd.int IntKind.i64, Kd.int IntKind.i64, Kd.any] [[AV.str (spDotted host), AV.str (spDotted to_), AV.int IntKind.i64 (IntKind.wrap IntKind.i64 port), AV.int IntKind.i64 (IntKind.wrap IntKind.i64 toPort), AV.slq 2 (List.length mrows)]]), (9, Blk.cells true [Kd.str, Kd.str] hrows2), (10, Blk.cells true [Kd.str, Kd.any, Kd.any] [[AV.str start, AV.sl (Loc.mk 9 0 0) (List.length (sub hrows 0 (List.length hrows))) Cap.open_, AV.nilSl]])] 13))
    (h6 : (decide (0 + List.length (sub hrows 0 (List.length hrows)) ≤ List.length hrows2) && (true && decide (List.length start ≤ 4294967200 ∧ List.all (sub hrows2 0 (List.length (sub hrows 0 (List.length hrows)))) short = true ∧ 0 ≤ 140737488355328))) = true)
    (h7 : (!spRight start (sub hrows2 0 (List.length (sub hrows 0 (List.length hrows)))) 0) = false) :
    Calls Tryz.prog 23 (concL ρ [AV.agg [AV.str start, AV.slq 0 (List.length hrows), AV.slq 1 (List.length brows)], AV.int IntKind.u32 host, AV.int IntKind.u32 to_, AV.int IntKind.u16 port, AV.int IntKind.u16 toPort, AV.slq 2 (List.length mrows)]).toArray w (fun e w' => ∃ ρ', e = .returned (conc ρ' (AV.agg [AV.str start, AV.sl (Loc.mk 3 0 0) (List.length (sub hrows 0 (List.length hrows))) Cap.open_, AV.nilSl])) ∧ HStep ρ (addBlks .e 0 [Blk.cells false [Kd.str, Kd.str] hrows, Blk.cells false [Kd.int IntKind.u8] brows, Blk.cells false [Kd.int IntKind.u16, Kd.int IntKind.u16] mrows]) ([Blk.cells false [Kd.str, Kd.str] hrows, Blk.cells false [Kd.int IntKind.u8] brows, Blk.cells false [Kd.int IntKind.u16, Kd.int IntKind.u16] mrows] : List Blk).length w ρ' (Tr.ofList [(3, .cells true [Kd.str, Kd.str] hrows2)]) 4 w') :=
  calls_ofB P6w_ok (c23zFP start hrows brows mrows hrows2 brows2 host to_ port toPort m) ⟨⟨⟨⟨⟨⟨⟨⟨⟨⟨⟨⟨⟨⟨⟨⟨⟨⟨⟨⟨⟨⟨⟨⟨⟨⟨⟨⟨⟨⟨⟨⟨⟨⟨⟨⟨⟨⟨⟨⟨⟨⟨⟨⟨⟨⟨⟨⟨⟨⟨⟨⟨⟨⟨⟨⟨⟨⟨⟨⟨⟨⟨⟨⟨⟨⟨⟨⟨⟨⟨⟨⟨trivial, rfl⟩, rfl⟩, rfl⟩, h0⟩, h1⟩, rfl⟩, rfl⟩, rfl⟩, rfl⟩, rfl⟩, rfl⟩, h1⟩, rfl⟩, rfl⟩, rfl⟩, rfl⟩, rfl⟩, rfl⟩, h0⟩, h1⟩, rfl⟩, rfl⟩, rfl⟩, rfl⟩, rfl⟩, rfl⟩, rfl⟩, h2⟩, h3⟩, rfl⟩, rfl⟩, rfl⟩, rfl⟩, rfl⟩, rfl⟩, rfl⟩, rfl⟩, rfl⟩, rfl⟩, rfl⟩, rfl⟩, rfl⟩, rfl⟩, h0⟩, rfl⟩, rfl⟩, rfl⟩, rfl⟩, rfl⟩, rfl⟩, h0⟩, rfl⟩, rfl⟩, rfl⟩, rfl⟩, rfl⟩, rfl⟩, rfl⟩, h4⟩, rfl⟩, h5⟩, rfl⟩, h6⟩, h7⟩, rfl⟩, rfl⟩, rfl⟩, rfl⟩, rfl⟩, rfl⟩, rfl⟩, rfl⟩ hE rfl
theorem c23oTP (start : List UInt8) (hrows : List (List AV)) (brows : List (List AV)) (mrows : List (List AV)) (hrows2 : List (List AV)) (brows2 : List (List AV)) (host : Int) (to_ : Int) (port : Int) (toPort : Int) (m : Nat) :
    Path (runCallB Tryz.prog P6w 100 23 [AV.agg [AV.str start, AV.slq 0 (List.length hrows), AV.slq 1 (List.length brows)], AV.int IntKind.u32 host, AV.int IntKind.u32 to_, AV.int IntKind.u16 port, AV.int IntKind.u16 toPort, AV.slq 2 (List.length mrows)] (st0 [Blk.cells false [Kd.str, Kd.str] hrows, Blk.cells false [Kd.int IntKind.u8] brows, Blk.cells false [Kd.int IntKind.u16, Kd.int IntKind.u16] mrows] ([.as_ false, PI.loop (SL.mk [(51, AV.fn (Fn.func (76 : FuncId)) [] [AV.ptr (Loc.mk 11 0 0)]), (14, AV.ptr (Loc.mk 8 0 0)), (15, AV.ptr (Loc.mk 10 0 0))] [(2, Blk.cells false [Kd.int IntKind.u16, Kd.int IntKind.u16] mrows), (8, Blk.cells true [Kd.str, Kd.str, Kd.int IntKind.i64, Kd.int IntKind.i64, Kd.any] [[AV.str (spDotted host), AV.str (spDotted to_), AV.int IntKind.i64 (IntKind.wrap IntKind.i64 port), AV.int IntKind.i64 (IntKind.wrap IntKind.i64 toPort), AV.slq 2 (List.length mrows)]]), (10, Blk.cells true [Kd.str, Kd.any, Kd.any] [[AV.str start, AV.sl (Loc.mk 9 0 0) (List.length (sub hrows 0 (List.length hrows))) Cap.open_, AV.nilSl]]), (11, Blk.cells true [Kd.any] [[AV.slq 1 (List.length brows)]]), (1, Blk.cells false [Kd.int IntKind.u8] brows)] 12) Ex.normal (SL.mk [] [(2, Blk.cells false [Kd.int IntKind.u16, Kd.int IntKind.u16] mrows), (8, Blk.cells true [Kd.str, Kd.str, Kd.int IntKind.i64, Kd.int IntKind.i64, Kd.any] [[AV.str (spDotted host), AV.str (spDotted to_), AV.int IntKind.i64 (IntKind.wrap IntKind.i64 port), AV.int IntKind.i64 (IntKind.wrap IntKind.i64 toPort), AV.slq 2 (List.length mrows)]]), (10, Blk.cells true [Kd.str, Kd.any, Kd.any] [[AV.str start, AV.sl (Loc.mk 9 0 0) (List.length (sub hrows 0 (List.length hrows))) Cap.open_, AV.sl (Loc.mk 13 0 0) m Cap.open_]]), (12, Blk.mark), (13, Blk.cells true [Kd.int IntKind.u8] brows2)] 14), PI.loop (b23oI start (spDotted host) (spDotted to_) (List.length (sub hrows 0 (List.length hrows))) m (List.length mrows) (IntKind.wrap IntKind.i64 port) (IntKind.wrap IntKind.i64 toPort) mrows (sub hrows 0 (List.length hrows)) (0 : Int)) (Ex.exit 2) (b23oI start (spDotted host) (spDotted to_) (List.length (sub hrows 0 (List.length hrows))) m (List.length mrows) (IntKind.wrap IntKind.i64 port) (IntKind.wrap IntKind.i64 toPort) mrows hrows2 (↑(List.length (sub hrows 0 (List.length hrows))) : Int)), .as_ true]))) 3 [5, 6] (SL.mk [] [(3, .cells true [Kd.str, Kd.str] (sub hrows 0 (List.length hrows))), (4, .cells false [Kd.int IntKind.u8] (sub brows 0 (List.length brows)))] 5) (Out.ret (ren (sig 3 [5, 6]) (AV.agg [AV.str start, AV.sl (Loc.mk 3 0 0) (List.length (sub hrows 0 (List.length hrows))) Cap.open_, AV.slq 4 (List.length (sub brows 0 (List.length brows)))])))
      ((((((((((((((((((((((((((((((((((((((((((((((((((((((((((((((((((((((((True ∧ (true = true)) ∧ (true = true)) ∧ (true = true)) ∧ ((decide (0 + List.length hrows ≤ List.length hrows) && decide (0 < List.length (sub hrows 0 (List.length hrows)) ∧ List.length (sub hrows 0 (List.length hrows)) ≤ 4398046511104)) = true)) ∧ ((decide (0 + List.length brows ≤ List.length brows) && decide (List.length (sub brows 0 (List.length brows)) ≤ 140737488355328)) = true)) ∧ (true = true)) ∧ (true = true)) ∧ (true = true)) ∧ (true = true)) ∧ (true = true)) ∧ (true = true)) ∧ ((decide (0 + List.length brows ≤ List.length brows) && decide (List.length (sub brows 0 (List.length brows)) ≤ 140737488355328)) = true)) ∧ (true = true)) ∧ (true = true)) ∧ (true = true)) ∧ (true = true)) ∧ (true = true)) ∧ (true = true)) ∧ ((decide (0 + List.length hrows ≤ List.length hrows) && decide (0 < List.length (sub hrows 0 (List.length hrows)) ∧ List.length (sub hrows 0 (List.length hrows)) ≤ 4398046511104)) = true)) ∧ ((decide (0 + List.length brows ≤ List.length brows) && decide (List.length (sub brows 0 (List.length brows)) ≤ 140737488355328)) = true)) ∧ (true = true)) ∧ (true = true)) ∧ (true = true)) ∧ (true = true)) ∧ (true = true)) ∧ (true = true)) ∧ (true = true)) ∧ ((decide (0 + List.length hrows ≤ List.length hrows) && (decide (0 + List.length brows ≤ List.length brows) && decide (List.length start ≤ 4294967200 ∧ List.all (sub hrows 0 (List.length hrows)) short = true ∧ List.length (sub brows 0 (List.length brows)) ≤ 140737488355328))) = true)) ∧ ((!spRight start (sub hrows 0 (List.length hrows)) (List.length (sub brows 0 (List.length brows)))) = false)) ∧ (true = true)) ∧ (true = true)) ∧ (true = true)) ∧ (true = true)) ∧ (true = true)) ∧ (true = true)) ∧ (true = true)) ∧ (true = true)) ∧ (true = true)) ∧ (true = true)) ∧ (true = true)) ∧ (true = true)) ∧ (true = true)) ∧ (true = true)) ∧ ((decide (0 + List.length hrows ≤ List.length hrows) && decide (0 < List.length (sub hrows 0 (List.length hrows)) ∧ List.length (sub hrows 0 (List.length hrows)) ≤ 4398046511104)) = true)) ∧ (true = true)) ∧ (true = true)) ∧ (true = true)) ∧ (true = true)) ∧ (true = true)) ∧ (true = true)) ∧ ((decide (0 + List.length hrows ≤ List.length hrows) && decide (0 < List.length (sub hrows 0 (List.length hrows)) ∧ List.length (sub hrows 0 (List.length hrows)) ≤ 4398046511104)) = true)) ∧ (true = true)) ∧ (true = true)) ∧ (true = true)) ∧ (true = true)) ∧ (true = true)) ∧ (true = true)) ∧ (true = true)) ∧ (RangeOK Tryz.prog (rcode Tryz.prog 23 0) (113) (SL.mk [(51, AV.fn (Fn.func 76) [] [AV.ptr (Loc.mk 11 0 0)]), (14, AV.ptr (Loc.mk 8 0 0)), (15, AV.ptr (Loc.mk 10 0 0))] [(2, Blk.cells false [Kd.int IntKind.u16, Kd.int IntKind.u16] mrows), (8, Blk.cells true [Kd.str, Kd.str, Kd.int IntKind.i64, Kd.int IntKind.i64, Kd.any] [[AV.str (spDotted host), AV.str (spDotted to_), AV.int IntKind.i64 (IntKind.wrap IntKind.i64 port), AV.int IntKind.i64 (IntKind.wrap IntKind.i64 toPort), AV.slq 2 (List.length mrows)]]), (10, Blk.cells true [Kd.str, Kd.any, Kd.any] [[AV.str start, AV.sl (Loc.mk 9 0 0) (List.length (sub hrows 0 (List.length hrows))) Cap.open_, AV.nilSl]]), (11, Blk.cells true [Kd.any] [[AV.slq 1 (List.length brows)]]), (1, Blk.cells false [Kd.int IntKind.u8] brows)] 12) (SL.mk [] [(2, Blk.cells false [Kd.int IntKind.u16, Kd.int IntKind.u16] mrows), (8, Blk.cells true [Kd.str, Kd.str, Kd.int IntKind.i64, Kd.int IntKind.i64, Kd.any] [[AV.str (spDotted host), AV.str (spDotted to_), AV.int IntKind.i64 (IntKind.wrap IntKind.i64 port), AV.int IntKind.i64 (IntKind.wrap IntKind.i64 toPort), AV.slq 2 (List.length mrows)]]), (10, Blk.cells true [Kd.str, Kd.any, Kd.any] [[AV.str start, AV.sl (Loc.mk 9 0 0) (List.length (sub hrows 0 (List.length hrows))) Cap.open_, AV.sl (Loc.mk 13 0 0) m Cap.open_]]), (12, Blk.mark), (13, Blk.cells true [Kd.int IntKind.u8] brows2)] 14))) ∧ (true = true)) ∧ (LoopOK Tryz.prog (lbody Tryz.prog 23 0) (113) (SL.mk [(12, AV.ptr (Loc.mk 4 0 0)), (13, AV.ptr (Loc.mk 7 0 0)), (14, AV.ptr (Loc.mk 8 0 0)), (15, AV.ptr (Loc.mk 10 0 0)), (64, AV.sl (Loc.mk 9 0 0) (List.length (sub hrows 0 (List.length hrows))) Cap.open_), (65, AV.int IntKind.i64 (↑(List.length (sub hrows 0 (List.length hrows))) : Int)), (66, AV.int IntKind.i64 (0 : Int))] [(2, Blk.cells false [Kd.int IntKind.u16, Kd.int IntKind.u16] mrows), (8, Blk.cells true [Kd.str, Kd.str, Kd.int IntKind.i64, Kd.int IntKind.i64, Kd.any] [[AV.str (spDotted host), AV.str (spDotted to_), AV.int IntKind.i64 (IntKind.wrap IntKind.i64 port), AV.int IntKind.i64 (IntKind.wrap IntKind.i64 toPort), AV.slq 2 (List.length mrows)]]), (9, Blk.cells true [Kd.str, Kd.str] (sub hrows 0 (List.length hrows))), (10, Blk.cells true [Kd.str, Kd.any, Kd.any] [[AV.str start, AV.sl (Loc.mk 9 0 0) (List.length (sub hrows 0 (List.length hrows))) Cap.open_, AV.sl (Loc.mk 13 0 0) m Cap.open_]])] 14) (Ex.exit 2) (SL.mk [(12, AV.ptr (Loc.mk 4 0 0)), (13, AV.ptr (Loc.mk 7 0 0)), (14, AV.ptr (Loc.mk 8 0 0)), (15, AV.ptr (Loc.mk 10 0 0)), (64, AV.sl (Loc.mk 9 0 0) (List.length (sub hrows 0 (List.length hrows))) Cap.open_), (65, AV.int IntKind.i64 (↑(List.length (sub hrows 0 (List.length hrows))) : Int)), (66, AV.int IntKind.i64 (↑(List.length (sub hrows 0 (List.length hrows))) : Int))] [(2, Blk.cells false [Kd.int IntKind.u16, Kd.int IntKind.u16] mrows), (8, Blk.cells true [Kd.str, Kd.str, Kd.int IntKind.i64, Kd.int IntKind.i64, Kd.any] [[AV.str (spDotted host), AV.str (spDotted to_), AV.int IntKind.i64 (IntKind.wrap IntKind.i64 port), AV.int IntKind.i64 (IntKind.wrap IntKind.i64 toPort), AV.slq 2 (List.length mrows)]]), (9, Blk.cells true [Kd.str, Kd.str] hrows2), (10, Blk.cells true [Kd.str, Kd.any, Kd.any] [[AV.str start, AV.sl (Loc.mk 9 0 0) (List.length (sub hrows 0 (List.length hrows))) Cap.open_, AV.sl (Loc.mk 13 0 0) m Cap.open_]])] 14))) ∧ (true = true)) ∧ ((decide (0 + List.length (sub hrows 0 (List.length hrows)) ≤ List.length hrows2) && (decide (0 + m ≤ List.length brows2) && decide (List.length start ≤ 4294967200 ∧ List.all (sub hrows2 0 (List.length (sub hrows 0 (List.length hrows)))) short = true ∧ List.length (sub brows2 0 m) ≤ 140737488355328))) = true)) ∧ ((!spRight start (sub hrows2 0 (List.length (sub hrows 0 (List.length hrows)))) (List.length (sub brows2 0 m))) = true)) ∧ (true = true)) ∧ (true = true)) ∧ (true = true)) ∧ (true = true)) ∧ (true = true)) ∧ (true = true)) ∧ (true = true)) ∧ (true = true))  := by unfold Path; kernel_rfl
theorem c23oT (start : List UInt8) (hrows : List (List AV)) (brows : List (List AV)) (mrows : List (List AV)) (hrows2 : List (List AV)) (brows2 : List (List AV)) (host : Int) (to_ : Int) (port : Int) (toPort : Int) (m : Nat) {ρ : Nat → BI} {w : World} (hE : HSim ρ (addBlks .e 0 [Blk.cells false [Kd.str, Kd.str] hrows, Blk.cells false [Kd.int IntKind.u8] brows, Blk.cells false [Kd.int IntKind.u16, Kd.int IntKind.u16] mrows]) ([Blk.cells false [Kd.str, Kd.str] hrows, Blk.cells false [Kd.int IntKind.u8] brows, Blk.cells false [Kd.int IntKind.u16, Kd.int IntKind.u16] mrows] : List Blk).length w)
    (h0 : (decide (0 + List.length hrows ≤ List.length hrows) && decide (0 < List.length (sub hrows 0 (List.length hrows)) ∧ List.length (sub hrows 0 (List.length hrows)) ≤ 4398046511104)) = true)
    (h1 : (decide (0 + List.length brows ≤ List.length brows) && decide (List.length (sub brows 0 (List.length brows)) ≤ 140737488355328)) = true)
    (h2 : (decide (0 + List.length hrows ≤ List.length hrows) && (decide (0 + List.length brows ≤ List.length brows) && decide (List.length start ≤ 4294967200 ∧ List.all (sub hrows 0 (List.length hrows)) short = true ∧ List.length (sub brows 0 (List.length brows)) ≤ 140737488355328))) = true)
    (h3 : (!spRight start (sub hrows 0 (List.length hrows)) (List.length (sub brows 0 (List.length brows)))) = false)
    (h4 : RangeOK Tryz.prog (rcode Tryz.prog 23 0) (113) (SL.mk [(51, AV.fn (Fn.func 76) [] [AV.ptr (Loc.mk 11 0 0)]), (14, AV.ptr (Loc.mk 8 0 0)), (15, AV.ptr (Loc.mk 10 0 0))] [(2, Blk.cells false [Kd.int IntKind.u16, Kd.int IntKind.u16] mrows), (8, Blk.cells true [Kd.str, Kd.str, Kd.int IntKind.i64, Kd.int IntKind.i64, Kd.any] [[AV.str (spDotted host), AV.str (spDotted to_), AV.int IntKind.i64 (IntKind.wrap IntKind.i64 port), AV.int IntKind.i64 (IntKind.wrap IntKind.i64 toPort), AV.slq 2 (List.length mrows)]]), (10, Blk.cells true [Kd.str, Kd.any, Kd.any] [[AV.str start, AV.sl (Loc.mk 9 0 0) (List.length (sub hrows 0 (List.length hrows))) Cap.open_, AV.nilSl]]), (11, Blk.cells true [Kd.any] [[AV.slq 1 (List.length brows)]]), (1, Blk.cells false [Kd.int IntKind.u8] brows)] 12) (SL.mk [] [(2, Blk.cells false [Kd.int IntKind.u16, Kd.int IntKind.u16] mrows), (8, Blk.cells true [Kd.str, Kd.str, Kd.int IntKind.i64, Kd.int IntKind.i64, Kd.any] [[AV.str (spDotted host), AV.str (spDotted to_), AV.int IntKind.i64 (IntKind.wrap IntKind.i64 port), AV.int IntKind.i64 (IntKind.wrap IntKind.i64 toPort), AV.slq 2 (List.length mrows)]]), (10, Blk.cells true [Kd.str, Kd.any, Kd.any] [[AV.str start, AV.sl (Loc.mk 9 0 0) (List.length (sub hrows 0 (List.length hrows))) Cap.open_, AV.sl (Loc.mk 13 0 0) m Cap.open_]]), (12, Blk.mark), (13, Blk.cells true [Kd.int IntKind.u8] brows2)] 14))
    (h5 : LoopOK Tryz.prog (lbody Tryz.prog 23 0) (113) (SL.mk [(12, AV.ptr (Loc.mk 4 0 0)), (13, AV.ptr (Loc.mk 7 0 0)), (14, AV.ptr (Loc.mk 8 0 0)), (15, AV.ptr (Loc.mk 10 0 0)), (64, AV.sl (Loc.mk 9 0 0) (List.length (sub hrows 0 (List.length hrows))) Cap.open_), (65, AV.int IntKind.i64 (↑(List.length (sub hrows 0 (List.length hrows))) : Int)), (66, AV.int IntKind.i64 (0 : Int))] [(2, Blk.cells false [Kd.int IntKind.u16, Kd.int IntKind.u16] mrows), (8, Blk.cells true [Kd.str, Kd.str, Kd.int IntKind.i64, Kd.int IntKind.i64, Kd.any] [[AV.str (spDotted host), AV.str (spDotted to_), AV.int IntKind.i64 (IntKind.wrap IntKind.i64 port), AV.int IntKind.i64 (IntKind.wrap IntKind.i64 toPort), AV.slq 2 (List.length mrows)]]), (9, Blk.cells true [Kd.str, Kd.str] (sub hrows 0 (List.length hrows))), (10, Blk.cells true [Kd.str, Kd.any, Kd.any] [[AV.str start, AV.sl (Loc.mk 9 0 0) (List.length (sub hrows 0 (List.length hrows))) Cap.open_, AV.sl (Loc.mk 13 0 0) m Cap.open_]])] 14) (Ex.exit 2) (SL.mk [(12, AV.ptr (Loc.mk 4 0 0)), (13, AV.ptr (Loc.mk 7 0 0)), (14, AV.ptr (Loc.mk 8 0 0)), (15, AV.ptr (Loc.mk 10 0 0)), (64, AV.sl (Loc.mk 9 0 0) (List.length (sub hrows 0 (List.length hrows))) Cap.open_), (65, AV.int IntKind.i64 (↑(List.length (sub hrows 0 (List.length hrows))) : Int)), (66, AV.int IntKind.i64 (↑(List.length (sub hrows 0 (List.length hrows))) : Int))] [(2, Blk.cells false [Kd.int IntKind.u16, Kd.int IntKind.u16] mrows), (8, Blk.cells true [Kd.str, Kd.str, Kd.int IntKind.i64, Kd.int IntKind.i64, Kd.any] [[AV.str (spDotted host), AV.str (spDotted to_), AV.int IntKind.i64 (IntKind.wrap IntKind.i64 port), AV.int IntKind.i64 (IntKind.wrap IntKind.i64 toPort), AV.slq 2 (List.length mrows)]]), (9, Blk.cells true [Kd.str, Kd.str] hrows2), (10, Blk.cells true [Kd.str, Kd.any, Kd.any] [[AV.str start, AV.sl (Loc.mk 9 0 0) (List.length (sub hrows 0 (List.length hrows))) Cap.open_, AV.sl (Loc.mk 13 0 0) m Cap.open_]])] 14))
    (h6 : (decide (0 + List.length (sub hrows 0 (List.length hrows)) ≤ List.length hrows2) && (decide (0 + m ≤ List.length brows2) && decide (List.length start ≤ 4294967200 ∧ List.all (sub hrows2 0 (List.length (sub hrows 0 (List.length hrows)))) short = true ∧ List.length (sub brows2 0 m) ≤ 140737488355328))) = true)
    (h7 : (!spRight start (sub hrows2 0 (List.length (sub hrows 0 (List.length hrows)))) (List.length (sub brows2 0 m))) = true) :
    Calls Tryz.prog 23 (concL ρ [AV.agg [AV.str start, AV.slq 0 (List.length hrows), AV.slq 1 (List.length brows)], AV.int IntKind.u32 host, AV.int IntKind.u32 to_, AV.int IntKind.u16 port, AV.int IntKind.u16 toPort, AV.slq 2 (List.length mrows)]).toArray w (fun e w' => ∃ ρ', e = .returned (conc ρ' (AV.agg [AV.str start, AV.sl (Loc.mk 3 0 0) (List.length (sub hrows 0 (List.length hrows))) Cap.open_, AV.slq 4 (List.length (sub brows 0 (List.length brows)))])) ∧ HStep ρ (addBlks .e 0 [Blk.cells false [Kd.str, Kd.str] hrows, Blk.cells false [Kd.int IntKind.u8] brows, Blk.cells false [Kd.int IntKind.u16, Kd.int IntKind.u16] mrows]) ([Blk.cells false [Kd.str, Kd.str] hrows, Blk.cells false [Kd.int IntKind.u8] brows, Blk.cells false [Kd.int IntKind.u16, Kd.int IntKind.u16] mrows] : List Blk).length w ρ' (Tr.ofList [(3, .cells true [Kd.str, Kd.str] (sub hrows 0 (List.length hrows))), (4, .cells false [Kd.int IntKind.u8] (sub brows 0 (List.length brows)))]) 5 w') :=
  calls_ofB P6w_ok (c23oTP start hrows brows mrows hrows2 brows2 host to_ port toPort m) ⟨⟨⟨⟨⟨⟨⟨⟨⟨⟨⟨⟨⟨⟨⟨⟨⟨⟨⟨⟨⟨⟨⟨⟨⟨⟨⟨⟨⟨⟨⟨⟨⟨⟨⟨⟨⟨⟨⟨⟨⟨⟨⟨⟨⟨⟨⟨⟨⟨⟨⟨⟨⟨⟨⟨⟨⟨⟨⟨⟨⟨⟨⟨⟨⟨⟨⟨⟨⟨⟨⟨⟨trivial, rfl⟩, rfl⟩, rfl⟩, h0⟩, h1⟩, rfl⟩, rfl⟩, rfl⟩, rfl⟩, rfl⟩, rfl⟩, h1⟩, rfl⟩, rfl⟩, rfl⟩, rfl⟩, rfl⟩, rfl⟩, h0⟩, h1⟩, rfl⟩, rfl⟩, rfl⟩, rfl⟩, rfl⟩, rfl⟩, rfl⟩, h2⟩, h3⟩, rfl⟩, rfl⟩, rfl⟩, rfl⟩, rfl⟩, rfl⟩, rfl⟩, rfl⟩, rfl⟩, rfl⟩, rfl⟩, rfl⟩, rfl⟩, rfl⟩, h0⟩, rfl⟩, rfl⟩, rfl⟩, rfl⟩, rfl⟩, rfl⟩, h0⟩, rfl⟩, rfl⟩, rfl⟩, rfl⟩, rfl⟩, rfl⟩, rfl⟩, h4⟩, rfl⟩, h5⟩, rfl⟩, h6⟩, h7⟩, rfl⟩, rfl⟩, rfl⟩, rfl⟩, rfl⟩, rfl⟩, rfl⟩, rfl⟩ hE rfl
theorem c23oFP (start : List UInt8) (hrows : List (List AV)) (brows : List (List AV)) (mrows : List (List AV)) (hrows2 : List (List AV)) (brows2 : List (List AV)) (host : Int) (to_ : Int) (port : Int) (toPort : Int) (m : Nat) :
    Path (runCallB Tryz.prog P6w 100 23 [AV.agg [AV.str start, AV.slq 0 (List.length hrows), AV.slq 1 (List.length brows)], AV.int IntKind.u32 host, AV.int IntKind.u32 to_, AV.int IntKind.u16 port, AV.int IntKind.u16 toPort, AV.slq 2 (List.length mrows)] (st0 [Blk.cells false [Kd.str, Kd.str] hrows, Blk.cells false [Kd.int IntKind.u8] brows, Blk.cells false [Kd.int IntKind.u16, Kd.int IntKind.u16] mrows] ([.as_ false, PI.loop (SL.mk [(51, AV.fn (Fn.func (76 : FuncId)) [] [AV.ptr (Loc.mk 11 0 0)]), (14, AV.ptr (Loc.mk 8 0 0)), (15, AV.ptr (Loc.mk 10 0 0))] [(2, Blk.cells false [Kd.int IntKind.u16, Kd.int IntKind.u16] mrows), (8, Blk.cells true [Kd.str, Kd.str, Kd.int IntKind.i64, Kd.int IntKind.i64, Kd.any] [[AV.str (spDotted host), AV.str (spDotted to_), AV.int IntKind.i64 (IntKind.wrap IntKind.i64 port), AV.int IntKind.i64 (IntKind.wrap IntKind.i64 toPort), AV.slq 2 (List.length mrows)]]), (10, Blk.cells true [Kd.str, Kd.any, Kd.any] [[AV.str start, AV.sl (Loc.mk 9 0 0) (List.length (sub hrows 0 (List.length hrows))) Cap.open_, AV.nilSl]]), (11, Blk.cells true [Kd.any] [[AV.slq 1 (List.length brows)]]), (1, Blk.cells false [Kd.int IntKind.u8] brows)] 12) Ex.normal (SL.mk [] [(2, Blk.cells false [Kd.int IntKind.u16, Kd.int IntKind.u16] mrows), (8, Blk.cells true [Kd.str, Kd.str, Kd.int IntKind.i64, Kd.int IntKind.i64, Kd.any] [[AV.str (spDotted host), AV.str (spDotted to_), AV.int IntKind.i64 (IntKind.wrap IntKind.i64 port), AV.int IntKind.i64 (IntKind.wrap IntKind.i64 toPort), AV.slq 2 (List.length mrows)]]), (10, Blk.cells true [Kd.str, Kd.any, Kd.any] [[AV.str start, AV.sl (Loc.mk 9 0 0) (List.length (sub hrows 0 (List.length hrows))) Cap.open_, AV.sl (Loc.mk 13 0 0) m Cap.open_]]), (12, Blk.mark), (13, Blk.cells true [Kd.int IntKind.u8] brows2)] 14), PI.loop (b23oI start (spDotted host) (spDotted to_) (List.length (sub hrows 0 (List.length hrows))) m (List.length mrows) (IntKind.wrap IntKind.i64 port) (IntKind.wrap IntKind.i64 toPort) mrows (sub hrows 0 (List.length hrows)) (0 : Int)) (Ex.exit 2) (b23oI start (spDotted host) (spDotted to_) (List.length (sub hrows 0 (List.length hrows))) m (List.length mrows) (IntKind.wrap IntKind.i64 port) (IntKind.wrap IntKind.i64 toPort) mrows hrows2 (↑(List.length (sub hrows 0 (List.length hrows))) : Int)), .as_ false]))) 3 [9, 13] (SL.mk [] [(3, .cells true [Kd.str, Kd.str] hrows2), (4, .cells true [Kd.int IntKind.u8] brows2)] 5) (Out.ret (ren (sig 3 [9, 13]) (AV.agg [AV.str start, AV.sl (Loc.mk 3 0 0) (List.length (sub hrows 0 (List.length hrows))) Cap.open_, AV.sl (Loc.mk 4 0 0) m Cap.open_])))
      ((((((((((((((((((((((((((((((((((((((((((((((((((((((((((((((((((((((((True ∧ (true = true)) ∧ (true = true)) ∧ (true = true)) ∧ ((decide (0 + List.length hrows ≤ List.length hrows) && decide (0 < List.length (sub hrows 0 (List.length hrows)) ∧ List.length (sub hrows 0 (List.length hrows)) ≤ 4398046511104)) = true)) ∧ ((decide (0 + List.length brows ≤ List.length brows) && decide (List.length (sub brows 0 (List.length brows)) ≤ 140737488355328)) = true)) ∧ (true = true)) ∧ (true = true)) ∧ (true = true)) ∧ (true = true)) ∧ (true = true)) ∧ (true = true)) ∧ ((decide (0 + List.length brows ≤ List.length brows) && decide (List.length (sub brows 0 (List.length brows)) ≤ 140737488355328)) = true)) ∧ (true = true)) ∧ (true = true)) ∧ (true = true)) ∧ (true = true)) ∧ (true = true)) ∧ (true = true)) ∧ ((decide (0 + List.length hrows ≤ List.length hrows) && decide (0 < List.length (sub hrows 0 (List.length hrows)) ∧ List.length (sub hrows 0 (List.length hrows)) ≤ 4398046511104)) = true)) ∧ ((decide (0 + List.length brows ≤ List.length brows) && decide (List.length (sub brows 0 (List.length brows)) ≤ 140737488355328)) = true)) ∧ (true = true)) ∧ (true = true)) ∧ (true = true)) ∧ (true = true)) ∧ (true = true)) ∧ (true = true)) ∧ (true = true)) ∧ ((decide (0 + List.length hrows ≤ List.length hrows) && (decide (0 + List.length brows ≤ List.length brows) && decide (List.length start ≤ 4294967200 ∧ List.all (sub hrows 0 (List.length hrows)) short = true ∧ List.length (sub brows 0 (List.length brows)) ≤ 140737488355328))) = true)) ∧ ((!spRight start (sub hrows 0 (List.length hrows)) (List.length (sub brows 0 (List.length brows)))) = false)) ∧ (true = true)) ∧ (true = true)) ∧ (true = true)) ∧ (true = true)) ∧ (true = true)) ∧ (true = true)) ∧ (true = true)) ∧ (true = true)) ∧ (true = true)) ∧ (true = true)) ∧ (true = true)) ∧ (true = true)) ∧ (true = true)) ∧ (true = true)) ∧ ((decide (0 + List.length hrows ≤ List.length hrows) && decide (0 < List.length (sub hrows 0 (List.length hrows)) ∧ List.length (sub hrows 0 (List.length hrows)) ≤ 4398046511104)) = true)) ∧ (true = true)) ∧ (true = true)) ∧ (true = true)) ∧ (true = true)) ∧ (true = true)) ∧ (true = true)) ∧ ((decide (0 + List.length hrows ≤ List.length hrows) && decide (0 < List.length (sub hrows 0 (List.length hrows)) ∧ List.length (sub hrows 0 (List.length hrows)) ≤ 4398046511104)) = true)) ∧ (true = true)) ∧ (true = true)) ∧ (true = true)) ∧ (true = true)) ∧ (true = true)) ∧ (true = true)) ∧ (true = true)) ∧ (RangeOK Tryz.prog (rcode Tryz.prog 23 0) (113) (SL.mk [(51, AV.fn (Fn.func 76) [] [AV.ptr (Loc.mk 11 0 0)]), (14, AV.ptr (Loc.mk 8 0 0)), (15, AV.ptr (Loc.mk 10 0 0))] [(2, Blk.cells false [Kd.int IntKind.u16, Kd.int IntKind.u16] mrows), (8, Blk.cells true [Kd.str, Kd.str, Kd.int IntKind.i64, Kd.int IntKind.i64, Kd.any] [[AV.str (spDotted host), AV.str (spDotted to_), AV.int IntKind.i64 (IntKind.wrap IntKind.i64 port), AV.int IntKind.i64 (IntKind.wrap IntKind.i64 toPort), AV.slq 2 (List.length mrows)]]), (10, Blk.cells true [Kd.str, Kd.any, Kd.any] [[AV.str start, AV.sl (Loc.mk 9 0 0) (List.length (sub hrows 0 (List.length hrows))) Cap.open_, AV.nilSl]]), (11, Blk.cells true [Kd.any] [[AV.slq 1 (List.length brows)]]), (1, Blk.cells false [Kd.int IntKind.u8] brows)] 12) (SL.mk [] [(2, Blk.cells false [Kd.int IntKind.u16, Kd.int IntKind.u16] mrows), (8, Blk.cells true [Kd.str, Kd.str, Kd.int IntKind.i64, Kd.int IntKind.i64, Kd.any] [[AV.str (spDotted host), AV.str (spDotted to_), AV.int IntKind.i64 (IntKind.wrap IntKind.i64 port), AV.int IntKind.i64 (IntKind.wrap IntKind.i64 toPort), AV.slq 2 (List.length mrows)]]), (10, Blk.cells true [Kd.str, Kd.any, Kd.any] [[AV.str start, AV.sl (Loc.mk 9 0 0) (List.length (sub hrows 0 (List.length hrows))) Cap.open_, AV.sl (Loc.mk 13 0 0) m Cap.open_]]), (12, Blk.mark), (13, Blk.cells true [Kd.int IntKind.u8] brows2)] 14))) ∧ (true = true)) ∧ (LoopOK Tryz.prog (lbody Tryz.prog 23 0) (113) (SL.mk [(12, AV.ptr (Loc.mk 4 0 0)), (13, AV.ptr (Loc.mk 7 0 0)), (14, AV.ptr (Loc.mk 8 0 0)), (15, AV.ptr (Loc.mk 10 0 0)), (64, AV.sl (Loc.mk 9 0 0) (List.length (sub hrows 0 (List.length hrows))) Cap.open_), (65, AV.int IntKind.i64 (↑(List.length (sub hrows 0 (List.length hrows))) : Int)), (66, AV.int IntKind.i64 (0 : Int))] [(2, Blk.cells false [Kd.int IntKind.u16, Kd.int IntKind.u16] mrows), (8, Blk.cells true [Kd.str, Kd.str, Kd.int IntKind.i64, Kd.int IntKind.i64, Kd.any] [[AV.str (spDotted host), AV.str (spDotted to_), AV.int IntKind.i64 (IntKind.wrap IntKind.i64 port), AV.int IntKind.i64 (IntKind.wrap IntKind.i64 toPort), AV.slq 2 (List.length mrows)]]), (9, Blk.cells true [Kd.str, Kd.str] (sub hrows 0 (List.length hrows))), (10, Blk.cells true [Kd.str, Kd.any, Kd.any] [[AV.str start, AV.sl (Loc.mk 9 0 0) (List.length (sub hrows 0 (List.length hrows))) Cap.open_, AV.sl (Loc.mk 13 0 0) m Cap.open_]])] 14) (Ex.exit 2) (SL.mk [(12, AV.ptr (Loc.mk 4 0 0)), (13, AV.ptr (Loc.mk 7 0 0)), (14, AV.ptr (Loc.mk 8 0 0)), (15, AV.ptr (Loc.mk 10 0 0)), (64, AV.sl (Loc.mk 9 0 0) (List.length (sub hrows 0 (List.length hrows))) Cap.open_), (65, AV.int IntKind.i64 (↑(List.length (sub hrows 0 (List.length hrows))) : Int)), (66, AV.int IntKind.i64 (↑(List.length (sub hrows 0 (List.length hrows))) : Int))] [(2, Blk.cells false [Kd.int IntKind.u16, Kd.int IntKind.u16] mrows), (8, Blk.cells true [Kd.str, Kd.str, Kd.int IntKind.i64, Kd.int IntKind.i64, Kd.any] [[AV.str (spDotted host), AV.str (spDotted to_), AV.int IntKind.i64 (IntKind.wrap IntKind.i64 port), AV.int IntKind.i64 (IntKind.wrap IntKind.i64 toPort), AV.slq 2 (List.length mrows)]]), (9, Blk.cells true [Kd.str, Kd.str] hrows2), (10, Blk.cells true [Kd.str, Kd.any, Kd.any] [[AV.str start, AV.sl (Loc.mk 9 0 0) (List.length (sub hrows 0 (List.length hrows))) Cap.open_, AV.sl (Loc.mk 13 0 0) m Cap.open_]])] 14))) ∧ (true = true)) ∧ ((decide (0 + List.length (sub hrows 0 (List.length hrows)) ≤ List.length hrows2) && (decide (0 + m ≤ List.length brows2) && decide (List.length start ≤ 4294967200 ∧ List.all (sub hrows2 0 (List.length (sub hrows 0 (List.length hrows)))) short = true ∧ List.length (sub brows2 0 m) ≤ 140737488355328))) = true)) ∧ ((!spRight start (sub hrows2 0 (List.length (sub hrows 0 (List.length hrows)))) (List.length (sub brows2 0 m))) = false)) ∧ (true = true)) ∧ (true = true)) ∧ (true = true)) ∧ (true = true)) ∧ (true = true)) ∧ (true = true)) ∧ (true = true)) ∧ (true = true))  := by unfold Path; kernel_rfl
theorem c23oF (start : List UInt8) (hrows : List (List AV)) (brows : List (List AV)) (mrows : List (List AV)) (hrows2 : List (List AV)) (brows2 : List (List AV)) (host : Int) (to_ : Int) (port : Int) (toPort : Int) (m : Nat) {ρ : Nat → BI} {w : World} (hE : HSim ρ (addBlks .e 0 [Blk.cells false [Kd.str, Kd.str] hrows, Blk.cells false [Kd.int IntKind.u8] brows, Blk.cells false [Kd.int IntKind.u16, Kd.int IntKind.u16] mrows]) ([Blk.cells false [Kd.str, Kd.str] hrows, Blk.cells false [Kd.int IntKind.u8] brows, Blk.cells false [Kd.int IntKind.u16, Kd.int IntKind.u16] mrows] : List Blk).length w)
    (h0 : (decide (0 + List.length hrows ≤ List.length hrows) && decide (0 < List.length (sub hrows 0 (List.length hrows)) ∧ List.length (sub hrows 0 (List.length hrows)) ≤ 4398046511104)) = true)
    (h1 : (decide (0 + List.length brows ≤ List.length brows) && decide (List.length (sub brows 0 (List.length brows)) ≤ 140737488355328)) = true)
    (h2 : (decide (0 + List.length hrows ≤ List.length hrows) && (decide (0 + List.length brows ≤ List.length brows) && decide (List.length start ≤ 4294967200 ∧ List.all (sub hrows 0 (List.length hrows)) short = true ∧ List.length (sub brows 0 (List.length brows)) ≤ 140737488355328))) = true)
    (h3 : (!spRight start (sub hrows 0 (List.length hrows)) (List.length (sub brows 0 (List.length brows)))) = false)
    (h4 : RangeOK Tryz.prog (rcode Tryz.prog 23 0) (113) (SL.mk [(51, AV.fn (Fn.func 76) [] [AV.ptr (Loc.mk 11 0 0)]), (14, AV.ptr (Loc.mk 8 0 0)), (15, AV.ptr (Loc.mk 10 0 0))] [(2, Blk.cells false [Kd.int IntKind.u16, Kd.int IntKind.u16] mrows), (8, Blk.cells true [Kd.str, Kd.str, Kd.int IntKind.i64, Kd.int IntKind.i64, Kd.any] [[AV.str (spDotted host), AV.str (spDotted to_), AV.int IntKind.i64 (IntKind.wrap IntKind.i64 port), AV.int IntKind.i64 (IntKind.wrap IntKind.i64 toPort), AV.slq 2 (List.length mrows)]]), (10, Blk.cells true [Kd.str, Kd.any, Kd.any] [[AV.str start, AV.sl (Loc.mk 9 0 0) (List.length (sub hrows 0 (List.length hrows))) Cap.open_, AV.nilSl]]), (11, Blk.cells true [Kd.any] [[AV.slq 1 (List.length brows)]]), (1, Blk.cells false [Kd.int IntKind.u8] brows)] 12) (SL.mk [] [(2, Blk.cells false [Kd.int IntKind.u16, Kd.int IntKind.u16] mrows), (8, Blk.cells true [Kd.str, Kd.str, Kd.int IntKind.i64, Kd.int IntKind.i64, Kd.any] [[AV.str (spDotted host), AV.str (spDotted to_), AV.int IntKind.i64 (IntKind.wrap IntKind.i64 port), AV.int IntKind.i64 (IntKind.wrap IntKind.i64 toPort), AV.slq 2 (List.length mrows)]]), (10, Blk.cells true [Kd.str, Kd.any, Kd.any] [[AV.str start, AV.sl (Loc.mk 9 0 0) (List.length (sub hrows 0 (List.length hrows))) Cap.open_, AV.sl (Loc.mk 13 0 0) m Cap.open_]]), (12, Blk.mark), (13, Blk.cells true [Kd.int IntKind.u8] brows2)] 14))
    (h5 : LoopOK Tryz.prog (lbody Tryz.prog 23 0) (113) (SL.mk [(12, AV.ptr (Loc.mk 4 0 0)), (13, AV.ptr (Loc.mk 7 0 0)), (14, AV.ptr (Loc.mk 8 0 0)), (15, AV.ptr (Loc.mk 10 0 0)), (64, AV.sl (Loc.mk 9 0 0) (List.length (sub hrows 0 (List.length hrows))) Cap.open_), (65, AV.int IntKind.i64 (↑(List.length (sub hrows 0 (List.length hrows))) : Int)), (66, AV.int IntKind.i64 (0 : Int))] [(2, Blk.cells false [Kd.int IntKind.u16, Kd.int IntKind.u16] mrows), (8, Blk.cells true [Kd.str, Kd.str, Kd.int IntKind.i64, Kd.int IntKind.i64, Kd.any] [[AV.str (spDotted host), AV.str (spDotted to_), AV.int IntKind.i64 (IntKind.wrap IntKind.i64 port), AV.int IntKind.i64 (IntKind.wrap IntKind.i64 toPort), AV.slq 2 (List.length mrows)]]), (9, Blk.cells true [Kd.str, Kd.str] (sub hrows 0 (List.length hrows))), (10, Blk.cells true [Kd.str, Kd.any, Kd.any] [[AV.str start, AV.sl (Loc.mk 9 0 0) (List.length (sub hrows 0 (List.length hrows))) Cap.open_, AV.sl (Loc.mk 13 0 0) m Cap.open_]])] 14) (Ex.exit 2) (SL.mk [(12, AV.ptr (Loc.mk 4 0 0)), (13, AV.ptr (Loc.mk 7 0 0)), (14, AV.ptr (Loc.mk 8 0 0)), (15, AV.ptr (Loc.mk 10 0 0)), (64, AV.sl (Loc.mk 9 0 0) (List.length (sub hrows 0 (List.length hrows))) Cap.open_), (65, AV.int IntKind.i64 (↑(List.length (sub hrows 0 (List.length hrows))) : Int)), (66, AV.int IntKind.i64 (↑(List.length (sub hrows 0 (List.length hrows))) : Int))] [(2, Blk.cells false [Kd.int IntKind.u16, Kd.int IntKind.u16] mrows), (8, Blk.cells true [Kd.str, Kd.str, Kd.int IntKind.i64, Kd.int IntKind.i64, Kd.any] [[AV.str (spDotted host), AV.str (spDotted to_), AV.int IntKind.i64 (IntKind.wrap IntKind.i64 port), AV.int IntKind.i64 (IntKind.wrap IntKind.i64 toPort), AV.slq 2 (List.length mrows)]]), (9, Blk.cells true [Kd.str, Kd.str] hrows2), (10, Blk.cells true [Kd.str, Kd.any, Kd.any] [[AV.str start, AV.sl (Loc.mk 9 0 0) (List.length (sub hrows 0 (List.length hrows))) Cap.open_, AV.sl (Loc.mk 13 0 0) m Cap.open_]])] 14))
    (h6 : (decide (0 + List.length (sub hrows 0 (List.length hrows)) ≤ List.length hrows2) && (decide (0 + m ≤ List.length brows2) && decide (List.length start ≤ 4294967200 ∧ List.all (sub hrows2 0 (List.length (sub hrows 0 (List.length hrows)))) short = true ∧ List.length (sub brows2 0 m) ≤ 140737488355328))) = true)
    (h7 : (!spRight start (sub hrows2 0 (List.length (sub hrows 0 (List.length hrows)))) (List.length (sub brows2 0 m))) = false) :
    Calls Tryz.prog 23 (concL ρ [AV.agg [AV.str start, AV.slq 0 (List.length hrows), AV.slq 1 (List.length brows)], AV.int IntKind.u32 host, AV.int IntKind.u32 to_, AV.int IntKind.u16 port, AV.int IntKind.u16 toPort, AV.slq 2 (List.length mrows)]).toArray w (fun e w' => ∃ ρ', e = .returned (conc ρ' (AV.agg [AV.str start, AV.sl (Loc.mk 3 0 0) (List.length (sub hrows 0 (List.length hrows))) Cap.open_, AV.sl (Loc.mk 4 0 0) m Cap.open_])) ∧ HStep ρ (addBlks .e 0 [Blk.cells false [Kd.str, Kd.str] hrows, Blk.cells false [Kd.int IntKind.u8] brows, Blk.cells false [Kd.int IntKind.u16, Kd.int IntKind.u16] mrows]) ([Blk.cells false [Kd.str, Kd.str] hrows, Blk.cells false [Kd.int IntKind.u8] brows, Blk.cells false [Kd.int IntKind.u16, Kd.int IntKind.u16] mrows] : List Blk).length w ρ' (Tr.ofList [(3, .cells true [Kd.str, Kd.str] hrows2), (4, .cells true [Kd.int IntKind.u8] brows2)]) 5 w') :=
  calls_ofB P6w_ok (c23oFP start hrows brows mrows hrows2 brows2 host to_ port toPort m) ⟨⟨⟨⟨⟨⟨⟨⟨⟨⟨⟨⟨⟨⟨⟨⟨⟨⟨⟨⟨⟨⟨⟨⟨⟨⟨⟨⟨⟨⟨⟨⟨⟨⟨⟨⟨⟨⟨⟨⟨⟨⟨⟨⟨⟨⟨⟨⟨⟨⟨⟨⟨⟨⟨⟨⟨⟨⟨⟨⟨⟨⟨⟨⟨⟨⟨⟨⟨⟨⟨⟨⟨trivial, rfl⟩, rfl⟩, rfl⟩, h0⟩, h1⟩, rfl⟩, rfl⟩, rfl⟩, rfl⟩, rfl⟩, rfl⟩, h1⟩, rfl⟩, rfl⟩, rfl⟩, rfl⟩, rfl⟩, rfl⟩, h0⟩, h1⟩, rfl⟩, rfl⟩, rfl⟩, rfl⟩, rfl⟩, rfl⟩, rfl⟩, h2⟩, h3⟩, rfl⟩, rfl⟩, rfl⟩, rfl⟩, rfl⟩, rfl⟩, rfl⟩, rfl⟩, rfl⟩, rfl⟩, rfl⟩, rfl⟩, rfl⟩, rfl⟩, h0⟩, rfl⟩, rfl⟩, rfl⟩, rfl⟩, rfl⟩, rfl⟩, h0⟩, rfl⟩, rfl⟩, rfl⟩, rfl⟩, rfl⟩, rfl⟩, rfl⟩, h4⟩, rfl⟩, h5⟩, rfl⟩, h6⟩, h7⟩, rfl⟩, rfl⟩, rfl⟩, rfl⟩, rfl⟩, rfl⟩, rfl⟩, rfl⟩ hE rfl
end Go.Proofs.YtpdgmgkkbbndfaaGreatDoor

set_option maxRecDepth 100000
set_option maxHeartbeats 4000000
set_option linter.unusedVariables false
set_option linter.unusedSimpArgs false
namespace Go.Proofs.YtpdgmgkkbbndfaaGreatDoor
open Go Go.Proofs Go.Proofs.YtpdgmgkkbbndfaaGreatDoor.SX
def NewSl (n0 : Nat) (w' : World) (ks : List Kd) (rows : List (List AV)) (v : Value) : Prop :=
  ∃ bi : BI, (n0 ≤ bi.blk ∨ bi.blk < NG) ∧ ∀ (ρ : Nat → BI) (b : Nat), ρ b = bi → conc ρ (.slq b rows.length) = v ∧ (Blk.cells false ks rows).sat ρ w' b
theorem NewSl.of_ro {ρ ρ' : Nat → BI} {hp hp' : Tr Blk} {nx nx' : Nat} {w w' : World} (st : HStep ρ hp nx w ρ' hp' nx' w') {b n : Nat} {ks : List Kd} {rows : List (List AV)} (hb : hp'.get b = some (.cells false ks rows)) (hge : nx ≤ b) (hk : noAny ks = true) (hn : n = rows.length) :
    NewSl w.heap.size w' ks rows (conc ρ' (.slq b n)) := by
  subst hn
  refine ⟨ρ' b, st.own.fresh b _ hge hb rfl, fun ρ'' b'' h => ⟨by simp [conc, h], Blk.sat_at hk h (st.sim.sat _ _ hb)⟩⟩
theorem NewSl.of_rw {ρ ρ' : Nat → BI} {hp hp' : Tr Blk} {nx nx' : Nat} {w w' : World} (st : HStep ρ hp nx w ρ' hp' nx' w') {b n : Nat} {ks : List Kd} {rows : List (List AV)} {c : Cap} (hb : hp'.get b = some (.cells true ks rows))
    (hro : ∀ c k, hp.get c = some k → k.isRw = false) (hk : noAny ks = true) (hn : n = rows.length) : NewSl w.heap.size w' ks rows (conc ρ' (.sl ⟨b, 0, 0⟩ n c)) := by
  have hz := ((st.sim.sat b _ hb).2.choose_spec.choose_spec.choose_spec.2.2 rfl).1
  exact (ReadsN.of_step st hb hro rfl hk hn hz).bi st.sim.gw hk
theorem NewSl.none {ρ' : Nat → BI} {n0 : Nat} {w' : World} {ks : List Kd} (gw : GW w') (hk : noAny ks = true) : NewSl n0 w' ks [] (conc ρ' .nilSl) :=
  (ReadsN.nil (n0 := n0) rfl).bi gw hk
def IsMsg (n0 : Nat) (w' : World) (start : List UInt8) (r1 r2 : List (List AV)) (v : Value) : Prop :=
  ∃ v1 v2, v = .agg #[.string ⟨start.toArray⟩, v1, v2] ∧ NewSl n0 w' [.str, .str] r1 v1 ∧ NewSl n0 w' [.int .u8] r2 v2
theorem entry_msg {P : Program} {f : Nat} {vs : Array Value} {ρ : Nat → BI} {hp : Tr Blk} {nx : Nat} {w : World} {start : List UInt8} {r1 r2 : List (List AV)} (hs : HSim ρ hp nx w)
    (h : Calls P f vs w (fun e w' => (∃ v, e = .returned v ∧ IsMsg w.heap.size w' start r1 r2 v) ∧ Ext w w')) :
    Calls P f vs w (fun e w' => ∃ ρ', e = .returned (conc ρ' (.agg [.str start, .slq nx r1.length, .slq (nx + 1) r2.length])) ∧ (AV.agg [.str start, .slq nx r1.length, .slq (nx + 1) r2.length]).idsB (nx + [Blk.cells false [.str, .str] r1, Blk.cells false [.int .u8] r2].length) = true
      ∧ HStep ρ hp nx w ρ' (addBlks hp nx [Blk.cells false [.str, .str] r1, Blk.cells false [.int .u8] r2]) (nx + [Blk.cells false [.str, .str] r1, Blk.cells false [.int .u8] r2].length) w') := by
  refine h.mono fun e w' hq => ?_
  obtain ⟨⟨v, rfl, v1, v2, rfl, ⟨b1, n1, g1⟩, b2, n2, g2⟩, he⟩ := hq
  have e1 : extB ρ nx [b1, b2] nx = b1 := by have := extB_new ρ nx [b1, b2] 0; simpa using this
  have e2 : extB ρ nx [b1, b2] (nx + 1) = b2 := by have := extB_new ρ nx [b1, b2] 1; simpa using this
  have st := HStep.bis (bs := [Blk.cells false [.str, .str] r1, Blk.cells false [.int .u8] r2]) [b1, b2] hs he (fun i blk hi => by
    match i with
    | 0 => simp at hi; subst hi; exact ⟨rfl, n1, rfl, fun ρ' b hb => (g1 ρ' b hb).2⟩
    | 1 => simp at hi; subst hi; exact ⟨rfl, n2, rfl, fun ρ' b hb => (g2 ρ' b hb).2⟩
    | i + 2 => simp at hi)
  refine ⟨_, ?_, ?_, st⟩
  · have h1 := (g1 _ _ e1).1
    have h2 := (g2 _ _ e2).1
    simp only [conc, concL] at h1 h2 ⊢
    rw [h1, h2]
  · simp [AV.idsB, idsBL, blt_iff]
def ins23 (hrows brows mrows : List (List AV)) : List Blk := [Blk.cells false [Kd.str, Kd.str] hrows, Blk.cells false [Kd.int IntKind.u8] brows, Blk.cells false [Kd.int IntKind.u16, Kd.int IntKind.u16] mrows]
theorem ro23 {hrows brows mrows : List (List AV)} : ∀ c k, (addBlks .e 0 (ins23 hrows brows mrows)).get c = some k → k.isRw = false := by
  intro c k hk
  rw [addBlks_get] at hk
  split at hk
  · have := List.mem_of_getElem? hk
    simp only [ins23, List.mem_cons, List.not_mem_nil, or_false] at this
    rcases this with rfl | rfl | rfl <;> rfl
  · cases c <;> cases hk
theorem rw23 {start : List UInt8} {hrows brows mrows : List (List AV)} {host to_ port toPort : Int} {ρ : Nat → BI} {w : World} (hE : HSim ρ (addBlks .e 0 (ins23 hrows brows mrows)) (ins23 hrows brows mrows).length w)
    (hst : start.length ≤ 4294967200) (hsh : hrows.all short = true) (hhl : hrows.length ≤ 4398046511104) (hbl : brows.length ≤ 140737488355328) (hml : mrows.length ≤ 4611686018427387904) (h2 : ∀ r ∈ hrows, r.length = 2) :
    Calls Tryz.prog 23 (concL ρ [AV.agg [AV.str start, AV.slq 0 (List.length hrows), AV.slq 1 (List.length brows)], AV.int IntKind.u32 host, AV.int IntKind.u32 to_, AV.int IntKind.u16 port, AV.int IntKind.u16 toPort, AV.slq 2 (List.length mrows)]).toArray w
      (fun e w' => (∃ v, e = .returned v ∧ IsMsg w.heap.size w' start (spRwH start host to_ port toPort mrows hrows brows) (spRwB start host to_ port toPort mrows hrows brows) v) ∧ Ext w w') := by
  have eh : sub hrows 0 (List.length hrows) = hrows := sub_all hrows rfl
  have eb : sub brows 0 (List.length brows) = brows := sub_all brows rfl
  cases h1 : spRight start hrows brows.length with
  | false =>
    have e0 : rwOk start host to_ port toPort mrows hrows brows = false := by unfold rwOk; rw [h1]; rfl
    unfold spRwH spRwB
    rw [e0, cond_false, cond_false]
    refine (c23n start hrows brows mrows host to_ port toPort hE (by simp only [eh, Bool.and_eq_true, decide_eq_true_eq]; omega) (by simp only [eb, Bool.and_eq_true, decide_eq_true_eq]; omega)
      (by simp only [eh, eb, Bool.and_eq_true, decide_eq_true_eq]; exact ⟨by omega, by omega, hst, hsh, hbl⟩) (by rw [eh, eb, h1]; rfl)).mono fun e w' hq => ?_
    obtain ⟨ρ', rfl, st⟩ := hq
    rw [eh, eb] at st
    rw [eh, eb]
    refine ⟨⟨_, rfl, _, _, rfl, NewSl.of_ro st (b := 3) (by rw [ofList_cons, if_pos rfl]) (show 3 ≤ 3 from Nat.le_refl 3) rfl rfl, NewSl.of_ro st (b := 4) (by rw [ofList_cons, if_neg (by decide), ofList_cons, if_pos rfl]) (show 3 ≤ 4 from Nat.le_succ 3) rfl rfl⟩, st.below ro23⟩
  | true =>
    have hz := right_sized h1
    obtain ⟨hline, hlen⟩ := rw_lines (host := host) (to_ := to_) (mrows := mrows) hz.bn hml
    obtain ⟨hhdr, hsh2, ht2⟩ := rw_hdrs (host := host) (to_ := to_) (port := port) (toPort := toPort) hz h2 hml
    have hbn := hz.bn
    have hpos := hz.pos
    have hR := range23 (start := start) (n := hrows.length) (p := IntKind.wrap .i64 port) (tp := IntKind.wrap .i64 toPort) hline (by omega)
    have a0 : (decide (0 + List.length hrows ≤ List.length hrows) && decide (0 < List.length (sub hrows 0 (List.length hrows)) ∧ List.length (sub hrows 0 (List.length hrows)) ≤ 4398046511104)) = true := by
      simp only [eh, Bool.and_eq_true, decide_eq_true_eq]; omega
    have a1 : (decide (0 + List.length brows ≤ List.length brows) && decide (List.length (sub brows 0 (List.length brows)) ≤ 140737488355328)) = true := by
      simp only [eb, Bool.and_eq_true, decide_eq_true_eq]; omega
    have a2 : (decide (0 + List.length hrows ≤ List.length hrows) && (decide (0 + List.length brows ≤ List.length brows) && decide (List.length start ≤ 4294967200 ∧ List.all (sub hrows 0 (List.length hrows)) short = true ∧ List.length (sub brows 0 (List.length brows)) ≤ 140737488355328))) = true := by
      simp only [eh, eb, Bool.and_eq_true, decide_eq_true_eq]; exact ⟨by omega, by omega, hst, hsh, hbl⟩
    have a3 : (!spRight start (sub hrows 0 (List.length hrows)) (List.length (sub brows 0 (List.length brows)))) = false := by rw [eh, eb, h1]; rfl
    have hl2 : (rwHdrs host to_ port toPort mrows hrows brows).length = hrows.length := by simp [rwHdrs]
    have es : sub (rwHdrs host to_ port toPort mrows hrows brows) 0 hrows.length = rwHdrs host to_ port toPort mrows hrows brows := sub_all _ hl2.symm
    cases hb : rwBody host to_ mrows brows with
    | nil =>
      have hR : RangeOK Tryz.prog (rcode Tryz.prog 23 0) 113 (I23 start (spDotted host) (spDotted to_) hrows.length (IntKind.wrap .i64 port) (IntKind.wrap .i64 toPort) mrows brows) (S23z start (spDotted host) (spDotted to_) hrows.length (IntKind.wrap .i64 port) (IntKind.wrap .i64 toPort) mrows) := by
        have hb' : outB (spDotted host) (spDotted to_) mrows (spLines (brows.map rowByte)) = [] := hb
        rw [hb'] at hR; exact hR
      have hL := hdrz_loop (start := start) (m := 0) (p := IntKind.wrap .i64 port) hhdr (by omega)
      have eH : hrows.map (spHdr (spDotted host) (spDotted to_) (IntKind.wrap .i64 port) (IntKind.wrap .i64 toPort) 0) = rwHdrs host to_ port toPort mrows hrows brows := by unfold rwHdrs; rw [hb]; rfl
      rw [eH] at hL
      have a6 : (decide (0 + List.length (sub hrows 0 (List.length hrows)) ≤ List.length (rwHdrs host to_ port toPort mrows hrows brows)) && (true && decide (List.length start ≤ 4294967200 ∧ List.all (sub (rwHdrs host to_ port toPort mrows hrows brows) 0 (List.length (sub hrows 0 (List.length hrows)))) short = true ∧ 0 ≤ 140737488355328))) = true := by
        simp only [eh, es, Bool.and_eq_true, decide_eq_true_eq]; exact ⟨by omega, trivial, hst, hsh2, by omega⟩
      cases h3 : spRight start (rwHdrs host to_ port toPort mrows hrows brows) (rwBody host to_ mrows brows).length with
      | false =>
        have e0 : rwOk start host to_ port toPort mrows hrows brows = false := by unfold rwOk; rw [h1, h3]; rfl
        unfold spRwH spRwB
        rw [e0, cond_false, cond_false]
        rw [hb] at h3
        refine (c23zT start hrows brows mrows (rwHdrs host to_ port toPort mrows hrows brows) [] host to_ port toPort 0 hE a0 a1 a2 a3 (by rw [eh]; exact hR) (by rw [eh]; exact hL) a6 (by rw [eh, es]; exact (congrArg not h3))).mono fun e w' hq => ?_
        obtain ⟨ρ', rfl, st⟩ := hq
        rw [eh, eb] at st
        rw [eh, eb]
        exact ⟨⟨_, rfl, _, _, rfl, NewSl.of_rw st (b := 3) (by rw [ofList_cons, if_pos rfl]) ro23 rfl rfl, NewSl.of_ro st (b := 4) (by rw [ofList_cons, if_neg (by decide), ofList_cons, if_pos rfl]) (show 3 ≤ 4 from Nat.le_succ 3) rfl rfl⟩, st.below ro23⟩
      | true =>
        have e0 : rwOk start host to_ port toPort mrows hrows brows = true := by unfold rwOk; rw [h1, h3]; rfl
        unfold spRwH spRwB
        rw [e0, cond_true, cond_true]
        rw [hb] at h3
        refine (c23zF start hrows brows mrows (rwHdrs host to_ port toPort mrows hrows brows) [] host to_ port toPort 0 hE a0 a1 a2 a3 (by rw [eh]; exact hR) (by rw [eh]; exact hL) a6 (by rw [eh, es]; exact (congrArg not h3))).mono fun e w' hq => ?_
        obtain ⟨ρ', rfl, st⟩ := hq
        rw [eh]
        rw [hb]
        exact ⟨⟨_, rfl, _, _, rfl, NewSl.of_rw st (b := 3) (by rw [ofList_cons, if_pos rfl]) ro23 rfl hl2.symm, NewSl.none st.sim.gw rfl⟩, st.below ro23⟩
    | cons x xs =>
      have hR : RangeOK Tryz.prog (rcode Tryz.prog 23 0) 113 (I23 start (spDotted host) (spDotted to_) hrows.length (IntKind.wrap .i64 port) (IntKind.wrap .i64 toPort) mrows brows) (S23o start (spDotted host) (spDotted to_) hrows.length (IntKind.wrap .i64 port) (IntKind.wrap .i64 toPort) mrows (byteRows (rwBody host to_ mrows brows))) := by
        have hb' : outB (spDotted host) (spDotted to_) mrows (spLines (brows.map rowByte)) = x :: xs := hb
        rw [hb'] at hR; rw [hb]; exact hR
      have hm : (byteRows (rwBody host to_ mrows brows)).length = (rwBody host to_ mrows brows).length := byteRows_length _
      have hL := hdro_loop (start := start) (m := (byteRows (rwBody host to_ mrows brows)).length) (p := IntKind.wrap .i64 port) hhdr (by omega)
      have eH : hrows.map (spHdr (spDotted host) (spDotted to_) (IntKind.wrap .i64 port) (IntKind.wrap .i64 toPort) (byteRows (rwBody host to_ mrows brows)).length) = rwHdrs host to_ port toPort mrows hrows brows := by unfold rwHdrs; rw [hm]
      rw [eH] at hL
      have ebb : sub (byteRows (rwBody host to_ mrows brows)) 0 (byteRows (rwBody host to_ mrows brows)).length = byteRows (rwBody host to_ mrows brows) := sub_all _ rfl
      have a6 : (decide (0 + List.length (sub hrows 0 (List.length hrows)) ≤ List.length (rwHdrs host to_ port toPort mrows hrows brows)) && (decide (0 + (byteRows (rwBody host to_ mrows brows)).length ≤ List.length (byteRows (rwBody host to_ mrows brows))) && decide (List.length start ≤ 4294967200 ∧ List.all (sub (rwHdrs host to_ port toPort mrows hrows brows) 0 (List.length (sub hrows 0 (List.length hrows)))) short = true ∧ List.length (sub (byteRows (rwBody host to_ mrows brows)) 0 (byteRows (rwBody host to_ mrows brows)).length) ≤ 140737488355328))) = true := by
        simp only [eh, es, ebb, Bool.and_eq_true, decide_eq_true_eq]; exact ⟨by omega, by omega, hst, hsh2, by omega⟩
      cases h3 : spRight start (rwHdrs host to_ port toPort mrows hrows brows) (rwBody host to_ mrows brows).length with
      | false =>
        have e0 : rwOk start host to_ port toPort mrows hrows brows = false := by unfold rwOk; rw [h1, h3]; rfl
        unfold spRwH spRwB
        rw [e0, cond_false, cond_false]
        rw [← hm] at h3
        refine (c23oT start hrows brows mrows (rwHdrs host to_ port toPort mrows hrows brows) (byteRows (rwBody host to_ mrows brows)) host to_ port toPort (byteRows (rwBody host to_ mrows brows)).length hE a0 a1 a2 a3 (by rw [eh]; exact hR) (by rw [eh]; exact hL) a6 (by rw [eh, es, ebb]; exact (congrArg not h3))).mono fun e w' hq => ?_
        obtain ⟨ρ', rfl, st⟩ := hq
        rw [eh, eb] at st
        rw [eh, eb]
        exact ⟨⟨_, rfl, _, _, rfl, NewSl.of_rw st (b := 3) (by rw [ofList_cons, if_pos rfl]) ro23 rfl rfl, NewSl.of_ro st (b := 4) (by rw [ofList_cons, if_neg (by decide), ofList_cons, if_pos rfl]) (show 3 ≤ 4 from Nat.le_succ 3) rfl rfl⟩, st.below ro23⟩
      | true =>
        have e0 : rwOk start host to_ port toPort mrows hrows brows = true := by unfold rwOk; rw [h1, h3]; rfl
        unfold spRwH spRwB
        rw [e0, cond_true, cond_true]
        rw [← hm] at h3
        refine (c23oF start hrows brows mrows (rwHdrs host to_ port toPort mrows hrows brows) (byteRows (rwBody host to_ mrows brows)) host to_ port toPort (byteRows (rwBody host to_ mrows brows)).length hE a0 a1 a2 a3 (by rw [eh]; exact hR) (by rw [eh]; exact hL) a6 (by rw [eh, es, ebb]; exact (congrArg not h3))).mono fun e w' hq => ?_
        obtain ⟨ρ', rfl, st⟩ := hq
        rw [eh]
        exact ⟨⟨_, rfl, _, _, rfl, NewSl.of_rw st (b := 3) (by rw [ofList_cons, if_pos rfl]) ro23 rfl hl2.symm, NewSl.of_rw st (b := 4) (by rw [ofList_cons, if_neg (by decide), ofList_cons, if_pos rfl]) ro23 rfl rfl⟩, st.below ro23⟩
end Go.Proofs.YtpdgmgkkbbndfaaGreatDoor

set_option maxRecDepth 100000
set_option maxHeartbeats 1600000
set_option linter.unusedVariables false
set_option linter.unusedSimpArgs false
namespace Go.Proofs.YtpdgmgkkbbndfaaGreatDoor
open Go Go.Proofs Go.Proofs.YtpdgmgkkbbndfaaGreatDoor.SX
def b34zI (start : List UInt8) (lrows bb : List (List AV)) (o m bl : Nat) : SL := ⟨[(2, .ptr ⟨1, 0, 0⟩), (8, .ptr ⟨4, 0, 0⟩), (37, .sl ⟨2, o, 0⟩ m (.known m)), (38, .int .i64 m), (39, .int .i64 0)], [(1, .cells true [.str, .any, .any] [[.str [], .nilSl, .nilSl]]), (2, .cells false [.str] lrows), (3, .cells true [.int .u8] bb), (4, .cells true [.str, .any, .any] [[.str start, .nilSl, .sl ⟨3, 0, 0⟩ bl .open_]])], 5⟩
def b34I (start : List UInt8) (lrows bb : List (List AV)) (o m bl : Nat) (rows : List (List AV)) (n : Nat) (k : Int) : SL := ⟨[(2, .ptr ⟨1, 0, 0⟩), (8, .ptr ⟨4, 0, 0⟩), (37, .sl ⟨2, o, 0⟩ m (.known m)), (38, .int .i64 m), (39, .int .i64 k)], [(1, .cells true [.str, .any, .any] [[.str [], .nilSl, .nilSl]]), (2, .cells false [.str] lrows), (3, .cells true [.int .u8] bb), (4, .cells true [.str, .any, .any] [[.str start, .sl ⟨5, 0, 0⟩ n .open_, .sl ⟨3, 0, 0⟩ bl .open_]]), (5, .cells true [.str, .str] rows)], 6⟩
theorem b34z_TT (start : List UInt8) (lrows : List (List AV)) (bb : List (List AV)) (o : Nat) (m : Nat) (bl : Nat) :
    Path (run Tryz.prog P6s 100 (lbody Tryz.prog 34 0) (SL.mp 66 ([.as_ true, .as_ true]) (b34zI start lrows bb o m bl))) 5 [] (SL.mk [(2, AV.ptr (Loc.mk 1 0 0)), (3, AV.int IntKind.i64 (4 : Int))] [(1, Blk.cells true [Kd.str, Kd.any, Kd.any] [[AV.str [], AV.nilSl, AV.nilSl]])] 5) (Ex.ret)
      (((((((((((True ∧ (decide ((0 : Int) < (↑m : Int)) = true)) ∧ (decide ((0 : Int) ≤ (0 : Int) ∧ (0 : Int) < (↑m : Int)) = true)) ∧ (decide (o + 0 < List.length lrows) = true)) ∧ (decide (List.length (AV.toStr (List.getD (List.getD lrows (o + 0) []) (0) AV.undef)) < 4294967281) = true)) ∧ ((!spFound (AV.toStr (List.getD (List.getD lrows (o + 0) []) (0) AV.undef)) [(58 : UInt8), (32 : UInt8)]) = true)) ∧ (true = true)) ∧ (true = true)) ∧ (true = true)) ∧ (true = true)) ∧ (true = true)) ∧ (true = true)) := by unfold Path; kernel_rfl
theorem b34z_TFE (start : List UInt8) (lrows : List (List AV)) (bb : List (List AV)) (o : Nat) (m : Nat) (bl : Nat) :
    Path (run Tryz.prog P6s 100 (lbody Tryz.prog 34 0) (SL.mp 66 ([.as_ true, .as_ false, PI.ev 1]) (b34zI start lrows bb o m bl))) 5 [6] (b34I (start) (lrows) (bb) (o) (m) (bl) ([[AV.str (spBefore (AV.toStr (List.getD (List.getD lrows (o + 0) []) (0) AV.undef)) [(58 : UInt8), (32 : UInt8)]), AV.str (spAfter (AV.toStr (List.getD (List.getD lrows (o + 0) []) (0) AV.undef)) [(58 : UInt8), (32 : UInt8)])]]) (1) ((1 : Int))) (Ex.normal)
      ((((((((((True ∧ (decide ((0 : Int) < (↑m : Int)) = true)) ∧ (decide ((0 : Int) ≤ (0 : Int) ∧ (0 : Int) < (↑m : Int)) = true)) ∧ (decide (o + 0 < List.length lrows) = true)) ∧ (decide (List.length (AV.toStr (List.getD (List.getD lrows (o + 0) []) (0) AV.undef)) < 4294967281) = true)) ∧ ((!spFound (AV.toStr (List.getD (List.getD lrows (o + 0) []) (0) AV.undef)) [(58 : UInt8), (32 : UInt8)]) = false)) ∧ (true = true)) ∧ (true = true)) ∧ (true = true)) ∧ (true = true)) ∧ (true = true)) := by unfold Path; kernel_rfl
theorem b34z_F (start : List UInt8) (lrows : List (List AV)) (bb : List (List AV)) (o : Nat) (m : Nat) (bl : Nat) :
    Path (run Tryz.prog P6s 100 (lbody Tryz.prog 34 0) (SL.mp 66 ([.as_ false]) (b34zI start lrows bb o m bl))) 5 [] (b34zI (start) (lrows) (bb) (o) (m) (bl)) (Ex.exit 0)
      (True ∧ (decide ((0 : Int) < (↑m : Int)) = false)) := by unfold Path; kernel_rfl
theorem b34_TT (start : List UInt8) (lrows : List (List AV)) (bb : List (List AV)) (o : Nat) (m : Nat) (bl : Nat) (rows : List (List AV)) (n : Nat) (k : Int) :
    Path (run Tryz.prog P6s 100 (lbody Tryz.prog 34 0) (SL.mp 66 ([.as_ true, .as_ true]) (b34I start lrows bb o m bl rows n k))) 5 [] (SL.mk [(2, AV.ptr (Loc.mk 1 0 0)), (3, AV.int IntKind.i64 (4 : Int))] [(1, Blk.cells true [Kd.str, Kd.any, Kd.any] [[AV.str [], AV.nilSl, AV.nilSl]])] 5) (Ex.ret)
      (((((((((((True ∧ (decide (k < (↑m : Int)) = true)) ∧ (decide ((0 : Int) ≤ k ∧ k < (↑m : Int)) = true)) ∧ (decide (o + Int.toNat k < List.length lrows) = true)) ∧ (decide (List.length (AV.toStr (List.getD (List.getD lrows (o + Int.toNat k) []) (0) AV.undef)) < 4294967281) = true)) ∧ ((!spFound (AV.toStr (List.getD (List.getD lrows (o + Int.toNat k) []) (0) AV.undef)) [(58 : UInt8), (32 : UInt8)]) = true)) ∧ (true = true)) ∧ (true = true)) ∧ (true = true)) ∧ (true = true)) ∧ (true = true)) ∧ (true = true)) := by unfold Path; kernel_rfl
theorem b34_TF (start : List UInt8) (lrows : List (List AV)) (bb : List (List AV)) (o : Nat) (m : Nat) (bl : Nat) (rows : List (List AV)) (n : Nat) (k : Int) :
    Path (run Tryz.prog P6s 100 (lbody Tryz.prog 34 0) (SL.mp 66 ([.as_ true, .as_ false]) (b34I start lrows bb o m bl rows n k))) 5 [7] (b34I (start) (lrows) (bb) (o) (m) (bl) (rows ++ [[AV.str (spBefore (AV.toStr (List.getD (List.getD lrows (o + Int.toNat k) []) (0) AV.undef)) [(58 : UInt8), (32 : UInt8)]), AV.str (spAfter (AV.toStr (List.getD (List.getD lrows (o + Int.toNat k) []) (0) AV.undef)) [(58 : UInt8), (32 : UInt8)])]]) (n + 1) (IntKind.wrap IntKind.i64 (k + (1 : Int)))) (Ex.normal)
      (((((((((((True ∧ (decide (k < (↑m : Int)) = true)) ∧ (decide ((0 : Int) ≤ k ∧ k < (↑m : Int)) = true)) ∧ (decide (o + Int.toNat k < List.length lrows) = true)) ∧ (decide (List.length (AV.toStr (List.getD (List.getD lrows (o + Int.toNat k) []) (0) AV.undef)) < 4294967281) = true)) ∧ ((!spFound (AV.toStr (List.getD (List.getD lrows (o + Int.toNat k) []) (0) AV.undef)) [(58 : UInt8), (32 : UInt8)]) = false)) ∧ (true = true)) ∧ (true = true)) ∧ (decide (0 = 0 ∧ n = List.length rows) = true)) ∧ (decide ((n + 1) * 32 ≤ 140737488355328) = true)) ∧ (true = true)) ∧ (true = true)) := by unfold Path; kernel_rfl
theorem b34_F (start : List UInt8) (lrows : List (List AV)) (bb : List (List AV)) (o : Nat) (m : Nat) (bl : Nat) (rows : List (List AV)) (n : Nat) (k : Int) :
    Path (run Tryz.prog P6s 100 (lbody Tryz.prog 34 0) (SL.mp 66 ([.as_ false]) (b34I start lrows bb o m bl rows n k))) 5 [5] (b34I (start) (lrows) (bb) (o) (m) (bl) (rows) (n) (k)) (Ex.exit 0)
      (True ∧ (decide (k < (↑m : Int)) = false)) := by unfold Path; kernel_rfl
theorem c34r_T (brows : List (List AV)) :
    Path (runCallB Tryz.prog P6s 100 34 [AV.slq 0 (List.length brows)] (st0 [Blk.cells false [Kd.int IntKind.u8] brows] ([.as_ true]))) 1 [] (SL.mk [] [] 1) (Out.ret (AV.tup [AV.agg [AV.str [], AV.nilSl, AV.nilSl], AV.int IntKind.i64 (8 : Int)]))
      ((((((((True ∧ (decide ((↑(List.length brows) : Int) > (4096 : Int)) = true)) ∧ (true = true)) ∧ (true = true)) ∧ (true = true)) ∧ (true = true)) ∧ (true = true)) ∧ (true = true)) ∧ (true = true)) := by unfold Path; kernel_rfl
theorem c34r_FT (brows : List (List AV)) :
    Path (runCallB Tryz.prog P6s 100 34 [AV.slq 0 (List.length brows)] (st0 [Blk.cells false [Kd.int IntKind.u8] brows] ([.as_ false, .as_ true]))) 1 [] (SL.mk [] [] 1) (Out.ret (AV.tup [AV.agg [AV.str [], AV.nilSl, AV.nilSl], AV.int IntKind.i64 (4 : Int)]))
      (((((((((((True ∧ (decide ((↑(List.length brows) : Int) > (4096 : Int)) = false)) ∧ (decide (0 + List.length brows ≤ List.length brows) = true)) ∧ (decide (List.length (List.map rowByte (sub brows 0 (List.length brows))) < 4294967281) = true)) ∧ ((!spFound (List.map rowByte (sub brows 0 (List.length brows))) [(13 : UInt8), (10 : UInt8), (13 : UInt8), (10 : UInt8)]) = true)) ∧ (true = true)) ∧ (true = true)) ∧ (true = true)) ∧ (true = true)) ∧ (true = true)) ∧ (true = true)) ∧ (true = true)) := by unfold Path; kernel_rfl
theorem c34r_FFL (brows : List (List AV)) :
    Path (runCallB Tryz.prog P6s 100 34 [AV.slq 0 (List.length brows)] (st0 [Blk.cells false [Kd.int IntKind.u8] brows] ([.as_ false, .as_ false, PI.loop (b34zI (AV.toStr (List.getD (List.getD (spStrRows (spSplit (spBefore (List.map rowByte (sub brows 0 (List.length brows))) [(13 : UInt8), (10 : UInt8), (13 : UInt8), (10 : UInt8)]))) 0 []) 0 AV.undef)) (spStrRows (spSplit (spBefore (List.map rowByte (sub brows 0 (List.length brows))) [(13 : UInt8), (10 : UInt8), (13 : UInt8), (10 : UInt8)]))) (List.map byteRow (spAfter (List.map rowByte (sub brows 0 (List.length brows))) [(13 : UInt8), (10 : UInt8), (13 : UInt8), (10 : UInt8)])) (cutI (some (AV.int IntKind.i64 (1 : Int))) (↑(List.length (spStrRows (spSplit (spBefore (List.map rowByte (sub brows 0 (List.length brows))) [(13 : UInt8), (10 : UInt8), (13 : UInt8), (10 : UInt8)])))) : Int) (1 : Int) 0) (Int.toNat (↑(List.length (spStrRows (spSplit (spBefore (List.map rowByte (sub brows 0 (List.length brows))) [(13 : UInt8), (10 : UInt8), (13 : UInt8), (10 : UInt8)])))) : Int) - 1) (List.length (spAfter (List.map rowByte (sub brows 0 (List.length brows))) [(13 : UInt8), (10 : UInt8), (13 : UInt8), (10 : UInt8)]))) Ex.ret (SL.mk [(2, AV.ptr (Loc.mk 1 0 0)), (3, AV.int IntKind.i64 (4 : Int))] [(1, Blk.cells true [Kd.str, Kd.any, Kd.any] [[AV.str [], AV.nilSl, AV.nilSl]])] 5)]))) 1 [] (SL.mk [] [] 1) (Out.ret (AV.tup [AV.agg [AV.str [], AV.nilSl, AV.nilSl], AV.int IntKind.i64 (4 : Int)]))
      ((((((((((((((((True ∧ (decide ((↑(List.length brows) : Int) > (4096 : Int)) = false)) ∧ (decide (0 + List.length brows ≤ List.length brows) = true)) ∧ (decide (List.length (List.map rowByte (sub brows 0 (List.length brows))) < 4294967281) = true)) ∧ ((!spFound (List.map rowByte (sub brows 0 (List.length brows))) [(13 : UInt8), (10 : UInt8), (13 : UInt8), (10 : UInt8)]) = false)) ∧ (decide (List.length (spBefore (List.map rowByte (sub brows 0 (List.length brows))) [(13 : UInt8), (10 : UInt8), (13 : UInt8), (10 : UInt8)]) < 4294967281 ∧ [(13 : UInt8), (10 : UInt8)] = crlf) = true)) ∧ (decide ((0 : Int) ≤ (0 : Int) ∧ (0 : Int) < (↑(List.length (spStrRows (spSplit (spBefore (List.map rowByte (sub brows 0 (List.length brows))) [(13 : UInt8), (10 : UInt8), (13 : UInt8), (10 : UInt8)])))) : Int)) = true)) ∧ (decide (0 < List.length (spStrRows (spSplit (spBefore (List.map rowByte (sub brows 0 (List.length brows))) [(13 : UInt8), (10 : UInt8), (13 : UInt8), (10 : UInt8)])))) = true)) ∧ (true = true)) ∧ (true = true)) ∧ (true = true)) ∧ (true = true)) ∧ (true = true)) ∧ (true = true)) ∧ (decide ((0 : Int) ≤ (1 : Int) ∧ (1 : Int) ≤ (↑(List.length (spStrRows (spSplit (spBefore (List.map rowByte (sub brows 0 (List.length brows))) [(13 : UInt8), (10 : UInt8), (13 : UInt8), (10 : UInt8)])))) : Int) ∧ (↑(List.length (spStrRows (spSplit (spBefore (List.map rowByte (sub brows 0 (List.length brows))) [(13 : UInt8), (10 : UInt8), (13 : UInt8), (10 : UInt8)])))) : Int) ≤ (↑(List.length (spStrRows (spSplit (spBefore (List.map rowByte (sub brows 0 (List.length brows))) [(13 : UInt8), (10 : UInt8), (13 : UInt8), (10 : UInt8)])))) : Int) ∧ (↑(List.length (spStrRows (spSplit (spBefore (List.map rowByte (sub brows 0 (List.length brows))) [(13 : UInt8), (10 : UInt8), (13 : UInt8), (10 : UInt8)])))) : Int) ≤ (↑(List.length (spStrRows (spSplit (spBefore (List.map rowByte (sub brows 0 (List.length brows))) [(13 : UInt8), (10 : UInt8), (13 : UInt8), (10 : UInt8)])))) : Int)) = true)) ∧ (LoopOK Tryz.prog (lbody Tryz.prog 34 0) (66) (SL.mk [(2, AV.ptr (Loc.mk 1 0 0)), (8, AV.ptr (Loc.mk 4 0 0)), (37, AV.sl (Loc.mk 2 (cutI (some (AV.int IntKind.i64 (1 : Int))) (↑(List.length (spStrRows (spSplit (spBefore (List.map rowByte (sub brows 0 (List.length brows))) [(13 : UInt8), (10 : UInt8), (13 : UInt8), (10 : UInt8)])))) : Int) (1 : Int) 0) 0) (Int.toNat (↑(List.length (spStrRows (spSplit (spBefore (List.map rowByte (sub brows 0 (List.length brows))) [(13 : UInt8), (10 : UInt8), (13 : UInt8), (10 : UInt8)])))) : Int) - 1) (Cap.known (Int.toNat (↑(List.length (spStrRows (spSplit (spBefore (List.map rowByte (sub brows 0 (List.length brows))) [(13 : UInt8), (10 : UInt8), (13 : UInt8), (10 : UInt8)])))) : Int) - 1))), (38, AV.int IntKind.i64 (↑(Int.toNat (↑(List.length (spStrRows (spSplit (spBefore (List.map rowByte (sub brows 0 (List.length brows))) [(13 : UInt8), (10 : UInt8), (13 : UInt8), (10 : UInt8)])))) : Int) - 1) : Int)), (39, AV.int IntKind.i64 (0 : Int))] [(1, Blk.cells true [Kd.str, Kd.any, Kd.any] [[AV.str [], AV.nilSl, AV.nilSl]]), (2, Blk.cells false [Kd.str] (spStrRows (spSplit (spBefore (List.map rowByte (sub brows 0 (List.length brows))) [(13 : UInt8), (10 : UInt8), (13 : UInt8), (10 : UInt8)])))), (3, Blk.cells true [Kd.int IntKind.u8] (List.map byteRow (spAfter (List.map rowByte (sub brows 0 (List.length brows))) [(13 : UInt8), (10 : UInt8), (13 : UInt8), (10 : UInt8)]))), (4, Blk.cells true [Kd.str, Kd.any, Kd.any] [[AV.str (AV.toStr (List.getD (List.getD (spStrRows (spSplit (spBefore (List.map rowByte (sub brows 0 (List.length brows))) [(13 : UInt8), (10 : UInt8), (13 : UInt8), (10 : UInt8)]))) 0 []) 0 AV.undef)), AV.nilSl, AV.sl (Loc.mk 3 0 0) (List.length (spAfter (List.map rowByte (sub brows 0 (List.length brows))) [(13 : UInt8), (10 : UInt8), (13 : UInt8), (10 : UInt8)])) Cap.open_]])] 5) Ex.ret (SL.mk [(2, AV.ptr (Loc.mk 1 0 0)), (3, AV.int IntKind.i64 (4 : Int))] [(1, Blk.cells true [Kd.str, Kd.any, Kd.any] [[AV.str [], AV.nilSl, AV.nilSl]])] 5))) ∧ (true = true)) := by unfold Path; kernel_rfl
theorem c34z_FFLT (brows : List (List AV)) :
    Path (runCallB Tryz.prog P6s 100 34 [AV.slq 0 (List.length brows)] (st0 [Blk.cells false [Kd.int IntKind.u8] brows] ([.as_ false, .as_ false, PI.loop (b34zI (AV.toStr (List.getD (List.getD (spStrRows (spSplit (spBefore (List.map rowByte (sub brows 0 (List.length brows))) [(13 : UInt8), (10 : UInt8), (13 : UInt8), (10 : UInt8)]))) 0 []) 0 AV.undef)) (spStrRows (spSplit (spBefore (List.map rowByte (sub brows 0 (List.length brows))) [(13 : UInt8), (10 : UInt8), (13 : UInt8), (10 : UInt8)]))) (List.map byteRow (spAfter (List.map rowByte (sub brows 0 (List.length brows))) [(13 : UInt8), (10 : UInt8), (13 : UInt8), (10 : UInt8)])) (cutI (some (AV.int IntKind.i64 (1 : Int))) (↑(List.length (spStrRows (spSplit (spBefore (List.map rowByte (sub brows 0 (List.length brows))) [(13 : UInt8), (10 : UInt8), (13 : UInt8), (10 : UInt8)])))) : Int) (1 : Int) 0) (Int.toNat (↑(List.length (spStrRows (spSplit (spBefore (List.map rowByte (sub brows 0 (List.length brows))) [(13 : UInt8), (10 : UInt8), (13 : UInt8), (10 : UInt8)])))) : Int) - 1) (List.length (spAfter (List.map rowByte (sub brows 0 (List.length brows))) [(13 : UInt8), (10 : UInt8), (13 : UInt8), (10 : UInt8)]))) (Ex.exit 0) (b34zI (AV.toStr (List.getD (List.getD (spStrRows (spSplit (spBefore (List.map rowByte (sub brows 0 (List.length brows))) [(13 : UInt8), (10 : UInt8), (13 : UInt8), (10 : UInt8)]))) 0 []) 0 AV.undef)) (spStrRows (spSplit (spBefore (List.map rowByte (sub brows 0 (List.length brows))) [(13 : UInt8), (10 : UInt8), (13 : UInt8), (10 : UInt8)]))) (List.map byteRow (spAfter (List.map rowByte (sub brows 0 (List.length brows))) [(13 : UInt8), (10 : UInt8), (13 : UInt8), (10 : UInt8)])) (cutI (some (AV.int IntKind.i64 (1 : Int))) (↑(List.length (spStrRows (spSplit (spBefore (List.map rowByte (sub brows 0 (List.length brows))) [(13 : UInt8), (10 : UInt8), (13 : UInt8), (10 : UInt8)])))) : Int) (1 : Int) 0) (Int.toNat (↑(List.length (spStrRows (spSplit (spBefore (List.map rowByte (sub brows 0 (List.length brows))) [(13 : UInt8), (10 : UInt8), (13 : UInt8), (10 : UInt8)])))) : Int) - 1) (List.length (spAfter (List.map rowByte (sub brows 0 (List.length brows))) [(13 : UInt8), (10 : UInt8), (13 : UInt8), (10 : UInt8)]))), .as_ true]))) 1 [] (SL.mk [] [] 1) (Out.ret (AV.tup [AV.agg [AV.str [], AV.nilSl, AV.nilSl], AV.int IntKind.i64 (4 : Int)]))
      (((((((((((((((((((((((((True ∧ (decide ((↑(List.length brows) : Int) > (4096 : Int)) = false)) ∧ (decide (0 + List.length brows ≤ List.length brows) = true)) ∧ (decide (List.length (List.map rowByte (sub brows 0 (List.length brows))) < 4294967281) = true)) ∧ ((!spFound (List.map rowByte (sub brows 0 (List.length brows))) [(13 : UInt8), (10 : UInt8), (13 : UInt8), (10 : UInt8)]) = false)) ∧ (decide (List.length (spBefore (List.map rowByte (sub brows 0 (List.length brows))) [(13 : UInt8), (10 : UInt8), (13 : UInt8), (10 : UInt8)]) < 4294967281 ∧ [(13 : UInt8), (10 : UInt8)] = crlf) = true)) ∧ (decide ((0 : Int) ≤ (0 : Int) ∧ (0 : Int) < (↑(List.length (spStrRows (spSplit (spBefore (List.map rowByte (sub brows 0 (List.length brows))) [(13 : UInt8), (10 : UInt8), (13 : UInt8), (10 : UInt8)])))) : Int)) = true)) ∧ (decide (0 < List.length (spStrRows (spSplit (spBefore (List.map rowByte (sub brows 0 (List.length brows))) [(13 : UInt8), (10 : UInt8), (13 : UInt8), (10 : UInt8)])))) = true)) ∧ (true = true)) ∧ (true = true)) ∧ (true = true)) ∧ (true = true)) ∧ (true = true)) ∧ (true = true)) ∧ (decide ((0 : Int) ≤ (1 : Int) ∧ (1 : Int) ≤ (↑(List.length (spStrRows (spSplit (spBefore (List.map rowByte (sub brows 0 (List.length brows))) [(13 : UInt8), (10 : UInt8), (13 : UInt8), (10 : UInt8)])))) : Int) ∧ (↑(List.length (spStrRows (spSplit (spBefore (List.map rowByte (sub brows 0 (List.length brows))) [(13 : UInt8), (10 : UInt8), (13 : UInt8), (10 : UInt8)])))) : Int) ≤ (↑(List.length (spStrRows (spSplit (spBefore (List.map rowByte (sub brows 0 (List.length brows))) [(13 : UInt8), (10 : UInt8), (13 : UInt8), (10 : UInt8)])))) : Int) ∧ (↑(List.length (spStrRows (spSplit (spBefore (List.map rowByte (sub brows 0 (List.length brows))) [(13 : UInt8), (10 : UInt8), (13 : UInt8), (10 : UInt8)])))) : Int) ≤ (↑(List.length (spStrRows (spSplit (spBefore (List.map rowByte (sub brows 0 (List.length brows))) [(13 : UInt8), (10 : UInt8), (13 : UInt8), (10 : UInt8)])))) : Int)) = true)) ∧ (LoopOK Tryz.prog (lbody Tryz.prog 34 0) (66) (SL.mk [(2, AV.ptr (Loc.mk 1 0 0)), (8, AV.ptr (Loc.mk 4 0 0)), (37, AV.sl (Loc.mk 2 (cutI (some (AV.int IntKind.i64 (1 : Int))) (↑(List.length (spStrRows (spSplit (spBefore (List.map rowByte (sub brows 0 (List.length brows))) [(13 : UInt8), (10 : UInt8), (13 : UInt8), (10 : UInt8)])))) : Int) (1 : Int) 0) 0) (Int.toNat (↑(List.length (spStrRows (spSplit (spBefore (List.map rowByte (sub brows 0 (List.length brows))) [(13 : UInt8), (10 : UInt8), (13 : UInt8), (10 : UInt8)])))) : Int) - 1) (Cap.known (Int.toNat (↑(List.length (spStrRows (spSplit (spBefore (List.map rowByte (sub brows 0 (List.length brows))) [(13 : UInt8), (10 : UInt8), (13 : UInt8), (10 : UInt8)])))) : Int) - 1))), (38, AV.int IntKind.i64 (↑(Int.toNat (↑(List.length (spStrRows (spSplit (spBefore (List.map rowByte (sub brows 0 (List.length brows))) [(13 : UInt8), (10 : UInt8), (13 : UInt8), (10 : UInt8)])))) : Int) - 1) : Int)), (39, AV.int IntKind.i64 (0 : Int))] [(1, Blk.cells true [Kd.str, Kd.any, Kd.any] [[AV.str [], AV.nilSl, AV.nilSl]]), (2, Blk.cells false [Kd.str] (spStrRows (spSplit (spBefore (List.map rowByte (sub brows 0 (List.length brows))) [(13 : UInt8), (10 : UInt8), (13 : UInt8), (10 : UInt8)])))), (3, Blk.cells true [Kd.int IntKind.u8] (List.map byteRow (spAfter (List.map rowByte (sub brows 0 (List.length brows))) [(13 : UInt8), (10 : UInt8), (13 : UInt8), (10 : UInt8)]))), (4, Blk.cells true [Kd.str, Kd.any, Kd.any] [[AV.str (AV.toStr (List.getD (List.getD (spStrRows (spSplit (spBefore (List.map rowByte (sub brows 0 (List.length brows))) [(13 : UInt8), (10 : UInt8), (13 : UInt8), (10 : UInt8)]))) 0 []) 0 AV.undef)), AV.nilSl, AV.sl (Loc.mk 3 0 0) (List.length (spAfter (List.map rowByte (sub brows 0 (List.length brows))) [(13 : UInt8), (10 : UInt8), (13 : UInt8), (10 : UInt8)])) Cap.open_]])] 5) (Ex.exit 0) (SL.mk [(2, AV.ptr (Loc.mk 1 0 0)), (8, AV.ptr (Loc.mk 4 0 0)), (37, AV.sl (Loc.mk 2 (cutI (some (AV.int IntKind.i64 (1 : Int))) (↑(List.length (spStrRows (spSplit (spBefore (List.map rowByte (sub brows 0 (List.length brows))) [(13 : UInt8), (10 : UInt8), (13 : UInt8), (10 : UInt8)])))) : Int) (1 : Int) 0) 0) (Int.toNat (↑(List.length (spStrRows (spSplit (spBefore (List.map rowByte (sub brows 0 (List.length brows))) [(13 : UInt8), (10 : UInt8), (13 : UInt8), (10 : UInt8)])))) : Int) - 1) (Cap.known (Int.toNat (↑(List.length (spStrRows (spSplit (spBefore (List.map rowByte (sub brows 0 (List.length brows))) [(13 : UInt8), (10 : UInt8), (13 : UInt8), (10 : UInt8)])))) : Int) - 1))), (38, AV.int IntKind.i64 (↑(Int.toNat (↑(List.length (spStrRows (spSplit (spBefore (List.map rowByte (sub brows 0 (List.length brows))) [(13 : UInt8), (10 : UInt8), (13 : UInt8), (10 : UInt8)])))) : Int) - 1) : Int)), (39, AV.int IntKind.i64 (0 : Int))] [(1, Blk.cells true [Kd.str, Kd.any, Kd.any] [[AV.str [], AV.nilSl, AV.nilSl]]), (2, Blk.cells false [Kd.str] (spStrRows (spSplit (spBefore (List.map rowByte (sub brows 0 (List.length brows))) [(13 : UInt8), (10 : UInt8), (13 : UInt8), (10 : UInt8)])))), (3, Blk.cells true [Kd.int IntKind.u8] (List.map byteRow (spAfter (List.map rowByte (sub brows 0 (List.length brows))) [(13 : UInt8), (10 : UInt8), (13 : UInt8), (10 : UInt8)]))), (4, Blk.cells true [Kd.str, Kd.any, Kd.any] [[AV.str (AV.toStr (List.getD (List.getD (spStrRows (spSplit (spBefore (List.map rowByte (sub brows 0 (List.length brows))) [(13 : UInt8), (10 : UInt8), (13 : UInt8), (10 : UInt8)]))) 0 []) 0 AV.undef)), AV.nilSl, AV.sl (Loc.mk 3 0 0) (List.length (spAfter (List.map rowByte (sub brows 0 (List.length brows))) [(13 : UInt8), (10 : UInt8), (13 : UInt8), (10 : UInt8)])) Cap.open_]])] 5))) ∧ (true = true)) ∧ ((true && (decide (0 + List.length (spAfter (List.map rowByte (sub brows 0 (List.length brows))) [(13 : UInt8), (10 : UInt8), (13 : UInt8), (10 : UInt8)]) ≤ List.length (List.map byteRow (spAfter (List.map rowByte (sub brows 0 (List.length brows))) [(13 : UInt8), (10 : UInt8), (13 : UInt8), (10 : UInt8)]))) && decide (List.length (AV.toStr (List.getD (List.getD (spStrRows (spSplit (spBefore (List.map rowByte (sub brows 0 (List.length brows))) [(13 : UInt8), (10 : UInt8), (13 : UInt8), (10 : UInt8)]))) 0 []) 0 AV.undef)) ≤ 4294967200 ∧ true = true ∧ List.length (sub (List.map byteRow (spAfter (List.map rowByte (sub brows 0 (List.length brows))) [(13 : UInt8), (10 : UInt8), (13 : UInt8), (10 : UInt8)])) 0 (List.length (spAfter (List.map rowByte (sub brows 0 (List.length brows))) [(13 : UInt8), (10 : UInt8), (13 : UInt8), (10 : UInt8)]))) ≤ 140737488355328))) = true)) ∧ ((!spRight (AV.toStr (List.getD (List.getD (spStrRows (spSplit (spBefore (List.map rowByte (sub brows 0 (List.length brows))) [(13 : UInt8), (10 : UInt8), (13 : UInt8), (10 : UInt8)]))) 0 []) 0 AV.undef)) [] (List.length (sub (List.map byteRow (spAfter (List.map rowByte (sub brows 0 (List.length brows))) [(13 : UInt8), (10 : UInt8), (13 : UInt8), (10 : UInt8)])) 0 (List.length (spAfter (List.map rowByte (sub brows 0 (List.length brows))) [(13 : UInt8), (10 : UInt8), (13 : UInt8), (10 : UInt8)]))))) = true)) ∧ (true = true)) ∧ (true = true)) ∧ (true = true)) ∧ (true = true)) ∧ (true = true)) ∧ (true = true)) ∧ (true = true)) := by unfold Path; kernel_rfl
theorem c34i_FFLT (brows : List (List AV)) (rows : List (List AV)) (n : Nat) :
    Path (runCallB Tryz.prog P6s 100 34 [AV.slq 0 (List.length brows)] (st0 [Blk.cells false [Kd.int IntKind.u8] brows] ([.as_ false, .as_ false, PI.loop (b34zI (AV.toStr (List.getD (List.getD (spStrRows (spSplit (spBefore (List.map rowByte (sub brows 0 (List.length brows))) [(13 : UInt8), (10 : UInt8), (13 : UInt8), (10 : UInt8)]))) 0 []) 0 AV.undef)) (spStrRows (spSplit (spBefore (List.map rowByte (sub brows 0 (List.length brows))) [(13 : UInt8), (10 : UInt8), (13 : UInt8), (10 : UInt8)]))) (List.map byteRow (spAfter (List.map rowByte (sub brows 0 (List.length brows))) [(13 : UInt8), (10 : UInt8), (13 : UInt8), (10 : UInt8)])) (cutI (some (AV.int IntKind.i64 (1 : Int))) (↑(List.length (spStrRows (spSplit (spBefore (List.map rowByte (sub brows 0 (List.length brows))) [(13 : UInt8), (10 : UInt8), (13 : UInt8), (10 : UInt8)])))) : Int) (1 : Int) 0) (Int.toNat (↑(List.length (spStrRows (spSplit (spBefore (List.map rowByte (sub brows 0 (List.length brows))) [(13 : UInt8), (10 : UInt8), (13 : UInt8), (10 : UInt8)])))) : Int) - 1) (List.length (spAfter (List.map rowByte (sub brows 0 (List.length brows))) [(13 : UInt8), (10 : UInt8), (13 : UInt8), (10 : UInt8)]))) (Ex.exit 0) (b34I (AV.toStr (List.getD (List.getD (spStrRows (spSplit (spBefore (List.map rowByte (sub brows 0 (List.length brows))) [(13 : UInt8), (10 : UInt8), (13 : UInt8), (10 : UInt8)]))) 0 []) 0 AV.undef)) (spStrRows (spSplit (spBefore (List.map rowByte (sub brows 0 (List.length brows))) [(13 : UInt8), (10 : UInt8), (13 : UInt8), (10 : UInt8)]))) (List.map byteRow (spAfter (List.map rowByte (sub brows 0 (List.length brows))) [(13 : UInt8), (10 : UInt8), (13 : UInt8), (10 : UInt8)])) (cutI (some (AV.int IntKind.i64 (1 : Int))) (↑(List.length (spStrRows (spSplit (spBefore (List.map rowByte (sub brows 0 (List.length brows))) [(13 : UInt8), (10 : UInt8), (13 : UInt8), (10 : UInt8)])))) : Int) (1 : Int) 0) (Int.toNat (↑(List.length (spStrRows (spSplit (spBefore (List.map rowByte (sub brows 0 (List.length brows))) [(13 : UInt8), (10 : UInt8), (13 : UInt8), (10 : UInt8)])))) : Int) - 1) (List.length (spAfter (List.map rowByte (sub brows 0 (List.length brows))) [(13 : UInt8), (10 : UInt8), (13 : UInt8), (10 : UInt8)])) rows n (↑(Int.toNat (↑(List.length (spStrRows (spSplit (spBefore (List.map rowByte (sub brows 0 (List.length brows))) [(13 : UInt8), (10 : UInt8), (13 : UInt8), (10 : UInt8)])))) : Int) - 1) : Int)), .as_ true]))) 1 [] (SL.mk [] [] 1) (Out.ret (AV.tup [AV.agg [AV.str [], AV.nilSl, AV.nilSl], AV.int IntKind.i64 (4 : Int)]))
      (((((((((((((((((((((((((True ∧ (decide ((↑(List.length brows) : Int) > (4096 : Int)) = false)) ∧ (decide (0 + List.length brows ≤ List.length brows) = true)) ∧ (decide (List.length (List.map rowByte (sub brows 0 (List.length brows))) < 4294967281) = true)) ∧ ((!spFound (List.map rowByte (sub brows 0 (List.length brows))) [(13 : UInt8), (10 : UInt8), (13 : UInt8), (10 : UInt8)]) = false)) ∧ (decide (List.length (spBefore (List.map rowByte (sub brows 0 (List.length brows))) [(13 : UInt8), (10 : UInt8), (13 : UInt8), (10 : UInt8)]) < 4294967281 ∧ [(13 : UInt8), (10 : UInt8)] = crlf) = true)) ∧ (decide ((0 : Int) ≤ (0 : Int) ∧ (0 : Int) < (↑(List.length (spStrRows (spSplit (spBefore (List.map rowByte (sub brows 0 (List.length brows))) [(13 : UInt8), (10 : UInt8), (13 : UInt8), (10 : UInt8)])))) : Int)) = true)) ∧ (decide (0 < List.length (spStrRows (spSplit (spBefore (List.map rowByte (sub brows 0 (List.length brows))) [(13 : UInt8), (10 : UInt8), (13 : UInt8), (10 : UInt8)])))) = true)) ∧ (true = true)) ∧ (true = true)) ∧ (true = true)) ∧ (true = true)) ∧ (true = true)) ∧ (true = true)) ∧ (decide ((0 : Int) ≤ (1 : Int) ∧ (1 : Int) ≤ (↑(List.length (spStrRows (spSplit (spBefore (List.map rowByte (sub brows 0 (List.length brows))) [(13 : UInt8), (10 : UInt8), (13 : UInt8), (10 : UInt8)])))) : Int) ∧ (↑(List.length (spStrRows (spSplit (spBefore (List.map rowByte (sub brows 0 (List.length brows))) [(13 : UInt8), (10 : UInt8), (13 : UInt8), (10 : UInt8)])))) : Int) ≤ (↑(List.length (spStrRows (spSplit (spBefore (List.map rowByte (sub brows 0 (List.length brows))) [(13 : UInt8), (10 : UInt8), (13 : UInt8), (10 : UInt8)])))) : Int) ∧ (↑(List.length (spStrRows (spSplit (spBefore (List.map rowByte (sub brows 0 (List.length brows))) [(13 : UInt8), (10 : UInt8), (13 : UInt8), (10 : UInt8)])))) : Int) ≤ (↑(List.length (spStrRows (spSplit (spBefore (List.map rowByte (sub brows 0 (List.length brows))) [(13 : UInt8), (10 : UInt8), (13 : UInt8), (10 : UInt8)])))) : Int)) = true)) ∧ (LoopOK Tryz.prog (lbody Tryz.prog 34 0) (66) (SL.mk [(2, AV.ptr (Loc.mk 1 0 0)), (8, AV.ptr (Loc.mk 4 0 0)), (37, AV.sl (Loc.mk 2 (cutI (some (AV.int IntKind.i64 (1 : Int))) (↑(List.length (spStrRows (spSplit (spBefore (List.map rowByte (sub brows 0 (List.length brows))) [(13 : UInt8), (10 : UInt8), (13 : UInt8), (10 : UInt8)])))) : Int) (1 : Int) 0) 0) (Int.toNat (↑(List.length (spStrRows (spSplit (spBefore (List.map rowByte (sub brows 0 (List.length brows))) [(13 : UInt8), (10 : UInt8), (13 : UInt8), (10 : UInt8)])))) : Int) - 1) (Cap.known (Int.toNat (↑(List.length (spStrRows (spSplit (spBefore (List.map rowByte (sub brows 0 (List.length brows))) [(13 : UInt8), (10 : UInt8), (13 : UInt8), (10 : UInt8)])))) : Int) - 1))), (38, AV.int IntKind.i64 (↑(Int.toNat (↑(List.length (spStrRows (spSplit (spBefore (List.map rowByte (sub brows 0 (List.length brows))) [(13 : UInt8), (10 : UInt8), (13 : UInt8), (10 : UInt8)])))) : Int) - 1) : Int)), (39, AV.int IntKind.i64 (0 : Int))] [(1, Blk.cells true [Kd.str, Kd.any, Kd.any] [[AV.str [], AV.nilSl, AV.nilSl]]), (2, Blk.cells false [Kd.str] (spStrRows (spSplit (spBefore (List.map rowByte (sub brows 0 (List.length brows))) [(13 : UInt8), (10 : UInt8), (13 : UInt8), (10 : UInt8)])))), (3, Blk.cells true [Kd.int IntKind.u8] (List.map byteRow (spAfter (List.map rowByte (sub brows 0 (List.length brows))) [(13 : UInt8), (10 : UInt8), (13 : UInt8), (10 : UInt8)]))), (4, Blk.cells true [Kd.str, Kd.any, Kd.any] [[AV.str (AV.toStr (List.getD (List.getD (spStrRows (spSplit (spBefore (List.map rowByte (sub brows 0 (List.length brows))) [(13 : UInt8), (10 : UInt8), (13 : UInt8), (10 : UInt8)]))) 0 []) 0 AV.undef)), AV.nilSl, AV.sl (Loc.mk 3 0 0) (List.length (spAfter (List.map rowByte (sub brows 0 (List.length brows))) [(13 : UInt8), (10 : UInt8), (13 : UInt8), (10 : UInt8)])) Cap.open_]])] 5) (Ex.exit 0) (SL.mk [(2, AV.ptr (Loc.mk 1 0 0)), (8, AV.ptr (Loc.mk 4 0 0)), (37, AV.sl (Loc.mk 2 (cutI (some (AV.int IntKind.i64 (1 : Int))) (↑(List.length (spStrRows (spSplit (spBefore (List.map rowByte (sub brows 0 (List.length brows))) [(13 : UInt8), (10 : UInt8), (13 : UInt8), (10 : UInt8)])))) : Int) (1 : Int) 0) 0) (Int.toNat (↑(List.length (spStrRows (spSplit (spBefore (List.map rowByte (sub brows 0 (List.length brows))) [(13 : UInt8), (10 : UInt8), (13 : UInt8), (10 : UInt8)])))) : Int) - 1) (Cap.known (Int.toNat (↑(List.length (spStrRows (spSplit (spBefore (List.map rowByte (sub brows 0 (List.length brows))) [(13 : UInt8), (10 : UInt8), (13 : UInt8), (10 : UInt8)])))) : Int) - 1))), (38, AV.int IntKind.i64 (↑(Int.toNat (↑(List.length (spStrRows (spSplit (spBefore (List.map rowByte (sub brows 0 (List.length brows))) [(13 : UInt8), (10 : UInt8), (13 : UInt8), (10 : UInt8)])))) : Int) - 1) : Int)), (39, AV.int IntKind.i64 (↑(Int.toNat (↑(List.length (spStrRows (spSplit (spBefore (List.map rowByte (sub brows 0 (List.length brows))) [(13 : UInt8), (10 : UInt8), (13 : UInt8), (10 : UInt8)])))) : Int) - 1) : Int))] [(1, Blk.cells true [Kd.str, Kd.any, Kd.any] [[AV.str [], AV.nilSl, AV.nilSl]]), (2, Blk.cells false [Kd.str] (spStrRows (spSplit (spBefore (List.map rowByte (sub brows 0 (List.length brows))) [(13 : UInt8), (10 : UInt8), (13 : UInt8), (10 : UInt8)])))), (3, Blk.cells true [Kd.int IntKind.u8] (List.map byteRow (spAfter (List.map rowByte (sub brows 0 (List.length brows))) [(13 : UInt8), (10 : UInt8), (13 : UInt8), (10 : UInt8)]))), (4, Blk.cells true [Kd.str, Kd.any, Kd.any] [[AV.str (AV.toStr (List.getD (List.getD (spStrRows (spSplit (spBefore (List.map rowByte (sub brows 0 (List.length brows))) [(13 : UInt8), (10 : UInt8), (13 : UInt8), (10 : UInt8)]))) 0 []) 0 AV.undef)), AV.sl (Loc.mk 5 0 0) n Cap.open_, AV.sl (Loc.mk 3 0 0) (List.length (spAfter (List.map rowByte (sub brows 0 (List.length brows))) [(13 : UInt8), (10 : UInt8), (13 : UInt8), (10 : UInt8)])) Cap.open_]]), (5, Blk.cells true [Kd.str, Kd.str] rows)] 6))) ∧ (true = true)) ∧ ((decide (0 + n ≤ List.length rows) && (decide (0 + List.length (spAfter (List.map rowByte (sub brows 0 (List.length brows))) [(13 : UInt8), (10 : UInt8), (13 : UInt8), (10 : UInt8)]) ≤ List.length (List.map byteRow (spAfter (List.map rowByte (sub brows 0 (List.length brows))) [(13 : UInt8), (10 : UInt8), (13 : UInt8), (10 : UInt8)]))) && decide (List.length (AV.toStr (List.getD (List.getD (spStrRows (spSplit (spBefore (List.map rowByte (sub brows 0 (List.length brows))) [(13 : UInt8), (10 : UInt8), (13 : UInt8), (10 : UInt8)]))) 0 []) 0 AV.undef)) ≤ 4294967200 ∧ List.all (sub rows 0 n) short = true ∧ List.length (sub (List.map byteRow (spAfter (List.map rowByte (sub brows 0 (List.length brows))) [(13 : UInt8), (10 : UInt8), (13 : UInt8), (10 : UInt8)])) 0 (List.length (spAfter (List.map rowByte (sub brows 0 (List.length brows))) [(13 : UInt8), (10 : UInt8), (13 : UInt8), (10 : UInt8)]))) ≤ 140737488355328))) = true)) ∧ ((!spRight (AV.toStr (List.getD (List.getD (spStrRows (spSplit (spBefore (List.map rowByte (sub brows 0 (List.length brows))) [(13 : UInt8), (10 : UInt8), (13 : UInt8), (10 : UInt8)]))) 0 []) 0 AV.undef)) (sub rows 0 n) (List.length (sub (List.map byteRow (spAfter (List.map rowByte (sub brows 0 (List.length brows))) [(13 : UInt8), (10 : UInt8), (13 : UInt8), (10 : UInt8)])) 0 (List.length (spAfter (List.map rowByte (sub brows 0 (List.length brows))) [(13 : UInt8), (10 : UInt8), (13 : UInt8), (10 : UInt8)]))))) = true)) ∧ (true = true)) ∧ (true = true)) ∧ (true = true)) ∧ (true = true)) ∧ (true = true)) ∧ (true = true)) ∧ (true = true)) := by unfold Path; kernel_rfl
theorem c34i_FFLF (brows : List (List AV)) (rows : List (List AV)) (n : Nat) :
    Path (runCallB Tryz.prog P6s 100 34 [AV.slq 0 (List.length brows)] (st0 [Blk.cells false [Kd.int IntKind.u8] brows] ([.as_ false, .as_ false, PI.loop (b34zI (AV.toStr (List.getD (List.getD (spStrRows (spSplit (spBefore (List.map rowByte (sub brows 0 (List.length brows))) [(13 : UInt8), (10 : UInt8), (13 : UInt8), (10 : UInt8)]))) 0 []) 0 AV.undef)) (spStrRows (spSplit (spBefore (List.map rowByte (sub brows 0 (List.length brows))) [(13 : UInt8), (10 : UInt8), (13 : UInt8), (10 : UInt8)]))) (List.map byteRow (spAfter (List.map rowByte (sub brows 0 (List.length brows))) [(13 : UInt8), (10 : UInt8), (13 : UInt8), (10 : UInt8)])) (cutI (some (AV.int IntKind.i64 (1 : Int))) (↑(List.length (spStrRows (spSplit (spBefore (List.map rowByte (sub brows 0 (List.length brows))) [(13 : UInt8), (10 : UInt8), (13 : UInt8), (10 : UInt8)])))) : Int) (1 : Int) 0) (Int.toNat (↑(List.length (spStrRows (spSplit (spBefore (List.map rowByte (sub brows 0 (List.length brows))) [(13 : UInt8), (10 : UInt8), (13 : UInt8), (10 : UInt8)])))) : Int) - 1) (List.length (spAfter (List.map rowByte (sub brows 0 (List.length brows))) [(13 : UInt8), (10 : UInt8), (13 : UInt8), (10 : UInt8)]))) (Ex.exit 0) (b34I (AV.toStr (List.getD (List.getD (spStrRows (spSplit (spBefore (List.map rowByte (sub brows 0 (List.length brows))) [(13 : UInt8), (10 : UInt8), (13 : UInt8), (10 : UInt8)]))) 0 []) 0 AV.undef)) (spStrRows (spSplit (spBefore (List.map rowByte (sub brows 0 (List.length brows))) [(13 : UInt8), (10 : UInt8), (13 : UInt8), (10 : UInt8)]))) (List.map byteRow (spAfter (List.map rowByte (sub brows 0 (List.length brows))) [(13 : UInt8), (10 : UInt8), (13 : UInt8), (10 : UInt8)])) (cutI (some (AV.int IntKind.i64 (1 : Int))) (↑(List.length (spStrRows (spSplit (spBefore (List.map rowByte (sub brows 0 (List.length brows))) [(13 : UInt8), (10 : UInt8), (13 : UInt8), (10 : UInt8)])))) : Int) (1 : Int) 0) (Int.toNat (↑(List.length (spStrRows (spSplit (spBefore (List.map rowByte (sub brows 0 (List.length brows))) [(13 : UInt8), (10 : UInt8), (13 : UInt8), (10 : UInt8)])))) : Int) - 1) (List.length (spAfter (List.map rowByte (sub brows 0 (List.length brows))) [(13 : UInt8), (10 : UInt8), (13 : UInt8), (10 : UInt8)])) rows n (↑(Int.toNat (↑(List.length (spStrRows (spSplit (spBefore (List.map rowByte (sub brows 0 (List.length brows))) [(13 : UInt8), (10 : UInt8), (13 : UInt8), (10 : UInt8)])))) : Int) - 1) : Int)), .as_ false]))) 1 [5, 3] (SL.mk [] [(1, .cells true [Kd.str, Kd.str] rows), (2, .cells true [Kd.int IntKind.u8] (List.map byteRow (spAfter (List.map rowByte (sub brows 0 (List.length brows))) [(13 : UInt8), (10 : UInt8), (13 : UInt8), (10 : UInt8)])))] 3) (Out.ret (ren (sig 1 [5, 3]) (AV.tup [AV.agg [AV.str (AV.toStr (List.getD (List.getD (spStrRows (spSplit (spBefore (List.map rowByte (sub brows 0 (List.length brows))) [(13 : UInt8), (10 : UInt8), (13 : UInt8), (10 : UInt8)]))) 0 []) 0 AV.undef)), AV.sl (Loc.mk 1 0 0) n Cap.open_, AV.sl (Loc.mk 2 0 0) (List.length (spAfter (List.map rowByte (sub brows 0 (List.length brows))) [(13 : UInt8), (10 : UInt8), (13 : UInt8), (10 : UInt8)])) Cap.open_], AV.int IntKind.i64 (0 : Int)])))
      ((((((((((((((((((((((((((True ∧ (decide ((↑(List.length brows) : Int) > (4096 : Int)) = false)) ∧ (decide (0 + List.length brows ≤ List.length brows) = true)) ∧ (decide (List.length (List.map rowByte (sub brows 0 (List.length brows))) < 4294967281) = true)) ∧ ((!spFound (List.map rowByte (sub brows 0 (List.length brows))) [(13 : UInt8), (10 : UInt8), (13 : UInt8), (10 : UInt8)]) = false)) ∧ (decide (List.length (spBefore (List.map rowByte (sub brows 0 (List.length brows))) [(13 : UInt8), (10 : UInt8), (13 : UInt8), (10 : UInt8)]) < 4294967281 ∧ [(13 : UInt8), (10 : UInt8)] = crlf) = true)) ∧ (decide ((0 : Int) ≤ (0 : Int) ∧ (0 : Int) < (↑(List.length (spStrRows (spSplit (spBefore (List.map rowByte (sub brows 0 (List.length brows))) [(13 : UInt8), (10 : UInt8), (13 : UInt8), (10 : UInt8)])))) : Int)) = true)) ∧ (decide (0 < List.length (spStrRows (spSplit (spBefore (List.map rowByte (sub brows 0 (List.length brows))) [(13 : UInt8), (10 : UInt8), (13 : UInt8), (10 : UInt8)])))) = true)) ∧ (true = true)) ∧ (true = true)) ∧ (true = true)) ∧ (true = true)) ∧ (true = true)) ∧ (true = true)) ∧ (decide ((0 : Int) ≤ (1 : Int) ∧ (1 : Int) ≤ (↑(List.length (spStrRows (spSplit (spBefore (List.map rowByte (sub brows 0 (List.length brows))) [(13 : UInt8), (10 : UInt8), (13 : UInt8), (10 : UInt8)])))) : Int) ∧ (↑(List.length (spStrRows (spSplit (spBefore (List.map rowByte (sub brows 0 (List.length brows))) [(13 : UInt8), (10 : UInt8), (13 : UInt8), (10 : UInt8)])))) : Int) ≤ (↑(List.length (spStrRows (spSplit (spBefore (List.map rowByte (sub brows 0 (List.length brows))) [(13 : UInt8), (10 : UInt8), (13 : UInt8), (10 : UInt8)])))) : Int) ∧ (↑(List.length (spStrRows (spSplit (spBefore (List.map rowByte (sub brows 0 (List.length brows))) [(13 : UInt8), (10 : UInt8), (13 : UInt8), (10 : UInt8)])))) : Int) ≤ (↑(List.length (spStrRows (spSplit (spBefore (List.map rowByte (sub brows 0 (List.length brows))) [(13 : UInt8), (10 : UInt8), (13 : UInt8), (10 : UInt8)])))) : Int)) = true)) ∧ (LoopOK Tryz.prog (lbody Tryz.prog 34 0) (66) (SL.mk [(2, AV.ptr (Loc.mk 1 0 0)), (8, AV.ptr (Loc.mk 4 0 0)), (37, AV.sl (Loc.mk 2 (cutI (some (AV.int IntKind.i64 (1 : Int))) (↑(List.length (spStrRows (spSplit (spBefore (List.map rowByte (sub brows 0 (List.length brows))) [(13 : UInt8), (10 : UInt8), (13 : UInt8), (10 : UInt8)])))) : Int) (1 : Int) 0) 0) (Int.toNat (↑(List.length (spStrRows (spSplit (spBefore (List.map rowByte (sub brows 0 (List.length brows))) [(13 : UInt8), (10 : UInt8), (13 : UInt8), (10 : UInt8)])))) : Int) - 1) (Cap.known (Int.toNat (↑(List.length (spStrRows (spSplit (spBefore (List.map rowByte (sub brows 0 (List.length brows))) [(13 : UInt8), (10 : UInt8), (13 : UInt8), (10 : UInt8)])))) : Int) - 1))), (38, AV.int IntKind.i64 (↑(Int.toNat (↑(List.length (spStrRows (spSplit (spBefore (List.map rowByte (sub brows 0 (List.length brows))) [(13 : UInt8), (10 : UInt8), (13 : UInt8), (10 : UInt8)])))) : Int) - 1) : Int)), (39, AV.int IntKind.i64 (0 : Int))] [(1, Blk.cells true [Kd.str, Kd.any, Kd.any] [[AV.str [], AV.nilSl, AV.nilSl]]), (2, Blk.cells false [Kd.str] (spStrRows (spSplit (spBefore (List.map rowByte (sub brows 0 (List.length brows))) [(13 : UInt8), (10 : UInt8), (13 : UInt8), (10 : UInt8)])))), (3, Blk.cells true [Kd.int IntKind.u8] (List.map byteRow (spAfter (List.map rowByte (sub brows 0 (List.length brows))) [(13 : UInt8), (10 : UInt8), (13 : UInt8), (10 : UInt8)]))), (4, Blk.cells true [Kd.str, Kd.any, Kd.any] [[AV.str (AV.toStr (List.getD (List.getD (spStrRows (spSplit (spBefore (List.map rowByte (sub brows 0 (List.length brows))) [(13 : UInt8), (10 : UInt8), (13 : UInt8), (10 : UInt8)]))) 0 []) 0 AV.undef)), AV.nilSl, AV.sl (Loc.mk 3 0 0) (List.length (spAfter (List.map rowByte (sub brows 0 (List.length brows))) [(13 : UInt8), (10 : UInt8), (13 : UInt8), (10 : UInt8)])) Cap.open_]])] 5) (Ex.exit 0) (SL.mk [(2, AV.ptr (Loc.mk 1 0 0)), (8, AV.ptr (Loc.mk 4 0 0)), (37, AV.sl (Loc.mk 2 (cutI (some (AV.int IntKind.i64 (1 : Int))) (↑(List.length (spStrRows (spSplit (spBefore (List.map rowByte (sub brows 0 (List.length brows))) [(13 : UInt8), (10 : UInt8), (13 : UInt8), (10 : UInt8)])))) : Int) (1 : Int) 0) 0) (Int.toNat (↑(List.length (spStrRows (spSplit (spBefore (List.map rowByte (sub brows 0 (List.length brows))) [(13 : UInt8), (10 : UInt8), (13 : UInt8), (10 : UInt8)])))) : Int) - 1) (Cap.known (Int.toNat (↑(List.length (spStrRows (spSplit (spBefore (List.map rowByte (sub brows 0 (List.length brows))) [(13 : UInt8), (10 : UInt8), (13 : UInt8), (10 : UInt8)])))) : Int) - 1))), (38, AV.int IntKind.i64 (↑(Int.toNat (↑(List.length (spStrRows (spSplit (spBefore (List.map rowByte (sub brows 0 (List.length brows))) [(13 : UInt8), (10 : UInt8), (13 : UInt8), (10 : UInt8)])))) : Int) - 1) : Int)), (39, AV.int IntKind.i64 (↑(Int.toNat (↑(List.length (spStrRows (spSplit (spBefore (List.map rowByte (sub brows 0 (List.length brows))) [(13 : UInt8), (10 : UInt8), (13 : UInt8), (10 : UInt8)])))) : Int) - 1) : Int))] [(1, Blk.cells true [Kd.str, Kd.any, Kd.any] [[AV.str [], AV.nilSl, AV.nilSl]]), (2, Blk.cells false [Kd.str] (spStrRows (spSplit (spBefore (List.map rowByte (sub brows 0 (List.length brows))) [(13 : UInt8), (10 : UInt8), (13 : UInt8), (10 : UInt8)])))), (3, Blk.cells true [Kd.int IntKind.u8] (List.map byteRow (spAfter (List.map rowByte (sub brows 0 (List.length brows))) [(13 : UInt8), (10 : UInt8), (13 : UInt8), (10 : UInt8)]))), (4, Blk.cells true [Kd.str, Kd.any, Kd.any] [[AV.str (AV.toStr (List.getD (List.getD (spStrRows (spSplit (spBefore (List.map rowByte (sub brows 0 (List.length brows))) [(13 : UInt8), (10 : UInt8), (13 : UInt8), (10 : UInt8)]))) 0 []) 0 AV.undef)), AV.sl (Loc.mk 5 0 0) n Cap.open_, AV.sl (Loc.mk 3 0 0) (List.length (spAfter (List.map rowByte (sub brows 0 (List.length brows))) [(13 : UInt8), (10 : UInt8), (13 : UInt8), (10 : UInt8)])) Cap.open_]]), (5, Blk.cells true [Kd.str, Kd.str] rows)] 6))) ∧ (true = true)) ∧ ((decide (0 + n ≤ List.length rows) && (decide (0 + List.length (spAfter (List.map rowByte (sub brows 0 (List.length brows))) [(13 : UInt8), (10 : UInt8), (13 : UInt8), (10 : UInt8)]) ≤ List.length (List.map byteRow (spAfter (List.map rowByte (sub brows 0 (List.length brows))) [(13 : UInt8), (10 : UInt8), (13 : UInt8), (10 : UInt8)]))) && decide (List.length (AV.toStr (List.getD (List.getD (spStrRows (spSplit (spBefore (List.map rowByte (sub brows 0 (List.length brows))) [(13 : UInt8), (10 : UInt8), (13 : UInt8), (10 : UInt8)]))) 0 []) 0 AV.undef)) ≤ 4294967200 ∧ List.all (sub rows 0 n) short = true ∧ List.length (sub (List.map byteRow (spAfter (List.map rowByte (sub brows 0 (List.length brows))) [(13 : UInt8), (10 : UInt8), (13 : UInt8), (10 : UInt8)])) 0 (List.length (spAfter (List.map rowByte (sub brows 0 (List.length brows))) [(13 : UInt8), (10 : UInt8), (13 : UInt8), (10 : UInt8)]))) ≤ 140737488355328))) = true)) ∧ ((!spRight (AV.toStr (List.getD (List.getD (spStrRows (spSplit (spBefore (List.map rowByte (sub brows 0 (List.length brows))) [(13 : UInt8), (10 : UInt8), (13 : UInt8), (10 : UInt8)]))) 0 []) 0 AV.undef)) (sub rows 0 n) (List.length (sub (List.map byteRow (spAfter (List.map rowByte (sub brows 0 (List.length brows))) [(13 : UInt8), (10 : UInt8), (13 : UInt8), (10 : UInt8)])) 0 (List.length (spAfter (List.map rowByte (sub brows 0 (List.length brows))) [(13 : UInt8), (10 : UInt8), (13 : UInt8), (10 : UInt8)]))))) = false)) ∧ (true = true)) ∧ (true = true)) ∧ (true = true)) ∧ (true = true)) ∧ (true = true)) ∧ (true = true)) ∧ (true = true)) ∧ (true = true)) := by unfold Path; kernel_rfl
def c4 : List UInt8 := [13, 10, 13, 10]
def colon : List UInt8 := [58, 32]
def hrow (l : List UInt8) : List AV := [.str (spBefore l colon), .str (spAfter l colon)]
def spPLines (s : List UInt8) : List (List UInt8) := spSplit (spBefore s c4)
def spPHdrs (s : List UInt8) : List (List UInt8) := (spPLines s).drop 1
def spPRows (s : List UInt8) : List (List AV) := (spPHdrs s).map hrow
def spPStart (s : List UInt8) : List UInt8 := (spPLines s).getD 0 []
def spPBody (s : List UInt8) : List UInt8 := spAfter s c4
def hasColon (l : List UInt8) : Bool := spFound l colon
def spPOk (s : List UInt8) : Bool := decide (s.length ≤ 4096) && (spFound s c4 && ((spPHdrs s).all hasColon && spRight (spPStart s) (spPRows s) (spPBody s).length))
def spPErr (s : List UInt8) : Int := bif spPOk s then 0 else bif decide (s.length ≤ 4096) then 4 else 8
def spPS (s : List UInt8) : List UInt8 := bif spPOk s then spPStart s else []
def spPH (s : List UInt8) : List (List AV) := bif spPOk s then spPRows s else []
def spPB (s : List UInt8) : List (List AV) := bif spPOk s then byteRows (spPBody s) else []
def I34 (start : List UInt8) (lrows bb : List (List AV)) (o m bl : Nat) (ls : List (List UInt8)) : Nat → SL
  | 0 => b34zI start lrows bb o m bl
  | k + 1 => b34I start lrows bb o m bl ((ls.take (k + 1)).map hrow) (k + 1) ((k + 1 : Nat) : Int)
structure LsOK (lrows : List (List AV)) (o m : Nat) (ls : List (List UInt8)) : Prop where
  len : ls.length = m
  le : m ≤ 5000
  at_ : ∀ k (h : k < ls.length), lrows.getD (o + k) [] = [AV.str ls[k]] ∧ o + k < lrows.length
  sz : ∀ l ∈ ls, l.length < 4294967281
def RR34 : SL := SL.mk [(2, AV.ptr (Loc.mk 1 0 0)), (3, AV.int IntKind.i64 (4 : Int))] [(1, Blk.cells true [Kd.str, Kd.any, Kd.any] [[AV.str [], AV.nilSl, AV.nilSl]])] 5
theorem round34 {start : List UInt8} {lrows bb : List (List AV)} {o m bl : Nat} {ls : List (List UInt8)} (ho : LsOK lrows o m ls) {k : Nat} (h : k < ls.length) :
    (hasColon ls[k] = true → BodyOK Tryz.prog (lbody Tryz.prog 34 0) 66 5 (I34 start lrows bb o m bl ls k) .normal (I34 start lrows bb o m bl ls (k + 1))) ∧
    (hasColon ls[k] = false → BodyOK Tryz.prog (lbody Tryz.prog 34 0) 66 5 (I34 start lrows bb o m bl ls k) .ret RR34) := by
  have hm := ho.len; have hle := ho.le
  obtain ⟨hg, hol⟩ := ho.at_ k h
  have w := succ64 (n := ls.length) h (by omega)
  have c4 : decide (ls[k].length < 4294967281) = true := decide_eq_true (ho.sz _ (List.getElem_mem h))
  have hlen : k = ((ls.take k).map hrow).length := by rw [List.length_map, List.length_take]; omega
  have eS : (ls.take (k + 1)).map hrow = (ls.take k).map hrow ++ [[AV.str (spBefore ls[k] [(58 : UInt8), (32 : UInt8)]), AV.str (spAfter ls[k] [(58 : UInt8), (32 : UInt8)])]] := by
    rw [take_snoc h, List.map_append]; rfl
  cases k with
  | zero =>
    have hr : List.getD (List.getD lrows (o + 0) []) 0 AV.undef = AV.str ls[0] := by rw [hg]; rfl
    have c1 : decide ((0 : Int) < ((m : Nat) : Int)) = true := decide_eq_true (by omega)
    have c2 : decide ((0 : Int) ≤ (0 : Int) ∧ (0 : Int) < ((m : Nat) : Int)) = true := decide_eq_true (by omega)
    have c3 : decide (o + 0 < lrows.length) = true := decide_eq_true hol
    refine ⟨fun hx => ?_, fun hx => ?_⟩
    · have c5 : (!hasColon ls[0]) = false := by rw [hx]; rfl
      refine body_by P6s_ok (b34z_TFE start lrows bb o m bl) ?_ ⟨⟨⟨⟨⟨⟨⟨⟨⟨⟨trivial, c1⟩, c2⟩, c3⟩, (by rw [hr]; exact c4)⟩, (by rw [hr]; exact c5)⟩, rfl⟩, rfl⟩, rfl⟩, rfl⟩, rfl⟩ rfl
      rw [hr]
      show _ = b34I start lrows bb o m bl ((ls.take (0 + 1)).map hrow) (0 + 1) ((0 + 1 : Nat) : Int)
      rw [eS]
      rfl
    · have c5 : (!hasColon ls[0]) = true := by rw [hx]; rfl
      exact body_by P6s_ok (b34z_TT start lrows bb o m bl) rfl ⟨⟨⟨⟨⟨⟨⟨⟨⟨⟨⟨trivial, c1⟩, c2⟩, c3⟩, (by rw [hr]; exact c4)⟩, (by rw [hr]; exact c5)⟩, rfl⟩, rfl⟩, rfl⟩, rfl⟩, rfl⟩, rfl⟩ rfl
  | succ k =>
    have hr : List.getD (List.getD lrows (o + Int.toNat ((k + 1 : Nat) : Int)) []) 0 AV.undef = AV.str ls[k + 1] := by rw [Int.toNat_natCast, hg]; rfl
    have c1 : decide (((k + 1 : Nat) : Int) < ((m : Nat) : Int)) = true := decide_eq_true (by omega)
    have c2 : decide ((0 : Int) ≤ ((k + 1 : Nat) : Int) ∧ ((k + 1 : Nat) : Int) < ((m : Nat) : Int)) = true := decide_eq_true (by omega)
    have c3 : decide (o + Int.toNat ((k + 1 : Nat) : Int) < lrows.length) = true := decide_eq_true (by rw [Int.toNat_natCast]; exact hol)
    refine ⟨fun hx => ?_, fun hx => ?_⟩
    · have c5 : (!hasColon ls[k + 1]) = false := by rw [hx]; rfl
      refine body_by P6s_ok (b34_TF start lrows bb o m bl ((ls.take (k + 1)).map hrow) (k + 1) ((k + 1 : Nat) : Int)) ?_ ⟨⟨⟨⟨⟨⟨⟨⟨⟨⟨⟨trivial, c1⟩, c2⟩, c3⟩, (by rw [hr]; exact c4)⟩, (by rw [hr]; exact c5)⟩, rfl⟩, rfl⟩, (decide_eq_true ⟨rfl, hlen⟩)⟩, (decide_eq_true (by omega))⟩, rfl⟩, rfl⟩ rfl
      rw [hr, w]
      show _ = b34I start lrows bb o m bl ((ls.take (k + 1 + 1)).map hrow) (k + 1 + 1) ((k + 1 + 1 : Nat) : Int)
      rw [eS]
      rfl
    · have c5 : (!hasColon ls[k + 1]) = true := by rw [hx]; rfl
      exact body_by P6s_ok (b34_TT start lrows bb o m bl ((ls.take (k + 1)).map hrow) (k + 1) ((k + 1 : Nat) : Int)) rfl ⟨⟨⟨⟨⟨⟨⟨⟨⟨⟨⟨trivial, c1⟩, c2⟩, c3⟩, (by rw [hr]; exact c4)⟩, (by rw [hr]; exact c5)⟩, rfl⟩, rfl⟩, rfl⟩, rfl⟩, rfl⟩, rfl⟩ rfl
theorem ret34 {start : List UInt8} {lrows bb : List (List AV)} {o m bl : Nat} {ls : List (List UInt8)} (ho : LsOK lrows o m ls) {j : Nat} (h : firstAt (fun l => !hasColon l) ls = some j) :
    LoopOK Tryz.prog (lbody Tryz.prog 34 0) 66 (b34zI start lrows bb o m bl) .ret RR34 := by
  obtain ⟨hj, h2, h3⟩ := firstAt_some h
  refine loop_rule (E := b34zI start lrows bb o m bl) (I := I34 start lrows bb o m bl ls) (pre := fun k => k ≤ j) (μ := fun k => j - k) _ _ rfl (fun ρ => by simp [Ex.conc]) ?_ (x0 := 0) (pick := []) (Nat.zero_le _) ⟨by kernel_rfl, map_fst_snd (by kernel_rfl)⟩
  intro k hk
  by_cases hkj : k = j
  · right
    subst hkj
    exact (round34 ho hj).2 (by simpa using h2)
  · left
    exact ⟨k + 1, by omega, by omega, (round34 ho (by omega)).1 (by have := h3 k (by omega); simpa using this)⟩
theorem end34 {start : List UInt8} {lrows bb : List (List AV)} {o m bl : Nat} {ls : List (List UInt8)} (ho : LsOK lrows o m ls) (h : firstAt (fun l => !hasColon l) ls = none) :
    LoopOK Tryz.prog (lbody Tryz.prog 34 0) 66 (b34zI start lrows bb o m bl) (.exit 0) (I34 start lrows bb o m bl ls m) := by
  have h3 := firstAt_none h
  have hm := ho.len
  refine loop_rule (E := b34zI start lrows bb o m bl) (I := I34 start lrows bb o m bl ls) (pre := fun k => k ≤ m) (μ := fun k => m - k) _ _ rfl (fun ρ => by simp [Ex.conc]) ?_ (x0 := 0) (pick := []) (Nat.zero_le _) ⟨by kernel_rfl, map_fst_snd (by kernel_rfl)⟩
  intro k hk
  by_cases hkl : k < m
  · left
    exact ⟨k + 1, by omega, by omega, (round34 ho (by omega)).1 (by have := h3 k (by omega); simpa using this)⟩
  · right
    have hk' : k = m := by omega
    have c1 : decide (((k : Nat) : Int) < ((m : Nat) : Int)) = false := decide_eq_false (by omega)
    rw [← hk']
    rw [← hk'] at c1
    cases k with
    | zero => exact body_by P6s_ok (b34z_F start lrows bb o 0 bl) rfl ⟨trivial, c1⟩ rfl
    | succ k => exact body_by P6s_ok (b34_F start lrows bb o (k + 1) bl ((ls.take (k + 1)).map hrow) (k + 1) ((k + 1 : Nat) : Int)) rfl ⟨trivial, c1⟩ rfl
theorem strRows_at {L : List (List UInt8)} {k : Nat} (h : k < L.length) : (spStrRows L).getD k [] = [AV.str L[k]] := by
  unfold spStrRows
  simp [List.getD_eq_getElem?_getD, h]
theorem split_len (s : List UInt8) : (spSplit s).length ≤ s.length + 1 ∧ ∀ l ∈ spSplit s, l.length ≤ s.length := by
  have h := len_lines (s.length + 1) s
  unfold spSplit spLines
  rw [List.length_map]
  refine ⟨h.1, fun l hl => ?_⟩
  obtain ⟨q, hq, rfl⟩ := List.mem_map.1 hl
  exact (h.2 q hq).1
theorem drop1_at {s : List UInt8} {k : Nat} (h : k < (spPHdrs s).length) : (spPHdrs s)[k] = (spPLines s)[k + 1]'(by unfold spPHdrs at h; rw [List.length_drop] at h; omega) := by
  apply Option.some.inj
  rw [← List.getElem?_eq_getElem h, ← List.getElem?_eq_getElem]
  show (List.drop 1 (spPLines s))[k]? = _
  rw [List.getElem?_drop, Nat.add_comm]
theorem parse_calls {brows : List (List AV)} {ρ : Nat → BI} {w : World} (hE : HSim ρ (addBlks .e 0 [Blk.cells false [Kd.int IntKind.u8] brows]) ([Blk.cells false [Kd.int IntKind.u8] brows] : List Blk).length w) :
    Calls Tryz.prog 34 (concL ρ [.slq 0 brows.length]).toArray w (fun e w' => (∃ v1 v2, e = .returned (.tuple #[.agg #[.string ⟨(spPS (brows.map rowByte)).toArray⟩, v1, v2], .int .i64 (spPErr (brows.map rowByte))]) ∧ NewSl w.heap.size w' [.str, .str] (spPH (brows.map rowByte)) v1 ∧ NewSl w.heap.size w' [.int .u8] (spPB (brows.map rowByte)) v2) ∧ Ext w w') := by
  have hro : ∀ c k, (addBlks .e 0 [Blk.cells false [Kd.int IntKind.u8] brows]).get c = some k → k.isRw = false := by
    intro c k hk
    rw [addBlks_get] at hk
    split at hk
    · obtain ⟨_, rfl⟩ := bs1 hk; rfl
    · cases c <;> cases hk
  have hsb : sub brows 0 (List.length brows) = brows := sub_all brows rfl
  obtain ⟨s, hs⟩ : ∃ s, s = brows.map rowByte := ⟨_, rfl⟩
  have hsl : s.length = brows.length := by rw [hs, List.length_map]
  have hsS : List.map rowByte (sub brows 0 (List.length brows)) = s := by rw [hsb, hs]
  rw [← hs]
  have bad : ∀ (er : Int), spPOk s = false → spPErr s = er → Calls Tryz.prog 34 (concL ρ [.slq 0 brows.length]).toArray w (fun e w' => e = .returned (conc ρ (.tup [.agg [.str [], .nilSl, .nilSl], .int .i64 er])) ∧ Ext w w') →
      Calls Tryz.prog 34 (concL ρ [.slq 0 brows.length]).toArray w (fun e w' => (∃ v1 v2, e = .returned (.tuple #[.agg #[.string ⟨(spPS s).toArray⟩, v1, v2], .int .i64 (spPErr s)]) ∧ NewSl w.heap.size w' [.str, .str] (spPH s) v1 ∧ NewSl w.heap.size w' [.int .u8] (spPB s) v2) ∧ Ext w w') := by
    intro er h1 h2 hc
    refine hc.mono fun e w' hq => ?_
    obtain ⟨rfl, he⟩ := hq
    rw [h2]
    unfold spPS spPH spPB
    rw [h1, cond_false, cond_false, cond_false]
    exact ⟨⟨_, _, rfl, NewSl.none (ρ' := ρ) (hE.gw.ext he) rfl, NewSl.none (ρ' := ρ) (hE.gw.ext he) rfl⟩, he⟩
  by_cases h1 : s.length ≤ 4096
  · have e1 : decide ((brows.length : Int) > 4096) = false := decide_eq_false (by omega)
    cases hf : spFound s c4 with
    | false =>
      have ok : spPOk s = false := by unfold spPOk; rw [hf]; simp
      refine bad 4 ok (by unfold spPErr; rw [ok, decide_eq_true h1]; rfl) ?_
      have e2 : (!spFound (List.map rowByte (sub brows 0 (List.length brows))) [(13 : UInt8), (10 : UInt8), (13 : UInt8), (10 : UInt8)]) = true := by
        rw [hsS]; show (!spFound s c4) = true; rw [hf]; rfl
      exact calls_pureB P6s_ok (c34r_FT brows) (by rw [hsS] at e2 ⊢; exact ⟨⟨⟨⟨⟨⟨⟨⟨⟨⟨⟨trivial, e1⟩, (decide_eq_true (by omega))⟩, (decide_eq_true (by omega))⟩, e2⟩, rfl⟩, rfl⟩, rfl⟩, rfl⟩, rfl⟩, rfl⟩, rfl⟩) hE rfl rfl rfl
    | true =>
      have e2 : (!spFound (List.map rowByte (sub brows 0 (List.length brows))) [(13 : UInt8), (10 : UInt8), (13 : UInt8), (10 : UInt8)]) = false := by
        rw [hsS]; show (!spFound s c4) = false; rw [hf]; rfl
      have lb := len_before s c4
      have la := len_after s c4
      have lb' : (spBefore s [(13 : UInt8), (10 : UInt8), (13 : UInt8), (10 : UInt8)]).length ≤ s.length := lb
      have la' : (spAfter s [(13 : UInt8), (10 : UInt8), (13 : UInt8), (10 : UInt8)]).length ≤ s.length := la
      obtain ⟨sl1, sl2⟩ := split_len (spBefore s c4)
      have hpos := split_pos (spBefore s c4)
      have hLl : (spStrRows (spPLines s)).length = (spPLines s).length := by unfold spStrRows; rw [List.length_map]
      have hL0 : 0 < (spPLines s).length := hpos
      have hL1 : (spPLines s).length ≤ 4097 := by unfold spPLines; omega
      have hLs : ∀ l ∈ spPLines s, l.length ≤ 4096 := fun l hl => by have := sl2 l hl; omega
      have hstart : AV.toStr (List.getD (List.getD (spStrRows (spPLines s)) 0 []) 0 AV.undef) = spPStart s := by
        rw [strRows_at hL0]
        unfold spPStart
        simp [List.getD_eq_getElem?_getD, hL0, AV.toStr]
      have hss : (spPStart s).length ≤ 4096 := by
        have : spPStart s = (spPLines s)[0] := by unfold spPStart; simp [List.getD_eq_getElem?_getD, hL0]
        rw [this]; exact hLs _ (List.getElem_mem hL0)
      have hdl : (spPHdrs s).length = (spPLines s).length - 1 := by unfold spPHdrs; rw [List.length_drop]
      have ho : LsOK (spStrRows (spPLines s)) (cutI (some (AV.int IntKind.i64 (1 : Int))) (((spStrRows (spPLines s)).length : Nat) : Int) (1 : Int) 0) (Int.toNat (((spStrRows (spPLines s)).length : Nat) : Int) - 1) (spPHdrs s) := by
        refine ⟨by rw [hdl, hLl]; rfl, by rw [hLl, Int.toNat_natCast]; omega, fun k hk => ?_, fun l hl => ?_⟩
        · have hk1 : k + 1 < (spPLines s).length := by omega
          have ec : cutI (some (AV.int IntKind.i64 (1 : Int))) (((spStrRows (spPLines s)).length : Nat) : Int) (1 : Int) 0 = 1 := by
            unfold cutI
            rw [if_neg (by rw [hLl]; omega)]; rfl
          rw [ec, show 1 + k = k + 1 by omega, strRows_at hk1]
          refine ⟨?_, by rw [hLl]; omega⟩
          rw [drop1_at hk]
        · have := hLs l (List.mem_of_mem_drop hl); omega
      have hNp : 0 < (spStrRows (spSplit (spBefore s [(13 : UInt8), (10 : UInt8), (13 : UInt8), (10 : UInt8)]))).length := by
        have : 0 < (spStrRows (spPLines s)).length := by rw [hLl]; exact hL0
        exact this
      have hb2 : sub (List.map byteRow (spPBody s)) 0 (spPBody s).length = byteRows (spPBody s) := sub_all _ (by simp)
      have hb1 : (List.map byteRow (spPBody s)).length = (spPBody s).length := by simp
      have la2 : (spPBody s).length ≤ s.length := la
      have hshort : ((spPHdrs s).map hrow).all short = true := by
        refine List.all_eq_true.2 fun r hr => ?_
        obtain ⟨l, hl, rfl⟩ := List.mem_map.1 hr
        have h1 := hLs l (List.mem_of_mem_drop hl)
        have h2 := len_before l colon
        have h3 := len_after l colon
        exact decide_eq_true (by unfold hN hV hrow; show (spBefore l colon).length ≤ _ ∧ (spAfter l colon).length ≤ _; omega)
      cases hfa : firstAt (fun l => !hasColon l) (spPHdrs s) with
      | some j =>
        have hall : (spPHdrs s).all hasColon = false := by
          cases h : (spPHdrs s).all hasColon with
          | false => rfl
          | true => rw [← firstAt_all] at h; rw [h] at hfa; cases hfa
        have ok : spPOk s = false := by unfold spPOk; rw [hall]; simp
        refine bad 4 ok (by unfold spPErr; rw [ok, decide_eq_true h1]; rfl) ?_
        have hl := ret34 (start := spPStart s) (bb := List.map byteRow (spPBody s)) (bl := (spPBody s).length) ho hfa
        rw [← hstart] at hl
        exact calls_pureB P6s_ok (c34r_FFL brows) (by rw [hsS] at e2 ⊢; exact ⟨⟨⟨⟨⟨⟨⟨⟨⟨⟨⟨⟨⟨⟨⟨⟨trivial, e1⟩, (decide_eq_true (by omega))⟩, (decide_eq_true (by omega))⟩, e2⟩, (decide_eq_true ⟨by omega, rfl⟩)⟩, (decide_eq_true (by omega))⟩, (decide_eq_true (by omega))⟩, rfl⟩, rfl⟩, rfl⟩, rfl⟩, rfl⟩, rfl⟩, (decide_eq_true (by omega))⟩, hl⟩, rfl⟩) hE rfl rfl rfl
      | none =>
        have hall : (spPHdrs s).all hasColon = true := firstAt_all.1 hfa
        have hl := end34 (start := spPStart s) (bb := List.map byteRow (spPBody s)) (bl := (spPBody s).length) ho hfa
        by_cases hz : (spPHdrs s).length = 0
        · have hm0 : Int.toNat (((spStrRows (spPLines s)).length : Nat) : Int) - 1 = 0 := by rw [← ho.len]; exact hz
          have hr0 : spPRows s = [] := by unfold spPRows; rw [List.length_eq_zero_iff.1 hz]; rfl
          have hrz : spRight (spPStart s) [] (spPBody s).length = false := by
            unfold spRight
            simp [nLens]
          have ok : spPOk s = false := by unfold spPOk; rw [hr0, hrz]; simp
          refine bad 4 ok (by unfold spPErr; rw [ok, decide_eq_true h1]; rfl) ?_
          have hl : LoopOK Tryz.prog (lbody Tryz.prog 34 0) 66 (b34zI (spPStart s) (spStrRows (spPLines s)) (List.map byteRow (spPBody s)) (cutI (some (AV.int IntKind.i64 (1 : Int))) (((spStrRows (spPLines s)).length : Nat) : Int) (1 : Int) 0) (Int.toNat (((spStrRows (spPLines s)).length : Nat) : Int) - 1) (spPBody s).length) (.exit 0)
              (b34zI (spPStart s) (spStrRows (spPLines s)) (List.map byteRow (spPBody s)) (cutI (some (AV.int IntKind.i64 (1 : Int))) (((spStrRows (spPLines s)).length : Nat) : Int) (1 : Int) 0) (Int.toNat (((spStrRows (spPLines s)).length : Nat) : Int) - 1) (spPBody s).length) := by
            have h8 := congrArg (I34 (spPStart s) (spStrRows (spPLines s)) (List.map byteRow (spPBody s)) (cutI (some (AV.int IntKind.i64 (1 : Int))) (((spStrRows (spPLines s)).length : Nat) : Int) (1 : Int) 0) (Int.toNat (((spStrRows (spPLines s)).length : Nat) : Int) - 1) (spPBody s).length (spPHdrs s)) hm0
            rw [h8] at hl
            exact hl
          have e3 : (!spRight (spPStart s) [] (List.length (sub (List.map byteRow (spPBody s)) 0 (List.length (spPBody s))))) = true := by
            rw [hb2, byteRows_length, hrz]; rfl
          have e4 : (true && (decide (0 + (spPBody s).length ≤ (List.map byteRow (spPBody s)).length) && decide ((spPStart s).length ≤ 4294967200 ∧ true = true ∧ (sub (List.map byteRow (spPBody s)) 0 (spPBody s).length).length ≤ 140737488355328))) = true := by
            rw [hb2, byteRows_length, hb1]
            simp only [Bool.and_eq_true, decide_eq_true_eq, Bool.true_and]; exact ⟨by omega, by omega, trivial, by omega⟩
          rw [← hstart] at hl e3 e4
          exact calls_pureB P6s_ok (c34z_FFLT brows) (by rw [hsS] at e2 ⊢; exact ⟨⟨⟨⟨⟨⟨⟨⟨⟨⟨⟨⟨⟨⟨⟨⟨⟨⟨⟨⟨⟨⟨⟨⟨⟨trivial, e1⟩, (decide_eq_true (by omega))⟩, (decide_eq_true (by omega))⟩, e2⟩, (decide_eq_true ⟨by omega, rfl⟩)⟩, (decide_eq_true (by omega))⟩, (decide_eq_true (by omega))⟩, rfl⟩, rfl⟩, rfl⟩, rfl⟩, rfl⟩, rfl⟩, (decide_eq_true (by omega))⟩, hl⟩, rfl⟩, e4⟩, e3⟩, rfl⟩, rfl⟩, rfl⟩, rfl⟩, rfl⟩, rfl⟩, rfl⟩) hE rfl rfl rfl
        · obtain ⟨k, hk⟩ := Nat.exists_eq_succ_of_ne_zero hz
          have hm1 : Int.toNat (((spStrRows (spPLines s)).length : Nat) : Int) - 1 = k + 1 := by rw [← ho.len]; exact hk
          have hrl : (spPRows s).length = k + 1 := by unfold spPRows; rw [List.length_map]; exact hk
          have hl : LoopOK Tryz.prog (lbody Tryz.prog 34 0) 66 (b34zI (spPStart s) (spStrRows (spPLines s)) (List.map byteRow (spPBody s)) (cutI (some (AV.int IntKind.i64 (1 : Int))) (((spStrRows (spPLines s)).length : Nat) : Int) (1 : Int) 0) (Int.toNat (((spStrRows (spPLines s)).length : Nat) : Int) - 1) (spPBody s).length) (.exit 0)
              (b34I (spPStart s) (spStrRows (spPLines s)) (List.map byteRow (spPBody s)) (cutI (some (AV.int IntKind.i64 (1 : Int))) (((spStrRows (spPLines s)).length : Nat) : Int) (1 : Int) 0) (Int.toNat (((spStrRows (spPLines s)).length : Nat) : Int) - 1) (spPBody s).length (spPRows s) (spPRows s).length (((Int.toNat (((spStrRows (spPLines s)).length : Nat) : Int) - 1 : Nat)) : Int)) := by
            have h8 := congrArg (I34 (spPStart s) (spStrRows (spPLines s)) (List.map byteRow (spPBody s)) (cutI (some (AV.int IntKind.i64 (1 : Int))) (((spStrRows (spPLines s)).length : Nat) : Int) (1 : Int) 0) (Int.toNat (((spStrRows (spPLines s)).length : Nat) : Int) - 1) (spPBody s).length (spPHdrs s)) hm1
            rw [h8] at hl
            have h9 : I34 (spPStart s) (spStrRows (spPLines s)) (List.map byteRow (spPBody s)) (cutI (some (AV.int IntKind.i64 (1 : Int))) (((spStrRows (spPLines s)).length : Nat) : Int) (1 : Int) 0) (Int.toNat (((spStrRows (spPLines s)).length : Nat) : Int) - 1) (spPBody s).length (spPHdrs s) (k + 1) = b34I (spPStart s) (spStrRows (spPLines s)) (List.map byteRow (spPBody s)) (cutI (some (AV.int IntKind.i64 (1 : Int))) (((spStrRows (spPLines s)).length : Nat) : Int) (1 : Int) 0) (Int.toNat (((spStrRows (spPLines s)).length : Nat) : Int) - 1) (spPBody s).length (((spPHdrs s).take (k + 1)).map hrow) (k + 1) ((k + 1 : Nat) : Int) := rfl
            rw [h9, List.take_of_length_le (by omega)] at hl
            rw [hrl]
            rw [show (((Int.toNat (((spStrRows (spPLines s)).length : Nat) : Int) - 1 : Nat)) : Int) = ((k + 1 : Nat) : Int) by rw [hm1]]
            exact hl
          have hsr : sub (spPRows s) 0 (spPRows s).length = spPRows s := sub_all _ rfl
          have e4 : (decide (0 + (spPRows s).length ≤ (spPRows s).length) && (decide (0 + (spPBody s).length ≤ (List.map byteRow (spPBody s)).length) && decide ((spPStart s).length ≤ 4294967200 ∧ (sub (spPRows s) 0 (spPRows s).length).all short = true ∧ (sub (List.map byteRow (spPBody s)) 0 (spPBody s).length).length ≤ 140737488355328))) = true := by
            rw [hb2, byteRows_length, hb1, hsr]
            simp only [Bool.and_eq_true, decide_eq_true_eq]; exact ⟨by omega, by omega, by omega, hshort, by omega⟩
          cases hri : spRight (spPStart s) (spPRows s) (spPBody s).length with
          | false =>
            have ok : spPOk s = false := by unfold spPOk; rw [hri]; simp
            refine bad 4 ok (by unfold spPErr; rw [ok, decide_eq_true h1]; rfl) ?_
            have e3 : (!spRight (spPStart s) (sub (spPRows s) 0 (spPRows s).length) (List.length (sub (List.map byteRow (spPBody s)) 0 (List.length (spPBody s))))) = true := by
              rw [hb2, byteRows_length, hsr, hri]; rfl
            rw [← hstart] at hl e3 e4
            exact calls_pureB P6s_ok (c34i_FFLT brows (spPRows s) (spPRows s).length) (by rw [hsS] at e2 ⊢; exact ⟨⟨⟨⟨⟨⟨⟨⟨⟨⟨⟨⟨⟨⟨⟨⟨⟨⟨⟨⟨⟨⟨⟨⟨⟨trivial, e1⟩, (decide_eq_true (by omega))⟩, (decide_eq_true (by omega))⟩, e2⟩, (decide_eq_true ⟨by omega, rfl⟩)⟩, (decide_eq_true (by omega))⟩, (decide_eq_true (by omega))⟩, rfl⟩, rfl⟩, rfl⟩, rfl⟩, rfl⟩, rfl⟩, (decide_eq_true (by omega))⟩, hl⟩, rfl⟩, e4⟩, e3⟩, rfl⟩, rfl⟩, rfl⟩, rfl⟩, rfl⟩, rfl⟩, rfl⟩) hE rfl rfl rfl
          | true =>
            have ok : spPOk s = true := by unfold spPOk; rw [hri, hall, hf, decide_eq_true h1]; rfl
            have e3 : (!spRight (spPStart s) (sub (spPRows s) 0 (spPRows s).length) (List.length (sub (List.map byteRow (spPBody s)) 0 (List.length (spPBody s))))) = false := by
              rw [hb2, byteRows_length, hsr, hri]; rfl
            have hst2 := hstart
            rw [← hstart] at hl e3 e4
            refine (calls_ofB P6s_ok (c34i_FFLF brows (spPRows s) (spPRows s).length) (by rw [hsS] at e2 ⊢; exact ⟨⟨⟨⟨⟨⟨⟨⟨⟨⟨⟨⟨⟨⟨⟨⟨⟨⟨⟨⟨⟨⟨⟨⟨⟨⟨trivial, e1⟩, (decide_eq_true (by omega))⟩, (decide_eq_true (by omega))⟩, e2⟩, (decide_eq_true ⟨by omega, rfl⟩)⟩, (decide_eq_true (by omega))⟩, (decide_eq_true (by omega))⟩, rfl⟩, rfl⟩, rfl⟩, rfl⟩, rfl⟩, rfl⟩, (decide_eq_true (by omega))⟩, hl⟩, rfl⟩, e4⟩, e3⟩, rfl⟩, rfl⟩, rfl⟩, rfl⟩, rfl⟩, rfl⟩, rfl⟩, rfl⟩) hE rfl).mono fun e w' hq => ?_
            obtain ⟨ρ', rfl, st⟩ := hq
            rw [hsS] at st
            unfold spPErr spPS spPH spPB
            rw [ok, cond_true, cond_true, cond_true, cond_true]
            have st2 : HStep ρ (addBlks .e 0 [Blk.cells false [Kd.int IntKind.u8] brows]) ([Blk.cells false [Kd.int IntKind.u8] brows] : List Blk).length w ρ' (Tr.ofList [(1, Blk.cells true [Kd.str, Kd.str] (spPRows s)), (2, Blk.cells true [Kd.int IntKind.u8] (byteRows (spPBody s)))]) 3 w' := st
            refine ⟨⟨conc ρ' (.sl ⟨1, 0, 0⟩ (spPRows s).length .open_), conc ρ' (.sl ⟨2, 0, 0⟩ (spPBody s).length .open_), ?_, NewSl.of_rw st2 (by rw [ofList_cons, if_pos rfl]) hro rfl rfl, NewSl.of_rw st2 (by rw [ofList_cons, if_neg (by decide), ofList_cons, if_pos rfl]) hro rfl (byteRows_length _).symm⟩, st2.below hro⟩
            rw [hsS]
            have hst3 : AV.toStr (List.getD (List.getD (spStrRows (spSplit (spBefore s [(13 : UInt8), (10 : UInt8), (13 : UInt8), (10 : UInt8)]))) 0 []) 0 AV.undef) = spPStart s := hst2
            rw [hst3]
            rfl
  · have e1 : decide ((brows.length : Int) > 4096) = true := decide_eq_true (by omega)
    have ok : spPOk s = false := by unfold spPOk; rw [decide_eq_false h1]; rfl
    refine bad 8 ok (by unfold spPErr; rw [ok, decide_eq_false h1]; rfl) ?_
    exact calls_pureB P6s_ok (c34r_T brows) ⟨⟨⟨⟨⟨⟨⟨⟨trivial, e1⟩, rfl⟩, rfl⟩, rfl⟩, rfl⟩, rfl⟩, rfl⟩, rfl⟩ hE rfl rfl rfl
def q34 : Entry := fun args hp nx => match args with
  | [bv] => match slIn hp [.int .u8] bv with
    | some (c1, brows) => some (c1, .tup [.agg [.str (spPS (brows.map rowByte)), .slq nx (spPH (brows.map rowByte)).length, .slq (nx + 1) (spPB (brows.map rowByte)).length], .int .i64 (spPErr (brows.map rowByte))],
        [.cells false [.str, .str] (spPH (brows.map rowByte)), .cells false [.int .u8] (spPB (brows.map rowByte))])
    | _ => none
  | _ => none
theorem q34_ok : EntryOK Tryz.prog 34 q34 := by
  intro args hp nx c v bs h hc ρ w hs hi
  unfold q34 at h
  split at h
  · rename_i bv
    split at h
    · rename_i c1 brows hs1
      cases h
      obtain ⟨b0, hb0⟩ := (slIn_spec hs hs1 hc rfl).bi hs.gw rfl
      have hE : HSim (fun _ => b0) (addBlks .e 0 [Blk.cells false [Kd.int IntKind.u8] brows]) ([Blk.cells false [Kd.int IntKind.u8] brows] : List Blk).length w := HSim.ins hs.gw (fun i blk hi => by
        obtain ⟨rfl, rfl⟩ := bs1 hi
        exact ⟨(hb0 _ 0 rfl).2, rfl, rfl⟩)
      have hcall := parse_calls hE
      have ea : concL (fun _ => b0) [AV.slq 0 brows.length] = concL ρ [bv] := by
        simp only [concL]
        rw [(hb0 (fun _ => b0) 0 rfl).1]
      rw [ea] at hcall
      refine hcall.mono fun e w' hq => ?_
      obtain ⟨⟨v1, v2, rfl, ⟨b1, n1, g1⟩, b2, n2, g2⟩, he⟩ := hq
      have e1 : extB ρ nx [b1, b2] nx = b1 := by have := extB_new ρ nx [b1, b2] 0; simpa using this
      have e2 : extB ρ nx [b1, b2] (nx + 1) = b2 := by have := extB_new ρ nx [b1, b2] 1; simpa using this
      have st := HStep.bis (bs := [Blk.cells false [.str, .str] (spPH (brows.map rowByte)), Blk.cells false [.int .u8] (spPB (brows.map rowByte))]) [b1, b2] hs he (fun i blk hi => by
        match i with
        | 0 => simp at hi; subst hi; exact ⟨rfl, n1, rfl, fun ρ' b hb => (g1 ρ' b hb).2⟩
        | 1 => simp at hi; subst hi; exact ⟨rfl, n2, rfl, fun ρ' b hb => (g2 ρ' b hb).2⟩
        | i + 2 => simp at hi)
      refine ⟨_, ?_, ?_, st⟩
      · have h1 := (g1 _ _ e1).1
        have h2 := (g2 _ _ e2).1
        simp only [conc, concL] at h1 h2 ⊢
        rw [h1, h2]
      · simp [AV.idsB, idsBL, blt_iff]
    · cases h
  · cases h
end Go.Proofs.YtpdgmgkkbbndfaaGreatDoor

set_option maxRecDepth 100000
set_option linter.unusedVariables false
set_option linter.unusedSimpArgs false
namespace Go.Proofs.YtpdgmgkkbbndfaaGreatDoor
open Go Go.Proofs Go.Proofs.YtpdgmgkkbbndfaaGreatDoor.SX
def twoB (r : List AV) : Bool := Nat.beq r.length 2
def q23 : Entry := fun args hp nx => match args with
  | [.agg [.str start, hv, bv], .int .u32 host, .int .u32 to_, .int .u16 port, .int .u16 toPort, mv] => match slIn hp [.str, .str] hv, slIn hp [.int .u8] bv, slIn hp [.int .u16, .int .u16] mv with
    | some (c1, hrows), some (c2, brows), some (c3, mrows) =>
      some (c1 && (c2 && (c3 && decide (start.length ≤ 4294967200 ∧ hrows.all short = true ∧ hrows.length ≤ 4398046511104 ∧ brows.length ≤ 140737488355328 ∧ mrows.length ≤ 4611686018427387904 ∧ hrows.all twoB = true))),
        .agg [.str start, .slq nx (spRwH start host to_ port toPort mrows hrows brows).length, .slq (nx + 1) (spRwB start host to_ port toPort mrows hrows brows).length],
        [.cells false [.str, .str] (spRwH start host to_ port toPort mrows hrows brows), .cells false [.int .u8] (spRwB start host to_ port toPort mrows hrows brows)])
    | _, _, _ => none
  | _ => none
theorem three_in {w : World} {r1 r2 r3 : List (List AV)} {v1 v2 v3 : Value} (gw : GW w) (h1 : Reads w [.str, .str] r1 v1) (h2 : Reads w [.int .u8] r2 v2) (h3 : Reads w [.int .u16, .int .u16] r3 v3) :
    ∃ ρ0 : Nat → BI, HSim ρ0 (addBlks .e 0 (ins23 r1 r2 r3)) (ins23 r1 r2 r3).length w ∧ conc ρ0 (.slq 0 r1.length) = v1 ∧ conc ρ0 (.slq 1 r2.length) = v2 ∧ conc ρ0 (.slq 2 r3.length) = v3 := by
  obtain ⟨b1, hb1⟩ := h1.bi gw rfl
  obtain ⟨b2, hb2⟩ := h2.bi gw rfl
  obtain ⟨b3, hb3⟩ := h3.bi gw rfl
  refine ⟨fun i => if i = 0 then b1 else if i = 1 then b2 else b3, HSim.ins gw (fun i blk hi => ?_), (hb1 _ 0 rfl).1, (hb2 _ 1 rfl).1, (hb3 _ 2 rfl).1⟩
  match i with
  | 0 => simp [ins23] at hi; subst hi; exact ⟨(hb1 _ 0 rfl).2, rfl, rfl⟩
  | 1 => simp [ins23] at hi; subst hi; exact ⟨(hb2 _ 1 rfl).2, rfl, rfl⟩
  | 2 => simp [ins23] at hi; subst hi; exact ⟨(hb3 _ 2 rfl).2, rfl, rfl⟩
  | i + 3 => simp [ins23] at hi
theorem q23_ok : EntryOK Tryz.prog 23 q23 := by
  intro args hp nx c v bs h hc ρ w hs hi
  unfold q23 at h
  split at h
  · rename_i start hv bv host to_ port toPort mv
    split at h
    · rename_i c1 hrows c2 brows c3 mrows hs1 hs2 hs3
      cases h
      simp only [Bool.and_eq_true] at hc
      obtain ⟨hc1, hc2, hc3, hc4⟩ := hc
      obtain ⟨g1, g2, g3, g4, g5, g6⟩ := of_decide_eq_true hc4
      obtain ⟨ρ0, hE, e1, e2, e3⟩ := three_in hs.gw (slIn_spec hs hs1 hc1 rfl) (slIn_spec hs hs2 hc2 rfl) (slIn_spec hs hs3 hc3 rfl)
      have hcall := rw23 (host := host) (to_ := to_) (port := port) (toPort := toPort) hE g1 g2 g3 g4 g5 (fun r hr => Nat.eq_of_beq_eq_true (List.all_eq_true.1 g6 r hr))
      have ea : concL ρ0 [AV.agg [AV.str start, AV.slq 0 (List.length hrows), AV.slq 1 (List.length brows)], AV.int IntKind.u32 host, AV.int IntKind.u32 to_, AV.int IntKind.u16 port, AV.int IntKind.u16 toPort, AV.slq 2 (List.length mrows)]
          = concL ρ [AV.agg [.str start, hv, bv], .int .u32 host, .int .u32 to_, .int .u16 port, .int .u16 toPort, mv] := by
        show [Value.agg (concL ρ0 [AV.str start, .slq 0 hrows.length, .slq 1 brows.length]).toArray, conc ρ0 (.int .u32 host), conc ρ0 (.int .u32 to_), conc ρ0 (.int .u16 port), conc ρ0 (.int .u16 toPort), conc ρ0 (.slq 2 mrows.length)] = _
        simp only [concL]
        rw [e1, e2, e3]
        rfl
      rw [ea] at hcall
      exact entry_msg hs hcall
    · cases h
  · cases h
def P7 : Prims := addP P6 23 q23
theorem P7_ok : PrimsOK Tryz.prog P7 := addP_ok P6_ok q23_ok
end Go.Proofs.YtpdgmgkkbbndfaaGreatDoor

namespace Go.Proofs
open Go.Shelf
def Tryz.b_laysM251_ren : Go.Shelf.Ren := ⟨fun | 251 => 84 | n => n, fun | 130 => 134 | 3 => 3 | 4 => 4 | 0 => 0 | 93 => 95 | 37 => 23 | 91 => 93 | 5 => 5 | n => n, fun | n => n⟩
theorem Tryz.b_laysM251 : Go.Proofs.LaysM.n251 Tryz.prog Tryz.b_laysM251_ren := {
  mixed := by kernel_rfl
  f251 := Tryz.func84.trans (congrArg some (by kernel_rfl))
  t0 := Tryz.underlying0
  a0 := Tryz.isAgg0
  z0 := Tryz.sizeOf0
  v0 := Tryz.zeroValue0
  t3 := Tryz.underlying3
  a3 := Tryz.isAgg3
  z3 := Tryz.sizeOf3
  v3 := Tryz.zeroValue3
  t4 := Tryz.underlying4
  a4 := Tryz.isAgg4
  z4 := Tryz.sizeOf4
  v4 := Tryz.zeroValue4
  t37 := Tryz.underlying23
  a37 := Tryz.isAgg23
  z37 := Tryz.sizeOf23
  v37 := Tryz.zeroValue23
  t93 := Tryz.underlying95
  a93 := Tryz.isAgg95
  z93 := Tryz.sizeOf95
  v93 := Tryz.zeroValue95
  t130 := Tryz.underlying134
  a130 := Tryz.isAgg134
  z130 := Tryz.sizeOf134
  v130 := Tryz.zeroValue134
  t5 := Tryz.underlying5
  a5 := Tryz.isAgg5
  z5 := Tryz.sizeOf5
  v5 := Tryz.zeroValue5
  t91 := Tryz.underlying93
  a91 := Tryz.isAgg93
  z91 := Tryz.sizeOf93
  v91 := Tryz.zeroValue93
  i0 := by kernel_rfl
  i3 := by kernel_rfl
  i4 := by kernel_rfl
  i5 := by kernel_rfl
  i37 := by kernel_rfl
  i91 := by kernel_rfl
  i93 := by kernel_rfl
  i130 := by kernel_rfl }
def Tryz.b_laysM183_ren : Go.Shelf.Ren := ⟨fun | 183 => 55 | n => n, fun | 130 => 134 | 37 => 23 | 0 => 0 | 93 => 95 | 3 => 3 | 5 => 5 | 91 => 93 | n => n, fun | n => n⟩
theorem Tryz.b_laysM183 : Go.Proofs.LaysM.n183 Tryz.prog Tryz.b_laysM183_ren := {
  mixed := by kernel_rfl
  f183 := Tryz.func55.trans (congrArg some (by kernel_rfl))
  t0 := Tryz.underlying0
  a0 := Tryz.isAgg0
  z0 := Tryz.sizeOf0
  v0 := Tryz.zeroValue0
  t3 := Tryz.underlying3
  a3 := Tryz.isAgg3
  z3 := Tryz.sizeOf3
  v3 := Tryz.zeroValue3
  t37 := Tryz.underlying23
  a37 := Tryz.isAgg23
  z37 := Tryz.sizeOf23
  v37 := Tryz.zeroValue23
  t93 := Tryz.underlying95
  a93 := Tryz.isAgg95
  z93 := Tryz.sizeOf95
  v93 := Tryz.zeroValue95
  t130 := Tryz.underlying134
  a130 := Tryz.isAgg134
  z130 := Tryz.sizeOf134
  v130 := Tryz.zeroValue134
  t5 := Tryz.underlying5
  a5 := Tryz.isAgg5
  z5 := Tryz.sizeOf5
  v5 := Tryz.zeroValue5
  t91 := Tryz.underlying93
  a91 := Tryz.isAgg93
  z91 := Tryz.sizeOf93
  v91 := Tryz.zeroValue93
  i0 := by kernel_rfl
  i3 := by kernel_rfl
  i5 := by kernel_rfl
  i37 := by kernel_rfl
  i91 := by kernel_rfl
  i93 := by kernel_rfl
  i130 := by kernel_rfl }
open Go.RowKit in
theorem Tryz.Buffer_Bytes (B b : Nat) (bs : List Value) (w : World) (h : Lib.IsBuffer 95 5 B b bs w) :
    Calls Tryz.prog 55 #[.pointer (some ⟨b, 0, none⟩)] w fun e w' => ∃ v, e = .returned v ∧ w'.ownsRow B 5 1 v bs.length bs ∧ ∃ n, w' = w.drewN n := Any.Buffer_Bytes Tryz.b_laysM183 B b bs w h
open Go.RowKit in
theorem Tryz.Buffer_tryGrow_kept (B b n : Nat) (bs : List Value) (w : World) (h : Lib.IsBuffer 95 5 B b bs w) :
    Calls Tryz.prog 84 #[.pointer (some ⟨b, 0, none⟩), .int .i64 n] w fun e w' =>
      (e = .returned (.tuple #[.int .i64 bs.length, .bool true]) ∧ ∃ xs, xs.length = n ∧ Lib.IsBuffer 95 5 B b (bs ++ xs) w' ∧ Below B w w' ∧ Lib.OthersKept 5 (some b) w w') ∨
      (e = .returned (.tuple #[.int .i64 0, .bool false]) ∧ w' = w ∧ Lib.NoRoom b n w) := Any.Buffer_tryGrow_kept Tryz.b_laysM251 B b n bs w h
def Tryz.b_laysM178_ren : Go.Shelf.Ren := ⟨fun | 178 => 53 | 251 => 84 | 252 => 85 | 181 => 109 | 184 => 110 | 290 => 111 | 324 => 131 | n => n, fun | 130 => 134 | 9 => 9 | 3 => 3 | 75 => 97 | 0 => 0 | 93 => 95 | 91 => 93 | 131 => 135 | 4 => 4 | 37 => 23 | 20 => 20 | 80 => 156 | 5 => 5 | n => n, fun | 14 => 0 | n => n⟩
theorem Tryz.b_laysM178 : Go.Proofs.LaysM.n178 Tryz.prog Tryz.b_laysM178_ren := {
  mixed := by kernel_rfl
  f178 := Tryz.func53.trans (congrArg some (by kernel_rfl))
  f181 := Tryz.func109.trans (congrArg some (by kernel_rfl))
  f184 := Tryz.func110.trans (congrArg some (by kernel_rfl))
  f251 := Tryz.func84.trans (congrArg some (by kernel_rfl))
  f252 := Tryz.func85.trans (congrArg some (by kernel_rfl))
  f290 := Tryz.func111.trans (congrArg some (by kernel_rfl))
  f324 := Tryz.func131.trans (congrArg some (by kernel_rfl))
  t0 := Tryz.underlying0
  a0 := Tryz.isAgg0
  z0 := Tryz.sizeOf0
  v0 := Tryz.zeroValue0
  t3 := Tryz.underlying3
  a3 := Tryz.isAgg3
  z3 := Tryz.sizeOf3
  v3 := Tryz.zeroValue3
  t4 := Tryz.underlying4
  a4 := Tryz.isAgg4
  z4 := Tryz.sizeOf4
  v4 := Tryz.zeroValue4
  t9 := Tryz.underlying9
  a9 := Tryz.isAgg9
  z9 := Tryz.sizeOf9
  v9 := Tryz.zeroValue9
  t20 := Tryz.underlying20
  a20 := Tryz.isAgg20
  z20 := Tryz.sizeOf20
  v20 := Tryz.zeroValue20
  t37 := Tryz.underlying23
  a37 := Tryz.isAgg23
  z37 := Tryz.sizeOf23
  v37 := Tryz.zeroValue23
  t75 := Tryz.underlying97
  a75 := Tryz.isAgg97
  z75 := Tryz.sizeOf97
  v75 := Tryz.zeroValue97
  t91 := Tryz.underlying93
  a91 := Tryz.isAgg93
  z91 := Tryz.sizeOf93
  v91 := Tryz.zeroValue93
  t93 := Tryz.underlying95
  a93 := Tryz.isAgg95
  z93 := Tryz.sizeOf95
  v93 := Tryz.zeroValue95
  t130 := Tryz.underlying134
  a130 := Tryz.isAgg134
  z130 := Tryz.sizeOf134
  v130 := Tryz.zeroValue134
  t131 := Tryz.underlying135
  a131 := Tryz.isAgg135
  z131 := Tryz.sizeOf135
  v131 := Tryz.zeroValue135
  g14 := by kernel_rfl
  t5 := Tryz.underlying5
  a5 := Tryz.isAgg5
  z5 := Tryz.sizeOf5
  v5 := Tryz.zeroValue5
  t80 := Tryz.underlying156
  a80 := Tryz.isAgg156
  z80 := Tryz.sizeOf156
  v80 := Tryz.zeroValue156
  i0 := by kernel_rfl
  i3 := by kernel_rfl
  i4 := by kernel_rfl
  i5 := by kernel_rfl
  i9 := by kernel_rfl
  i20 := by kernel_rfl
  i37 := by kernel_rfl
  i75 := by kernel_rfl
  i80 := by kernel_rfl
  i91 := by kernel_rfl
  i93 := by kernel_rfl
  i130 := by kernel_rfl
  i131 := by kernel_rfl
  m14 := by kernel_rfl }
open Go.RowKit in
theorem Tryz.Buffer_WriteString_kept (B b : Nat) (bs : List Value) (s : ByteArray) (w : World) (h : Lib.IsBuffer 95 5 B b bs w) (hBw : B ≤ w.heap.size) (h1 : ∀ v ∈ bs, v.oneCell' = true) (hlim : bs.length + s.size ≤ 140737488355328) :
    Calls Tryz.prog 53 #[.pointer (some ⟨b, 0, none⟩), .string s] w fun e w' => e = .returned (.tuple #[.int .i64 s.size, .nilIface]) ∧ Lib.IsBuffer 95 5 B b (bs ++ Lib.byteCells s.data.toList) w' ∧ Below B w w' ∧ Lib.OthersKept 5 (some b) w w' := Any.Buffer_WriteString_kept Tryz.b_laysM178 B b bs s w h hBw h1 hlim
def Tryz.b_laysM180_ren : Go.Shelf.Ren := ⟨fun | 180 => 54 | 251 => 84 | 252 => 85 | 181 => 109 | 184 => 110 | 290 => 111 | 324 => 131 | n => n, fun | 130 => 134 | 37 => 23 | 3 => 3 | 75 => 97 | 0 => 0 | 93 => 95 | 91 => 93 | 131 => 135 | 4 => 4 | 20 => 20 | 5 => 5 | 80 => 156 | 9 => 9 | n => n, fun | 14 => 0 | n => n⟩
theorem Tryz.b_laysM180 : Go.Proofs.LaysM.n180 Tryz.prog Tryz.b_laysM180_ren := {
  mixed := by kernel_rfl
  f180 := Tryz.func54.trans (congrArg some (by kernel_rfl))
  f181 := Tryz.func109.trans (congrArg some (by kernel_rfl))
  f184 := Tryz.func110.trans (congrArg some (by kernel_rfl))
  f251 := Tryz.func84.trans (congrArg some (by kernel_rfl))
  f252 := Tryz.func85.trans (congrArg some (by kernel_rfl))
  f290 := Tryz.func111.trans (congrArg some (by kernel_rfl))
  f324 := Tryz.func131.trans (congrArg some (by kernel_rfl))
  t0 := Tryz.underlying0
  a0 := Tryz.isAgg0
  z0 := Tryz.sizeOf0
  v0 := Tryz.zeroValue0
  t3 := Tryz.underlying3
  a3 := Tryz.isAgg3
  z3 := Tryz.sizeOf3
  v3 := Tryz.zeroValue3
  t4 := Tryz.underlying4
  a4 := Tryz.isAgg4
  z4 := Tryz.sizeOf4
  v4 := Tryz.zeroValue4
  t20 := Tryz.underlying20
  a20 := Tryz.isAgg20
  z20 := Tryz.sizeOf20
  v20 := Tryz.zeroValue20
  t37 := Tryz.underlying23
  a37 := Tryz.isAgg23
  z37 := Tryz.sizeOf23
  v37 := Tryz.zeroValue23
  t75 := Tryz.underlying97
  a75 := Tryz.isAgg97
  z75 := Tryz.sizeOf97
  v75 := Tryz.zeroValue97
  t91 := Tryz.underlying93
  a91 := Tryz.isAgg93
  z91 := Tryz.sizeOf93
  v91 := Tryz.zeroValue93
  t93 := Tryz.underlying95
  a93 := Tryz.isAgg95
  z93 := Tryz.sizeOf95
  v93 := Tryz.zeroValue95
  t130 := Tryz.underlying134
  a130 := Tryz.isAgg134
  z130 := Tryz.sizeOf134
  v130 := Tryz.zeroValue134
  t131 := Tryz.underlying135
  a131 := Tryz.isAgg135
  z131 := Tryz.sizeOf135
  v131 := Tryz.zeroValue135
  g14 := by kernel_rfl
  t5 := Tryz.underlying5
  a5 := Tryz.isAgg5
  z5 := Tryz.sizeOf5
  v5 := Tryz.zeroValue5
  t9 := Tryz.underlying9
  a9 := Tryz.isAgg9
  z9 := Tryz.sizeOf9
  v9 := Tryz.zeroValue9
  t80 := Tryz.underlying156
  a80 := Tryz.isAgg156
  z80 := Tryz.sizeOf156
  v80 := Tryz.zeroValue156
  i0 := by kernel_rfl
  i3 := by kernel_rfl
  i4 := by kernel_rfl
  i5 := by kernel_rfl
  i9 := by kernel_rfl
  i20 := by kernel_rfl
  i37 := by kernel_rfl
  i75 := by kernel_rfl
  i80 := by kernel_rfl
  i91 := by kernel_rfl
  i93 := by kernel_rfl
  i130 := by kernel_rfl
  i131 := by kernel_rfl
  m14 := by kernel_rfl }
open Go.RowKit in
theorem Tryz.Buffer_Write_any (B b : Nat) (bs cs : List Value) (a : Addr) (n c : Nat) (w : World) (h : Lib.IsBuffer 95 5 B b bs w) (hBw : B ≤ w.heap.size) (h1 : ∀ v ∈ bs, v.oneCell' = true) (hn : cs.length = n) (hab : a.block ≠ b) (hsrc : ∀ j v, cs[j]? = some v → w.cell? (a.add j) = some v) (h1c : ∀ v ∈ cs, v.oneCell' = true) (hlim : bs.length + n ≤ 140737488355328) :
    Calls Tryz.prog 54 #[.pointer (some ⟨b, 0, none⟩), .slice (some a) n c] w fun e w' => e = .returned (.tuple #[.int .i64 n, .nilIface]) ∧ Lib.IsBuffer 95 5 B b (bs ++ cs) w' ∧ Below B w w' ∧ Lib.OthersKept 5 (some b) w w' := Any.Buffer_Write_any Tryz.b_laysM180 B b bs cs a n c w h hBw h1 hn hab hsrc h1c hlim
end Go.Proofs

