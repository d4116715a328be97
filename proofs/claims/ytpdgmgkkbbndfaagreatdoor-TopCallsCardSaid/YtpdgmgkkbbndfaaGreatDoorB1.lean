/- Part 2 of the proof: texts that the last one builds upon. Conditions: as each theorem says. -/
import Derived.Test.YtpdgmgkkbbndfaaGreatDoorB0
import Derived.Below
import Derived.LoopN
import Derived.RangeFuncRecord
import Derived.IntWalk
import Derived.Test.YtpdgmgkkbbndfaaGreatDoorProg
import Derived.Shelf.Strings.Builder1
import Derived.Shelf.Strings.Builder2
import Derived.Shelf.Strings.OnBuilder
import Derived.Shelf.Strings.Trim
import Derived.Shelf.Small.Utf8
import Derived.Shelf.Small.Strs
import Derived.Shelf.Small.Wraps
import Derived.Shelf.Strconv.Atoi
import Derived.Shelf.Strconv.Itoa0
import Derived.Shelf.Strconv.Itoa1
import Derived.Shelf.LaysM
import Derived.Shelf.Strconv.Itoa2
import Derived.Shelf.Strconv.Itoa3
import Derived.Shelf.Bytes.GrowSliceCatch
import Derived.Shelf.Bytes.GrowSlice
import Derived.Shelf.Strconv.AtoiErrFast
import Derived.Shelf.Strconv.ParseIntEmpty
import Derived.Shelf.Strconv.AtoiFail
import Derived.Shelf.Strconv.Clone
import Derived.Shelf.Strconv.SyntaxError
import Derived.Shelf.LaysC
import Derived.Shelf.Strconv.ToError
import Derived.Shelf.Strconv.Lower
import Derived.Shelf.Strconv.ParseUint10
import Derived.Shelf.Strconv.ParseUint10Empty
import Derived.Shelf.Strconv.ParseUint10Any
import Derived.Shelf.Strconv.ParseInt10
import Derived.Shelf.Strconv.AtoiLong
import Derived.Shelf.Strconv.AtoiInnerAll
import Derived.Shelf.Strconv.RangeError
import Derived.Shelf.Strconv.ToErrorRange
import Derived.Shelf.Strconv.AtoiAll
import Derived.Shelf.Strconv.ErrVarAll
import Derived.Shelf.Strings.Search1
import Derived.Shelf.Strings.Search2
import Derived.Shelf.Strings.Search3
import Derived.Shelf.Strings.Cut
import Derived.Shelf.Strings.Count
import Derived.Shelf.Strings.Shaped
import Derived.Shelf.Bytes.LenAt
import Derived.Shelf.Bytes.TryGrowAt
import Derived.Shelf.Bytes.GrowRow0At
import Derived.Shelf.Bytes.GrowRowAt
import Derived.Shelf.Bytes.GrowNilAt
import Derived.Shelf.Bytes.GrowAt
import Derived.Shelf.Bytes.WriteStringAt
import Derived.Shelf.Bytes.WriteAt
import Derived.Shelf.Strings.Prefix
import Derived.Shelf.Strings.Runes
import Derived.Shelf.Strings.IndexAny
import Derived.Shelf.Strings.AsciiSet
import Derived.Shelf.Strings.IndexAnyAll
import Derived.Shelf.Unicode.DecodeSlow
import Derived.Shelf.Strings.SlTrimAscii
import Derived.Lib.AppendIntMem
import Derived.Lib.ItoaLen
set_option linter.unusedSectionVars false
set_option linter.unusedSimpArgs false
set_option linter.unusedVariables false
namespace Go.Proofs.YtpdgmgkkbbndfaaGreatDoor.SX
open Go
section
variable [Inhabited EnvT]
def addBlks (hp : Tr Blk) (nx : Nat) : List Blk → Tr Blk
  | [] => hp
  | b :: bs => addBlks (hp.set nx (some b)) (nx + 1) bs
abbrev Prims := Nat → List AV → Tr Blk → Nat → Option (Bool × AV × List Blk)
def PrimsOK (P : Program) (prims : Prims) : Prop := ∀ f args hp nx c v bs, prims f args hp nx = some (c, v, bs) → c = true → ∀ ρ w, HSim ρ hp nx w → idsBL nx args = true →
  Calls P f (concL ρ args).toArray w (fun e w' => ∃ ρ', e = .returned (conc ρ' v) ∧ v.idsB (nx + bs.length) = true ∧ HStep ρ hp nx w ρ' (addBlks hp nx bs) (nx + bs.length) w')
def noPrims : Prims := fun _ _ _ _ => none
theorem noPrims_ok (P : Program) : PrimsOK P noPrims := by intro f args hp nx c v bs h; cases h
theorem HStep.quiet {ρ : Nat → BI} {hp : Tr Blk} {nx : Nat} {w w' : World} (h : HSim ρ hp nx w) (b : RowKit.Below w.heap.size w w') : HStep ρ hp nx w ρ hp nx w' :=
  HStep0.make h ⟨Agree.refl _ _, Nat.le_refl _, ⟨fun c k hc => Blk.sat_world (b.block _ (Blk.sat_lt (h.sat c k hc))) (h.sat c k hc), h.sep, h.wf⟩, ⟨b.os, b.tape, b.output, b.size, fun n hn _ => b.block n hn⟩, fun c k hc => .inr ⟨c, k, hc, id, rfl⟩, Own.sub (fun c k hc => (h.wf c k hc).1) fun _ _ h => h⟩
theorem HStep.frame {ρ ρ' : Nat → BI} {hp hpI hpR hp' : Tr Blk} {nx nx' : Nat} {w w' : World} (h : HSim ρ hp nx w) (hI : ∀ b blk, hpI.get b = some blk → hp.get b = some blk)
    (st : HStep ρ hpI nx w ρ' hpR nx' w') (hn : ∀ b blk, hp'.get b = some blk → hpR.get b = some blk ∨ (hp.get b = some blk ∧ ∀ k, hpI.get b = some k → k.isRw = false)) : HStep ρ hp nx w ρ' hp' nx' w' := by
  have keep : ∀ b blk, hp.get b = some blk → (∀ k, hpI.get b = some k → k.isRw = false) → w'.heap[(ρ b).blk]? = w.heap[(ρ b).blk]? := by
    intro b blk hb hno
    refine st.fr.keep _ (Blk.sat_lt (h.sat b blk hb)) fun c k hc hrw e => ?_
    have hcb : c ≠ b := fun e' => by subst e'; rw [hno k hc] at hrw; cases hrw
    exact h.sep c b k blk hcb (hI c k hc) hb (.inl hrw) e
  refine HStep0.make h ⟨st.agree, st.le, ⟨?_, ?_, ?_⟩, ⟨st.fr.os, st.fr.tape, st.fr.output, st.fr.size, fun n hn' hno => st.fr.keep n hn' fun b blk hb hrw => hno b blk (hI b blk hb) hrw⟩, ?_, ⟨fun b blk hlt hb => ?_, fun b blk hge hb hr => ?_⟩⟩
  · intro b blk hb
    rcases hn b blk hb with h1 | ⟨h1, h2⟩
    · exact st.sim.sat b blk h1
    · have hw := h.wf b blk h1
      have h3 := Blk.sat_agree st.agree hw.1 hw.2 (h.sat b blk h1)
      refine Blk.sat_world ?_ h3
      rw [st.agree b hw.1]
      exact keep b blk h1 h2
  ·
    have mixed : ∀ b1 b2 k1 k2, hpR.get b1 = some k1 → hp.get b2 = some k2 → (∀ k, hpI.get b2 = some k → k.isRw = false) → (k1.isRw = true ∨ k2.isRw = true) → (ρ' b1).blk ≠ (ρ' b2).blk := by
      intro b1 b2 k1 k2 h1 h2 hno hr
      rw [st.agree b2 (h.wf b2 k2 h2).1]
      have hlt := Blk.sat_lt (h.sat b2 k2 h2)
      rcases st.new b1 k1 h1 with (h3 | ⟨h3, h4⟩) | ⟨b0, k0, h0, hrw, e⟩
      · omega
      · have hr2 : k2.isRw = true := by
          rcases hr with hr | hr
          · rw [h3] at hr; cases hr
          · exact hr
        have := h.ng b2 k2 h2 hr2
        omega
      · rw [e]
        by_cases hb : b0 = b2
        · subst hb
          have hk := hno k0 h0
          have h0' := hI _ _ h0
          rw [h2] at h0'; cases h0'
          rcases hr with hr | hr
          · rw [hrw hr] at hk; cases hk
          · rw [hr] at hk; cases hk
        · exact h.sep b0 b2 k0 k2 hb (hI _ _ h0) h2 (hr.imp hrw id)
    intro b1 b2 k1 k2 hne h1 h2 hr
    rcases hn b1 k1 h1 with g1 | ⟨g1, g1'⟩ <;> rcases hn b2 k2 h2 with g2 | ⟨g2, g2'⟩
    · exact st.sim.sep b1 b2 k1 k2 hne g1 g2 hr
    · exact mixed b1 b2 k1 k2 g1 g2 g2' hr
    · exact fun e => mixed b2 b1 k2 k1 g2 g1 g1' hr.symm e.symm
    · rw [st.agree b1 (h.wf b1 k1 g1).1, st.agree b2 (h.wf b2 k2 g2).1]; exact h.sep b1 b2 k1 k2 hne g1 g2 hr
  · intro b blk hb
    rcases hn b blk hb with h1 | ⟨h1, h2⟩
    · exact st.sim.wf b blk h1
    · have := h.wf b blk h1; exact ⟨Nat.lt_of_lt_of_le this.1 st.le, Blk.idsB_mono st.le this.2⟩
  · intro b blk hb
    rcases hn b blk hb with h1 | ⟨h1, h2⟩
    · rcases st.new b blk h1 with h3 | ⟨b0, k0, h0, hrw, e⟩
      · exact .inl h3
      · exact .inr ⟨b0, k0, hI _ _ h0, hrw, e⟩
    · exact .inr ⟨b, blk, h1, id, by rw [st.agree b (h.wf b blk h1).1]⟩
  · rcases hn b blk hb with h1 | ⟨h1, h2⟩
    · obtain ⟨k0, h0, e0⟩ := st.own.kept b blk hlt h1
      exact ⟨k0, hI _ _ h0, e0⟩
    · exact ⟨blk, h1, rfl⟩
  · rcases hn b blk hb with h1 | ⟨h1, h2⟩
    · exact st.own.fresh b blk hge h1 hr
    · have := (h.wf b blk h1).1; omega
theorem ofList_mem {α : Type} : ∀ {l : List (Nat × α)} {k : Nat} {v : α}, (Tr.ofList l).get k = some v → (k, v) ∈ l
  | [], k, v, h => by cases k <;> cases h
  | (k', v') :: l, k, v, h => by
    simp only [Tr.ofList, Tr.get_set] at h
    by_cases hk : k = k'
    · rw [if_pos hk] at h; cases h; simp [hk]
    · rw [if_neg hk] at h; exact List.mem_cons_of_mem _ (ofList_mem h)
def SL.m (nt : Nat) (I : SL) : M := { nt := ⟨nt, []⟩, tm := Tr.ofList I.tm, hp := Tr.ofList I.hp, nx := I.nx, sym := true, plan := [], owed := True, eqs := [] }
def SL.need (m : M) (I : SL) : List (Tok × Tok) := I.tm.map (fun p => (Tok.av (m.tm.get p.1), Tok.av (some p.2))) ++ I.hp.map (fun p => (Tok.blk (m.hp.get p.1), Tok.blk (some p.2)))
theorem need_spec {m : M} {I : SL} (h : ∀ p ∈ SL.need m I, p.1 = p.2) : (∀ t v, (Tr.ofList I.tm).get t = some v → m.tm.get t = some v) ∧ (∀ b blk, (Tr.ofList I.hp).get b = some blk → m.hp.get b = some blk) := by
  refine ⟨fun t v ht => ?_, fun b blk hb => ?_⟩
  · have hm := ofList_mem ht
    have := h (Tok.av (m.tm.get t), Tok.av (some v)) (List.mem_append_left _ (List.mem_map.2 ⟨(t, v), hm, rfl⟩))
    exact Tok.av.inj this
  · have hm := ofList_mem hb
    have := h (Tok.blk (m.hp.get b), Tok.blk (some blk)) (List.mem_append_right _ (List.mem_map.2 ⟨(b, blk), hm, rfl⟩))
    exact Tok.blk.inj this
theorem need_sim {ρ : Nat → BI} {m : M} {a : Act} {w : World} {I : SL} (hs : Sim ρ m a w) (h : ∀ p ∈ SL.need m I, p.1 = p.2) (hn : I.nx = m.nx) : @Sim ⟨⟨a.defers, (default : EnvT).ro⟩⟩ ρ (I.m m.nt.n) a w := by
  obtain ⟨h1, h2⟩ := need_spec h
  have hd := HStep.drop hs.h h2 (Nat.le_of_eq hn.symm)
  exact @Sim.mk ⟨⟨a.defers, (default : EnvT).ro⟩⟩ ρ (I.m m.nt.n) a w hd.sim hs.size (fun t v ht => by have := hs.tms t v (h1 t v ht); exact ⟨this.1, by show v.idsB I.nx = true; rw [hn]; exact this.2⟩) (@Dfs.mk ⟨⟨a.defers, (default : EnvT).ro⟩⟩ ρ _ _ _ rfl fun b hb => by cases hb)
def LoopOK (P : Program) (body : Code) (nt : Nat) (I : SL) (ex : Ex) (R : SL) : Prop := ∀ e : Inhabited EnvT, e.default.ro = none → @XOK e P (.loop body) (I.m nt) ex (R.m nt)
def RangeOK (P : Program) (c : Code) (nt : Nat) (I R : SL) : Prop := ∀ e : Inhabited EnvT, e.default.ro = none → ∀ ρ a w, @Sim e ρ (I.m nt) a w →
  @Code.wpE e P c (fun x a' w' => x = .normal ∧ a'.tmps = a.tmps ∧ ∃ ρ', a'.defers = { target := .collected (ρ' I.nx).blk, args := #[] } :: a.defers ∧ I.nx < R.nx ∧ HStep ρ (Tr.ofList I.hp) I.nx w ρ' (Tr.ofList R.hp) R.nx w') a w
def dropRw (hp : Tr Blk) : List (Nat × Blk) → Tr Blk
  | [] => hp
  | (b, blk) :: l => dropRw (bif blk.isRw then hp.set b none else hp) l
def layAll (hp : Tr Blk) : List (Nat × Blk) → Tr Blk
  | [] => hp
  | (b, blk) :: l => (layAll hp l).set b (some blk)
theorem dropRw_get : ∀ {l : List (Nat × Blk)} {hp : Tr Blk} {b : Nat} {blk : Blk}, (dropRw hp l).get b = some blk → hp.get b = some blk ∧ ∀ k, (b, k) ∈ l → k.isRw = false
  | [], hp, b, blk, h => ⟨h, fun k hk => by cases hk⟩
  | (b', blk') :: l, hp, b, blk, h => by
    unfold dropRw at h
    obtain ⟨h1, h2⟩ := dropRw_get h
    cases hr : blk'.isRw with
    | false =>
      rw [hr] at h1
      refine ⟨h1, fun k hk => ?_⟩
      rcases List.mem_cons.1 hk with e | e
      · cases e; exact hr
      · exact h2 k e
    | true =>
      rw [hr, cond_true, Tr.get_set] at h1
      by_cases hb : b = b'
      · rw [if_pos hb] at h1; cases h1
      · rw [if_neg hb] at h1
        refine ⟨h1, fun k hk => ?_⟩
        rcases List.mem_cons.1 hk with e | e
        · cases e; exact absurd rfl hb
        · exact h2 k e
theorem layAll_get : ∀ {l : List (Nat × Blk)} {hp : Tr Blk} {b : Nat} {blk : Blk}, (layAll hp l).get b = some blk → (Tr.ofList l).get b = some blk ∨ hp.get b = some blk
  | [], hp, b, blk, h => .inr h
  | (b', blk') :: l, hp, b, blk, h => by
    unfold layAll at h
    rw [Tr.get_set] at h
    simp only [Tr.ofList, Tr.get_set]
    by_cases hb : b = b'
    · rw [if_pos hb] at h ⊢; exact .inl h
    · rw [if_neg hb] at h ⊢; exact layAll_get h
end
def layArgs : List AV → Nat → Tr AV → Tr AV
  | [], _, t => t
  | v :: vs, k, t => layArgs vs (k + 1) (t.set k (some v))
theorem layArgs_get : ∀ {vs : List AV} {k : Nat} {t : Tr AV} {i : Nat} {v : AV}, (layArgs vs k t).get i = some v → (∃ j, i = k + j ∧ vs[j]? = some v) ∨ t.get i = some v
  | [], k, t, i, v, h => .inr h
  | x :: vs, k, t, i, v, h => by
    unfold layArgs at h
    rcases layArgs_get h with ⟨j, hj, hv⟩ | h1
    · exact .inl ⟨j + 1, by omega, by simpa using hv⟩
    · rw [Tr.get_set] at h1
      by_cases hi : i = k
      · rw [if_pos hi] at h1; exact .inl ⟨0, by omega, by simpa using h1⟩
      · rw [if_neg hi] at h1; exact .inr h1
def resX (P : Program) (m : M) : List ResultVar → Option (List AV × M)
  | [] => some ([], m)
  | .tmp t :: l => match m.tm.get t, resX P m l with
    | some v, some (vs, m') => some (v :: vs, m')
    | _, _ => none
  | .cell a t :: l => match m.tm.get a with
    | some p => match aLoad P m t p with
      | some (v, m1) => match resX P m1 l with
        | some (vs, m') => some (v :: vs, m')
        | none => none
      | none => none
    | none => none
def tupOf : List AV → AV
  | [v] => v
  | l => .tup l
def rv (tmps : Array Value) : ResultVar → Sem Value
  | .tmp t => pure (tmps.getD t undef)
  | .cell x t => do loadVar t (← asAddr (tmps.getD x undef))
theorem resX_spec {P : Program} : ∀ {l : List ResultVar} {m m' : M} {vs : List AV}, resX P m l = some (vs, m') → Same m m' ∧ (m'.ok → m.ok ∧ ∀ ρ a w, Sim ρ m a w → idsBL m.nx vs = true ∧
    (l.mapM (rv a.tmps)).run P w = .ok (concL ρ vs) w) := by
  intro l
  induction l with
  | nil => intro m m' vs h; cases h; exact ⟨Same.refl m, fun ho => ⟨ho, fun ρ a w hs => ⟨rfl, by simp [concL]⟩⟩⟩
  | cons x l ih =>
    intro m m' vs h
    cases x with
    | tmp t =>
      unfold resX at h
      split at h
      · rename_i v vs' m1 hv hr
        cases h
        obtain ⟨s, k⟩ := ih hr
        refine ⟨s, fun ho => ⟨(k ho).1, fun ρ a w hs => ?_⟩⟩
        obtain ⟨k1, k2⟩ := (k ho).2 ρ a w hs
        obtain ⟨h1, h2⟩ := hs.tms t v hv
        refine ⟨by simp [idsBL, h2, k1], ?_⟩
        rw [List.mapM_cons]
        simp only [rv, Sem.run_bind, Sem.run_pure, Result.andThen_ok, concL, Array.getD_eq_getD_getElem?, h1]
        show ((l.mapM (rv a.tmps)).run P w).andThen _ = _
        rw [k2]
        rfl
      · cases h
    | cell b t =>
      unfold resX at h
      split at h
      · rename_i p hp
        split at h
        · rename_i v m1 hl
          split at h
          · rename_i vs' m2 hr
            cases h
            obtain ⟨s1, k1⟩ := aLoad_pure hl
            have k1 := k1
            obtain ⟨s2, k2⟩ := ih hr
            refine ⟨s1.trans s2, fun ho => ⟨(k1 (k2 ho).1).1, fun ρ a w hs => ?_⟩⟩
            obtain ⟨q1, q2⟩ := (k1 (k2 ho).1).2 ρ w hs.h
            obtain ⟨r1, r2⟩ := (k2 ho).2 ρ a w (hs.same s1)
            obtain ⟨h1, h2⟩ := hs.tms b p hp
            rw [s1.nx] at r1
            refine ⟨by simp [idsBL, q2, r1], ?_⟩
            have hg : a.tmps.getD b undef = conc ρ p := by simp [Array.getD_eq_getD_getElem?, h1]
            have hq : (do loadVar t (← asAddr (conc ρ p)) : Sem Value).run P w = .ok (conc ρ v) w := by
              unfold aLoad at hl
              split at hl
              · simpa [Instr.loadAt, Instr.sureAddr, asAddr, conc] using q1
              · cases hl
            rw [List.mapM_cons]
            simp only [rv, hg]
            rw [Sem.run_bind, hq]
            simp only [Result.andThen_ok, Sem.run_bind]
            show ((l.mapM (rv a.tmps)).run P w).andThen _ = _
            rw [r2]
            rfl
          · cases h
        · cases h
      · cases h
def popX (m : M) : List Nat → Option M
  | [] => some m
  | b :: l => match m.hp.get b with
    | some .mark => popX { m with hp := m.hp.set b none } l
    | _ => none
def callX (P : Program) (prims : Prims) (run : Code → M → Option (Ex × M)) : CallF := fun f args m =>
  match prims f args m.hp m.nx with
  | some (c, v, bs) => match m.must c with
    | some m' => some (.ret v, { m' with hp := addBlks m'.hp m'.nx bs, nx := m'.nx + bs.length })
    | none => none
  | none => match P.funcs[f]? with
    | some fn => match fn.body with
      | some body => match run body { m with nt := ⟨args.length + (fn.ntmps - args.length), []⟩, tm := layArgs args 0 .e } with
        | some (ex, m1) => bif (match ex with | .normal => true | .ret => true | _ => false) then match popX m1 m1.nt.mks with
          | some m2 => match resX P { m2 with nt := ⟨m1.nt.n, []⟩ } fn.results.toList with
            | some (vs, m3) => some (.ret (tupOf vs), { m with hp := m3.hp, nx := m3.nx, plan := m3.plan, owed := m3.owed, eqs := m3.eqs })
            | none => none
          | none => none
          else none
        | none => none
      | none => none
    | none => none
theorem popX_same : ∀ {l : List Nat} {m m2 : M}, popX m l = some m2 → m2 = { m with hp := m2.hp }
  | [], m, m2, h => by cases h; rfl
  | b :: l, m, m2, h => by
    unfold popX at h
    split at h
    · have := popX_same h; rw [this]
    · cases h
theorem HStep.unmark {ρ : Nat → BI} {hp : Tr Blk} {nx : Nat} {w : World} {b : Nat} (h : HSim ρ hp nx w) (hb : hp.get b = some .mark) (o : Obj) : HStep ρ hp nx w ρ (hp.set b none) nx (w.putObj (ρ b).blk o) := by
  have hg : ∀ c k, (hp.set b none).get c = some k → c ≠ b ∧ hp.get c = some k := by
    intro c k hc
    rw [Tr.get_set] at hc
    by_cases e : c = b
    · rw [if_pos e] at hc; cases hc
    · rw [if_neg e] at hc; exact ⟨e, hc⟩
  refine HStep0.make h ⟨Agree.refl _ _, Nat.le_refl _, ⟨fun c k hc => ?_, fun b1 b2 k1 k2 hne h1 h2 hr => h.sep b1 b2 k1 k2 hne (hg _ _ h1).2 (hg _ _ h2).2 hr, fun c k hc => h.wf c k (hg c k hc).2⟩, ⟨rfl, rfl, rfl, by simp, fun n hn hno => ?_⟩, fun c k hc => .inr ⟨c, k, (hg c k hc).2, id, rfl⟩, Own.sub (fun c k hc => (h.wf c k hc).1) fun c k hc => (hg c k hc).2⟩
  · obtain ⟨e, hc⟩ := hg c k hc
    refine Blk.sat_world ?_ (h.sat c k hc)
    exact World.putObj_heap_other (h.sep c b k .mark e hc hb (.inr rfl))
  · exact World.putObj_heap_other (fun e => hno b .mark hb rfl e.symm)
theorem leaves_pop {P : Program} {fn : Func} {tmps : Array Value} {R : Ending → World → Prop} : ∀ (l : List Nat) (m m2 : M), popX m l = some m2 → ∀ ρ0 hp0 nx0 w0 ρ w, HStep ρ0 hp0 nx0 w0 ρ m.hp m.nx w →
    (∀ w2, HStep ρ0 hp0 nx0 w0 ρ m2.hp m2.nx w2 → ∃ v, (results fn tmps).run P w2 = .ok v w2 ∧ R (.returned v) w2) →
    LeavesInM Fence.wide 0 P fn tmps R (l.map (fun b => ({ target := .collected (ρ b).blk, args := #[] } : Deferred))) .returning w := by
  intro l
  induction l with
  | nil => intro m m2 h ρ0 hp0 nx0 w0 ρ w st k; cases h; exact k w st
  | cons b l ih =>
    intro m m2 h ρ0 hp0 nx0 w0 ρ w st k
    unfold popX at h
    split at h
    · rename_i hb
      have hsat := st.sim.sat b _ hb
      refine ⟨by simp, .inl ⟨(ρ b).blk, _, rfl, run_takeDeferred hsat.2, ?_⟩⟩
      exact ih _ _ h ρ0 hp0 nx0 w0 ρ _ (st.trans (HStep.unmark st.sim hb _)) k
    · cases h
theorem results_run {P : Program} {fn : Func} {tmps : Array Value} {w : World} {ρ : Nat → BI} {vs : List AV} (h : (fn.results.toList.mapM (rv tmps)).run P w = .ok (concL ρ vs) w) :
    (results fn tmps).run P w = .ok (conc ρ (tupOf vs)) w := by
  have hf : (fun x : ResultVar => match x with | .tmp t => (pure (tmps.getD t undef) : Sem Value) | .cell a t => do loadVar t (← asAddr (tmps.getD a undef))) = rv tmps := by
    funext x; cases x <;> rfl
  have hm := mapM_toArray (rv tmps) fn.results w h
  unfold results
  rw [Sem.run_bind]
  have : (fn.results.mapM fun x : ResultVar => match x with | .tmp t => (pure (tmps.getD t undef) : Sem Value) | .cell a t => do loadVar t (← asAddr (tmps.getD a undef))) = fn.results.mapM (rv tmps) := by rw [hf]
  show ((fn.results.mapM fun x : ResultVar => match x with | .tmp t => (pure (tmps.getD t undef) : Sem Value) | .cell a t => do loadVar t (← asAddr (tmps.getD a undef))).run P w).andThen _ = _
  rw [this, hm]
  simp only [Result.andThen_ok, Sem.run_pure]
  match vs with
  | [] => rfl
  | [v] => rfl
  | v :: u :: l =>
    have : ¬ ((concL ρ (v :: u :: l)).toArray.size = 1) := by simp [concL]
    rw [dif_neg this]
    rfl
theorem tupOf_idsB {n : Nat} {vs : List AV} (h : idsBL n vs = true) : (tupOf vs).idsB n = true := by
  match vs with
  | [] => rfl
  | [v] => show v.idsB n = true; simpa [idsBL] using h
  | v :: u :: l => exact h
theorem callX_spec {P : Program} {prims : Prims} (hprims : PrimsOK P prims) {run : Code → M → Option (Ex × M)} (hrun : ∀ c m ex m', run c m = some (ex, m') → @XOK env0 P c m ex m') :
    ∀ f args m out m', callX P prims run f args m = some (out, m') → COK P m f args out m' := by
  intro f args m out m' h
  unfold callX at h
  split at h
  · rename_i c v bs hp
    split at h
    · rename_i m1 hm
      cases h
      obtain ⟨s, k⟩ := must_spec hm
      refine ⟨s.nt, s.tm, fun ho => ⟨(k ho).1, fun ρ w hs hi => ?_⟩⟩
      refine (hprims f args m.hp m.nx c v bs hp (k ho).2 ρ w hs hi).mono fun e w' hq => ?_
      obtain ⟨ρ', rfl, h1, h2⟩ := hq
      refine ⟨ρ', rfl, ?_, ?_⟩
      · show v.idsB (m1.nx + bs.length) = true
        rw [s.nx]; exact h1
      · show HStep ρ m.hp m.nx w ρ' (addBlks m1.hp m1.nx bs) (m1.nx + bs.length) w'
        rw [s.hp, s.nx]; exact h2
    · cases h
  · split at h
    · rename_i fn hfn
      split at h
      · rename_i body hbody
        split at h
        · rename_i ex m1 hr
          obtain ⟨hex, h⟩ := bif_some h
          split at h
          · rename_i m2 hpop
            split at h
            · rename_i vs m3 hres
              cases h
              have hx := hrun _ _ _ _ hr
              obtain ⟨s, k⟩ := resX_spec hres
              have hm2 := popX_same hpop
              have ok1 : m3.ok → m1.ok := fun ho => by
                have := (k ho).1
                rw [hm2] at this
                exact this
              have hnp : ex.isPanic = false := by cases ex <;> first | rfl | cases hex
              refine ⟨rfl, rfl, fun ho => ⟨(hx.run (ok1 ho)).1, fun ρ w hs hi => ?_⟩⟩
              have hx2 := (hx.run (ok1 ho)).2
              refine callsIn_wide (n := 0).1 (callsIn_of_wp_marks hfn hbody trivial ?_ rfl)
              have hsz : (concL ρ args).toArray.size = args.length := by simp [concL_length]
              have hsim : @Sim env0 ρ { m with nt := ⟨args.length + (fn.ntmps - args.length), []⟩, tm := layArgs args 0 .e } { tmps := (concL ρ args).toArray ++ Array.replicate (fn.ntmps - (concL ρ args).toArray.size) undef, defers := [] } w := by
                refine ⟨hs, by simp [concL_length], fun t v ht => ?_, ⟨rfl, fun b hb => by cases hb⟩⟩
                rcases layArgs_get ht with ⟨j, hj, hv⟩ | h1
                · have hjl : j < args.length := by
                    rcases Nat.lt_or_ge j args.length with h' | h'
                    · exact h'
                    · rw [List.getElem?_eq_none h'] at hv; cases hv
                  refine ⟨?_, (idsBL_all _ _).1 hi v (List.mem_of_getElem? hv)⟩
                  rw [hj, Nat.zero_add, Array.getElem?_append_left (by rw [hsz]; exact hjl)]
                  simp [concL_map, hv]
                · cases t <;> cases h1
              refine wpIn_mono (hx2 ρ _ w hsim) fun e a' w' hq => ?_
              obtain ⟨ρ', hq⟩ := hq
              have hd := hq.defers hnp
              have hde : a'.defers = m1.nt.mks.map (fun b => ({ target := .collected (ρ' b).blk, args := #[] } : Deferred)) := by
                rw [hd.eq]; exact List.append_nil _
              obtain ⟨f1, f2⟩ := hq.frame hnp
              have key : LeavesInM Fence.wide 0 P fn a'.tmps (fun e w' => ∃ ρ', e = Out.conc ρ' (.ret (tupOf vs)) ∧ (Out.ret (tupOf vs)).idsB m3.nx = true ∧ HStep ρ m.hp m.nx w ρ' m3.hp m3.nx w') a'.defers .returning w' := by
                rw [hde]
                refine leaves_pop _ m1 m2 hpop ρ m.hp m.nx w ρ' w' hq.h fun w2 st => ?_
                have hs2 : @Sim env0 ρ' { m2 with nt := ⟨m1.nt.n, []⟩ } { tmps := a'.tmps, defers := [] } w2 := by
                  refine ⟨st.sim, f1, fun t v hv => ?_, ⟨rfl, fun b hb => by cases hb⟩⟩
                  have htm : m2.tm = m1.tm := by rw [hm2]
                  have hnx : m2.nx = m1.nx := by rw [hm2]
                  have hv : m2.tm.get t = some v := hv
                  rw [htm] at hv
                  obtain ⟨g1, g2⟩ := f2 t v hv
                  exact ⟨g1, by show v.idsB m2.nx = true; rw [hnx]; exact g2⟩
                obtain ⟨k1, k2⟩ := (k ho).2 ρ' _ w2 hs2
                refine ⟨_, results_run k2, ρ', rfl, ?_, ?_⟩
                · show (tupOf vs).idsB m3.nx = true
                  rw [s.nx]; exact tupOf_idsB k1
                · rw [s.hp, s.nx]; exact st
              have he := hq.e
              cases ex with
              | normal => subst he; exact key
              | ret => subst he; exact key
              | exit id => cases hex
              | panic v => cases hex
            · cases h
          · cases h
        · cases h
      · cases h
    · cases h
section
variable [Inhabited EnvT]
theorem rounds_mono {P : Program} {c : Code} {Q Q' : Exit → Act → World → Prop} (hq : ∀ e a w, Q e a w → Q' e a w) : ∀ {n : Nat} {a : Act} {w : World}, roundsE P c Q n a w → roundsE P c Q' n a w
  | 0, _, _, h => h.elim
  | n + 1, a, w, h => by
    rw [roundsE_succ] at h ⊢
    refine wpE_mono h fun e a' w' he => ?_
    cases e with
    | normal => exact rounds_mono hq he
    | _ => exact hq _ _ _ he
def loopX (run : M → Option (Ex × M)) : Nat → M → Option (Ex × M)
  | 0, _ => none
  | k + 1, m => match run m with
    | some (.normal, m1) => loopX run k m1
    | r => r
theorem loopX_spec {P : Program} {c : Code} {run : M → Option (Ex × M)} (hrun : ∀ m ex m', run m = some (ex, m') → XOK P c m ex m') :
    ∀ (k : Nat) {m m' : M} {ex : Ex}, loopX run k m = some (ex, m') → m'.nt.n = m.nt.n ∧ (m'.ok → m.ok ∧ ∀ ρ a w, Sim ρ m a w → roundsE P c (fun e a' w' => ∃ ρ', Post ρ m w ex m' ρ' e a' w') k a w) := by
  intro k
  induction k with
  | zero => intro m m' ex h; cases h
  | succ k ih =>
    intro m m' ex h
    unfold loopX at h
    split at h
    · rename_i m1 h1
      have x1 := hrun _ _ _ h1
      obtain ⟨q1, q2⟩ := ih h
      refine ⟨q1.trans x1.nt, fun ho => ?_⟩
      obtain ⟨o1, r2⟩ := q2 ho
      obtain ⟨o0, r1⟩ := x1.run o1
      refine ⟨o0, fun ρ a w hs => ?_⟩
      rw [roundsE_succ]
      refine wpE_mono (r1 ρ a w hs) fun e a1 w1 hq => ?_
      obtain ⟨ρ1, hq⟩ := hq
      have he : e = .normal := hq.e
      subst he
      exact rounds_mono (fun e a' w' hq2 => by obtain ⟨ρ2, hq2⟩ := hq2; exact ⟨ρ2, Post.trans hq.h hq2⟩) (r2 ρ1 a1 w1 (Sim.post hq rfl))
    · rename_i hno
      have x1 := hrun _ _ _ h
      refine ⟨x1.nt, fun ho => ⟨(x1.run ho).1, fun ρ a w hs => ?_⟩⟩
      rw [roundsE_succ]
      refine wpE_mono ((x1.run ho).2 ρ a w hs) fun e a1 w1 hq => ?_
      obtain ⟨ρ1, hq⟩ := hq
      have hne : e ≠ .normal := by
        intro he
        have h1 := hq.e
        rw [he] at h1
        cases ex with
        | normal => exact hno _ h
        | exit id => cases h1
        | ret => cases h1
        | panic v => cases h1
      cases e with
      | normal => exact absurd rfl hne
      | _ => exact ⟨ρ1, hq⟩
def loopPlan (P : Program) (body : Code) (m : M) : Option (Option (Ex × M)) :=
  match m.plan with
  | .loop I ex R :: r => bif Nat.beq I.nx m.nx && !ex.isPanic then
      some (some (ex, { m with plan := r, tm := Tr.ofList R.tm, hp := layAll (dropRw m.hp I.hp) R.hp, nx := R.nx, owed := m.owed ∧ LoopOK P body m.nt.n I ex R, eqs := SL.need m I ++ m.eqs }))
    else some none
  | _ => none
def rangePlan (P : Program) (c : Code) (m : M) : Option (Ex × M) :=
  match m.plan with
  | .loop I .normal R :: r => bif Nat.beq I.nx m.nx then
      some (.normal, { m with nt := ⟨m.nt.n, m.nx :: m.nt.mks⟩, plan := r, hp := layAll (dropRw m.hp I.hp) R.hp, nx := R.nx, owed := m.owed ∧ RangeOK P c m.nt.n I R, eqs := SL.need m I ++ m.eqs })
    else none
  | _ => none
def exec (P : Program) (prims : Prims) (draw : CallF → Array Oper → M → Option (Ex × M)) (rf : Bool) : Nat → Code → M → Option (Ex × M)
  | 0, _, _ => none
  | n + 1, c, m => match c with
    | .skip => some (.normal, m)
    | .ret => some (.ret, m)
    | .exit id => some (.exit id, m)
    | .region _ ops false => bif noDefer ops then opsX P (callX P prims (exec P prims draw true n)) ops ops.toList m else none
    | .region _ ops true => bif noDefer ops then draw (callX P prims (exec P prims draw true n)) ops m else none
    | .seq a b => match exec P prims draw rf n a m with
      | some (.normal, m1) => exec P prims draw rf n b m1
      | r => r
    | .cond (.tmp t) a b => match m.slot t with
      | some (true, m1) => exec P prims draw rf n a m1
      | some (false, m1) => exec P prims draw rf n b m1
      | none => none
    | .block id a => match exec P prims draw rf n a m with
      | some (.exit j, m1) => bif Nat.beq j id then some (.normal, m1) else some (.exit j, m1)
      | r => r
    | .loop a => bif rf then match loopPlan P a m with
      | some r => r
      | none => loopX (exec P prims draw rf n a) n m
      else loopX (exec P prims draw rf n a) n m
    | .scope a => exec P prims draw rf n a m
    | .rangeFunc g ps a b => bif rf then rangePlan P (.rangeFunc g ps a b) m else none
    | _ => none
def DrawOK (P : Program) (draw : CallF → Array Oper → M → Option (Ex × M)) : Prop :=
  ∀ (call : CallF), (∀ f args m out m', call f args m = some (out, m') → COK P m f args out m') → ∀ id ops m ex m', noDefer ops = true → draw call ops m = some (ex, m') → XOK P (.region id ops true) m ex m'
theorem LoopOK.go {P : Program} {body : Code} {nt : Nat} {I R : SL} {ex : Ex} (h : LoopOK P body nt I ex R) (e : Inhabited EnvT) (hro : e.default.ro = none) (ρ : Nat → BI) (a : Act) (w : World) (hs : @Sim e ρ (I.m nt) a w) :
    @Code.wpE e P (.loop body) (fun x a' w' => ∃ ρ', x = ex.conc ρ' ∧ ex.idsB R.nx = true ∧ HStep ρ (Tr.ofList I.hp) I.nx w ρ' (Tr.ofList R.hp) R.nx w' ∧
      (ex.isPanic = false → a'.defers = e.default.D ∧ a'.tmps.size = nt ∧ ∀ t v, (Tr.ofList R.tm).get t = some v → a'.tmps[t]? = some (conc ρ' v) ∧ v.idsB R.nx = true)) a w := by
  have hl := (h e hro).run ⟨trivial, fun p hp => by cases hp⟩
  refine wpE_mono (hl.2 ρ a w hs) fun x a' w' hq => ?_
  obtain ⟨ρ', hq⟩ := hq
  exact ⟨ρ', hq.e, hq.ids, hq.h, fun hp => ⟨(hq.defers hp).eq, (hq.frame hp).1, (hq.frame hp).2⟩⟩
theorem loopPlan_spec {P : Program} {body : Code} {m m' : M} {ex : Ex} (hro : (default : EnvT).ro = none) (h : loopPlan P body m = some (some (ex, m'))) : XOK P (.loop body) m ex m' := by
  unfold loopPlan at h
  split at h
  · rename_i I ex' R r hp
    cases hb : Nat.beq I.nx m.nx && !ex'.isPanic with
    | false => rw [hb] at h; cases h
    | true =>
      rw [hb] at h; cases h
      simp only [Bool.and_eq_true, Bool.not_eq_true'] at hb
      have hnx : I.nx = m.nx := Nat.eq_of_beq_eq_true hb.1
      refine ⟨rfl, fun ho => ?_⟩
      have howed : m.owed ∧ LoopOK P body m.nt.n I ex R := ho.1
      have heqs : ∀ p ∈ SL.need m I ++ m.eqs, p.1 = p.2 := ho.2
      refine ⟨⟨howed.1, fun p hp => heqs p (List.mem_append_right _ hp)⟩, fun ρ a w hs => ?_⟩
      have hneed : ∀ p ∈ SL.need m I, p.1 = p.2 := fun p hp => heqs p (List.mem_append_left _ hp)
      obtain ⟨n1, n2⟩ := need_spec hneed
      have hsI := need_sim hs hneed hnx
      have hl := howed.2.go ⟨⟨a.defers, (default : EnvT).ro⟩⟩ hro ρ a w hsI
      refine wpE_mono hl fun e a' w' hq => ?_
      obtain ⟨ρ', q1, q2, q3, q4⟩ := hq
      rw [hnx] at q3
      refine ⟨ρ', q1, q2, ?_, fun hpn => ?_, fun hpn => (q4 hpn).2⟩
      rotate_left
      · have hd : a'.defers = a.defers := (q4 hpn).1
        rw [hd]
        exact hs.defers.step q3.agree q3.le
      refine HStep.frame hs.h n2 q3 fun b blk hb => ?_
      rcases layAll_get hb with h1 | h1
      · exact .inl h1
      · obtain ⟨h2, h3⟩ := dropRw_get h1
        exact .inr ⟨h2, fun k hk => h3 k (ofList_mem hk)⟩
  · cases h
theorem rangePlan_spec {P : Program} {c : Code} {m m' : M} {ex : Ex} (hro : (default : EnvT).ro = none) (h : rangePlan P c m = some (ex, m')) : XOK P c m ex m' := by
  unfold rangePlan at h
  split at h
  · rename_i I R r hp
    obtain ⟨hb, h⟩ := bif_some h
    cases h
    have hnx : I.nx = m.nx := Nat.eq_of_beq_eq_true hb
    refine ⟨rfl, fun ho => ?_⟩
    have howed : m.owed ∧ RangeOK P c m.nt.n I R := ho.1
    have heqs : ∀ p ∈ SL.need m I ++ m.eqs, p.1 = p.2 := ho.2
    refine ⟨⟨howed.1, fun p hp => heqs p (List.mem_append_right _ hp)⟩, fun ρ a w hs => ?_⟩
    have hneed : ∀ p ∈ SL.need m I, p.1 = p.2 := fun p hp => heqs p (List.mem_append_left _ hp)
    obtain ⟨n1, n2⟩ := need_spec hneed
    have hsI := need_sim hs hneed hnx
    have hl := howed.2 ⟨⟨a.defers, (default : EnvT).ro⟩⟩ hro ρ a w hsI
    refine wpE_mono hl fun e a' w' hq => ?_
    obtain ⟨he, ht, ρ', hd, hlt, hst⟩ := hq
    rw [hnx] at hst hd hlt
    refine ⟨ρ', he, rfl, ?_, fun _ => ⟨?_, fun b hb => ?_⟩, fun _ => ⟨by rw [ht]; exact hs.size, fun t v hv => ?_⟩⟩
    · refine HStep.frame hs.h n2 hst fun b blk hb => ?_
      rcases layAll_get hb with h1 | h1
      · exact .inl h1
      · obtain ⟨h2, h3⟩ := dropRw_get h1
        exact .inr ⟨h2, fun k hk => h3 k (ofList_mem hk)⟩
    · rw [hd, (hs.defers.step hst.agree hst.le).eq]; rfl
    · rcases List.mem_cons.1 hb with e | e
      · rw [e]; exact hlt
      · exact Nat.lt_trans (hs.defers.lt b e) hlt
    · obtain ⟨k1, k2⟩ := hs.tms t v hv
      exact ⟨by rw [ht, k1, conc_agree hst.agree v k2], SX.idsB_mono hst.le v k2⟩
  · cases h
theorem exec_spec {P : Program} {prims : Prims} (hprims : PrimsOK P prims) {draw : CallF → Array Oper → M → Option (Ex × M)} (hdraw : ∀ e, @DrawOK e P draw) :
    ∀ (n : Nat) (rf : Bool) (e : Inhabited EnvT), (rf = true → e.default.ro = none) → ∀ (c : Code) (m : M) (ex : Ex) (m' : M), exec P prims draw rf n c m = some (ex, m') → @XOK e P c m ex m' := by
  intro n
  induction n with
  | zero => intro rf e he c m ex m' h; cases h
  | succ n ih0 =>
    intro rf e he c m ex m' h
    have hcall := callX_spec hprims (run := exec P prims draw true n) (ih0 true env0 fun _ => rfl)
    have ih := ih0 rf e he
    unfold exec at h
    split at h
    · cases h
      exact ⟨rfl, fun ho => ⟨ho, fun ρ a w hs => wpE_skip ⟨ρ, rfl, rfl, HStep.refl hs.h, fun _ => hs.defers, fun _ => ⟨hs.size, hs.tms⟩⟩⟩⟩
    · cases h
      exact ⟨rfl, fun ho => ⟨ho, fun ρ a w hs => wpE_ret ⟨ρ, rfl, rfl, HStep.refl hs.h, fun _ => hs.defers, fun _ => ⟨hs.size, hs.tms⟩⟩⟩⟩
    · cases h
      exact ⟨rfl, fun ho => ⟨ho, fun ρ a w hs => wpE_exit ⟨ρ, rfl, rfl, HStep.refl hs.h, fun _ => hs.defers, fun _ => ⟨hs.size, hs.tms⟩⟩⟩⟩
    · rename_i id ops
      obtain ⟨hnd, h⟩ := bif_some h
      obtain ⟨h1, h2⟩ := opsX_spec hcall ops.toList 0 (fun i => by simp) h
      refine ⟨congrArg NT.n h1, fun ho => ⟨(h2 ho).1, fun ρ a w hs => wpE_region Post.noOut hnd ?_⟩⟩
      have := (h2 ho).2 ρ a w hs
      rw [Array.length_toList] at this
      rw [List.range_eq_range']
      exact this
    · obtain ⟨hnd, h⟩ := bif_some h
      exact hdraw e _ hcall _ _ _ _ _ hnd h
    ·
      rename_i a b
      split at h
      · rename_i m1 h1
        have x1 := ih _ _ _ _ h1
        have x2 := ih _ _ _ _ h
        refine ⟨x2.nt.trans x1.nt, fun ho => ?_⟩
        obtain ⟨o1, r2⟩ := x2.run ho
        obtain ⟨o0, r1⟩ := x1.run o1
        refine ⟨o0, fun ρ a' w hs => wpE_seq (wpE_mono (r1 ρ a' w hs) fun e a1 w1 hq => ?_)⟩
        obtain ⟨ρ1, hq⟩ := hq
        have he : e = .normal := hq.e
        subst he
        refine wpE_mono (r2 ρ1 a1 w1 (Sim.post hq rfl)) fun e2 a2 w2 hq2 => ?_
        obtain ⟨ρ2, hq2⟩ := hq2
        exact ⟨ρ2, Post.trans hq.h hq2⟩
      · rename_i hno
        have x1 := ih _ _ _ _ h
        refine ⟨x1.nt, fun ho => ⟨(x1.run ho).1, fun ρ a' w hs => wpE_seq (wpE_mono ((x1.run ho).2 ρ a' w hs) fun e a1 w1 hq => ?_)⟩⟩
        obtain ⟨ρ1, hq⟩ := hq
        have hne : e ≠ .normal := by
          intro he
          have h1 := hq.e
          rw [he] at h1
          cases ex with
          | normal => exact hno _ h
          | exit id => cases h1
          | ret => cases h1
          | panic v => cases h1
        cases e with
        | normal => exact absurd rfl hne
        | _ => exact ⟨ρ1, hq⟩
    ·
      rename_i t x y
      split at h
      · rename_i m1 hs1
        obtain ⟨g1, g2, g3, g4⟩ := slot_spec hs1
        have x1 := ih _ _ _ _ h
        refine ⟨x1.nt.trans (congrArg NT.n g1), fun ho => ?_⟩
        obtain ⟨o1, r1⟩ := x1.run ho
        refine ⟨(g4 o1).1, fun ρ a w hs => ?_⟩
        obtain ⟨k1, k2⟩ := (g4 o1).2 ρ a w hs
        refine wpE_cond_true (by simp [Act.eval, Array.getD_eq_getD_getElem?, k2]) (wpE_mono (r1 ρ a w k1) fun e a' w' hq => ?_)
        obtain ⟨ρ', hq⟩ := hq
        exact ⟨ρ', hq.e, hq.ids, by have := hq.h; rw [g2, g3] at this; exact this, hq.defers, hq.frame⟩
      · rename_i m1 hs1
        obtain ⟨g1, g2, g3, g4⟩ := slot_spec hs1
        have x1 := ih _ _ _ _ h
        refine ⟨x1.nt.trans (congrArg NT.n g1), fun ho => ?_⟩
        obtain ⟨o1, r1⟩ := x1.run ho
        refine ⟨(g4 o1).1, fun ρ a w hs => ?_⟩
        obtain ⟨k1, k2⟩ := (g4 o1).2 ρ a w hs
        refine wpE_cond_false (by simp [Act.eval, Array.getD_eq_getD_getElem?, k2]) (wpE_mono (r1 ρ a w k1) fun e a' w' hq => ?_)
        obtain ⟨ρ', hq⟩ := hq
        exact ⟨ρ', hq.e, hq.ids, by have := hq.h; rw [g2, g3] at this; exact this, hq.defers, hq.frame⟩
      · cases h
    ·
      rename_i id a
      split at h
      · rename_i j m1 h1
        have x1 := ih _ _ _ _ h1
        cases hj : Nat.beq j id with
        | true =>
          rw [hj] at h; cases h
          have hj := Nat.eq_of_beq_eq_true hj
          refine ⟨x1.nt, fun ho => ⟨(x1.run ho).1, fun ρ a' w hs => wpE_block (wpE_mono ((x1.run ho).2 ρ a' w hs) fun e a1 w1 hq => ?_)⟩⟩
          obtain ⟨ρ1, hq⟩ := hq
          have he : e = .exit j := hq.e
          subst he
          simp only [Exit.inBlock, hj, if_true]
          exact ⟨ρ1, rfl, rfl, hq.h, fun _ => hq.defers rfl, fun _ => hq.frame rfl⟩
        | false =>
          rw [hj] at h; cases h
          have hj := Nat.ne_of_beq_eq_false hj
          refine ⟨x1.nt, fun ho => ⟨(x1.run ho).1, fun ρ a' w hs => wpE_block (wpE_mono ((x1.run ho).2 ρ a' w hs) fun e a1 w1 hq => ?_)⟩⟩
          obtain ⟨ρ1, hq⟩ := hq
          have he : e = .exit j := hq.e
          subst he
          simp only [Exit.inBlock, hj, if_false]
          exact ⟨ρ1, hq⟩
      · rename_i hno
        have x1 := ih _ _ _ _ h
        refine ⟨x1.nt, fun ho => ⟨(x1.run ho).1, fun ρ a' w hs => wpE_block (wpE_mono ((x1.run ho).2 ρ a' w hs) fun e a1 w1 hq => ?_)⟩⟩
        obtain ⟨ρ1, hq⟩ := hq
        have hne : ∀ j, e ≠ .exit j := by
          intro j he
          have h1 := hq.e
          rw [he] at h1
          cases ex with
          | normal => cases h1
          | exit id => exact hno _ _ h
          | ret => cases h1
          | panic v => cases h1
        cases e with
        | exit j => exact absurd rfl (hne j)
        | _ => exact ⟨ρ1, hq⟩
    ·
      rename_i a
      have rounds : loopX (exec P prims draw rf n a) n m = some (ex, m') → XOK P (.loop a) m ex m' := fun h => by
        obtain ⟨q1, q2⟩ := loopX_spec (fun m ex m' h => ih _ _ _ _ h) n h
        exact ⟨q1, fun ho => ⟨(q2 ho).1, fun ρ a' w hs => wpE_loop_rounds n ((q2 ho).2 ρ a' w hs)⟩⟩
      cases rf with
      | false => exact rounds h
      | true =>
        rw [cond_true] at h
        split at h
        · rename_i r hl
          subst h
          exact loopPlan_spec (he rfl) hl
        · exact rounds h
    ·
      rename_i a
      have x1 := ih _ _ _ _ h
      refine ⟨x1.nt, fun ho => ⟨(x1.run ho).1, fun ρ a' w hs => wpE_scope ((x1.run ho).2 ρ a' w hs) fun l a2 w2 hq => ?_⟩⟩
      obtain ⟨ρ1, hq⟩ := hq
      have h1 := hq.e
      cases ex <;> cases h1
    ·
      obtain ⟨hrf, h⟩ := bif_some h
      exact rangePlan_spec (he hrf) h
    · cases h
end
end Go.Proofs.YtpdgmgkkbbndfaaGreatDoor.SX

namespace Go.Proofs.YtpdgmgkkbbndfaaGreatDoor.SX
open Go
def anc (ops : Array Oper) : Nat → Nat → Nat → Bool
  | 0, _, _ => false
  | n + 1, i, j => match ops[i]? with
    | some o => o.after.toList.any fun e => Region.binds .any e && (Nat.beq e.on j || anc ops n e.on j)
    | none => false
def Closed (ops : Array Oper) (listed : Array Bool) : Prop := ∀ i o, ops[i]? = some o → listed.getD i false = true → ∀ e ∈ o.after, Region.binds .any e = true → listed.getD e.on false = true
theorem anc_listed {ops : Array Oper} {listed : Array Bool} (hc : Closed ops listed) {j : Nat} : ∀ (n i : Nat) (o : Oper), ops[i]? = some o → (∀ e ∈ o.after, Region.binds .any e = true → listed.getD e.on false = true) → anc ops n i j = true → listed.getD j false = true := by
  intro n
  induction n with
  | zero => intro i o _ _ h; cases h
  | succ n ih =>
    intro i o ho hall h
    unfold anc at h
    rw [ho] at h
    simp only [List.any_eq_true, Bool.and_eq_true, Bool.or_eq_true] at h
    obtain ⟨e, he, hb, h⟩ := h
    have hl := hall e (by simpa using he) hb
    rcases h with h | h
    · rw [← Nat.eq_of_beq_eq_true h]; exact hl
    · cases hoe : ops[e.on]? with
      | none => cases n with
        | zero => cases h
        | succ n => unfold anc at h; rw [hoe] at h; cases h
      | some oe => exact ih e.on oe hoe (hc e.on oe hoe hl) h
theorem closed_none (ops : Array Oper) (n : Nat) : Closed ops (Array.replicate n false) := by
  intro i o _ h
  simp [Array.getD_eq_getD_getElem?, Array.getElem?_replicate] at h
  split at h <;> simp at h
theorem closed_set {ops : Array Oper} {listed : Array Bool} {i : Nat} (hc : Closed ops listed) (hi : i ∈ Region.ready .any ops listed) : Closed ops (listed.setIfInBounds i true) := by
  obtain ⟨h0, oi, hoi, hall⟩ := mem_ready.1 hi
  intro k o ho hk e he hb
  refine getD_set_true ?_
  by_cases hki : i = k
  · subst hki
    rw [hoi] at ho; cases ho
    exact hall e he hb
  · rw [getD_set_ne false hki] at hk
    exact hc k o ho hk e he hb
abbrev HL := List (Nat × Blk × Bool × Nat)
def rels (ops : Array Oper) (i : Nat) (h : HL) : HL := h.filter fun p => !anc ops ops.size i p.2.2.2
def wpAnyR (P : Program) (ops : Array Oper) (Q : Exit → Act → World → Prop) (S : HL → World → Prop) : Nat → HL → Array Bool → Act → World → Prop
  | 0, h, listed, a, w => Region.ready .any ops listed = [] ∧ Q .normal a w
  | fuel + 1, h, listed, a, w =>
    (Region.ready .any ops listed = [] → Q .normal a w) ∧
    ∀ i ∈ Region.ready .any ops listed, wpOp P ops Q i (fun a' w' => S (rels ops i h) w' ∧ wpAnyR P ops Q S fuel (rels ops i h) (listed.setIfInBounds i true) a' w') a w
section
variable {P : Program} {ops : Array Oper} {Q Q' : Exit → Act → World → Prop} {S S' : HL → World → Prop}
theorem wpAny_of_R : ∀ {fuel : Nat} {h : HL} {listed : Array Bool} {a : Act} {w : World}, wpAnyR P ops Q S fuel h listed a w → wpAny P .any ops Q fuel listed a w
  | 0, _, _, _, _, h => h
  | fuel + 1, _, _, _, _, h => ⟨h.1, fun i hi => wpOp_mono (fun a' w' h' => wpAny_of_R h'.2) (h.2 i hi)⟩
theorem wpOp_monoQ {K K' : Act → World → Prop} (hk : ∀ a w, K a w → K' a w) (hq : ∀ e a w, Q e a w → Q' e a w) {i : Nat} {a : Act} {w : World} (h : wpOp P ops Q i K a w) : wpOp P ops Q' i K' a w := by
  unfold wpOp at h ⊢
  cases ho : ops[i]? with
  | none => simp only [ho] at h ⊢; exact hk _ _ h
  | some o =>
    simp only [ho] at h ⊢
    by_cases hw : Region.wanted o (yielded ops a.tmps) = true
    · rw [if_pos hw] at h ⊢
      rcases h with h | ⟨h2, a', w', h3⟩
      · exact .inl (upon_mono2 hk hq _ h)
      · exact .inr ⟨h2, a', w', hq _ _ _ h3⟩
    · rw [if_neg hw] at h ⊢
      exact hk _ _ h
theorem rels_sub {i : Nat} {h h' : HL} (hs : ∀ p ∈ h, p ∈ h') : ∀ p ∈ rels ops i h, p ∈ rels ops i h' := fun p hp => by
  obtain ⟨h1, h2⟩ := List.mem_filter.1 hp
  exact List.mem_filter.2 ⟨hs p h1, h2⟩
theorem wpAnyR_mono (hS : ∀ (h h' : HL) w, (∀ p ∈ h, p ∈ h') → S h' w → S' h w) (hQ : ∀ e a w, Q e a w → Q' e a w) : ∀ {fuel : Nat} {h h' : HL} {listed : Array Bool} {a : Act} {w : World}, (∀ p ∈ h, p ∈ h') →
    wpAnyR P ops Q S fuel h' listed a w → wpAnyR P ops Q' S' fuel h listed a w
  | 0, _, _, _, _, _, _, h => ⟨h.1, hQ _ _ _ h.2⟩
  | fuel + 1, _, _, _, _, _, hs, h => ⟨fun h0 => hQ _ _ _ (h.1 h0), fun i hi => wpOp_monoQ (fun a' w' h' => ⟨hS _ _ _ (rels_sub hs) h'.1, wpAnyR_mono hS hQ (rels_sub hs) h'.2⟩) hQ (h.2 i hi)⟩
theorem wpAnyR_first (hS : ∀ (h h' : HL) w, (∀ p ∈ h, p ∈ h') → S h' w → S h w) {i : Nat} {oi : Oper} {v : Value} {h1 : HL} (hi : ops[i]? = some oi) (hidx : ∀ p ∈ h1, p.2.2.2 = i)
    (hsel : ∀ (j : Nat) (o : Oper) cs b, ops[j]? = some o → o.op ≠ .select cs b) (hQ : ∀ c a w, Q (.panic c) (a.put oi.dst v) w → Q (.panic c) a w) :
    ∀ (fuel : Nat) (h : HL) (listed : Array Bool) (a : Act) (w : World), Closed ops listed →
      (∀ j oj, ops[j]? = some oj → j ≠ i → listed.getD j true = false → (∀ e ∈ oj.after, Region.binds .any e = true → e.on ≠ i) → oi.apart ops oj = true) →
      i ∈ Region.ready .any ops listed → YieldsIf P ops (S h1) oi v a → S (h1 ++ h) w →
      wpAnyR P ops Q S fuel (h1 ++ h) (listed.setIfInBounds i true) (a.put oi.dst v) w → wpAnyR P ops Q S (fuel + 1) h listed a w := by
  have sub1 : ∀ (h : HL), ∀ p ∈ h1, p ∈ h1 ++ h := fun h p hp => List.mem_append_left _ hp
  have sub2 : ∀ (h : HL), ∀ p ∈ h, p ∈ h1 ++ h := fun h p hp => List.mem_append_right _ hp
  have sub3 : ∀ (k : Nat) (h : HL), ∀ p ∈ rels ops k h, p ∈ h1 ++ h := fun k h p hp => List.mem_append_right _ (List.mem_filter.1 hp).1
  intro fuel
  induction fuel with
  | zero =>
    intro h listed a w hcl _ hr hy hSw H
    refine ⟨fun h => (by rw [h] at hr; cases hr), fun j hj => ?_⟩
    by_cases hji : j = i
    · subst hji
      exact hy.wpOp hi (hS _ _ _ (sub1 h) hSw) ⟨hS _ _ _ (sub3 _ h) hSw, wpAnyR_mono hS (fun _ _ _ h => h) (sub3 _ h) H⟩
    · have := ready_mono hj hji
      rw [H.1] at this
      cases this
  | succ fuel ih =>
    intro h listed a w hcl hfree hr hy hSw H
    refine ⟨fun h => (by rw [h] at hr; cases hr), fun j hj => ?_⟩
    by_cases hji : j = i
    · subst hji
      exact hy.wpOp hi (hS _ _ _ (sub1 h) hSw) ⟨hS _ _ _ (sub3 _ h) hSw, wpAnyR_mono hS (fun _ _ _ h => h) (sub3 _ h) H⟩
    · have h2 := H.2 j (ready_mono hj hji)
      obtain ⟨hjun, oj, hoj, hall⟩ := mem_ready.1 hj
      have hiun : listed.getD i false = false := by
        have h0 := (mem_ready.1 hr).1
        rcases Nat.lt_or_ge i listed.size with h' | h'
        · simp [h'] at h0 ⊢; exact h0
        · simp [Array.getElem?_eq_none h'] at h0
      have hnot : ∀ e ∈ oj.after, Region.binds .any e = true → e.on ≠ i := fun e he hb heq => by
        have h1 := hall e he hb
        rw [heq, hiun] at h1; cases h1
      have hanc : anc ops ops.size j i = false := by
        cases hc : anc ops ops.size j i with
        | false => rfl
        | true =>
          have := anc_listed hcl _ j oj hoj hall hc
          rw [hiun] at this; cases this
      have hrel : ∀ (h : HL), rels ops j (h1 ++ h) = h1 ++ rels ops j h := fun h => by
        unfold rels
        rw [List.filter_append]
        congr 1
        exact List.filter_eq_self.2 fun p hp => by rw [hidx p hp, hanc]; rfl
      have h3 := wpOp_putIf hoj (hfree j oj hoj hji hjun hnot) (fun cs b => hsel i oi cs b hi) (fun cs b => hsel j oj cs b hoj) hQ hy h2
      have hfree' : ∀ k ok, ops[k]? = some ok → k ≠ i → (listed.setIfInBounds j true).getD k true = false →
          (∀ e ∈ ok.after, Region.binds .any e = true → e.on ≠ i) → oi.apart ops ok = true := fun k ok hk hki hun hno => by
        refine hfree k ok hk hki ?_ hno
        by_cases hjk : j = k
        · subst hjk; exact hjun
        · rw [getD_set_ne true hjk] at hun; exact hun
      refine wpOp_mono (fun a' w' h4 => ?_) h3
      rw [hrel] at h4
      refine ⟨hS _ _ _ (sub2 _) h4.2.1, ih (rels ops j h) (listed.setIfInBounds j true) a' w' (closed_set hcl hj) hfree' (ready_mono hr (Ne.symm hji)) h4.1 h4.2.1 ?_⟩
      rw [Array.setIfInBounds_comm _ _ hji]
      exact h4.2.2
theorem wpAnyR_take (hS : ∀ (h h' : HL) w, (∀ p ∈ h, p ∈ h') → S h' w → S h w) {i : Nat} {oi : Oper} {v : Value} {h1 h : HL} {fuel : Nat} {listed : Array Bool} {a : Act} {w : World} (hi : ops[i]? = some oi) (hidx : ∀ p ∈ h1, p.2.2.2 = i)
    (hs : Region.noSelect ops = true) (hf : Region.free .any ops listed i = true) (hr : (Region.ready .any ops listed).contains i = true) (hcl : Closed ops listed)
    (hQ : ∀ c a w, Q (.panic c) (a.put oi.dst v) w → Q (.panic c) a w) (hy : YieldsIf P ops (S h1) oi v a) (hSw : S (h1 ++ h) w)
    (hx : wpAnyR P ops Q S fuel (h1 ++ h) (listed.setIfInBounds i true) (a.put oi.dst v) w) : wpAnyR P ops Q S (fuel + 1) h listed a w :=
  wpAnyR_first hS hi hidx (Region.noSelect_spec hs) hQ fuel h listed a w hcl (Region.free_spec hi hf) (by simpa using hr) hy hSw hx
theorem wpAnyR_all {rs : List Nat} {fuel : Nat} {h : HL} {listed : Array Bool} {a : Act} {w : World} (hr : Region.ready .any ops listed = rs) (hne : rs ≠ [])
    (hx : ∀ i ∈ rs, wpOp P ops Q i (fun a' w' => S (rels ops i h) w' ∧ wpAnyR P ops Q S fuel (rels ops i h) (listed.setIfInBounds i true) a' w') a w) : wpAnyR P ops Q S (fuel + 1) h listed a w :=
  ⟨fun h0 => absurd (hr ▸ h0) hne, hr ▸ hx⟩
theorem wpAnyR_done {listed : Array Bool} {h : HL} {a : Act} {w : World} (hr : Region.ready .any ops listed = []) (hq : Q .normal a w) : ∀ fuel, wpAnyR P ops Q S fuel h listed a w
  | 0 => ⟨hr, hq⟩
  | _ + 1 => ⟨fun _ => hq, by rw [hr]; simp⟩
end
section
variable [Inhabited EnvT]
theorem wpE_region_any {P : Program} {Q : Exit → Act → World → Prop} {a : Act} {w : World} {id : Nat} {ops : Array Oper} (hQ : ¬ LetsOut Q) (hd : noDefer ops = true) (hm : P.follows .mixedOrders = true)
    (h : wpAny P .any ops Q ops.size (Array.replicate ops.size false) a { w with drawn := w.drawn + 1 }) : (Code.region id ops true).wpE P Q a w := wpIn_region_any hm (wpAny_in hQ hd h)
end
end Go.Proofs.YtpdgmgkkbbndfaaGreatDoor.SX

namespace Go.Proofs.YtpdgmgkkbbndfaaGreatDoor.SX
open Go
variable [Inhabited EnvT]
mutual
def ren (σ : Nat → Nat) : AV → AV
  | .ptr l => .ptr ⟨σ l.b, l.i, l.j⟩
  | .sl l n c => .sl ⟨σ l.b, l.i, l.j⟩ n c
  | .map b => .map (σ b)
  | .slq b n => .slq (σ b) n
  | .fn f a c => .fn f (renL σ a) (renL σ c)
  | .iface t v => .iface t (ren σ v)
  | .agg l => .agg (renL σ l)
  | .tup l => .tup (renL σ l)
  | .undef => .undef
  | .bool b => .bool b
  | .lit b => .lit b
  | .int k n => .int k n
  | .str s => .str s
  | .nilPtr => .nilPtr
  | .nilSl => .nilSl
  | .nilMap => .nilMap
  | .nilFn => .nilFn
  | .nilIface => .nilIface
def renL (σ : Nat → Nat) : List AV → List AV
  | [] => []
  | v :: l => ren σ v :: renL σ l
end
mutual
theorem conc_ren (ρ : Nat → BI) (σ : Nat → Nat) : ∀ v : AV, conc ρ (ren σ v) = conc (fun b => ρ (σ b)) v
  | .undef => rfl
  | .bool _ => rfl
  | .lit _ => rfl
  | .int _ _ => rfl
  | .str _ => rfl
  | .slq _ _ => rfl
  | .nilPtr => rfl
  | .nilSl => rfl
  | .nilMap => rfl
  | .nilFn => rfl
  | .nilIface => rfl
  | .ptr l => rfl
  | .sl l _ c => by cases c <;> rfl
  | .map b => rfl
  | .fn f a c => by simp only [ren, conc, concL_ren ρ σ a, concL_ren ρ σ c]
  | .iface t v => by simp only [ren, conc, conc_ren ρ σ v]
  | .agg l => by simp only [ren, conc, concL_ren ρ σ l]
  | .tup l => by simp only [ren, conc, concL_ren ρ σ l]
theorem concL_ren (ρ : Nat → BI) (σ : Nat → Nat) : ∀ l : List AV, concL ρ (renL σ l) = concL (fun b => ρ (σ b)) l
  | [] => rfl
  | v :: l => by simp only [renL, concL, conc_ren ρ σ v, concL_ren ρ σ l]
end
def Blk.ren (σ : Nat → Nat) : Blk → Blk
  | .cells rw ks rows => .cells rw ks (bif ks.any Kd.isAny then rows.map (renL σ) else rows)
  | .map es => .map (es.map fun e => (SX.ren σ e.1, SX.ren σ e.2))
  | .siter s pos => .siter s pos
  | .mark => .mark
theorem Blk.ren_rw (σ : Nat → Nat) (b : Blk) : (b.ren σ).isRw = b.isRw := by cases b <;> rfl
theorem renL_getD (σ : Nat → Nat) : ∀ (l : List AV) (j : Nat), (renL σ l).getD j .undef = SX.ren σ (l.getD j .undef)
  | [], j => by simp [renL, SX.ren]
  | v :: l, 0 => by simp [renL]
  | v :: l, j + 1 => by simpa [renL] using renL_getD σ l j
theorem cellAt_ren (ρ : Nat → BI) (σ : Nat → Nat) {ks : List Kd} {kd : Kd} (hk : kd ∈ ks) (rows : List (List AV)) (i j : Nat) :
    conc ρ (cellAt kd (bif ks.any Kd.isAny then rows.map (renL σ) else rows) i j) = conc (fun b => ρ (σ b)) (cellAt kd rows i j) := by
  have hrow : (rows.map (renL σ)).getD i [] = renL σ (rows.getD i []) := by
    rw [List.getD_eq_getElem?_getD, List.getElem?_map, List.getD_eq_getElem?_getD]
    cases rows[i]? <;> rfl
  have key : ∀ v : AV, conc ρ (cast kd (SX.ren σ v)) = conc (fun b => ρ (σ b)) (cast kd v) := by
    intro v
    cases kd with
    | any => exact conc_ren ρ σ v
    | int k => cases v <;> rfl
    | str => cases v <;> rfl
    | bool => cases v <;> rfl
  cases hb : ks.any Kd.isAny with
  | true =>
    simp only [cond_true]
    unfold cellAt
    rw [hrow, renL_getD]
    exact key _
  | false =>
    simp only [cond_false]
    have hna : kd.isAny = false := by
      cases h : kd.isAny with
      | false => rfl
      | true => rw [List.any_eq_true.2 ⟨kd, hk, h⟩] at hb; cases hb
    unfold cellAt
    cases kd with
    | any => cases hna
    | int k => rfl
    | str => rfl
    | bool => rfl
theorem Blk.sat_ren {ρ : Nat → BI} {σ : Nat → Nat} {w : World} {b : Nat} {blk : Blk} (h : (blk.ren σ).sat ρ w (σ b)) : blk.sat (fun b => ρ (σ b)) w b := by
  cases blk with
  | cells rw ks rows =>
    obtain ⟨h0, c, t, fr, h1, h2, h3⟩ := h
    have hlen : (bif ks.any Kd.isAny then rows.map (renL σ) else rows).length = rows.length := by cases ks.any Kd.isAny <;> simp
    refine ⟨h0, c, t, fr, h1, fun i j kd hi hk => ?_, fun hr => ?_⟩
    · rw [← cellAt_ren ρ σ (List.mem_of_getElem? hk)]
      exact h2 i j kd (by rw [hlen]; exact hi) hk
    · have := h3 hr; rw [hlen] at this; exact this
  | map es =>
    obtain ⟨es', cl, h1, h2⟩ := h
    refine ⟨es', cl, h1, h2.trans ?_⟩
    simp only [List.map_map]
    exact List.map_congr_left fun e he => by simp [conc_ren]
  | siter s pos => exact h
  | mark => exact h
theorem HStep.ren {σ : Nat → Nat} {ρ0 ρ : Nat → BI} {hp0 hp hp' : Tr Blk} {nx0 nx nx' : Nat} {w0 w : World} (st : HStep ρ0 hp0 nx0 w0 ρ hp nx w) (hid : ∀ b, b < nx0 → σ b = b) (hle : nx0 ≤ nx')
    (hget : ∀ b blk, hp'.get b = some blk → hp.get (σ b) = some (blk.ren σ)) (hinj : ∀ b1 b2 k1 k2, hp'.get b1 = some k1 → hp'.get b2 = some k2 → σ b1 = σ b2 → b1 = b2)
    (hwf : ∀ b blk, hp'.get b = some blk → b < nx' ∧ blk.idsB nx' = true) (hge : ∀ b blk, nx0 ≤ b → hp'.get b = some blk → nx0 ≤ σ b) : HStep ρ0 hp0 nx0 w0 (fun b => ρ (σ b)) hp' nx' w := by
  refine ⟨fun b hb => by show ρ (σ b) = ρ0 b; rw [hid b hb]; exact st.agree b hb, hle, ⟨⟨fun b blk hb => Blk.sat_ren (st.sim.sat _ _ (hget b blk hb)), fun b1 b2 k1 k2 hne h1 h2 hr => ?_, hwf⟩, st.sim.gw, fun b blk hb hr => st.sim.ng (σ b) _ (hget b blk hb) (by rw [Blk.ren_rw]; exact hr)⟩, st.fr, fun b blk hb => ?_, ⟨fun b blk hlt hb => ?_, fun b blk hn hb hr => ?_⟩⟩
  · refine st.sim.sep (σ b1) (σ b2) _ _ (fun e => hne (hinj _ _ _ _ h1 h2 e)) (hget _ _ h1) (hget _ _ h2) ?_
    rw [Blk.ren_rw, Blk.ren_rw]; exact hr
  · rcases st.new (σ b) _ (hget b blk hb) with h | ⟨b0, k0, h0, hrw, e⟩
    · rw [Blk.ren_rw] at h; exact .inl h
    · exact .inr ⟨b0, k0, h0, by rw [Blk.ren_rw] at hrw; exact hrw, e⟩
  · have h1 := hget b blk hb
    rw [hid b hlt] at h1
    obtain ⟨k0, h0, e0⟩ := st.own.kept b _ hlt h1
    exact ⟨k0, h0, by rw [← e0, Blk.ren_rw]⟩
  · exact st.own.fresh (σ b) _ (hge b blk hn hb) (hget b blk hb) (by rw [Blk.ren_rw]; exact hr)
def sig (nx0 : Nat) (pick : List Nat) (b : Nat) : Nat := bif Nat.blt b nx0 then b else pick.getD (b - nx0) b
def nodupB : List Nat → Bool
  | [] => true
  | x :: l => !(l.any (Nat.beq x)) && nodupB l
def SL.wfB (σ : Nat → Nat) (nx0 : Nat) (I : SL) : Bool :=
  Nat.ble nx0 I.nx && (I.tm.all (fun p => p.2.idsB I.nx) && (I.hp.all (fun p => Nat.blt p.1 I.nx && (p.2.idsB I.nx && (Nat.blt p.1 nx0 || Nat.ble nx0 (σ p.1)))) && (nodupB (I.hp.map fun p => σ p.1) && nodupB (I.hp.map fun p => p.1))))
def SL.need2 (σ : Nat → Nat) (m : M) (I : SL) : List (Tok × Tok) :=
  I.tm.map (fun p => (Tok.av (m.tm.get p.1), Tok.av (some (ren σ p.2)))) ++ I.hp.map (fun p => (Tok.blk (m.hp.get (σ p.1)), Tok.blk (some (p.2.ren σ))))
structure Lands (nx0 : Nat) (pick : List Nat) (m : M) (I : SL) : Prop where
  wf : I.wfB (sig nx0 pick) nx0 = true
  eqs : ∀ p ∈ SL.need2 (sig nx0 pick) m I, p.1 = p.2
theorem sig_id {nx0 : Nat} {pick : List Nat} {b : Nat} (h : b < nx0) : sig nx0 pick b = b := by
  unfold sig; rw [(blt_iff _ _).2 h]; rfl
theorem nodupB_inj {f : (Nat × Blk) → Nat} : ∀ {l : List (Nat × Blk)}, nodupB (l.map f) = true → ∀ p ∈ l, ∀ q ∈ l, f p = f q → p = q
  | [], _, p, hp, _, _, _ => by cases hp
  | x :: l, h, p, hp, q, hq, e => by
    simp only [List.map_cons, nodupB, Bool.and_eq_true, Bool.not_eq_true', List.any_eq_false] at h
    have hx : ∀ q ∈ l, f x ≠ f q := fun q hq e => by
      have := h.1 (f q) (List.mem_map_of_mem hq)
      rw [e] at this; exact this (Nat.beq_refl _)
    rcases List.mem_cons.1 hp with h1 | h1 <;> rcases List.mem_cons.1 hq with h2 | h2
    · rw [h1, h2]
    · subst h1; exact absurd e (hx q h2)
    · subst h2; exact absurd e.symm (hx p h1)
    · exact nodupB_inj h.2 p h1 q h2 e
theorem Lands.step {nx0 : Nat} {pick : List Nat} {m : M} {I : SL} (hl : Lands nx0 pick m I) {ρ0 ρ : Nat → BI} {hp0 : Tr Blk} {w0 w : World} (st : HStep ρ0 hp0 nx0 w0 ρ m.hp m.nx w) :
    HStep ρ0 hp0 nx0 w0 (fun b => ρ (sig nx0 pick b)) (Tr.ofList I.hp) I.nx w := by
  have hwf := hl.wf
  simp only [SL.wfB, Bool.and_eq_true] at hwf
  obtain ⟨q1, q2, q3, q4, q5⟩ := hwf
  refine HStep.ren st (fun b hb => sig_id hb) (Nat.le_of_ble_eq_true q1) (fun b blk hb => ?_) (fun b1 b2 k1 k2 h1 h2 e => ?_) (fun b blk hb => ?_) (fun b blk hn hb => ?_)
  · have hm := ofList_mem hb
    have := hl.eqs (Tok.blk (m.hp.get (sig nx0 pick b)), Tok.blk (some (blk.ren (sig nx0 pick)))) (List.mem_append_right _ (List.mem_map.2 ⟨(b, blk), hm, rfl⟩))
    exact Tok.blk.inj this
  · exact congrArg Prod.fst (nodupB_inj (f := fun p => sig nx0 pick p.1) q4 (b1, k1) (ofList_mem h1) (b2, k2) (ofList_mem h2) e)
  · have := List.all_eq_true.1 q3 (b, blk) (ofList_mem hb)
    simp only [Bool.and_eq_true, blt_iff] at this
    exact ⟨this.1, this.2.1⟩
  · have := List.all_eq_true.1 q3 (b, blk) (ofList_mem hb)
    simp only [Bool.and_eq_true, blt_iff, Bool.or_eq_true] at this
    rcases this.2.2 with h | h
    · omega
    · exact Nat.le_of_ble_eq_true h
theorem Lands.sim {nx0 : Nat} {pick : List Nat} {m : M} {I : SL} (hl : Lands nx0 pick m I) {ρ0 ρ : Nat → BI} {hp0 : Tr Blk} {w0 w : World} (st : HStep ρ0 hp0 nx0 w0 ρ m.hp m.nx w) {nt : Nat} {a : Act}
    (hsz : a.tmps.size = nt) (ht : ∀ t v, m.tm.get t = some v → a.tmps[t]? = some (conc ρ v) ∧ v.idsB m.nx = true) (hd : a.defers = (default : EnvT).D) : Sim (fun b => ρ (sig nx0 pick b)) (I.m nt) a w := by
  refine ⟨(hl.step st).sim, hsz, fun t v hv => ?_, ⟨hd, fun b hb => by cases hb⟩⟩
  have hv : (Tr.ofList I.tm).get t = some v := hv
  have hm := ofList_mem hv
  have := hl.eqs (Tok.av (m.tm.get t), Tok.av (some (ren (sig nx0 pick) v))) (List.mem_append_left _ (List.mem_map.2 ⟨(t, v), hm, rfl⟩))
  have h2 := ht t _ (Tok.av.inj this)
  refine ⟨by rw [h2.1, conc_ren], ?_⟩
  have hwf := hl.wf
  simp only [SL.wfB, Bool.and_eq_true] at hwf
  exact List.all_eq_true.1 hwf.2.1 (t, v) hm
def Tr.toL {α : Type} : Tr α → Nat → Nat → List (Nat × α) → List (Nat × α)
  | .e, _, _, acc => acc
  | .n l v r, a, b, acc =>
    let acc' := Tr.toL r (2 * a) (2 * a + b) (Tr.toL l (2 * a) (a + b) acc)
    match v with
    | some x => (b, x) :: acc'
    | none => acc'
theorem Tr.toL_acc {α : Type} : ∀ (t : Tr α) (a b : Nat) (acc : List (Nat × α)) (p : Nat × α), p ∈ acc → p ∈ Tr.toL t a b acc
  | .e, _, _, _, _, h => h
  | .n l v r, a, b, acc, p, h => by
    have h1 := Tr.toL_acc r (2 * a) (2 * a + b) _ p (Tr.toL_acc l (2 * a) (a + b) acc p h)
    unfold Tr.toL
    cases v with
    | none => exact h1
    | some x => exact List.mem_cons_of_mem _ h1
theorem Tr.toL_mem {α : Type} : ∀ (t : Tr α) (a b : Nat) (acc : List (Nat × α)) (k : Nat) (v : α), t.get k = some v → (a * k + b, v) ∈ Tr.toL t a b acc
  | .e, _, _, _, k, v, h => by cases k <;> cases h
  | .n l x r, a, b, acc, k, v, h => by
    unfold Tr.toL
    cases k with
    | zero =>
      have h : x = some v := h
      subst h
      simp
    | succ k =>
      have hm : (a * (k + 1) + b, v) ∈ Tr.toL r (2 * a) (2 * a + b) (Tr.toL l (2 * a) (a + b) acc) := by
        have h' : (bif Nat.beq (k % 2) 0 then l.get (k / 2) else r.get (k / 2)) = some v := h
        cases hb : Nat.beq (k % 2) 0 with
        | true =>
          rw [hb, cond_true] at h'
          have h0 := (Tr.beq_iff (k % 2)).1 hb
          have := Tr.toL_mem l (2 * a) (a + b) acc (k / 2) v h'
          have e : 2 * a * (k / 2) + (a + b) = a * (k + 1) + b := by
            have : k = 2 * (k / 2) := by omega
            calc 2 * a * (k / 2) + (a + b) = a * (2 * (k / 2)) + (a + b) := by rw [Nat.mul_comm 2 a, Nat.mul_assoc]
              _ = a * (k + 1) + b := by rw [← this, Nat.mul_add, Nat.mul_one]; omega
          rw [← e]
          exact Tr.toL_acc _ _ _ _ _ this
        | false =>
          rw [hb, cond_false] at h'
          have h0 : k % 2 = 1 := by
            have : ¬ k % 2 = 0 := fun e => by rw [(Tr.beq_iff (k % 2)).2 e] at hb; cases hb
            omega
          have := Tr.toL_mem r (2 * a) (2 * a + b) (Tr.toL l (2 * a) (a + b) acc) (k / 2) v h'
          have e : 2 * a * (k / 2) + (2 * a + b) = a * (k + 1) + b := by
            have : k = 2 * (k / 2) + 1 := by omega
            calc 2 * a * (k / 2) + (2 * a + b) = a * (2 * (k / 2)) + (a * 2 + b) := by rw [Nat.mul_comm 2 a, Nat.mul_assoc]
              _ = a * (2 * (k / 2) + 1 + 1) + b := by rw [Nat.mul_add, Nat.mul_add]; omega
              _ = a * (k + 1) + b := by rw [← this]
          rw [← e]
          exact this
      cases x with
      | none => exact hm
      | some y => exact List.mem_cons_of_mem _ hm
def Tr.all {α : Type} (t : Tr α) : List (Nat × α) := Tr.toL t 1 0 []
theorem Tr.all_mem {α : Type} {t : Tr α} {k : Nat} {v : α} (h : t.get k = some v) : (k, v) ∈ t.all := by
  have := Tr.toL_mem t 1 0 [] k v h
  rwa [Nat.one_mul, Nat.add_zero] at this
abbrev Prs := List (Nat × Nat)
def prPtr (b : Nat) (acc : Prs) : AV → Prs
  | .ptr l => (b, l.b) :: acc
  | _ => acc
def prSl (b : Nat) (acc : Prs) : AV → Prs
  | .sl l _ _ => (b, l.b) :: acc
  | _ => acc
def prSlq (b : Nat) (acc : Prs) : AV → Prs
  | .slq b' _ => (b, b') :: acc
  | _ => acc
def prMap (b : Nat) (acc : Prs) : AV → Prs
  | .map b' => (b, b') :: acc
  | _ => acc
def inL : AV → List AV
  | .agg l => l
  | .tup l => l
  | _ => []
def inF : AV → List AV × List AV
  | .fn _ a c => (a, c)
  | _ => ([], [])
def inI : AV → AV
  | .iface _ v => v
  | _ => .undef
mutual
def prs : AV → AV → Prs → Prs
  | .ptr l, v, acc => prPtr l.b acc v
  | .sl l _ _, v, acc => prSl l.b acc v
  | .slq b _, v, acc => prSlq b acc v
  | .map b, v, acc => prMap b acc v
  | .agg l, v, acc => prsL l (inL v) acc
  | .tup l, v, acc => prsL l (inL v) acc
  | .fn _ a c, v, acc => prsL a (inF v).1 (prsL c (inF v).2 acc)
  | .iface _ u, v, acc => prs u (inI v) acc
  | .undef, _, acc => acc
  | .bool _, _, acc => acc
  | .lit _, _, acc => acc
  | .int _ _, _, acc => acc
  | .str _, _, acc => acc
  | .nilPtr, _, acc => acc
  | .nilSl, _, acc => acc
  | .nilMap, _, acc => acc
  | .nilFn, _, acc => acc
  | .nilIface, _, acc => acc
def prsL : List AV → List AV → Prs → Prs
  | [], _, acc => acc
  | v :: l, [], acc => acc
  | v :: l, v' :: l', acc => prsL l l' (prs v v' acc)
end
def prsR : List (List AV) → List (List AV) → Prs → Prs
  | [], _, acc => acc
  | r :: l, [], acc => acc
  | r :: l, r' :: l', acc => prsR l l' (prsL r r' acc)
def prsT (t : Tr AV) : List (Nat × AV) → Prs → Prs
  | [], acc => acc
  | (k, v) :: l, acc => match t.get k with
    | some v' => prsT t l (prs v v' acc)
    | none => prsT t l acc
def prsB (h1 h2 : Tr Blk) : Prs → Prs → Prs
  | [], acc => acc
  | (b1, b2) :: l, acc => match h1.get b1 with
    | some (.cells _ ks rows) => bif ks.any Kd.isAny then (match h2.get b2 with
        | some (.cells _ _ rows') => prsB h1 h2 l (prsR rows rows' acc)
        | _ => prsB h1 h2 l acc) else prsB h1 h2 l acc
    | _ => prsB h1 h2 l acc
def findP (b : Nat) : Prs → Nat
  | [] => b
  | (x, y) :: l => bif Nat.beq x b then y else findP b l
def pickP (l : Prs) : Nat → Nat → List Nat
  | _, 0 => []
  | b, n + 1 => findP b l :: pickP l (b + 1) n
def picked (nx0 : Nat) (m1 m2 : M) : List Nat :=
  let l := prsT m2.tm m1.tm.all []
  pickP (prsB m1.hp m2.hp l l) nx0 (m1.nx - nx0)
def wfR (σ : Nat → Nat) (nx0 : Nat) (m1 : M) : Bool :=
  Nat.ble nx0 m1.nx && (m1.tm.all.all (fun p => p.2.idsB m1.nx) && (m1.hp.all.all (fun p => Nat.blt p.1 m1.nx && (p.2.idsB m1.nx && (Nat.blt p.1 nx0 || Nat.ble nx0 (σ p.1)))) && nodupB (m1.hp.all.map fun p => σ p.1)))
def eqsR (σ : Nat → Nat) (m1 m2 : M) : List (Tok × Tok) :=
  m1.tm.all.map (fun p => (Tok.av (m2.tm.get p.1), Tok.av (some (ren σ p.2)))) ++ m1.hp.all.map (fun p => (Tok.blk (m2.hp.get (σ p.1)), Tok.blk (some (p.2.ren σ))))
def cmpX (nx0 : Nat) (m1 m2 : M) : Option (List (Tok × Tok)) :=
  bif Nat.beq m1.nx nx0 then bif Nat.beq m1.nx m2.nx then some [(.tm m1.tm, .tm m2.tm), (.hp m1.hp, .hp m2.hp)] else none
  else (fun σ => bif wfR σ nx0 m1 then some (eqsR σ m1 m2) else none) (sig nx0 (picked nx0 m1 m2))
theorem Post.alike {ρ ρ' : Nat → BI} {m m1 m2 : M} {w w' : World} {e : Exit} {a' : Act} {l : List (Tok × Tok)} (h : Post ρ m w .normal m2 ρ' e a' w') (hnt : m1.nt = m2.nt) (hlt : ∀ b ∈ m2.nt.mks, b < m.nx)
    (hc : cmpX m.nx m1 m2 = some l) (hl : ∀ p ∈ l, p.1 = p.2) : ∃ ρ'', Post ρ m w .normal m1 ρ'' e a' w' := by
  unfold cmpX at hc
  cases hb : Nat.beq m1.nx m.nx with
  | true =>
    rw [hb, cond_true] at hc
    obtain ⟨hn, hc⟩ := bif_some hc
    cases hc
    have hn := Nat.eq_of_beq_eq_true hn
    have e1 : m1.tm = m2.tm := Tok.tm.inj (hl _ (List.mem_cons_self ..))
    have e2 : m1.hp = m2.hp := Tok.hp.inj (hl _ (List.mem_cons_of_mem _ (List.mem_cons_self ..)))
    exact ⟨ρ', h.e, rfl, by rw [e2, hn]; exact h.h, fun hp => by rw [hnt, hn]; exact h.defers hp, fun hp => by rw [hnt, e1, hn]; exact h.frame hp⟩
  | false =>
    rw [hb, cond_false] at hc
    generalize picked m.nx m1 m2 = pick at hc
    obtain ⟨hwf, hc⟩ := bif_some hc
    cases hc
    simp only [wfR, Bool.and_eq_true] at hwf
    obtain ⟨q1, q2, q3, q4⟩ := hwf
    have q1 := Nat.le_of_ble_eq_true q1
    refine ⟨fun b => ρ' (sig m.nx pick b), h.e, rfl, ?_, fun hp => ?_, fun hp => ?_⟩
    · refine HStep.ren h.h (fun b hb => sig_id hb) q1 (fun b blk hb => ?_) (fun b1 b2 k1 k2 h1 h2 e => ?_) (fun b blk hb => ?_) (fun b blk hn hb => ?_)
      · have := hl (Tok.blk (m2.hp.get (sig m.nx pick b)), Tok.blk (some (blk.ren (sig m.nx pick)))) (List.mem_append_right _ (List.mem_map.2 ⟨(b, blk), Tr.all_mem hb, rfl⟩))
        exact Tok.blk.inj this
      · exact congrArg Prod.fst (nodupB_inj (f := fun p => sig m.nx pick p.1) q4 (b1, k1) (Tr.all_mem h1) (b2, k2) (Tr.all_mem h2) e)
      · have := List.all_eq_true.1 q3 (b, blk) (Tr.all_mem hb)
        simp only [Bool.and_eq_true, blt_iff] at this
        exact ⟨this.1, this.2.1⟩
      · have := List.all_eq_true.1 q3 (b, blk) (Tr.all_mem hb)
        simp only [Bool.and_eq_true, blt_iff, Bool.or_eq_true] at this
        rcases this.2.2 with h | h
        · omega
        · exact Nat.le_of_ble_eq_true h
    · have hd := h.defers hp
      rw [hnt]
      exact ⟨by rw [hd.eq]; congr 1; exact List.map_congr_left fun b hb => by rw [sig_id (hlt b hb)], fun b hb => Nat.lt_of_lt_of_le (hlt b hb) q1⟩
    · obtain ⟨h1, h2⟩ := h.frame hp
      refine ⟨by rw [hnt]; exact h1, fun t v hv => ?_⟩
      have := hl (Tok.av (m2.tm.get t), Tok.av (some (ren (sig m.nx pick) v))) (List.mem_append_left _ (List.mem_map.2 ⟨(t, v), Tr.all_mem hv, rfl⟩))
      have h3 := h2 t _ (Tok.av.inj this)
      exact ⟨by rw [h3.1, conc_ren], List.all_eq_true.1 q2 (t, v) (Tr.all_mem hv)⟩
end Go.Proofs.YtpdgmgkkbbndfaaGreatDoor.SX

namespace Go.Proofs.YtpdgmgkkbbndfaaGreatDoor.SX
open Go
variable [Inhabited EnvT]
def isPop : Op → Bool
  | .move _ | .assign _ | .pick _ _ _ | .binOp _ _ _ _ _ | .unOp _ _ _ | .convert _ _ _ | .extract _ _ | .field _ _ _ | .fieldAddr _ _ _ | .indexAddr _ _ _ | .index _ _ _
  | .slice _ _ _ _ _ | .makeInterface _ _ | .makeFunc _ _ _ | .nilCheck _ | .load _ _ | .build _ _ => true
  | .call c => match c.callee with
    | .builtin .len => true
    | .builtin .cap => true
    | _ => false
  | _ => false
theorem pop_of {P : Program} {m m' : M} {o : Oper} {v : AV} {sem : (Nat → BI) → Sem Value} (hk : m'.ok → m.ok)
    (h : ∀ ρ a w, Sim ρ m a w → POK P m sem v m' ∧ execOp a.eval o = (do pure (.value (← sem ρ)))) :
    (m'.ok → m.ok) ∧ (m'.ok → ∀ ρ a w, Sim ρ m a w → (execOp a.eval o).run P w = .ok (.value (conc ρ v)) w ∧ v.idsB m.nx = true) := by
  refine ⟨hk, fun ho ρ a w hs => ?_⟩
  obtain ⟨hp, he⟩ := h ρ a w hs
  obtain ⟨h1, h2⟩ := (hp.run ho).2 ρ w hs.h
  exact ⟨by rw [he]; simp [h1], h2⟩
theorem pop_spec {P : Program} {m m' : M} {o : Oper} {v : AV} (h : aop P m o = some (.val v m')) (hi : isPop o.op = true) (hn : m'.nx = m.nx) :
    (m'.ok → m.ok) ∧ (m'.ok → ∀ ρ a w, Sim ρ m a w → (execOp a.eval o).run P w = .ok (.value (conc ρ v)) w ∧ v.idsB m.nx = true) := by
  have moved : ∀ {x : Operand} {v : AV}, evalO m x = some v → o.op = .move x ∨ o.op = .assign x → (m.ok → ∀ ρ a w, Sim ρ m a w → (execOp a.eval o).run P w = .ok (.value (conc ρ v)) w ∧ v.idsB m.nx = true) := by
    intro x v hv ho _ ρ a w hs
    obtain ⟨h1, h2⟩ := evalO_spec hs hv
    refine ⟨?_, h2⟩
    rcases ho with ho | ho <;> simp [execOp, ho, h1]
  unfold aop at h
  split at h
  case h_1 x hop =>
    obtain ⟨u, hv, he⟩ := pRes_some h
    cases he
    exact ⟨id, moved hv (.inl hop)⟩
  case h_2 x hop =>
    obtain ⟨u, hv, he⟩ := pRes_some h
    cases he
    exact ⟨id, moved hv (.inr hop)⟩
  case h_3 c x y hop =>
    have key : ∀ (b : Bool) {m' : M} {v : AV} (z : Operand), (m'.ok → ∀ ρ a w, Sim ρ m a w → a.eval c = .bool b) → z = (if b then x else y) → evalO m z = some v →
        (m'.ok → ∀ ρ a w, Sim ρ m a w → (execOp a.eval o).run P w = .ok (.value (conc ρ v)) w ∧ v.idsB m.nx = true) := by
      intro b m' v z hc hz hv ho ρ a w hs
      obtain ⟨h1, h2⟩ := evalO_spec hs hv
      refine ⟨?_, h2⟩
      simp only [execOp, hop, hc ho ρ a w hs, asBool]
      rw [hz] at h1
      cases b <;> simp_all
    split at h
    · rename_i hc
      obtain ⟨u, hv, he⟩ := pRes_some h
      cases he
      exact ⟨id, key true _ (fun _ ρ a w hs => (evalO_spec hs hc).1) rfl hv⟩
    · rename_i hc
      obtain ⟨u, hv, he⟩ := pRes_some h
      cases he
      exact ⟨id, key false _ (fun _ ρ a w hs => (evalO_spec hs hc).1) rfl hv⟩
    · rename_i q hc
      split at h
      · rename_i m1 ha
        obtain ⟨u, hv, he⟩ := pRes_some h
        cases he
        obtain ⟨s1, k1⟩ := ask_spec ha
        exact ⟨fun ho => (k1 ho).1, key true _ (fun ho ρ a w hs => by rw [(evalO_spec hs hc).1, (k1 ho).2]; rfl) rfl hv⟩
      · rename_i m1 ha
        obtain ⟨u, hv, he⟩ := pRes_some h
        cases he
        obtain ⟨s1, k1⟩ := ask_spec ha
        exact ⟨fun ho => (k1 ho).1, key false _ (fun ho ρ a w hs => by rw [(evalO_spec hs hc).1, (k1 ho).2]; rfl) rfl hv⟩
      · cases h
    · cases h
  case h_6 t parts hop =>
    split at h
    · rename_i ps hps
      obtain ⟨u, hv, he⟩ := pRes_some h
      cases he
      refine pop_of (sem := fun ρ => Instr.build t (ps.map fun p => (p.1, conc ρ p.2)).toArray) id fun ρ a w hs => ?_
      obtain ⟨h1, h2⟩ := evalParts_spec hs hps
      refine ⟨aBuild_pure hv h2, ?_⟩
      simp only [execOp, hop]
      rw [toArray_map (fun p : Nat × Operand => (p.1, a.eval p.2)) parts h1]
    · cases h
  case h_8 t x hop =>
    split at h
    · rename_i y hy
      obtain ⟨u, m1, hv, he⟩ := vRes_some h
      cases he
      have hl := aLoad_pure hv
      exact pop_of (fun ho => (hl.run ho).1) fun ρ a w hs => ⟨hl, by simp only [execOp, hop, (evalO_spec hs hy).1]⟩
    · cases h
  case h_10 x hop =>
    split at h
    · rename_i u hv
      have h0 := bif_some h
      cases h0.2
      refine ⟨id, fun ho ρ a w hs => ?_⟩
      obtain ⟨h1, h2⟩ := evalO_spec hs hv
      refine ⟨?_, h2⟩
      have hc := h0.1
      unfold aNilCheck at hc
      split at hc
      · simp only [execOp, hop, h1, conc]; rfl
      · simp only [execOp, hop, h1, conc]; rfl
      · cases hc
    · cases h
  case h_11 op t x y yt hop =>
    split at h
    · rename_i p q hp hq
      obtain ⟨u, m1, hv, he⟩ := vRes_some h
      cases he
      have hl := aBin_pure hv
      exact pop_of (fun ho => (hl.run ho).1) fun ρ a w hs => ⟨hl, by simp only [execOp, hop, (evalO_spec hs hp).1, (evalO_spec hs hq).1]⟩
    · cases h
  case h_12 op t x hop =>
    split at h
    · rename_i p hp
      obtain ⟨u, hv, he⟩ := pRes_some h
      cases he
      exact pop_of id fun ρ a w hs => ⟨aUn_pure hv, by simp only [execOp, hop, (evalO_spec hs hp).1]⟩
    · cases h
  case h_13 sT dT x hop =>
    split at h
    · rename_i p hp
      obtain ⟨u, m1, hv, he⟩ := vRes_some h
      cases he
      have hl := (aConvert_both hv).1 hn
      exact pop_of (fun ho => (hl.run ho).1) fun ρ a w hs => ⟨hl, by simp only [execOp, hop, (evalO_spec hs hp).1]⟩
    · cases h
  case h_14 t x hop =>
    split at h
    · rename_i p hp
      obtain ⟨u, hv, he⟩ := pRes_some h
      cases he
      exact pop_of (sem := fun ρ => Instr.makeInterface t (conc ρ p)) id fun ρ a w hs => ⟨aMakeIface_pure hv (evalO_spec hs hp).2, by simp only [execOp, hop, (evalO_spec hs hp).1]⟩
    · cases h
  case h_15 f fst cap hop =>
    split at h
    · rename_i p q hp hq
      cases h
      refine ⟨id, fun ho ρ a w hs => ?_⟩
      obtain ⟨h1, h2⟩ := evalL_spec hs hp
      obtain ⟨h3, h4⟩ := evalL_spec hs hq
      refine ⟨?_, by simp [AV.idsB, h2, h4]⟩
      simp only [execOp, hop, Instr.makeFunc]
      rw [toArray_map a.eval fst h1, toArray_map a.eval cap h3]
      rfl
    · cases h
  case h_17 t x lo hi mx hop =>
    split at h
    · rename_i p l hh q hp hl hhh hq
      obtain ⟨u, m1, hv, he⟩ := vRes_some h
      cases he
      have k := K.sliceQ hv
      refine pop_of k.ok fun ρ a w hs => ⟨(aSliceQ_both hv (evalO_spec hs hp).2).1 hn, ?_⟩
      simp only [execOp, hop, (evalO_spec hs hp).1, evalOpt_spec hs hl, evalOpt_spec hs hhh, evalOpt_spec hs hq]
    · cases h
  case h_18 t x f hop =>
    split at h
    · rename_i p hp
      obtain ⟨u, hv, he⟩ := pRes_some h
      cases he
      exact pop_of (sem := fun ρ => Instr.fieldAt t (conc ρ p) f) id fun ρ a w hs => ⟨aFieldAddr_pure hv (evalO_spec hs hp).2, by simp only [execOp, hop, (evalO_spec hs hp).1]⟩
    · cases h
  case h_19 t x f hop =>
    split at h
    · rename_i p hp
      obtain ⟨u, hv, he⟩ := pRes_some h
      cases he
      exact pop_of (sem := fun ρ => Instr.field t (conc ρ p) f) id fun ρ a w hs => ⟨aField_pure hv (evalO_spec hs hp).2, by simp only [execOp, hop, (evalO_spec hs hp).1]⟩
    · cases h
  case h_20 t x i hop =>
    split at h
    · rename_i p q hp hq
      obtain ⟨u, m1, hv, he⟩ := vRes_some h
      cases he
      have k := K.indexAddrQ hv
      exact pop_of k.ok fun ρ a w hs => ⟨aIndexAddrQ_pure hv (evalO_spec hs hp).2, by simp only [execOp, hop, (evalO_spec hs hp).1, (evalO_spec hs hq).1]⟩
    · cases h
  case h_21 t x i hop =>
    split at h
    · rename_i p q hp hq
      obtain ⟨u, m1, hv, he⟩ := vRes_some h
      cases he
      have k := K.index hv
      exact pop_of k.ok fun ρ a w hs => ⟨aIndex_pure hv (evalO_spec hs hp).2, by simp only [execOp, hop, (evalO_spec hs hp).1, (evalO_spec hs hq).1]⟩
    · cases h
  case h_24 x i hop =>
    split at h
    · rename_i p hp
      obtain ⟨u, hv, he⟩ := pRes_some h
      cases he
      exact pop_of (sem := fun ρ => Instr.extract (conc ρ p) i) id fun ρ a w hs => ⟨aExtract_pure hv (evalO_spec hs hp).2, by simp only [execOp, hop, (evalO_spec hs hp).1]⟩
    · cases h
  case h_25 c hop =>
    split at h
    · rename_i b args hc hargs
      obtain ⟨u, m1, hv, he⟩ := vRes_some h
      cases he
      have fin : ∀ {sem : (Nat → BI) → Sem Value}, POK P m sem v m' → (∀ consts ρ, builtin b c.argTypes.toList.toArray o.type consts (concL ρ args).toArray = (do pure (.value (← sem ρ)))) →
          (m'.ok → m.ok) ∧ (m'.ok → ∀ ρ a w, Sim ρ m a w → (execOp a.eval o).run P w = .ok (.value (conc ρ v)) w ∧ v.idsB m.nx = true) := by
        intro sem hp g2
        refine ⟨fun ho => (hp.run ho).1, fun ho ρ a w hs => ?_⟩
        obtain ⟨h1, h2⟩ := evalL_spec hs hargs
        obtain ⟨r1, r2⟩ := (hp.run ho).2 ρ w hs.h
        refine ⟨?_, r2⟩
        have hm := toArray_map a.eval c.args h1
        have g2 : ∀ consts, builtin b c.argTypes o.type consts (concL ρ args).toArray = (do pure (.value (← sem ρ))) := fun consts => by
          have := g2 consts ρ
          rwa [Array.toArray_toList] at this
        simp only [execOp, hop, resolve, hc, hm, Sem.run_bind, Sem.run_pure, Result.andThen_ok, invoke, g2, r1]
      unfold aBuiltin at hv
      split at hv
      · rename_i t x ht
        obtain ⟨v', hv', he⟩ := Option.map_eq_some_iff.1 hv
        cases he
        refine fin (aLen_pure (ty := o.type) hv') fun _ ρ => ?_
        rw [ht]
        rfl
      · rename_i t x ht
        obtain ⟨v', hv', he⟩ := Option.map_eq_some_iff.1 hv
        cases he
        refine fin (aCap_pure (ty := o.type) hv') fun _ ρ => ?_
        rw [ht]
        rfl
      · simp only [hop, isPop, hc] at hi
        cases hi
      · cases hv
    · rename_i f args hc hargs
      simp only [hop, isPop, hc] at hi
      cases hi
    · cases h
  all_goals (rename_i hop; simp only [hop, isPop] at hi; cases hi)
def lookO (m : M) (x : Operand) : Option Nat :=
  match evalO m x with
  | some (.ptr l) => some l.b
  | some (.sl l _ _) => some l.b
  | some (.slq b _) => some b
  | _ => none
def looks (m : M) : Op → Option Nat
  | .load _ x => lookO m x
  | .indexAddr _ x _ => lookO m x
  | .slice _ x _ _ _ => lookO m x
  | .convert _ _ x => lookO m x
  | _ => none
def isIdx : Op → Bool
  | .indexAddr _ _ _ => true
  | _ => false
def Blk.weak : Blk → Blk
  | .cells _ ks _ => .cells false ks []
  | b => b
theorem Blk.sat_weak {ρ : Nat → BI} {w : World} {b : Nat} {blk : Blk} (h : blk.sat ρ w b) : blk.weak.sat ρ w b := by
  cases blk with
  | cells rw ks rows =>
    obtain ⟨h0, c, t, fr, h1, h2, h3⟩ := h
    exact ⟨h0, c, t, fr, h1, fun i j kd hi => by simp at hi, fun h => by cases h⟩
  | map es => exact h
  | siter s pos => exact h
  | mark => exact h
theorem Blk.idsB_weak {n : Nat} {blk : Blk} (h : blk.idsB n = true) : blk.weak.idsB n = true := by
  cases blk with
  | cells rw ks rows => simp [Blk.weak, Blk.idsB]
  | map es => exact h
  | siter s pos => exact h
  | mark => exact h
def weakIf (o : Bool) (b : Blk) : Blk := bif o then b.weak else b
theorem weakIf_sat {ρ : Nat → BI} {w : World} {b : Nat} {blk : Blk} (o : Bool) (h : blk.sat ρ w b) : (weakIf o blk).sat ρ w b := by cases o <;> first | exact h | exact Blk.sat_weak h
theorem weakIf_ids {n : Nat} {blk : Blk} (o : Bool) (h : blk.idsB n = true) : (weakIf o blk).idsB n = true := by cases o <;> first | exact h | exact Blk.idsB_weak h
theorem weakIf_rw {blk : Blk} (o : Bool) (h : (weakIf o blk).isRw = true) : blk.isRw = true := by
  cases o
  · exact h
  · cases blk <;> first | exact h | cases h
def held1 (m : M) (o : Op) (j : Nat) : HL :=
  match looks m o with
  | some b => match m.hp.get b with
    | some blk => [(b, weakIf (isIdx o) blk, isIdx o, j)]
    | none => []
  | none => []
def M.only (m : M) (l : HL) : M := { m with hp := Tr.ofList (l.map fun p => (p.1, p.2.1)) }
def M.owing (m m' : M) : M := { m with plan := m'.plan, owed := m'.owed, eqs := m'.eqs }
def heldEqs (m : M) (held : HL) : List (Tok × Tok) := held.map fun p => (Tok.blk ((m.hp.get p.1).map (weakIf p.2.2.1)), Tok.blk (some p.2.1))
def stepX (P : Program) (call : CallF) (ops : Array Oper) (rec : Array Bool → HL → M → Option (Ex × M)) (listed : Array Bool) (held : HL) (m : M) (i : Nat) : Option (Ex × M) :=
  match ops[i]? with
          | some o => match guardA m ops o with
            | some (false, m1) => match m1.putO o.dst .undef with
              | some m2 => rec (listed.setIfInBounds i true) (rels ops i held) m2
              | none => none
            | some (true, m1) => match aop P m1 o with
              | some (.val v m2) => match m2.putO o.dst v with
                | some m3 => rec (listed.setIfInBounds i true) (rels ops i held) { m3 with eqs := heldEqs m3 (rels ops i held) ++ m3.eqs }
                | none => none
              | some (.skip m2) => match m2.putO o.dst .undef with
                | some m3 => rec (listed.setIfInBounds i true) (rels ops i held) { m3 with eqs := heldEqs m3 (rels ops i held) ++ m3.eqs }
                | none => none
              | some (.call f args m2) => match call f args m2 with
                | some (.ret v, m3) => match m3.putO o.dst v with
                  | some m4 => rec (listed.setIfInBounds i true) (rels ops i held) { m4 with eqs := heldEqs m4 (rels ops i held) ++ m4.eqs }
                  | none => none
                | some (.panic v, m3) => some (.panic v, m3)
                | none => none
              | some (.panic v m2) => some (.panic v, m2)
              | none => none
            | none => none
          | none => none
def eachX (f : M → Nat → Option (Ex × M)) : List Nat → Nat → M → Option (Ex × M)
  | [], i, m => f m i
  | j :: rest, i, m => match f m i with
    | some (.normal, m1) => match eachX f rest j { m with plan := m1.plan, owed := m1.owed, eqs := m1.eqs } with
      | some (.normal, m2) => match cmpX m.nx m1 m2 with
        | some l => some (.normal, { m1 with plan := m2.plan, owed := m2.owed, eqs := l ++ m2.eqs })
        | none => none
      | _ => none
    | _ => none
def drawX (P : Program) (call : CallF) (ops : Array Oper) : Nat → Array Bool → HL → M → Option (Ex × M)
  | 0, listed, _, m => match Region.ready .any ops listed with
    | [] => some (.normal, m)
    | _ => none
  | k + 1, listed, held, m => match Region.ready .any ops listed with
    | [] => some (.normal, m)
    | i :: rest => match (i :: rest).find? (fun j => match ops[j]? with | some o => isPop o.op && Region.free .any ops listed j | none => false) with
      | some j => match ops[j]? with
        | some o => match guardA m ops o with
          | some (false, m1) => match m1.putO o.dst .undef with
            | some m2 => drawX P call ops k (listed.setIfInBounds j true) held m2
            | none => none
          | some (true, m1) => match aop P (m1.only (held1 m1 o.op j)) o with
            | some (.val v m') => bif Nat.beq m'.nx m1.nx then
                (match (m1.owing m').putO o.dst v with
                | some m2 => drawX P call ops k (listed.setIfInBounds j true) (held1 m1 o.op j ++ held) m2
                | none => none) else none
            | _ => none
          | none => none
        | none => none
      | none => eachX (stepX P call ops (drawX P call ops k) listed held) rest i m
def drawR (P : Program) (call : CallF) (ops : Array Oper) (m : M) : Option (Ex × M) :=
  bif Region.noSelect ops && P.follows .mixedOrders then drawX P call ops ops.size (Array.replicate ops.size false) [] m else none
def Held (ρ : Nat → BI) (held : HL) (w : World) : Prop := GW w ∧ ∀ p ∈ held, p.2.1.sat ρ w p.1
def HeldWf (nx : Nat) (held : HL) : Prop := ∀ p ∈ held, p.1 < nx ∧ p.2.1.idsB nx = true
theorem Held.agree {n : Nat} {ρ ρ' : Nat → BI} (h : Agree n ρ ρ') {held : HL} (hw : HeldWf n held) {w : World} (hs : Held ρ held w) : Held ρ' held w :=
  ⟨hs.1, fun p hp => Blk.sat_agree h (hw p hp).1 (hw p hp).2 (hs.2 p hp)⟩
theorem Held.back {n : Nat} {ρ ρ' : Nat → BI} (h : Agree n ρ ρ') {held : HL} (hw : HeldWf n held) {w : World} (hs : Held ρ' held w) : Held ρ held w :=
  ⟨hs.1, fun p hp => Blk.sat_agree (fun b hb => (h b hb).symm) (hw p hp).1 (hw p hp).2 (hs.2 p hp)⟩
theorem Held.less {ρ : Nat → BI} (h h' : HL) (w : World) (hs : ∀ p ∈ h, p ∈ h') (hh : Held ρ h' w) : Held ρ h w := ⟨hh.1, fun p hp => hh.2 p (hs p hp)⟩
theorem HeldWf.less {n : Nat} {h h' : HL} (hs : ∀ p ∈ h, p ∈ h') (hh : HeldWf n h') : HeldWf n h := fun p hp => hh p (hs p hp)
theorem rels_in {ops : Array Oper} {i : Nat} {h : HL} : ∀ p ∈ rels ops i h, p ∈ h := fun p hp => (List.mem_filter.1 hp).1
theorem held1_spec {ρ : Nat → BI} {m : M} {a : Act} {w : World} (hs : Sim ρ m a w) (o : Op) (j : Nat) : Held ρ (held1 m o j) w ∧ HeldWf m.nx (held1 m o j) := by
  unfold held1
  split
  · split
    · rename_i b _ blk hb
      exact ⟨⟨hs.h.gw, fun p hp => by simp at hp; subst hp; exact weakIf_sat _ (hs.h.sat _ _ hb)⟩, fun p hp => by simp at hp; subst hp; exact ⟨(hs.h.wf _ _ hb).1, weakIf_ids _ (hs.h.wf _ _ hb).2⟩⟩
    · exact ⟨⟨hs.h.gw, fun p hp => by simp at hp⟩, fun p hp => by simp at hp⟩
  · exact ⟨⟨hs.h.gw, fun p hp => by simp at hp⟩, fun p hp => by simp at hp⟩
theorem held1_one (m : M) (o : Op) (j : Nat) : held1 m o j = [] ∨ ∃ p, held1 m o j = [p] := by
  unfold held1
  split
  · split
    · exact .inr ⟨_, rfl⟩
    · exact .inl rfl
  · exact .inl rfl
theorem only_mem {l : HL} {b : Nat} {blk : Blk} (h : (Tr.ofList (l.map fun p => (p.1, p.2.1))).get b = some blk) : ∃ p ∈ l, p.1 = b ∧ p.2.1 = blk := by
  have h := ofList_mem h
  obtain ⟨p, hp, e⟩ := List.mem_map.1 h
  cases e
  exact ⟨p, hp, rfl, rfl⟩
theorem held1_hp {m : M} {o : Op} {j : Nat} {p : Nat × Blk × Bool × Nat} (h : p ∈ held1 m o j) : ∃ blk, m.hp.get p.1 = some blk ∧ p.2.1 = weakIf (isIdx o) blk := by
  unfold held1 at h
  split at h
  · split at h
    · rename_i b' _ blk' hb
      simp at h
      subst h
      exact ⟨blk', hb, rfl⟩
    · simp at h
  · simp at h
theorem held1_idx {m : M} {o : Op} {j : Nat} : ∀ p ∈ held1 m o j, p.2.2.2 = j := by
  intro p hp
  unfold held1 at hp
  split at hp
  · split at hp
    · simp at hp; subst hp; rfl
    · simp at hp
  · simp at hp
theorem only_sim {ρ : Nat → BI} {m : M} {a : Act} {w w' : World} (hs : Sim ρ m a w) (o : Op) (j : Nat) (hh : Held ρ (held1 m o j) w') : Sim ρ (m.only (held1 m o j)) a w' := by
  have hw := (held1_spec hs o j).2
  refine ⟨⟨⟨fun b blk hb => ?_, fun b1 b2 k1 k2 hne h1 h2 _ => ?_, fun b blk hb => ?_⟩, hh.1, fun b blk hb hr => ?_⟩, hs.size, hs.tms, hs.defers⟩
  · obtain ⟨p, hp, rfl, rfl⟩ := only_mem hb
    exact hh.2 p hp
  · obtain ⟨p1, hp1, e1, _⟩ := only_mem h1
    obtain ⟨p2, hp2, e2, _⟩ := only_mem h2
    rcases held1_one m o j with e | ⟨p, e⟩
    · rw [e] at hp1; cases hp1
    · rw [e] at hp1 hp2
      simp at hp1 hp2
      rw [hp1] at e1; rw [hp2] at e2
      exact absurd (e1.symm.trans e2) hne
  · obtain ⟨p, hp, rfl, rfl⟩ := only_mem hb
    exact hw p hp
  · obtain ⟨p, hp, rfl, rfl⟩ := only_mem hb
    obtain ⟨blk, hb, e⟩ := held1_hp hp
    rw [e] at hr
    exact hs.h.ng _ _ hb (weakIf_rw _ hr)
theorem post_panic {ρ ρ' : Nat → BI} {m m' : M} {w w' : World} {ex : Ex} {c : List PanicEntry} {a a' : Act} (h : Post ρ m w ex m' ρ' (.panic c) a' w') (hd : a.defers = a'.defers) : Post ρ m w ex m' ρ' (.panic c) a w' := by
  have hno : ex.isPanic = false → False := fun hp => by
    have := h.e
    cases ex <;> simp [Ex.conc, Ex.isPanic] at this hp
  exact ⟨h.e, h.ids, h.h, fun hp => (hno hp).elim, fun hp => (hno hp).elim⟩
theorem put_defers (a : Act) (d : Option Nat) (v : Value) : a.defers = (a.put d v).defers := by cases d <;> rfl
theorem HeldWf.mono {n m : Nat} (h : n ≤ m) {held : HL} (hw : HeldWf n held) : HeldWf m held := fun p hp => ⟨Nat.lt_of_lt_of_le (hw p hp).1 h, Blk.idsB_mono h (hw p hp).2⟩
theorem heldEqs_spec {m : M} {held : HL} (h : ∀ p ∈ heldEqs m held, p.1 = p.2) : ∀ p ∈ held, ∃ blk, m.hp.get p.1 = some blk ∧ weakIf p.2.2.1 blk = p.2.1 := by
  intro p hp
  have := h (Tok.blk ((m.hp.get p.1).map (weakIf p.2.2.1)), Tok.blk (some p.2.1)) (List.mem_map.2 ⟨p, hp, rfl⟩)
  have := Tok.blk.inj this
  rw [Option.map_eq_some_iff] at this
  exact this
theorem Post.like {ρ ρ' : Nat → BI} {m m1 m2 : M} {w w' : World} {ex : Ex} {e : Exit} {a' : Act} (h : Post ρ m w ex m1 ρ' e a' w') (s : Same m1 m2) : Post ρ m w ex m2 ρ' e a' w' :=
  ⟨h.e, by rw [s.nx]; exact h.ids, by rw [s.hp, s.nx]; exact h.h, fun hp => by rw [s.nt, s.nx]; exact h.defers hp, fun hp => by rw [s.nt, s.tm, s.nx]; exact h.frame hp⟩
theorem Post.from {ρ ρ' : Nat → BI} {m0 m m1 : M} {w w' : World} {ex : Ex} {e : Exit} {a' : Act} (h : Post ρ m w ex m1 ρ' e a' w') (s : Same m0 m) : Post ρ m0 w ex m1 ρ' e a' w' :=
  ⟨h.e, h.ids, by have := h.h; rw [s.hp, s.nx] at this; exact this, h.defers, h.frame⟩
theorem wpOp_mono2 {P : Program} {ops : Array Oper} {Q Q' : Exit → Act → World → Prop} {K K' : Act → World → Prop} (hk : ∀ a w, K a w → K' a w) (hq : ∀ e a w, Q e a w → Q' e a w) {i : Nat} {a : Act} {w : World} (h : wpOp P ops Q i K a w) : wpOp P ops Q' i K' a w := by
  unfold wpOp at h ⊢
  cases ho : ops[i]? with
  | none => simp only [ho] at h ⊢; exact hk _ _ h
  | some o =>
    simp only [ho] at h ⊢
    by_cases hw : Region.wanted o (yielded ops a.tmps) = true
    · rw [if_pos hw] at h ⊢
      rcases h with h | ⟨h2, a', w', h3⟩
      · exact .inl (upon_mono2 hk hq _ h)
      · exact .inr ⟨h2, a', w', hq _ _ _ h3⟩
    · rw [if_neg hw] at h ⊢
      exact hk _ _ h
theorem wpOp_post {P : Program} {ops : Array Oper} {ρ : Nat → BI} {m m1 m2 : M} {w : World} {ex : Ex} {i k : Nat} {a : Act} {held : HL} {listed : Array Bool} (s : Same m1 m2)
    (h : wpOp P ops (fun e a' w' => ∃ ρ', Post ρ m w ex m1 ρ' e a' w') i (fun a' w' => Held ρ (rels ops i held) w' ∧ wpAnyR P ops (fun e a' w' => ∃ ρ', Post ρ m w ex m1 ρ' e a' w') (Held ρ) k (rels ops i held) (listed.setIfInBounds i true) a' w') a w) :
    wpOp P ops (fun e a' w' => ∃ ρ', Post ρ m w ex m2 ρ' e a' w') i (fun a' w' => Held ρ (rels ops i held) w' ∧ wpAnyR P ops (fun e a' w' => ∃ ρ', Post ρ m w ex m2 ρ' e a' w') (Held ρ) k (rels ops i held) (listed.setIfInBounds i true) a' w') a w :=
  wpOp_mono2 (fun a w h => ⟨h.1, wpAnyR_mono Held.less (fun e a w hq => by obtain ⟨ρ', hq⟩ := hq; exact ⟨ρ', hq.like s⟩) (fun _ h => h) h.2⟩) (fun e a w hq => by obtain ⟨ρ', hq⟩ := hq; exact ⟨ρ', hq.like s⟩) h
theorem wpOp_pre {P : Program} {ops : Array Oper} {ρ : Nat → BI} {m0 m m1 : M} {w : World} {ex : Ex} {i k : Nat} {a : Act} {held : HL} {listed : Array Bool} (s : Same m0 m)
    (h : wpOp P ops (fun e a' w' => ∃ ρ', Post ρ m w ex m1 ρ' e a' w') i (fun a' w' => Held ρ (rels ops i held) w' ∧ wpAnyR P ops (fun e a' w' => ∃ ρ', Post ρ m w ex m1 ρ' e a' w') (Held ρ) k (rels ops i held) (listed.setIfInBounds i true) a' w') a w) :
    wpOp P ops (fun e a' w' => ∃ ρ', Post ρ m0 w ex m1 ρ' e a' w') i (fun a' w' => Held ρ (rels ops i held) w' ∧ wpAnyR P ops (fun e a' w' => ∃ ρ', Post ρ m0 w ex m1 ρ' e a' w') (Held ρ) k (rels ops i held) (listed.setIfInBounds i true) a' w') a w :=
  wpOp_mono2 (fun a w h => ⟨h.1, wpAnyR_mono Held.less (fun e a w hq => by obtain ⟨ρ', hq⟩ := hq; exact ⟨ρ', hq.from s⟩) (fun _ h => h) h.2⟩) (fun e a w hq => by obtain ⟨ρ', hq⟩ := hq; exact ⟨ρ', hq.from s⟩) h
theorem wpOp_alike {P : Program} {ops : Array Oper} {ρ : Nat → BI} {m m1 m2 : M} {w : World} {i k : Nat} {a : Act} {held : HL} {listed : Array Bool} {l : List (Tok × Tok)} (hnt : m1.nt = m2.nt) (hlt : ∀ b ∈ m2.nt.mks, b < m.nx)
    (hc : cmpX m.nx m1 m2 = some l) (hl : ∀ p ∈ l, p.1 = p.2)
    (h : wpOp P ops (fun e a' w' => ∃ ρ', Post ρ m w .normal m2 ρ' e a' w') i (fun a' w' => Held ρ (rels ops i held) w' ∧ wpAnyR P ops (fun e a' w' => ∃ ρ', Post ρ m w .normal m2 ρ' e a' w') (Held ρ) k (rels ops i held) (listed.setIfInBounds i true) a' w') a w) :
    wpOp P ops (fun e a' w' => ∃ ρ', Post ρ m w .normal m1 ρ' e a' w') i (fun a' w' => Held ρ (rels ops i held) w' ∧ wpAnyR P ops (fun e a' w' => ∃ ρ', Post ρ m w .normal m1 ρ' e a' w') (Held ρ) k (rels ops i held) (listed.setIfInBounds i true) a' w') a w :=
  wpOp_mono2 (fun a w h => ⟨h.1, wpAnyR_mono Held.less (fun e a w hq => by obtain ⟨ρ', hq⟩ := hq; exact hq.alike hnt hlt hc hl) (fun _ h => h) h.2⟩) (fun e a w hq => by obtain ⟨ρ', hq⟩ := hq; exact hq.alike hnt hlt hc hl) h
theorem eachX_spec {held : HL} {G : (Nat → BI) → M → World → Ex → M → Nat → Act → Prop}
    (hG : ∀ ρ m w ex m1 m2 i a, Same m1 m2 → G ρ m w ex m1 i a → G ρ m w ex m2 i a) (hG0 : ∀ ρ m0 m w ex m1 i a, Same m0 m → G ρ m w ex m1 i a → G ρ m0 w ex m1 i a)
    (hGa : ∀ ρ m w m1 m2 i a l, m1.nt = m2.nt → (∀ b ∈ m2.nt.mks, b < m.nx) → cmpX m.nx m1 m2 = some l → (∀ p ∈ l, p.1 = p.2) → G ρ m w .normal m2 i a → G ρ m w .normal m1 i a)
    {f : M → Nat → Option (Ex × M)} :
    ∀ (rest : List Nat) (i : Nat) {m m' : M} {ex : Ex}, (hf : ∀ i' ∈ i :: rest, ∀ m ex m', f m i' = some (ex, m') → m'.nt = m.nt ∧ (m'.ok → m.ok ∧ ∀ ρ a w, Sim ρ m a w → HeldWf m.nx held → Held ρ held w → G ρ m w ex m' i' a)) → eachX f rest i m = some (ex, m') →
      m'.nt = m.nt ∧ (m'.ok → m.ok ∧ ∀ ρ a w, Sim ρ m a w → HeldWf m.nx held → Held ρ held w → ∀ i' ∈ i :: rest, G ρ m w ex m' i' a) := by
  intro rest
  induction rest with
  | nil =>
    intro i m m' ex hf h
    obtain ⟨q1, q2⟩ := hf i (List.mem_cons_self ..) m ex m' h
    refine ⟨q1, fun ho => ⟨(q2 ho).1, fun ρ a w hs hwf hh i' hi' => ?_⟩⟩
    obtain rfl : i' = i := by simpa using hi'
    exact (q2 ho).2 ρ a w hs hwf hh
  | cons j rest ih =>
    intro i m m' ex hf h
    unfold eachX at h
    split at h
    · rename_i m1 h1
      split at h
      · rename_i m2 h2
        split at h
        · rename_i l hc
          cases h
          obtain ⟨q1, q2⟩ := hf _ (List.mem_cons_self ..) _ _ _ h1
          obtain ⟨r1, r2⟩ := ih _ (fun i' hi' => hf i' (List.mem_cons_of_mem _ hi')) h2
          refine ⟨q1, fun ho => ?_⟩
          have ho2 : m2.ok := ⟨ho.1, fun p hp => ho.2 p (List.mem_append_right _ hp)⟩
          have hl : ∀ p ∈ l, p.1 = p.2 := fun p hp => ho.2 p (List.mem_append_left _ hp)
          obtain ⟨s1, s2⟩ := r2 ho2
          have ho1 : m1.ok := s1
          obtain ⟨t1, t2⟩ := q2 ho1
          refine ⟨t1, fun ρ a w hs hwf hh i' hi' => ?_⟩
          rcases List.mem_cons.1 hi' with hi' | hi'
          · rw [hi']
            exact hG _ _ _ _ m1 _ _ _ ⟨rfl, rfl, rfl, rfl⟩ (t2 ρ a w hs hwf hh)
          · have hx := s2 ρ a w ⟨hs.h, hs.size, hs.tms, hs.defers⟩ hwf hh i' hi'
            have hx := hG0 ρ m { m with plan := m1.plan, owed := m1.owed, eqs := m1.eqs } w _ m2 i' a ⟨rfl, rfl, rfl, rfl⟩ hx
            have hnt : m1.nt = m2.nt := q1.trans r1.symm
            have hx := hGa _ _ _ m1 m2 _ _ l hnt (fun b hb => hs.defers.lt b (by rw [← q1, hnt]; exact hb)) hc hl hx
            exact hG _ _ _ _ m1 _ _ _ ⟨rfl, rfl, rfl, rfl⟩ hx
        · cases h
      · cases h
    · cases h
theorem wpAnyR_back {P : Program} {ops : Array Oper} {n : Nat} {ρ ρ4 : Nat → BI} (ag : Agree n ρ ρ4) {Q Q' : Exit → Act → World → Prop} (hq : ∀ e a w, Q e a w → Q' e a w) : ∀ {k : Nat} {h : HL} {listed : Array Bool} {a : Act} {w : World}, HeldWf n h →
    wpAnyR P ops Q (Held ρ4) k h listed a w → wpAnyR P ops Q' (Held ρ) k h listed a w
  | 0, _, _, _, _, _, h => ⟨h.1, hq _ _ _ h.2⟩
  | k + 1, _, _, _, _, hwf, h => ⟨fun h0 => hq _ _ _ (h.1 h0), fun i hi => wpOp_monoQ (fun a' w' h' => ⟨Held.back ag (hwf.less rels_in) h'.1, wpAnyR_back ag hq (hwf.less rels_in) h'.2⟩) hq (h.2 i hi)⟩
theorem stepX_spec {P : Program} {call : CallF} {ops : Array Oper} (hcall : ∀ f args m out m', call f args m = some (out, m') → COK P m f args out m') {k : Nat} {listed : Array Bool} {held : HL}
    {rec : Array Bool → HL → M → Option (Ex × M)}
    (ih : ∀ (listed : Array Bool) (held : HL) {m m' : M} {ex : Ex}, Closed ops listed → rec listed held m = some (ex, m') →
      m'.nt = m.nt ∧ (m'.ok → m.ok ∧ ∀ ρ a w, Sim ρ m a w → HeldWf m.nx held → Held ρ held w → wpAnyR P ops (fun e a' w' => ∃ ρ', Post ρ m w ex m' ρ' e a' w') (Held ρ) k held listed a w))
    (i : Nat) (hcl : Closed ops (listed.setIfInBounds i true)) {m m' : M} {ex : Ex} (h : stepX P call ops rec listed held m i = some (ex, m')) :
    m'.nt = m.nt ∧ (m'.ok → m.ok ∧ ∀ ρ a w, Sim ρ m a w → HeldWf m.nx held → Held ρ held w → wpOp P ops (fun e a' w' => ∃ ρ', Post ρ m w ex m' ρ' e a' w') i (fun a' w' => Held ρ (rels ops i held) w' ∧ wpAnyR P ops (fun e a' w' => ∃ ρ', Post ρ m w ex m' ρ' e a' w') (Held ρ) k (rels ops i held) (listed.setIfInBounds i true) a' w') a w) := by
  unfold stepX at h
  have cont : ∀ {m4 : M} {ρ ρ4 : Nat → BI} {a4 : Act} {w w4 : World}, rec (listed.setIfInBounds i true) (rels ops i held) { m4 with eqs := heldEqs m4 (rels ops i held) ++ m4.eqs } = some (ex, m') → m'.ok →
      HStep ρ m.hp m.nx w ρ4 m4.hp m4.nx w4 → Sim ρ4 m4 a4 w4 → HeldWf m.nx held →
      Held ρ (rels ops i held) w4 ∧ wpAnyR P ops (fun e a' w' => ∃ ρ', Post ρ m w ex m' ρ' e a' w') (Held ρ) k (rels ops i held) (listed.setIfInBounds i true) a4 w4 := by
    intro m4 ρ ρ4 a4 w w4 hd ho st hs hwf0
    have hwf : HeldWf m.nx (rels ops i held) := hwf0.less rels_in
    obtain ⟨q1, q2⟩ := ih _ _ hcl hd
    obtain ⟨c3, c4⟩ := q2 ho
    have heq := heldEqs_spec (m := m4) (held := rels ops i held) (fun p hp => c3.2 p (List.mem_append_left _ hp))
    have h4 : Held ρ4 (rels ops i held) w4 := ⟨st.sim.gw, fun p hp => by
      obtain ⟨blk, hb, e⟩ := heq p hp
      rw [← e]; exact weakIf_sat _ (st.sim.sat _ _ hb)⟩
    have h0 : Held ρ (rels ops i held) w4 := Held.back st.agree hwf h4
    refine ⟨h0, ?_⟩
    have hx := c4 ρ4 a4 w4 ⟨hs.h, hs.size, hs.tms, hs.defers⟩ (hwf.mono st.le) h4
    refine wpAnyR_back st.agree (fun e a' w' hq => ?_) hwf hx
    obtain ⟨ρ', hq⟩ := hq
    have hq' : Post ρ4 m4 w4 ex m' ρ' e a' w' := ⟨hq.e, hq.ids, hq.h, hq.defers, hq.frame⟩
    exact ⟨ρ', Post.trans st hq'⟩
  have okOf : ∀ {m4 : M}, rec (listed.setIfInBounds i true) (rels ops i held) { m4 with eqs := heldEqs m4 (rels ops i held) ++ m4.eqs } = some (ex, m') → m'.nt = m4.nt ∧ (m'.ok → m4.ok) := by
    intro m4 hd
    obtain ⟨q1, q2⟩ := ih _ _ hcl hd
    refine ⟨q1, fun ho => ?_⟩
    have := (q2 ho).1
    exact ⟨this.1, fun p hp => this.2 p (List.mem_append_right _ hp)⟩
  split at h
  · rename_i o hoi
    split at h
    · rename_i m1 hg
      obtain ⟨g1, g2, g3, g4⟩ := guardA_spec hg
      split at h
      · rename_i m2 hp
        obtain ⟨p1, p2, p3, p4, p5⟩ := putO_spec hp
        obtain ⟨q1, q2⟩ := ih _ _ hcl h
        refine ⟨(q1.trans p1).trans g1, fun ho => ?_⟩
        obtain ⟨c3, c4⟩ := q2 ho
        have c3' : m1.ok := p4 ▸ c3
        refine ⟨(g4 c3').1, fun ρ a w hs hwf0 hh0 => ?_⟩
        have hwf : HeldWf m.nx (rels ops i held) := hwf0.less rels_in
        have hh : Held ρ (rels ops i held) w := Held.less _ _ _ rels_in hh0
        obtain ⟨s1, s2⟩ := (g4 c3').2 ρ a w hs
        have s3 := p5 ρ a w s1 rfl
        unfold wpOp
        simp only [hoi, s2, Bool.false_eq_true, if_false]
        refine ⟨hh, wpAnyR_mono Held.less (fun e a' w' hq => ?_) (fun _ h => h) (c4 ρ _ w s3 (by rw [p3, g3]; exact hwf) hh)⟩
        obtain ⟨ρ', hq⟩ := hq
        exact ⟨ρ', Post.trans (by rw [p2, p3, g2, g3]; exact HStep.refl hs.h) hq⟩
      · cases h
    · rename_i m1 hg
      obtain ⟨g1, g2, g3, g4⟩ := guardA_spec hg
      split at h
      ·
        rename_i v m2 hop
        obtain ⟨r1, r2, r3⟩ := aop_spec hop
        split at h
        · rename_i m3 hp
          obtain ⟨p1, p2, p3, p4, p5⟩ := putO_spec hp
          obtain ⟨k1, k2⟩ := okOf h
          refine ⟨((k1.trans p1).trans r1).trans g1, fun ho => ?_⟩
          have c3 : m2.ok := p4 ▸ (k2 ho)
          refine ⟨(g4 (r3 c3).1).1, fun ρ a w hs hwf hh => ?_⟩
          obtain ⟨s1, s2⟩ := (g4 (r3 c3).1).2 ρ a w hs
          obtain ⟨ρ', w', e1, st, hi⟩ := (r3 c3).2 ρ a w s1
          have s3 := p5 ρ' a w' (s1.step r1 r2 st) hi
          unfold wpOp
          simp only [hoi, s2, if_true]
          refine .inl ?_
          simp only [Oper.wp, e1, Oper.upon]
          exact cont h ho (by rw [p2, p3]; rw [g2, g3] at st; exact st) s3 hwf
        · cases h
      · rename_i m2 hop
        obtain ⟨r1, r2, r3⟩ := aop_spec hop
        split at h
        · rename_i m3 hp
          obtain ⟨p1, p2, p3, p4, p5⟩ := putO_spec hp
          obtain ⟨k1, k2⟩ := okOf h
          refine ⟨((k1.trans p1).trans r1).trans g1, fun ho => ?_⟩
          have c3 : m2.ok := p4 ▸ (k2 ho)
          refine ⟨(g4 (r3 c3).1).1, fun ρ a w hs hwf hh => ?_⟩
          obtain ⟨s1, s2⟩ := (g4 (r3 c3).1).2 ρ a w hs
          obtain ⟨ρ', w', e1, st⟩ := (r3 c3).2 ρ a w s1
          have s3 := p5 ρ' a w' (s1.step r1 r2 st) rfl
          unfold wpOp
          simp only [hoi, s2, if_true]
          refine .inl ?_
          simp only [Oper.wp, e1, Oper.upon]
          exact cont h ho (by rw [p2, p3]; rw [g2, g3] at st; exact st) s3 hwf
        · cases h
      ·
        rename_i f args m2 hop
        obtain ⟨r1, r2⟩ := aop_spec hop
        subst r1
        split at h
        · rename_i v m3 hc
          have hcok := hcall _ _ _ _ _ hc
          split at h
          · rename_i m4 hp
            obtain ⟨p1, p2, p3, p4, p5⟩ := putO_spec hp
            obtain ⟨k1, k2⟩ := okOf h
            refine ⟨((k1.trans p1).trans hcok.nt).trans g1, fun ho => ?_⟩
            have c3 : m3.ok := p4 ▸ (k2 ho)
            obtain ⟨d1, d2⟩ := hcok.run c3
            refine ⟨(g4 d1).1, fun ρ a w hs hwf hh => ?_⟩
            obtain ⟨s1, s2⟩ := (g4 d1).2 ρ a w hs
            obtain ⟨e1, e2⟩ := r2 ρ a w s1
            unfold wpOp
            simp only [hoi, s2, if_true]
            refine .inl ?_
            simp only [Oper.wp, e1, Oper.upon]
            refine (d2 ρ w s1.h e2).mono fun e w' hq => ?_
            obtain ⟨ρ', rfl, hi, st⟩ := hq
            have s3 := p5 ρ' a w' (s1.step hcok.nt hcok.tm st) hi
            exact cont h ho (by rw [p2, p3]; rw [g2, g3] at st; exact st) s3 hwf
          · cases h
        · rename_i v m3 hc
          cases h
          have hcok := hcall _ _ _ _ _ hc
          refine ⟨hcok.nt.trans g1, fun ho => ?_⟩
          obtain ⟨d1, d2⟩ := hcok.run ho
          refine ⟨(g4 d1).1, fun ρ a w hs hwf hh => ?_⟩
          obtain ⟨s1, s2⟩ := (g4 d1).2 ρ a w hs
          obtain ⟨e1, e2⟩ := r2 ρ a w s1
          unfold wpOp
          simp only [hoi, s2, if_true]
          refine .inl ?_
          simp only [Oper.wp, e1, Oper.upon]
          refine (d2 ρ w s1.h e2).mono fun e w' hq => ?_
          obtain ⟨ρ', rfl, hi, st⟩ := hq
          rw [g2, g3] at st
          exact ⟨ρ', rfl, hi, st, (fun hp => by cases hp), fun hp => by cases hp⟩
        · cases h
      · rename_i v m2 hop
        cases h
        obtain ⟨r1, r2⟩ := aop_spec hop
        subst r1
        refine ⟨g1, fun ho => ⟨(g4 ho).1, fun ρ a w hs hwf hh => ?_⟩⟩
        obtain ⟨s1, s2⟩ := (g4 ho).2 ρ a w hs
        obtain ⟨e1, e2⟩ := r2 ρ a w s1
        unfold wpOp
        simp only [hoi, s2, if_true]
        refine .inl ?_
        simp only [Oper.wp, e1, Oper.upon]
        exact ⟨ρ, rfl, e2, by rw [g2, g3]; exact HStep.refl hs.h, (fun hp => by cases hp), fun hp => by cases hp⟩
      · cases h
    · cases h
  · cases h
theorem drawX_spec {P : Program} {call : CallF} {ops : Array Oper} (hcall : ∀ f args m out m', call f args m = some (out, m') → COK P m f args out m') (hsel : Region.noSelect ops = true) :
    ∀ (k : Nat) (listed : Array Bool) (held : HL) {m m' : M} {ex : Ex}, Closed ops listed → drawX P call ops k listed held m = some (ex, m') →
      m'.nt = m.nt ∧ (m'.ok → m.ok ∧ ∀ ρ a w, Sim ρ m a w → HeldWf m.nx held → Held ρ held w → wpAnyR P ops (fun e a' w' => ∃ ρ', Post ρ m w ex m' ρ' e a' w') (Held ρ) k held listed a w) := by
  intro k
  induction k with
  | zero =>
    intro listed held m m' ex hcl h
    unfold drawX at h
    split at h
    · rename_i hr
      cases h
      exact ⟨rfl, fun ho => ⟨ho, fun ρ a w hs _ _ => ⟨hr, ρ, rfl, rfl, HStep.refl hs.h, fun _ => hs.defers, fun _ => ⟨hs.size, hs.tms⟩⟩⟩⟩
    · cases h
  | succ k ih =>
    intro listed held m m' ex hcl h
    unfold drawX at h
    split at h
    · rename_i hr
      cases h
      exact ⟨rfl, fun ho => ⟨ho, fun ρ a w hs _ _ => wpAnyR_done hr ⟨ρ, rfl, rfl, HStep.refl hs.h, fun _ => hs.defers, fun _ => ⟨hs.size, hs.tms⟩⟩ _⟩⟩
    · rename_i i rest hr
      split at h
      ·
        rename_i j hf
        have hjm := List.mem_of_find?_eq_some hf
        have hjp := List.find?_some hf
        split at h
        · rename_i o hoj
          simp only [hoj, Bool.and_eq_true] at hjp
          have hrd : (Region.ready .any ops listed).contains j = true := by rw [hr]; simpa using hjm
          have hcl2 : Closed ops (listed.setIfInBounds j true) := closed_set hcl (by rw [hr]; exact hjm)
          have take : ∀ {ρ : Nat → BI} {a : Act} {w : World} {v : AV} {h1 : HL} {m2 : M}, (∀ p ∈ h1, p.2.2.2 = j) → YieldsIf P ops (Held ρ h1) o (conc ρ v) a → Held ρ (h1 ++ held) w →
              HStep ρ m.hp m.nx w ρ m2.hp m2.nx w →
              wpAnyR P ops (fun e a' w' => ∃ ρ', Post ρ m2 w ex m' ρ' e a' w') (Held ρ) k (h1 ++ held) (listed.setIfInBounds j true) (a.put o.dst (conc ρ v)) w →
              wpAnyR P ops (fun e a' w' => ∃ ρ', Post ρ m w ex m' ρ' e a' w') (Held ρ) (k + 1) held listed a w := by
            intro ρ a w v h1 m2 hidx hy hS st hx
            refine wpAnyR_take Held.less hoj hidx hsel hjp.2 hrd hcl (fun c a' w' hq => ?_) hy hS (wpAnyR_mono Held.less (fun e a' w' hq => ?_) (fun _ h => h) hx)
            · obtain ⟨ρ', hq⟩ := hq; exact ⟨ρ', post_panic hq (put_defers _ _ _)⟩
            · obtain ⟨ρ', hq⟩ := hq; exact ⟨ρ', Post.trans st hq⟩
          split at h
          · rename_i m1 hg
            obtain ⟨g1, g2, g3, g4⟩ := guardA_spec hg
            split at h
            · rename_i m2 hp
              obtain ⟨p1, p2, p3, p4, p5⟩ := putO_spec hp
              obtain ⟨q1, q2⟩ := ih _ _ hcl2 h
              refine ⟨(q1.trans p1).trans g1, fun ho => ?_⟩
              obtain ⟨c3, c4⟩ := q2 ho
              have c3' : m1.ok := p4 ▸ c3
              refine ⟨(g4 c3').1, fun ρ a w hs hwf hh => ?_⟩
              obtain ⟨s1, s2⟩ := (g4 c3').2 ρ a w hs
              have s3 := p5 ρ a w s1 rfl
              exact take (v := .undef) (h1 := []) (m2 := m2) (fun p hp => by cases hp) (.inr ⟨s2, rfl⟩) hh (by rw [p2, p3, g2, g3]; exact HStep.refl hs.h) (c4 ρ _ w s3 (by rw [p3, g3]; exact hwf) hh)
            · cases h
          · rename_i m1 hg
            obtain ⟨g1, g2, g3, g4⟩ := guardA_spec hg
            split at h
            · rename_i v m2 hop
              obtain ⟨hn, h⟩ := bif_some h
              have hn : m2.nx = m1.nx := Nat.eq_of_beq_eq_true hn
              split at h
              · rename_i m3 hp
                obtain ⟨p1, p2, p3, p4, p5⟩ := putO_spec hp
                obtain ⟨q1, q2⟩ := ih _ _ hcl2 h
                obtain ⟨t1, t2⟩ := pop_spec hop hjp.1 hn
                refine ⟨(q1.trans p1).trans g1, fun ho => ?_⟩
                obtain ⟨c3, c4⟩ := q2 ho
                have c2 : m2.ok := p4 ▸ c3
                have c1 : m1.ok := t1 c2
                refine ⟨(g4 c1).1, fun ρ a w hs hwf hh => ?_⟩
                obtain ⟨s1, s2⟩ := (g4 c1).2 ρ a w hs
                obtain ⟨e1, e2⟩ := held1_spec s1 o.op j
                have hv : v.idsB m1.nx = true := (t2 c2 ρ a w (only_sim s1 o.op j e1)).2
                have s2' : Sim ρ (m1.owing m2) a w := ⟨s1.h, s1.size, s1.tms, s1.defers⟩
                have s3 := p5 ρ a w s2' hv
                have hh' : Held ρ (held1 m1 o.op j ++ held) w := ⟨hh.1, fun p hp => by
                  rcases List.mem_append.1 hp with h1 | h1
                  · exact e1.2 p h1
                  · exact hh.2 p h1⟩
                have hwf' : HeldWf m3.nx (held1 m1 o.op j ++ held) := fun p hp => by
                  have hnx : m3.nx = m1.nx := p3
                  rw [hnx]
                  rcases List.mem_append.1 hp with h1 | h1
                  · exact e2 p h1
                  · rw [g3]; exact hwf p h1
                refine take (v := v) (h1 := held1 m1 o.op j) (m2 := m3) held1_idx (.inl ⟨s2, fun w' hw' => (t2 c2 ρ a w' (only_sim s1 o.op j hw')).1⟩) hh' ?_ (c4 ρ _ w s3 hwf' hh')
                have e3 : m3.hp = m.hp := p2.trans g2
                have e4 : m3.nx = m.nx := p3.trans g3
                rw [e3, e4]; exact HStep.refl hs.h
              · cases h
            · cases h
          · cases h
        · cases h
      ·
        have hcli : ∀ i' ∈ i :: rest, Closed ops (listed.setIfInBounds i' true) := fun i' hi' => closed_set hcl (by rw [hr]; exact hi')
        obtain ⟨q1, q2⟩ := eachX_spec (G := fun ρ m w ex m' i a => wpOp P ops (fun e a' w' => ∃ ρ', Post ρ m w ex m' ρ' e a' w') i (fun a' w' => Held ρ (rels ops i held) w' ∧ wpAnyR P ops (fun e a' w' => ∃ ρ', Post ρ m w ex m' ρ' e a' w') (Held ρ) k (rels ops i held) (listed.setIfInBounds i true) a' w') a w)
          (hG := fun ρ m w ex m1 m2 i a hp hx => wpOp_post hp hx) (hG0 := fun ρ m0 m w ex m1 i a h1 hx => wpOp_pre h1 hx) (hGa := fun ρ m w m1 m2 i a l h1 h2 h3 h4 hx => wpOp_alike h1 h2 h3 h4 hx)
          rest i (fun i' hi' m ex m' h => stepX_spec hcall ih i' (hcli i' hi') h) h
        exact ⟨q1, fun ho => ⟨(q2 ho).1, fun ρ a w hs hwf hh => wpAnyR_all hr (by simp) fun i' hi' => (q2 ho).2 ρ a w hs hwf hh i' hi'⟩⟩
theorem drawR_ok (P : Program) : DrawOK P (drawR P) := by
  intro call hcall id ops m ex m' hnd h
  unfold drawR at h
  obtain ⟨h1, h2⟩ := bif_some h
  simp only [Bool.and_eq_true] at h1
  obtain ⟨q1, q2⟩ := drawX_spec hcall h1.1 _ _ _ (closed_none _ _) h2
  refine ⟨congrArg NT.n q1, fun ho => ⟨(q2 ho).1, fun ρ a w hs => wpE_region_any Post.noOut hnd h1.2 (wpAny_of_R (S := Held ρ) (h := []) ?_)⟩⟩
  have st := HStep.drew hs.h
  have hs' : Sim ρ m a w.drew := ⟨st.sim, hs.size, hs.tms, hs.defers⟩
  refine wpAnyR_mono Held.less (fun e a' w' hq => ?_) (fun _ h => h) ((q2 ho).2 ρ a w.drew hs' (fun p hp => by cases hp) ⟨st.sim.gw, fun p hp => by cases hp⟩)
  obtain ⟨ρ', hq⟩ := hq
  exact ⟨ρ', Post.trans st hq⟩
def run (P : Program) (prims : Prims) (n : Nat) (c : Code) (m : M) : Option (Ex × M) := exec P prims (drawR P) true n c m
theorem run_spec {P : Program} {prims : Prims} (hprims : PrimsOK P prims) {n : Nat} {c : Code} {m m' : M} {ex : Ex} (e : Inhabited EnvT) (he : e.default.ro = none) (h : run P prims n c m = some (ex, m')) : @XOK e P c m ex m' :=
  exec_spec hprims (fun e => @drawR_ok e P) n true e (fun _ => he) c m ex m' h
def runR (P : Program) (prims : Prims) (n : Nat) (c : Code) (m : M) : Option (Ex × M) := exec P prims (drawR P) false n c m
theorem runR_spec {P : Program} {prims : Prims} (hprims : PrimsOK P prims) {n : Nat} {c : Code} {m m' : M} {ex : Ex} (e : Inhabited EnvT) (h : runR P prims n c m = some (ex, m')) : @XOK e P c m ex m' :=
  exec_spec hprims (fun e => @drawR_ok e P) n false e (fun h => by cases h) c m ex m' h
end Go.Proofs.YtpdgmgkkbbndfaaGreatDoor.SX

namespace Go.Proofs.YtpdgmgkkbbndfaaGreatDoor.SX
open Go
variable [Inhabited EnvT]
def BodyOK (P : Program) (body : Code) (nt nx0 : Nat) (I : SL) (ex : Ex) (R : SL) : Prop :=
  ∀ e : Inhabited EnvT, e.default.ro = none → ∀ ρ0 hp0 w0 ρ a w, HStep ρ0 hp0 nx0 w0 ρ (Tr.ofList I.hp) I.nx w → @Sim e ρ (I.m nt) a w →
    @Code.wpE e P body (fun x a' w' => x = ex.conc ρ0 ∧ ∃ ρ', HStep ρ0 hp0 nx0 w0 ρ' (Tr.ofList R.hp) R.nx w' ∧ @Sim e ρ' (R.m nt) a' w') a w
def Ex.plain : Ex → Bool
  | .panic _ => false
  | _ => true
theorem Ex.plain_conc {ex : Ex} (h : ex.plain = true) (ρ ρ' : Nat → BI) : ex.conc ρ = ex.conc ρ' ∧ ex.isPanic = false := by cases ex <;> first | exact ⟨rfl, rfl⟩ | cases h
theorem XOK.body {P : Program} {body : Code} {nt nx0 : Nat} {I R : SL} {ex : Ex} {m' : M} {pick : List Nat} (h : ∀ e : Inhabited EnvT, e.default.ro = none → @XOK e P body (I.m nt) ex m') (hok : m'.ok) (hmk : m'.nt.mks = []) (hp : ex.plain = true) (hl : Lands nx0 pick m' R) :
    BodyOK P body nt nx0 I ex R := by
  intro e he ρ0 hp0 w0 ρ a w st hs
  have h := h e he
  refine wpE_mono ((h.run hok).2 ρ a w hs) fun x a' w' hq => ?_
  obtain ⟨ρ', hq⟩ := hq
  have hh : HStep ρ (Tr.ofList I.hp) I.nx w ρ' m'.hp m'.nx w' := hq.h
  have st2 := st.trans hh
  obtain ⟨h1, h2⟩ := hq.frame (Ex.plain_conc hp ρ0 ρ0).2
  have h3 := (hq.defers (Ex.plain_conc hp ρ0 ρ0).2).eq
  rw [hmk] at h3
  refine ⟨by rw [hq.e]; exact (Ex.plain_conc hp _ _).1, _, hl.step st2, hl.sim st2 (h1.trans h.nt) h2 h3⟩
theorem loop_rule {X : Type} {P : Program} {body : Code} {nt : Nat} {E : SL} (I : X → SL) (pre : X → Prop) (μ : X → Nat) (ex : Ex) (R : SL) (hne : ex.plain = true) (hnn : ∀ ρ, ex.conc ρ ≠ .normal)
    (hstep : ∀ x, pre x → (∃ x', pre x' ∧ μ x' < μ x ∧ BodyOK P body nt E.nx (I x) .normal (I x')) ∨ BodyOK P body nt E.nx (I x) ex R)
    {x0 : X} {pick : List Nat} (h0 : pre x0) (hE : Lands E.nx pick (E.m nt) (I x0)) : LoopOK P body nt E ex R := by
  intro e he
  refine ⟨rfl, fun _ => ⟨⟨trivial, fun p hp => by cases hp⟩, fun ρ0 a0 w0 hs0 => ?_⟩⟩
  have key : ∀ (n : Nat) (x : X), μ x < n → pre x → ∀ ρ a w, HStep ρ0 (Tr.ofList E.hp) E.nx w0 ρ (Tr.ofList (I x).hp) (I x).nx w → Sim ρ ((I x).m nt) a w →
      roundsE P body (fun e a' w' => e = ex.conc ρ0 ∧ ∃ ρ', HStep ρ0 (Tr.ofList E.hp) E.nx w0 ρ' (Tr.ofList R.hp) R.nx w' ∧ Sim ρ' (R.m nt) a' w') n a w := by
    intro n
    induction n with
    | zero => intro x hx; omega
    | succ n ih =>
      intro x hx hp ρ a w st hs
      rw [roundsE_succ]
      rcases hstep x hp with ⟨x', hp', hm, hb⟩ | hb
      · refine wpE_mono (hb e he _ _ _ ρ a w st hs) fun e a' w' hq => ?_
        obtain ⟨rfl, ρ', st', hs'⟩ := hq
        exact ih x' (by omega) hp' ρ' a' w' st' hs'
      · refine wpE_mono (hb e he _ _ _ ρ a w st hs) fun e a' w' hq => ?_
        have he := hnn ρ0
        rw [← hq.1] at he
        cases e with
        | normal => exact absurd rfl he
        | _ => exact hq
  have st0 : HStep ρ0 (Tr.ofList E.hp) E.nx w0 ρ0 (E.m nt).hp (E.m nt).nx w0 := HStep.refl hs0.h
  refine wpE_mono (wpE_loop_rounds _ (key _ x0 (Nat.lt_succ_self _) h0 _ a0 w0 (hE.step st0) (hE.sim st0 hs0.size hs0.tms hs0.defers.eq))) fun e a' w' hq => ?_
  obtain ⟨rfl, ρ', st', hs'⟩ := hq
  have hid : ex.idsB (R.m nt).nx = true := by
    cases ex with
    | panic v => cases hne
    | _ => rfl
  exact ⟨ρ', (Ex.plain_conc hne _ _).1, hid, st', fun _ => hs'.defers, fun _ => ⟨hs'.size, hs'.tms⟩⟩
end Go.Proofs.YtpdgmgkkbbndfaaGreatDoor.SX

namespace Go.Proofs.YtpdgmgkkbbndfaaGreatDoor.SX
open Go
def toksL (nx0 : Nat) (pick : List Nat) (J : SL) (m : M) : List Tok := (m.eqs ++ SL.need2 (sig nx0 pick) m J).map (·.1)
def toksR (nx0 : Nat) (pick : List Nat) (J : SL) (m : M) : List Tok := (m.eqs ++ SL.need2 (sig nx0 pick) m J).map (·.2)
def lhs {α : Type} (x : Option (α × M)) (nx0 : Nat) (pick : List Nat) (J : SL) : Option (α × Prop × List Tok) × Bool :=
  (x.map fun r => (r.1, r.2.owed, toksL nx0 pick J r.2), x.isSome && J.wfB (sig nx0 pick) nx0 && (match x with | some r => r.2.nt.mks.isEmpty | none => true))
def rhs {α : Type} (x : Option (α × M)) (nx0 : Nat) (pick : List Nat) (J : SL) (o : α) (ow : Prop) : Option (α × Prop × List Tok) × Bool :=
  (x.map fun r => (o, ow, toksR nx0 pick J r.2), true)
abbrev pT : PI := .as_ true
abbrev pF : PI := .as_ false
abbrev Path {α : Type} (x : Option (α × M)) (nx0 : Nat) (pick : List Nat) (J : SL) (o : α) (ow : Prop) : Prop := lhs x nx0 pick J = rhs x nx0 pick J o ow
theorem map_fst_snd {l : List (Tok × Tok)} (h : l.map (·.1) = l.map (·.2)) : ∀ p ∈ l, p.1 = p.2 := by
  induction l with
  | nil => intro p hp; cases hp
  | cons x l ih =>
    simp only [List.map_cons, List.cons.injEq] at h
    intro p hp
    rcases List.mem_cons.1 hp with e | e
    · rw [e]; exact h.1
    · exact ih h.2 p e
theorem lands_of {α : Type} {x : Option (α × M)} {nx0 : Nat} {pick : List Nat} {J : SL} {o : α} {ow : Prop} (h : lhs x nx0 pick J = rhs x nx0 pick J o ow) (ho : ow) :
    ∃ m', x = some (o, m') ∧ m'.ok ∧ Lands nx0 pick m' J ∧ m'.nt.mks = [] := by
  unfold lhs rhs at h
  cases x with
  | none => simp at h
  | some r =>
    obtain ⟨o', m'⟩ := r
    simp only [Option.map_some, Option.isSome_some, Bool.true_and, Prod.mk.injEq, Option.some.injEq, Bool.and_eq_true, List.isEmpty_iff] at h
    obtain ⟨⟨h1, h2, h3⟩, h4, h5⟩ := h
    have hp := map_fst_snd h3
    refine ⟨m', by rw [h1], ⟨by rw [h2]; exact ho, fun p hpm => hp p (List.mem_append_left _ hpm)⟩, ⟨h4, fun p hpm => hp p (List.mem_append_right _ hpm)⟩, h5⟩
def SL.mp (nt : Nat) (plan : List PI) (I : SL) : M := { nt := ⟨nt, []⟩, tm := Tr.ofList I.tm, hp := Tr.ofList I.hp, nx := I.nx, sym := true, plan := plan, owed := True, eqs := [] }
theorem body_of {P : Program} {prims : Prims} (hprims : PrimsOK P prims) {F : Nat} {body : Code} {nt nx0 : Nat} {plan : List PI} {pick : List Nat} {I R : SL} {ex : Ex} {ow : Prop}
    (h : lhs (run P prims F body (I.mp nt plan)) nx0 pick R = rhs (run P prims F body (I.mp nt plan)) nx0 pick R ex ow) (ho : ow) (hp : ex.plain = true) : BodyOK P body nt nx0 I ex R := by
  obtain ⟨m', hr, hok, hl, hmk⟩ := lands_of h ho
  refine XOK.body (fun e he => ?_) hok hmk hp hl
  have hx := run_spec hprims e he hr
  exact ⟨hx.nt, fun hok => ⟨⟨trivial, fun p hp => by cases hp⟩, fun ρ a w hs => by
    refine wpE_mono ((hx.run hok).2 ρ a w ⟨hs.h, hs.size, hs.tms, hs.defers⟩) fun e a' w' hq => ?_
    obtain ⟨ρ', hq⟩ := hq
    exact ⟨ρ', hq.e, hq.ids, hq.h, hq.defers, hq.frame⟩⟩⟩
theorem addBlks_get : ∀ {l : List Blk} {hp : Tr Blk} {k b : Nat}, (addBlks hp k l).get b = if k ≤ b ∧ b < k + l.length then l[b - k]? else hp.get b
  | [], hp, k, b => by
    have : ¬ (k ≤ b ∧ b < k + 0) := by omega
    simp only [addBlks, List.length_nil]; rw [if_neg this]
  | x :: l, hp, k, b => by
    unfold addBlks
    rw [addBlks_get, Tr.get_set]
    simp only [List.length_cons]
    by_cases h1 : b = k
    · subst h1
      rw [if_neg (by omega), if_pos rfl, if_pos (by omega)]
      simp
    · by_cases h2 : k + 1 ≤ b ∧ b < k + 1 + l.length
      · rw [if_pos h2, if_pos (by omega)]
        rw [show b - k = (b - (k + 1)) + 1 by omega]; simp
      · rw [if_neg h2, if_neg h1, if_neg (by omega)]
def st0 (ins : List Blk) (plan : List PI) : M := { nt := ⟨0, []⟩, tm := .e, hp := addBlks .e 0 ins, nx := ins.length, sym := true, plan := plan, owed := True, eqs := [] }
theorem HSim.ins {ρ : Nat → BI} {w : World} {ins : List Blk} (gw : GW w) (h : ∀ (i : Nat) (blk : Blk), ins[i]? = some blk → blk.sat ρ w i ∧ blk.isRw = false ∧ blk.idsB ins.length = true) : HSim ρ (addBlks .e 0 ins) ins.length w := by
  have hg : ∀ b blk, (addBlks .e 0 ins).get b = some blk → b < ins.length ∧ ins[b]? = some blk := by
    intro b blk hb
    rw [addBlks_get] at hb
    split at hb
    · rename_i hb'; exact ⟨by omega, by simpa using hb⟩
    · cases b <;> cases hb
  refine ⟨⟨fun b blk hb => (h b blk (hg b blk hb).2).1, fun b1 b2 k1 k2 hne h1 h2 hr => ?_, fun b blk hb => ⟨(hg b blk hb).1, (h b blk (hg b blk hb).2).2.2⟩⟩, gw, fun b blk hb hr => by rw [(h b blk (hg b blk hb).2).2.1] at hr; cases hr⟩
  rw [(h _ _ (hg _ _ h1).2).2.1, (h _ _ (hg _ _ h2).2).2.1] at hr
  rcases hr with hr | hr <;> cases hr
abbrev Ext (w w' : World) : Prop := RowKit.Below w.heap.size w w'
theorem HStep.below {ρ ρ' : Nat → BI} {hp hp' : Tr Blk} {nx nx' : Nat} {w w' : World} (h : HStep ρ hp nx w ρ' hp' nx' w') (hro : ∀ b blk, hp.get b = some blk → blk.isRw = false) : Ext w w' :=
  ⟨h.fr.os, h.fr.tape, h.fr.output, h.fr.size, fun k hk => h.fr.keep k hk fun b blk hb hr => by rw [hro b blk hb] at hr; cases hr⟩
def runCallB (P : Program) (prims : Prims) (n : Nat) (f : Nat) (args : List AV) (m : M) : Option (Out × M) := callX P noPrims (exec P prims (drawR P) true n) f args m
theorem runCallB_spec {P : Program} {prims : Prims} (hprims : PrimsOK P prims) {n : Nat} {f : Nat} {args : List AV} {m m' : M} {out : Out} (h : runCallB P prims n f args m = some (out, m')) : COK P m f args out m' :=
  callX_spec (noPrims_ok P) (fun c m ex m' h => exec_spec hprims (fun e => @drawR_ok e P) n true env0 (fun _ => rfl) c m ex m' h) f args m out m' h
theorem calls_ofB {P : Program} {prims : Prims} (hprims : PrimsOK P prims) {F f : Nat} {args : List AV} {ins : List Blk} {plan : List PI} {pick : List Nat} {J : SL} {v : AV} {ow : Prop}
    (h : lhs (runCallB P prims F f args (st0 ins plan)) ins.length pick J = rhs (runCallB P prims F f args (st0 ins plan)) ins.length pick J (.ret (ren (sig ins.length pick) v)) ow) (ho : ow)
    {ρ : Nat → BI} {w : World} (hs : HSim ρ (addBlks .e 0 ins) ins.length w) (hi : idsBL ins.length args = true) :
    Calls P f (concL ρ args).toArray w (fun e w' => ∃ ρ', e = .returned (conc ρ' v) ∧ HStep ρ (addBlks .e 0 ins) ins.length w ρ' (Tr.ofList J.hp) J.nx w') := by
  obtain ⟨m', hr, hok, hl, _⟩ := lands_of h ho
  have hc := runCallB_spec hprims hr
  refine ((hc.run hok).2 ρ w hs hi).mono fun e w' hq => ?_
  obtain ⟨ρ', rfl, _, st⟩ := hq
  exact ⟨_, by simp only [Out.conc, conc_ren], hl.step st⟩
theorem calls_pureB {P : Program} {prims : Prims} (hprims : PrimsOK P prims) {F f : Nat} {args : List AV} {ins : List Blk} {plan : List PI} {v : AV} {ow : Prop}
    (h : lhs (runCallB P prims F f args (st0 ins plan)) ins.length [] ⟨[], [], ins.length⟩ = rhs (runCallB P prims F f args (st0 ins plan)) ins.length [] ⟨[], [], ins.length⟩ (.ret v) ow) (ho : ow)
    {ρ : Nat → BI} {w : World} (hs : HSim ρ (addBlks .e 0 ins) ins.length w) (hro : ins.all (fun b => !b.isRw) = true) (hi : idsBL ins.length args = true) (hv : v.idsB ins.length = true) :
    Calls P f (concL ρ args).toArray w (fun e w' => e = .returned (conc ρ v) ∧ Ext w w') := by
  obtain ⟨m', hr, hok, hl, _⟩ := lands_of h ho
  have hc := runCallB_spec hprims hr
  refine ((hc.run hok).2 ρ w hs hi).mono fun e w' hq => ?_
  obtain ⟨ρ', rfl, _, st⟩ := hq
  refine ⟨by simp only [Out.conc]; rw [conc_agree st.agree v hv], st.below fun b blk hb => ?_⟩
  have hb : (addBlks .e 0 ins).get b = some blk := hb
  rw [addBlks_get] at hb
  split at hb
  · have := List.all_eq_true.1 hro blk (List.mem_of_getElem? hb)
    simpa using this
  · cases b <;> cases hb
def noAny (ks : List Kd) : Bool := !ks.any Kd.isAny
inductive Reads (w : World) (ks : List Kd) (rows : List (List AV)) : Value → Prop
  | nil (h : rows = []) : Reads w ks rows (.slice none 0 0)
  | cells (bi : BI) (c : Nat) (h : (Blk.cells false ks rows).sat (fun _ => bi) w 0) : Reads w ks rows (.slice (some ⟨bi.blk, bi.off, none⟩) rows.length c)
theorem Blk.sat_at {ρ ρ' : Nat → BI} {w : World} {b b' : Nat} {rw : Bool} {ks : List Kd} {rows : List (List AV)} (hk : noAny ks = true) (hb : ρ' b' = ρ b) (h : (Blk.cells rw ks rows).sat ρ w b) : (Blk.cells rw ks rows).sat ρ' w b' := by
  obtain ⟨h0, c, t, fr, h1, h2, h3⟩ := h
  refine ⟨by rw [hb]; exact h0, c, t, fr, by rw [hb]; exact h1, fun i j kd hi hj => ?_, by rw [hb]; exact h3⟩
  rw [hb, h2 i j kd hi hj]
  have hna : kd.isAny = false := by
    cases h : kd.isAny with
    | false => rfl
    | true => simp only [noAny, Bool.not_eq_true', List.any_eq_false] at hk; exact absurd h (hk kd (List.mem_of_getElem? hj))
  unfold cellAt
  cases kd with
  | any => cases hna
  | _ => rfl
theorem Blk.ro {ρ : Nat → BI} {w : World} {b : Nat} {rw : Bool} {ks : List Kd} {rows : List (List AV)} (h : (Blk.cells rw ks rows).sat ρ w b) : (Blk.cells false ks rows).sat ρ w b := by
  obtain ⟨h0, c, t, fr, h1, h2, h3⟩ := h
  exact ⟨h0, c, t, fr, h1, h2, fun h => by cases h⟩
theorem Blk.part {ρ ρ' : Nat → BI} {w : World} {b b' i n : Nat} {rw : Bool} {ks : List Kd} {rows : List (List AV)} (hk : noAny ks = true) (h : (Blk.cells rw ks rows).sat ρ w b)
    (hb : ρ' b' = ⟨(ρ b).blk, (ρ b).off + i * (ρ b).sz, (ρ b).sz, (ρ b).rows - i, false⟩) : (Blk.cells false ks (sub rows i n)).sat ρ' w b' := by
  obtain ⟨h0, c, t, fr, h1, h2, h3⟩ := h
  refine ⟨by rw [hb]; exact h0, c, t, fr, by rw [hb]; exact h1, fun i' j kd hi hj => ?_, fun h => by cases h⟩
  have hlen : i' < n ∧ i + i' < rows.length := by
    simp only [sub, List.length_take, List.length_drop] at hi; omega
  rw [hb]
  have := h2 (i + i') j kd hlen.2 hj
  rw [cellAt_sub hlen.1]
  have hna : kd.isAny = false := by
    cases h : kd.isAny with
    | false => rfl
    | true => simp only [noAny, Bool.not_eq_true', List.any_eq_false] at hk; exact absurd h (hk kd (List.mem_of_getElem? hj))
  have e : (ρ b).off + i * (ρ b).sz + (i' * (ρ b).sz + j) = (ρ b).off + ((i + i') * (ρ b).sz + j) := by rw [Nat.add_mul]; omega
  show c[(ρ b).off + i * (ρ b).sz + (i' * (ρ b).sz + j)]? = _
  rw [e, this]
  unfold cellAt
  cases kd with
  | any => cases hna
  | _ => rfl
def slIn (hp : Tr Blk) (ks : List Kd) : AV → Option (Bool × List (List AV))
  | .nilSl => some (true, [])
  | .slq b n => match hp.get b with
    | some (.cells _ ks' rows) => bif decide (ks' = ks) then some (decide (0 + n ≤ rows.length), sub rows 0 n) else none
    | _ => none
  | .sl l n _ => match hp.get l.b, l.j with
    | some (.cells _ ks' rows), 0 => bif decide (ks' = ks) then some (decide (l.i + n ≤ rows.length), sub rows l.i n) else none
    | _, _ => none
  | _ => none
theorem slIn_spec {ρ : Nat → BI} {hp : Tr Blk} {nx : Nat} {w : World} (hs : HSim ρ hp nx w) {ks : List Kd} {v : AV} {c : Bool} {rows : List (List AV)} (h : slIn hp ks v = some (c, rows)) (hc : c = true) (hk : noAny ks = true) :
    Reads w ks rows (conc ρ v) := by
  unfold slIn at h
  split at h
  · cases h; exact .nil rfl
  · rename_i b n
    split at h
    · rename_i rw ks' rows' hg
      obtain ⟨h1, h2⟩ := bif_some h
      have h1 := of_decide_eq_true h1
      subst h1
      cases h2
      have hc := of_decide_eq_true hc
      have hl : (sub rows' 0 n).length = n := sub_length hc
      simp only [conc]
      by_cases hnil : n = 0 ∧ (ρ b).nil = true
      · rw [if_pos hnil]
        exact .nil (by rw [hnil.1]; simp [sub])
      · rw [if_neg hnil]
        have hsat := hs.sat _ _ hg
        have hp := Blk.part (ρ' := fun _ => ⟨(ρ b).blk, (ρ b).off + 0 * (ρ b).sz, (ρ b).sz, (ρ b).rows - 0, false⟩) (b' := 0) (i := 0) (n := n) hk hsat rfl
        have := Reads.cells (ks := ks') (rows := sub rows' 0 n) ⟨(ρ b).blk, (ρ b).off + 0 * (ρ b).sz, (ρ b).sz, (ρ b).rows - 0, false⟩ (ρ b).rows hp
        rw [hl] at this
        simpa using this
    · cases h
  · rename_i l n cap
    split at h
    · rename_i rw ks' rows' hg hj
      obtain ⟨h1, h2⟩ := bif_some h
      have h1 := of_decide_eq_true h1
      subst h1
      cases h2
      have hc := of_decide_eq_true hc
      have hl : (sub rows' l.i n).length = n := sub_length hc
      have hsat := hs.sat _ _ hg
      have hp := Blk.part (ρ' := fun _ => ⟨(ρ l.b).blk, (ρ l.b).off + l.i * (ρ l.b).sz, (ρ l.b).sz, (ρ l.b).rows - l.i, false⟩) (b' := 0) (i := l.i) (n := n) hk hsat rfl
      have := Reads.cells (ks := ks') (rows := sub rows' l.i n) ⟨(ρ l.b).blk, (ρ l.b).off + l.i * (ρ l.b).sz, (ρ l.b).sz, (ρ l.b).rows - l.i, false⟩ (capOf ρ l cap) hp
      rw [hl] at this
      simpa [conc, addr, hj] using this
    · cases h
  · cases h
theorem Reads.bi {w : World} {ks : List Kd} {rows : List (List AV)} {v : Value} (gw : GW w) (hk : noAny ks = true) (h : Reads w ks rows v) :
    ∃ bi : BI, ∀ (ρ : Nat → BI) (b : Nat), ρ b = bi → conc ρ (.slq b rows.length) = v ∧ (Blk.cells false ks rows).sat ρ w b := by
  cases h with
  | nil h =>
    refine ⟨⟨1, 0, ks.length, 0, true⟩, fun ρ b hb => ?_⟩
    subst h
    have h1 : 1 < w.heap.size := Nat.lt_of_lt_of_le (by decide) gw.size
    obtain ⟨m, t, fr, ho⟩ := gw.at' 1 _ (by decide) (Array.getElem?_eq_getElem h1)
    refine ⟨by simp [conc, hb], by rw [hb], _, t, fr, by rw [hb]; exact (Array.getElem?_eq_getElem h1).trans (congrArg some ho), fun i j kd hi => by simp at hi, fun h => by cases h⟩
  | cells bi c h =>
    refine ⟨⟨bi.blk, bi.off, bi.sz, c, false⟩, fun ρ b hb => ⟨by simp [conc, hb], ?_⟩⟩
    obtain ⟨h0, cs, t, fr, h1, h2, h3⟩ := h
    refine ⟨by rw [hb]; exact h0, cs, t, fr, by rw [hb]; exact h1, fun i j kd hi hj => ?_, fun h => by cases h⟩
    have h4 := h2 i j kd hi hj
    rw [hb]
    rw [h4]
    have hna : kd.isAny = false := by
      cases h : kd.isAny with
      | false => rfl
      | true => simp only [noAny, Bool.not_eq_true', List.any_eq_false] at hk; exact absurd h (hk kd (List.mem_of_getElem? hj))
    unfold cellAt
    cases kd with
    | any => cases hna
    | _ => rfl
theorem Reads.ext {w w' : World} (e : Ext w w') {ks : List Kd} {rows : List (List AV)} {v : Value} (h : Reads w ks rows v) : Reads w' ks rows v := by
  cases h with
  | nil h => exact .nil h
  | cells bi c h => exact .cells bi c (Blk.sat_world (e.block _ (Blk.sat_lt h)) h)
def loopsIn : Code → List Code
  | .seq a b => loopsIn a ++ loopsIn b
  | .cond _ a b => loopsIn a ++ loopsIn b
  | .block _ a => loopsIn a
  | .loop a => a :: loopsIn a
  | .scope a => loopsIn a
  | _ => []
def fbody (P : Program) (f : Nat) : Code := match P.funcs[f]? with | some fn => fn.body.getD .skip | none => .skip
def lbody (P : Program) (f k : Nat) : Code := (loopsIn (fbody P f)).getD k .skip
end Go.Proofs.YtpdgmgkkbbndfaaGreatDoor.SX

namespace Go.Proofs.YtpdgmgkkbbndfaaGreatDoor.SX
open Go
abbrev Entry := List AV → Tr Blk → Nat → Option (Bool × AV × List Blk)
def EntryOK (P : Program) (f : Nat) (q : Entry) : Prop := ∀ args hp nx c v bs, q args hp nx = some (c, v, bs) → c = true → ∀ ρ w, HSim ρ hp nx w → idsBL nx args = true →
  Calls P f (concL ρ args).toArray w (fun e w' => ∃ ρ', e = .returned (conc ρ' v) ∧ v.idsB (nx + bs.length) = true ∧ HStep ρ hp nx w ρ' (addBlks hp nx bs) (nx + bs.length) w')
def addP (p : Prims) (f0 : Nat) (q : Entry) : Prims := fun f args hp nx => bif Nat.beq f f0 then q args hp nx else p f args hp nx
theorem addP_ok {P : Program} {p : Prims} {f0 : Nat} {q : Entry} (hp : PrimsOK P p) (hq : EntryOK P f0 q) : PrimsOK P (addP p f0 q) := by
  intro f args hp' nx c v bs h hc ρ w hs hi
  unfold addP at h
  cases hb : Nat.beq f f0 with
  | true =>
    rw [hb] at h
    rw [Nat.eq_of_beq_eq_true hb]
    exact hq args hp' nx c v bs h hc ρ w hs hi
  | false =>
    rw [hb] at h
    exact hp f args hp' nx c v bs h hc ρ w hs hi
theorem entry_pure {P : Program} {f : Nat} {vs : Array Value} {ρ : Nat → BI} {hp : Tr Blk} {nx : Nat} {w : World} {v : AV} (hs : HSim ρ hp nx w) (hv : v.idsB nx = true)
    (h : Calls P f vs w (fun e w' => e = .returned (conc ρ v) ∧ Ext w w')) :
    Calls P f vs w (fun e w' => ∃ ρ', e = .returned (conc ρ' v) ∧ v.idsB (nx + ([] : List Blk).length) = true ∧ HStep ρ hp nx w ρ' (addBlks hp nx []) (nx + ([] : List Blk).length) w') :=
  h.mono fun e w' hq => ⟨ρ, hq.1, hv, HStep.quiet hs hq.2⟩
theorem HStep.fresh {ρ ρ' : Nat → BI} {hp : Tr Blk} {nx : Nat} {w w' : World} {bs : List Blk} (h : HSim ρ hp nx w) (e : Ext w w') (ag : Agree nx ρ ρ')
    (hb : ∀ (i : Nat) (blk : Blk), bs[i]? = some blk → blk.sat ρ' w' (nx + i) ∧ (w.heap.size ≤ (ρ' (nx + i)).blk ∨ (blk.isRw = false ∧ (ρ' (nx + i)).blk < NG)) ∧ blk.idsB (nx + bs.length) = true)
    (hd : ∀ i j ki kj, bs[i]? = some ki → bs[j]? = some kj → i ≠ j → (ki.isRw = true ∨ kj.isRw = true) → (ρ' (nx + i)).blk ≠ (ρ' (nx + j)).blk) : HStep ρ hp nx w ρ' (addBlks hp nx bs) (nx + bs.length) w' := by
  have hg : ∀ b blk, (addBlks hp nx bs).get b = some blk → (∃ i, b = nx + i ∧ i < bs.length ∧ bs[i]? = some blk) ∨ (b < nx ∧ hp.get b = some blk) := by
    intro b blk hb'
    rw [addBlks_get] at hb'
    split at hb'
    · rename_i hr; exact .inl ⟨b - nx, by omega, by omega, hb'⟩
    · rename_i hr; exact .inr ⟨(h.wf b blk hb').1, hb'⟩
  have hlt : ∀ b k, hp.get b = some k → (ρ' b).blk < w.heap.size := fun b k hk => by
    rw [ag b (h.wf b k hk).1]; exact Blk.sat_lt (h.sat b k hk)
  refine HStep0.make h ⟨ag, by omega, ⟨fun b blk hb' => ?_, fun b1 b2 k1 k2 hne h1 h2 hr => ?_, fun b blk hb' => ?_⟩, ⟨e.os, e.tape, e.output, e.size, fun n hn _ => e.block n hn⟩, fun b blk hb' => ?_, ⟨fun b blk hlt hb' => ?_, fun b blk hge hb' hro => ?_⟩⟩
  · rcases hg b blk hb' with ⟨i, rfl, hi, hbi⟩ | ⟨hlt', hbi⟩
    · exact (hb i blk hbi).1
    · have h1 := Blk.sat_agree ag hlt' (h.wf b blk hbi).2 (h.sat b blk hbi)
      exact Blk.sat_world (e.block _ (hlt b blk hbi)) h1
  · rcases hg b1 k1 h1 with ⟨i, rfl, hi, hbi⟩ | ⟨hl1, hb1⟩ <;> rcases hg b2 k2 h2 with ⟨j, rfl, hj, hbj⟩ | ⟨hl2, hb2⟩
    · exact hd i j k1 k2 hbi hbj (by omega) hr
    · rcases (hb i k1 hbi).2.1 with h3 | ⟨h3, h4⟩
      · have := hlt b2 k2 hb2; omega
      · have hr2 : k2.isRw = true := by
          rcases hr with hr | hr
          · rw [h3] at hr; cases hr
          · exact hr
        have := h.ng b2 k2 hb2 hr2
        rw [ag b2 hl2]; omega
    · rcases (hb j k2 hbj).2.1 with h3 | ⟨h3, h4⟩
      · have := hlt b1 k1 hb1; omega
      · have hr1 : k1.isRw = true := by
          rcases hr with hr | hr
          · exact hr
          · rw [h3] at hr; cases hr
        have := h.ng b1 k1 hb1 hr1
        rw [ag b1 hl1]; omega
    · rw [ag b1 hl1, ag b2 hl2]; exact h.sep b1 b2 k1 k2 hne hb1 hb2 hr
  · rcases hg b blk hb' with ⟨i, rfl, hi, hbi⟩ | ⟨hl1, hb1⟩
    · exact ⟨by omega, (hb i blk hbi).2.2⟩
    · exact ⟨by omega, Blk.idsB_mono (by omega) (h.wf b blk hb1).2⟩
  · rcases hg b blk hb' with ⟨i, rfl, hi, hbi⟩ | ⟨hl1, hb1⟩
    · exact .inl (hb i blk hbi).2.1
    · exact .inr ⟨b, blk, hb1, id, by rw [ag b hl1]⟩
  · rcases hg b blk hb' with ⟨i, rfl, hi, hbi⟩ | ⟨hl1, hb1⟩
    · omega
    · exact ⟨blk, hb1, rfl⟩
  · rcases hg b blk hb' with ⟨i, rfl, hi, hbi⟩ | ⟨hl1, hb1⟩
    · exact (hb i blk hbi).2.1.imp id fun h => h.2
    · omega
def idx {α : Type} (n : Nat) : List α → List (Nat × α)
  | [] => []
  | x :: l => (n, x) :: idx (n + 1) l
theorem ofList_idx : ∀ {l : List Blk} {n b : Nat}, (Tr.ofList (idx n l)).get b = if n ≤ b ∧ b < n + l.length then l[b - n]? else none
  | [], n, b => by
    have : ¬ (n ≤ b ∧ b < n + 0) := by omega
    simp only [idx, Tr.ofList, List.length_nil]; rw [if_neg this]
    cases b <;> rfl
  | x :: l, n, b => by
    simp only [idx, Tr.ofList, Tr.get_set, List.length_cons]
    by_cases h1 : b = n
    · subst h1
      rw [if_pos rfl, if_pos (by omega)]; simp
    · rw [if_neg h1, ofList_idx]
      by_cases h2 : n + 1 ≤ b ∧ b < n + 1 + l.length
      · rw [if_pos h2, if_pos (by omega), show b - n = (b - (n + 1)) + 1 by omega]; simp
      · rw [if_neg h2, if_neg (by omega)]
theorem entry_of {P : Program} {f : Nat} {vs : Array Value} {ρ ρ0 : Nat → BI} {hp : Tr Blk} {nx : Nat} {w : World} {v v0 : AV} {ins bs : List Blk} (hs : HSim ρ hp nx w)
    (hro : ins.all (fun b => !b.isRw) = true) (hrw : bs.all (fun b => b.isRw && b.idsB 0) = true)
    (hcan : Calls P f vs w (fun e w' => ∃ ρ', e = .returned (conc ρ' v0) ∧ HStep ρ0 (addBlks .e 0 ins) ins.length w ρ' (Tr.ofList (idx ins.length bs)) (ins.length + bs.length) w'))
    (hv : v.idsB (nx + bs.length) = true) (hc : ∀ ρ' ρ'', Agree nx ρ ρ'' → Agree ins.length ρ0 ρ' → (∀ i, i < bs.length → ρ'' (nx + i) = ρ' (ins.length + i)) → conc ρ'' v = conc ρ' v0)
    (hsat : ∀ blk ∈ bs, ∀ (ρ' ρ'' : Nat → BI) (b b' : Nat) (w' : World), ρ'' b' = ρ' b → blk.sat ρ' w' b → blk.sat ρ'' w' b') :
    Calls P f vs w (fun e w' => ∃ ρ', e = .returned (conc ρ' v) ∧ v.idsB (nx + bs.length) = true ∧ HStep ρ hp nx w ρ' (addBlks hp nx bs) (nx + bs.length) w') := by
  refine hcan.mono fun e w' hq => ?_
  obtain ⟨ρ', rfl, st⟩ := hq
  have hroI : ∀ b blk, (addBlks .e 0 ins).get b = some blk → blk.isRw = false := by
    intro b blk hb
    rw [addBlks_get] at hb
    split at hb
    · have := List.all_eq_true.1 hro blk (List.mem_of_getElem? hb); simpa using this
    · cases b <;> cases hb
  have hget : ∀ (i : Nat) (blk : Blk), bs[i]? = some blk → (Tr.ofList (idx ins.length bs)).get (ins.length + i) = some blk := by
    intro i blk hi
    have hil : i < bs.length := by
      rcases Nat.lt_or_ge i bs.length with h | h
      · exact h
      · rw [List.getElem?_eq_none h] at hi; cases hi
    rw [ofList_idx, if_pos (by omega), show ins.length + i - ins.length = i by omega]; exact hi
  have hnew : ∀ i, (if nx + i < nx then ρ (nx + i) else ρ' (ins.length + (nx + i - nx))) = ρ' (ins.length + i) := fun i => by
    rw [if_neg (by omega), show nx + i - nx = i by omega]
  refine ⟨fun b => if b < nx then ρ b else ρ' (ins.length + (b - nx)), ?_, hv, ?_⟩
  · rw [hc ρ' _ (fun b hb => by simp [hb]) st.agree (fun i hi => hnew i)]
  · refine HStep.fresh hs (st.below hroI) (fun b hb => by simp [hb]) (fun i blk hi => ?_) (fun i j ki kj hi hj hne _ => ?_)
    · have hm := List.mem_of_getElem? hi
      have hb := List.all_eq_true.1 hrw blk hm
      simp only [Bool.and_eq_true] at hb
      refine ⟨hsat blk hm ρ' _ (ins.length + i) (nx + i) w' (hnew i) (st.sim.sat _ _ (hget i blk hi)), ?_, Blk.idsB_mono (Nat.zero_le _) hb.2⟩
      have : ¬ (nx + i < nx) := by omega
      simp only [this, if_false]
      rw [show ins.length + (nx + i - nx) = ins.length + i by omega]
      rcases st.new _ _ (hget i blk hi) with (h | ⟨h, _⟩) | ⟨b0, k0, h0, hr, _⟩
      · exact .inl h
      · rw [hb.1] at h; cases h
      · have := hroI _ _ h0; rw [hr hb.1] at this; cases this
    · have h1 : ¬ (nx + i < nx) := by omega
      have h2 : ¬ (nx + j < nx) := by omega
      simp only [h1, h2, if_false]
      rw [show ins.length + (nx + i - nx) = ins.length + i by omega, show ins.length + (nx + j - nx) = ins.length + j by omega]
      have g1 := hget i ki hi
      have g2 := hget j kj hj
      have hb := List.all_eq_true.1 hrw ki (List.mem_of_getElem? hi)
      simp only [Bool.and_eq_true] at hb
      exact st.sim.sep _ _ _ _ (by omega) g1 g2 (.inl hb.1)
theorem cells_sat_at {rw : Bool} {ks : List Kd} {rows : List (List AV)} (hk : noAny ks = true) : ∀ (ρ' ρ'' : Nat → BI) (b b' : Nat) (w' : World), ρ'' b' = ρ' b → (Blk.cells rw ks rows).sat ρ' w' b → (Blk.cells rw ks rows).sat ρ'' w' b' :=
  fun _ _ _ _ _ h hs => Blk.sat_at hk h hs
theorem BodyOK.to {P : Program} {body : Code} {nt nx0 : Nat} {I R R' : SL} {ex : Ex} (h : BodyOK P body nt nx0 I ex R) (e : R = R') : BodyOK P body nt nx0 I ex R' := e ▸ h
theorem body_by {P : Program} {prims : Prims} {F : Nat} {body : Code} {nt nx0 : Nat} {plan : List PI} {pick : List Nat} {I R R' : SL} {ex : Ex} {ow : Prop} (hprims : PrimsOK P prims)
    (h : lhs (run P prims F body (I.mp nt plan)) nx0 pick R = rhs (run P prims F body (I.mp nt plan)) nx0 pick R ex ow) (e : R = R') (ho : ow) (hp : ex.plain = true) : BodyOK P body nt nx0 I ex R' :=
  e ▸ body_of hprims h ho hp
theorem succ64 {k n : Nat} (h : k < n) (hn : n ≤ 4611686018427387904) : IntKind.wrap IntKind.i64 ((k : Int) + 1) = ((k + 1 : Nat) : Int) := by
  rw [IntWalk.i64_in _ (by omega)]; omega
end Go.Proofs.YtpdgmgkkbbndfaaGreatDoor.SX

set_option maxRecDepth 100000
namespace Go.Proofs.YtpdgmgkkbbndfaaGreatDoor
open Go Go.Proofs Go.Proofs.YtpdgmgkkbbndfaaGreatDoor.SX
abbrev Pr : Prims := noPrims
theorem Pr_ok : PrimsOK Tryz.prog Pr := noPrims_ok _
def byteRows (s : List UInt8) : List (List AV) := s.map byteRow
theorem rowByte_byteRow (c : UInt8) : rowByte (byteRow c) = c := by
  simp [rowByte, byteRow, AV.toInt]
theorem map_rowByte (l : List UInt8) : (byteRows l).map rowByte = l := by
  unfold byteRows
  rw [List.map_map]
  have : (rowByte ∘ byteRow) = id := by funext c; exact rowByte_byteRow c
  rw [this, List.map_id]
theorem sub_all {α : Type} (l : List α) {n : Nat} (h : n = l.length) : sub l 0 n = l := by simp [sub, h]
theorem byteRows_length (l : List UInt8) : (byteRows l).length = l.length := by simp [byteRows]
theorem byte_at {l : List UInt8} {i : Nat} (h : i < l.length) : AV.toInt (List.getD (List.getD (byteRows l) i []) 0 AV.undef) = (l[i].toNat : Int) := by
  have : (byteRows l).getD i [] = byteRow l[i] := by simp [byteRows, List.getD_eq_getElem?_getD, h]
  rw [this]; rfl
end Go.Proofs.YtpdgmgkkbbndfaaGreatDoor

namespace Go.Proofs.YtpdgmgkkbbndfaaGreatDoor.SX
open Go
theorem Blk.sat_ne_loop {ρ : Nat → BI} {w : World} {b l : Nat} {blk : Blk} {r : Loop} (h : blk.sat ρ w b) (hl : w.heap[l]? = some (.loop r)) : (ρ b).blk ≠ l := by
  intro e
  subst e
  cases blk with
  | cells rw ks rows => obtain ⟨_, c, t, fr, h1, _⟩ := h; rw [h1] at hl; cases hl
  | map es => obtain ⟨_, _, h1, _⟩ := h; rw [h1] at hl; cases hl
  | siter s pos => have := h.2; rw [this] at hl; cases hl
  | mark => have := h.2; rw [this] at hl; cases hl
theorem HStep.turn {ρ0 ρ : Nat → BI} {hp0 hp : Tr Blk} {nx0 nx : Nat} {w0 W : World} {l : Nat} {r : Loop} (st : HStep ρ0 hp0 nx0 w0 ρ hp nx W) (hl : W.heap[l]? = some (.loop r)) (hge : w0.heap.size ≤ l) (hng : NG ≤ l) (o : Obj) :
    HStep ρ0 hp0 nx0 w0 ρ hp nx (W.putObj l o) := by
  refine ⟨st.agree, st.le, ⟨⟨fun b blk hb => ?_, st.sim.sep, st.sim.wf⟩, st.sim.gw.step (by simp) (fun n hn => World.putObj_heap_other (by omega)), st.sim.ng⟩, ⟨st.fr.os, st.fr.tape, st.fr.output, by simpa using st.fr.size, fun n hn hno => ?_⟩, st.new, st.own⟩
  · have hs := st.sim.sat b blk hb
    exact Blk.sat_world (World.putObj_heap_other (Blk.sat_ne_loop hs hl)) hs
  · rw [World.putObj_heap_other (by omega)]
    exact st.fr.keep n hn hno
def Keep (ρ : Nat → BI) (hp : Tr Blk) (w w' : World) : Prop := ∀ n, n < w.heap.size → (∀ b blk, hp.get b = some blk → blk.isRw = true → (ρ b).blk ≠ n) → w'.heap[n]? = w.heap[n]?
def BodyR (P : Program) (body : Code) (nt nx0 : Nat) (I : SL) (ex : Ex) (R : SL) : Prop :=
  ∀ e : Inhabited EnvT, ∀ ρ0 hp0 w0 ρ a w, HStep ρ0 hp0 nx0 w0 ρ (Tr.ofList I.hp) I.nx w → @Sim e ρ (I.m nt) a w →
    @Code.wpE e P body (fun x a' w' => x = ex.conc ρ0 ∧ Keep ρ (Tr.ofList I.hp) w w' ∧ ∃ ρ', HStep ρ0 hp0 nx0 w0 ρ' (Tr.ofList R.hp) R.nx w' ∧ @Sim e ρ' (R.m nt) a' w') a w
theorem body_ofR {P : Program} {prims : Prims} (hprims : PrimsOK P prims) {F : Nat} {body : Code} {nt nx0 : Nat} {plan : List PI} {pick : List Nat} {I R : SL} {ex : Ex} {ow : Prop}
    (h : lhs (runR P prims F body (I.mp nt plan)) nx0 pick R = rhs (runR P prims F body (I.mp nt plan)) nx0 pick R ex ow) (ho : ow) (hp : ex.plain = true) : BodyR P body nt nx0 I ex R := by
  obtain ⟨m', hr, hok, hl, hmk⟩ := lands_of h ho
  intro e ρ0 hp0 w0 ρ a w st hs
  have hx := runR_spec hprims e hr
  refine wpE_mono ((hx.run hok).2 ρ a w ⟨hs.h, hs.size, hs.tms, hs.defers⟩) fun x a' w' hq => ?_
  obtain ⟨ρ', hq⟩ := hq
  have hh : HStep ρ (Tr.ofList I.hp) I.nx w ρ' m'.hp m'.nx w' := hq.h
  have st2 := st.trans hh
  obtain ⟨h1, h2⟩ := hq.frame (Ex.plain_conc hp ρ0 ρ0).2
  have h3 := (hq.defers (Ex.plain_conc hp ρ0 ρ0).2).eq
  rw [hmk] at h3
  refine ⟨by rw [hq.e]; exact (Ex.plain_conc hp _ _).1, hh.fr.keep, _, hl.step st2, hl.sim st2 (h1.trans hx.nt) h2 h3⟩
def YieldOK (P : Program) (l : Nat) (args : Array Value) (W : World) (R : Ending → World → Prop) : Prop :=
  ∃ fn tmps assign body, (Instr.yield l args).run P W = .ok (.round l fn tmps assign body) W ∧ RoundIn Fence.wide 0 P l fn tmps assign body W R
def IterOK (P : Program) (f : Nat) (caps : Array Value) (w : World) (N : Nat) (arg : Nat → Array Value) : Prop :=
  ∀ (l : Nat) (J : Nat → World → Prop), (∀ k W W', J k W → Ext W W' → J k W') → (∀ k W, J k W → GW W) →
    (∀ k W, k < N → J k W → YieldOK P l (arg k) W (fun e W' => e = .returned (.bool true) ∧ J (k + 1) W')) → J 0 w →
    Calls P f (#[.func (.yield l) #[] #[]] ++ caps) w (fun e W' => (∃ v, e = .returned v) ∧ J N W')
theorem ofList_cons {α : Type} (k : Nat) (v : α) (l : List (Nat × α)) (i : Nat) : (Tr.ofList ((k, v) :: l)).get i = if i = k then some v else (Tr.ofList l).get i := by
  simp only [Tr.ofList, Tr.get_set]
theorem zip2 (a : Array Value) (p0 p1 : Nat) (x y : Value) : (#[p0, p1].zip #[x, y]).foldl (fun tmps (t, a) => tmps.setIfInBounds t a) a = (a.setIfInBounds p0 x).setIfInBounds p1 y := by
  rw [← Array.foldl_toList, Array.toList_zip]; rfl
theorem range_rule {P : Program} {t p0 p1 : Nat} {assign body : Code} {nt : Nat} {I : SL} {f : Nat} {caps : List AV} (S B : Nat → SL) (N : Nat) (arg : Nat → AV × AV)
    (hent : ∀ args w, (callFunc f args).run P w = .ok (.enter f args) w)
    (hg : (Tr.ofList I.tm).get t = some (.fn (.func f) [] caps)) (hp0 : p0 < nt) (hp1 : p1 < nt) (hpp : p0 ≠ p1)
    (harg : ∀ k, k < N → (arg k).1.idsB 0 = true ∧ (arg k).2.idsB 0 = true)
    {pick : List Nat} (h0 : Lands (I.nx + 1) pick ((⟨[], (I.nx, .mark) :: I.hp, I.nx + 1⟩ : SL).m nt) (S 0))
    (hassign : ∀ k, k < N → BodyR P assign nt (I.nx + 1) ⟨(p1, (arg k).2) :: (p0, (arg k).1) :: I.tm, (S k).hp, (S k).nx⟩ .normal (B k))
    (hbody : ∀ k, k < N → BodyR P body nt (I.nx + 1) (B k) .normal (S (k + 1)))
    (hit : ∀ ρ w, HSim ρ (Tr.ofList ((I.nx, .mark) :: I.hp)) (I.nx + 1) w → IterOK P f (concL ρ caps).toArray w N (fun k => #[conc ρ (arg k).1, conc ρ (arg k).2])) :
    RangeOK P (.rangeFunc (.tmp t) #[p0, p1] assign body) nt I (S N) := by
  intro e he ρ a w hs
  have hro : (RF e.default.ro).round = none := he
  have hNG : NG ≤ w.heap.size := (@Sim.h e _ _ _ _ hs).gw.size
  refine wpIn_rangeFunc ?_
  intro fn hfn
  rw [hro]
  obtain ⟨w1, hw1⟩ : ∃ w1, w.alloc (.deferred (some [])) = w1 := ⟨_, rfl⟩
  have hsz1 : w1.heap.size = w.heap.size + 1 := by rw [← hw1]; exact World.size_alloc ..
  have hnb : HStep ρ (Tr.ofList I.hp) I.nx w (upd ρ I.nx ⟨w.heap.size, 0, 0, 0, false⟩) (Tr.ofList ((I.nx, .mark) :: I.hp)) (I.nx + 1) w1 := by
    rw [← hw1]
    exact HStep.newBlk hs.h (Grew.alloc w _) .mark _ rfl (by simp only [Blk.sat, upd_same]; exact ⟨trivial, alloc_new w _⟩) rfl
  obtain ⟨ρB, hρB⟩ : ∃ ρB, upd ρ I.nx ⟨w.heap.size, 0, 0, 0, false⟩ = ρB := ⟨_, rfl⟩
  rw [hρB] at hnb
  have hmark : (ρB I.nx).blk = w.heap.size := by rw [← hρB, upd_same]
  obtain ⟨rec, hrec⟩ : ∃ rec : LoopState → Option Code → Loop, rec = fun st pe => { state := st, pending := pe, fn, tmps := a.tmps, params := #[p0, p1], assign, body, defers := w.heap.size } := ⟨_, rfl⟩
  obtain ⟨W1, hW1⟩ : ∃ W1, w1.alloc (.loop (rec .ready none)) = W1 := ⟨_, rfl⟩
  have hL1 : W1.heap[w.heap.size + 1]? = some (.loop (rec .ready none)) := by
    rw [← hW1]; have := World.alloc_heap_new w1 (.loop (rec .ready none)); rwa [hsz1] at this
  have q1 : HStep ρB (Tr.ofList ((I.nx, .mark) :: I.hp)) (I.nx + 1) w1 ρB (Tr.ofList ((I.nx, .mark) :: I.hp)) (I.nx + 1) W1 := by
    refine HStep.quiet hnb.sim ?_
    rw [← hW1]
    exact (RowKit.Below.refl _ w1).alloc (Nat.le_refl _) _
  have hg1 : a.eval (.tmp t) = .func (.func f) #[] (concL ρ caps).toArray := by
    obtain ⟨g1, _⟩ := hs.tms t _ hg
    simp [Act.eval, Array.getD_eq_getD_getElem?, g1, conc, concL]
  have hcaps : (concL ρB caps).toArray = (concL ρ caps).toArray := by
    obtain ⟨_, g2⟩ := hs.tms t _ hg
    have : (AV.fn (.func f) [] caps).idsB I.nx = true := g2
    simp only [AV.idsB, Bool.and_eq_true] at this
    have h3 := conc_agree hnb.agree (.tup caps) (by simpa [AV.idsB] using this.2)
    simp only [conc, Value.tuple.injEq] at h3
    exact h3
  refine ⟨w.heap.size + 1, [{ target := .collected w.heap.size, args := #[] }], W1, { target := .fn (.func f) (concL ρ caps).toArray, args := #[.func (.yield (w.heap.size + 1)) #[] #[]] }, W1, f,
    #[.func (.yield (w.heap.size + 1)) #[] #[]] ++ (concL ρ caps).toArray, W1, ?_, ?_, ?_, ?_, (fun h => absurd h (by simp [RF, Fence.wide])), ?_⟩
  · rw [← hW1, ← hw1, hrec]; exact run_enterLoop_outer _ _ _ _ _
  · simp only [resolve, hg1]
    simp [go_sem]
  · intro f' hf'; exact trivial
  · simp [invoke, go_sem, hent]
  ·
    refine callsIn_RF.2 ?_
    rw [← hcaps]
    refine (hit ρB W1 q1.sim (w.heap.size + 1) (fun k W => W.heap[w.heap.size + 1]? = some (.loop (rec .ready none)) ∧ ∃ ρk, HStep ρB (Tr.ofList ((I.nx, .mark) :: I.hp)) (I.nx + 1) w1 ρk (Tr.ofList (S k).hp) (S k).nx W) ?_ (fun k W h => by obtain ⟨_, ρk, st⟩ := h; exact st.sim.gw) ?_ ?_).mono ?_
    · rintro k W W' ⟨hl, ρk, st⟩ hx
      have hlt : w.heap.size + 1 < W.heap.size := (Array.getElem?_eq_some_iff.1 hl).1
      exact ⟨(hx.block _ hlt).trans hl, ρk, st.trans (HStep.quiet st.sim hx)⟩
    · rintro k W hk ⟨hl, ρk, st⟩
      have hlt : w.heap.size + 1 < W.heap.size := (Array.getElem?_eq_some_iff.1 hl).1
      have hy := run_yield (P := P) (args := #[conc ρB (arg k).1, conc ρB (arg k).2]) hl (by rw [hrec]; rfl)
      rw [hrec] at hy
      refine ⟨fn, _, assign, body, hy, ?_⟩
      have hin := roundIn_of_wpIn (F := Fence.wide) (n := 0) (P := P) (l := w.heap.size + 1) (f := fn) (tmps := (#[p0, p1].zip #[conc ρB (arg k).1, conc ρB (arg k).2]).foldl (fun tmps (t, a) => tmps.setIfInBounds t a) a.tmps) (assign := assign) (body := body) (w := W)
        (R := fun e W' => e = .returned (.bool true) ∧ W'.heap[w.heap.size + 1]? = some (.loop (rec .ready none)) ∧ ∃ ρk, HStep ρB (Tr.ofList ((I.nx, .mark) :: I.hp)) (I.nx + 1) w1 ρk (Tr.ofList (S (k + 1)).hp) (S (k + 1)).nx W') trivial ?_
      · exact hin
      ·
        have hnk : I.nx + 1 ≤ (S k).nx := st.le
        have hsim : @Sim ⟨⟨[], some (w.heap.size + 1)⟩⟩ ρk ((⟨(p1, (arg k).2) :: (p0, (arg k).1) :: I.tm, (S k).hp, (S k).nx⟩ : SL).m nt)
            { tmps := (#[p0, p1].zip #[conc ρB (arg k).1, conc ρB (arg k).2]).foldl (fun tmps (t, a) => tmps.setIfInBounds t a) a.tmps, defers := [] } W := by
          have hsize : a.tmps.size = nt := hs.size
          refine @Sim.mk ⟨⟨[], some (w.heap.size + 1)⟩⟩ ρk _ _ _ st.sim ?_ ?_ (@Dfs.mk ⟨⟨[], some (w.heap.size + 1)⟩⟩ _ _ _ _ rfl fun b hb => by cases hb)
          · rw [zip2]; simp [hsize, SL.m]
          · intro i v hv
            have hv : (Tr.ofList ((p1, (arg k).2) :: (p0, (arg k).1) :: I.tm)).get i = some v := hv
            rw [ofList_cons, ofList_cons] at hv
            have hgo : ∀ x : AV, x.idsB 0 = true → conc ρk x = conc ρB x := fun x hx => conc_agree st.agree x (SX.idsB_mono (Nat.zero_le _) x hx)
            rw [zip2]
            by_cases h1 : i = p1
            · rw [if_pos h1] at hv; cases hv
              subst h1
              refine ⟨?_, SX.idsB_mono (Nat.zero_le _) _ (harg k hk).2⟩
              rw [hgo _ (harg k hk).2]
              simp [Array.getElem?_setIfInBounds, hsize, hp1]
            · rw [if_neg h1] at hv
              by_cases h2 : i = p0
              · rw [if_pos h2] at hv; cases hv
                subst h2
                refine ⟨?_, SX.idsB_mono (Nat.zero_le _) _ (harg k hk).1⟩
                rw [hgo _ (harg k hk).1]
                simp [Array.getElem?_setIfInBounds, hsize, hp0, Ne.symm h1]
              · rw [if_neg h2] at hv
                obtain ⟨g1, g2⟩ := hs.tms i v hv
                have g2 : v.idsB I.nx = true := g2
                have g3 := SX.idsB_mono (Nat.le_succ I.nx) v g2
                refine ⟨?_, SX.idsB_mono hnk v g3⟩
                rw [conc_agree st.agree v g3, conc_agree hnb.agree v g2, ← g1]
                simp [Array.getElem?_setIfInBounds, Ne.symm h1, Ne.symm h2]
        have ha := hassign k hk ⟨⟨[], some (w.heap.size + 1)⟩⟩ ρB _ w1 ρk _ W st hsim
        refine wpIn_mono ha ?_
        rintro x a1 W2 ⟨rfl, kp2, ρ2, st2, hs2⟩
        have hl2 : W2.heap[w.heap.size + 1]? = some (.loop (rec .ready none)) := (kp2 _ hlt fun b blk hb _ => Blk.sat_ne_loop (st.sim.sat b blk hb) hl).trans hl
        have hlt2 : w.heap.size + 1 < W2.heap.size := (Array.getElem?_eq_some_iff.1 hl2).1
        refine ⟨_, run_beginRound hl2 (by rw [hrec]), ?_⟩
        have hl3 : (W2.putObj (w.heap.size + 1) (.loop { rec .ready none with state := .busy })).heap[w.heap.size + 1]? = some (.loop { rec .ready none with state := .busy }) := World.putObj_heap_same hlt2
        have stb : HStep ρB (Tr.ofList ((I.nx, .mark) :: I.hp)) (I.nx + 1) w1 ρ2 (Tr.ofList (B k).hp) (B k).nx (W2.putObj (w.heap.size + 1) (.loop { rec .ready none with state := .busy })) :=
          st2.turn hl2 (by omega) (by omega) _
        have hs3 : @Sim ⟨⟨[], some (w.heap.size + 1)⟩⟩ ρ2 ((B k).m nt) a1 (W2.putObj (w.heap.size + 1) (.loop { rec .ready none with state := .busy })) :=
          @Sim.mk ⟨⟨[], some (w.heap.size + 1)⟩⟩ _ _ _ _ stb.sim (@Sim.size ⟨⟨[], some (w.heap.size + 1)⟩⟩ _ _ _ _ hs2) (@Sim.tms ⟨⟨[], some (w.heap.size + 1)⟩⟩ _ _ _ _ hs2) (@Sim.defers ⟨⟨[], some (w.heap.size + 1)⟩⟩ _ _ _ _ hs2)
        have hb := hbody k hk ⟨⟨[], some (w.heap.size + 1)⟩⟩ ρB _ w1 ρ2 a1 _ stb hs3
        refine wpIn_mono hb ?_
        rintro x a3 W3 ⟨rfl, kp3, ρ3, st3, hs4⟩
        have hl4 : W3.heap[w.heap.size + 1]? = some (.loop { rec .ready none with state := .busy }) := (kp3 _ (by simpa using hlt2) fun b blk hb _ => Blk.sat_ne_loop (stb.sim.sat b blk hb) hl3).trans hl3
        have hlt4 : w.heap.size + 1 < W3.heap.size := (Array.getElem?_eq_some_iff.1 hl4).1
        have hr := run_endRound (P := P) none hl4
        rw [hrec] at hr
        refine ⟨_, _, hr, rfl, ?_, ρ3, st3.turn hl4 (by omega) (by omega) _⟩
        rw [hrec]
        exact World.putObj_heap_same hlt4
    · refine ⟨hL1, _, (h0.step (hnb.trans q1 |> fun _ => q1))⟩
    ·
      rintro x W ⟨⟨v, rfl⟩, hl, ρN, st⟩
      refine ⟨none, _, by have := run_endLoop (P := P) hl (by rw [hrec]; simp); rw [hrec] at this; exact this, rfl, rfl, ρN, ?_, by have := st.le; omega, ?_⟩
      · rw [st.agree I.nx (by omega), hmark]; rfl
      · exact (hnb.trans st).turn hl (by omega) (by omega) _
end Go.Proofs.YtpdgmgkkbbndfaaGreatDoor.SX

namespace Go.Proofs
open Go.Shelf
def Tryz.lays156_ren : Go.Shelf.Ren := ⟨fun | 156 => 75 | 165 => 103 | 166 => 104 | 169 => 105 | 240 => 124 | 241 => 125 | 276 => 144 | 277 => 145 | n => n, fun | 31 => 112 | 9 => 9 | 3 => 3 | 4 => 4 | 0 => 0 | 20 => 20 | 72 => 154 | 76 => 98 | 70 => 152 | 37 => 23 | 75 => 97 | 127 => 167 | 164 => 177 | 5 => 5 | 80 => 156 | n => n, fun | n => n⟩
theorem Tryz.lays156 : Go.Proofs.Lays.n156 Tryz.prog Tryz.lays156_ren := {
  mixed := by kernel_rfl
  f156 := Tryz.func75.trans (congrArg some (by kernel_rfl))
  f165 := Tryz.func103.trans (congrArg some (by kernel_rfl))
  f166 := Tryz.func104.trans (congrArg some (by kernel_rfl))
  f169 := Tryz.func105.trans (congrArg some (by kernel_rfl))
  f240 := Tryz.func124.trans (congrArg some (by kernel_rfl))
  f241 := Tryz.func125.trans (congrArg some (by kernel_rfl))
  f276 := Tryz.func144.trans (congrArg some (by kernel_rfl))
  f277 := Tryz.func145.trans (congrArg some (by kernel_rfl))
  t0 := Tryz.underlying0
  a0 := Tryz.isAgg0
  z0 := Tryz.sizeOf0
  v0 := Tryz.zeroValue0
  t3 := Tryz.underlying3
  a3 := Tryz.isAgg3
  z3 := Tryz.sizeOf3
  v3 := Tryz.zeroValue3
  t4 := Tryz.underlying4
  a4 := Tryz.isAgg4
  z4 := Tryz.sizeOf4
  v4 := Tryz.zeroValue4
  t9 := Tryz.underlying9
  a9 := Tryz.isAgg9
  z9 := Tryz.sizeOf9
  v9 := Tryz.zeroValue9
  t20 := Tryz.underlying20
  a20 := Tryz.isAgg20
  z20 := Tryz.sizeOf20
  v20 := Tryz.zeroValue20
  t31 := Tryz.underlying112
  a31 := Tryz.isAgg112
  z31 := Tryz.sizeOf112
  v31 := Tryz.zeroValue112
  t37 := Tryz.underlying23
  a37 := Tryz.isAgg23
  z37 := Tryz.sizeOf23
  v37 := Tryz.zeroValue23
  t70 := Tryz.underlying152
  a70 := Tryz.isAgg152
  z70 := Tryz.sizeOf152
  v70 := Tryz.zeroValue152
  t72 := Tryz.underlying154
  a72 := Tryz.isAgg154
  z72 := Tryz.sizeOf154
  v72 := Tryz.zeroValue154
  t75 := Tryz.underlying97
  a75 := Tryz.isAgg97
  z75 := Tryz.sizeOf97
  v75 := Tryz.zeroValue97
  t76 := Tryz.underlying98
  a76 := Tryz.isAgg98
  z76 := Tryz.sizeOf98
  v76 := Tryz.zeroValue98
  t127 := Tryz.underlying167
  a127 := Tryz.isAgg167
  z127 := Tryz.sizeOf167
  v127 := Tryz.zeroValue167
  t164 := Tryz.underlying177
  a164 := Tryz.isAgg177
  z164 := Tryz.sizeOf177
  v164 := Tryz.zeroValue177 }
theorem Tryz.Builder_Extra_156 : Builder.Extra Tryz.prog Tryz.lays156_ren := {
  sizeBuilder := by kernel_rfl
  liesBuilder := by kernel_rfl
  t5 := Tryz.underlying5
  a5 := Tryz.isAgg5
  z5 := Tryz.sizeOf5
  v5 := Tryz.zeroValue5
  infoByte := by kernel_rfl
  cellsByte := by kernel_rfl
  sizeByte := by kernel_rfl
  neB5 := by decide }
open Go.RowKit in
theorem Tryz.strings_Join (bk o c : Nat) (xs : List ByteArray) (sep : ByteArray) (w : World) (hcells : ∀ (j : Nat) x, xs[j]? = some x → w.cell? ⟨bk, o + j, none⟩ = some (.string x)) (hbk : bk < w.heap.size) (hN : xs.length ≤ 140737488355328) (hcap : xs.length ≤ c) (hlen : (Lib.join (xs.map (·.data.toList)) sep.data.toList).length ≤ 140737488355328) :
    Calls Tryz.prog 75 #[.slice (some ⟨bk, o, none⟩) xs.length c, .string sep] w fun e w' => e = .returned (.string ⟨(Lib.join (xs.map (·.data.toList)) sep.data.toList).toArray⟩) ∧ Below w.heap.size w w' := Any.strings_Join Tryz.lays156 Tryz.Builder_Extra_156 bk o c xs sep w hcells hbk hN hcap hlen
def Tryz.lays160_ren : Go.Shelf.Ren := ⟨fun | 160 => 60 | 232 => 88 | 231 => 87 | 227 => 89 | 234 => 91 | 233 => 90 | 236 => 93 | 235 => 92 | 228 => 114 | 271 => 117 | 151 => 116 | 197 => 115 | 120 => 137 | 152 => 112 | 260 => 136 | 137 => 132 | 119 => 133 | 224 => 134 | 225 => 135 | 217 => 140 | 266 => 156 | n => n, fun | 9 => 9 | 4 => 4 | 3 => 3 | 5 => 5 | 117 => 141 | 116 => 140 | 0 => 0 | 124 => 144 | 21 => 21 | 105 => 163 | 46 => 83 | 119 => 184 | 139 => 187 | 138 => 186 | n => n, fun | 3 => 3 | 4 => 4 | n => n⟩
theorem Tryz.lays160 : Go.Proofs.Lays.n160 Tryz.prog Tryz.lays160_ren := {
  mixed := by kernel_rfl
  f119 := Tryz.func133.trans (congrArg some (by kernel_rfl))
  f120 := Tryz.func137.trans (congrArg some (by kernel_rfl))
  f137 := Tryz.func132.trans (congrArg some (by kernel_rfl))
  f151 := Tryz.func116.trans (congrArg some (by kernel_rfl))
  f152 := Tryz.func112.trans (congrArg some (by kernel_rfl))
  f160 := Tryz.func60.trans (congrArg some (by kernel_rfl))
  f197 := Tryz.func115.trans (congrArg some (by kernel_rfl))
  f217 := Tryz.func140.trans (congrArg some (by kernel_rfl))
  f224 := Tryz.func134.trans (congrArg some (by kernel_rfl))
  f225 := Tryz.func135.trans (congrArg some (by kernel_rfl))
  f227 := Tryz.func89.trans (congrArg some (by kernel_rfl))
  f228 := Tryz.func114.trans (congrArg some (by kernel_rfl))
  f231 := Tryz.func87.trans (congrArg some (by kernel_rfl))
  f232 := Tryz.func88.trans (congrArg some (by kernel_rfl))
  f233 := Tryz.func90.trans (congrArg some (by kernel_rfl))
  f234 := Tryz.func91.trans (congrArg some (by kernel_rfl))
  f235 := Tryz.func92.trans (congrArg some (by kernel_rfl))
  f236 := Tryz.func93.trans (congrArg some (by kernel_rfl))
  f260 := Tryz.func136.trans (congrArg some (by kernel_rfl))
  f266 := Tryz.func156.trans (congrArg some (by kernel_rfl))
  f271 := Tryz.func117.trans (congrArg some (by kernel_rfl))
  t0 := Tryz.underlying0
  a0 := Tryz.isAgg0
  z0 := Tryz.sizeOf0
  v0 := Tryz.zeroValue0
  t3 := Tryz.underlying3
  a3 := Tryz.isAgg3
  z3 := Tryz.sizeOf3
  v3 := Tryz.zeroValue3
  t4 := Tryz.underlying4
  a4 := Tryz.isAgg4
  z4 := Tryz.sizeOf4
  v4 := Tryz.zeroValue4
  t5 := Tryz.underlying5
  a5 := Tryz.isAgg5
  z5 := Tryz.sizeOf5
  v5 := Tryz.zeroValue5
  t9 := Tryz.underlying9
  a9 := Tryz.isAgg9
  z9 := Tryz.sizeOf9
  v9 := Tryz.zeroValue9
  t21 := Tryz.underlying21
  a21 := Tryz.isAgg21
  z21 := Tryz.sizeOf21
  v21 := Tryz.zeroValue21
  t46 := Tryz.underlying83
  a46 := Tryz.isAgg83
  z46 := Tryz.sizeOf83
  v46 := Tryz.zeroValue83
  t105 := Tryz.underlying163
  a105 := Tryz.isAgg163
  z105 := Tryz.sizeOf163
  v105 := Tryz.zeroValue163
  t116 := Tryz.underlying140
  a116 := Tryz.isAgg140
  z116 := Tryz.sizeOf140
  t117 := Tryz.underlying141
  a117 := Tryz.isAgg141
  z117 := Tryz.sizeOf141
  v117 := Tryz.zeroValue141
  t119 := Tryz.underlying184
  a119 := Tryz.isAgg184
  z119 := Tryz.sizeOf184
  t124 := Tryz.underlying144
  a124 := Tryz.isAgg144
  z124 := Tryz.sizeOf144
  v124 := Tryz.zeroValue144
  t138 := Tryz.underlying186
  a138 := Tryz.isAgg186
  z138 := Tryz.sizeOf186
  v138 := Tryz.zeroValue186
  t139 := Tryz.underlying187
  a139 := Tryz.isAgg187
  z139 := Tryz.sizeOf187
  v139 := Tryz.zeroValue187
  g3 := by kernel_rfl
  g4 := by kernel_rfl }
def Tryz.lays119_ren : Go.Shelf.Ren := ⟨fun | 119 => 133 | n => n, fun | 21 => 21 | 4 => 4 | n => n, fun | n => n⟩
theorem Tryz.lays119 : Go.Proofs.Lays.n119 Tryz.prog Tryz.lays119_ren := {
  mixed := by kernel_rfl
  f119 := Tryz.func133.trans (congrArg some (by kernel_rfl))
  t4 := Tryz.underlying4
  a4 := Tryz.isAgg4
  z4 := Tryz.sizeOf4
  v4 := Tryz.zeroValue4
  t21 := Tryz.underlying21
  a21 := Tryz.isAgg21
  z21 := Tryz.sizeOf21
  v21 := Tryz.zeroValue21 }
theorem Tryz.utf8_ValidRune (r : Int) (w : World) :
    Calls Tryz.prog 133 #[.int .i32 r] w fun e w' => e = .returned (.bool (Lib.validRune r)) ∧ w' = w := Any.utf8_ValidRune Tryz.lays119 r w
def Tryz.lays137_ren : Go.Shelf.Ren := ⟨fun | 137 => 132 | 217 => 140 | 266 => 156 | n => n, fun | 9 => 9 | 5 => 5 | 3 => 3 | n => n, fun | n => n⟩
theorem Tryz.lays137 : Go.Proofs.Lays.n137 Tryz.prog Tryz.lays137_ren := {
  mixed := by kernel_rfl
  f137 := Tryz.func132.trans (congrArg some (by kernel_rfl))
  f217 := Tryz.func140.trans (congrArg some (by kernel_rfl))
  f266 := Tryz.func156.trans (congrArg some (by kernel_rfl))
  t3 := Tryz.underlying3
  a3 := Tryz.isAgg3
  z3 := Tryz.sizeOf3
  v3 := Tryz.zeroValue3
  t5 := Tryz.underlying5
  a5 := Tryz.isAgg5
  z5 := Tryz.sizeOf5
  v5 := Tryz.zeroValue5
  t9 := Tryz.underlying9
  a9 := Tryz.isAgg9
  z9 := Tryz.sizeOf9
  v9 := Tryz.zeroValue9 }
open Go.RowKit in
theorem Tryz.strings_IndexByte (s : ByteArray) (c : Int) (w : World) :
    Calls Tryz.prog 132 #[.string s, .int .u8 c] w fun e w' => e = .returned (.int .i64 (Lib.indexByte s.data.toList c.toNat.toUInt8)) ∧ w' = w := Any.strings_IndexByte Tryz.lays137 s c w
def Tryz.lays103_ren : Go.Shelf.Ren := ⟨fun | 103 => 95 | 210 => 118 | 206 => 107 | n => n, fun | 9 => 9 | 4 => 4 | 24 => 130 | 3 => 3 | n => n, fun | n => n⟩
theorem Tryz.lays103 : Go.Proofs.Lays.n103 Tryz.prog Tryz.lays103_ren := {
  mixed := by kernel_rfl
  f103 := Tryz.func95.trans (congrArg some (by kernel_rfl))
  f206 := Tryz.func107.trans (congrArg some (by kernel_rfl))
  f210 := Tryz.func118.trans (congrArg some (by kernel_rfl))
  t3 := Tryz.underlying3
  a3 := Tryz.isAgg3
  z3 := Tryz.sizeOf3
  v3 := Tryz.zeroValue3
  t4 := Tryz.underlying4
  a4 := Tryz.isAgg4
  z4 := Tryz.sizeOf4
  v4 := Tryz.zeroValue4
  t9 := Tryz.underlying9
  a9 := Tryz.isAgg9
  z9 := Tryz.sizeOf9
  v9 := Tryz.zeroValue9
  t24 := Tryz.underlying130
  a24 := Tryz.isAgg130
  z24 := Tryz.sizeOf130
  v24 := Tryz.zeroValue130 }
open Go.RowKit in
theorem Tryz.strings_CutPrefix (s p : ByteArray) (w : World) :
    Calls Tryz.prog 95 #[.string s, .string p] w fun e w' => e = .returned (.tuple #[.string ⟨(Lib.trimPrefix s.data.toList p.data.toList).toArray⟩, .bool (Lib.hasPrefix s.data.toList p.data.toList)]) ∧ w' = w := Any.strings_CutPrefix Tryz.lays103 s p w
def Tryz.lays104_ren : Go.Shelf.Ren := ⟨fun | 104 => 77 | 211 => 106 | 207 => 126 | n => n, fun | 9 => 9 | 4 => 4 | 24 => 130 | 3 => 3 | n => n, fun | n => n⟩
theorem Tryz.lays104 : Go.Proofs.Lays.n104 Tryz.prog Tryz.lays104_ren := {
  mixed := by kernel_rfl
  f104 := Tryz.func77.trans (congrArg some (by kernel_rfl))
  f207 := Tryz.func126.trans (congrArg some (by kernel_rfl))
  f211 := Tryz.func106.trans (congrArg some (by kernel_rfl))
  t3 := Tryz.underlying3
  a3 := Tryz.isAgg3
  z3 := Tryz.sizeOf3
  v3 := Tryz.zeroValue3
  t4 := Tryz.underlying4
  a4 := Tryz.isAgg4
  z4 := Tryz.sizeOf4
  v4 := Tryz.zeroValue4
  t9 := Tryz.underlying9
  a9 := Tryz.isAgg9
  z9 := Tryz.sizeOf9
  v9 := Tryz.zeroValue9
  t24 := Tryz.underlying130
  a24 := Tryz.isAgg130
  z24 := Tryz.sizeOf130
  v24 := Tryz.zeroValue130 }
open Go.RowKit in
theorem Tryz.strings_CutSuffix (s p : ByteArray) (w : World) (hs : s.size ≤ 9223372036854775807) :
    Calls Tryz.prog 77 #[.string s, .string p] w fun e w' => e = .returned (.tuple #[.string ⟨(Lib.trimSuffix s.data.toList p.data.toList).toArray⟩, .bool (Lib.hasSuffix s.data.toList p.data.toList)]) ∧ w' = w := Any.strings_CutSuffix Tryz.lays104 s p w hs
def Tryz.laysM171_ren : Go.Shelf.Ren := ⟨fun | 171 => 52 | 243 => 83 | 246 => 108 | 283 => 127 | 284 => 128 | 285 => 129 | 286 => 130 | 129 => 147 | 317 => 146 | 318 => 148 | 319 => 149 | 320 => 150 | 337 => 158 | 338 => 159 | n => n, fun | 3 => 3 | 9 => 9 | 2 => 2 | 4 => 4 | 171 => 168 | 0 => 0 | 53 => 169 | 37 => 23 | 5 => 5 | 173 => 172 | 212 => 181 | 51 => 26 | 20 => 20 | 213 => 182 | 46 => 83 | 232 => 202 | 233 => 203 | n => n, fun | 17 => 2 | 18 => 7 | 19 => 8 | n => n⟩
theorem Tryz.laysM171 : Go.Proofs.LaysM.n171 Tryz.prog Tryz.laysM171_ren := {
  mixed := by kernel_rfl
  f129 := Tryz.func147.trans (congrArg some (by kernel_rfl))
  f171 := Tryz.func52.trans (congrArg some (by kernel_rfl))
  f243 := Tryz.func83.trans (congrArg some (by kernel_rfl))
  f246 := Tryz.func108.trans (congrArg some (by kernel_rfl))
  f283 := Tryz.func127.trans (congrArg some (by kernel_rfl))
  f284 := Tryz.func128.trans (congrArg some (by kernel_rfl))
  f285 := Tryz.func129.trans (congrArg some (by kernel_rfl))
  f286 := Tryz.func130.trans (congrArg some (by kernel_rfl))
  f317 := Tryz.func146.trans (congrArg some (by kernel_rfl))
  f318 := Tryz.func148.trans (congrArg some (by kernel_rfl))
  f319 := Tryz.func149.trans (congrArg some (by kernel_rfl))
  f320 := Tryz.func150.trans (congrArg some (by kernel_rfl))
  f337 := Tryz.func158.trans (congrArg some (by kernel_rfl))
  f338 := Tryz.func159.trans (congrArg some (by kernel_rfl))
  t0 := Tryz.underlying0
  a0 := Tryz.isAgg0
  z0 := Tryz.sizeOf0
  v0 := Tryz.zeroValue0
  t2 := Tryz.underlying2
  a2 := Tryz.isAgg2
  z2 := Tryz.sizeOf2
  v2 := Tryz.zeroValue2
  t3 := Tryz.underlying3
  a3 := Tryz.isAgg3
  z3 := Tryz.sizeOf3
  v3 := Tryz.zeroValue3
  t4 := Tryz.underlying4
  a4 := Tryz.isAgg4
  z4 := Tryz.sizeOf4
  v4 := Tryz.zeroValue4
  t5 := Tryz.underlying5
  a5 := Tryz.isAgg5
  z5 := Tryz.sizeOf5
  v5 := Tryz.zeroValue5
  t9 := Tryz.underlying9
  a9 := Tryz.isAgg9
  z9 := Tryz.sizeOf9
  v9 := Tryz.zeroValue9
  t20 := Tryz.underlying20
  a20 := Tryz.isAgg20
  z20 := Tryz.sizeOf20
  v20 := Tryz.zeroValue20
  t37 := Tryz.underlying23
  a37 := Tryz.isAgg23
  z37 := Tryz.sizeOf23
  v37 := Tryz.zeroValue23
  t46 := Tryz.underlying83
  a46 := Tryz.isAgg83
  z46 := Tryz.sizeOf83
  v46 := Tryz.zeroValue83
  t51 := Tryz.underlying26
  a51 := Tryz.isAgg26
  z51 := Tryz.sizeOf26
  v51 := Tryz.zeroValue26
  t53 := Tryz.underlying169
  a53 := Tryz.isAgg169
  z53 := Tryz.sizeOf169
  v53 := Tryz.zeroValue169
  t171 := Tryz.underlying168
  a171 := Tryz.isAgg168
  z171 := Tryz.sizeOf168
  v171 := Tryz.zeroValue168
  t173 := Tryz.underlying172
  a173 := Tryz.isAgg172
  z173 := Tryz.sizeOf172
  v173 := Tryz.zeroValue172
  t212 := Tryz.underlying181
  a212 := Tryz.isAgg181
  z212 := Tryz.sizeOf181
  v212 := Tryz.zeroValue181
  t213 := Tryz.underlying182
  a213 := Tryz.isAgg182
  z213 := Tryz.sizeOf182
  t232 := Tryz.underlying202
  a232 := Tryz.isAgg202
  z232 := Tryz.sizeOf202
  v232 := Tryz.zeroValue202
  t233 := Tryz.underlying203
  a233 := Tryz.isAgg203
  z233 := Tryz.sizeOf203
  v233 := Tryz.zeroValue203
  g17 := by kernel_rfl
  g18 := by kernel_rfl
  g19 := by kernel_rfl
  i0 := by kernel_rfl
  i2 := by kernel_rfl
  i3 := by kernel_rfl
  i4 := by kernel_rfl
  i5 := by kernel_rfl
  i9 := by kernel_rfl
  i20 := by kernel_rfl
  i37 := by kernel_rfl
  i46 := by kernel_rfl
  i51 := by kernel_rfl
  i53 := by kernel_rfl
  i171 := by kernel_rfl
  i173 := by kernel_rfl
  i212 := by kernel_rfl
  i232 := by kernel_rfl
  i233 := by kernel_rfl
  m17 := by kernel_rfl
  m18 := by kernel_rfl
  m19 := by kernel_rfl }
open Go.RowKit Go.Sort Go.Lib in
theorem Tryz.strconv_Itoa (n : Int) (h0 : -9223372036854775808 ≤ n) (h1 : n ≤ 9223372036854775807) (w : World) (htab : Lib.TabIs Tryz.prog w "internal/strconv.uint64pow10" .u64 Lib.pow10Tab) :
    Calls Tryz.prog 52 #[.int .i64 n] w fun e w' => e = .returned (.string ⟨(Lib.itoa n).toArray⟩) ∧ ∃ k os, w' = grow (w.drewN k) os := Any.strconv_Itoa Tryz.laysM171 n h0 h1 w htab
def Tryz.laysC172_ren : Go.Shelf.Ren := ⟨fun | 172 => 119 | 244 => 138 | 245 => 139 | 247 => 151 | 279 => 152 | 280 => 153 | 281 => 154 | 282 => 155 | 287 => 160 | 316 => 161 | 171 => 52 | 205 => 162 | 321 => 163 | 322 => 164 | 243 => 83 | 246 => 108 | 283 => 127 | 284 => 128 | 285 => 129 | 286 => 130 | 129 => 147 | 317 => 146 | 318 => 148 | 319 => 149 | 320 => 150 | 337 => 158 | 338 => 159 | n => n, fun | 9 => 9 | 3 => 3 | 75 => 97 | 76 => 98 | 4 => 4 | 5 => 5 | 167 => 188 | 37 => 23 | 0 => 0 | 85 => 189 | 2 => 2 | 168 => 191 | 53 => 169 | 175 => 197 | 46 => 83 | 210 => 200 | 127 => 167 | 145 => 207 | 143 => 205 | 21 => 21 | 171 => 168 | 173 => 172 | 212 => 181 | 51 => 26 | 20 => 20 | 213 => 182 | 232 => 202 | 233 => 203 | 80 => 156 | n => n, fun | 15 => 5 | 16 => 6 | 17 => 2 | 18 => 7 | 19 => 8 | n => n⟩
theorem Tryz.laysC172 : Go.Proofs.LaysC.n172 Tryz.prog Tryz.laysC172_ren := {
  mixed := by kernel_rfl
  f129 := Tryz.func147.trans (congrArg some (by kernel_rfl))
  f171 := Tryz.func52.trans (congrArg some (by kernel_rfl))
  f172 := Tryz.func119.trans (congrArg some (by kernel_rfl))
  f205 := Tryz.func162.trans (congrArg some (by kernel_rfl))
  f243 := Tryz.func83.trans (congrArg some (by kernel_rfl))
  f244 := Tryz.func138.trans (congrArg some (by kernel_rfl))
  f245 := Tryz.func139.trans (congrArg some (by kernel_rfl))
  f246 := Tryz.func108.trans (congrArg some (by kernel_rfl))
  f247 := Tryz.func151.trans (congrArg some (by kernel_rfl))
  f279 := Tryz.func152.trans (congrArg some (by kernel_rfl))
  f280 := Tryz.func153.trans (congrArg some (by kernel_rfl))
  f281 := Tryz.func154.trans (congrArg some (by kernel_rfl))
  f282 := Tryz.func155.trans (congrArg some (by kernel_rfl))
  f283 := Tryz.func127.trans (congrArg some (by kernel_rfl))
  f284 := Tryz.func128.trans (congrArg some (by kernel_rfl))
  f285 := Tryz.func129.trans (congrArg some (by kernel_rfl))
  f286 := Tryz.func130.trans (congrArg some (by kernel_rfl))
  f287 := Tryz.func160.trans (congrArg some (by kernel_rfl))
  f316 := Tryz.func161.trans (congrArg some (by kernel_rfl))
  f317 := Tryz.func146.trans (congrArg some (by kernel_rfl))
  f318 := Tryz.func148.trans (congrArg some (by kernel_rfl))
  f319 := Tryz.func149.trans (congrArg some (by kernel_rfl))
  f320 := Tryz.func150.trans (congrArg some (by kernel_rfl))
  f321 := Tryz.func163.trans (congrArg some (by kernel_rfl))
  f322 := Tryz.func164.trans (congrArg some (by kernel_rfl))
  f337 := Tryz.func158.trans (congrArg some (by kernel_rfl))
  f338 := Tryz.func159.trans (congrArg some (by kernel_rfl))
  t0 := Tryz.underlying0
  a0 := Tryz.isAgg0
  z0 := Tryz.sizeOf0
  v0 := Tryz.zeroValue0
  t2 := Tryz.underlying2
  a2 := Tryz.isAgg2
  z2 := Tryz.sizeOf2
  v2 := Tryz.zeroValue2
  t3 := Tryz.underlying3
  a3 := Tryz.isAgg3
  z3 := Tryz.sizeOf3
  v3 := Tryz.zeroValue3
  t4 := Tryz.underlying4
  a4 := Tryz.isAgg4
  z4 := Tryz.sizeOf4
  v4 := Tryz.zeroValue4
  t5 := Tryz.underlying5
  a5 := Tryz.isAgg5
  z5 := Tryz.sizeOf5
  v5 := Tryz.zeroValue5
  t9 := Tryz.underlying9
  a9 := Tryz.isAgg9
  z9 := Tryz.sizeOf9
  v9 := Tryz.zeroValue9
  t20 := Tryz.underlying20
  a20 := Tryz.isAgg20
  z20 := Tryz.sizeOf20
  v20 := Tryz.zeroValue20
  t21 := Tryz.underlying21
  a21 := Tryz.isAgg21
  z21 := Tryz.sizeOf21
  v21 := Tryz.zeroValue21
  t37 := Tryz.underlying23
  a37 := Tryz.isAgg23
  z37 := Tryz.sizeOf23
  v37 := Tryz.zeroValue23
  t46 := Tryz.underlying83
  a46 := Tryz.isAgg83
  z46 := Tryz.sizeOf83
  v46 := Tryz.zeroValue83
  t51 := Tryz.underlying26
  a51 := Tryz.isAgg26
  z51 := Tryz.sizeOf26
  v51 := Tryz.zeroValue26
  t53 := Tryz.underlying169
  a53 := Tryz.isAgg169
  z53 := Tryz.sizeOf169
  v53 := Tryz.zeroValue169
  t75 := Tryz.underlying97
  a75 := Tryz.isAgg97
  z75 := Tryz.sizeOf97
  v75 := Tryz.zeroValue97
  t76 := Tryz.underlying98
  a76 := Tryz.isAgg98
  z76 := Tryz.sizeOf98
  v76 := Tryz.zeroValue98
  t85 := Tryz.underlying189
  a85 := Tryz.isAgg189
  z85 := Tryz.sizeOf189
  v85 := Tryz.zeroValue189
  t127 := Tryz.underlying167
  a127 := Tryz.isAgg167
  z127 := Tryz.sizeOf167
  v127 := Tryz.zeroValue167
  t143 := Tryz.underlying205
  a143 := Tryz.isAgg205
  z143 := Tryz.sizeOf205
  v143 := Tryz.zeroValue205
  t145 := Tryz.underlying207
  a145 := Tryz.isAgg207
  z145 := Tryz.sizeOf207
  v145 := Tryz.zeroValue207
  t167 := Tryz.underlying188
  a167 := Tryz.isAgg188
  z167 := Tryz.sizeOf188
  v167 := Tryz.zeroValue188
  t168 := Tryz.underlying191
  a168 := Tryz.isAgg191
  z168 := Tryz.sizeOf191
  v168 := Tryz.zeroValue191
  t171 := Tryz.underlying168
  a171 := Tryz.isAgg168
  z171 := Tryz.sizeOf168
  v171 := Tryz.zeroValue168
  t173 := Tryz.underlying172
  a173 := Tryz.isAgg172
  z173 := Tryz.sizeOf172
  v173 := Tryz.zeroValue172
  t175 := Tryz.underlying197
  a175 := Tryz.isAgg197
  z175 := Tryz.sizeOf197
  v175 := Tryz.zeroValue197
  t210 := Tryz.underlying200
  a210 := Tryz.isAgg200
  z210 := Tryz.sizeOf200
  v210 := Tryz.zeroValue200
  t212 := Tryz.underlying181
  a212 := Tryz.isAgg181
  z212 := Tryz.sizeOf181
  v212 := Tryz.zeroValue181
  t213 := Tryz.underlying182
  a213 := Tryz.isAgg182
  z213 := Tryz.sizeOf182
  t232 := Tryz.underlying202
  a232 := Tryz.isAgg202
  z232 := Tryz.sizeOf202
  v232 := Tryz.zeroValue202
  t233 := Tryz.underlying203
  a233 := Tryz.isAgg203
  z233 := Tryz.sizeOf203
  v233 := Tryz.zeroValue203
  g15 := by kernel_rfl
  g16 := by kernel_rfl
  g17 := by kernel_rfl
  g18 := by kernel_rfl
  g19 := by kernel_rfl
  t80 := Tryz.underlying156
  a80 := Tryz.isAgg156
  z80 := Tryz.sizeOf156
  v80 := Tryz.zeroValue156
  i0 := by kernel_rfl
  i2 := by kernel_rfl
  i3 := by kernel_rfl
  i4 := by kernel_rfl
  i5 := by kernel_rfl
  i9 := by kernel_rfl
  i20 := by kernel_rfl
  i21 := by kernel_rfl
  i37 := by kernel_rfl
  i46 := by kernel_rfl
  i51 := by kernel_rfl
  i53 := by kernel_rfl
  i75 := by kernel_rfl
  i76 := by kernel_rfl
  i80 := by kernel_rfl
  i85 := by kernel_rfl
  i127 := by kernel_rfl
  i143 := by kernel_rfl
  i145 := by kernel_rfl
  i167 := by kernel_rfl
  i168 := by kernel_rfl
  i171 := by kernel_rfl
  i173 := by kernel_rfl
  i175 := by kernel_rfl
  i210 := by kernel_rfl
  i212 := by kernel_rfl
  i232 := by kernel_rfl
  i233 := by kernel_rfl
  m15 := by kernel_rfl
  m16 := by kernel_rfl
  m17 := by kernel_rfl
  m18 := by kernel_rfl
  m19 := by kernel_rfl
  c0 := by kernel_rfl
  c2 := by kernel_rfl
  c3 := by kernel_rfl
  c4 := by kernel_rfl
  c5 := by kernel_rfl
  c9 := by kernel_rfl
  c20 := by kernel_rfl
  c21 := by kernel_rfl
  c37 := by kernel_rfl
  c46 := by kernel_rfl
  c51 := by kernel_rfl
  c53 := by kernel_rfl
  c75 := by kernel_rfl
  c76 := by kernel_rfl
  c80 := by kernel_rfl
  c85 := by kernel_rfl
  c127 := by kernel_rfl
  c143 := by kernel_rfl
  c145 := by kernel_rfl
  c167 := by kernel_rfl
  c168 := by kernel_rfl
  c171 := by kernel_rfl
  c173 := by kernel_rfl
  c175 := by kernel_rfl
  c210 := by kernel_rfl
  c212 := by kernel_rfl
  c213 := by kernel_rfl
  c232 := by kernel_rfl
  c233 := by kernel_rfl }
open Go.RowKit in
theorem Tryz.strconv_Atoi_ok (s : ByteArray) (hmax : s.size ≤ 9223372036854775806) (v : Int) (h : Lib.atoiAll s.data.toList = .ok v) (w : World) :
    Calls Tryz.prog 119 #[.string s] w fun e w' => e = .returned (.tuple #[.int .i64 v, .nilIface]) ∧ (w' = w ∨ ∃ t, w' = Lib.bytesWorld w 5 t) := Any.strconv_Atoi_ok Tryz.laysC172 s hmax v h w
open Go.RowKit in
theorem Tryz.strconv_Atoi_syntax (s : ByteArray) (hlim : s.size ≤ 281474976710656) (h : Lib.atoiAll s.data.toList = Lib.NumEnd.syntax) (ev : Value) (w : World) (hv : w.cell? ⟨5, 0, none⟩ = some ev) (hev : ev = .nilIface ∨ ∃ te pe, ev = .iface te pe) :
    Calls Tryz.prog 119 #[.string s] w fun e w' => ∃ N, e = .returned (.tuple #[.int .i64 (0), .iface 191 (.pointer (some ⟨N, 0, none⟩))]) ∧ w.heap.size ≤ N ∧ w'.heap[N]? = some (.cells #[.string ⟨#[65, 116, 111, 105]⟩, .string s, ev] 200 (0, 0)) ∧ Below w.heap.size w w' := Any.strconv_Atoi_syntax Tryz.laysC172 s hlim h ev w hv hev
open Go.RowKit in
theorem Tryz.strconv_Atoi_range (s : ByteArray) (hlim : s.size ≤ 281474976710656) (h : Lib.atoiAll s.data.toList = .range) (ev : Value) (w : World) (hv : w.cell? ⟨6, 0, none⟩ = some ev) (hev : ev = .nilIface ∨ ∃ te pe, ev = .iface te pe) :
    Calls Tryz.prog 119 #[.string s] w fun e w' => ∃ N, e = .returned (.tuple #[.int .i64 (Lib.atoiSat s.data.toList), .iface 191 (.pointer (some ⟨N, 0, none⟩))]) ∧ w.heap.size ≤ N ∧ w'.heap[N]? = some (.cells #[.string ⟨#[65, 116, 111, 105]⟩, .string s, ev] 200 (0, 0)) ∧ Below w.heap.size w w' := Any.strconv_Atoi_range Tryz.laysC172 s hlim h ev w hv hev
def Tryz.lays145_ren : Go.Shelf.Ren := ⟨fun | 145 => 69 | 220 => 98 | 219 => 120 | 217 => 140 | 225 => 135 | 224 => 134 | 267 => 141 | 266 => 156 | 314 => 157 | n => n, fun | 9 => 9 | 4 => 4 | 59 => 119 | 3 => 3 | 5 => 5 | 46 => 83 | 146 => 194 | 51 => 26 | n => n, fun | 1 => 1 | n => n⟩
theorem Tryz.lays145 : Go.Proofs.Lays.n145 Tryz.prog Tryz.lays145_ren := {
  mixed := by kernel_rfl
  f145 := Tryz.func69.trans (congrArg some (by kernel_rfl))
  f217 := Tryz.func140.trans (congrArg some (by kernel_rfl))
  f219 := Tryz.func120.trans (congrArg some (by kernel_rfl))
  f220 := Tryz.func98.trans (congrArg some (by kernel_rfl))
  f224 := Tryz.func134.trans (congrArg some (by kernel_rfl))
  f225 := Tryz.func135.trans (congrArg some (by kernel_rfl))
  f266 := Tryz.func156.trans (congrArg some (by kernel_rfl))
  f267 := Tryz.func141.trans (congrArg some (by kernel_rfl))
  f314 := Tryz.func157.trans (congrArg some (by kernel_rfl))
  t3 := Tryz.underlying3
  a3 := Tryz.isAgg3
  z3 := Tryz.sizeOf3
  v3 := Tryz.zeroValue3
  t4 := Tryz.underlying4
  a4 := Tryz.isAgg4
  z4 := Tryz.sizeOf4
  v4 := Tryz.zeroValue4
  t5 := Tryz.underlying5
  a5 := Tryz.isAgg5
  z5 := Tryz.sizeOf5
  v5 := Tryz.zeroValue5
  t9 := Tryz.underlying9
  a9 := Tryz.isAgg9
  z9 := Tryz.sizeOf9
  v9 := Tryz.zeroValue9
  t46 := Tryz.underlying83
  a46 := Tryz.isAgg83
  z46 := Tryz.sizeOf83
  v46 := Tryz.zeroValue83
  t51 := Tryz.underlying26
  a51 := Tryz.isAgg26
  z51 := Tryz.sizeOf26
  v51 := Tryz.zeroValue26
  t59 := Tryz.underlying119
  a59 := Tryz.isAgg119
  z59 := Tryz.sizeOf119
  v59 := Tryz.zeroValue119
  t146 := Tryz.underlying194
  a146 := Tryz.isAgg194
  z146 := Tryz.sizeOf194
  v146 := Tryz.zeroValue194
  g1 := by kernel_rfl }
open Go.RowKit Go.Lib in
theorem Tryz.strings_Cut (s sep : ByteArray) (m : Int) (w : World) (hs : s.size < 4294967281) (hm : w.cell? ⟨1, 0, none⟩ = some (.int .i64 m)) :
    Calls Tryz.prog 69 #[.string s, .string sep] w fun e w' => e = .returned (.tuple #[.string ⟨(Lib.cut s.data.toList sep.data.toList).1.toArray⟩, .string ⟨(Lib.cut s.data.toList sep.data.toList).2.1.toArray⟩, .bool (Lib.cut s.data.toList sep.data.toList).2.2]) ∧ ∃ n, w' = w.drewN n := Any.strings_Cut Tryz.lays145 s sep m w hs hm
def Tryz.lays99_ren : Go.Shelf.Ren := ⟨fun | 99 => 78 | 206 => 107 | n => n, fun | 9 => 9 | 4 => 4 | 3 => 3 | n => n, fun | n => n⟩
theorem Tryz.lays99 : Go.Proofs.Lays.n99 Tryz.prog Tryz.lays99_ren := {
  mixed := by kernel_rfl
  f99 := Tryz.func78.trans (congrArg some (by kernel_rfl))
  f206 := Tryz.func107.trans (congrArg some (by kernel_rfl))
  t3 := Tryz.underlying3
  a3 := Tryz.isAgg3
  z3 := Tryz.sizeOf3
  v3 := Tryz.zeroValue3
  t4 := Tryz.underlying4
  a4 := Tryz.isAgg4
  z4 := Tryz.sizeOf4
  v4 := Tryz.zeroValue4
  t9 := Tryz.underlying9
  a9 := Tryz.isAgg9
  z9 := Tryz.sizeOf9
  v9 := Tryz.zeroValue9 }
open Go.RowKit Go.Lib in
theorem Tryz.strings_HasPrefix (s p : ByteArray) (w : World) :
    Calls Tryz.prog 78 #[.string s, .string p] w fun e w' => e = .returned (.bool (Lib.hasPrefix s.data.toList p.data.toList)) ∧ w' = w := Any.strings_HasPrefix Tryz.lays99 s p w
def Tryz.lays153_ren : Go.Shelf.Ren := ⟨fun | 153 => 86 | 152 => 112 | 226 => 113 | 227 => 89 | 228 => 114 | 137 => 132 | 119 => 133 | 224 => 134 | 225 => 135 | 217 => 140 | 266 => 156 | n => n, fun | 9 => 9 | 3 => 3 | 4 => 4 | 5 => 5 | 21 => 21 | 117 => 141 | 116 => 140 | 0 => 0 | 46 => 83 | 124 => 144 | n => n, fun | n => n⟩
theorem Tryz.lays153 : Go.Proofs.Lays.n153 Tryz.prog Tryz.lays153_ren := {
  mixed := by kernel_rfl
  f119 := Tryz.func133.trans (congrArg some (by kernel_rfl))
  f137 := Tryz.func132.trans (congrArg some (by kernel_rfl))
  f152 := Tryz.func112.trans (congrArg some (by kernel_rfl))
  f153 := Tryz.func86.trans (congrArg some (by kernel_rfl))
  f217 := Tryz.func140.trans (congrArg some (by kernel_rfl))
  f224 := Tryz.func134.trans (congrArg some (by kernel_rfl))
  f225 := Tryz.func135.trans (congrArg some (by kernel_rfl))
  f226 := Tryz.func113.trans (congrArg some (by kernel_rfl))
  f227 := Tryz.func89.trans (congrArg some (by kernel_rfl))
  f228 := Tryz.func114.trans (congrArg some (by kernel_rfl))
  f266 := Tryz.func156.trans (congrArg some (by kernel_rfl))
  t0 := Tryz.underlying0
  a0 := Tryz.isAgg0
  z0 := Tryz.sizeOf0
  v0 := Tryz.zeroValue0
  t3 := Tryz.underlying3
  a3 := Tryz.isAgg3
  z3 := Tryz.sizeOf3
  v3 := Tryz.zeroValue3
  t4 := Tryz.underlying4
  a4 := Tryz.isAgg4
  z4 := Tryz.sizeOf4
  v4 := Tryz.zeroValue4
  t5 := Tryz.underlying5
  a5 := Tryz.isAgg5
  z5 := Tryz.sizeOf5
  v5 := Tryz.zeroValue5
  t9 := Tryz.underlying9
  a9 := Tryz.isAgg9
  z9 := Tryz.sizeOf9
  v9 := Tryz.zeroValue9
  t21 := Tryz.underlying21
  a21 := Tryz.isAgg21
  z21 := Tryz.sizeOf21
  v21 := Tryz.zeroValue21
  t46 := Tryz.underlying83
  a46 := Tryz.isAgg83
  z46 := Tryz.sizeOf83
  v46 := Tryz.zeroValue83
  t116 := Tryz.underlying140
  a116 := Tryz.isAgg140
  z116 := Tryz.sizeOf140
  t117 := Tryz.underlying141
  a117 := Tryz.isAgg141
  z117 := Tryz.sizeOf141
  v117 := Tryz.zeroValue141
  t124 := Tryz.underlying144
  a124 := Tryz.isAgg144
  z124 := Tryz.sizeOf144
  v124 := Tryz.zeroValue144 }
open Go.RowKit Go.Lib in
theorem Tryz.strings_IndexAny_long (hv116 : ∀ w, (zeroValue 140).run Tryz.prog w = .ok (.agg (Array.replicate 256 (.bool false))) w) (s chars : ByteArray) (w : World) (h2 : 2 ≤ chars.size) (h8 : 8 < s.size) (hs : s.size < 4294967281) (hcs : chars.size < 4294967281) (hascii : ∀ (j : Nat) b, chars.data.toList[j]? = some b → b.toNat < 128) :
    Calls Tryz.prog 86 #[.string s, .string chars] w fun e w' => e = .returned (.int .i64 (Lib.indexAny s.data.toList chars.data.toList)) ∧ w' = ((w.alloc (.cells (Lib.setCells chars.data.toList) 140)).alloc (.cells (Lib.setCells chars.data.toList) 140)) := Any.strings_IndexAny_long Tryz.lays153 hv116 (by kernel_rfl) s chars w h2 h8 hs hcs hascii
end Go.Proofs

set_option maxRecDepth 100000
namespace Go.Proofs.YtpdgmgkkbbndfaaGreatDoor
open Go Go.Proofs Go.Proofs.YtpdgmgkkbbndfaaGreatDoor.SX
theorem ext_refl (w : World) : Ext w w := RowKit.Below.refl _ w
theorem ext_drewN (w : World) (n : Nat) : Ext w (w.drewN n) := ⟨rfl, rfl, rfl, Nat.le_refl _, fun _ _ => rfl⟩
theorem ext_alloc (w : World) (o : Obj) : Ext w (w.alloc o) := (RowKit.Below.refl _ w).alloc (Nat.le_refl _) _
theorem ext_trans {a b c : World} (h : Ext a b) (k : Ext b c) : Ext a c := h.trans (k.mono h.size)
def spBefore (s t : List UInt8) : List UInt8 := (Lib.cut s t).1
def spAfter (s t : List UInt8) : List UInt8 := (Lib.cut s t).2.1
def spFound (s t : List UInt8) : Bool := (Lib.cut s t).2.2
def q69 : Entry := fun args hp nx => match args with
  | [.str s, .str t] => some (decide (s.length < 4294967281), .tup [.str (spBefore s t), .str (spAfter s t), .bool (spFound s t)], [])
  | _ => none
theorem gw_maxLen {w : World} (h : GW w) : ∃ m, w.cell? ⟨1, 0, none⟩ = some (.int .i64 m) := by
  have h1 : 1 < w.heap.size := Nat.lt_of_lt_of_le (by decide) h.size
  obtain ⟨m, t, fr, ho⟩ := h.at' 1 _ (by decide) (Array.getElem?_eq_getElem h1)
  exact ⟨m, by simp [World.cell?, h1, ho]⟩
theorem q69_ok : EntryOK Tryz.prog 69 q69 := by
  intro args hp nx c v bs h hc ρ w hs hi
  unfold q69 at h
  split at h
  · rename_i s t
    cases h
    have hc := of_decide_eq_true hc
    refine entry_pure hs rfl ?_
    obtain ⟨m, hm⟩ := gw_maxLen hs.gw
    refine (Tryz.strings_Cut ⟨s.toArray⟩ ⟨t.toArray⟩ m w (by rw [strSize]; exact hc) hm).mono fun e w' hq => ?_
    obtain ⟨rfl, n, rfl⟩ := hq
    exact ⟨rfl, ext_drewN _ _⟩
  · cases h
def spItoa (n : Int) : List UInt8 := Lib.itoa n
def q52 : Entry := fun args hp nx => match args with
  | [.int .i64 n] => some (decide (-9223372036854775808 ≤ n ∧ n ≤ 9223372036854775807), .str (spItoa n), [])
  | _ => none
theorem gw_pow10 {w : World} (h : GW w) : Lib.TabIs Tryz.prog w "internal/strconv.uint64pow10" .u64 Lib.pow10Tab := by
  have h1 : 2 < w.heap.size := Nat.lt_of_lt_of_le (by decide) h.size
  obtain ⟨t, fr, ho⟩ := h.at' 2 _ (by decide) (Array.getElem?_eq_getElem h1)
  have hg : Program.globalNamed Tryz.prog "internal/strconv.uint64pow10" = some 2 := by kernel_rfl
  unfold Lib.TabIs World.var?
  rw [hg]
  simp [h1, ho]
theorem q52_ok : EntryOK Tryz.prog 52 q52 := by
  intro args hp nx c v bs h hc ρ w hs hi
  unfold q52 at h
  split at h
  · rename_i n
    cases h
    have hc := of_decide_eq_true hc
    refine entry_pure hs rfl ?_
    refine (Tryz.strconv_Itoa n hc.1 hc.2 w (gw_pow10 hs.gw)).mono fun e w' hq => ?_
    obtain ⟨rfl, k, os, rfl⟩ := hq
    exact ⟨rfl, Lib.below_grow _ w (Nat.le_refl _) k os⟩
  · cases h
def spTrimPre (s p : List UInt8) : List UInt8 := Lib.trimPrefix s p
def spHasPre (s p : List UInt8) : Bool := Lib.hasPrefix s p
def spTrimSuf (s p : List UInt8) : List UInt8 := Lib.trimSuffix s p
def spHasSuf (s p : List UInt8) : Bool := Lib.hasSuffix s p
def spTrim (s p : List UInt8) : List UInt8 := Lib.trimS s p
def q95 : Entry := fun args hp nx => match args with
  | [.str s, .str t] => some (true, .tup [.str (spTrimPre s t), .bool (spHasPre s t)], [])
  | _ => none
theorem q95_ok : EntryOK Tryz.prog 95 q95 := by
  intro args hp nx c v bs h hc ρ w hs hi
  unfold q95 at h
  split at h
  · rename_i s t
    cases h
    refine entry_pure hs rfl ((Tryz.strings_CutPrefix ⟨s.toArray⟩ ⟨t.toArray⟩ w).mono fun e w' hq => ?_)
    obtain ⟨rfl, rfl⟩ := hq
    exact ⟨rfl, ext_refl _⟩
  · cases h
def q77 : Entry := fun args hp nx => match args with
  | [.str s, .str t] => some (decide (s.length ≤ 9223372036854775807), .tup [.str (spTrimSuf s t), .bool (spHasSuf s t)], [])
  | _ => none
theorem q77_ok : EntryOK Tryz.prog 77 q77 := by
  intro args hp nx c v bs h hc ρ w hs hi
  unfold q77 at h
  split at h
  · rename_i s t
    cases h
    have hc := of_decide_eq_true hc
    refine entry_pure hs rfl ((Tryz.strings_CutSuffix ⟨s.toArray⟩ ⟨t.toArray⟩ w (by rw [strSize]; exact hc)).mono fun e w' hq => ?_)
    obtain ⟨rfl, rfl⟩ := hq
    exact ⟨rfl, ext_refl _⟩
  · cases h
def q78 : Entry := fun args hp nx => match args with
  | [.str s, .str t] => some (true, .bool (spHasPre s t), [])
  | _ => none
theorem q78_ok : EntryOK Tryz.prog 78 q78 := by
  intro args hp nx c v bs h hc ρ w hs hi
  unfold q78 at h
  split at h
  · rename_i s t
    cases h
    refine entry_pure hs rfl ((Tryz.strings_HasPrefix ⟨s.toArray⟩ ⟨t.toArray⟩ w).mono fun e w' hq => ?_)
    obtain ⟨rfl, rfl⟩ := hq
    exact ⟨rfl, ext_refl _⟩
  · cases h
def q60 : Entry := fun args hp nx => match args with
  | [.str s, .str t] => some (decide (s.length ≤ 9223372036854775807 ∧ t.length < 4294967281 ∧ t.all (fun b => decide (b.toNat < 128)) = true), .str (spTrim s t), [])
  | _ => none
theorem q60_ok : EntryOK Tryz.prog 60 q60 := by
  intro args hp nx c v bs h hc ρ w hs hi
  unfold q60 at h
  split at h
  · rename_i s t
    cases h
    obtain ⟨h1, h2, h3⟩ := of_decide_eq_true hc
    refine entry_pure hs rfl ((Any.strings_Trim_laid Tryz.lays160 (by kernel_rfl) ⟨s.toArray⟩ ⟨t.toArray⟩ w (by rw [strSize]; exact h1) (by rw [strSize]; exact h2) (fun j b hb => ?_)).mono fun e w' hq => ?_)
    · exact of_decide_eq_true (List.all_eq_true.1 h3 b (List.mem_of_getElem? hb))
    · obtain ⟨rfl, hb⟩ := hq
      exact ⟨rfl, hb⟩
  · cases h
def isOk : Lib.NumEnd Int → Bool
  | .ok _ => true
  | _ => false
def okOf : Lib.NumEnd Int → Int
  | .ok n => n
  | _ => 0
def spAtoiOk (s : List UInt8) : Bool := isOk (Lib.atoiAll s)
def spAtoi (s : List UInt8) : Int := okOf (Lib.atoiAll s)
def q119 : Entry := fun args hp nx => match args with
  | [.str s] => some (decide (s.length ≤ 9223372036854775806 ∧ spAtoiOk s = true), .tup [.int .i64 (spAtoi s), .nilIface], [])
  | _ => none
theorem ext_bytesWorld (w : World) (e : TypeId) (t : ByteArray) : Ext w (Lib.bytesWorld w e t) := by
  refine ⟨rfl, rfl, rfl, ?_, fun k hk => Lib.bytesWorld_at_old w e t k hk⟩
  rw [Lib.bytesWorld_size]; exact Nat.le_succ _
theorem q119_ok : EntryOK Tryz.prog 119 q119 := by
  intro args hp nx c v bs h hc ρ w hs hi
  unfold q119 at h
  split at h
  · rename_i s
    cases h
    obtain ⟨h1, h2⟩ := of_decide_eq_true hc
    refine entry_pure hs rfl ?_
    have h3 : Lib.atoiAll s = .ok (spAtoi s) := by
      unfold spAtoiOk at h2
      unfold spAtoi
      cases h : Lib.atoiAll s with
      | ok n => rfl
      | _ => rw [h] at h2; cases h2
    refine (Tryz.strconv_Atoi_ok ⟨s.toArray⟩ (by rw [strSize]; exact h1) _ h3 w).mono fun e w' hq => ?_
    obtain ⟨rfl, hb⟩ := hq
    refine ⟨rfl, ?_⟩
    rcases hb with rfl | ⟨t, rfl⟩
    · exact ext_refl _
    · exact ext_bytesWorld _ _ _
  · cases h
def errVal (s : List UInt8) : Lib.NumEnd Int → Int
  | .range => Lib.atoiSat s
  | _ => 0
def spAtoiErr (s : List UInt8) : Int := errVal s (Lib.atoiAll s)
def q119e : Entry := fun args hp nx => match args with
  | [.str s] => some (decide (s.length ≤ 281474976710656 ∧ spAtoiOk s = false), .tup [.int .i64 (spAtoiErr s), .iface 191 (.ptr ⟨nx, 0, 0⟩)], [.cells false [] []])
  | _ => none
theorem gw_err {w : World} (h : GW w) {n : Nat} (hn : n = 5 ∨ n = 6) : ∃ ev, w.cell? ⟨n, 0, none⟩ = some ev ∧ (ev = .nilIface ∨ ∃ te pe, ev = .iface te pe) := by
  have h1 : n < w.heap.size := Nat.lt_of_lt_of_le (by rcases hn with rfl | rfl <;> decide) h.size
  have ho := h.at' n _ (by rcases hn with rfl | rfl <;> decide) (Array.getElem?_eq_getElem h1)
  rcases hn with rfl | rfl <;>
  · obtain ⟨ev, t, fr, ho, he⟩ := ho
    exact ⟨ev, by simp [World.cell?, h1, ho], he⟩
theorem q119e_ok : EntryOK Tryz.prog 119 q119e := by
  intro args hp nx c v bs h hc ρ w hs hi
  unfold q119e at h
  split at h
  · rename_i s
    cases h
    obtain ⟨h1, h2⟩ := of_decide_eq_true hc
    have key : ∀ (e : Ending) (w' : World) (x : Int), (∃ N ev, e = .returned (.tuple #[.int .i64 x, .iface 191 (.pointer (some ⟨N, 0, none⟩))]) ∧ w.heap.size ≤ N ∧ w'.heap[N]? = some (.cells #[.string ⟨#[65, 116, 111, 105]⟩, .string ⟨s.toArray⟩, ev] 200 (0, 0)) ∧ RowKit.Below w.heap.size w w') →
        ∃ ρ', e = .returned (conc ρ' (.tup [.int .i64 x, .iface 191 (.ptr ⟨nx, 0, 0⟩)])) ∧ (AV.tup [.int .i64 x, .iface 191 (.ptr ⟨nx, 0, 0⟩)]).idsB (nx + [Blk.cells false [] []].length) = true ∧
          HStep ρ hp nx w ρ' (addBlks hp nx [Blk.cells false [] []]) (nx + [Blk.cells false [] []].length) w' := by
      rintro e w' x ⟨N, ev, rfl, hN, hcell, hb⟩
      refine ⟨upd ρ nx ⟨N, 0, 0, 0, false⟩, by simp [conc, concL, addr], by simp [AV.idsB, idsBL, blt_iff], ?_⟩
      refine HStep.fresh hs hb (agree_upd _ _ _) (fun i blk hi => ?_) (fun i j ki kj hi hj hne _ => ?_)
      · cases i with
        | zero =>
          simp at hi
          subst hi
          exact ⟨⟨by simp, _, _, _, by simpa using hcell, fun i j kd hi => by simp at hi, fun h => by cases h⟩, by simpa using .inl hN, by simp [Blk.idsB]⟩
        | succ i => simp at hi
      · have a1 : i = 0 := by cases i with | zero => rfl | succ i => simp at hi
        have a2 : j = 0 := by cases j with | zero => rfl | succ j => simp at hj
        omega
    cases hr : Lib.atoiAll s with
    | ok n => unfold spAtoiOk at h2; rw [hr] at h2; cases h2
    | range =>
      obtain ⟨ev, he1, he2⟩ := gw_err hs.gw (n := 6) (.inr rfl)
      refine (Tryz.strconv_Atoi_range ⟨s.toArray⟩ (by rw [strSize]; exact h1) hr ev w he1 he2).mono fun e w' hq => ?_
      obtain ⟨N, hq⟩ := hq
      have : spAtoiErr s = Lib.atoiSat s := by unfold spAtoiErr; rw [hr]; rfl
      rw [this]
      exact key e w' _ ⟨N, ev, hq⟩
    | _ =>
      obtain ⟨ev, he1, he2⟩ := gw_err hs.gw (n := 5) (.inl rfl)
      refine (Tryz.strconv_Atoi_syntax ⟨s.toArray⟩ (by rw [strSize]; exact h1) hr ev w he1 he2).mono fun e w' hq => ?_
      obtain ⟨N, hq⟩ := hq
      have : spAtoiErr s = 0 := by unfold spAtoiErr; rw [hr]; rfl
      rw [this]
      exact key e w' 0 ⟨N, ev, hq⟩
  · cases h
end Go.Proofs.YtpdgmgkkbbndfaaGreatDoor

set_option maxRecDepth 100000
namespace Go.Proofs.YtpdgmgkkbbndfaaGreatDoor
open Go Go.Proofs Go.Proofs.YtpdgmgkkbbndfaaGreatDoor.SX
def PA : Prims := addP (addP noPrims 52 q52) 119 q119
theorem PA_ok : PrimsOK Tryz.prog PA := addP_ok (addP_ok (noPrims_ok _) q52_ok) q119_ok
def PB : Prims := addP (addP noPrims 52 q52) 119 q119e
theorem PB_ok : PrimsOK Tryz.prog PB := addP_ok (addP_ok (noPrims_ok _) q52_ok) q119e_ok
def c96k0 (s : List UInt8) : Bool := decide (List.length s ≤ 9223372036854775806 ∧ spAtoiOk s = true)
def c96k1 (s : List UInt8) : Bool := decide (spAtoi s < (1 : Int))
theorem c96_T (s : List UInt8) :
 Path (runCallB Tryz.prog PA 100 96 [AV.str s] (st0 [] ([pT]))) 0 [] (SL.mk [] [] 0) (Out.ret (AV.int IntKind.i64 (0 : Int)))
 ((True ∧ c96k0 s = true) ∧ c96k1 s = true) := by unfold Path; kernel_rfl
def c96k2 (s : List UInt8) : Bool := decide (spAtoi s > (65535 : Int))
theorem c96_FT (s : List UInt8) :
 Path (runCallB Tryz.prog PA 100 96 [AV.str s] (st0 [] ([pF, pT]))) 0 [] (SL.mk [] [] 0) (Out.ret (AV.int IntKind.i64 (0 : Int)))
 (((True ∧ c96k0 s = true) ∧ c96k1 s = false) ∧ c96k2 s = true) := by unfold Path; kernel_rfl
def c96k3 (s : List UInt8) : Bool := decide (Int.negSucc (9223372036854775807) ≤ spAtoi s ∧ spAtoi s ≤ (9223372036854775807 : Int))
def c96k4 (s : List UInt8) : Bool := !spItoa (spAtoi s) == s
theorem c96_FFT (s : List UInt8) :
 Path (runCallB Tryz.prog PA 100 96 [AV.str s] (st0 [] ([pF, pF, pT]))) 0 [] (SL.mk [] [] 0) (Out.ret (AV.int IntKind.i64 (0 : Int)))
 (((((True ∧ c96k0 s = true) ∧ c96k1 s = false) ∧ c96k2 s = false) ∧ c96k3 s = true) ∧ c96k4 s = true) := by unfold Path; kernel_rfl
theorem c96_FFF (s : List UInt8) :
 Path (runCallB Tryz.prog PA 100 96 [AV.str s] (st0 [] ([pF, pF, pF]))) 0 [] (SL.mk [] [] 0) (Out.ret (AV.int IntKind.i64 (spAtoi s)))
 (((((True ∧ c96k0 s = true) ∧ c96k1 s = false) ∧ c96k2 s = false) ∧ c96k3 s = true) ∧ c96k4 s = false) := by unfold Path; kernel_rfl
def c96_cls (s : List UInt8) : Nat := (bif c96k1 s then 0 else (bif c96k2 s then 0 else (bif c96k4 s then 0 else 1)))
theorem c96_c0 (s : List UInt8) (h : c96_cls s = 0) (m0 : c96k0 s = true) (m1 : c96k1 s = false → c96k2 s = false → c96k3 s = true) : ∃ plan ow, Path (runCallB Tryz.prog PA 100 96 [AV.str s] (st0 [] plan)) 0 [] (SL.mk [] [] 0) (Out.ret (AV.int IntKind.i64 (0 : Int))) ow ∧ ow := by
  unfold c96_cls at h
  cases q1 : c96k1 s with
  | true =>
    rw [q1, cond_true] at h
    exact ⟨_, _, c96_T s, by simp only [q1, m0, eq_self, and_true, true_and]⟩
  | false =>
    rw [q1, cond_false] at h
    cases q2 : c96k2 s with
    | true =>
      rw [q2, cond_true] at h
      exact ⟨_, _, c96_FT s, by simp only [q1, q2, m0, eq_self, and_true, true_and]⟩
    | false =>
      rw [q2, cond_false] at h
      cases q3 : c96k4 s with
      | true =>
        rw [q3, cond_true] at h
        exact ⟨_, _, c96_FFT s, by simp only [q1, q2, q3, m0, (m1 q1 q2), eq_self, and_true, true_and]⟩
      | false =>
        rw [q3, cond_false] at h
        exact absurd h (by decide)
theorem c96_c1 (s : List UInt8) (h : c96_cls s = 1) (m0 : c96k0 s = true) (m1 : c96k1 s = false → c96k2 s = false → c96k3 s = true) : ∃ plan ow, Path (runCallB Tryz.prog PA 100 96 [AV.str s] (st0 [] plan)) 0 [] (SL.mk [] [] 0) (Out.ret (AV.int IntKind.i64 (spAtoi s))) ow ∧ ow := by
  unfold c96_cls at h
  cases q1 : c96k1 s with
  | true =>
    rw [q1, cond_true] at h
    exact absurd h (by decide)
  | false =>
    rw [q1, cond_false] at h
    cases q2 : c96k2 s with
    | true =>
      rw [q2, cond_true] at h
      exact absurd h (by decide)
    | false =>
      rw [q2, cond_false] at h
      cases q3 : c96k4 s with
      | true =>
        rw [q3, cond_true] at h
        exact absurd h (by decide)
      | false =>
        rw [q3, cond_false] at h
        exact ⟨_, _, c96_FFF s, by simp only [q1, q2, q3, m0, (m1 q1 q2), eq_self, and_true, true_and]⟩
theorem c96e_ (s : List UInt8) :
 Path (runCallB Tryz.prog PB 100 96 [AV.str s] (st0 [] ([]))) 0 [] (SL.mk [] [] 0) (Out.ret (AV.int IntKind.i64 (0 : Int)))
 (True ∧ (decide (List.length s ≤ 281474976710656 ∧ spAtoiOk s = false) = true)) := by unfold Path; kernel_rfl
def spNumeral (s : List UInt8) : Int := bif spAtoiOk s then (bif Nat.beq (c96_cls s) 0 then 0 else spAtoi s) else 0
def q96 : Entry := fun args hp nx => match args with
  | [.str s] => some (decide (s.length ≤ 281474976710656), .int .i64 (spNumeral s), [])
  | _ => none
theorem q96_ok : EntryOK Tryz.prog 96 q96 := by
  intro args hp nx c v bs h hc ρ w hs hi
  unfold q96 at h
  split at h
  · rename_i s
    cases h
    have hc := of_decide_eq_true hc
    refine entry_pure hs rfl ?_
    have hE : HSim ρ (addBlks .e 0 []) ([] : List Blk).length w := HSim.ins hs.gw (fun i blk hi => by simp at hi)
    unfold spNumeral
    cases hok : spAtoiOk s with
    | false =>
      exact calls_pureB PB_ok (c96e_ s) ⟨trivial, by simp [hc, hok]⟩ hE rfl rfl rfl
    | true =>
      have m0 : c96k0 s = true := by simp [c96k0, hok]; omega
      have m1 : c96k1 s = false → c96k2 s = false → c96k3 s = true := by
        simp only [c96k1, c96k2, c96k3, decide_eq_true_eq, decide_eq_false_iff_not]; omega
      by_cases h0 : c96_cls s = 0
      · obtain ⟨plan, ow, hp, ho⟩ := c96_c0 s h0 m0 m1
        rw [h0]
        exact calls_pureB PA_ok hp ho hE rfl rfl rfl
      · by_cases h1 : c96_cls s = 1
        · obtain ⟨plan, ow, hp, ho⟩ := c96_c1 s h1 m0 m1
          rw [h1]
          exact calls_pureB PA_ok hp ho hE rfl rfl rfl
        · exfalso
          revert h0 h1
          unfold c96_cls
          cases c96k1 s <;> cases c96k2 s <;> cases c96k4 s <;> simp
  · cases h
end Go.Proofs.YtpdgmgkkbbndfaaGreatDoor

namespace Go.Proofs.YtpdgmgkkbbndfaaGreatDoor
open Go Go.Proofs Go.Proofs.YtpdgmgkkbbndfaaGreatDoor.SX
theorem get_byte {s : List UInt8} {i : Nat} (h : i < s.length) : ((⟨s.toArray⟩ : ByteArray).get! i).toNat = s[i].toNat := by
  simp [ByteArray.get!, h]
theorem decode_cases (s : List UInt8) (p : Nat) (h : p < s.length) :
    (s[p].toNat < 128 ∧ decodeAt s p = (s[p].toNat, 1)) ∨
    (128 ≤ s[p].toNat ∧ 128 ≤ (decodeAt s p).1 ∧ (decodeAt s p).1 < 2147483648 ∧ 1 ≤ (decodeAt s p).2 ∧ p + (decodeAt s p).2 ≤ s.length ∧
      ∀ i (hi : i < s.length), p ≤ i → i < p + (decodeAt s p).2 → 128 ≤ s[i].toNat) := by
  have hsz : (⟨s.toArray⟩ : ByteArray).size = s.length := strSize s
  have h0 := get_byte h
  by_cases ha : s[p].toNat < 128
  · refine .inl ⟨ha, ?_⟩
    unfold decodeAt Utf8.decode
    simp only [Nat.add_zero, h0]
    rw [if_pos ha]
  · refine .inr ?_
    have hb : 128 ≤ s[p].toNat := by omega
    have one : ∀ i (hi : i < s.length), p ≤ i → i < p + 1 → 128 ≤ s[i].toNat := by
      intro i hi h1 h2
      have : i = p := by omega
      subst this; exact hb
    have conts : ∀ k, (decide (p + k < (⟨s.toArray⟩ : ByteArray).size) = true ∧ (((⟨s.toArray⟩ : ByteArray).get! (p + k)).toNat / 64 == 2) = true) → p + k < s.length ∧ ∀ (hi : p + k < s.length), 128 ≤ s[p + k].toNat := by
      intro k hk
      simp only [decide_eq_true_eq, beq_iff_eq, hsz] at hk
      refine ⟨hk.1, fun hi => ?_⟩
      have := hk.2
      rw [get_byte hi] at this
      omega
    have lt256 : ∀ k, ((⟨s.toArray⟩ : ByteArray).get! (p + k)).toNat < 256 := fun k => UInt8.toNat_lt _
    unfold decodeAt Utf8.decode
    simp only [Nat.add_zero, h0]
    rw [if_neg ha]
    split
    · rename_i hc
      simp only [Bool.and_eq_true] at hc
      obtain ⟨l1, g1⟩ := conts 1 hc.2
      have := lt256 1
      split
      · rename_i hge
        refine ⟨hb, by simpa using hge, by simp; omega, by simp, by simp; omega, fun i hi h1 h2 => ?_⟩
        have h2 : i < p + 2 := h2
        have hcase : i = p ∨ i = p + 1 := by omega
        rcases hcase with rfl | rfl
        · exact hb
        · exact g1 hi
      · exact ⟨hb, by simp [Utf8.runeError], by simp [Utf8.runeError], by simp, by simp; omega, one⟩
    · split
      · rename_i hc
        simp only [Bool.and_eq_true] at hc
        obtain ⟨l1, g1⟩ := conts 1 hc.1.2
        obtain ⟨l2, g2⟩ := conts 2 hc.2
        have := lt256 1
        have := lt256 2
        split
        · rename_i hge
          simp only [Bool.and_eq_true, decide_eq_true_eq] at hge
          refine ⟨hb, by show 128 ≤ _; omega, by show _ < 2147483648; omega, by simp, by simp; omega, fun i hi h1 h2 => ?_⟩
          have h2 : i < p + 3 := h2
          have hcase : i = p ∨ i = p + 1 ∨ i = p + 2 := by omega
          rcases hcase with rfl | rfl | rfl
          · exact hb
          · exact g1 hi
          · exact g2 hi
        · exact ⟨hb, by simp [Utf8.runeError], by simp [Utf8.runeError], by simp, by simp; omega, one⟩
      · split
        · rename_i hc
          simp only [Bool.and_eq_true] at hc
          obtain ⟨l1, g1⟩ := conts 1 hc.1.1.2
          obtain ⟨l2, g2⟩ := conts 2 hc.1.2
          obtain ⟨l3, g3⟩ := conts 3 hc.2
          have := lt256 1
          have := lt256 2
          have := lt256 3
          split
          · rename_i hge
            simp only [Bool.and_eq_true, decide_eq_true_eq] at hge
            refine ⟨hb, by show 128 ≤ _; omega, by show _ < 2147483648; omega, by simp, by simp; omega, fun i hi h1 h2 => ?_⟩
            have h2 : i < p + 4 := h2
            have hcase : i = p ∨ i = p + 1 ∨ i = p + 2 ∨ i = p + 3 := by omega
            rcases hcase with rfl | rfl | rfl | rfl
            · exact hb
            · exact g1 hi
            · exact g2 hi
            · exact g3 hi
          · exact ⟨hb, by simp [Utf8.runeError], by simp [Utf8.runeError], by simp, by simp; omega, one⟩
        · exact ⟨hb, by simp [Utf8.runeError], by simp [Utf8.runeError], by simp, by simp; omega, one⟩
def firstAt {α : Type} (p : α → Bool) : List α → Option Nat
  | [] => none
  | c :: s => bif p c then some 0 else (firstAt p s).map (· + 1)
theorem firstAt_some {α : Type} {p : α → Bool} : ∀ {s : List α} {j : Nat}, firstAt p s = some j → ∃ h : j < s.length, p s[j] = true ∧ ∀ k (hk : k < j), p (s[k]'(by omega)) = false
  | [], j, h => by cases h
  | c :: s, j, h => by
    unfold firstAt at h
    cases hc : p c with
    | true => rw [hc] at h; cases h; exact ⟨by simp, by simpa using hc, fun k hk => by omega⟩
    | false =>
      rw [hc, cond_false, Option.map_eq_some_iff] at h
      obtain ⟨i, hi, rfl⟩ := h
      obtain ⟨h1, h2, h3⟩ := firstAt_some hi
      refine ⟨by simpa using h1, by simpa using h2, fun k hk => ?_⟩
      cases k with
      | zero => simpa using hc
      | succ k => simpa using h3 k (by omega)
theorem firstAt_none {α : Type} {p : α → Bool} : ∀ {s : List α}, firstAt p s = none → ∀ k (hk : k < s.length), p s[k] = false
  | [], h, k, hk => by simp at hk
  | c :: s, h, k, hk => by
    unfold firstAt at h
    cases hc : p c with
    | true => rw [hc] at h; cases h
    | false =>
      rw [hc, cond_false, Option.map_eq_none_iff] at h
      cases k with
      | zero => simpa using hc
      | succ k => simpa using firstAt_none h k (by simpa using hk)
end Go.Proofs.YtpdgmgkkbbndfaaGreatDoor

set_option maxRecDepth 100000
namespace Go.Proofs.YtpdgmgkkbbndfaaGreatDoor
open Go Go.Proofs Go.Proofs.YtpdgmgkkbbndfaaGreatDoor.SX
def c81I (s : List UInt8) (t : List UInt8) (p : Nat) : SL := ⟨[(0, .str s), (1, .str t), (10, .ptr ⟨0, 0, 0⟩)], [(0, .siter s p)], 1⟩
def b81I (s : List UInt8) (p : Nat) : SL := c81I s [62, 59] p
def b81sI (s : List UInt8) (p : Nat) : SL := c81I s [59] p
theorem b81_TET (s : List UInt8) (p : Nat) :
 Path (run Tryz.prog Pr 100 (lbody Tryz.prog 81 0) (SL.mp 24 ([pT, PI.ev 1, pT]) (b81I s p))) 1 [] (SL.mk [(4, AV.int IntKind.i64 ↑p)] [] 1) (Ex.ret)
 ((True ∧ (decide (p < List.length s) = true)) ∧ ((↑(Prod.fst (decodeAt s p)) == (62 : Int)) = true)) := by unfold Path; kernel_rfl
theorem b81_TEFET (s : List UInt8) (p : Nat) :
 Path (run Tryz.prog Pr 100 (lbody Tryz.prog 81 0) (SL.mp 24 ([pT, PI.ev 1, pF, PI.ev 1, pT]) (b81I s p))) 1 [] (SL.mk [(4, AV.int IntKind.i64 ↑p)] [] 1) (Ex.ret)
 (((True ∧ (decide (p < List.length s) = true)) ∧ ((↑(Prod.fst (decodeAt s p)) == (62 : Int)) = false)) ∧ ((↑(Prod.fst (decodeAt s p)) == (59 : Int)) = true)) := by unfold Path; kernel_rfl
theorem b81_TEFEFE (s : List UInt8) (p : Nat) :
 Path (run Tryz.prog Pr 100 (lbody Tryz.prog 81 0) (SL.mp 24 ([pT, PI.ev 1, pF, PI.ev 1, pF, PI.ev 1]) (b81I s p))) 1 [] (b81I (s) (p + Prod.snd (decodeAt s p))) (Ex.normal)
 (((True ∧ (decide (p < List.length s) = true)) ∧ ((↑(Prod.fst (decodeAt s p)) == (62 : Int)) = false)) ∧ ((↑(Prod.fst (decodeAt s p)) == (59 : Int)) = false)) := by unfold Path; kernel_rfl
theorem b81_F (s : List UInt8) (p : Nat) :
 Path (run Tryz.prog Pr 100 (lbody Tryz.prog 81 0) (SL.mp 24 ([pF]) (b81I s p))) 1 [] (SL.mk [] [] 1) (Ex.exit 0)
 (True ∧ (decide (p < List.length s) = false)) := by unfold Path; kernel_rfl
theorem b81s_TET (s : List UInt8) (p : Nat) :
 Path (run Tryz.prog Pr 100 (lbody Tryz.prog 81 0) (SL.mp 24 ([pT, PI.ev 1, pT]) (b81sI s p))) 1 [] (SL.mk [(4, AV.int IntKind.i64 ↑p)] [] 1) (Ex.ret)
 ((True ∧ (decide (p < List.length s) = true)) ∧ ((↑(Prod.fst (decodeAt s p)) == (59 : Int)) = true)) := by unfold Path; kernel_rfl
theorem b81s_TEFE (s : List UInt8) (p : Nat) :
 Path (run Tryz.prog Pr 100 (lbody Tryz.prog 81 0) (SL.mp 24 ([pT, PI.ev 1, pF, PI.ev 1]) (b81sI s p))) 1 [] (b81sI (s) (p + Prod.snd (decodeAt s p))) (Ex.normal)
 ((True ∧ (decide (p < List.length s) = true)) ∧ ((↑(Prod.fst (decodeAt s p)) == (59 : Int)) = false)) := by unfold Path; kernel_rfl
theorem b81s_F (s : List UInt8) (p : Nat) :
 Path (run Tryz.prog Pr 100 (lbody Tryz.prog 81 0) (SL.mp 24 ([pF]) (b81sI s p))) 1 [] (SL.mk [] [] 1) (Ex.exit 0)
 (True ∧ (decide (p < List.length s) = false)) := by unfold Path; kernel_rfl
theorem c81_L (s : List UInt8) (j : Nat) :
 Path (runCallB Tryz.prog Pr 100 81 [AV.str s, AV.str [(62 : UInt8), (59 : UInt8)]] (st0 [] ([PI.loop (SL.mk [(0, AV.str s), (1, AV.str [(62 : UInt8), (59 : UInt8)]), (10, AV.ptr (Loc.mk 0 0 0))] [(0, Blk.siter s 0)] 1) Ex.ret (SL.mk [(4, AV.int IntKind.i64 ↑j)] [] 1)]))) 0 [] (SL.mk [] [] 0) (Out.ret (AV.int IntKind.i64 ↑j))
 (True ∧ (LoopOK Tryz.prog (lbody Tryz.prog 81 0) (24) (SL.mk [(0, AV.str s), (1, AV.str [(62 : UInt8), (59 : UInt8)]), (10, AV.ptr (Loc.mk 0 0 0))] [(0, Blk.siter s 0)] 1) Ex.ret (SL.mk [(4, AV.int IntKind.i64 ↑j)] [] 1))) := by unfold Path; kernel_rfl
theorem c81_L2 (s : List UInt8) (j : Nat) :
 Path (runCallB Tryz.prog Pr 100 81 [AV.str s, AV.str [(62 : UInt8), (59 : UInt8)]] (st0 [] ([PI.loop (SL.mk [(0, AV.str s), (1, AV.str [(62 : UInt8), (59 : UInt8)]), (10, AV.ptr (Loc.mk 0 0 0))] [(0, Blk.siter s 0)] 1) (Ex.exit 0) (SL.mk [] [] 1)]))) 0 [] (SL.mk [] [] 0) (Out.ret (AV.int IntKind.i64 (Int.negSucc (0))))
 (True ∧ (LoopOK Tryz.prog (lbody Tryz.prog 81 0) (24) (SL.mk [(0, AV.str s), (1, AV.str [(62 : UInt8), (59 : UInt8)]), (10, AV.ptr (Loc.mk 0 0 0))] [(0, Blk.siter s 0)] 1) (Ex.exit 0) (SL.mk [] [] 1))) := by unfold Path; kernel_rfl
theorem c81s_L (s : List UInt8) (j : Nat) :
 Path (runCallB Tryz.prog Pr 100 81 [AV.str s, AV.str [(59 : UInt8)]] (st0 [] ([PI.loop (SL.mk [(0, AV.str s), (1, AV.str [(59 : UInt8)]), (10, AV.ptr (Loc.mk 0 0 0))] [(0, Blk.siter s 0)] 1) Ex.ret (SL.mk [(4, AV.int IntKind.i64 ↑j)] [] 1)]))) 0 [] (SL.mk [] [] 0) (Out.ret (AV.int IntKind.i64 ↑j))
 (True ∧ (LoopOK Tryz.prog (lbody Tryz.prog 81 0) (24) (SL.mk [(0, AV.str s), (1, AV.str [(59 : UInt8)]), (10, AV.ptr (Loc.mk 0 0 0))] [(0, Blk.siter s 0)] 1) Ex.ret (SL.mk [(4, AV.int IntKind.i64 ↑j)] [] 1))) := by unfold Path; kernel_rfl
theorem c81s_L2 (s : List UInt8) (j : Nat) :
 Path (runCallB Tryz.prog Pr 100 81 [AV.str s, AV.str [(59 : UInt8)]] (st0 [] ([PI.loop (SL.mk [(0, AV.str s), (1, AV.str [(59 : UInt8)]), (10, AV.ptr (Loc.mk 0 0 0))] [(0, Blk.siter s 0)] 1) (Ex.exit 0) (SL.mk [] [] 1)]))) 0 [] (SL.mk [] [] 0) (Out.ret (AV.int IntKind.i64 (Int.negSucc (0))))
 (True ∧ (LoopOK Tryz.prog (lbody Tryz.prog 81 0) (24) (SL.mk [(0, AV.str s), (1, AV.str [(59 : UInt8)]), (10, AV.ptr (Loc.mk 0 0 0))] [(0, Blk.siter s 0)] 1) (Ex.exit 0) (SL.mk [] [] 1))) := by unfold Path; kernel_rfl
def sg (c : UInt8) : Bool := c == 62 || c == 59
theorem any_some {s : List UInt8} {j : Nat} (h : firstAt sg s = some j) :
    LoopOK Tryz.prog (lbody Tryz.prog 81 0) 24 (b81I s 0) .ret ⟨[(4, .int .i64 (j : Int))], [], 1⟩ := by
  obtain ⟨hj, h2, h3⟩ := firstAt_some h
  refine loop_rule (E := b81I s 0) (I := fun k : Nat => b81I s k) (pre := fun k => k ≤ j) (μ := fun k => j - k) _ _ rfl (fun ρ => by simp [Ex.conc]) ?_ (x0 := 0) (pick := []) (Nat.zero_le _) ⟨by kernel_rfl, map_fst_snd (by kernel_rfl)⟩
  intro k hk
  have hkl : k < s.length := by omega
  have hd := decode_cases s k hkl
  by_cases hkj : k = j
  · right
    subst hkj
    have hlt : s[k].toNat < 128 := by
      simp only [sg, Bool.or_eq_true, beq_iff_eq] at h2
      rcases h2 with h2 | h2 <;> rw [h2] <;> decide
    rcases hd with ⟨_, e⟩ | ⟨e, _⟩
    · simp only [sg, Bool.or_eq_true, beq_iff_eq] at h2
      rcases h2 with h2 | h2
      · exact body_by Pr_ok (b81_TET s k) rfl ⟨⟨trivial, decide_eq_true hkl⟩, by rw [e, h2]; rfl⟩ rfl
      · exact body_by Pr_ok (b81_TEFET s k) rfl ⟨⟨⟨trivial, decide_eq_true hkl⟩, by rw [e, h2]; rfl⟩, by rw [e, h2]; rfl⟩ rfl
    · omega
  · left
    have hno := h3 k (by omega)
    rcases hd with ⟨e1, e2⟩ | ⟨e1, e2, e3, e4, e5, e6⟩
    · refine ⟨k + 1, by omega, by omega, ?_⟩
      have hw : (decodeAt s k).2 = 1 := by rw [e2]
      simp only [sg, Bool.or_eq_false_iff, beq_eq_false_iff_ne, ne_eq] at hno
      have n1 : s[k].toNat ≠ 62 := fun h => hno.1 (UInt8.toNat_inj.1 h)
      have n2 : s[k].toNat ≠ 59 := fun h => hno.2 (UInt8.toNat_inj.1 h)
      exact body_by Pr_ok (b81_TEFEFE s k) (by rw [hw]) ⟨⟨⟨trivial, decide_eq_true hkl⟩, by rw [e2]; simp; omega⟩, by rw [e2]; simp; omega⟩ rfl
    · have hle : k + (decodeAt s k).2 ≤ j := by
        rcases Nat.lt_or_ge j (k + (decodeAt s k).2) with h | h
        · have := e6 j hj hk h
          simp only [sg, Bool.or_eq_true, beq_iff_eq] at h2
          rcases h2 with h2 | h2 <;> rw [h2] at this <;> exact absurd this (by decide)
        · exact h
      refine ⟨k + (decodeAt s k).2, hle, by omega, ?_⟩
      exact body_by Pr_ok (b81_TEFEFE s k) rfl ⟨⟨⟨trivial, decide_eq_true hkl⟩, by simp; omega⟩, by simp; omega⟩ rfl
theorem any_none {s : List UInt8} (h : firstAt sg s = none) :
    LoopOK Tryz.prog (lbody Tryz.prog 81 0) 24 (b81I s 0) (.exit 0) ⟨[], [], 1⟩ := by
  have h3 := firstAt_none h
  refine loop_rule (E := b81I s 0) (I := fun k : Nat => b81I s k) (pre := fun k => k ≤ s.length) (μ := fun k => s.length - k) _ _ rfl (fun ρ => by simp [Ex.conc]) ?_ (x0 := 0) (pick := []) (Nat.zero_le _) ⟨by kernel_rfl, map_fst_snd (by kernel_rfl)⟩
  intro k hk
  by_cases hkl : k < s.length
  · left
    have hd := decode_cases s k hkl
    have hno := h3 k hkl
    rcases hd with ⟨e1, e2⟩ | ⟨e1, e2, e3, e4, e5, e6⟩
    · refine ⟨k + 1, by omega, by omega, ?_⟩
      have hw : (decodeAt s k).2 = 1 := by rw [e2]
      simp only [sg, Bool.or_eq_false_iff, beq_eq_false_iff_ne, ne_eq] at hno
      have n1 : s[k].toNat ≠ 62 := fun h => hno.1 (UInt8.toNat_inj.1 h)
      have n2 : s[k].toNat ≠ 59 := fun h => hno.2 (UInt8.toNat_inj.1 h)
      exact body_by Pr_ok (b81_TEFEFE s k) (by rw [hw]) ⟨⟨⟨trivial, decide_eq_true hkl⟩, by rw [e2]; simp; omega⟩, by rw [e2]; simp; omega⟩ rfl
    · refine ⟨k + (decodeAt s k).2, e5, by omega, ?_⟩
      exact body_by Pr_ok (b81_TEFEFE s k) rfl ⟨⟨⟨trivial, decide_eq_true hkl⟩, by simp; omega⟩, by simp; omega⟩ rfl
  · right
    exact body_by Pr_ok (b81_F s k) rfl ⟨trivial, decide_eq_false hkl⟩ rfl
def sgs (c : UInt8) : Bool := c == 59
theorem anys_some {s : List UInt8} {j : Nat} (h : firstAt sgs s = some j) :
    LoopOK Tryz.prog (lbody Tryz.prog 81 0) 24 (b81sI s 0) .ret ⟨[(4, .int .i64 (j : Int))], [], 1⟩ := by
  obtain ⟨hj, h2, h3⟩ := firstAt_some h
  refine loop_rule (E := b81sI s 0) (I := fun k : Nat => b81sI s k) (pre := fun k => k ≤ j) (μ := fun k => j - k) _ _ rfl (fun ρ => by simp [Ex.conc]) ?_ (x0 := 0) (pick := []) (Nat.zero_le _) ⟨by kernel_rfl, map_fst_snd (by kernel_rfl)⟩
  intro k hk
  have hkl : k < s.length := by omega
  have hd := decode_cases s k hkl
  by_cases hkj : k = j
  · right
    subst hkj
    have hlt : s[k].toNat < 128 := by
      simp only [sgs, Bool.or_eq_true, beq_iff_eq] at h2
      rw [h2]; decide
    rcases hd with ⟨_, e⟩ | ⟨e, _⟩
    · simp only [sgs, beq_iff_eq] at h2
      exact body_by Pr_ok (b81s_TET s k) rfl ⟨⟨trivial, decide_eq_true hkl⟩, by rw [e, h2]; rfl⟩ rfl
    · omega
  · left
    have hno := h3 k (by omega)
    rcases hd with ⟨e1, e2⟩ | ⟨e1, e2, e3, e4, e5, e6⟩
    · refine ⟨k + 1, by omega, by omega, ?_⟩
      have hw : (decodeAt s k).2 = 1 := by rw [e2]
      simp only [sgs, beq_eq_false_iff_ne, ne_eq] at hno
      have n2 : s[k].toNat ≠ 59 := fun h => hno (UInt8.toNat_inj.1 h)
      exact body_by Pr_ok (b81s_TEFE s k) (by rw [hw]) ⟨⟨trivial, decide_eq_true hkl⟩, by rw [e2]; simp; omega⟩ rfl
    · have hle : k + (decodeAt s k).2 ≤ j := by
        rcases Nat.lt_or_ge j (k + (decodeAt s k).2) with h | h
        · have := e6 j hj hk h
          simp only [sgs, Bool.or_eq_true, beq_iff_eq] at h2
          rw [h2] at this; exact absurd this (by decide)
        · exact h
      refine ⟨k + (decodeAt s k).2, hle, by omega, ?_⟩
      exact body_by Pr_ok (b81s_TEFE s k) rfl ⟨⟨trivial, decide_eq_true hkl⟩, by simp; omega⟩ rfl
theorem anys_none {s : List UInt8} (h : firstAt sgs s = none) :
    LoopOK Tryz.prog (lbody Tryz.prog 81 0) 24 (b81sI s 0) (.exit 0) ⟨[], [], 1⟩ := by
  have h3 := firstAt_none h
  refine loop_rule (E := b81sI s 0) (I := fun k : Nat => b81sI s k) (pre := fun k => k ≤ s.length) (μ := fun k => s.length - k) _ _ rfl (fun ρ => by simp [Ex.conc]) ?_ (x0 := 0) (pick := []) (Nat.zero_le _) ⟨by kernel_rfl, map_fst_snd (by kernel_rfl)⟩
  intro k hk
  by_cases hkl : k < s.length
  · left
    have hd := decode_cases s k hkl
    have hno := h3 k hkl
    rcases hd with ⟨e1, e2⟩ | ⟨e1, e2, e3, e4, e5, e6⟩
    · refine ⟨k + 1, by omega, by omega, ?_⟩
      have hw : (decodeAt s k).2 = 1 := by rw [e2]
      simp only [sgs, beq_eq_false_iff_ne, ne_eq] at hno
      have n2 : s[k].toNat ≠ 59 := fun h => hno (UInt8.toNat_inj.1 h)
      exact body_by Pr_ok (b81s_TEFE s k) (by rw [hw]) ⟨⟨trivial, decide_eq_true hkl⟩, by rw [e2]; simp; omega⟩ rfl
    · refine ⟨k + (decodeAt s k).2, e5, by omega, ?_⟩
      exact body_by Pr_ok (b81s_TEFE s k) rfl ⟨⟨trivial, decide_eq_true hkl⟩, by simp; omega⟩ rfl
  · right
    exact body_by Pr_ok (b81s_F s k) rfl ⟨trivial, decide_eq_false hkl⟩ rfl
def spAnyAt (s : List UInt8) (t : List UInt8) : Int := match firstAt (fun c => t.contains c) s with
  | some j => j
  | none => -1
def q81 : Entry := fun args hp nx => match args with
  | [.str s, .str t] => some (decide (t = [62, 59] ∨ t = [59]), .int .i64 (spAnyAt s t), [])
  | _ => none
theorem firstAt_congr {p q : UInt8 → Bool} (h : ∀ c, p c = q c) (s : List UInt8) : firstAt p s = firstAt q s := by
  have : p = q := funext h
  rw [this]
theorem q81_ok : EntryOK Tryz.prog 81 q81 := by
  intro args hp nx c v bs h hc ρ w hs hi
  unfold q81 at h
  split at h
  · rename_i s t
    cases h
    have hc := of_decide_eq_true hc
    refine entry_pure hs rfl ?_
    have hE : HSim ρ (addBlks .e 0 []) ([] : List Blk).length w := HSim.ins hs.gw (fun i blk hi => by simp at hi)
    rcases hc with rfl | rfl
    · have e : firstAt (fun c => [62, 59].contains c) s = firstAt sg s := firstAt_congr (fun c => by simp [sg, List.contains_cons]; rfl) s
      unfold spAnyAt
      rw [e]
      cases hf : firstAt sg s with
      | some j => exact calls_pureB Pr_ok (c81_L s j) ⟨trivial, any_some hf⟩ hE rfl rfl rfl
      | none => exact calls_pureB Pr_ok (c81_L2 s 0) ⟨trivial, any_none hf⟩ hE rfl rfl rfl
    · have e : firstAt (fun c => [59].contains c) s = firstAt sgs s := firstAt_congr (fun c => by simp [sgs, List.contains_cons]; rfl) s
      unfold spAnyAt
      rw [e]
      cases hf : firstAt sgs s with
      | some j => exact calls_pureB Pr_ok (c81s_L s j) ⟨trivial, anys_some hf⟩ hE rfl rfl rfl
      | none => exact calls_pureB Pr_ok (c81s_L2 s 0) ⟨trivial, anys_none hf⟩ hE rfl rfl rfl
  · cases h
end Go.Proofs.YtpdgmgkkbbndfaaGreatDoor

set_option maxRecDepth 100000
namespace Go.Proofs.YtpdgmgkkbbndfaaGreatDoor
open Go Go.Proofs Go.Proofs.YtpdgmgkkbbndfaaGreatDoor.SX
def P2 : Prims := addP (addP (addP (addP (addP (addP (addP (addP noPrims 52 q52) 95 q95) 77 q77) 78 q78) 60 q60) 69 q69) 96 q96) 81 q81
theorem P2_ok : PrimsOK Tryz.prog P2 := addP_ok (addP_ok (addP_ok (addP_ok (addP_ok (addP_ok (addP_ok (addP_ok (noPrims_ok _) q52_ok) q95_ok) q77_ok) q78_ok) q60_ok) q69_ok) q96_ok) q81_ok
end Go.Proofs.YtpdgmgkkbbndfaaGreatDoor

namespace Go.Proofs.YtpdgmgkkbbndfaaGreatDoor
open Go Go.Proofs Go.Proofs.YtpdgmgkkbbndfaaGreatDoor.SX
theorem len_pre (s p : List UInt8) : (spTrimPre s p).length ≤ s.length := by
  unfold spTrimPre Lib.trimPrefix; split <;> simp
theorem len_suf (s p : List UInt8) : (spTrimSuf s p).length ≤ s.length := by
  unfold spTrimSuf Lib.trimSuffix
  split
  · simp [List.length_take]
  · exact Nat.le_refl _
theorem len_before (s t : List UInt8) : (spBefore s t).length ≤ s.length := by
  unfold spBefore Lib.cut
  split
  · simp [List.length_take]; omega
  · exact Nat.le_refl _
theorem len_after (s t : List UInt8) : (spAfter s t).length ≤ s.length := by
  unfold spAfter Lib.cut
  split
  · simp [List.length_drop]
  · simp
theorem numeral_range (s : List UInt8) : 0 ≤ spNumeral s ∧ spNumeral s ≤ 65535 := by
  unfold spNumeral
  cases spAtoiOk s with
  | false => simp
  | true =>
    rw [cond_true]
    unfold c96_cls c96k1 c96k2 c96k4
    by_cases h1 : spAtoi s < 1
    · simp [h1]
    · by_cases h2 : spAtoi s > 65535
      · simp [h2]
      · cases h3 : (!spItoa (spAtoi s) == s) with
        | true => simp
        | false =>
          simp only [decide_eq_false h1, decide_eq_false h2, cond_false, show Nat.beq 1 0 = false from rfl]
          omega
theorem anyAt_range (s t : List UInt8) : -1 ≤ spAnyAt s t ∧ spAnyAt s t < s.length ∨ spAnyAt s t = -1 := by
  unfold spAnyAt
  cases h : firstAt (fun c => t.contains c) s with
  | none => right; rfl
  | some j =>
    left
    obtain ⟨h1, _⟩ := firstAt_some h
    show -1 ≤ (j : Int) ∧ (j : Int) < s.length
    omega
theorem len_itoa (n : Int) (h : -9223372036854775808 ≤ n ∧ n ≤ 9223372036854775807) : (spItoa n).length ≤ 21 := by
  unfold spItoa Lib.itoa
  split
  · have := Lib.nDigits_le20 n.natAbs (by omega)
    rw [List.length_cons, Lib.decDigits_length]; omega
  · have := Lib.nDigits_le20 n.toNat (by omega)
    rw [Lib.decDigits_length]; omega
end Go.Proofs.YtpdgmgkkbbndfaaGreatDoor

set_option maxRecDepth 100000
namespace Go.Proofs.YtpdgmgkkbbndfaaGreatDoor
open Go Go.Proofs Go.Proofs.YtpdgmgkkbbndfaaGreatDoor.SX
def c64k0 (s : List UInt8) : Bool := decide (List.length (spTrimPre s [(109 : UInt8), (61 : UInt8)]) < 4294967281)
def c64k1 (s : List UInt8) : Bool := decide (List.length (spAfter (spTrimPre s [(109 : UInt8), (61 : UInt8)]) [(32 : UInt8)]) < 4294967281)
def c64k2 (s : List UInt8) : Bool := !spBefore (spTrimPre s [(109 : UInt8), (61 : UInt8)]) [(32 : UInt8)] == []
def c64k3 (s : List UInt8) : Bool := decide (List.length (spBefore (spTrimPre s [(109 : UInt8), (61 : UInt8)]) [(32 : UInt8)]) ≤ 9223372036854775807 ∧ 52 < 4294967281 ∧ true = true)
def c64k4 (s : List UInt8) : Bool := !spHasPre s [(109 : UInt8), (61 : UInt8)]
theorem c64_TT (s : List UInt8) :
 Path (runCallB Tryz.prog P2 100 64 [AV.str s] (st0 [] ([pT, pT]))) 0 [] (SL.mk [] [] 0) (Out.ret (AV.tup [AV.str [], AV.int IntKind.i64 (0 : Int), AV.str []]))
 ((((((True ∧ true = true) ∧ c64k0 s = true) ∧ c64k1 s = true) ∧ c64k2 s = true) ∧ c64k3 s = true) ∧ c64k4 s = true) := by unfold Path; kernel_rfl
def c64k5 (s : List UInt8) : Bool := !spFound (spTrimPre s [(109 : UInt8), (61 : UInt8)]) [(32 : UInt8)]
theorem c64_TFT (s : List UInt8) :
 Path (runCallB Tryz.prog P2 100 64 [AV.str s] (st0 [] ([pT, pF, pT]))) 0 [] (SL.mk [] [] 0) (Out.ret (AV.tup [AV.str [], AV.int IntKind.i64 (0 : Int), AV.str []]))
 (((((((True ∧ true = true) ∧ c64k0 s = true) ∧ c64k1 s = true) ∧ c64k2 s = true) ∧ c64k3 s = true) ∧ c64k4 s = false) ∧ c64k5 s = true) := by unfold Path; kernel_rfl
def c64k6 (s : List UInt8) : Bool := !spFound (spAfter (spTrimPre s [(109 : UInt8), (61 : UInt8)]) [(32 : UInt8)]) [(32 : UInt8)]
theorem c64_TFFT (s : List UInt8) :
 Path (runCallB Tryz.prog P2 100 64 [AV.str s] (st0 [] ([pT, pF, pF, pT]))) 0 [] (SL.mk [] [] 0) (Out.ret (AV.tup [AV.str [], AV.int IntKind.i64 (0 : Int), AV.str []]))
 ((((((((True ∧ true = true) ∧ c64k0 s = true) ∧ c64k1 s = true) ∧ c64k2 s = true) ∧ c64k3 s = true) ∧ c64k4 s = false) ∧ c64k5 s = false) ∧ c64k6 s = true) := by unfold Path; kernel_rfl
def c64k7 (s : List UInt8) : Bool := !spTrim (spBefore (spTrimPre s [(109 : UInt8), (61 : UInt8)]) [(32 : UInt8)]) [(97 : UInt8), (98 : UInt8), (99 : UInt8), (100 : UInt8), (101 : UInt8), (102 : UInt8), (103 : UInt8), (104 : UInt8), (105 : UInt8), (106 : UInt8), (107 : UInt8), (108 : UInt8), (109 : UInt8), (110 : UInt8), (111 : UInt8), (112 : UInt8), (113 : UInt8), (114 : UInt8), (115 : UInt8), (116 : UInt8), (117 : UInt8), (118 : UInt8), (119 : UInt8), (120 : UInt8), (121 : UInt8), (122 : UInt8), (65 : UInt8), (66 : UInt8), (67 : UInt8), (68 : UInt8), (69 : UInt8), (70 : UInt8), (71 : UInt8), (72 : UInt8), (73 : UInt8), (74 : UInt8), (75 : UInt8), (76 : UInt8), (77 : UInt8), (78 : UInt8), (79 : UInt8), (80 : UInt8), (81 : UInt8), (82 : UInt8), (83 : UInt8), (84 : UInt8), (85 : UInt8), (86 : UInt8), (87 : UInt8), (88 : UInt8), (89 : UInt8), (90 : UInt8)] == []
theorem c64_TFFFT (s : List UInt8) :
 Path (runCallB Tryz.prog P2 100 64 [AV.str s] (st0 [] ([pT, pF, pF, pF, pT]))) 0 [] (SL.mk [] [] 0) (Out.ret (AV.tup [AV.str [], AV.int IntKind.i64 (0 : Int), AV.str []]))
 (((((((((True ∧ true = true) ∧ c64k0 s = true) ∧ c64k1 s = true) ∧ c64k2 s = true) ∧ c64k3 s = true) ∧ c64k4 s = false) ∧ c64k5 s = false) ∧ c64k6 s = false) ∧ c64k7 s = true) := by unfold Path; kernel_rfl
def c64k8 (s : List UInt8) : Bool := decide (2 + List.length (spBefore (spTrimPre s [(109 : UInt8), (61 : UInt8)]) [(32 : UInt8)]) ≤ 9223372036854775807)
def c64k9 (s : List UInt8) : Bool := decide (List.length ((109 : UInt8) :: (61 : UInt8) :: spBefore (spTrimPre s [(109 : UInt8), (61 : UInt8)]) [(32 : UInt8)]) + 1 ≤ 9223372036854775807)
def c64k10 (s : List UInt8) : Bool := decide (List.length (spBefore (spAfter (spTrimPre s [(109 : UInt8), (61 : UInt8)]) [(32 : UInt8)]) [(32 : UInt8)]) ≤ 281474976710656)
def c64k11 (s : List UInt8) : Bool := decide (1 + List.length (spAfter (spAfter (spTrimPre s [(109 : UInt8), (61 : UInt8)]) [(32 : UInt8)]) [(32 : UInt8)]) ≤ 9223372036854775807)
theorem c64_TFFFF (s : List UInt8) :
 Path (runCallB Tryz.prog P2 100 64 [AV.str s] (st0 [] ([pT, pF, pF, pF, pF]))) 0 [] (SL.mk [] [] 0) (Out.ret (AV.tup [AV.str ((109 : UInt8) :: (61 : UInt8) :: (spBefore (spTrimPre s [(109 : UInt8), (61 : UInt8)]) [(32 : UInt8)] ++ [(32 : UInt8)])), AV.int IntKind.i64 (spNumeral (spBefore (spAfter (spTrimPre s [(109 : UInt8), (61 : UInt8)]) [(32 : UInt8)]) [(32 : UInt8)])), AV.str ((32 : UInt8) :: spAfter (spAfter (spTrimPre s [(109 : UInt8), (61 : UInt8)]) [(32 : UInt8)]) [(32 : UInt8)])]))
 (((((((((((((True ∧ true = true) ∧ c64k0 s = true) ∧ c64k1 s = true) ∧ c64k2 s = true) ∧ c64k3 s = true) ∧ c64k4 s = false) ∧ c64k5 s = false) ∧ c64k6 s = false) ∧ c64k7 s = false) ∧ c64k8 s = true) ∧ c64k9 s = true) ∧ c64k10 s = true) ∧ c64k11 s = true) := by unfold Path; kernel_rfl
theorem c64_FT (s : List UInt8) :
 Path (runCallB Tryz.prog P2 100 64 [AV.str s] (st0 [] ([pF, pT]))) 0 [] (SL.mk [] [] 0) (Out.ret (AV.tup [AV.str [], AV.int IntKind.i64 (0 : Int), AV.str []]))
 (((((True ∧ true = true) ∧ c64k0 s = true) ∧ c64k1 s = true) ∧ c64k2 s = false) ∧ c64k4 s = true) := by unfold Path; kernel_rfl
theorem c64_FFT (s : List UInt8) :
 Path (runCallB Tryz.prog P2 100 64 [AV.str s] (st0 [] ([pF, pF, pT]))) 0 [] (SL.mk [] [] 0) (Out.ret (AV.tup [AV.str [], AV.int IntKind.i64 (0 : Int), AV.str []]))
 ((((((True ∧ true = true) ∧ c64k0 s = true) ∧ c64k1 s = true) ∧ c64k2 s = false) ∧ c64k4 s = false) ∧ c64k5 s = true) := by unfold Path; kernel_rfl
theorem c64_FFFT (s : List UInt8) :
 Path (runCallB Tryz.prog P2 100 64 [AV.str s] (st0 [] ([pF, pF, pF, pT]))) 0 [] (SL.mk [] [] 0) (Out.ret (AV.tup [AV.str [], AV.int IntKind.i64 (0 : Int), AV.str []]))
 (((((((True ∧ true = true) ∧ c64k0 s = true) ∧ c64k1 s = true) ∧ c64k2 s = false) ∧ c64k4 s = false) ∧ c64k5 s = false) ∧ c64k6 s = true) := by unfold Path; kernel_rfl
theorem c64_FFFF (s : List UInt8) :
 Path (runCallB Tryz.prog P2 100 64 [AV.str s] (st0 [] ([pF, pF, pF, pF]))) 0 [] (SL.mk [] [] 0) (Out.ret (AV.tup [AV.str [], AV.int IntKind.i64 (0 : Int), AV.str []]))
 (((((((True ∧ true = true) ∧ c64k0 s = true) ∧ c64k1 s = true) ∧ c64k2 s = false) ∧ c64k4 s = false) ∧ c64k5 s = false) ∧ c64k6 s = false) := by unfold Path; kernel_rfl
def c64_cls (s : List UInt8) : Nat := (bif c64k2 s then (bif c64k4 s then 0 else (bif c64k5 s then 0 else (bif c64k6 s then 0 else (bif c64k7 s then 0 else 1)))) else 0)
theorem c64_all (s : List UInt8) : c64_cls s = 0 ∨ c64_cls s = 1 := by
  unfold c64_cls
  cases c64k2 s <;> cases c64k4 s <;> cases c64k5 s <;> cases c64k6 s <;> cases c64k7 s <;> simp
theorem c64_c0 (s : List UInt8) (h : c64_cls s = 0) (m0 : c64k0 s = true) (m1 : c64k1 s = true) (m2 : c64k2 s = true → c64k3 s = true) : ∃ plan ow, Path (runCallB Tryz.prog P2 100 64 [AV.str s] (st0 [] plan)) 0 [] (SL.mk [] [] 0) (Out.ret (AV.tup [AV.str [], AV.int IntKind.i64 (0 : Int), AV.str []])) ow ∧ ow := by
  unfold c64_cls at h
  cases q1 : c64k2 s with
  | true =>
    rw [q1, cond_true] at h
    cases q2 : c64k4 s with
    | true =>
      rw [q2, cond_true] at h
      exact ⟨_, _, c64_TT s, by simp only [q1, q2, m0, m1, (m2 q1), eq_self, and_true, true_and]⟩
    | false =>
      rw [q2, cond_false] at h
      cases q3 : c64k5 s with
      | true =>
        rw [q3, cond_true] at h
        exact ⟨_, _, c64_TFT s, by simp only [q1, q2, q3, m0, m1, (m2 q1), eq_self, and_true, true_and]⟩
      | false =>
        rw [q3, cond_false] at h
        cases q4 : c64k6 s with
        | true =>
          rw [q4, cond_true] at h
          exact ⟨_, _, c64_TFFT s, by simp only [q1, q2, q3, q4, m0, m1, (m2 q1), eq_self, and_true, true_and]⟩
        | false =>
          rw [q4, cond_false] at h
          cases q5 : c64k7 s with
          | true =>
            rw [q5, cond_true] at h
            exact ⟨_, _, c64_TFFFT s, by simp only [q1, q2, q3, q4, q5, m0, m1, (m2 q1), eq_self, and_true, true_and]⟩
          | false =>
            rw [q5, cond_false] at h
            exact absurd h (by decide)
  | false =>
    rw [q1, cond_false] at h
    cases q2 : c64k4 s with
    | true =>
      exact ⟨_, _, c64_FT s, by simp only [q1, q2, m0, m1, eq_self, and_true, true_and]⟩
    | false =>
      cases q3 : c64k5 s with
      | true =>
        exact ⟨_, _, c64_FFT s, by simp only [q1, q2, q3, m0, m1, eq_self, and_true, true_and]⟩
      | false =>
        cases q4 : c64k6 s with
        | true =>
          exact ⟨_, _, c64_FFFT s, by simp only [q1, q2, q3, q4, m0, m1, eq_self, and_true, true_and]⟩
        | false =>
          exact ⟨_, _, c64_FFFF s, by simp only [q1, q2, q3, q4, m0, m1, eq_self, and_true, true_and]⟩
theorem c64_c1 (s : List UInt8) (h : c64_cls s = 1) (m0 : c64k0 s = true) (m1 : c64k1 s = true) (m2 : c64k2 s = true → c64k3 s = true) (m3 : c64k2 s = true → c64k4 s = false → c64k5 s = false → c64k6 s = false → c64k7 s = false → c64k8 s = true) (m4 : c64k2 s = true → c64k4 s = false → c64k5 s = false → c64k6 s = false → c64k7 s = false → c64k9 s = true) (m5 : c64k2 s = true → c64k4 s = false → c64k5 s = false → c64k6 s = false → c64k7 s = false → c64k10 s = true) (m6 : c64k2 s = true → c64k4 s = false → c64k5 s = false → c64k6 s = false → c64k7 s = false → c64k11 s = true) : ∃ plan ow, Path (runCallB Tryz.prog P2 100 64 [AV.str s] (st0 [] plan)) 0 [] (SL.mk [] [] 0) (Out.ret (AV.tup [AV.str ((109 : UInt8) :: (61 : UInt8) :: (spBefore (spTrimPre s [(109 : UInt8), (61 : UInt8)]) [(32 : UInt8)] ++ [(32 : UInt8)])), AV.int IntKind.i64 (spNumeral (spBefore (spAfter (spTrimPre s [(109 : UInt8), (61 : UInt8)]) [(32 : UInt8)]) [(32 : UInt8)])), AV.str ((32 : UInt8) :: spAfter (spAfter (spTrimPre s [(109 : UInt8), (61 : UInt8)]) [(32 : UInt8)]) [(32 : UInt8)])])) ow ∧ ow := by
  unfold c64_cls at h
  cases q1 : c64k2 s with
  | true =>
    rw [q1, cond_true] at h
    cases q2 : c64k4 s with
    | true =>
      rw [q2, cond_true] at h
      exact absurd h (by decide)
    | false =>
      rw [q2, cond_false] at h
      cases q3 : c64k5 s with
      | true =>
        rw [q3, cond_true] at h
        exact absurd h (by decide)
      | false =>
        rw [q3, cond_false] at h
        cases q4 : c64k6 s with
        | true =>
          rw [q4, cond_true] at h
          exact absurd h (by decide)
        | false =>
          rw [q4, cond_false] at h
          cases q5 : c64k7 s with
          | true =>
            rw [q5, cond_true] at h
            exact absurd h (by decide)
          | false =>
            rw [q5, cond_false] at h
            exact ⟨_, _, c64_TFFFF s, by simp only [q1, q2, q3, q4, q5, m0, m1, (m2 q1), (m3 q1 q2 q3 q4 q5), (m4 q1 q2 q3 q4 q5), (m5 q1 q2 q3 q4 q5), (m6 q1 q2 q3 q4 q5), eq_self, and_true, true_and]⟩
  | false =>
    rw [q1, cond_false] at h
    exact absurd h (by decide)
def spMedK (s : List UInt8) : Bool := Nat.beq (c64_cls s) 1
def spMedW (s : List UInt8) : List UInt8 := spBefore (spTrimPre s [109, 61]) [32]
def spMedD (s : List UInt8) : List UInt8 := spBefore (spAfter (spTrimPre s [109, 61]) [32]) [32]
def spMedR (s : List UInt8) : List UInt8 := spAfter (spAfter (spTrimPre s [109, 61]) [32]) [32]
def spMedA (s : List UInt8) : List UInt8 := bif spMedK s then 109 :: 61 :: spMedW s ++ [32] else []
def spMedN (s : List UInt8) : Int := bif spMedK s then spNumeral (spMedD s) else 0
def spMedB (s : List UInt8) : List UInt8 := bif spMedK s then 32 :: spMedR s else []
theorem c64_calls (s : List UInt8) {ρ : Nat → BI} {w : World} (hE : HSim ρ (addBlks .e 0 []) ([] : List Blk).length w) (hlen : s.length ≤ 4294967200) :
    Calls Tryz.prog 64 (concL ρ [AV.str s]).toArray w (fun e w' => e = .returned (conc ρ (AV.tup [.str (spMedA s), .int .i64 (spMedN s), .str (spMedB s)])) ∧ Ext w w') := by
  rcases c64_all s with hcl | hcl
  · obtain ⟨plan, ow, hp, ho⟩ : ∃ plan ow, Path (runCallB Tryz.prog P2 100 64 [AV.str s] (st0 [] plan)) 0 [] (SL.mk [] [] 0) (Out.ret (AV.tup [AV.str [], AV.int IntKind.i64 (0 : Int), AV.str []])) ow ∧ ow := by
      apply c64_c0 s hcl
      all_goals (intros; simp only [c64k0, c64k1, c64k2, c64k3, c64k4, c64k5, c64k6, c64k7, c64k8, c64k9, c64k10, c64k11] at *; have l1 := len_pre s [109, 61]; have l2 := len_after (spTrimPre s [109, 61]) [32]; have l3 := len_before (spTrimPre s [109, 61]) [32]; have l4 := len_before (spAfter (spTrimPre s [109, 61]) [32]) [32]; have l5 := len_after (spAfter (spTrimPre s [109, 61]) [32]) [32]; simp only [decide_eq_true_eq, List.length_cons, List.length_append, List.length_nil, and_true, eq_self]; omega)
    simp only [spMedA, spMedN, spMedB, spMedK, spMedW, spMedD, spMedR, hcl]
    exact calls_pureB P2_ok hp ho hE rfl rfl rfl
  · obtain ⟨plan, ow, hp, ho⟩ : ∃ plan ow, Path (runCallB Tryz.prog P2 100 64 [AV.str s] (st0 [] plan)) 0 [] (SL.mk [] [] 0) (Out.ret (AV.tup [AV.str ((109 : UInt8) :: (61 : UInt8) :: (spBefore (spTrimPre s [(109 : UInt8), (61 : UInt8)]) [(32 : UInt8)] ++ [(32 : UInt8)])), AV.int IntKind.i64 (spNumeral (spBefore (spAfter (spTrimPre s [(109 : UInt8), (61 : UInt8)]) [(32 : UInt8)]) [(32 : UInt8)])), AV.str ((32 : UInt8) :: spAfter (spAfter (spTrimPre s [(109 : UInt8), (61 : UInt8)]) [(32 : UInt8)]) [(32 : UInt8)])])) ow ∧ ow := by
      apply c64_c1 s hcl
      all_goals (intros; simp only [c64k0, c64k1, c64k2, c64k3, c64k4, c64k5, c64k6, c64k7, c64k8, c64k9, c64k10, c64k11] at *; have l1 := len_pre s [109, 61]; have l2 := len_after (spTrimPre s [109, 61]) [32]; have l3 := len_before (spTrimPre s [109, 61]) [32]; have l4 := len_before (spAfter (spTrimPre s [109, 61]) [32]) [32]; have l5 := len_after (spAfter (spTrimPre s [109, 61]) [32]) [32]; simp only [decide_eq_true_eq, List.length_cons, List.length_append, List.length_nil, and_true, eq_self]; omega)
    simp only [spMedA, spMedN, spMedB, spMedK, spMedW, spMedD, spMedR, hcl]
    exact calls_pureB P2_ok hp ho hE rfl rfl rfl
def q64 : Entry := fun args hp nx => match args with
  | [.str s] => some (decide (s.length ≤ 4294967200), .tup [.str (spMedA s), .int .i64 (spMedN s), .str (spMedB s)], [])
  | _ => none
theorem q64_ok : EntryOK Tryz.prog 64 q64 := by
  intro args hp nx c v bs h hc ρ w hs hi
  unfold q64 at h
  split at h
  · rename_i s
    cases h
    have hc := of_decide_eq_true hc
    exact entry_pure hs rfl (c64_calls s (HSim.ins hs.gw (fun i blk hi => by simp at hi)) hc)
  · cases h
end Go.Proofs.YtpdgmgkkbbndfaaGreatDoor

set_option maxRecDepth 100000
namespace Go.Proofs.YtpdgmgkkbbndfaaGreatDoor
open Go Go.Proofs Go.Proofs.YtpdgmgkkbbndfaaGreatDoor.SX
def c82k0 (host to_ s : List UInt8) (port toPort : Int) (rows : List (List AV)) (n : Nat) : Bool := s == host
theorem c82_T (host : List UInt8) (to_ : List UInt8) (s : List UInt8) (port : Int) (toPort : Int) (rows : List (List AV)) (n : Nat) :
 Path (runCallB Tryz.prog P2 100 82 [AV.agg [AV.str host, AV.str to_, AV.int IntKind.i64 port, AV.int IntKind.i64 toPort, AV.slq 0 n], AV.str s] (st0 [Blk.cells false [Kd.int IntKind.u16, Kd.int IntKind.u16] rows] ([pT]))) 1 [] (SL.mk [] [] 1) (Out.ret (AV.str to_))
 (((True ∧ true = true) ∧ c82k0 host to_ s port toPort rows n = true) ∧ true = true) := by unfold Path; kernel_rfl
def c82k1 (host to_ s : List UInt8) (port toPort : Int) (rows : List (List AV)) (n : Nat) : Bool := decide (List.length host + 1 ≤ 9223372036854775807)
def c82k2 (host to_ s : List UInt8) (port toPort : Int) (rows : List (List AV)) (n : Nat) : Bool := decide (List.length (spTrimPre s (host ++ [(58 : UInt8)])) ≤ 281474976710656)
def c82k3 (host to_ s : List UInt8) (port toPort : Int) (rows : List (List AV)) (n : Nat) : Bool := !spHasPre s (host ++ [(58 : UInt8)])
theorem c82_FT (host : List UInt8) (to_ : List UInt8) (s : List UInt8) (port : Int) (toPort : Int) (rows : List (List AV)) (n : Nat) :
 Path (runCallB Tryz.prog P2 100 82 [AV.agg [AV.str host, AV.str to_, AV.int IntKind.i64 port, AV.int IntKind.i64 toPort, AV.slq 0 n], AV.str s] (st0 [Blk.cells false [Kd.int IntKind.u16, Kd.int IntKind.u16] rows] ([pF, pT]))) 1 [] (SL.mk [] [] 1) (Out.ret (AV.str s))
 (((((((True ∧ true = true) ∧ c82k0 host to_ s port toPort rows n = false) ∧ true = true) ∧ c82k1 host to_ s port toPort rows n = true) ∧ true = true) ∧ c82k2 host to_ s port toPort rows n = true) ∧ c82k3 host to_ s port toPort rows n = true) := by unfold Path; kernel_rfl
def c82k4 (host to_ s : List UInt8) (port toPort : Int) (rows : List (List AV)) (n : Nat) : Bool := spNumeral (spTrimPre s (host ++ [(58 : UInt8)])) == (0 : Int)
theorem c82_FFT (host : List UInt8) (to_ : List UInt8) (s : List UInt8) (port : Int) (toPort : Int) (rows : List (List AV)) (n : Nat) :
 Path (runCallB Tryz.prog P2 100 82 [AV.agg [AV.str host, AV.str to_, AV.int IntKind.i64 port, AV.int IntKind.i64 toPort, AV.slq 0 n], AV.str s] (st0 [Blk.cells false [Kd.int IntKind.u16, Kd.int IntKind.u16] rows] ([pF, pF, pT]))) 1 [] (SL.mk [] [] 1) (Out.ret (AV.str s))
 ((((((((True ∧ true = true) ∧ c82k0 host to_ s port toPort rows n = false) ∧ true = true) ∧ c82k1 host to_ s port toPort rows n = true) ∧ true = true) ∧ c82k2 host to_ s port toPort rows n = true) ∧ c82k3 host to_ s port toPort rows n = false) ∧ c82k4 host to_ s port toPort rows n = true) := by unfold Path; kernel_rfl
def c82k5 (host to_ s : List UInt8) (port toPort : Int) (rows : List (List AV)) (n : Nat) : Bool := spNumeral (spTrimPre s (host ++ [(58 : UInt8)])) == port
def c82k6 (host to_ s : List UInt8) (port toPort : Int) (rows : List (List AV)) (n : Nat) : Bool := decide (List.length to_ + 1 ≤ 9223372036854775807)
def c82k7 (host to_ s : List UInt8) (port toPort : Int) (rows : List (List AV)) (n : Nat) : Bool := decide (Int.negSucc (9223372036854775807) ≤ toPort ∧ toPort ≤ (9223372036854775807 : Int))
def c82k8 (host to_ s : List UInt8) (port toPort : Int) (rows : List (List AV)) (n : Nat) : Bool := decide (List.length (to_ ++ [(58 : UInt8)]) + List.length (spItoa toPort) ≤ 9223372036854775807)
theorem c82_FFFT (host : List UInt8) (to_ : List UInt8) (s : List UInt8) (port : Int) (toPort : Int) (rows : List (List AV)) (n : Nat) :
 Path (runCallB Tryz.prog P2 100 82 [AV.agg [AV.str host, AV.str to_, AV.int IntKind.i64 port, AV.int IntKind.i64 toPort, AV.slq 0 n], AV.str s] (st0 [Blk.cells false [Kd.int IntKind.u16, Kd.int IntKind.u16] rows] ([pF, pF, pF, pT]))) 1 [] (SL.mk [] [] 1) (Out.ret (AV.str (to_ ++ [(58 : UInt8)] ++ spItoa toPort)))
 (((((((((((((((True ∧ true = true) ∧ c82k0 host to_ s port toPort rows n = false) ∧ true = true) ∧ c82k1 host to_ s port toPort rows n = true) ∧ true = true) ∧ c82k2 host to_ s port toPort rows n = true) ∧ c82k3 host to_ s port toPort rows n = false) ∧ c82k4 host to_ s port toPort rows n = false) ∧ true = true) ∧ c82k5 host to_ s port toPort rows n = true) ∧ true = true) ∧ true = true) ∧ c82k6 host to_ s port toPort rows n = true) ∧ c82k7 host to_ s port toPort rows n = true) ∧ c82k8 host to_ s port toPort rows n = true) := by unfold Path; kernel_rfl
def c82k9 (host to_ s : List UInt8) (port toPort : Int) (rows : List (List AV)) (n : Nat) : Bool := decide (Int.negSucc (9223372036854775807) ≤ spNumeral (spTrimPre s (host ++ [(58 : UInt8)])) ∧ spNumeral (spTrimPre s (host ++ [(58 : UInt8)])) ≤ (9223372036854775807 : Int))
def c82k10 (host to_ s : List UInt8) (port toPort : Int) (rows : List (List AV)) (n : Nat) : Bool := decide (List.length (to_ ++ [(58 : UInt8)]) + List.length (spItoa (spNumeral (spTrimPre s (host ++ [(58 : UInt8)])))) ≤ 9223372036854775807)
theorem c82_FFFF (host : List UInt8) (to_ : List UInt8) (s : List UInt8) (port : Int) (toPort : Int) (rows : List (List AV)) (n : Nat) :
 Path (runCallB Tryz.prog P2 100 82 [AV.agg [AV.str host, AV.str to_, AV.int IntKind.i64 port, AV.int IntKind.i64 toPort, AV.slq 0 n], AV.str s] (st0 [Blk.cells false [Kd.int IntKind.u16, Kd.int IntKind.u16] rows] ([pF, pF, pF, pF]))) 1 [] (SL.mk [] [] 1) (Out.ret (AV.str (to_ ++ [(58 : UInt8)] ++ spItoa (spNumeral (spTrimPre s (host ++ [(58 : UInt8)]))))))
 ((((((((((((((True ∧ true = true) ∧ c82k0 host to_ s port toPort rows n = false) ∧ true = true) ∧ c82k1 host to_ s port toPort rows n = true) ∧ true = true) ∧ c82k2 host to_ s port toPort rows n = true) ∧ c82k3 host to_ s port toPort rows n = false) ∧ c82k4 host to_ s port toPort rows n = false) ∧ true = true) ∧ c82k5 host to_ s port toPort rows n = false) ∧ true = true) ∧ c82k6 host to_ s port toPort rows n = true) ∧ c82k9 host to_ s port toPort rows n = true) ∧ c82k10 host to_ s port toPort rows n = true) := by unfold Path; kernel_rfl
def c82_cls (host to_ s : List UInt8) (port toPort : Int) (rows : List (List AV)) (n : Nat) : Nat := (bif c82k0 host to_ s port toPort rows n then 0 else (bif c82k3 host to_ s port toPort rows n then 1 else (bif c82k4 host to_ s port toPort rows n then 1 else (bif c82k5 host to_ s port toPort rows n then 2 else 3))))
theorem c82_all (host to_ s : List UInt8) (port toPort : Int) (rows : List (List AV)) (n : Nat) : c82_cls host to_ s port toPort rows n = 0 ∨ c82_cls host to_ s port toPort rows n = 1 ∨ c82_cls host to_ s port toPort rows n = 2 ∨ c82_cls host to_ s port toPort rows n = 3 := by
  unfold c82_cls
  cases c82k0 host to_ s port toPort rows n <;> cases c82k3 host to_ s port toPort rows n <;> cases c82k4 host to_ s port toPort rows n <;> cases c82k5 host to_ s port toPort rows n <;> simp
theorem c82_c0 (host to_ s : List UInt8) (port toPort : Int) (rows : List (List AV)) (n : Nat) (h : c82_cls host to_ s port toPort rows n = 0)  : ∃ plan ow, Path (runCallB Tryz.prog P2 100 82 [AV.agg [AV.str host, AV.str to_, AV.int IntKind.i64 port, AV.int IntKind.i64 toPort, AV.slq 0 n], AV.str s] (st0 [Blk.cells false [Kd.int IntKind.u16, Kd.int IntKind.u16] rows] plan)) 1 [] (SL.mk [] [] 1) (Out.ret (AV.str to_)) ow ∧ ow := by
  unfold c82_cls at h
  cases q1 : c82k0 host to_ s port toPort rows n with
  | true =>
    rw [q1, cond_true] at h
    exact ⟨_, _, c82_T host to_ s port toPort rows n, by simp only [q1, eq_self, and_true, true_and]⟩
  | false =>
    rw [q1, cond_false] at h
    cases q2 : c82k3 host to_ s port toPort rows n with
    | true =>
      rw [q2, cond_true] at h
      exact absurd h (by decide)
    | false =>
      rw [q2, cond_false] at h
      cases q3 : c82k4 host to_ s port toPort rows n with
      | true =>
        rw [q3, cond_true] at h
        exact absurd h (by decide)
      | false =>
        rw [q3, cond_false] at h
        cases q4 : c82k5 host to_ s port toPort rows n with
        | true =>
          rw [q4, cond_true] at h
          exact absurd h (by decide)
        | false =>
          rw [q4, cond_false] at h
          exact absurd h (by decide)
theorem c82_c1 (host to_ s : List UInt8) (port toPort : Int) (rows : List (List AV)) (n : Nat) (h : c82_cls host to_ s port toPort rows n = 1) (m0 : c82k0 host to_ s port toPort rows n = false → c82k1 host to_ s port toPort rows n = true) (m1 : c82k0 host to_ s port toPort rows n = false → c82k2 host to_ s port toPort rows n = true) : ∃ plan ow, Path (runCallB Tryz.prog P2 100 82 [AV.agg [AV.str host, AV.str to_, AV.int IntKind.i64 port, AV.int IntKind.i64 toPort, AV.slq 0 n], AV.str s] (st0 [Blk.cells false [Kd.int IntKind.u16, Kd.int IntKind.u16] rows] plan)) 1 [] (SL.mk [] [] 1) (Out.ret (AV.str s)) ow ∧ ow := by
  unfold c82_cls at h
  cases q1 : c82k0 host to_ s port toPort rows n with
  | true =>
    rw [q1, cond_true] at h
    exact absurd h (by decide)
  | false =>
    rw [q1, cond_false] at h
    cases q2 : c82k3 host to_ s port toPort rows n with
    | true =>
      rw [q2, cond_true] at h
      exact ⟨_, _, c82_FT host to_ s port toPort rows n, by simp only [q1, q2, (m0 q1), (m1 q1), eq_self, and_true, true_and]⟩
    | false =>
      rw [q2, cond_false] at h
      cases q3 : c82k4 host to_ s port toPort rows n with
      | true =>
        rw [q3, cond_true] at h
        exact ⟨_, _, c82_FFT host to_ s port toPort rows n, by simp only [q1, q2, q3, (m0 q1), (m1 q1), eq_self, and_true, true_and]⟩
      | false =>
        rw [q3, cond_false] at h
        cases q4 : c82k5 host to_ s port toPort rows n with
        | true =>
          rw [q4, cond_true] at h
          exact absurd h (by decide)
        | false =>
          rw [q4, cond_false] at h
          exact absurd h (by decide)
theorem c82_c2 (host to_ s : List UInt8) (port toPort : Int) (rows : List (List AV)) (n : Nat) (h : c82_cls host to_ s port toPort rows n = 2) (m0 : c82k0 host to_ s port toPort rows n = false → c82k1 host to_ s port toPort rows n = true) (m1 : c82k0 host to_ s port toPort rows n = false → c82k2 host to_ s port toPort rows n = true) (m2 : c82k0 host to_ s port toPort rows n = false → c82k3 host to_ s port toPort rows n = false → c82k4 host to_ s port toPort rows n = false → c82k5 host to_ s port toPort rows n = true → c82k6 host to_ s port toPort rows n = true) (m3 : c82k0 host to_ s port toPort rows n = false → c82k3 host to_ s port toPort rows n = false → c82k4 host to_ s port toPort rows n = false → c82k5 host to_ s port toPort rows n = true → c82k7 host to_ s port toPort rows n = true) (m4 : c82k0 host to_ s port toPort rows n = false → c82k3 host to_ s port toPort rows n = false → c82k4 host to_ s port toPort rows n = false → c82k5 host to_ s port toPort rows n = true → c82k8 host to_ s port toPort rows n = true) : ∃ plan ow, Path (runCallB Tryz.prog P2 100 82 [AV.agg [AV.str host, AV.str to_, AV.int IntKind.i64 port, AV.int IntKind.i64 toPort, AV.slq 0 n], AV.str s] (st0 [Blk.cells false [Kd.int IntKind.u16, Kd.int IntKind.u16] rows] plan)) 1 [] (SL.mk [] [] 1) (Out.ret (AV.str (to_ ++ [(58 : UInt8)] ++ spItoa toPort))) ow ∧ ow := by
  unfold c82_cls at h
  cases q1 : c82k0 host to_ s port toPort rows n with
  | true =>
    rw [q1, cond_true] at h
    exact absurd h (by decide)
  | false =>
    rw [q1, cond_false] at h
    cases q2 : c82k3 host to_ s port toPort rows n with
    | true =>
      rw [q2, cond_true] at h
      exact absurd h (by decide)
    | false =>
      rw [q2, cond_false] at h
      cases q3 : c82k4 host to_ s port toPort rows n with
      | true =>
        rw [q3, cond_true] at h
        exact absurd h (by decide)
      | false =>
        rw [q3, cond_false] at h
        cases q4 : c82k5 host to_ s port toPort rows n with
        | true =>
          rw [q4, cond_true] at h
          exact ⟨_, _, c82_FFFT host to_ s port toPort rows n, by simp only [q1, q2, q3, q4, (m0 q1), (m1 q1), (m2 q1 q2 q3 q4), (m3 q1 q2 q3 q4), (m4 q1 q2 q3 q4), eq_self, and_true, true_and]⟩
        | false =>
          rw [q4, cond_false] at h
          exact absurd h (by decide)
theorem c82_c3 (host to_ s : List UInt8) (port toPort : Int) (rows : List (List AV)) (n : Nat) (h : c82_cls host to_ s port toPort rows n = 3) (m0 : c82k0 host to_ s port toPort rows n = false → c82k1 host to_ s port toPort rows n = true) (m1 : c82k0 host to_ s port toPort rows n = false → c82k2 host to_ s port toPort rows n = true) (m2 : c82k0 host to_ s port toPort rows n = false → c82k3 host to_ s port toPort rows n = false → c82k4 host to_ s port toPort rows n = false → c82k5 host to_ s port toPort rows n = false → c82k6 host to_ s port toPort rows n = true) (m3 : c82k0 host to_ s port toPort rows n = false → c82k3 host to_ s port toPort rows n = false → c82k4 host to_ s port toPort rows n = false → c82k5 host to_ s port toPort rows n = false → c82k9 host to_ s port toPort rows n = true) (m4 : c82k0 host to_ s port toPort rows n = false → c82k3 host to_ s port toPort rows n = false → c82k4 host to_ s port toPort rows n = false → c82k5 host to_ s port toPort rows n = false → c82k10 host to_ s port toPort rows n = true) : ∃ plan ow, Path (runCallB Tryz.prog P2 100 82 [AV.agg [AV.str host, AV.str to_, AV.int IntKind.i64 port, AV.int IntKind.i64 toPort, AV.slq 0 n], AV.str s] (st0 [Blk.cells false [Kd.int IntKind.u16, Kd.int IntKind.u16] rows] plan)) 1 [] (SL.mk [] [] 1) (Out.ret (AV.str (to_ ++ [(58 : UInt8)] ++ spItoa (spNumeral (spTrimPre s (host ++ [(58 : UInt8)])))))) ow ∧ ow := by
  unfold c82_cls at h
  cases q1 : c82k0 host to_ s port toPort rows n with
  | true =>
    rw [q1, cond_true] at h
    exact absurd h (by decide)
  | false =>
    rw [q1, cond_false] at h
    cases q2 : c82k3 host to_ s port toPort rows n with
    | true =>
      rw [q2, cond_true] at h
      exact absurd h (by decide)
    | false =>
      rw [q2, cond_false] at h
      cases q3 : c82k4 host to_ s port toPort rows n with
      | true =>
        rw [q3, cond_true] at h
        exact absurd h (by decide)
      | false =>
        rw [q3, cond_false] at h
        cases q4 : c82k5 host to_ s port toPort rows n with
        | true =>
          rw [q4, cond_true] at h
          exact absurd h (by decide)
        | false =>
          rw [q4, cond_false] at h
          exact ⟨_, _, c82_FFFF host to_ s port toPort rows n, by simp only [q1, q2, q3, q4, (m0 q1), (m1 q1), (m2 q1 q2 q3 q4), (m3 q1 q2 q3 q4), (m4 q1 q2 q3 q4), eq_self, and_true, true_and]⟩
def spPlace (host to_ s : List UInt8) (port toPort : Int) : List UInt8 :=
  bif s == host then to_ else bif !spHasPre s (host ++ [58]) then s else bif spNumeral (spTrimPre s (host ++ [58])) == 0 then s else
    bif spNumeral (spTrimPre s (host ++ [58])) == port then to_ ++ [58] ++ spItoa toPort else to_ ++ [58] ++ spItoa (spNumeral (spTrimPre s (host ++ [58])))
theorem place_cls (host to_ s : List UInt8) (port toPort : Int) (rows : List (List AV)) (n : Nat) :
    spPlace host to_ s port toPort = match c82_cls host to_ s port toPort rows n with
      | 0 => to_ | 1 => s | 2 => to_ ++ [58] ++ spItoa toPort | _ => to_ ++ [58] ++ spItoa (spNumeral (spTrimPre s (host ++ [58]))) := by
  unfold spPlace c82_cls c82k0 c82k3 c82k4 c82k5
  cases (s == host) <;> cases (!spHasPre s (host ++ [58])) <;> cases (spNumeral (spTrimPre s (host ++ [58])) == 0) <;> cases (spNumeral (spTrimPre s (host ++ [58])) == port) <;> rfl
theorem c82_calls (host to_ s : List UInt8) (port toPort : Int) (rows : List (List AV)) (n : Nat) {ρ : Nat → BI} {w : World} (hE : HSim ρ (addBlks .e 0 [.cells false [.int .u16, .int .u16] rows]) ([.cells false [.int .u16, .int .u16] rows] : List Blk).length w) (hlen : s.length ≤ 140737488355328 ∧ host.length ≤ 140737488355328 ∧ to_.length ≤ 140737488355328 ∧ -9223372036854775808 ≤ toPort ∧ toPort ≤ 9223372036854775807) :
    Calls Tryz.prog 82 (concL ρ [AV.agg [.str host, .str to_, .int .i64 port, .int .i64 toPort, .slq 0 n], .str s]).toArray w (fun e w' => e = .returned (conc ρ (AV.str (spPlace host to_ s port toPort))) ∧ Ext w w') := by
  rcases c82_all host to_ s port toPort rows n with hcl | hcl | hcl | hcl
  · obtain ⟨plan, ow, hp, ho⟩ : ∃ plan ow, Path (runCallB Tryz.prog P2 100 82 [AV.agg [AV.str host, AV.str to_, AV.int IntKind.i64 port, AV.int IntKind.i64 toPort, AV.slq 0 n], AV.str s] (st0 [Blk.cells false [Kd.int IntKind.u16, Kd.int IntKind.u16] rows] plan)) 1 [] (SL.mk [] [] 1) (Out.ret (AV.str to_)) ow ∧ ow := by
      apply c82_c0 host to_ s port toPort rows n hcl
      all_goals (intros; simp only [c82k0, c82k1, c82k2, c82k3, c82k4, c82k5, c82k6, c82k7, c82k8, c82k9, c82k10] at *; have l1 := len_pre s (host ++ [58]); have l2 := numeral_range (spTrimPre s (host ++ [58])); have l3 := len_itoa toPort hlen.2.2.2; have l4 := len_itoa (spNumeral (spTrimPre s (host ++ [58]))) (by omega); simp only [decide_eq_true_eq, List.length_cons, List.length_append, List.length_nil, and_true, eq_self]; omega)
    simp only [place_cls host to_ s port toPort rows n, hcl]
    exact calls_pureB P2_ok hp ho hE rfl rfl rfl
  · obtain ⟨plan, ow, hp, ho⟩ : ∃ plan ow, Path (runCallB Tryz.prog P2 100 82 [AV.agg [AV.str host, AV.str to_, AV.int IntKind.i64 port, AV.int IntKind.i64 toPort, AV.slq 0 n], AV.str s] (st0 [Blk.cells false [Kd.int IntKind.u16, Kd.int IntKind.u16] rows] plan)) 1 [] (SL.mk [] [] 1) (Out.ret (AV.str s)) ow ∧ ow := by
      apply c82_c1 host to_ s port toPort rows n hcl
      all_goals (intros; simp only [c82k0, c82k1, c82k2, c82k3, c82k4, c82k5, c82k6, c82k7, c82k8, c82k9, c82k10] at *; have l1 := len_pre s (host ++ [58]); have l2 := numeral_range (spTrimPre s (host ++ [58])); have l3 := len_itoa toPort hlen.2.2.2; have l4 := len_itoa (spNumeral (spTrimPre s (host ++ [58]))) (by omega); simp only [decide_eq_true_eq, List.length_cons, List.length_append, List.length_nil, and_true, eq_self]; omega)
    simp only [place_cls host to_ s port toPort rows n, hcl]
    exact calls_pureB P2_ok hp ho hE rfl rfl rfl
  · obtain ⟨plan, ow, hp, ho⟩ : ∃ plan ow, Path (runCallB Tryz.prog P2 100 82 [AV.agg [AV.str host, AV.str to_, AV.int IntKind.i64 port, AV.int IntKind.i64 toPort, AV.slq 0 n], AV.str s] (st0 [Blk.cells false [Kd.int IntKind.u16, Kd.int IntKind.u16] rows] plan)) 1 [] (SL.mk [] [] 1) (Out.ret (AV.str (to_ ++ [(58 : UInt8)] ++ spItoa toPort))) ow ∧ ow := by
      apply c82_c2 host to_ s port toPort rows n hcl
      all_goals (intros; simp only [c82k0, c82k1, c82k2, c82k3, c82k4, c82k5, c82k6, c82k7, c82k8, c82k9, c82k10] at *; have l1 := len_pre s (host ++ [58]); have l2 := numeral_range (spTrimPre s (host ++ [58])); have l3 := len_itoa toPort hlen.2.2.2; have l4 := len_itoa (spNumeral (spTrimPre s (host ++ [58]))) (by omega); simp only [decide_eq_true_eq, List.length_cons, List.length_append, List.length_nil, and_true, eq_self]; omega)
    simp only [place_cls host to_ s port toPort rows n, hcl]
    exact calls_pureB P2_ok hp ho hE rfl rfl rfl
  · obtain ⟨plan, ow, hp, ho⟩ : ∃ plan ow, Path (runCallB Tryz.prog P2 100 82 [AV.agg [AV.str host, AV.str to_, AV.int IntKind.i64 port, AV.int IntKind.i64 toPort, AV.slq 0 n], AV.str s] (st0 [Blk.cells false [Kd.int IntKind.u16, Kd.int IntKind.u16] rows] plan)) 1 [] (SL.mk [] [] 1) (Out.ret (AV.str (to_ ++ [(58 : UInt8)] ++ spItoa (spNumeral (spTrimPre s (host ++ [(58 : UInt8)])))))) ow ∧ ow := by
      apply c82_c3 host to_ s port toPort rows n hcl
      all_goals (intros; simp only [c82k0, c82k1, c82k2, c82k3, c82k4, c82k5, c82k6, c82k7, c82k8, c82k9, c82k10] at *; have l1 := len_pre s (host ++ [58]); have l2 := numeral_range (spTrimPre s (host ++ [58])); have l3 := len_itoa toPort hlen.2.2.2; have l4 := len_itoa (spNumeral (spTrimPre s (host ++ [58]))) (by omega); simp only [decide_eq_true_eq, List.length_cons, List.length_append, List.length_nil, and_true, eq_self]; omega)
    simp only [place_cls host to_ s port toPort rows n, hcl]
    exact calls_pureB P2_ok hp ho hE rfl rfl rfl
def q82 : Entry := fun args hp nx => match args with
  | [.agg [.str host, .str to_, .int .i64 port, .int .i64 toPort, lv], .str s] => match slIn hp [.int .u16, .int .u16] lv with
    | some (c, _) => some (c && decide (s.length ≤ 140737488355328 ∧ host.length ≤ 140737488355328 ∧ to_.length ≤ 140737488355328 ∧ -9223372036854775808 ≤ toPort ∧ toPort ≤ 9223372036854775807), .str (spPlace host to_ s port toPort), [])
    | none => none
  | _ => none
theorem q82_ok : EntryOK Tryz.prog 82 q82 := by
  intro args hp nx c v bs h hc ρ w hs hi
  unfold q82 at h
  split at h
  · rename_i host to_ port toPort lv s
    split at h
    · rename_i c0 rows hsl
      cases h
      simp only [Bool.and_eq_true] at hc
      have hlen := of_decide_eq_true hc.2
      have hr := slIn_spec hs hsl hc.1 rfl
      obtain ⟨bi, hbi⟩ := hr.bi hs.gw rfl
      have hb := hbi (fun _ => bi) 0 rfl
      have hE : HSim (fun _ => bi) (addBlks .e 0 [.cells false [.int .u16, .int .u16] rows]) ([.cells false [.int .u16, .int .u16] rows] : List Blk).length w :=
        HSim.ins hs.gw (fun i blk hi => by
          cases i with
          | zero => simp at hi; subst hi; exact ⟨hb.2, rfl, rfl⟩
          | succ i => simp at hi)
      refine entry_pure hs rfl ?_
      have hcall := c82_calls host to_ s port toPort rows rows.length hE hlen
      simp only [concL, conc] at hcall ⊢
      have hv : conc (fun _ => bi) (.slq 0 rows.length) = conc ρ lv := hb.1
      simp only [conc] at hv
      rw [hv] at hcall
      exact hcall
    · cases h
  · cases h
end Go.Proofs.YtpdgmgkkbbndfaaGreatDoor

namespace Go.Proofs.YtpdgmgkkbbndfaaGreatDoor.SX
open Go
inductive ReadsN (n0 : Nat) (w : World) (ks : List Kd) (rows : List (List AV)) : Value → Prop
  | nil (h : rows = []) : ReadsN n0 w ks rows (.slice none 0 0)
  | cells (bi : BI) (c : Nat) (hn : n0 ≤ bi.blk) (h : (Blk.cells false ks rows).sat (fun _ => bi) w 0) : ReadsN n0 w ks rows (.slice (some ⟨bi.blk, bi.off, none⟩) rows.length c)
theorem ReadsN.bi {n0 : Nat} {w : World} {ks : List Kd} {rows : List (List AV)} {v : Value} (gw : GW w) (hk : noAny ks = true) (h : ReadsN n0 w ks rows v) :
    ∃ bi : BI, (n0 ≤ bi.blk ∨ bi.blk < NG) ∧ ∀ (ρ : Nat → BI) (b : Nat), ρ b = bi → conc ρ (.slq b rows.length) = v ∧ (Blk.cells false ks rows).sat ρ w b := by
  cases h with
  | nil h =>
    refine ⟨⟨1, 0, ks.length, 0, true⟩, .inr (show 1 < NG by decide), fun ρ b hb => ?_⟩
    subst h
    have h1 : 1 < w.heap.size := Nat.lt_of_lt_of_le (by decide) gw.size
    obtain ⟨m, t, fr, ho⟩ := gw.at' 1 _ (by decide) (Array.getElem?_eq_getElem h1)
    refine ⟨by simp [conc, hb], by rw [hb], _, t, fr, by rw [hb]; exact (Array.getElem?_eq_getElem h1).trans (congrArg some ho), fun i j kd hi => by simp at hi, fun h => by cases h⟩
  | cells bi c hn h =>
    refine ⟨⟨bi.blk, bi.off, bi.sz, c, false⟩, .inl hn, fun ρ b hb => ⟨by simp [conc, hb], ?_⟩⟩
    obtain ⟨h0, cs, t, fr, h1, h2, h3⟩ := h
    refine ⟨by rw [hb]; exact h0, cs, t, fr, by rw [hb]; exact h1, fun i j kd hi hj => ?_, fun h => by cases h⟩
    have h4 := h2 i j kd hi hj
    rw [hb, h4]
    have hna : kd.isAny = false := by
      cases h : kd.isAny with
      | false => rfl
      | true => simp only [noAny, Bool.not_eq_true', List.any_eq_false] at hk; exact absurd h (hk kd (List.mem_of_getElem? hj))
    unfold cellAt
    cases kd with
    | any => cases hna
    | _ => rfl
theorem ReadsN.of_step {ρ ρ' : Nat → BI} {hp hp' : Tr Blk} {nx nx' : Nat} {w w' : World} (st : HStep ρ hp nx w ρ' hp' nx' w') {b n : Nat} {rw : Bool} {ks : List Kd} {rows : List (List AV)} {c : Cap} (hb : hp'.get b = some (.cells rw ks rows))
    (hro : ∀ c k, hp.get c = some k → k.isRw = false) (hrw : rw = true) (hk : noAny ks = true) (hn : n = rows.length) (hz : (ρ' b).off = 0) : ReadsN w.heap.size w' ks rows (conc ρ' (.sl ⟨b, 0, 0⟩ n c)) := by
  subst hn
  have hsat := st.sim.sat _ _ hb
  have := ReadsN.cells (n0 := w.heap.size) (ks := ks) (rows := rows) (w := w') (ρ' b) (capOf ρ' ⟨b, 0, 0⟩ c) ?_ (Blk.sat_at (ρ := ρ') (b := b) hk rfl (Blk.ro hsat))
  · simpa [conc, addr, hz] using this
  · rcases st.new b _ hb with (h | ⟨h, _⟩) | ⟨b0, k0, h0, hr, _⟩
    · exact h
    · rw [show (Blk.cells rw ks rows).isRw = rw from rfl, hrw] at h; cases h
    · have := hr (by rw [show (Blk.cells rw ks rows).isRw = rw from rfl]; exact hrw)
      rw [hro _ _ h0] at this; cases this
def extB (ρ : Nat → BI) (nx : Nat) (bis : List BI) : Nat → BI := fun b => if b < nx then ρ b else bis.getD (b - nx) ⟨0, 0, 0, 0, false⟩
theorem extB_new (ρ : Nat → BI) (nx : Nat) (bis : List BI) (i : Nat) : extB ρ nx bis (nx + i) = bis.getD i ⟨0, 0, 0, 0, false⟩ := by
  unfold extB; rw [if_neg (by omega), show nx + i - nx = i by omega]
theorem extB_agree (ρ : Nat → BI) (nx : Nat) (bis : List BI) : Agree nx ρ (extB ρ nx bis) := fun b hb => by unfold extB; rw [if_pos hb]
theorem HStep.bis {ρ : Nat → BI} {hp : Tr Blk} {nx : Nat} {w w' : World} {bs : List Blk} (bis : List BI) (h : HSim ρ hp nx w) (e : Ext w w')
    (hb : ∀ (i : Nat) (blk : Blk), bs[i]? = some blk → blk.isRw = false ∧ (w.heap.size ≤ (bis.getD i ⟨0, 0, 0, 0, false⟩).blk ∨ (bis.getD i ⟨0, 0, 0, 0, false⟩).blk < NG) ∧ blk.idsB 0 = true ∧ ∀ ρ' b, ρ' b = bis.getD i ⟨0, 0, 0, 0, false⟩ → blk.sat ρ' w' b) :
    HStep ρ hp nx w (extB ρ nx bis) (addBlks hp nx bs) (nx + bs.length) w' := by
  refine HStep.fresh h e (extB_agree _ _ _) (fun i blk hi => ?_) (fun i j ki kj hi hj hne hr => ?_)
  · obtain ⟨h1, h2, h3, h4⟩ := hb i blk hi
    refine ⟨h4 _ _ (extB_new _ _ _ i), ?_, Blk.idsB_mono (Nat.zero_le _) h3⟩
    rw [extB_new]
    exact h2.imp id fun h => ⟨h1, h⟩
  · rw [(hb i ki hi).1, (hb j kj hj).1] at hr
    rcases hr with hr | hr <;> cases hr
theorem bs1 {bs1 : Blk} {i : Nat} {blk : Blk} (h : [bs1][i]? = some blk) : i = 0 ∧ blk = bs1 := by
  cases i with
  | zero => exact ⟨rfl, by simpa using h.symm⟩
  | succ i => simp at h
theorem entry_slq {P : Program} {f : Nat} {vs : Array Value} {ρ : Nat → BI} {hp : Tr Blk} {nx : Nat} {w : World} {ks : List Kd} {rows : List (List AV)} {n : Nat} (hs : HSim ρ hp nx w) (hn : n = rows.length) (hk : noAny ks = true)
    (h : Calls P f vs w (fun e w' => (∃ v, e = .returned v ∧ ReadsN w.heap.size w' ks rows v) ∧ Ext w w')) :
    Calls P f vs w (fun e w' => ∃ ρ', e = .returned (conc ρ' (.slq nx n)) ∧ (AV.slq nx n).idsB (nx + [Blk.cells false ks rows].length) = true ∧ HStep ρ hp nx w ρ' (addBlks hp nx [.cells false ks rows]) (nx + [Blk.cells false ks rows].length) w') := by
  subst hn
  refine h.mono fun e w' hq => ?_
  obtain ⟨⟨v, rfl, hr⟩, he⟩ := hq
  obtain ⟨bi, hbn, hbi⟩ := hr.bi (hs.gw.ext he) hk
  have st := HStep.bis (bs := [.cells false ks rows]) [bi] hs he (fun i blk hi => by
    obtain ⟨rfl, rfl⟩ := bs1 hi
    refine ⟨rfl, hbn, ?_, fun ρ' b hb => (hbi ρ' b hb).2⟩
    have : ks.any Kd.isAny = false := by simpa [noAny] using hk
    simp [Blk.idsB, this])
  refine ⟨_, ?_, by simp [AV.idsB, blt_iff], st⟩
  rw [(hbi (extB ρ nx [bi]) nx (by have := extB_new ρ nx [bi] 0; simpa using this)).1]
end Go.Proofs.YtpdgmgkkbbndfaaGreatDoor.SX

