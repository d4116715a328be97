/- Part 6 of the proof: texts that the last one builds upon. Conditions: as each theorem says. -/
import Derived.Test.YtpdgmgkkbbndfaaGreatDoorB4
set_option maxRecDepth 100000
set_option linter.unusedVariables false
set_option linter.unusedSimpArgs false
namespace Go.Proofs.YtpdgmgkkbbndfaaGreatDoor
open Go Go.Proofs Go.Proofs.YtpdgmgkkbbndfaaGreatDoor.SX
theorem index_ge (s t : List UInt8) : Lib.index s t = -1 ∨ 0 ≤ Lib.index s t := by
  rcases Lib.index_spec s t with ⟨h, _⟩ | ⟨i, h, _⟩
  · exact .inl h
  · exact .inr (by rw [h]; omega)
theorem cut_skip {b : UInt8} {s t : List UInt8} (h : t.isPrefixOf (b :: s) = false) :
    spFound (b :: s) t = spFound s t ∧ spBefore (b :: s) t = b :: spBefore s t ∧ spAfter (b :: s) t = spAfter s t := by
  unfold spFound spBefore spAfter Lib.cut
  have e : Lib.index (b :: s) t = if Lib.index s t == -1 then -1 else Lib.index s t + 1 := by
    rw [Lib.index, h]; rfl
  rw [e]
  rcases index_ge s t with h1 | h1
  · rw [h1]; exact ⟨rfl, rfl, rfl⟩
  · have h2 : (Lib.index s t == -1) = false := by rw [beq_eq_false_iff_ne]; omega
    have e2 : (if (Lib.index s t == -1) = true then -1 else Lib.index s t + 1) = Lib.index s t + 1 := by rw [h2]; rfl
    rw [e2, if_pos h1, if_pos (show 0 ≤ Lib.index s t + 1 by omega)]
    have h3 : (Lib.index s t + 1).toNat = (Lib.index s t).toNat + 1 := by omega
    rw [h3]
    refine ⟨rfl, rfl, ?_⟩
    show List.drop ((Lib.index s t).toNat + 1 + t.length) (b :: s) = _
    rw [show (Lib.index s t).toNat + 1 + t.length = ((Lib.index s t).toNat + t.length) + 1 by omega]
    rfl
theorem cut_hit {s t : List UInt8} (ht : t ≠ []) (h : t.isPrefixOf s = true) : spFound s t = true ∧ spBefore s t = [] ∧ spAfter s t = s.drop t.length := by
  have e : Lib.index s t = 0 := by
    cases s with
    | nil => cases t with
      | nil => exact absurd rfl ht
      | cons a t => simp at h
    | cons b s => rw [Lib.index, if_pos h]
  unfold spFound spBefore spAfter Lib.cut
  rw [e]
  refine ⟨rfl, rfl, ?_⟩
  show List.drop (Int.toNat 0 + t.length) s = _
  rw [Int.toNat_zero, Nat.zero_add]
theorem pre_no {a b : UInt8} {s t : List UInt8} (h : b ≠ a) : (a :: t).isPrefixOf (b :: s) = false := by
  rw [List.isPrefixOf]
  have : (a == b) = false := by rw [beq_eq_false_iff_ne]; exact fun h' => h h'.symm
  rw [this, Bool.false_and]
theorem cut_over {a : UInt8} {t s : List UInt8} : ∀ {l : List UInt8}, (∀ c ∈ l, c ≠ a) →
    spFound (l ++ s) (a :: t) = spFound s (a :: t) ∧ spBefore (l ++ s) (a :: t) = l ++ spBefore s (a :: t) ∧ spAfter (l ++ s) (a :: t) = spAfter s (a :: t)
  | [], _ => ⟨rfl, rfl, rfl⟩
  | b :: l, h => by
    obtain ⟨i1, i2, i3⟩ := cut_over (s := s) (t := t) (fun c hc => h c (List.mem_cons_of_mem b hc))
    obtain ⟨j1, j2, j3⟩ := cut_skip (s := l ++ s) (pre_no (s := l ++ s) (t := t) (h b (List.mem_cons_self ..)))
    exact ⟨j1.trans i1, j2.trans (by rw [i2]; rfl), j3.trans i3⟩
theorem cut_nil (a : UInt8) (t : List UInt8) : spFound [] (a :: t) = false ∧ spBefore [] (a :: t) = [] ∧ spAfter [] (a :: t) = [] := ⟨rfl, rfl, rfl⟩
theorem cut_back {s t : List UInt8} (h : spFound s t = true) : s = spBefore s t ++ (t ++ spAfter s t) := by
  unfold spFound spBefore spAfter Lib.cut at *
  rcases Lib.index_spec s t with ⟨h1, _⟩ | ⟨i, h1, h2, h3, _⟩
  · rw [h1] at h; simp at h
  · rw [h1, if_pos (show 0 ≤ (i : Int) by omega), Int.toNat_natCast]
    unfold Lib.occAt at h3
    rw [List.isPrefixOf_iff_prefix] at h3
    obtain ⟨r, hr⟩ := h3
    show s = s.take i ++ (t ++ s.drop (i + t.length))
    rw [← List.drop_drop, ← hr, List.drop_left', hr, List.take_append_drop]
    rfl
def joinLn (l : List (List UInt8)) : List UInt8 := (l.map fun x => x ++ crlf).flatten
theorem split_join : ∀ (n : Nat) (s : List UInt8), s.length < n → joinLn ((spLinesF n s).map Prod.fst) = s ++ crlf
  | 0, _, h => absurd h (Nat.not_lt_zero _)
  | n + 1, s, h => by
    unfold spLinesF
    cases hf : spFound s [13, 10] with
    | false =>
      rw [cond_false, cut_none hf]
      simp [joinLn]
    | true =>
      rw [cond_true]
      have hb := cut_back hf
      have hl := congrArg List.length hb
      simp only [List.length_append, List.length_cons, List.length_nil] at hl
      have ih := split_join n (spAfter s [13, 10]) (by omega)
      have e : joinLn (((spBefore s [13, 10], ([13, 10] : List UInt8)) :: spLinesF n (spAfter s [13, 10])).map Prod.fst) = spBefore s [13, 10] ++ crlf ++ joinLn ((spLinesF n (spAfter s [13, 10])).map Prod.fst) := by
        simp [joinLn]
      rw [e, ih]
      conv => rhs; rw [hb]
      simp [crlf]
theorem splitJ (s : List UInt8) : joinLn (spSplit s) = s ++ crlf := split_join _ s (Nat.lt_succ_self _)
theorem hrow_text : ∀ {l : List (List UInt8)}, l.all hasColon = true → hdrText (l.map hrow) = joinLn l
  | [], _ => rfl
  | x :: l, h => by
    rw [List.all_cons, Bool.and_eq_true] at h
    have ih := hrow_text h.2
    unfold hdrText at ih ⊢
    rw [List.map_cons, List.map_cons, List.flatten_cons, ih]
    have hx := cut_back h.1
    unfold joinLn
    rw [List.map_cons, List.flatten_cons]
    congr 1
    conv => rhs; rw [hx]
    simp [hdrLine, hrow, hN, hV, AV.toStr, crlf, colon]
theorem build_parse {s : List UInt8} (h : spPOk s = true) : spPStart s ++ [13, 10] ++ hdrText (spPRows s) ++ [13, 10] ++ spPBody s = s := by
  unfold spPOk at h
  simp only [Bool.and_eq_true] at h
  obtain ⟨_, hf, hc, _⟩ := h
  have h1 := cut_back hf
  have h2 := splitJ (spBefore s c4)
  have hp := split_pos (spBefore s c4)
  have h3 : joinLn (spPLines s) = spPStart s ++ crlf ++ joinLn (spPHdrs s) := by
    unfold spPStart spPHdrs
    have hp' : 0 < (spPLines s).length := hp
    cases hl : spPLines s with
    | nil => rw [hl] at hp'; exact absurd hp' (by decide)
    | cons x l => simp [joinLn]
  unfold spPRows
  rw [hrow_text hc]
  have h4 : spPStart s ++ crlf ++ joinLn (spPHdrs s) = spBefore s c4 ++ crlf := h3.symm.trans h2
  have h5 : spPStart s ++ [13, 10] ++ joinLn (spPHdrs s) = spBefore s c4 ++ [13, 10] := h4
  rw [h5]
  conv => rhs; rw [h1]
  simp [c4, spPBody]
theorem row_bytes_map (l : List UInt8) : (byteRows l).map rowByte = l := by
  unfold byteRows
  rw [List.map_map]
  conv => rhs; rw [← List.map_id l]
  refine List.map_congr_left fun c _ => ?_
  simp [rowByte, byteRow, AV.toInt]
theorem parse_err {s : List UInt8} : (spPErr s = 0) ↔ spPOk s = true := by
  unfold spPErr
  cases spPOk s
  · rw [cond_false]
    cases decide (s.length ≤ 4096) <;> simp
  · simp
theorem back2 {s : List UInt8} (h : spPOk s = true) : spBuildE (spPS s) (spPH s) (spPB s) = 0 ∧ (spBuildB (spPS s) (spPH s) (spPB s)).map rowByte = s := by
  have hr : spRight (spPStart s) (spPRows s) (spPBody s).length = true := by
    unfold spPOk at h
    simp only [Bool.and_eq_true] at h
    exact h.2.2.2
  unfold spBuildE spBuildB spPS spPH spPB
  rw [h, cond_true, cond_true, cond_true, byteRows_length, hr]
  refine ⟨rfl, ?_⟩
  rw [cond_true, List.map_append, row_bytes_map, row_bytes_map]
  exact build_parse h
def hdLine (r : List AV) : List UInt8 := hN r ++ colon ++ hV r
def hd (rows : List (List AV)) : List UInt8 := (rows.map fun r => crlf ++ hdLine r).flatten
structure GoodR (r : List AV) : Prop where
  ne : hN r ≠ []
  n13 : ∀ c ∈ hN r, c ≠ 13
  n58 : ∀ c ∈ hN r, c ≠ 58
  v13 : ∀ c ∈ hV r, c ≠ 13
theorem nameC_ok {c : UInt8} (h : nameC c = true) : c ≠ 13 ∧ c ≠ 58 := by
  refine ⟨fun e => ?_, fun e => ?_⟩ <;> · subst e; exact absurd h (by decide)
theorem plain13 {s : List UInt8} (h : spBroken s = false) : ∀ c ∈ s, c ≠ 13 := by
  intro c hc e
  subst e
  unfold spBroken at h
  rw [List.any_eq_false] at h
  exact h _ hc (by decide)
theorem goodRow {bn : Nat} {r : List AV} (h : okHdr bn r = true) : GoodR r := by
  unfold okHdr at h
  simp only [Bool.and_eq_true] at h
  obtain ⟨h1, h2, _⟩ := h
  unfold spIsName at h1
  rw [Bool.and_eq_true] at h1
  obtain ⟨h1, h3⟩ := h1
  rw [List.all_eq_true] at h1
  refine ⟨fun e => by rw [e] at h3; exact absurd h3 (by decide), fun c hc => (nameC_ok (h1 c hc)).1, fun c hc => (nameC_ok (h1 c hc)).2, plain13 ?_⟩
  cases hb : spBroken (hV r) with
  | false => rfl
  | true => rw [hb] at h2; cases h2
theorem line13 {r : List AV} (h : GoodR r) : ∀ c ∈ hdLine r, c ≠ 13 := by
  intro c hc
  unfold hdLine at hc
  rw [List.mem_append, List.mem_append] at hc
  rcases hc with (hc | hc) | hc
  · exact h.n13 c hc
  · simp [colon] at hc; rcases hc with rfl | rfl <;> decide
  · exact h.v13 c hc
theorem cut_hdrs {body : List UInt8} : ∀ {rows : List (List AV)}, (∀ r ∈ rows, GoodR r) →
    spFound (crlf ++ (hdrText rows ++ (crlf ++ body))) c4 = true ∧ spBefore (crlf ++ (hdrText rows ++ (crlf ++ body))) c4 = hd rows ∧ spAfter (crlf ++ (hdrText rows ++ (crlf ++ body))) c4 = body
  | [], _ => by
    have h := cut_hit (s := crlf ++ (crlf ++ body)) (t := c4) (by decide) (by simp [crlf, c4])
    exact ⟨h.1, h.2.1, h.2.2⟩
  | r :: rows, h => by
    have hg := h r (List.mem_cons_self ..)
    obtain ⟨i1, i2, i3⟩ := cut_hdrs (body := body) (rows := rows) (fun x hx => h x (List.mem_cons_of_mem r hx))
    have e : crlf ++ (hdrText (r :: rows) ++ (crlf ++ body)) = 13 :: 10 :: (hdLine r ++ (crlf ++ (hdrText rows ++ (crlf ++ body)))) := by
      simp [hdrText, hdrLine, hdLine, crlf, colon]
    rw [e]
    obtain ⟨x, n, hn⟩ : ∃ x n, hdLine r = x :: n := by
      cases hr : hN r with
      | nil => exact absurd hr hg.ne
      | cons x n => exact ⟨x, n ++ colon ++ hV r, by unfold hdLine; rw [hr]; rfl⟩
    have hx : x ≠ 13 := line13 hg x (by rw [hn]; exact List.mem_cons_self ..)
    have k3 := cut_over (a := 13) (t := [10, 13, 10]) (s := crlf ++ (hdrText rows ++ (crlf ++ body))) (line13 hg)
    have k2 := cut_skip (b := 10) (s := hdLine r ++ (crlf ++ (hdrText rows ++ (crlf ++ body)))) (t := c4) (pre_no (by decide))
    have hp : c4.isPrefixOf (13 :: 10 :: (hdLine r ++ (crlf ++ (hdrText rows ++ (crlf ++ body))))) = false := by
      rw [hn]
      have : ((13 : UInt8) == x) = false := by rw [beq_eq_false_iff_ne]; exact fun h => hx h.symm
      simp [c4, List.isPrefixOf, this]
    have k1 := cut_skip hp
    have eh : hd (r :: rows) = 13 :: 10 :: (hdLine r ++ hd rows) := by simp [hd, crlf]
    have hc : c4 = 13 :: [10, 13, 10] := rfl
    rw [← hc] at k3
    refine ⟨k1.1.trans (k2.1.trans (k3.1.trans i1)), ?_, k1.2.2.trans (k2.2.2.trans (k3.2.2.trans i3))⟩
    rw [k1.2.1, k2.2.1, k3.2.1, i2, eh]
theorem lines_hd : ∀ {rows : List (List AV)} {l : List UInt8} {n : Nat}, (∀ r ∈ rows, GoodR r) → (∀ c ∈ l, c ≠ 13) → rows.length < n →
    (spLinesF n (l ++ hd rows)).map Prod.fst = l :: rows.map hdLine
  | [], l, n, _, hl, hn => by
    obtain ⟨m, rfl⟩ : ∃ m, n = m + 1 := ⟨n - 1, by simp only [List.length_nil] at hn; omega⟩
    have k := cut_over (a := 13) (t := [10]) (s := []) hl
    have k1 : spFound (l ++ hd []) [13, 10] = false := k.1
    have k2 : spBefore (l ++ hd []) [13, 10] = l := k.2.1.trans (by rw [(cut_nil 13 [10]).2.1, List.append_nil])
    unfold spLinesF
    rw [k1, cond_false, k2]; rfl
  | r :: rows, l, n, hg, hl, hn => by
    obtain ⟨m, rfl⟩ : ∃ m, n = m + 1 := ⟨n - 1, by simp only [List.length_cons] at hn; omega⟩
    have eh : hd (r :: rows) = 13 :: 10 :: (hdLine r ++ hd rows) := by simp [hd, crlf]
    have k := cut_over (a := 13) (t := [10]) (s := hd (r :: rows)) hl
    have j := cut_hit (s := hd (r :: rows)) (t := [13, 10]) (by decide) (by rw [eh]; simp)
    have k1 : spFound (l ++ hd (r :: rows)) [13, 10] = true := k.1.trans j.1
    have k2 : spBefore (l ++ hd (r :: rows)) [13, 10] = l := by rw [k.2.1, j.2.1, List.append_nil]
    have k3 : spAfter (l ++ hd (r :: rows)) [13, 10] = hdLine r ++ hd rows := by rw [k.2.2, j.2.2, eh]; rfl
    have ih := lines_hd (rows := rows) (l := hdLine r) (n := m) (fun x hx => hg x (List.mem_cons_of_mem r hx)) (line13 (hg r (List.mem_cons_self ..))) (by simp only [List.length_cons] at hn; omega)
    unfold spLinesF
    rw [k1, cond_true, k2, k3, List.map_cons, ih]; rfl
theorem hd_len (rows : List (List AV)) : rows.length ≤ (hd rows).length := by
  unfold hd
  induction rows with
  | nil => exact Nat.le_refl _
  | cons r rows ih =>
    simp only [List.map_cons, List.flatten_cons, List.length_append, List.length_cons] at *
    have : crlf.length = 2 := rfl
    omega
theorem row_line {r : List AV} (h : GoodR r) : hasColon (hdLine r) = true ∧ hrow (hdLine r) = nrm r := by
  have k := cut_over (a := 58) (t := [32]) (s := colon ++ hV r) h.n58
  have j := cut_hit (s := colon ++ hV r) (t := [58, 32]) (by decide) (by simp [colon])
  have e : hdLine r = hN r ++ (colon ++ hV r) := by unfold hdLine; rw [List.append_assoc]
  have k1 : spFound (hdLine r) colon = true := by rw [e]; exact k.1.trans j.1
  have k2 : spBefore (hdLine r) colon = hN r := by rw [e]; refine k.2.1.trans ?_; rw [j.2.1, List.append_nil]
  have k3 : spAfter (hdLine r) colon = hV r := by rw [e]; refine k.2.2.trans ?_; rw [j.2.2]; rfl
  refine ⟨k1, ?_⟩
  unfold hrow
  rw [k2, k3]; rfl
theorem back1 {start : List UInt8} {hrows brows : List (List AV)} (h : spRight start hrows brows.length = true) {s : List UInt8} (hs : s = (spBuildB start hrows brows).map rowByte) :
    spPOk s = true ∧ spPStart s = start ∧ spPRows s = spNorm hrows ∧ spPBody s = brows.map rowByte := by
  have hr := h
  unfold spRight at hr
  simp only [Bool.and_eq_true] at hr
  obtain ⟨_, hb, _, hall, _, hz⟩ := hr
  have hz := of_decide_eq_true hz
  rw [List.all_eq_true] at hall
  have hg : ∀ r ∈ hrows, GoodR r := fun r hr => goodRow (hall r hr)
  have h13 : ∀ c ∈ start, c ≠ 13 := plain13 (by
    cases hb2 : spBroken start with
    | false => rfl
    | true => rw [hb2] at hb; cases hb)
  have es : s = start ++ (crlf ++ (hdrText hrows ++ (crlf ++ brows.map rowByte))) := by
    rw [hs]; unfold spBuildB
    rw [h, cond_true, List.map_append, row_bytes_map]
    simp [crlf]
  have hlen : s.length ≤ 4096 := by
    rw [es]
    simp only [List.length_append, List.length_map, hdrText_len]
    have : crlf.length = 2 := rfl
    omega
  obtain ⟨i1, i2, i3⟩ := cut_hdrs (body := brows.map rowByte) hg
  obtain ⟨k1, k2, k3⟩ := cut_over (a := 13) (t := [10, 13, 10]) (s := crlf ++ (hdrText hrows ++ (crlf ++ brows.map rowByte))) h13
  have hc : c4 = 13 :: [10, 13, 10] := rfl
  rw [← hc, ← es] at k1 k2 k3
  have f1 : spFound s c4 = true := k1.trans i1
  have f2 : spBefore s c4 = start ++ hd hrows := by rw [k2, i2]
  have f3 : spPBody s = brows.map rowByte := k3.trans i3
  have f4 : spPLines s = start :: hrows.map hdLine := by
    unfold spPLines spSplit spLines
    rw [f2]
    exact lines_hd hg h13 (by have := hd_len hrows; rw [List.length_append]; omega)
  have f5 : spPHdrs s = hrows.map hdLine := by unfold spPHdrs; rw [f4]; rfl
  have f6 : spPStart s = start := by unfold spPStart; rw [f4]; rfl
  have f7 : spPRows s = spNorm hrows := by
    unfold spPRows spNorm
    rw [f5, List.map_map]
    exact List.map_congr_left fun r hr => (row_line (hg r hr)).2
  have f8 : (spPHdrs s).all hasColon = true := by
    rw [f5, List.all_map, List.all_eq_true]
    exact fun r hr => (row_line (hg r hr)).1
  refine ⟨?_, f6, f7, f3⟩
  unfold spPOk
  rw [f1, f8, f6, f7, f3, norm_right, List.length_map, h, decide_eq_true hlen]
  rfl
theorem eqH_norm (rows : List (List AV)) : spEqH rows (spNorm rows) = true := by
  unfold spEqH
  have hl : (spNorm rows).length = rows.length := by unfold spNorm; rw [List.length_map]
  rw [hl, decide_eq_true rfl, Bool.true_and, List.all_eq_true]
  intro k hk
  have hk : k < rows.length := List.mem_range.1 hk
  unfold eqAt
  have e1 : (spNorm rows).getD (0 + k) [] = nrm rows[k] := by unfold spNorm; simp [List.getD_eq_getElem?_getD, hk]
  have e2 : rows.getD (0 + k) [] = rows[k] := by simp [List.getD_eq_getElem?_getD, hk]
  rw [e1, e2, Bool.and_eq_true]
  exact ⟨beq_self_eq_true _, beq_self_eq_true _⟩
theorem build_ok {start : List UInt8} {hrows brows : List (List AV)} : spBuildE start hrows brows = 0 ↔ spRight start hrows brows.length = true := by
  unfold spBuildE
  cases spRight start hrows brows.length <;> simp
theorem back_same {start : List UInt8} {hrows brows : List (List AV)} (h : spBuildE start hrows brows = 0) {s : List UInt8} (hs : s = (spBuildB start hrows brows).map rowByte) :
    spPErr s = 0 ∧ spSameM start hrows brows (spPS s) (spPH s) (spPB s) = true := by
  obtain ⟨h1, h2, h3, h4⟩ := back1 (build_ok.1 h) hs
  refine ⟨parse_err.2 h1, ?_⟩
  unfold spSameM spPS spPH spPB
  rw [h1, cond_true, cond_true, cond_true, h2, h3, h4, eqH_norm, row_bytes_map]
  simp
theorem bad_same {s : List UInt8} (h : spPOk s = false) : spPS s = [] ∧ spPH s = [] ∧ spPB s = [] := by
  unfold spPS spPH spPB
  rw [h]; exact ⟨rfl, rfl, rfl⟩
end Go.Proofs.YtpdgmgkkbbndfaaGreatDoor

set_option maxRecDepth 100000
set_option maxHeartbeats 6400000
set_option linter.unusedVariables false
set_option linter.unusedSimpArgs false
namespace Go.Proofs.YtpdgmgkkbbndfaaGreatDoor
open Go Go.Proofs Go.Proofs.YtpdgmgkkbbndfaaGreatDoor.SX
def P18 : Prims := addP P17 34 q34
theorem P18_ok : PrimsOK Tryz.prog P18 := addP_ok P17_ok q34_ok
theorem parse_small (s : List UInt8) : (spPS s).length ≤ 4096 ∧ (spPH s).all short = true ∧ (spPB s).length ≤ 4096 ∧ (spPH s).length ≤ 64 := by
  unfold spPS spPH spPB
  cases h : spPOk s with
  | false => exact ⟨Nat.zero_le _, rfl, Nat.zero_le _, Nat.zero_le _⟩
  | true =>
    have hr : spRight (spPStart s) (spPRows s) (spPBody s).length = true := by
      unfold spPOk at h
      simp only [Bool.and_eq_true] at h
      exact h.2.2.2
    have hz := right_sized hr
    have hs : (spPStart s).length ≤ 4096 := by
      unfold spRight at hr
      simp only [Bool.and_eq_true, decide_eq_true_eq] at hr
      omega
    rw [cond_true, cond_true, cond_true, byteRows_length]
    exact ⟨hs, List.all_eq_true.2 fun r hr => decide_eq_true (by have := hz.v r hr; omega), hz.bn, hz.n⟩
theorem reads_sl {w : World} {ks : List Kd} {rows : List (List AV)} {v : Value} (h : Reads w ks rows v) (hp : 0 < rows.length) (hk : noAny ks = true) :
    ∃ (bi : BI) (c : Nat), (∀ (ρ : Nat → BI) (b : Nat), ρ b = bi → conc ρ (.sl ⟨b, 0, 0⟩ rows.length (.known c)) = v ∧ (Blk.cells false ks rows).sat ρ w b) ∧ ∃ a, v = .slice a rows.length c := by
  cases h with
  | nil h => rw [h] at hp; exact absurd hp (by decide)
  | cells bi c h => exact ⟨bi, c, fun ρ b hb => ⟨by simp [conc, addr, capOf, hb], Blk.sat_at (ρ := fun _ => bi) (b := 0) hk hb h⟩, _, rfl⟩
def ins12 (r1 r2 r3 : List (List AV)) : List Blk := [.cells false [.str, .str] r1, .cells false [.int .u8] r2, .cells false [.int .u8] r3]
theorem three12 {w : World} {r1 r2 r3 : List (List AV)} {b1 b2 b3 : BI} (gw : GW w) (h1 : ∀ (ρ : Nat → BI) (b : Nat), ρ b = b1 → (Blk.cells false [.str, .str] r1).sat ρ w b) (h2 : ∀ (ρ : Nat → BI) (b : Nat), ρ b = b2 → (Blk.cells false [.int .u8] r2).sat ρ w b)
    (h3 : ∀ (ρ : Nat → BI) (b : Nat), ρ b = b3 → (Blk.cells false [.int .u8] r3).sat ρ w b) :
    ∃ ρ0 : Nat → BI, ρ0 0 = b1 ∧ ρ0 1 = b2 ∧ ρ0 2 = b3 ∧ HSim ρ0 (addBlks .e 0 (ins12 r1 r2 r3)) (ins12 r1 r2 r3).length w := by
  refine ⟨fun i => if i = 0 then b1 else if i = 1 then b2 else b3, rfl, rfl, rfl, HSim.ins gw (fun i blk hi => ?_)⟩
  match i with
  | 0 => simp [ins12] at hi; subst hi; exact ⟨h1 _ 0 rfl, rfl, rfl⟩
  | 1 => simp [ins12] at hi; subst hi; exact ⟨h2 _ 1 rfl, rfl, rfl⟩
  | 2 => simp [ins12] at hi; subst hi; exact ⟨h3 _ 2 rfl, rfl, rfl⟩
  | i + 3 => simp [ins12] at hi
theorem c12a_TFFTE (start : List UInt8) (hrows : List (List AV)) (brows : List (List AV)) (crows : List (List AV)) :
    Path (runCallB Tryz.prog P18 100 12 [AV.agg [AV.str start, AV.slq 0 (List.length hrows), AV.slq 1 (List.length brows)], AV.slq 2 (List.length crows)] (st0 [Blk.cells false [Kd.str, Kd.str] hrows, Blk.cells false [Kd.int IntKind.u8] brows, Blk.cells false [Kd.int IntKind.u8] crows] ([.as_ true, .as_ false, .as_ false, .as_ true, PI.ev 1]))) 3 [] (SL.mk [] [] 3) (Out.ret (AV.bool (spSameM (spPS (List.map rowByte (sub crows 0 (List.length crows)))) (sub (spPH (List.map rowByte (sub crows 0 (List.length crows)))) 0 (List.length (spPH (List.map rowByte (sub crows 0 (List.length crows)))))) (sub (spPB (List.map rowByte (sub crows 0 (List.length crows)))) 0 (List.length (spPB (List.map rowByte (sub crows 0 (List.length crows)))))) [] [] [])))
      ((((((((((((((((((((((((((((((((((True ∧ (true = true)) ∧ ((decide (0 + List.length hrows ≤ List.length hrows) && (decide (0 + List.length brows ≤ List.length brows) && decide (List.length (sub hrows 0 (List.length hrows)) ≤ 100))) = true)) ∧ (true = true)) ∧ (true = true)) ∧ (true = true)) ∧ (true = true)) ∧ (true = true)) ∧ (true = true)) ∧ (true = true)) ∧ ((decide (0 + List.length hrows ≤ List.length hrows) && (decide (0 + List.length brows ≤ List.length brows) && decide (List.length start ≤ 4294967200 ∧ List.all (sub hrows 0 (List.length hrows)) short = true ∧ List.length (sub brows 0 (List.length brows)) ≤ 140737488355328))) = true)) ∧ ((spBuildE start (sub hrows 0 (List.length hrows)) (sub brows 0 (List.length brows)) == (0 : Int)) = true)) ∧ (decide (0 + List.length (spBuildB start (sub hrows 0 (List.length hrows)) (sub brows 0 (List.length brows))) ≤ List.length (spBuildB start (sub hrows 0 (List.length hrows)) (sub brows 0 (List.length brows)))) = true)) ∧ (true = true)) ∧ (true = true)) ∧ (true = true)) ∧ (true = true)) ∧ (true = true)) ∧ (true = true)) ∧ ((!spPErr (List.map rowByte (sub (spBuildB start (sub hrows 0 (List.length hrows)) (sub brows 0 (List.length brows))) 0 (List.length (spBuildB start (sub hrows 0 (List.length hrows)) (sub brows 0 (List.length brows)))))) == (0 : Int)) = false)) ∧ (true = true)) ∧ (true = true)) ∧ ((decide (0 + List.length hrows ≤ List.length hrows) && (decide (0 + List.length brows ≤ List.length brows) && (decide (0 + List.length (spPH (List.map rowByte (sub (spBuildB start (sub hrows 0 (List.length hrows)) (sub brows 0 (List.length brows))) 0 (List.length (spBuildB start (sub hrows 0 (List.length hrows)) (sub brows 0 (List.length brows))))))) ≤ List.length (spPH (List.map rowByte (sub (spBuildB start (sub hrows 0 (List.length hrows)) (sub brows 0 (List.length brows))) 0 (List.length (spBuildB start (sub hrows 0 (List.length hrows)) (sub brows 0 (List.length brows)))))))) && (decide (0 + List.length (spPB (List.map rowByte (sub (spBuildB start (sub hrows 0 (List.length hrows)) (sub brows 0 (List.length brows))) 0 (List.length (spBuildB start (sub hrows 0 (List.length hrows)) (sub brows 0 (List.length brows))))))) ≤ List.length (spPB (List.map rowByte (sub (spBuildB start (sub hrows 0 (List.length hrows)) (sub brows 0 (List.length brows))) 0 (List.length (spBuildB start (sub hrows 0 (List.length hrows)) (sub brows 0 (List.length brows)))))))) && decide (List.length (sub hrows 0 (List.length hrows)) ≤ 4611686018427387904))))) = true)) ∧ ((!spSameM start (sub hrows 0 (List.length hrows)) (sub brows 0 (List.length brows)) (spPS (List.map rowByte (sub (spBuildB start (sub hrows 0 (List.length hrows)) (sub brows 0 (List.length brows))) 0 (List.length (spBuildB start (sub hrows 0 (List.length hrows)) (sub brows 0 (List.length brows))))))) (sub (spPH (List.map rowByte (sub (spBuildB start (sub hrows 0 (List.length hrows)) (sub brows 0 (List.length brows))) 0 (List.length (spBuildB start (sub hrows 0 (List.length hrows)) (sub brows 0 (List.length brows))))))) 0 (List.length (spPH (List.map rowByte (sub (spBuildB start (sub hrows 0 (List.length hrows)) (sub brows 0 (List.length brows))) 0 (List.length (spBuildB start (sub hrows 0 (List.length hrows)) (sub brows 0 (List.length brows))))))))) (sub (spPB (List.map rowByte (sub (spBuildB start (sub hrows 0 (List.length hrows)) (sub brows 0 (List.length brows))) 0 (List.length (spBuildB start (sub hrows 0 (List.length hrows)) (sub brows 0 (List.length brows))))))) 0 (List.length (spPB (List.map rowByte (sub (spBuildB start (sub hrows 0 (List.length hrows)) (sub brows 0 (List.length brows))) 0 (List.length (spBuildB start (sub hrows 0 (List.length hrows)) (sub brows 0 (List.length brows)))))))))) = false)) ∧ (decide (0 + List.length crows ≤ List.length crows) = true)) ∧ (true = true)) ∧ (true = true)) ∧ (true = true)) ∧ (true = true)) ∧ (true = true)) ∧ (true = true)) ∧ ((!spPErr (List.map rowByte (sub crows 0 (List.length crows))) == (0 : Int)) = true)) ∧ (true = true)) ∧ (true = true)) ∧ ((decide (0 + List.length (spPH (List.map rowByte (sub crows 0 (List.length crows)))) ≤ List.length (spPH (List.map rowByte (sub crows 0 (List.length crows))))) && (decide (0 + List.length (spPB (List.map rowByte (sub crows 0 (List.length crows)))) ≤ List.length (spPB (List.map rowByte (sub crows 0 (List.length crows))))) && (true && (true && decide (List.length (sub (spPH (List.map rowByte (sub crows 0 (List.length crows)))) 0 (List.length (spPH (List.map rowByte (sub crows 0 (List.length crows)))))) ≤ 4611686018427387904))))) = true)) := by unfold Path; kernel_rfl
theorem c12a_TFFFET (start : List UInt8) (hrows : List (List AV)) (brows : List (List AV)) (crows : List (List AV)) :
    Path (runCallB Tryz.prog P18 100 12 [AV.agg [AV.str start, AV.slq 0 (List.length hrows), AV.slq 1 (List.length brows)], AV.slq 2 (List.length crows)] (st0 [Blk.cells false [Kd.str, Kd.str] hrows, Blk.cells false [Kd.int IntKind.u8] brows, Blk.cells false [Kd.int IntKind.u8] crows] ([.as_ true, .as_ false, .as_ false, .as_ false, PI.ev 1, .as_ true]))) 3 [] (SL.mk [] [] 3) (Out.ret (AV.bool (List.map rowByte (sub (spBuildB (spPS (List.map rowByte (sub crows 0 (List.length crows)))) (sub (spPH (List.map rowByte (sub crows 0 (List.length crows)))) 0 (List.length (spPH (List.map rowByte (sub crows 0 (List.length crows)))))) (sub (spPB (List.map rowByte (sub crows 0 (List.length crows)))) 0 (List.length (spPB (List.map rowByte (sub crows 0 (List.length crows))))))) 0 (List.length (spBuildB (spPS (List.map rowByte (sub crows 0 (List.length crows)))) (sub (spPH (List.map rowByte (sub crows 0 (List.length crows)))) 0 (List.length (spPH (List.map rowByte (sub crows 0 (List.length crows)))))) (sub (spPB (List.map rowByte (sub crows 0 (List.length crows)))) 0 (List.length (spPB (List.map rowByte (sub crows 0 (List.length crows))))))))) == List.map rowByte (sub crows 0 (List.length crows)))))
      (((((((((((((((((((((((((((((((((((((True ∧ (true = true)) ∧ ((decide (0 + List.length hrows ≤ List.length hrows) && (decide (0 + List.length brows ≤ List.length brows) && decide (List.length (sub hrows 0 (List.length hrows)) ≤ 100))) = true)) ∧ (true = true)) ∧ (true = true)) ∧ (true = true)) ∧ (true = true)) ∧ (true = true)) ∧ (true = true)) ∧ (true = true)) ∧ ((decide (0 + List.length hrows ≤ List.length hrows) && (decide (0 + List.length brows ≤ List.length brows) && decide (List.length start ≤ 4294967200 ∧ List.all (sub hrows 0 (List.length hrows)) short = true ∧ List.length (sub brows 0 (List.length brows)) ≤ 140737488355328))) = true)) ∧ ((spBuildE start (sub hrows 0 (List.length hrows)) (sub brows 0 (List.length brows)) == (0 : Int)) = true)) ∧ (decide (0 + List.length (spBuildB start (sub hrows 0 (List.length hrows)) (sub brows 0 (List.length brows))) ≤ List.length (spBuildB start (sub hrows 0 (List.length hrows)) (sub brows 0 (List.length brows)))) = true)) ∧ (true = true)) ∧ (true = true)) ∧ (true = true)) ∧ (true = true)) ∧ (true = true)) ∧ (true = true)) ∧ ((!spPErr (List.map rowByte (sub (spBuildB start (sub hrows 0 (List.length hrows)) (sub brows 0 (List.length brows))) 0 (List.length (spBuildB start (sub hrows 0 (List.length hrows)) (sub brows 0 (List.length brows)))))) == (0 : Int)) = false)) ∧ (true = true)) ∧ (true = true)) ∧ ((decide (0 + List.length hrows ≤ List.length hrows) && (decide (0 + List.length brows ≤ List.length brows) && (decide (0 + List.length (spPH (List.map rowByte (sub (spBuildB start (sub hrows 0 (List.length hrows)) (sub brows 0 (List.length brows))) 0 (List.length (spBuildB start (sub hrows 0 (List.length hrows)) (sub brows 0 (List.length brows))))))) ≤ List.length (spPH (List.map rowByte (sub (spBuildB start (sub hrows 0 (List.length hrows)) (sub brows 0 (List.length brows))) 0 (List.length (spBuildB start (sub hrows 0 (List.length hrows)) (sub brows 0 (List.length brows)))))))) && (decide (0 + List.length (spPB (List.map rowByte (sub (spBuildB start (sub hrows 0 (List.length hrows)) (sub brows 0 (List.length brows))) 0 (List.length (spBuildB start (sub hrows 0 (List.length hrows)) (sub brows 0 (List.length brows))))))) ≤ List.length (spPB (List.map rowByte (sub (spBuildB start (sub hrows 0 (List.length hrows)) (sub brows 0 (List.length brows))) 0 (List.length (spBuildB start (sub hrows 0 (List.length hrows)) (sub brows 0 (List.length brows)))))))) && decide (List.length (sub hrows 0 (List.length hrows)) ≤ 4611686018427387904))))) = true)) ∧ ((!spSameM start (sub hrows 0 (List.length hrows)) (sub brows 0 (List.length brows)) (spPS (List.map rowByte (sub (spBuildB start (sub hrows 0 (List.length hrows)) (sub brows 0 (List.length brows))) 0 (List.length (spBuildB start (sub hrows 0 (List.length hrows)) (sub brows 0 (List.length brows))))))) (sub (spPH (List.map rowByte (sub (spBuildB start (sub hrows 0 (List.length hrows)) (sub brows 0 (List.length brows))) 0 (List.length (spBuildB start (sub hrows 0 (List.length hrows)) (sub brows 0 (List.length brows))))))) 0 (List.length (spPH (List.map rowByte (sub (spBuildB start (sub hrows 0 (List.length hrows)) (sub brows 0 (List.length brows))) 0 (List.length (spBuildB start (sub hrows 0 (List.length hrows)) (sub brows 0 (List.length brows))))))))) (sub (spPB (List.map rowByte (sub (spBuildB start (sub hrows 0 (List.length hrows)) (sub brows 0 (List.length brows))) 0 (List.length (spBuildB start (sub hrows 0 (List.length hrows)) (sub brows 0 (List.length brows))))))) 0 (List.length (spPB (List.map rowByte (sub (spBuildB start (sub hrows 0 (List.length hrows)) (sub brows 0 (List.length brows))) 0 (List.length (spBuildB start (sub hrows 0 (List.length hrows)) (sub brows 0 (List.length brows)))))))))) = false)) ∧ (decide (0 + List.length crows ≤ List.length crows) = true)) ∧ (true = true)) ∧ (true = true)) ∧ (true = true)) ∧ (true = true)) ∧ (true = true)) ∧ (true = true)) ∧ ((!spPErr (List.map rowByte (sub crows 0 (List.length crows))) == (0 : Int)) = false)) ∧ (true = true)) ∧ ((decide (0 + List.length (spPH (List.map rowByte (sub crows 0 (List.length crows)))) ≤ List.length (spPH (List.map rowByte (sub crows 0 (List.length crows))))) && (decide (0 + List.length (spPB (List.map rowByte (sub crows 0 (List.length crows)))) ≤ List.length (spPB (List.map rowByte (sub crows 0 (List.length crows))))) && decide (List.length (spPS (List.map rowByte (sub crows 0 (List.length crows)))) ≤ 4294967200 ∧ List.all (sub (spPH (List.map rowByte (sub crows 0 (List.length crows)))) 0 (List.length (spPH (List.map rowByte (sub crows 0 (List.length crows)))))) short = true ∧ List.length (sub (spPB (List.map rowByte (sub crows 0 (List.length crows)))) 0 (List.length (spPB (List.map rowByte (sub crows 0 (List.length crows)))))) ≤ 140737488355328))) = true)) ∧ (true = true)) ∧ ((spBuildE (spPS (List.map rowByte (sub crows 0 (List.length crows)))) (sub (spPH (List.map rowByte (sub crows 0 (List.length crows)))) 0 (List.length (spPH (List.map rowByte (sub crows 0 (List.length crows)))))) (sub (spPB (List.map rowByte (sub crows 0 (List.length crows)))) 0 (List.length (spPB (List.map rowByte (sub crows 0 (List.length crows)))))) == (0 : Int)) = true)) ∧ (decide (0 + List.length (spBuildB (spPS (List.map rowByte (sub crows 0 (List.length crows)))) (sub (spPH (List.map rowByte (sub crows 0 (List.length crows)))) 0 (List.length (spPH (List.map rowByte (sub crows 0 (List.length crows)))))) (sub (spPB (List.map rowByte (sub crows 0 (List.length crows)))) 0 (List.length (spPB (List.map rowByte (sub crows 0 (List.length crows))))))) ≤ List.length (spBuildB (spPS (List.map rowByte (sub crows 0 (List.length crows)))) (sub (spPH (List.map rowByte (sub crows 0 (List.length crows)))) 0 (List.length (spPH (List.map rowByte (sub crows 0 (List.length crows)))))) (sub (spPB (List.map rowByte (sub crows 0 (List.length crows)))) 0 (List.length (spPB (List.map rowByte (sub crows 0 (List.length crows)))))))) = true)) ∧ (decide (0 + List.length crows ≤ List.length crows) = true)) := by unfold Path; kernel_rfl
theorem c12a_FTE (start : List UInt8) (hrows : List (List AV)) (brows : List (List AV)) (crows : List (List AV)) :
    Path (runCallB Tryz.prog P18 100 12 [AV.agg [AV.str start, AV.slq 0 (List.length hrows), AV.slq 1 (List.length brows)], AV.slq 2 (List.length crows)] (st0 [Blk.cells false [Kd.str, Kd.str] hrows, Blk.cells false [Kd.int IntKind.u8] brows, Blk.cells false [Kd.int IntKind.u8] crows] ([.as_ false, .as_ true, PI.ev 1]))) 3 [] (SL.mk [] [] 3) (Out.ret (AV.bool (spSameM (spPS (List.map rowByte (sub crows 0 (List.length crows)))) (sub (spPH (List.map rowByte (sub crows 0 (List.length crows)))) 0 (List.length (spPH (List.map rowByte (sub crows 0 (List.length crows)))))) (sub (spPB (List.map rowByte (sub crows 0 (List.length crows)))) 0 (List.length (spPB (List.map rowByte (sub crows 0 (List.length crows)))))) [] [] [])))
      ((((((((((((((((((((((True ∧ (true = true)) ∧ ((decide (0 + List.length hrows ≤ List.length hrows) && (decide (0 + List.length brows ≤ List.length brows) && decide (List.length (sub hrows 0 (List.length hrows)) ≤ 100))) = true)) ∧ (true = true)) ∧ (true = true)) ∧ (true = true)) ∧ (true = true)) ∧ (true = true)) ∧ (true = true)) ∧ (true = true)) ∧ ((decide (0 + List.length hrows ≤ List.length hrows) && (decide (0 + List.length brows ≤ List.length brows) && decide (List.length start ≤ 4294967200 ∧ List.all (sub hrows 0 (List.length hrows)) short = true ∧ List.length (sub brows 0 (List.length brows)) ≤ 140737488355328))) = true)) ∧ ((spBuildE start (sub hrows 0 (List.length hrows)) (sub brows 0 (List.length brows)) == (0 : Int)) = false)) ∧ (decide (0 + List.length crows ≤ List.length crows) = true)) ∧ (true = true)) ∧ (true = true)) ∧ (true = true)) ∧ (true = true)) ∧ (true = true)) ∧ (true = true)) ∧ ((!spPErr (List.map rowByte (sub crows 0 (List.length crows))) == (0 : Int)) = true)) ∧ (true = true)) ∧ (true = true)) ∧ ((decide (0 + List.length (spPH (List.map rowByte (sub crows 0 (List.length crows)))) ≤ List.length (spPH (List.map rowByte (sub crows 0 (List.length crows))))) && (decide (0 + List.length (spPB (List.map rowByte (sub crows 0 (List.length crows)))) ≤ List.length (spPB (List.map rowByte (sub crows 0 (List.length crows))))) && (true && (true && decide (List.length (sub (spPH (List.map rowByte (sub crows 0 (List.length crows)))) 0 (List.length (spPH (List.map rowByte (sub crows 0 (List.length crows)))))) ≤ 4611686018427387904))))) = true)) := by unfold Path; kernel_rfl
theorem c12a_FFET (start : List UInt8) (hrows : List (List AV)) (brows : List (List AV)) (crows : List (List AV)) :
    Path (runCallB Tryz.prog P18 100 12 [AV.agg [AV.str start, AV.slq 0 (List.length hrows), AV.slq 1 (List.length brows)], AV.slq 2 (List.length crows)] (st0 [Blk.cells false [Kd.str, Kd.str] hrows, Blk.cells false [Kd.int IntKind.u8] brows, Blk.cells false [Kd.int IntKind.u8] crows] ([.as_ false, .as_ false, PI.ev 1, .as_ true]))) 3 [] (SL.mk [] [] 3) (Out.ret (AV.bool (List.map rowByte (sub (spBuildB (spPS (List.map rowByte (sub crows 0 (List.length crows)))) (sub (spPH (List.map rowByte (sub crows 0 (List.length crows)))) 0 (List.length (spPH (List.map rowByte (sub crows 0 (List.length crows)))))) (sub (spPB (List.map rowByte (sub crows 0 (List.length crows)))) 0 (List.length (spPB (List.map rowByte (sub crows 0 (List.length crows))))))) 0 (List.length (spBuildB (spPS (List.map rowByte (sub crows 0 (List.length crows)))) (sub (spPH (List.map rowByte (sub crows 0 (List.length crows)))) 0 (List.length (spPH (List.map rowByte (sub crows 0 (List.length crows)))))) (sub (spPB (List.map rowByte (sub crows 0 (List.length crows)))) 0 (List.length (spPB (List.map rowByte (sub crows 0 (List.length crows))))))))) == List.map rowByte (sub crows 0 (List.length crows)))))
      (((((((((((((((((((((((((True ∧ (true = true)) ∧ ((decide (0 + List.length hrows ≤ List.length hrows) && (decide (0 + List.length brows ≤ List.length brows) && decide (List.length (sub hrows 0 (List.length hrows)) ≤ 100))) = true)) ∧ (true = true)) ∧ (true = true)) ∧ (true = true)) ∧ (true = true)) ∧ (true = true)) ∧ (true = true)) ∧ (true = true)) ∧ ((decide (0 + List.length hrows ≤ List.length hrows) && (decide (0 + List.length brows ≤ List.length brows) && decide (List.length start ≤ 4294967200 ∧ List.all (sub hrows 0 (List.length hrows)) short = true ∧ List.length (sub brows 0 (List.length brows)) ≤ 140737488355328))) = true)) ∧ ((spBuildE start (sub hrows 0 (List.length hrows)) (sub brows 0 (List.length brows)) == (0 : Int)) = false)) ∧ (decide (0 + List.length crows ≤ List.length crows) = true)) ∧ (true = true)) ∧ (true = true)) ∧ (true = true)) ∧ (true = true)) ∧ (true = true)) ∧ (true = true)) ∧ ((!spPErr (List.map rowByte (sub crows 0 (List.length crows))) == (0 : Int)) = false)) ∧ (true = true)) ∧ ((decide (0 + List.length (spPH (List.map rowByte (sub crows 0 (List.length crows)))) ≤ List.length (spPH (List.map rowByte (sub crows 0 (List.length crows))))) && (decide (0 + List.length (spPB (List.map rowByte (sub crows 0 (List.length crows)))) ≤ List.length (spPB (List.map rowByte (sub crows 0 (List.length crows))))) && decide (List.length (spPS (List.map rowByte (sub crows 0 (List.length crows)))) ≤ 4294967200 ∧ List.all (sub (spPH (List.map rowByte (sub crows 0 (List.length crows)))) 0 (List.length (spPH (List.map rowByte (sub crows 0 (List.length crows)))))) short = true ∧ List.length (sub (spPB (List.map rowByte (sub crows 0 (List.length crows)))) 0 (List.length (spPB (List.map rowByte (sub crows 0 (List.length crows)))))) ≤ 140737488355328))) = true)) ∧ (true = true)) ∧ ((spBuildE (spPS (List.map rowByte (sub crows 0 (List.length crows)))) (sub (spPH (List.map rowByte (sub crows 0 (List.length crows)))) 0 (List.length (spPH (List.map rowByte (sub crows 0 (List.length crows)))))) (sub (spPB (List.map rowByte (sub crows 0 (List.length crows)))) 0 (List.length (spPB (List.map rowByte (sub crows 0 (List.length crows)))))) == (0 : Int)) = true)) ∧ (decide (0 + List.length (spBuildB (spPS (List.map rowByte (sub crows 0 (List.length crows)))) (sub (spPH (List.map rowByte (sub crows 0 (List.length crows)))) 0 (List.length (spPH (List.map rowByte (sub crows 0 (List.length crows)))))) (sub (spPB (List.map rowByte (sub crows 0 (List.length crows)))) 0 (List.length (spPB (List.map rowByte (sub crows 0 (List.length crows))))))) ≤ List.length (spBuildB (spPS (List.map rowByte (sub crows 0 (List.length crows)))) (sub (spPH (List.map rowByte (sub crows 0 (List.length crows)))) 0 (List.length (spPH (List.map rowByte (sub crows 0 (List.length crows)))))) (sub (spPB (List.map rowByte (sub crows 0 (List.length crows)))) 0 (List.length (spPB (List.map rowByte (sub crows 0 (List.length crows)))))))) = true)) ∧ (decide (0 + List.length crows ≤ List.length crows) = true)) := by unfold Path; kernel_rfl
theorem c12b_TFFTE (start : List UInt8) (hrows : List (List AV)) (brows : List (List AV)) (crows : List (List AV)) (c : Nat) :
    Path (runCallB Tryz.prog P18 100 12 [AV.agg [AV.str start, AV.sl (Loc.mk 0 0 0) (List.length hrows) (Cap.known c), AV.slq 1 (List.length brows)], AV.slq 2 (List.length crows)] (st0 [Blk.cells false [Kd.str, Kd.str] hrows, Blk.cells false [Kd.int IntKind.u8] brows, Blk.cells false [Kd.int IntKind.u8] crows] ([.as_ true, .as_ false, .as_ false, .as_ true, PI.ev 1]))) 3 [] (SL.mk [] [] 3) (Out.ret (AV.bool (spSameM (spPS (List.map rowByte (sub crows 0 (List.length crows)))) (sub (spPH (List.map rowByte (sub crows 0 (List.length crows)))) 0 (List.length (spPH (List.map rowByte (sub crows 0 (List.length crows)))))) (sub (spPB (List.map rowByte (sub crows 0 (List.length crows)))) 0 (List.length (spPB (List.map rowByte (sub crows 0 (List.length crows)))))) [] [] [])))
      ((((((((((((((((((((((((((((((((((True ∧ (true = true)) ∧ ((decide (0 + List.length hrows ≤ List.length hrows) && (decide (0 + List.length brows ≤ List.length brows) && decide (100 < List.length (sub hrows 0 (List.length hrows)) ∧ 100 ≤ c))) = true)) ∧ (true = true)) ∧ (true = true)) ∧ (true = true)) ∧ (true = true)) ∧ (true = true)) ∧ (true = true)) ∧ (true = true)) ∧ ((decide (100 ≤ List.length hrows) && (decide (0 + List.length brows ≤ List.length brows) && decide (List.length start ≤ 4294967200 ∧ List.all (sub hrows 0 100) short = true ∧ List.length (sub brows 0 (List.length brows)) ≤ 140737488355328))) = true)) ∧ ((spBuildE start (sub hrows 0 100) (sub brows 0 (List.length brows)) == (0 : Int)) = true)) ∧ (decide (0 + List.length (spBuildB start (sub hrows 0 100) (sub brows 0 (List.length brows))) ≤ List.length (spBuildB start (sub hrows 0 100) (sub brows 0 (List.length brows)))) = true)) ∧ (true = true)) ∧ (true = true)) ∧ (true = true)) ∧ (true = true)) ∧ (true = true)) ∧ (true = true)) ∧ ((!spPErr (List.map rowByte (sub (spBuildB start (sub hrows 0 100) (sub brows 0 (List.length brows))) 0 (List.length (spBuildB start (sub hrows 0 100) (sub brows 0 (List.length brows)))))) == (0 : Int)) = false)) ∧ (true = true)) ∧ (true = true)) ∧ ((decide (100 ≤ List.length hrows) && (decide (0 + List.length brows ≤ List.length brows) && (decide (0 + List.length (spPH (List.map rowByte (sub (spBuildB start (sub hrows 0 100) (sub brows 0 (List.length brows))) 0 (List.length (spBuildB start (sub hrows 0 100) (sub brows 0 (List.length brows))))))) ≤ List.length (spPH (List.map rowByte (sub (spBuildB start (sub hrows 0 100) (sub brows 0 (List.length brows))) 0 (List.length (spBuildB start (sub hrows 0 100) (sub brows 0 (List.length brows)))))))) && (decide (0 + List.length (spPB (List.map rowByte (sub (spBuildB start (sub hrows 0 100) (sub brows 0 (List.length brows))) 0 (List.length (spBuildB start (sub hrows 0 100) (sub brows 0 (List.length brows))))))) ≤ List.length (spPB (List.map rowByte (sub (spBuildB start (sub hrows 0 100) (sub brows 0 (List.length brows))) 0 (List.length (spBuildB start (sub hrows 0 100) (sub brows 0 (List.length brows)))))))) && decide (List.length (sub hrows 0 100) ≤ 4611686018427387904))))) = true)) ∧ ((!spSameM start (sub hrows 0 100) (sub brows 0 (List.length brows)) (spPS (List.map rowByte (sub (spBuildB start (sub hrows 0 100) (sub brows 0 (List.length brows))) 0 (List.length (spBuildB start (sub hrows 0 100) (sub brows 0 (List.length brows))))))) (sub (spPH (List.map rowByte (sub (spBuildB start (sub hrows 0 100) (sub brows 0 (List.length brows))) 0 (List.length (spBuildB start (sub hrows 0 100) (sub brows 0 (List.length brows))))))) 0 (List.length (spPH (List.map rowByte (sub (spBuildB start (sub hrows 0 100) (sub brows 0 (List.length brows))) 0 (List.length (spBuildB start (sub hrows 0 100) (sub brows 0 (List.length brows))))))))) (sub (spPB (List.map rowByte (sub (spBuildB start (sub hrows 0 100) (sub brows 0 (List.length brows))) 0 (List.length (spBuildB start (sub hrows 0 100) (sub brows 0 (List.length brows))))))) 0 (List.length (spPB (List.map rowByte (sub (spBuildB start (sub hrows 0 100) (sub brows 0 (List.length brows))) 0 (List.length (spBuildB start (sub hrows 0 100) (sub brows 0 (List.length brows)))))))))) = false)) ∧ (decide (0 + List.length crows ≤ List.length crows) = true)) ∧ (true = true)) ∧ (true = true)) ∧ (true = true)) ∧ (true = true)) ∧ (true = true)) ∧ (true = true)) ∧ ((!spPErr (List.map rowByte (sub crows 0 (List.length crows))) == (0 : Int)) = true)) ∧ (true = true)) ∧ (true = true)) ∧ ((decide (0 + List.length (spPH (List.map rowByte (sub crows 0 (List.length crows)))) ≤ List.length (spPH (List.map rowByte (sub crows 0 (List.length crows))))) && (decide (0 + List.length (spPB (List.map rowByte (sub crows 0 (List.length crows)))) ≤ List.length (spPB (List.map rowByte (sub crows 0 (List.length crows))))) && (true && (true && decide (List.length (sub (spPH (List.map rowByte (sub crows 0 (List.length crows)))) 0 (List.length (spPH (List.map rowByte (sub crows 0 (List.length crows)))))) ≤ 4611686018427387904))))) = true)) := by unfold Path; kernel_rfl
theorem c12b_TFFFET (start : List UInt8) (hrows : List (List AV)) (brows : List (List AV)) (crows : List (List AV)) (c : Nat) :
    Path (runCallB Tryz.prog P18 100 12 [AV.agg [AV.str start, AV.sl (Loc.mk 0 0 0) (List.length hrows) (Cap.known c), AV.slq 1 (List.length brows)], AV.slq 2 (List.length crows)] (st0 [Blk.cells false [Kd.str, Kd.str] hrows, Blk.cells false [Kd.int IntKind.u8] brows, Blk.cells false [Kd.int IntKind.u8] crows] ([.as_ true, .as_ false, .as_ false, .as_ false, PI.ev 1, .as_ true]))) 3 [] (SL.mk [] [] 3) (Out.ret (AV.bool (List.map rowByte (sub (spBuildB (spPS (List.map rowByte (sub crows 0 (List.length crows)))) (sub (spPH (List.map rowByte (sub crows 0 (List.length crows)))) 0 (List.length (spPH (List.map rowByte (sub crows 0 (List.length crows)))))) (sub (spPB (List.map rowByte (sub crows 0 (List.length crows)))) 0 (List.length (spPB (List.map rowByte (sub crows 0 (List.length crows))))))) 0 (List.length (spBuildB (spPS (List.map rowByte (sub crows 0 (List.length crows)))) (sub (spPH (List.map rowByte (sub crows 0 (List.length crows)))) 0 (List.length (spPH (List.map rowByte (sub crows 0 (List.length crows)))))) (sub (spPB (List.map rowByte (sub crows 0 (List.length crows)))) 0 (List.length (spPB (List.map rowByte (sub crows 0 (List.length crows))))))))) == List.map rowByte (sub crows 0 (List.length crows)))))
      (((((((((((((((((((((((((((((((((((((True ∧ (true = true)) ∧ ((decide (0 + List.length hrows ≤ List.length hrows) && (decide (0 + List.length brows ≤ List.length brows) && decide (100 < List.length (sub hrows 0 (List.length hrows)) ∧ 100 ≤ c))) = true)) ∧ (true = true)) ∧ (true = true)) ∧ (true = true)) ∧ (true = true)) ∧ (true = true)) ∧ (true = true)) ∧ (true = true)) ∧ ((decide (100 ≤ List.length hrows) && (decide (0 + List.length brows ≤ List.length brows) && decide (List.length start ≤ 4294967200 ∧ List.all (sub hrows 0 100) short = true ∧ List.length (sub brows 0 (List.length brows)) ≤ 140737488355328))) = true)) ∧ ((spBuildE start (sub hrows 0 100) (sub brows 0 (List.length brows)) == (0 : Int)) = true)) ∧ (decide (0 + List.length (spBuildB start (sub hrows 0 100) (sub brows 0 (List.length brows))) ≤ List.length (spBuildB start (sub hrows 0 100) (sub brows 0 (List.length brows)))) = true)) ∧ (true = true)) ∧ (true = true)) ∧ (true = true)) ∧ (true = true)) ∧ (true = true)) ∧ (true = true)) ∧ ((!spPErr (List.map rowByte (sub (spBuildB start (sub hrows 0 100) (sub brows 0 (List.length brows))) 0 (List.length (spBuildB start (sub hrows 0 100) (sub brows 0 (List.length brows)))))) == (0 : Int)) = false)) ∧ (true = true)) ∧ (true = true)) ∧ ((decide (100 ≤ List.length hrows) && (decide (0 + List.length brows ≤ List.length brows) && (decide (0 + List.length (spPH (List.map rowByte (sub (spBuildB start (sub hrows 0 100) (sub brows 0 (List.length brows))) 0 (List.length (spBuildB start (sub hrows 0 100) (sub brows 0 (List.length brows))))))) ≤ List.length (spPH (List.map rowByte (sub (spBuildB start (sub hrows 0 100) (sub brows 0 (List.length brows))) 0 (List.length (spBuildB start (sub hrows 0 100) (sub brows 0 (List.length brows)))))))) && (decide (0 + List.length (spPB (List.map rowByte (sub (spBuildB start (sub hrows 0 100) (sub brows 0 (List.length brows))) 0 (List.length (spBuildB start (sub hrows 0 100) (sub brows 0 (List.length brows))))))) ≤ List.length (spPB (List.map rowByte (sub (spBuildB start (sub hrows 0 100) (sub brows 0 (List.length brows))) 0 (List.length (spBuildB start (sub hrows 0 100) (sub brows 0 (List.length brows)))))))) && decide (List.length (sub hrows 0 100) ≤ 4611686018427387904))))) = true)) ∧ ((!spSameM start (sub hrows 0 100) (sub brows 0 (List.length brows)) (spPS (List.map rowByte (sub (spBuildB start (sub hrows 0 100) (sub brows 0 (List.length brows))) 0 (List.length (spBuildB start (sub hrows 0 100) (sub brows 0 (List.length brows))))))) (sub (spPH (List.map rowByte (sub (spBuildB start (sub hrows 0 100) (sub brows 0 (List.length brows))) 0 (List.length (spBuildB start (sub hrows 0 100) (sub brows 0 (List.length brows))))))) 0 (List.length (spPH (List.map rowByte (sub (spBuildB start (sub hrows 0 100) (sub brows 0 (List.length brows))) 0 (List.length (spBuildB start (sub hrows 0 100) (sub brows 0 (List.length brows))))))))) (sub (spPB (List.map rowByte (sub (spBuildB start (sub hrows 0 100) (sub brows 0 (List.length brows))) 0 (List.length (spBuildB start (sub hrows 0 100) (sub brows 0 (List.length brows))))))) 0 (List.length (spPB (List.map rowByte (sub (spBuildB start (sub hrows 0 100) (sub brows 0 (List.length brows))) 0 (List.length (spBuildB start (sub hrows 0 100) (sub brows 0 (List.length brows)))))))))) = false)) ∧ (decide (0 + List.length crows ≤ List.length crows) = true)) ∧ (true = true)) ∧ (true = true)) ∧ (true = true)) ∧ (true = true)) ∧ (true = true)) ∧ (true = true)) ∧ ((!spPErr (List.map rowByte (sub crows 0 (List.length crows))) == (0 : Int)) = false)) ∧ (true = true)) ∧ ((decide (0 + List.length (spPH (List.map rowByte (sub crows 0 (List.length crows)))) ≤ List.length (spPH (List.map rowByte (sub crows 0 (List.length crows))))) && (decide (0 + List.length (spPB (List.map rowByte (sub crows 0 (List.length crows)))) ≤ List.length (spPB (List.map rowByte (sub crows 0 (List.length crows))))) && decide (List.length (spPS (List.map rowByte (sub crows 0 (List.length crows)))) ≤ 4294967200 ∧ List.all (sub (spPH (List.map rowByte (sub crows 0 (List.length crows)))) 0 (List.length (spPH (List.map rowByte (sub crows 0 (List.length crows)))))) short = true ∧ List.length (sub (spPB (List.map rowByte (sub crows 0 (List.length crows)))) 0 (List.length (spPB (List.map rowByte (sub crows 0 (List.length crows)))))) ≤ 140737488355328))) = true)) ∧ (true = true)) ∧ ((spBuildE (spPS (List.map rowByte (sub crows 0 (List.length crows)))) (sub (spPH (List.map rowByte (sub crows 0 (List.length crows)))) 0 (List.length (spPH (List.map rowByte (sub crows 0 (List.length crows)))))) (sub (spPB (List.map rowByte (sub crows 0 (List.length crows)))) 0 (List.length (spPB (List.map rowByte (sub crows 0 (List.length crows)))))) == (0 : Int)) = true)) ∧ (decide (0 + List.length (spBuildB (spPS (List.map rowByte (sub crows 0 (List.length crows)))) (sub (spPH (List.map rowByte (sub crows 0 (List.length crows)))) 0 (List.length (spPH (List.map rowByte (sub crows 0 (List.length crows)))))) (sub (spPB (List.map rowByte (sub crows 0 (List.length crows)))) 0 (List.length (spPB (List.map rowByte (sub crows 0 (List.length crows))))))) ≤ List.length (spBuildB (spPS (List.map rowByte (sub crows 0 (List.length crows)))) (sub (spPH (List.map rowByte (sub crows 0 (List.length crows)))) 0 (List.length (spPH (List.map rowByte (sub crows 0 (List.length crows)))))) (sub (spPB (List.map rowByte (sub crows 0 (List.length crows)))) 0 (List.length (spPB (List.map rowByte (sub crows 0 (List.length crows)))))))) = true)) ∧ (decide (0 + List.length crows ≤ List.length crows) = true)) := by unfold Path; kernel_rfl
theorem c12b_FTE (start : List UInt8) (hrows : List (List AV)) (brows : List (List AV)) (crows : List (List AV)) (c : Nat) :
    Path (runCallB Tryz.prog P18 100 12 [AV.agg [AV.str start, AV.sl (Loc.mk 0 0 0) (List.length hrows) (Cap.known c), AV.slq 1 (List.length brows)], AV.slq 2 (List.length crows)] (st0 [Blk.cells false [Kd.str, Kd.str] hrows, Blk.cells false [Kd.int IntKind.u8] brows, Blk.cells false [Kd.int IntKind.u8] crows] ([.as_ false, .as_ true, PI.ev 1]))) 3 [] (SL.mk [] [] 3) (Out.ret (AV.bool (spSameM (spPS (List.map rowByte (sub crows 0 (List.length crows)))) (sub (spPH (List.map rowByte (sub crows 0 (List.length crows)))) 0 (List.length (spPH (List.map rowByte (sub crows 0 (List.length crows)))))) (sub (spPB (List.map rowByte (sub crows 0 (List.length crows)))) 0 (List.length (spPB (List.map rowByte (sub crows 0 (List.length crows)))))) [] [] [])))
      ((((((((((((((((((((((True ∧ (true = true)) ∧ ((decide (0 + List.length hrows ≤ List.length hrows) && (decide (0 + List.length brows ≤ List.length brows) && decide (100 < List.length (sub hrows 0 (List.length hrows)) ∧ 100 ≤ c))) = true)) ∧ (true = true)) ∧ (true = true)) ∧ (true = true)) ∧ (true = true)) ∧ (true = true)) ∧ (true = true)) ∧ (true = true)) ∧ ((decide (100 ≤ List.length hrows) && (decide (0 + List.length brows ≤ List.length brows) && decide (List.length start ≤ 4294967200 ∧ List.all (sub hrows 0 100) short = true ∧ List.length (sub brows 0 (List.length brows)) ≤ 140737488355328))) = true)) ∧ ((spBuildE start (sub hrows 0 100) (sub brows 0 (List.length brows)) == (0 : Int)) = false)) ∧ (decide (0 + List.length crows ≤ List.length crows) = true)) ∧ (true = true)) ∧ (true = true)) ∧ (true = true)) ∧ (true = true)) ∧ (true = true)) ∧ (true = true)) ∧ ((!spPErr (List.map rowByte (sub crows 0 (List.length crows))) == (0 : Int)) = true)) ∧ (true = true)) ∧ (true = true)) ∧ ((decide (0 + List.length (spPH (List.map rowByte (sub crows 0 (List.length crows)))) ≤ List.length (spPH (List.map rowByte (sub crows 0 (List.length crows))))) && (decide (0 + List.length (spPB (List.map rowByte (sub crows 0 (List.length crows)))) ≤ List.length (spPB (List.map rowByte (sub crows 0 (List.length crows))))) && (true && (true && decide (List.length (sub (spPH (List.map rowByte (sub crows 0 (List.length crows)))) 0 (List.length (spPH (List.map rowByte (sub crows 0 (List.length crows)))))) ≤ 4611686018427387904))))) = true)) := by unfold Path; kernel_rfl
theorem c12b_FFET (start : List UInt8) (hrows : List (List AV)) (brows : List (List AV)) (crows : List (List AV)) (c : Nat) :
    Path (runCallB Tryz.prog P18 100 12 [AV.agg [AV.str start, AV.sl (Loc.mk 0 0 0) (List.length hrows) (Cap.known c), AV.slq 1 (List.length brows)], AV.slq 2 (List.length crows)] (st0 [Blk.cells false [Kd.str, Kd.str] hrows, Blk.cells false [Kd.int IntKind.u8] brows, Blk.cells false [Kd.int IntKind.u8] crows] ([.as_ false, .as_ false, PI.ev 1, .as_ true]))) 3 [] (SL.mk [] [] 3) (Out.ret (AV.bool (List.map rowByte (sub (spBuildB (spPS (List.map rowByte (sub crows 0 (List.length crows)))) (sub (spPH (List.map rowByte (sub crows 0 (List.length crows)))) 0 (List.length (spPH (List.map rowByte (sub crows 0 (List.length crows)))))) (sub (spPB (List.map rowByte (sub crows 0 (List.length crows)))) 0 (List.length (spPB (List.map rowByte (sub crows 0 (List.length crows))))))) 0 (List.length (spBuildB (spPS (List.map rowByte (sub crows 0 (List.length crows)))) (sub (spPH (List.map rowByte (sub crows 0 (List.length crows)))) 0 (List.length (spPH (List.map rowByte (sub crows 0 (List.length crows)))))) (sub (spPB (List.map rowByte (sub crows 0 (List.length crows)))) 0 (List.length (spPB (List.map rowByte (sub crows 0 (List.length crows))))))))) == List.map rowByte (sub crows 0 (List.length crows)))))
      (((((((((((((((((((((((((True ∧ (true = true)) ∧ ((decide (0 + List.length hrows ≤ List.length hrows) && (decide (0 + List.length brows ≤ List.length brows) && decide (100 < List.length (sub hrows 0 (List.length hrows)) ∧ 100 ≤ c))) = true)) ∧ (true = true)) ∧ (true = true)) ∧ (true = true)) ∧ (true = true)) ∧ (true = true)) ∧ (true = true)) ∧ (true = true)) ∧ ((decide (100 ≤ List.length hrows) && (decide (0 + List.length brows ≤ List.length brows) && decide (List.length start ≤ 4294967200 ∧ List.all (sub hrows 0 100) short = true ∧ List.length (sub brows 0 (List.length brows)) ≤ 140737488355328))) = true)) ∧ ((spBuildE start (sub hrows 0 100) (sub brows 0 (List.length brows)) == (0 : Int)) = false)) ∧ (decide (0 + List.length crows ≤ List.length crows) = true)) ∧ (true = true)) ∧ (true = true)) ∧ (true = true)) ∧ (true = true)) ∧ (true = true)) ∧ (true = true)) ∧ ((!spPErr (List.map rowByte (sub crows 0 (List.length crows))) == (0 : Int)) = false)) ∧ (true = true)) ∧ ((decide (0 + List.length (spPH (List.map rowByte (sub crows 0 (List.length crows)))) ≤ List.length (spPH (List.map rowByte (sub crows 0 (List.length crows))))) && (decide (0 + List.length (spPB (List.map rowByte (sub crows 0 (List.length crows)))) ≤ List.length (spPB (List.map rowByte (sub crows 0 (List.length crows))))) && decide (List.length (spPS (List.map rowByte (sub crows 0 (List.length crows)))) ≤ 4294967200 ∧ List.all (sub (spPH (List.map rowByte (sub crows 0 (List.length crows)))) 0 (List.length (spPH (List.map rowByte (sub crows 0 (List.length crows)))))) short = true ∧ List.length (sub (spPB (List.map rowByte (sub crows 0 (List.length crows)))) 0 (List.length (spPB (List.map rowByte (sub crows 0 (List.length crows)))))) ≤ 140737488355328))) = true)) ∧ (true = true)) ∧ ((spBuildE (spPS (List.map rowByte (sub crows 0 (List.length crows)))) (sub (spPH (List.map rowByte (sub crows 0 (List.length crows)))) 0 (List.length (spPH (List.map rowByte (sub crows 0 (List.length crows)))))) (sub (spPB (List.map rowByte (sub crows 0 (List.length crows)))) 0 (List.length (spPB (List.map rowByte (sub crows 0 (List.length crows)))))) == (0 : Int)) = true)) ∧ (decide (0 + List.length (spBuildB (spPS (List.map rowByte (sub crows 0 (List.length crows)))) (sub (spPH (List.map rowByte (sub crows 0 (List.length crows)))) 0 (List.length (spPH (List.map rowByte (sub crows 0 (List.length crows)))))) (sub (spPB (List.map rowByte (sub crows 0 (List.length crows)))) 0 (List.length (spPB (List.map rowByte (sub crows 0 (List.length crows))))))) ≤ List.length (spBuildB (spPS (List.map rowByte (sub crows 0 (List.length crows)))) (sub (spPH (List.map rowByte (sub crows 0 (List.length crows)))) 0 (List.length (spPH (List.map rowByte (sub crows 0 (List.length crows)))))) (sub (spPB (List.map rowByte (sub crows 0 (List.length crows)))) 0 (List.length (spPB (List.map rowByte (sub crows 0 (List.length crows)))))))) = true)) ∧ (decide (0 + List.length crows ≤ List.length crows) = true)) := by unfold Path; kernel_rfl
theorem back_calls {w : World} {start : List UInt8} {hrows crows : List (List AV)} {body : List UInt8} {hv bv cv : Value} (gw : GW w) (hm : MsgIn w 1048576 start hrows body hv bv) (hc : Reads w [.int .u8] crows cv) (hcl : crows.length ≤ 1048576) :
    Calls Tryz.prog 12 #[.agg #[.string ⟨start.toArray⟩, hv, bv], cv] w (fun e w' => e = .returned (.bool true) ∧ RowKit.Below w.heap.size w w') := by
  have hst := hm.st; have hhl := hm.hl; have hb0 := hm.bl
  obtain ⟨brows, hbr⟩ : ∃ b1, b1 = byteRows body := ⟨_, rfl⟩
  have hbl : brows.length ≤ 1048576 := by rw [hbr, byteRows_length]; exact hb0
  have hmb : Reads w [.int .u8] brows bv := by rw [hbr]; exact hm.b
  obtain ⟨y1, hy1⟩ := hmb.bi gw rfl
  obtain ⟨y2, hy2⟩ := hc.bi gw rfl
  obtain ⟨n1, n2, n3, n4⟩ := parse_small (List.map rowByte crows)
  by_cases hn : hrows.length ≤ 100
  · obtain ⟨x1, hx1⟩ := hm.h.bi gw rfl
    have hmem : ∀ r ∈ hrows, r ∈ hrows := fun r hr => hr
    have h10 : hrows.length = hrows.length := rfl
    have hsh : hrows.all short = true := List.all_eq_true.2 fun r hr => decide_eq_true (by have := hm.rows r (hmem r hr); omega)
    obtain ⟨ρ0, p1, p2, p3, hE⟩ := three12 gw (fun ρ b hb => (hx1 ρ b hb).2) (fun ρ b hb => (hy1 ρ b hb).2) (fun ρ b hb => (hy2 ρ b hb).2)
    have g1 := (hx1 ρ0 0 p1).1
    have g2 := (hy1 ρ0 1 p2).1
    have g3 := (hy2 ρ0 2 p3).1
    have hargs : concL ρ0 [AV.agg [.str start, .slq 0 hrows.length, .slq 1 brows.length], .slq 2 crows.length] = [.agg #[.string ⟨start.toArray⟩, hv, bv], cv] := by
      show [Value.agg (concL ρ0 [AV.str start, .slq 0 hrows.length, .slq 1 brows.length]).toArray, conc ρ0 (.slq 2 crows.length)] = _
      simp only [concL]
      rw [g1, g2, g3]
      rfl
    obtain ⟨m1, m2, m3, m4⟩ := parse_small (List.map rowByte (spBuildB start hrows brows))
    have fin : ∀ (t : Bool), t = true → Calls Tryz.prog 12 (concL ρ0 [AV.agg [.str start, .slq 0 hrows.length, .slq 1 brows.length], .slq 2 crows.length]).toArray w (fun e w' => e = .returned (conc ρ0 (.bool t)) ∧ Ext w w') →
        Calls Tryz.prog 12 #[.agg #[.string ⟨start.toArray⟩, hv, bv], cv] w (fun e w' => e = .returned (.bool true) ∧ RowKit.Below w.heap.size w w') := by
      intro t ht hcall
      rw [hargs] at hcall
      refine hcall.mono fun e w' hx => ?_
      obtain ⟨rfl, hb⟩ := hx
      rw [ht]
      exact ⟨rfl, hb⟩
    by_cases hbE : spBuildE start hrows brows = 0
    · obtain ⟨e1, e2⟩ := back_same hbE rfl
      have fE : (spBuildE start hrows brows == (0 : Int)) = true := by rw [hbE]; rfl
      have fP : (spPErr (List.map rowByte (spBuildB start hrows brows)) == (0 : Int)) = true := by rw [e1]; rfl
      cases hp : spPOk (List.map rowByte crows) with
      | false =>
        have fQ : (spPErr (List.map rowByte crows) == (0 : Int)) = false := by
          rw [beq_eq_false_iff_ne]
          exact fun h => by rw [parse_err.1 h] at hp; cases hp
        obtain ⟨d1, d2, d3⟩ := bad_same hp
        refine fin _ ?_ (calls_pureB P18_ok (c12a_TFFTE start hrows brows crows) (by refine ⟨⟨⟨⟨⟨⟨⟨⟨⟨⟨⟨⟨⟨⟨⟨⟨⟨⟨⟨⟨⟨⟨⟨⟨⟨⟨⟨⟨⟨⟨⟨⟨⟨⟨trivial, rfl⟩, ?_⟩, rfl⟩, rfl⟩, rfl⟩, rfl⟩, rfl⟩, rfl⟩, rfl⟩, ?_⟩, ?_⟩, ?_⟩, rfl⟩, rfl⟩, rfl⟩, rfl⟩, rfl⟩, rfl⟩, ?_⟩, rfl⟩, rfl⟩, ?_⟩, ?_⟩, ?_⟩, rfl⟩, rfl⟩, rfl⟩, rfl⟩, rfl⟩, rfl⟩, ?_⟩, rfl⟩, rfl⟩, ?_⟩ <;> (first | rfl | exact decide_eq_true (by omega) | exact decide_eq_false (by omega) | ((try simp only [sub_whl]); simp only [h10, hsh, fE, fP, e2, m2, n2, fQ, Bool.and_eq_true, decide_eq_true_eq, and_true, true_and, eq_self, beq_self_eq_true, Bool.not_true, Bool.not_false] <;> omega) | ((try simp only [sub_whl]); simp only [h10, hsh, fE, fP, e2, m2, n2, fQ, Bool.and_eq_true, decide_eq_true_eq, and_true, true_and, eq_self, beq_self_eq_true, Bool.not_true, Bool.not_false]))) hE rfl rfl rfl)
        simp only [sub_whl, d1, d2, d3]
        rfl
      | true =>
        have fQ : (spPErr (List.map rowByte crows) == (0 : Int)) = true := by rw [parse_err.2 hp]; rfl
        obtain ⟨k1, k2⟩ := back2 hp
        have fB : (spBuildE (spPS (List.map rowByte crows)) (spPH (List.map rowByte crows)) (spPB (List.map rowByte crows)) == (0 : Int)) = true := by rw [k1]; rfl
        refine fin _ ?_ (calls_pureB P18_ok (c12a_TFFFET start hrows brows crows) (by refine ⟨⟨⟨⟨⟨⟨⟨⟨⟨⟨⟨⟨⟨⟨⟨⟨⟨⟨⟨⟨⟨⟨⟨⟨⟨⟨⟨⟨⟨⟨⟨⟨⟨⟨⟨⟨⟨trivial, rfl⟩, ?_⟩, rfl⟩, rfl⟩, rfl⟩, rfl⟩, rfl⟩, rfl⟩, rfl⟩, ?_⟩, ?_⟩, ?_⟩, rfl⟩, rfl⟩, rfl⟩, rfl⟩, rfl⟩, rfl⟩, ?_⟩, rfl⟩, rfl⟩, ?_⟩, ?_⟩, ?_⟩, rfl⟩, rfl⟩, rfl⟩, rfl⟩, rfl⟩, rfl⟩, ?_⟩, rfl⟩, ?_⟩, rfl⟩, ?_⟩, ?_⟩, ?_⟩ <;> (first | rfl | exact decide_eq_true (by omega) | exact decide_eq_false (by omega) | ((try simp only [sub_whl]); simp only [h10, hsh, fE, fP, e2, m2, n2, fQ, fB, Bool.and_eq_true, decide_eq_true_eq, and_true, true_and, eq_self, beq_self_eq_true, Bool.not_true, Bool.not_false] <;> omega) | ((try simp only [sub_whl]); simp only [h10, hsh, fE, fP, e2, m2, n2, fQ, fB, Bool.and_eq_true, decide_eq_true_eq, and_true, true_and, eq_self, beq_self_eq_true, Bool.not_true, Bool.not_false]))) hE rfl rfl rfl)
        simp only [sub_whl, k2, beq_self_eq_true]
    · have fE : (spBuildE start hrows brows == (0 : Int)) = false := by rw [beq_eq_false_iff_ne]; exact hbE
      cases hp : spPOk (List.map rowByte crows) with
      | false =>
        have fQ : (spPErr (List.map rowByte crows) == (0 : Int)) = false := by
          rw [beq_eq_false_iff_ne]
          exact fun h => by rw [parse_err.1 h] at hp; cases hp
        obtain ⟨d1, d2, d3⟩ := bad_same hp
        refine fin _ ?_ (calls_pureB P18_ok (c12a_FTE start hrows brows crows) (by refine ⟨⟨⟨⟨⟨⟨⟨⟨⟨⟨⟨⟨⟨⟨⟨⟨⟨⟨⟨⟨⟨⟨trivial, rfl⟩, ?_⟩, rfl⟩, rfl⟩, rfl⟩, rfl⟩, rfl⟩, rfl⟩, rfl⟩, ?_⟩, ?_⟩, ?_⟩, rfl⟩, rfl⟩, rfl⟩, rfl⟩, rfl⟩, rfl⟩, ?_⟩, rfl⟩, rfl⟩, ?_⟩ <;> (first | rfl | exact decide_eq_true (by omega) | exact decide_eq_false (by omega) | ((try simp only [sub_whl]); simp only [h10, hsh, fE, n2, fQ, Bool.and_eq_true, decide_eq_true_eq, and_true, true_and, eq_self, beq_self_eq_true, Bool.not_true, Bool.not_false] <;> omega) | ((try simp only [sub_whl]); simp only [h10, hsh, fE, n2, fQ, Bool.and_eq_true, decide_eq_true_eq, and_true, true_and, eq_self, beq_self_eq_true, Bool.not_true, Bool.not_false]))) hE rfl rfl rfl)
        simp only [sub_whl, d1, d2, d3]
        rfl
      | true =>
        have fQ : (spPErr (List.map rowByte crows) == (0 : Int)) = true := by rw [parse_err.2 hp]; rfl
        obtain ⟨k1, k2⟩ := back2 hp
        have fB : (spBuildE (spPS (List.map rowByte crows)) (spPH (List.map rowByte crows)) (spPB (List.map rowByte crows)) == (0 : Int)) = true := by rw [k1]; rfl
        refine fin _ ?_ (calls_pureB P18_ok (c12a_FFET start hrows brows crows) (by refine ⟨⟨⟨⟨⟨⟨⟨⟨⟨⟨⟨⟨⟨⟨⟨⟨⟨⟨⟨⟨⟨⟨⟨⟨⟨trivial, rfl⟩, ?_⟩, rfl⟩, rfl⟩, rfl⟩, rfl⟩, rfl⟩, rfl⟩, rfl⟩, ?_⟩, ?_⟩, ?_⟩, rfl⟩, rfl⟩, rfl⟩, rfl⟩, rfl⟩, rfl⟩, ?_⟩, rfl⟩, ?_⟩, rfl⟩, ?_⟩, ?_⟩, ?_⟩ <;> (first | rfl | exact decide_eq_true (by omega) | exact decide_eq_false (by omega) | ((try simp only [sub_whl]); simp only [h10, hsh, fE, n2, fQ, fB, Bool.and_eq_true, decide_eq_true_eq, and_true, true_and, eq_self, beq_self_eq_true, Bool.not_true, Bool.not_false] <;> omega) | ((try simp only [sub_whl]); simp only [h10, hsh, fE, n2, fQ, fB, Bool.and_eq_true, decide_eq_true_eq, and_true, true_and, eq_self, beq_self_eq_true, Bool.not_true, Bool.not_false]))) hE rfl rfl rfl)
        simp only [sub_whl, k2, beq_self_eq_true]
  · obtain ⟨x1, c, hx1, a1, ha1⟩ := reads_sl hm.h (by omega) rfl
    have hcc := hm.cap _ _ _ ha1
    have hmem : ∀ r ∈ sub hrows 0 100, r ∈ hrows := fun r hr => List.mem_of_mem_drop (List.mem_of_mem_take hr)
    have h10 : (sub hrows 0 100).length = 100 := sub_length (by omega)
    have hsh : (sub hrows 0 100).all short = true := List.all_eq_true.2 fun r hr => decide_eq_true (by have := hm.rows r (hmem r hr); omega)
    obtain ⟨ρ0, p1, p2, p3, hE⟩ := three12 gw (fun ρ b hb => (hx1 ρ b hb).2) (fun ρ b hb => (hy1 ρ b hb).2) (fun ρ b hb => (hy2 ρ b hb).2)
    have g1 := (hx1 ρ0 0 p1).1
    have g2 := (hy1 ρ0 1 p2).1
    have g3 := (hy2 ρ0 2 p3).1
    have hargs : concL ρ0 [AV.agg [.str start, .sl ⟨0, 0, 0⟩ hrows.length (.known c), .slq 1 brows.length], .slq 2 crows.length] = [.agg #[.string ⟨start.toArray⟩, hv, bv], cv] := by
      show [Value.agg (concL ρ0 [AV.str start, .sl ⟨0, 0, 0⟩ hrows.length (.known c), .slq 1 brows.length]).toArray, conc ρ0 (.slq 2 crows.length)] = _
      simp only [concL]
      rw [g1, g2, g3]
      rfl
    obtain ⟨m1, m2, m3, m4⟩ := parse_small (List.map rowByte (spBuildB start (sub hrows 0 100) brows))
    have fin : ∀ (t : Bool), t = true → Calls Tryz.prog 12 (concL ρ0 [AV.agg [.str start, .sl ⟨0, 0, 0⟩ hrows.length (.known c), .slq 1 brows.length], .slq 2 crows.length]).toArray w (fun e w' => e = .returned (conc ρ0 (.bool t)) ∧ Ext w w') →
        Calls Tryz.prog 12 #[.agg #[.string ⟨start.toArray⟩, hv, bv], cv] w (fun e w' => e = .returned (.bool true) ∧ RowKit.Below w.heap.size w w') := by
      intro t ht hcall
      rw [hargs] at hcall
      refine hcall.mono fun e w' hx => ?_
      obtain ⟨rfl, hb⟩ := hx
      rw [ht]
      exact ⟨rfl, hb⟩
    by_cases hbE : spBuildE start (sub hrows 0 100) brows = 0
    · obtain ⟨e1, e2⟩ := back_same hbE rfl
      have fE : (spBuildE start (sub hrows 0 100) brows == (0 : Int)) = true := by rw [hbE]; rfl
      have fP : (spPErr (List.map rowByte (spBuildB start (sub hrows 0 100) brows)) == (0 : Int)) = true := by rw [e1]; rfl
      cases hp : spPOk (List.map rowByte crows) with
      | false =>
        have fQ : (spPErr (List.map rowByte crows) == (0 : Int)) = false := by
          rw [beq_eq_false_iff_ne]
          exact fun h => by rw [parse_err.1 h] at hp; cases hp
        obtain ⟨d1, d2, d3⟩ := bad_same hp
        refine fin _ ?_ (calls_pureB P18_ok (c12b_TFFTE start hrows brows crows c) (by refine ⟨⟨⟨⟨⟨⟨⟨⟨⟨⟨⟨⟨⟨⟨⟨⟨⟨⟨⟨⟨⟨⟨⟨⟨⟨⟨⟨⟨⟨⟨⟨⟨⟨⟨trivial, rfl⟩, ?_⟩, rfl⟩, rfl⟩, rfl⟩, rfl⟩, rfl⟩, rfl⟩, rfl⟩, ?_⟩, ?_⟩, ?_⟩, rfl⟩, rfl⟩, rfl⟩, rfl⟩, rfl⟩, rfl⟩, ?_⟩, rfl⟩, rfl⟩, ?_⟩, ?_⟩, ?_⟩, rfl⟩, rfl⟩, rfl⟩, rfl⟩, rfl⟩, rfl⟩, ?_⟩, rfl⟩, rfl⟩, ?_⟩ <;> (first | rfl | exact decide_eq_true (by omega) | exact decide_eq_false (by omega) | ((try simp only [sub_whl]); simp only [h10, hsh, fE, fP, e2, m2, n2, fQ, Bool.and_eq_true, decide_eq_true_eq, and_true, true_and, eq_self, beq_self_eq_true, Bool.not_true, Bool.not_false] <;> omega) | ((try simp only [sub_whl]); simp only [h10, hsh, fE, fP, e2, m2, n2, fQ, Bool.and_eq_true, decide_eq_true_eq, and_true, true_and, eq_self, beq_self_eq_true, Bool.not_true, Bool.not_false]))) hE rfl rfl rfl)
        simp only [sub_whl, d1, d2, d3]
        rfl
      | true =>
        have fQ : (spPErr (List.map rowByte crows) == (0 : Int)) = true := by rw [parse_err.2 hp]; rfl
        obtain ⟨k1, k2⟩ := back2 hp
        have fB : (spBuildE (spPS (List.map rowByte crows)) (spPH (List.map rowByte crows)) (spPB (List.map rowByte crows)) == (0 : Int)) = true := by rw [k1]; rfl
        refine fin _ ?_ (calls_pureB P18_ok (c12b_TFFFET start hrows brows crows c) (by refine ⟨⟨⟨⟨⟨⟨⟨⟨⟨⟨⟨⟨⟨⟨⟨⟨⟨⟨⟨⟨⟨⟨⟨⟨⟨⟨⟨⟨⟨⟨⟨⟨⟨⟨⟨⟨⟨trivial, rfl⟩, ?_⟩, rfl⟩, rfl⟩, rfl⟩, rfl⟩, rfl⟩, rfl⟩, rfl⟩, ?_⟩, ?_⟩, ?_⟩, rfl⟩, rfl⟩, rfl⟩, rfl⟩, rfl⟩, rfl⟩, ?_⟩, rfl⟩, rfl⟩, ?_⟩, ?_⟩, ?_⟩, rfl⟩, rfl⟩, rfl⟩, rfl⟩, rfl⟩, rfl⟩, ?_⟩, rfl⟩, ?_⟩, rfl⟩, ?_⟩, ?_⟩, ?_⟩ <;> (first | rfl | exact decide_eq_true (by omega) | exact decide_eq_false (by omega) | ((try simp only [sub_whl]); simp only [h10, hsh, fE, fP, e2, m2, n2, fQ, fB, Bool.and_eq_true, decide_eq_true_eq, and_true, true_and, eq_self, beq_self_eq_true, Bool.not_true, Bool.not_false] <;> omega) | ((try simp only [sub_whl]); simp only [h10, hsh, fE, fP, e2, m2, n2, fQ, fB, Bool.and_eq_true, decide_eq_true_eq, and_true, true_and, eq_self, beq_self_eq_true, Bool.not_true, Bool.not_false]))) hE rfl rfl rfl)
        simp only [sub_whl, k2, beq_self_eq_true]
    · have fE : (spBuildE start (sub hrows 0 100) brows == (0 : Int)) = false := by rw [beq_eq_false_iff_ne]; exact hbE
      cases hp : spPOk (List.map rowByte crows) with
      | false =>
        have fQ : (spPErr (List.map rowByte crows) == (0 : Int)) = false := by
          rw [beq_eq_false_iff_ne]
          exact fun h => by rw [parse_err.1 h] at hp; cases hp
        obtain ⟨d1, d2, d3⟩ := bad_same hp
        refine fin _ ?_ (calls_pureB P18_ok (c12b_FTE start hrows brows crows c) (by refine ⟨⟨⟨⟨⟨⟨⟨⟨⟨⟨⟨⟨⟨⟨⟨⟨⟨⟨⟨⟨⟨⟨trivial, rfl⟩, ?_⟩, rfl⟩, rfl⟩, rfl⟩, rfl⟩, rfl⟩, rfl⟩, rfl⟩, ?_⟩, ?_⟩, ?_⟩, rfl⟩, rfl⟩, rfl⟩, rfl⟩, rfl⟩, rfl⟩, ?_⟩, rfl⟩, rfl⟩, ?_⟩ <;> (first | rfl | exact decide_eq_true (by omega) | exact decide_eq_false (by omega) | ((try simp only [sub_whl]); simp only [h10, hsh, fE, n2, fQ, Bool.and_eq_true, decide_eq_true_eq, and_true, true_and, eq_self, beq_self_eq_true, Bool.not_true, Bool.not_false] <;> omega) | ((try simp only [sub_whl]); simp only [h10, hsh, fE, n2, fQ, Bool.and_eq_true, decide_eq_true_eq, and_true, true_and, eq_self, beq_self_eq_true, Bool.not_true, Bool.not_false]))) hE rfl rfl rfl)
        simp only [sub_whl, d1, d2, d3]
        rfl
      | true =>
        have fQ : (spPErr (List.map rowByte crows) == (0 : Int)) = true := by rw [parse_err.2 hp]; rfl
        obtain ⟨k1, k2⟩ := back2 hp
        have fB : (spBuildE (spPS (List.map rowByte crows)) (spPH (List.map rowByte crows)) (spPB (List.map rowByte crows)) == (0 : Int)) = true := by rw [k1]; rfl
        refine fin _ ?_ (calls_pureB P18_ok (c12b_FFET start hrows brows crows c) (by refine ⟨⟨⟨⟨⟨⟨⟨⟨⟨⟨⟨⟨⟨⟨⟨⟨⟨⟨⟨⟨⟨⟨⟨⟨⟨trivial, rfl⟩, ?_⟩, rfl⟩, rfl⟩, rfl⟩, rfl⟩, rfl⟩, rfl⟩, rfl⟩, ?_⟩, ?_⟩, ?_⟩, rfl⟩, rfl⟩, rfl⟩, rfl⟩, rfl⟩, rfl⟩, ?_⟩, rfl⟩, ?_⟩, rfl⟩, ?_⟩, ?_⟩, ?_⟩ <;> (first | rfl | exact decide_eq_true (by omega) | exact decide_eq_false (by omega) | ((try simp only [sub_whl]); simp only [h10, hsh, fE, n2, fQ, fB, Bool.and_eq_true, decide_eq_true_eq, and_true, true_and, eq_self, beq_self_eq_true, Bool.not_true, Bool.not_false] <;> omega) | ((try simp only [sub_whl]); simp only [h10, hsh, fE, n2, fQ, fB, Bool.and_eq_true, decide_eq_true_eq, and_true, true_and, eq_self, beq_self_eq_true, Bool.not_true, Bool.not_false]))) hE rfl rfl rfl)
        simp only [sub_whl, k2, beq_self_eq_true]
end Go.Proofs.YtpdgmgkkbbndfaaGreatDoor

set_option maxRecDepth 100000
set_option maxHeartbeats 6400000
set_option linter.unusedVariables false
set_option linter.unusedSimpArgs false
namespace Go.Proofs.YtpdgmgkkbbndfaaGreatDoor
open Go Go.Proofs Go.Proofs.YtpdgmgkkbbndfaaGreatDoor.SX Go.Proofs.YtpdgmgkkbbndfaaGreatDoor
open Go.ChangeShapes Go.WideShapes Go.ChangeAt Go.RowKit
theorem bytes_arg {H : Type} {enc : TypeId × Value → H} {W : World} {sp : Nat → Bool} {held : Bool} {b0 N : Nat} {v : Value} {d : DataW H} {ps : List MemPlace} (h : DataW.Trod enc Tryz.prog W 0 sp held 23 v d ps) (hok : Value.okWide Tryz.prog W .any b0 23 v) (hN : Rows.uptoBulk d ≤ N) :
    ∃ l : List UInt8, Reads W [.int .u8] (byteRows l) v ∧ l.length ≤ N ∧ ∀ a n c, v = .slice a n c → n ≤ c := by
  unfold Value.okWide at hok
  rw [Tryz.underlying23] at hok
  have ok1 : Cell.okWide Tryz.prog W .any b0 23 v := hok
  obtain ⟨a, n, c, rfl⟩ : ∃ a n c, v = .slice a n c := by
    have ok2 := ok1
    unfold Cell.okWide at ok2
    rw [Tryz.underlying23] at ok2
    simp only [Cell.ok, Tryz.underlying23] at ok2
    cases v <;> simp at ok2 ⊢
  obtain ⟨fuel, hf⟩ := h
  obtain ⟨l, h1, h2⟩ := body_read (x := (d, ps)) (show DataW.trod enc Tryz.prog W 0 sp held fuel 23 [.slice a n c] = some (d, ps) from hf) ok1
  refine ⟨l, h1, Nat.le_trans h2 hN, fun a' n' c' he => ?_⟩
  cases he
  unfold Cell.okWide at ok1
  rw [Tryz.underlying23] at ok1
  simp only [Cell.ok, Tryz.underlying23] at ok1
  cases a with
  | none => cases n <;> cases c <;> simp at ok1 ⊢
  | some a => exact ok1.1
end Go.Proofs.YtpdgmgkkbbndfaaGreatDoor

