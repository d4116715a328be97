/- Part 5 of the proof: texts that the last one builds upon. Conditions: as each theorem says. -/
import Derived.Test.YtpdgmgkkbbndfaaGreatDoorB3
import Derived.Lib.BufferKept
import Derived.Lib.BufferOld
import Derived.Lib.Strings
import Derived.WalkKit
import Derived.BigCall
set_option maxRecDepth 100000
set_option maxHeartbeats 6400000
set_option linter.unusedVariables false
set_option linter.unusedSimpArgs false
namespace Go.Proofs.YtpdgmgkkbbndfaaGreatDoor
open Go Go.Proofs Go.Proofs.YtpdgmgkkbbndfaaGreatDoor.SX Go.RowKit
theorem right_reads {w : World} {start : List UInt8} {hrows brows : List (List AV)} {hv bv : Value} (gw : GW w) (h1 : Reads w [.str, .str] hrows hv) (h2 : Reads w [.int .u8] brows bv)
    (hst : start.length ≤ 4294967200) (hsh : hrows.all short = true) (hbn : brows.length ≤ 140737488355328) :
    Calls Tryz.prog 26 #[.agg #[.string ⟨start.toArray⟩, hv, bv]] w (fun e w' => e = .returned (.bool (spRight start hrows brows.length)) ∧ Below w.heap.size w w') := by
  obtain ⟨b1, hb1⟩ := h1.bi gw rfl
  obtain ⟨b2, hb2⟩ := h2.bi gw rfl
  obtain ⟨ρ0, hρ0⟩ : ∃ ρ0 : Nat → BI, (fun i => if i = 0 then b1 else b2) = ρ0 := ⟨_, rfl⟩
  have g1 := hb1 ρ0 0 (by rw [← hρ0]; rfl)
  have g2 := hb2 ρ0 1 (by rw [← hρ0]; rfl)
  have hE : HSim ρ0 (addBlks .e 0 [.cells false [.str, .str] hrows, .cells false [.int .u8] brows]) ([.cells false [.str, .str] hrows, .cells false [.int .u8] brows] : List Blk).length w :=
    HSim.ins gw (fun i blk hi => by
      match i with
      | 0 => simp at hi; subst hi; exact ⟨g1.2, rfl, rfl⟩
      | 1 => simp at hi; subst hi; exact ⟨g2.2, rfl, rfl⟩
      | i + 2 => simp at hi)
  have hcall := right_calls hE hst hsh hbn
  have e1 : concL ρ0 [AV.agg [.str start, .slq 0 hrows.length, .slq 1 brows.length]] = [.agg #[.string ⟨start.toArray⟩, hv, bv]] := by
    show [Value.agg (concL ρ0 [AV.str start, .slq 0 hrows.length, .slq 1 brows.length]).toArray] = _
    simp only [concL]
    rw [g1.1, g2.1]
    rfl
  rw [e1] at hcall
  exact hcall
theorem hdr_cells {w : World} {hrows : List (List AV)} {hv : Value} (h : Reads w [.str, .str] hrows hv) (hp : 0 < hrows.length) :
    ∃ bk off c, hv = .slice (some ⟨bk, off, none⟩) hrows.length c ∧ bk < w.heap.size ∧ ∀ k (h : k < hrows.length), w.cell? ⟨bk, off + k * 2, none⟩ = some (.string ⟨(hN hrows[k]).toArray⟩) ∧ w.cell? ⟨bk, off + k * 2 + 1, none⟩ = some (.string ⟨(hV hrows[k]).toArray⟩) := by
  cases h with
  | nil h => rw [h] at hp; exact absurd hp (by decide)
  | cells bi c h =>
    refine ⟨bi.blk, bi.off, c, rfl, Blk.sat_lt h, fun k hk => ?_⟩
    obtain ⟨hz, cs, t, fr, g1, g2, g3⟩ := h
    have hz : bi.sz = 2 := hz
    have hr : hrows.getD k [] = hrows[k] := by rw [List.getD_eq_getElem?_getD, List.getElem?_eq_getElem hk]; rfl
    have a0 := g2 k 0 .str hk rfl
    have a1 := g2 k 1 .str hk rfl
    simp only [hz] at a0 a1
    constructor
    · simp only [World.cell?]
      rw [g1]
      simp only
      rw [show bi.off + k * 2 = bi.off + (k * 2 + 0) by omega, a0]
      unfold cellAt
      rw [hr]
      rfl
    · simp only [World.cell?]
      rw [g1]
      simp only
      rw [show bi.off + k * 2 + 1 = bi.off + (k * 2 + 1) by omega, a1]
      unfold cellAt
      rw [hr]
      rfl
def hdrLine (r : List AV) : List UInt8 := hN r ++ [58, 32] ++ hV r ++ [13, 10]
def hdrText (rows : List (List AV)) : List UInt8 := (rows.map hdrLine).flatten
theorem hdrText_len (rows : List (List AV)) : (hdrText rows).length = hSize rows := by
  unfold hdrText hSize
  induction rows with
  | nil => rfl
  | cons r l ih =>
    simp only [List.map_cons, List.flatten_cons, List.length_append, List.sum_cons, ih]
    unfold hdrLine hLen
    simp only [List.length_append, List.length_cons, List.length_nil]
    omega
theorem hSize_take (rows : List (List AV)) (k : Nat) : hSize (rows.take k) ≤ hSize rows := by
  have e : hSize rows = hSize (rows.take k) + hSize (rows.drop k) := by
    unfold hSize
    conv => lhs; rw [← List.take_append_drop k rows]
    rw [List.map_append, List.sum_append]
  omega
theorem right_size {start : List UInt8} {rows : List (List AV)} {bn : Nat} (h : spRight start rows bn = true) : start.length + 4 + bn + hSize rows ≤ 4096 := by
  unfold spRight at h
  simp only [Bool.and_eq_true, decide_eq_true_eq] at h
  exact h.2.2.2.2.2
def rowCells (rows : List (List AV)) : List Value := rows.map fun r => Value.int .u8 (AV.toInt (r.getD 0 .undef))
theorem rowCells_bytes (l : List UInt8) : rowCells (byteRows l) = Lib.byteCells l := by
  unfold rowCells byteRows Lib.byteCells
  rw [List.map_map]
  rfl
theorem NewSl.of_owns {w' : World} {b n0 n : Nat} {v : Value} {rows : List (List AV)} (h : w'.ownsRow b 5 1 v n (rowCells rows)) (hn : n = rows.length) (hp : 0 < n) (hb : n0 ≤ b) : NewSl n0 w' [.int .u8] rows v := by
  obtain ⟨hl, (⟨_, h0⟩ | ⟨g, cap, cur, rfl, hg, hheap, hnc, hcm, hcs, htk⟩)⟩ := h
  · omega
  · subst hn
    refine ⟨⟨g, 0, 1, cap, false⟩, .inl (by show n0 ≤ g; omega), fun ρ b' hb' => ⟨by simp [conc, hb'], by rw [hb']; rfl, cur, 5, (0, 0), by rw [hb']; exact hheap, fun i j kd hi hj => ?_, fun h => by cases h⟩⟩
    have hj0 : j = 0 ∧ kd = .int .u8 := by
      match j with
      | 0 => simp at hj; exact ⟨rfl, hj.symm⟩
      | j + 1 => simp at hj
    obtain ⟨rfl, rfl⟩ := hj0
    rw [hb']
    show cur[0 + (i * 1 + 0)]? = _
    rw [show 0 + (i * 1 + 0) = i by omega]
    have h1 : (rowCells rows)[i]? = some (Value.int .u8 (AV.toInt (rows[i].getD 0 .undef))) := by
      unfold rowCells
      rw [List.getElem?_map, List.getElem?_eq_getElem hi]
      rfl
    rw [← htk, List.getElem?_take, if_pos (by omega), Array.getElem?_toList] at h1
    rw [h1]
    unfold cellAt
    have hr : rows.getD i [] = rows[i] := by rw [List.getD_eq_getElem?_getD, List.getElem?_eq_getElem hi]; rfl
    rw [hr]
    rfl
theorem body_cells {w : World} {brows : List (List AV)} {bv : Value} (h : Reads w [.int .u8] brows bv) :
    (bv = .slice none 0 0 ∧ brows = []) ∨ ∃ bk off c, bv = .slice (some ⟨bk, off, none⟩) brows.length c ∧ bk < w.heap.size ∧ ∀ j v, (rowCells brows)[j]? = some v → w.cell? ((⟨bk, off, none⟩ : Addr).add j) = some v := by
  cases h with
  | nil h => exact .inl ⟨rfl, h⟩
  | cells bi c h =>
    refine .inr ⟨bi.blk, bi.off, c, rfl, Blk.sat_lt h, fun j v hj => ?_⟩
    obtain ⟨hz, cs, t, fr, g1, g2, g3⟩ := h
    have hz : bi.sz = 1 := hz
    have hjl : j < brows.length := by
      rcases Nat.lt_or_ge j brows.length with h' | h'
      · exact h'
      · unfold rowCells at hj; rw [List.getElem?_map, List.getElem?_eq_none h'] at hj; cases hj
    have hv : v = Value.int .u8 (AV.toInt (brows[j].getD 0 .undef)) := by
      unfold rowCells at hj
      rw [List.getElem?_map, List.getElem?_eq_getElem hjl] at hj
      exact (Option.some.inj hj).symm
    subst hv
    have a0 := g2 j 0 (.int .u8) hjl rfl
    simp only [hz] at a0
    rw [Lib.addr_add]
    simp only [World.cell?]
    rw [g1]
    simp only
    rw [show bi.off + j = bi.off + (j * 1 + 0) by omega, a0]
    unfold cellAt
    have hr : brows.getD j [] = brows[j] := by rw [List.getD_eq_getElem?_getD, List.getElem?_eq_getElem hjl]; rfl
    rw [hr]
    rfl
theorem build_good {w : World} {start : List UInt8} {hrows brows : List (List AV)} {hv bv : Value} (gw : GW w) (h1 : Reads w [.str, .str] hrows hv) (h2 : Reads w [.int .u8] brows bv)
    (hst : start.length ≤ 4294967200) (hsh : hrows.all short = true) (hbn : brows.length ≤ 140737488355328) (hgood : spRight start hrows brows.length = true) :
    Calls Tryz.prog 24 #[.agg #[.string ⟨start.toArray⟩, hv, bv]] w (fun e w' => (∃ v, e = .returned (.tuple #[v, .int .i64 0]) ∧ NewSl w.heap.size w' [.int .u8] (byteRows (start ++ [13, 10] ++ hdrText hrows ++ [13, 10]) ++ brows) v) ∧ Below w.heap.size w w') := by
  have hs := right_sized hgood
  obtain ⟨bk, off, c, rfl, hbk, hcells⟩ := hdr_cells h1 hs.pos
  have hr := fun (w1 : World) (hx : Below w.heap.size w w1) => right_reads (gw.ext hx) (h1.ext hx) (h2.ext hx) hst hsh hbn
  go_enter Tryz.func24, Tryz.ntmps24
  go_wp2_with (go_at_call 26; refine (hr _ ?_).mono ?_; refine Hid.out ?_)
  · exact (Below.refl _ w).alloc (Nat.le_refl _) _
  refine Lib.hid ?_
  rintro e W1 ⟨rfl, hx1⟩
  rw [hgood]
  have hsz0 : (w.alloc (.cells #[.string ⟨start.toArray⟩, .slice (some ⟨bk, off, none⟩) hrows.length c, bv] 25)).heap.size = w.heap.size + 1 := by simp
  have hbox : W1.heap[w.heap.size]? = some (.cells #[.string ⟨start.toArray⟩, .slice (some ⟨bk, off, none⟩) hrows.length c, bv] 25 (0, 0)) := by
    rw [hx1.block _ (by rw [hsz0]; omega)]
    exact heap_alloc_new w _
  have hw1 : w.heap.size + 1 ≤ W1.heap.size := by have := hx1.size; rw [hsz0] at this; exact this
  have hB1 : Below w.heap.size w W1 := ((Below.refl _ w).alloc (Nat.le_refl _) _).trans (hx1.mono (by rw [hsz0]; omega))
  clear hx1 hsz0
  have hI1 : Lib.IsBuffer 95 5 W1.heap.size W1.heap.size [] (W1.alloc (.cells #[.slice none 0 0, .int .i64 0, .int .i8 0] 95)) := Lib.fresh_isBuffer 95 5 W1
  have hbx2 : (W1.alloc (.cells #[.slice none 0 0, .int .i64 0, .int .i8 0] 95)).heap[w.heap.size]? = some (.cells #[.string ⟨start.toArray⟩, .slice (some ⟨bk, off, none⟩) hrows.length c, bv] 25 (0, 0)) := by
    rw [heap_alloc_old W1 _ (by omega)]; exact hbox
  have c0 : (W1.alloc (.cells #[.slice none 0 0, .int .i64 0, .int .i8 0] 95)).cell? ⟨w.heap.size, 0, none⟩ = some (.string ⟨start.toArray⟩) := by rw [Lib.cell_of_heap hbx2]; rfl
  have es : (⟨start.toArray⟩ ++ ⟨#[13, 10]⟩ : ByteArray).data.toList = start ++ [13, 10] := by simp
  have el : (⟨start.toArray⟩ ++ ⟨#[13, 10]⟩ : ByteArray).size = start.length + 2 := by rw [Lib.size_eq, es]; simp
  go_wp2_with (go_at_call 53; refine (Tryz.Buffer_WriteString_kept W1.heap.size W1.heap.size [] _ _ hI1 (by simp) (by simp) (by rw [el]; simp only [List.length_nil]; omega)).mono ?_; refine Hid.out ?_)
  refine Lib.hid ?_
  rintro e W2 ⟨rfl, hI2, hb2, -⟩
  rw [es, List.nil_append] at hI2
  have hx2 : W2.heap[w.heap.size]? = some (.cells #[.string ⟨start.toArray⟩, .slice (some ⟨bk, off, none⟩) hrows.length c, bv] 25 (0, 0)) := by
    rw [hb2.block _ (by omega)]; exact hbx2
  have hsz2 : W1.heap.size ≤ W2.heap.size := by have := hb2.size; simp at this; omega
  have hB2 : Below w.heap.size w W2 := (hB1.alloc (by omega) _).trans (hb2.mono (by omega))
  have hgb : w.heap.size < W1.heap.size := by omega
  clear hI1 hbx2 c0 hb2 hbox hw1 hB1 hr es
  generalize W1.heap.size = b at *
  clear W1
  have c1 : W2.cell? ⟨w.heap.size, 1, none⟩ = some (.slice (some ⟨bk, off, none⟩) hrows.length c) := by rw [Lib.cell_of_heap hx2]; rfl
  go_wp2
  go_loopw [17] (fun i wr => ∃ k : Nat, k ≤ hrows.length ∧ i = .int .i64 k ∧ Lib.IsBuffer 95 5 b b (Lib.byteCells (start ++ [13, 10] ++ hdrText (hrows.take k))) wr
      ∧ wr.heap[w.heap.size]? = some (.cells #[.string ⟨start.toArray⟩, .slice (some ⟨bk, off, none⟩) hrows.length c, bv] 25 (0, 0)) ∧ b ≤ wr.heap.size ∧ Below w.heap.size w wr)
    (fun i _ => hrows.length - (intOf i).toNat)
  case atStart => exact ⟨0, Nat.zero_le _, rfl, by simpa [hdrText] using hI2, hx2, hsz2, hB2⟩
  case round =>
    obtain ⟨k, hk, rfl, hI, hx, hsz, hB⟩ := hrel
    clear hI2 hx2 hsz2 hB2 c1
    by_cases hlt : k < hrows.length
    · have k0 := (hB.cell (p := ⟨bk, off + k * 2, none⟩) hbk).trans (hcells k hlt).1
      have k1 := (hB.cell (p := ⟨bk, off + k * 2 + 1, none⟩) hbk).trans (hcells k hlt).2
      obtain ⟨lv, ln⟩ := hs.v _ (List.getElem_mem hlt)
      have z1 : (⟨(hN hrows[k]).toArray⟩ ++ ⟨#[58, 32]⟩ : ByteArray).size = (hN hrows[k]).length + 2 := by rw [Lib.size_eq]; simp
      have z2 : (⟨(hN hrows[k]).toArray⟩ ++ ⟨#[58, 32]⟩ ++ ⟨(hV hrows[k]).toArray⟩ : ByteArray).size = (hN hrows[k]).length + 2 + (hV hrows[k]).length := by rw [Lib.size_eq]; simp; omega
      have z3 : (⟨(hN hrows[k]).toArray⟩ ++ ⟨#[58, 32]⟩ ++ ⟨(hV hrows[k]).toArray⟩ ++ ⟨#[13, 10]⟩ : ByteArray).data.toList = hdrLine hrows[k] := by unfold hdrLine; simp
      have z4 : (⟨(hN hrows[k]).toArray⟩ ++ ⟨#[58, 32]⟩ ++ ⟨(hV hrows[k]).toArray⟩ ++ ⟨#[13, 10]⟩ : ByteArray).size = (hN hrows[k]).length + (hV hrows[k]).length + 4 := by rw [Lib.size_eq, z3]; unfold hdrLine; simp; omega
      have hL := hdrText_len (hrows.take k)
      have hT := hSize_take hrows k
      have hR := right_size hgood
      go_wp2_with (go_at_call 53; refine (Tryz.Buffer_WriteString_kept b b _ _ _ (hI.alloc _) (by simp; omega) (Lib.byteCells_one _) (by rw [Lib.byteCells_length, z4]; simp only [List.length_append, List.length_cons, List.length_nil, hL]; omega)).mono ?_; refine Hid.out ?_)
      refine Lib.hid ?_
      rintro e W3 ⟨rfl, hI3, hb3, -⟩
      rw [z3, ← Lib.byteCells_append] at hI3
      have hx3 : W3.heap[w.heap.size]? = some (.cells #[.string ⟨start.toArray⟩, .slice (some ⟨bk, off, none⟩) hrows.length c, bv] 25 (0, 0)) := by
        rw [hb3.block _ hgb, heap_alloc_old wr _ (by omega)]; exact hx
      have hsz3 : b ≤ W3.heap.size := by have := hb3.size; simp at this; omega
      have hB3 : Below w.heap.size w W3 := (hB.alloc (by omega) _).trans (hb3.mono (by omega))
      have e3 : start ++ [13, 10] ++ hdrText (hrows.take k) ++ hdrLine hrows[k] = start ++ [13, 10] ++ hdrText (hrows.take (k + 1)) := by
        unfold hdrText
        rw [take_snoc hlt, List.map_append, List.flatten_append]
        simp
      rw [e3] at hI3
      have hwr : wrap64 ((k : Int) + 1) = ((k + 1 : Nat) : Int) := by have := hs.n; unfold wrap64; omega
      clear hI hx hsz hB k0 k1 z1 z2 z3 z4 hL hT hR hb3 e3
      go_wp2
      go_roundw
      case rel => exact ⟨k + 1, Nat.succ_le_of_lt hlt, congrArg (Value.int .i64) hwr, hI3, hx3, hsz3, hB3⟩
      case measure =>
        rw [hwr]
        show hrows.length - (k + 1) < hrows.length - k
        exact Nat.sub_lt_sub_left hlt (Nat.lt_succ_self k)
    · have hk' : k = hrows.length := Nat.le_antisymm hk (Nat.le_of_not_lt hlt)
      subst hk'
      rw [List.take_length] at hI
      have hL := hdrText_len hrows
      have hR := right_size hgood
      have c2 : wr.cell? ⟨w.heap.size, 2, none⟩ = some bv := by rw [Lib.cell_of_heap hx]; rfl
      go_wp2_with (go_at_call 53; refine (Tryz.Buffer_WriteString_kept b b _ _ _ hI hsz (Lib.byteCells_one _) (by rw [Lib.byteCells_length]; simp only [List.length_append, List.length_cons, List.length_nil, hL]; show _ + 2 ≤ _; omega)).mono ?_; refine Hid.out ?_)
      refine Lib.hid ?_
      intro e W3 he hI3 hb3 _
      subst he
      rw [← Lib.byteCells_append] at hI3
      have e5 : start ++ 13 :: 10 :: hdrText hrows ++ [13, 10] = start ++ [13, 10] ++ hdrText hrows ++ [13, 10] := by simp
      rw [e5] at hI3
      have hx3 : W3.heap[w.heap.size]? = some (.cells #[.string ⟨start.toArray⟩, .slice (some ⟨bk, off, none⟩) hrows.length c, bv] 25 (0, 0)) := (hb3.block _ hgb).trans hx
      have hsz3 : b ≤ W3.heap.size := Nat.le_trans hsz hb3.size
      have hB3 : Below w.heap.size w W3 := hB.trans (hb3.mono (Nat.le_of_lt hgb))
      have d2 : W3.cell? ⟨w.heap.size, 2, none⟩ = some bv := by rw [Lib.cell_of_heap hx3]; rfl
      have hlen : (start ++ [13, 10] ++ hdrText hrows ++ [13, 10]).length + brows.length ≤ 4096 := by simp only [List.length_append, List.length_cons, List.length_nil, hL]; omega
      have hpos : 0 < (start ++ [13, 10] ++ hdrText hrows ++ [13, 10]).length := by simp only [List.length_append, List.length_cons, List.length_nil]; omega
      clear hI hx hsz hB c2 hL hR hb3 e5 hcells hk hlt h1
      obtain ⟨pre, hpre⟩ : ∃ pre, pre = start ++ [13, 10] ++ hdrText hrows ++ [13, 10] := ⟨_, rfl⟩
      rw [← hpre] at hI3 hlen hpos
      have hpre := Lib.hid hpre
      have fin : ∀ (v : Value) (w' : World) (rows : List (List AV)), rows = byteRows pre ++ brows → w'.ownsRow b 5 1 v rows.length (rowCells rows) → NewSl w.heap.size w' [.int .u8] (byteRows pre ++ brows) v := by
        intro v w' rows hr ho
        subst hr
        exact NewSl.of_owns ho rfl (by rw [List.length_append, byteRows_length]; omega) (Nat.le_of_lt hgb)
      have hcut : rowCells (byteRows pre ++ brows) = Lib.byteCells pre ++ rowCells brows := by
        unfold rowCells
        rw [List.map_append]
        show rowCells (byteRows pre) ++ _ = _
        rw [rowCells_bytes]
      have hone : ∀ v ∈ rowCells brows, v.oneCell' = true := by
        intro v hv
        unfold rowCells at hv
        obtain ⟨r, _, rfl⟩ := List.mem_map.1 hv
        rfl
      rcases body_cells h2 with ⟨rfl, rfl⟩ | ⟨bk2, off2, cc, rfl, hlt2, hsrc⟩
      · go_wp2_with (go_at_call 54; refine (buf_write_nil b b _ _ hI3).mono ?_; refine Hid.out ?_)
        intro e W4 hq4
        obtain ⟨rfl, hI4, hb4⟩ := hq4
        go_wp2_with (go_at_call 55; refine (Tryz.Buffer_Bytes b b _ _ hI4).mono ?_; refine Hid.out ?_)
        intro e W5 hq5
        obtain ⟨v, rfl, ho, nn, rfl⟩ := hq5
        have ho := fin v _ (byteRows pre ++ []) rfl (by rw [hcut, List.length_append, byteRows_length]; simpa [rowCells, Lib.byteCells_length] using ho)
        have hB4 : Below w.heap.size w (W4.drewN nn) := (hB3.trans (hb4.mono (Nat.le_of_lt hgb))).trans ⟨rfl, rfl, rfl, Nat.le_refl _, fun _ _ => rfl⟩
        have hpre := hpre.out
        rw [hpre] at ho
        have ho := Lib.hid ho
        clear hpre fin hcut
        go_wp2
        go_ret2
        exact ⟨⟨v, rfl, ho.out⟩, hB4⟩
      · have hlt3 : bk2 < W3.heap.size := Nat.lt_of_lt_of_le hlt2 hB3.size
        go_wp2_with (go_at_call 54; refine (Tryz.Buffer_Write_any b b _ (rowCells brows) ⟨bk2, off2, none⟩ brows.length cc _ hI3 hsz3 (Lib.byteCells_one _) (by simp [rowCells]) (by show bk2 ≠ b; omega) (fun j v hj => (hB3.cell (p := (⟨bk2, off2, none⟩ : Addr).add j) (by rw [Lib.block_add]; exact hlt2)).trans (hsrc j v hj)) hone (by rw [Lib.byteCells_length]; omega)).mono ?_; refine Hid.out ?_)
        intro e W4 hq4
        obtain ⟨rfl, hI4, hb4, -⟩ := hq4
        go_wp2_with (go_at_call 55; refine (Tryz.Buffer_Bytes b b _ _ hI4).mono ?_; refine Hid.out ?_)
        intro e W5 hq5
        obtain ⟨v, rfl, ho, nn, rfl⟩ := hq5
        have ho := fin v _ (byteRows pre ++ brows) rfl (by rw [hcut, List.length_append, byteRows_length]; simpa [rowCells, Lib.byteCells_length] using ho)
        have hB4 : Below w.heap.size w (W4.drewN nn) := (hB3.trans (hb4.mono (Nat.le_of_lt hgb))).trans ⟨rfl, rfl, rfl, Nat.le_refl _, fun _ _ => rfl⟩
        have hpre := hpre.out
        rw [hpre] at ho
        have ho := Lib.hid ho
        clear hpre fin hcut
        go_wp2
        go_ret2
        exact ⟨⟨v, rfl, ho.out⟩, hB4⟩
end Go.Proofs.YtpdgmgkkbbndfaaGreatDoor
set_option maxRecDepth 100000
set_option linter.unusedVariables false
set_option linter.unusedSimpArgs false
namespace Go.Proofs.YtpdgmgkkbbndfaaGreatDoor
open Go Go.Proofs Go.Proofs.YtpdgmgkkbbndfaaGreatDoor.SX
def digF : Nat → Nat → List UInt8
  | 0, _ => []
  | k + 1, n => if n < 10 then [UInt8.ofNat (48 + n)] else digF k (n / 10) ++ [UInt8.ofNat (48 + n % 10)]
def spDigits (n : Nat) : List UInt8 := digF (n + 1) n
theorem digF_eq : ∀ (k k' n : Nat), n < k → n < k' → digF k n = digF k' n := by
  intro k
  induction k with
  | zero => intro k' n h; omega
  | succ k ih =>
    intro k' n h h'
    cases k' with
    | zero => omega
    | succ k' =>
      unfold digF
      by_cases hn : n < 10
      · rw [if_pos hn, if_pos hn]
      · rw [if_neg hn, if_neg hn, ih k' (n / 10) (by omega) (by omega)]
theorem spDigits_lt {n : Nat} (h : n < 10) : spDigits n = [UInt8.ofNat (48 + n)] := by unfold spDigits digF; rw [if_pos h]
theorem spDigits_ge {n : Nat} (h : ¬ n < 10) : spDigits n = spDigits (n / 10) ++ [UInt8.ofNat (48 + n % 10)] := by
  unfold spDigits
  rw [digF, if_neg h, digF_eq n (n / 10 + 1) (n / 10) (by omega) (by omega)]
theorem spDigits_len (n : Nat) : (spDigits n).length ≤ n + 1 := by
  induction n using Nat.strongRecOn with
  | ind n ih =>
    by_cases h : n < 10
    · rw [spDigits_lt h]; simp
    · rw [spDigits_ge h]
      have := ih (n / 10) (by omega)
      simp; omega
def qDig (N : Int) : Entry := fun args hp nx => match args with
  | [.int .i64 m] => some (decide (0 ≤ m ∧ m < N), .str (spDigits m.toNat), [])
  | _ => none
theorem dig_row {n : Int} (h0 : 0 ≤ n) (h : n < 10) : rowByte [AV.int IntKind.u8 (IntKind.wrap IntKind.u8 (IntKind.wrap IntKind.i64 (48 + n)))] = UInt8.ofNat (48 + n.toNat) := by
  rw [IntWalk.i64_in _ (by omega), IntWalk.u8_in _ (by omega)]
  show UInt8.ofNat (48 + n).toNat = _
  rw [show (48 + n).toNat = 48 + n.toNat by omega]
theorem c41_T (m : Int) :
    Path (runCallB Tryz.prog (addP Pr 41 (qDig m)) 100 41 [AV.int IntKind.i64 m] (st0 [] ([.as_ true]))) 0 [] ⟨[], [], 0⟩ (Out.ret (AV.str [rowByte [AV.int IntKind.u8 (IntKind.wrap IntKind.u8 (IntKind.wrap IntKind.i64 ((48 : Int) + m)))]]))
      ((True ∧ (decide (m < (10 : Int)) = true)) ∧ (true = true)) := by unfold Path; kernel_rfl
theorem c41_F (m : Int) :
    Path (runCallB Tryz.prog (addP Pr 41 (qDig m)) 100 41 [AV.int IntKind.i64 m] (st0 [] ([.as_ false]))) 0 [] ⟨[], [], 0⟩ (Out.ret (AV.str (spDigits (Int.toNat (IntKind.wrap IntKind.i64 (Int.tdiv m (10 : Int)))) ++ [rowByte [AV.int IntKind.u8 (IntKind.wrap IntKind.u8 (IntKind.wrap IntKind.i64 ((48 : Int) + Int.tmod m (10 : Int))))]])))
      (((((((((True ∧ (decide (m < (10 : Int)) = false)) ∧ (true = true)) ∧ (true = true)) ∧ (decide ((0 : Int) ≤ IntKind.wrap IntKind.i64 (Int.tdiv m (10 : Int)) ∧ IntKind.wrap IntKind.i64 (Int.tdiv m (10 : Int)) < m) = true)) ∧ (true = true)) ∧ (decide (List.length (spDigits (Int.toNat (IntKind.wrap IntKind.i64 (Int.tdiv m (10 : Int))))) + 1 ≤ 9223372036854775807) = true)) ∧ (true = true)) ∧ (decide ((0 : Int) ≤ IntKind.wrap IntKind.i64 (Int.tdiv m (10 : Int)) ∧ IntKind.wrap IntKind.i64 (Int.tdiv m (10 : Int)) < m) = true)) ∧ (decide (List.length (spDigits (Int.toNat (IntKind.wrap IntKind.i64 (Int.tdiv m (10 : Int))))) + 1 ≤ 9223372036854775807) = true)) := by unfold Path; kernel_rfl
theorem qDig41 : ∀ N : Nat, N ≤ 9223372036854775808 → EntryOK Tryz.prog 41 (qDig N) := by
  intro N
  induction N using Nat.strongRecOn with
  | ind N ih =>
    intro hN args hp nx c v bs h hc ρ w hs hi
    unfold qDig at h
    split at h
    · rename_i m
      cases h
      obtain ⟨h0, h1⟩ := of_decide_eq_true hc
      refine entry_pure hs rfl ?_
      have hE : HSim ρ (addBlks .e 0 []) ([] : List Blk).length w := HSim.ins hs.gw (fun i blk hi => by simp at hi)
      have hm : ((m.toNat : Nat) : Int) = m := by omega
      have hP : PrimsOK Tryz.prog (addP Pr 41 (qDig m)) := by
        have := ih m.toNat (by omega) (by omega)
        rw [hm] at this
        exact addP_ok Pr_ok this
      by_cases hlt : m < 10
      · rw [spDigits_lt (by omega), ← dig_row h0 hlt]
        exact calls_pureB hP (c41_T m) ⟨⟨trivial, by simpa using hlt⟩, rfl⟩ hE rfl rfl rfl
      · have hq : Int.tdiv m 10 = ((m.toNat / 10 : Nat) : Int) := by
          rw [Int.tdiv_eq_ediv_of_nonneg h0]; omega
        have hr : Int.tmod m 10 = ((m.toNat % 10 : Nat) : Int) := by
          rw [Int.tmod_eq_emod_of_nonneg h0]; omega
        have hw : IntKind.wrap IntKind.i64 (Int.tdiv m 10) = ((m.toNat / 10 : Nat) : Int) := by rw [hq]; exact IntWalk.i64_in _ (by omega)
        have e : spDigits m.toNat = spDigits (Int.toNat (IntKind.wrap IntKind.i64 (Int.tdiv m 10))) ++ [rowByte [AV.int IntKind.u8 (IntKind.wrap IntKind.u8 (IntKind.wrap IntKind.i64 (48 + Int.tmod m 10)))]] := by
          rw [spDigits_ge (by omega), hw, hr, dig_row (by omega) (by omega)]; rfl
        rw [e]
        have hl := spDigits_len (m.toNat / 10)
        have hl2 : (spDigits (Int.toNat (IntKind.wrap IntKind.i64 (Int.tdiv m 10)))).length + 1 ≤ 9223372036854775807 := by
          rw [hw]; show (spDigits (m.toNat / 10)).length + 1 ≤ _; omega
        have hc1 : (0 : Int) ≤ IntKind.wrap IntKind.i64 (Int.tdiv m 10) ∧ IntKind.wrap IntKind.i64 (Int.tdiv m 10) < m := by rw [hw]; omega
        exact calls_pureB hP (c41_F m) (by simp only [decide_eq_true_eq, decide_eq_false_iff_not, eq_self, and_true, true_and]; exact ⟨⟨⟨⟨hlt, hc1⟩, hl2⟩, hc1⟩, hl2⟩) hE rfl rfl rfl
    · cases h
end Go.Proofs.YtpdgmgkkbbndfaaGreatDoor
set_option maxRecDepth 100000
set_option linter.unusedVariables false
set_option linter.unusedSimpArgs false
namespace Go.Proofs.YtpdgmgkkbbndfaaGreatDoor
open Go Go.Proofs Go.Proofs.YtpdgmgkkbbndfaaGreatDoor.SX
theorem c22_T (m : Int) :
    Path (runCallB Tryz.prog (addP Pr 22 (qDig m)) 100 22 [AV.int IntKind.i64 m] (st0 [] ([.as_ true]))) 0 [] ⟨[], [], 0⟩ (Out.ret (AV.str [rowByte [AV.int IntKind.u8 (IntKind.wrap IntKind.u8 (IntKind.wrap IntKind.i64 ((48 : Int) + m)))]]))
      ((True ∧ (decide (m < (10 : Int)) = true)) ∧ (true = true)) := by unfold Path; kernel_rfl
theorem c22_F (m : Int) :
    Path (runCallB Tryz.prog (addP Pr 22 (qDig m)) 100 22 [AV.int IntKind.i64 m] (st0 [] ([.as_ false]))) 0 [] ⟨[], [], 0⟩ (Out.ret (AV.str (spDigits (Int.toNat (IntKind.wrap IntKind.i64 (Int.tdiv m (10 : Int)))) ++ [rowByte [AV.int IntKind.u8 (IntKind.wrap IntKind.u8 (IntKind.wrap IntKind.i64 ((48 : Int) + Int.tmod m (10 : Int))))]])))
      (((((((((True ∧ (decide (m < (10 : Int)) = false)) ∧ (true = true)) ∧ (true = true)) ∧ (decide ((0 : Int) ≤ IntKind.wrap IntKind.i64 (Int.tdiv m (10 : Int)) ∧ IntKind.wrap IntKind.i64 (Int.tdiv m (10 : Int)) < m) = true)) ∧ (true = true)) ∧ (decide (List.length (spDigits (Int.toNat (IntKind.wrap IntKind.i64 (Int.tdiv m (10 : Int))))) + 1 ≤ 9223372036854775807) = true)) ∧ (true = true)) ∧ (decide ((0 : Int) ≤ IntKind.wrap IntKind.i64 (Int.tdiv m (10 : Int)) ∧ IntKind.wrap IntKind.i64 (Int.tdiv m (10 : Int)) < m) = true)) ∧ (decide (List.length (spDigits (Int.toNat (IntKind.wrap IntKind.i64 (Int.tdiv m (10 : Int))))) + 1 ≤ 9223372036854775807) = true)) := by unfold Path; kernel_rfl
theorem qDig22 : ∀ N : Nat, N ≤ 9223372036854775808 → EntryOK Tryz.prog 22 (qDig N) := by
  intro N
  induction N using Nat.strongRecOn with
  | ind N ih =>
    intro hN args hp nx c v bs h hc ρ w hs hi
    unfold qDig at h
    split at h
    · rename_i m
      cases h
      obtain ⟨h0, h1⟩ := of_decide_eq_true hc
      refine entry_pure hs rfl ?_
      have hE : HSim ρ (addBlks .e 0 []) ([] : List Blk).length w := HSim.ins hs.gw (fun i blk hi => by simp at hi)
      have hm : ((m.toNat : Nat) : Int) = m := by omega
      have hP : PrimsOK Tryz.prog (addP Pr 22 (qDig m)) := by
        have := ih m.toNat (by omega) (by omega)
        rw [hm] at this
        exact addP_ok Pr_ok this
      by_cases hlt : m < 10
      · rw [spDigits_lt (by omega), ← dig_row h0 hlt]
        exact calls_pureB hP (c22_T m) ⟨⟨trivial, by simpa using hlt⟩, rfl⟩ hE rfl rfl rfl
      · have hq : Int.tdiv m 10 = ((m.toNat / 10 : Nat) : Int) := by
          rw [Int.tdiv_eq_ediv_of_nonneg h0]; omega
        have hr : Int.tmod m 10 = ((m.toNat % 10 : Nat) : Int) := by
          rw [Int.tmod_eq_emod_of_nonneg h0]; omega
        have hw : IntKind.wrap IntKind.i64 (Int.tdiv m 10) = ((m.toNat / 10 : Nat) : Int) := by rw [hq]; exact IntWalk.i64_in _ (by omega)
        have e : spDigits m.toNat = spDigits (Int.toNat (IntKind.wrap IntKind.i64 (Int.tdiv m 10))) ++ [rowByte [AV.int IntKind.u8 (IntKind.wrap IntKind.u8 (IntKind.wrap IntKind.i64 (48 + Int.tmod m 10)))]] := by
          rw [spDigits_ge (by omega), hw, hr, dig_row (by omega) (by omega)]; rfl
        rw [e]
        have hl := spDigits_len (m.toNat / 10)
        have hl2 : (spDigits (Int.toNat (IntKind.wrap IntKind.i64 (Int.tdiv m 10)))).length + 1 ≤ 9223372036854775807 := by
          rw [hw]; show (spDigits (m.toNat / 10)).length + 1 ≤ _; omega
        have hc1 : (0 : Int) ≤ IntKind.wrap IntKind.i64 (Int.tdiv m 10) ∧ IntKind.wrap IntKind.i64 (Int.tdiv m 10) < m := by rw [hw]; omega
        exact calls_pureB hP (c22_F m) (by simp only [decide_eq_true_eq, decide_eq_false_iff_not, eq_self, and_true, true_and]; exact ⟨⟨⟨⟨hlt, hc1⟩, hl2⟩, hc1⟩, hl2⟩) hE rfl rfl rfl
    · cases h
theorem digits_itoa (n : Nat) : spDigits n = spItoa (n : Int) := by
  have h : ∀ n : Nat, spDigits n = Lib.decDigits n := by
    intro n
    induction n using Nat.strongRecOn with
    | ind n ih =>
      rw [Lib.decDigits]
      by_cases h : n < 10
      · rw [spDigits_lt h, dif_pos h]
      · rw [spDigits_ge h, dif_neg h, ih (n / 10) (by omega)]
  unfold spItoa Lib.itoa
  rw [if_neg (by omega), h]
  rfl
def q22 : Entry := fun args hp nx => match args with
  | [.int .i64 m] => some (decide (0 ≤ m ∧ m < 9223372036854775808), .str (spItoa m), [])
  | _ => none
theorem q22_ok : EntryOK Tryz.prog 22 q22 := by
  intro args hp nx c v bs h hc ρ w hs hi
  unfold q22 at h
  split at h
  · rename_i m
    cases h
    obtain ⟨h0, h1⟩ := of_decide_eq_true hc
    have := qDig22 9223372036854775808 (Nat.le_refl _) [.int .i64 m] hp nx true (.str (spDigits m.toNat)) [] (by show some _ = some _; rw [decide_eq_true (show (0:Int) ≤ m ∧ m < ((9223372036854775808 : Nat) : Int) from ⟨h0, h1⟩)]) rfl ρ w hs hi
    rw [digits_itoa, show ((m.toNat : Nat) : Int) = m by omega] at this
    exact this
  · cases h
def P8 : Prims := addP P7 22 q22
theorem P8_ok : PrimsOK Tryz.prog P8 := addP_ok P7_ok q22_ok
end Go.Proofs.YtpdgmgkkbbndfaaGreatDoor
set_option maxRecDepth 100000
set_option linter.unusedVariables false
set_option linter.unusedSimpArgs false
namespace Go.Proofs.YtpdgmgkkbbndfaaGreatDoor
open Go Go.Proofs Go.Proofs.YtpdgmgkkbbndfaaGreatDoor.SX
theorem c21_ (a : Int) :
    Path (runCallB Tryz.prog P8 100 21 [AV.int IntKind.u32 a] (st0 [] ([]))) 0 [] (SL.mk [] [] 0) (Out.ret (AV.str (spItoa (IntKind.wrap IntKind.i64 (Int.fdiv a (16777216 : Int))) ++ [(46 : UInt8)] ++ spItoa (IntKind.wrap IntKind.i64 (bitsI BinOp.and IntKind.u32 (Int.fdiv a (65536 : Int)) (255 : Int))) ++ [(46 : UInt8)] ++ spItoa (IntKind.wrap IntKind.i64 (bitsI BinOp.and IntKind.u32 (Int.fdiv a (256 : Int)) (255 : Int))) ++ [(46 : UInt8)] ++ spItoa (IntKind.wrap IntKind.i64 (bitsI BinOp.and IntKind.u32 a (255 : Int))))))
      (((((((((((((True ∧ (true = true)) ∧ (decide ((0 : Int) ≤ IntKind.wrap IntKind.i64 (Int.fdiv a (16777216 : Int)) ∧ IntKind.wrap IntKind.i64 (Int.fdiv a (16777216 : Int)) < (9223372036854775808 : Int)) = true)) ∧ (decide (List.length (spItoa (IntKind.wrap IntKind.i64 (Int.fdiv a (16777216 : Int)))) + 1 ≤ 9223372036854775807) = true)) ∧ (true = true)) ∧ (decide ((0 : Int) ≤ IntKind.wrap IntKind.i64 (bitsI BinOp.and IntKind.u32 (Int.fdiv a (65536 : Int)) (255 : Int)) ∧ IntKind.wrap IntKind.i64 (bitsI BinOp.and IntKind.u32 (Int.fdiv a (65536 : Int)) (255 : Int)) < (9223372036854775808 : Int)) = true)) ∧ (decide (List.length (spItoa (IntKind.wrap IntKind.i64 (Int.fdiv a (16777216 : Int))) ++ [(46 : UInt8)]) + List.length (spItoa (IntKind.wrap IntKind.i64 (bitsI BinOp.and IntKind.u32 (Int.fdiv a (65536 : Int)) (255 : Int)))) ≤ 9223372036854775807) = true)) ∧ (decide (List.length (spItoa (IntKind.wrap IntKind.i64 (Int.fdiv a (16777216 : Int))) ++ [(46 : UInt8)] ++ spItoa (IntKind.wrap IntKind.i64 (bitsI BinOp.and IntKind.u32 (Int.fdiv a (65536 : Int)) (255 : Int)))) + 1 ≤ 9223372036854775807) = true)) ∧ (true = true)) ∧ (decide ((0 : Int) ≤ IntKind.wrap IntKind.i64 (bitsI BinOp.and IntKind.u32 (Int.fdiv a (256 : Int)) (255 : Int)) ∧ IntKind.wrap IntKind.i64 (bitsI BinOp.and IntKind.u32 (Int.fdiv a (256 : Int)) (255 : Int)) < (9223372036854775808 : Int)) = true)) ∧ (decide (List.length (spItoa (IntKind.wrap IntKind.i64 (Int.fdiv a (16777216 : Int))) ++ [(46 : UInt8)] ++ spItoa (IntKind.wrap IntKind.i64 (bitsI BinOp.and IntKind.u32 (Int.fdiv a (65536 : Int)) (255 : Int))) ++ [(46 : UInt8)]) + List.length (spItoa (IntKind.wrap IntKind.i64 (bitsI BinOp.and IntKind.u32 (Int.fdiv a (256 : Int)) (255 : Int)))) ≤ 9223372036854775807) = true)) ∧ (decide (List.length (spItoa (IntKind.wrap IntKind.i64 (Int.fdiv a (16777216 : Int))) ++ [(46 : UInt8)] ++ spItoa (IntKind.wrap IntKind.i64 (bitsI BinOp.and IntKind.u32 (Int.fdiv a (65536 : Int)) (255 : Int))) ++ [(46 : UInt8)] ++ spItoa (IntKind.wrap IntKind.i64 (bitsI BinOp.and IntKind.u32 (Int.fdiv a (256 : Int)) (255 : Int)))) + 1 ≤ 9223372036854775807) = true)) ∧ (decide ((0 : Int) ≤ IntKind.wrap IntKind.i64 (bitsI BinOp.and IntKind.u32 a (255 : Int)) ∧ IntKind.wrap IntKind.i64 (bitsI BinOp.and IntKind.u32 a (255 : Int)) < (9223372036854775808 : Int)) = true)) ∧ (decide (List.length (spItoa (IntKind.wrap IntKind.i64 (Int.fdiv a (16777216 : Int))) ++ [(46 : UInt8)] ++ spItoa (IntKind.wrap IntKind.i64 (bitsI BinOp.and IntKind.u32 (Int.fdiv a (65536 : Int)) (255 : Int))) ++ [(46 : UInt8)] ++ spItoa (IntKind.wrap IntKind.i64 (bitsI BinOp.and IntKind.u32 (Int.fdiv a (256 : Int)) (255 : Int))) ++ [(46 : UInt8)]) + List.length (spItoa (IntKind.wrap IntKind.i64 (bitsI BinOp.and IntKind.u32 a (255 : Int)))) ≤ 9223372036854775807) = true)) := by unfold Path; kernel_rfl
theorem and255 {x : Int} (h0 : 0 ≤ x) (h1 : x < 4294967296) : bitsI .and .u32 x 255 = x % 256 := by
  obtain ⟨n, rfl⟩ := Int.eq_ofNat_of_zero_le h0
  unfold bitsI
  show IntKind.wrap .u32 (((BitVec.ofInt 32 (n : Int)) &&& BitVec.ofInt 32 255).toNat : Int) = _
  rw [BitVec.toNat_and]
  have e1 : (BitVec.ofInt 32 (n : Int)).toNat = n := by
    rw [BitVec.toNat_ofInt]; omega
  have e2 : (BitVec.ofInt 32 255).toNat = 2 ^ 8 - 1 := by decide
  rw [e1, e2, Nat.and_two_pow_sub_one_eq_mod, IntKind.wrap_u32]
  omega
theorem oct_top {a : Int} (h0 : 0 ≤ a) (h1 : a < 4294967296) : IntKind.wrap IntKind.i64 (Int.fdiv a 16777216) = octet a 16777216 := by
  unfold octet
  rw [Int.fdiv_eq_ediv_of_nonneg _ (by decide), IntKind.wrap_u8, IntKind.wrap_i64, IntKind.wrap_i64]
  omega
theorem oct_mid {a d : Int} (h0 : 0 ≤ a) (h1 : a < 4294967296) (hd : d = 65536 ∨ d = 256 ∨ d = 1) : IntKind.wrap IntKind.i64 (bitsI BinOp.and IntKind.u32 (Int.fdiv a d) 255) = octet a d := by
  unfold octet
  have e : Int.fdiv a d = a / d := Int.fdiv_eq_ediv_of_nonneg _ (by omega)
  rw [e]
  have hx : 0 ≤ a / d ∧ a / d < 4294967296 := by rcases hd with rfl | rfl | rfl <;> omega
  rw [and255 hx.1 hx.2, IntKind.wrap_u8]
def q21 : Entry := fun args hp nx => match args with
  | [.int .u32 a] => some (decide (0 ≤ a ∧ a < 4294967296), .str (spDotted a), [])
  | _ => none
theorem q21_ok : EntryOK Tryz.prog 21 q21 := by
  intro args hp nx c v bs h hc ρ w hs hi
  unfold q21 at h
  split at h
  · rename_i a
    cases h
    obtain ⟨h0, h1⟩ := of_decide_eq_true hc
    refine entry_pure hs rfl ?_
    have hE : HSim ρ (addBlks .e 0 []) ([] : List Blk).length w := HSim.ins hs.gw (fun i blk hi => by simp at hi)
    have hp := c21_ a
    have e1 := oct_top h0 h1
    have e2 := oct_mid h0 h1 (d := 65536) (.inl rfl)
    have e3 := oct_mid h0 h1 (d := 256) (.inr (.inl rfl))
    have e4 := oct_mid h0 h1 (d := 1) (.inr (.inr rfl))
    rw [show Int.fdiv a 1 = a by rw [Int.fdiv_eq_ediv_of_nonneg _ (by decide)]; omega] at e4
    rw [e1, e2, e3, e4] at hp
    have g1 := octet_range a 16777216; have g2 := octet_range a 65536; have g3 := octet_range a 256; have g4 := octet_range a 1
    have l1 := len_itoa _ (show -9223372036854775808 ≤ octet a 16777216 ∧ octet a 16777216 ≤ 9223372036854775807 by omega)
    have l2 := len_itoa _ (show -9223372036854775808 ≤ octet a 65536 ∧ octet a 65536 ≤ 9223372036854775807 by omega)
    have l3 := len_itoa _ (show -9223372036854775808 ≤ octet a 256 ∧ octet a 256 ≤ 9223372036854775807 by omega)
    have l4 := len_itoa _ (show -9223372036854775808 ≤ octet a 1 ∧ octet a 1 ≤ 9223372036854775807 by omega)
    have e5 : spDotted a = spItoa (octet a 16777216) ++ [46] ++ spItoa (octet a 65536) ++ [46] ++ spItoa (octet a 256) ++ [46] ++ spItoa (octet a 1) := by unfold spDotted; rw [join4]
    rw [e5]
    refine calls_pureB P8_ok hp ?_ hE rfl rfl rfl
    simp only [decide_eq_true_eq, List.length_append, List.length_cons, List.length_nil, eq_self, true_and, and_true]
    omega
  · cases h
def P9 : Prims := addP P8 21 q21
theorem P9_ok : PrimsOK Tryz.prog P9 := addP_ok P8_ok q21_ok
end Go.Proofs.YtpdgmgkkbbndfaaGreatDoor
set_option maxRecDepth 100000
set_option maxHeartbeats 6400000
set_option linter.unusedVariables false
set_option linter.unusedSimpArgs false
namespace Go.Proofs.YtpdgmgkkbbndfaaGreatDoor
open Go Go.Proofs Go.Proofs.YtpdgmgkkbbndfaaGreatDoor.SX Go.RowKit
theorem build_bad {w : World} {start : List UInt8} {hrows brows : List (List AV)} {hv bv : Value} (gw : GW w) (h1 : Reads w [.str, .str] hrows hv) (h2 : Reads w [.int .u8] brows bv)
    (hst : start.length ≤ 4294967200) (hsh : hrows.all short = true) (hbn : brows.length ≤ 140737488355328) (hbad : spRight start hrows brows.length = false) :
    Calls Tryz.prog 24 #[.agg #[.string ⟨start.toArray⟩, hv, bv]] w (fun e w' => e = .returned (.tuple #[.slice none 0 0, .int .i64 4]) ∧ Below w.heap.size w w') := by
  have hr := fun (w1 : World) (hx : Below w.heap.size w w1) => right_reads (gw.ext hx) (h1.ext hx) (h2.ext hx) hst hsh hbn
  go_enter Tryz.func24, Tryz.ntmps24
  go_wp2_with (go_at_call 26; refine (hr _ ?_).mono ?_; refine Hid.out ?_)
  · exact (Below.refl _ w).alloc (Nat.le_refl _) _
  refine Lib.hid ?_
  rintro e W1 ⟨rfl, hx1⟩
  rw [hbad]
  have hsz0 : (w.alloc (.cells #[.string ⟨start.toArray⟩, hv, bv] 25)).heap.size = w.heap.size + 1 := by simp
  have hB1 : Below w.heap.size w W1 := ((Below.refl _ w).alloc (Nat.le_refl _) _).trans (hx1.mono (by rw [hsz0]; omega))
  go_wp2
  go_ret2
  exact ⟨rfl, hB1⟩
def spBuildB (start : List UInt8) (hrows brows : List (List AV)) : List (List AV) :=
  bif spRight start hrows brows.length then byteRows (start ++ [13, 10] ++ hdrText hrows ++ [13, 10]) ++ brows else []
def spBuildE (start : List UInt8) (hrows brows : List (List AV)) : Int := bif spRight start hrows brows.length then 0 else 4
theorem build_calls {w : World} {start : List UInt8} {hrows brows : List (List AV)} {hv bv : Value} (gw : GW w) (h1 : Reads w [.str, .str] hrows hv) (h2 : Reads w [.int .u8] brows bv)
    (hst : start.length ≤ 4294967200) (hsh : hrows.all short = true) (hbn : brows.length ≤ 140737488355328) :
    Calls Tryz.prog 24 #[.agg #[.string ⟨start.toArray⟩, hv, bv]] w (fun e w' => (∃ v, e = .returned (.tuple #[v, .int .i64 (spBuildE start hrows brows)]) ∧ NewSl w.heap.size w' [.int .u8] (spBuildB start hrows brows) v) ∧ Ext w w') := by
  unfold spBuildB spBuildE
  cases h : spRight start hrows brows.length with
  | true => exact build_good gw h1 h2 hst hsh hbn h
  | false =>
    refine (build_bad gw h1 h2 hst hsh hbn h).mono fun e w' hq => ?_
    obtain ⟨rfl, hb⟩ := hq
    exact ⟨⟨_, rfl, NewSl.none (ρ' := fun _ => ⟨0, 0, 0, 0, false⟩) (gw.ext hb) rfl⟩, hb⟩
def q24 : Entry := fun args hp nx => match args with
  | [.agg [.str start, hv, bv]] => match slIn hp [.str, .str] hv, slIn hp [.int .u8] bv with
    | some (c1, hrows), some (c2, brows) =>
      some (c1 && (c2 && decide (start.length ≤ 4294967200 ∧ hrows.all short = true ∧ brows.length ≤ 140737488355328)),
        .tup [.slq nx (spBuildB start hrows brows).length, .int .i64 (spBuildE start hrows brows)], [.cells false [.int .u8] (spBuildB start hrows brows)])
    | _, _ => none
  | _ => none
theorem q24_ok : EntryOK Tryz.prog 24 q24 := by
  intro args hp nx c v bs h hc ρ w hs hi
  unfold q24 at h
  split at h
  · rename_i start hv bv
    split at h
    · rename_i c1 hrows c2 brows hs1 hs2
      cases h
      simp only [Bool.and_eq_true] at hc
      obtain ⟨hc1, hc2, hc3⟩ := hc
      obtain ⟨g1, g2, g3⟩ := of_decide_eq_true hc3
      have hcall := build_calls hs.gw (slIn_spec hs hs1 hc1 rfl) (slIn_spec hs hs2 hc2 rfl) g1 g2 g3
      have ea : (concL ρ [AV.agg [.str start, hv, bv]]).toArray = #[.agg #[.string ⟨start.toArray⟩, conc ρ hv, conc ρ bv]] := rfl
      rw [ea]
      refine hcall.mono fun e w' hq => ?_
      obtain ⟨⟨v, rfl, b1, n1, k1⟩, he⟩ := hq
      have e1 : extB ρ nx [b1] nx = b1 := by have := extB_new ρ nx [b1] 0; simpa using this
      have st := HStep.bis (bs := [Blk.cells false [.int .u8] (spBuildB start hrows brows)]) [b1] hs he (fun i blk hi => by
        match i with
        | 0 => simp at hi; subst hi; exact ⟨rfl, n1, rfl, fun ρ' b hb => (k1 ρ' b hb).2⟩
        | i + 1 => simp at hi)
      refine ⟨_, ?_, ?_, st⟩
      · have h1 := (k1 _ _ e1).1
        simp only [conc, concL] at h1 ⊢
        rw [h1]
      · simp [AV.idsB, idsBL, blt_iff]
    · cases h
  · cases h
def P10 : Prims := addP P9 24 q24
theorem P10_ok : PrimsOK Tryz.prog P10 := addP_ok P9_ok q24_ok
end Go.Proofs.YtpdgmgkkbbndfaaGreatDoor
set_option maxRecDepth 100000
set_option maxHeartbeats 6400000
set_option linter.unusedVariables false
set_option linter.unusedSimpArgs false
namespace Go.Proofs.YtpdgmgkkbbndfaaGreatDoor
open Go Go.Proofs Go.Proofs.YtpdgmgkkbbndfaaGreatDoor.SX
theorem c18_EEE :
    Path (runCallB Tryz.prog P10 100 18 [] (st0 [] ([PI.ev 1, PI.ev 1, PI.ev 1]))) 0 [] (SL.mk [] [] 0) (Out.ret (AV.bool true))
      (((((((((((((((((((((True ∧ (true = true)) ∧ (true = true)) ∧ (true = true)) ∧ (true = true)) ∧ (true = true)) ∧ (true = true)) ∧ (true = true)) ∧ (true = true)) ∧ (true = true)) ∧ (true = true)) ∧ (true = true)) ∧ (true = true)) ∧ (true = true)) ∧ (true = true)) ∧ (true = true)) ∧ (true = true)) ∧ (true = true)) ∧ (true = true)) ∧ (true = true)) ∧ (true = true)) ∧ (true = true)) := by unfold Path; kernel_rfl
def q18 : Entry := fun args hp nx => match args with
  | [] => some (true, .bool true, [])
  | _ => none
theorem q18_ok : EntryOK Tryz.prog 18 q18 := by
  intro args hp nx c v bs h hc ρ w hs hi
  unfold q18 at h
  split at h
  · cases h
    have hE : HSim ρ (addBlks .e 0 []) ([] : List Blk).length w := HSim.ins hs.gw (fun i blk hi => by simp at hi)
    exact entry_pure hs rfl (calls_pureB P10_ok c18_EEE (by simp only [eq_self, and_self]) hE rfl rfl rfl)
  · cases h
def P11 : Prims := addP P10 18 q18
theorem P11_ok : PrimsOK Tryz.prog P11 := addP_ok P10_ok q18_ok
end Go.Proofs.YtpdgmgkkbbndfaaGreatDoor
set_option maxRecDepth 100000
set_option linter.unusedVariables false
set_option linter.unusedSimpArgs false
namespace Go.Proofs.YtpdgmgkkbbndfaaGreatDoor
open Go Go.Proofs Go.Proofs.YtpdgmgkkbbndfaaGreatDoor.SX
theorem parse_snoc : ∀ (l : List UInt8) (acc u : Nat) (d : Nat), Lib.parseUint10 acc l = .ok u → u < 1000000000000000000 → d < 10 → Lib.parseUint10 acc (l ++ [UInt8.ofNat (48 + d)]) = .ok (u * 10 + d)
  | [], acc, u, d, h, hu, hd => by
    simp only [Lib.parseUint10] at h
    cases h
    have e : (UInt8.ofNat (48 + d)).toNat = 48 + d := by rw [UInt8.toNat_ofNat']; omega
    simp only [List.nil_append, Lib.parseUint10, e]
    rw [if_pos (by omega), if_neg (by omega), if_neg (by omega)]
    congr 1
    omega
  | c :: r, acc, u, d, h, hu, hd => by
    simp only [Lib.parseUint10, List.cons_append] at h ⊢
    split at h
    · rename_i h1
      rw [if_pos h1]
      split at h
      · cases h
      · rename_i h2
        rw [if_neg h2]
        split at h
        · cases h
        · rename_i h3
          rw [if_neg h3]
          exact parse_snoc r _ u d h hu hd
    · cases h
theorem parse_dec (n : Nat) (h : n < 1000000000000000000) : Lib.parseUint10 0 (Lib.decDigits n) = .ok n := by
  induction n using Nat.strongRecOn with
  | ind n ih =>
    rw [Lib.decDigits]
    by_cases h0 : n < 10
    · rw [dif_pos h0]
      have := parse_snoc [] 0 0 n rfl (by omega) h0
      simpa using this
    · rw [dif_neg h0]
      have := parse_snoc _ 0 _ (n % 10) (ih (n / 10) (by omega) (by omega)) (by omega) (by omega)
      rw [this]
      congr 1
      omega
def isDig (c : UInt8) : Bool := decide (48 ≤ c.toNat ∧ c.toNat ≤ 57)
theorem dec_dig (n : Nat) : (Lib.decDigits n).all isDig = true ∧ Lib.decDigits n ≠ [] := by
  induction n using Nat.strongRecOn with
  | ind n ih =>
    rw [Lib.decDigits]
    have e : ∀ d, d < 10 → isDig (UInt8.ofNat (48 + d)) = true := fun d hd => by
      have : (UInt8.ofNat (48 + d)).toNat = 48 + d := by rw [UInt8.toNat_ofNat']; omega
      unfold isDig; rw [this]; exact decide_eq_true (by omega)
    by_cases h0 : n < 10
    · rw [dif_pos h0]
      exact ⟨by rw [List.all_cons, e n h0]; rfl, by simp⟩
    · rw [dif_neg h0, List.all_append]
      have := (ih (n / 10) (by omega)).1
      exact ⟨by rw [this, List.all_cons, e (n % 10) (by omega)]; rfl, by simp⟩
theorem itoa_nat (n : Nat) : spItoa (n : Int) = Lib.decDigits n := Lib.itoa_nonneg n
theorem itoa_dig (n : Nat) : (spItoa (n : Int)).all isDig = true ∧ spItoa (n : Int) ≠ [] := by rw [itoa_nat]; exact dec_dig n
theorem atoi_itoa (n : Nat) (h : n < 1000000000000000000) : Lib.atoiAll (spItoa (n : Int)) = .ok (n : Int) := by
  have hp := parse_dec n h
  obtain ⟨hd, hn⟩ := dec_dig n
  rw [itoa_nat]
  cases hl : Lib.decDigits n with
  | nil => exact absurd hl hn
  | cons c r =>
    rw [hl] at hp hd
    simp only [List.all_cons, Bool.and_eq_true] at hd
    have hc := of_decide_eq_true hd.1
    unfold Lib.atoiAll
    simp only
    rw [if_neg (by omega)]
    unfold Lib.parseMag
    rw [if_neg (by simp), hp]
    simp only
    rw [if_neg (by omega), if_neg (by omega), if_neg (by omega)]
theorem numeral_itoa (n : Nat) (h0 : 1 ≤ n) (h1 : n ≤ 65535) : spNumeral (spItoa (n : Int)) = (n : Int) := by
  have h := atoi_itoa n (by omega)
  have e1 : spAtoiOk (spItoa (n : Int)) = true := by unfold spAtoiOk; rw [h]; rfl
  have e2 : spAtoi (spItoa (n : Int)) = n := by unfold spAtoi; rw [h]; rfl
  unfold spNumeral
  rw [e1, cond_true]
  have e3 : c96_cls (spItoa (n : Int)) = 1 := by
    unfold c96_cls c96k1 c96k2 c96k4
    rw [e2, decide_eq_false (by omega), decide_eq_false (by omega)]
    simp
  rw [e3, e2]
  rfl
theorem numeral_inv {s : List UInt8} (h : spNumeral s ≠ 0) : s = spItoa (spNumeral s) ∧ 1 ≤ spNumeral s ∧ spNumeral s ≤ 65535 := by
  unfold spNumeral at h ⊢
  cases h1 : spAtoiOk s with
  | false => rw [h1, cond_false] at h; exact absurd rfl h
  | true =>
    rw [h1, cond_true] at h
    rw [cond_true]
    unfold c96_cls c96k1 c96k2 c96k4 at h ⊢
    by_cases h2 : spAtoi s < 1
    · simp [h2] at h
    · by_cases h3 : spAtoi s > 65535
      · simp [h2, h3] at h
      · cases h4 : (!spItoa (spAtoi s) == s) with
        | true => simp [h2, h3, h4] at h
        | false =>
          simp only [decide_eq_false h2, decide_eq_false h3, cond_false, show Nat.beq 1 0 = false from rfl]
          have h5 : spItoa (spAtoi s) = s := by simpa using h4
          exact ⟨h5.symm, by omega, by omega⟩
theorem cut_char {x : UInt8} {a r : List UInt8} (h : ∀ c ∈ a, c ≠ x) : spBefore (a ++ x :: r) [x] = a ∧ spAfter (a ++ x :: r) [x] = r ∧ spFound (a ++ x :: r) [x] = true := by
  have hi : ∀ a : List UInt8, (∀ c ∈ a, c ≠ x) → Lib.index (a ++ x :: r) [x] = (a.length : Int) := by
    intro a
    induction a with
    | nil => intro _; simp [Lib.index]
    | cons c a ih =>
      intro h
      have hc : c ≠ x := h c (List.mem_cons_self ..)
      have := ih fun d hd => h d (List.mem_cons_of_mem _ hd)
      simp only [List.cons_append, Lib.index, this]
      have e : ([x] : List UInt8).isPrefixOf (c :: (a ++ x :: r)) = false := by simp [List.isPrefixOf, Ne.symm hc]
      rw [e]
      simp only [Bool.false_eq_true, if_false, List.length_cons]
      rw [if_neg (by simp)]
      omega
  have := hi a h
  unfold spBefore spAfter spFound Lib.cut
  rw [this, if_pos (by omega)]
  refine ⟨?_, ?_, rfl⟩
  · simp
  · simp [List.drop_append]
theorem cut_pre {t r : List UInt8} (h : t ≠ []) : spBefore (t ++ r) t = [] ∧ spAfter (t ++ r) t = r ∧ spFound (t ++ r) t = true := by
  have hi : Lib.index (t ++ r) t = 0 := by
    cases t with
    | nil => exact absurd rfl h
    | cons c l =>
      simp only [List.cons_append, Lib.index]
      have e : (c :: l).isPrefixOf (c :: (l ++ r)) = true := by
        rw [List.isPrefixOf_iff_prefix]; exact ⟨r, by simp⟩
      rw [e]; rfl
  unfold spBefore spAfter spFound Lib.cut
  rw [hi]
  simp
theorem firstAt_app {p : UInt8 → Bool} {c : UInt8} {r : List UInt8} : ∀ {a : List UInt8}, (∀ d ∈ a, p d = false) → p c = true → firstAt p (a ++ c :: r) = some a.length
  | [], _, hc => by simp [firstAt, hc]
  | d :: a, h, hc => by
    have := firstAt_app (r := r) (fun e he => h e (List.mem_cons_of_mem _ he)) hc
    simp [firstAt, h d (List.mem_cons_self ..), this]
theorem trim_ends {c d : UInt8} {m : List UInt8} (hc : c ≠ 32) (hd : d ≠ 32) : spTrim (c :: (m ++ [d])) [32] = c :: (m ++ [d]) := by
  unfold spTrim Lib.trimS Lib.trimRightS Lib.trimLeftS
  have e : (c :: (m ++ [d])).reverse = d :: (m.reverse ++ [c]) := by simp
  rw [e]
  simp [List.dropWhile_cons, hc, hd]
end Go.Proofs.YtpdgmgkkbbndfaaGreatDoor
set_option maxRecDepth 100000
set_option linter.unusedVariables false
set_option linter.unusedSimpArgs false
namespace Go.Proofs.YtpdgmgkkbbndfaaGreatDoor
open Go Go.Proofs Go.Proofs.YtpdgmgkkbbndfaaGreatDoor.SX
def plainC (c : UInt8) : Bool := isDig c || (c == 46 || c == 58)
theorem dig_plain {l : List UInt8} (h : l.all isDig = true) : ∀ c ∈ l, plainC c = true := fun c hc => by
  unfold plainC; rw [List.all_eq_true.1 h c hc]; rfl
theorem itoa_plain {n : Int} (h : 0 ≤ n) : ∀ c ∈ spItoa n, plainC c = true := by
  obtain ⟨k, rfl⟩ := Int.eq_ofNat_of_zero_le h
  exact dig_plain (itoa_dig k).1
theorem dotted_plain (a : Int) : ∀ c ∈ spDotted a, plainC c = true := by
  have h1 := itoa_plain (octet_range a 16777216).1; have h2 := itoa_plain (octet_range a 65536).1; have h3 := itoa_plain (octet_range a 256).1; have h4 := itoa_plain (octet_range a 1).1
  unfold spDotted
  rw [join4]
  intro c hc
  simp only [List.mem_append, List.mem_cons, List.not_mem_nil, or_false] at hc
  rcases hc with (((((h | h) | h) | h) | h) | h) | h
  · exact h1 c h
  · subst h; rfl
  · exact h2 c h
  · subst h; rfl
  · exact h3 c h
  · subst h; rfl
  · exact h4 c h
def hp (a p : Int) : List UInt8 := spDotted a ++ [58] ++ spItoa p
theorem hp_plain {a p : Int} (h : 0 ≤ p) : ∀ c ∈ hp a p, plainC c = true := by
  unfold hp
  intro c hc
  simp only [List.mem_append, List.mem_cons, List.not_mem_nil, or_false] at hc
  rcases hc with (h1 | h1) | h1
  · exact dotted_plain a c h1
  · subst h1; rfl
  · exact itoa_plain h c h1
theorem plain_ne {c d : UInt8} (h : plainC c = true) (hd : plainC d = false) : c ≠ d := fun e => by rw [e, hd] at h; cases h
theorem hp_len {a p : Int} (h0 : 0 ≤ p) (h1 : p ≤ 65535) : (hp a p).length ≤ 109 := by
  have h2 := len_dotted a
  have h3 := len_itoa p (by omega)
  unfold hp
  simp only [List.length_append, List.length_cons, List.length_nil]; omega
theorem hasPre_app (p r : List UInt8) : spHasPre (p ++ r) p = true := by
  unfold spHasPre Lib.hasPrefix
  rw [List.isPrefixOf_iff_prefix]
  exact ⟨r, rfl⟩
theorem trimPre_app (p r : List UInt8) : spTrimPre (p ++ r) p = r := by
  unfold spTrimPre Lib.trimPrefix
  have := hasPre_app p r
  unfold spHasPre at this
  rw [this, if_pos rfl]
  simp
theorem place_hp {a b p tp : Int} (h0 : 1 ≤ p) (h1 : p ≤ 65535) : spPlace (spDotted a) (spDotted b) (hp a p) p tp = hp b tp := by
  obtain ⟨n, rfl⟩ := Int.eq_ofNat_of_zero_le (show 0 ≤ p by omega)
  have hn := numeral_itoa n (by omega) (by omega)
  unfold spPlace hp
  rw [hasPre_app, trimPre_app, hn]
  have e1 : (spDotted a ++ [58] ++ spItoa (n : Int) == spDotted a) = false := by
    rw [beq_eq_false_iff_ne]
    intro e
    have := congrArg List.length e
    simp only [List.length_append, List.length_cons, List.length_nil] at this
    omega
  have e2 : ((n : Int) == 0) = false := by rw [beq_eq_false_iff_ne]; omega
  rw [e1, e2, show ((n : Int) == (n : Int)) = true by simp]
  rfl
theorem behind_of {hs ts s mark signs b a : List UInt8} {p tp : Int} {c : UInt8} {h r : List UInt8} (h1 : spBefore s mark = b ∧ spAfter s mark = a ∧ spFound s mark = true) (h2 : a = h ++ c :: r) (h3 : ∀ d ∈ h, signs.contains d = false) (h4 : signs.contains c = true) :
    spBehind hs ts s mark signs p tp = b ++ mark ++ spPlace hs ts h p tp ++ c :: r := by
  obtain ⟨e1, e2, e3⟩ := h1
  subst h2
  unfold spBehind
  rw [e1, e2, e3]
  have e4 : spAnyAt (h ++ c :: r) signs = (h.length : Int) := by
    unfold spAnyAt
    rw [firstAt_app (p := fun c => signs.contains c) h3 h4]
  have e5 : spEnd (h ++ c :: r) signs = h.length := by
    unfold spEnd
    rw [e4, decide_eq_false (by omega)]
    rfl
  rw [e5]
  have e6 : sub (h ++ c :: r) 0 h.length = h := by simp [sub]
  have e7 : sub (h ++ c :: r) h.length ((h ++ c :: r).length - h.length) = c :: r := by simp [sub]
  rw [e6, e7]
  rfl
def sgInv : List UInt8 := [73, 78, 86, 73, 84, 69]
def v1 (h : List UInt8) : List UInt8 := mkVia ++ (h ++ [59, 120])
def v2 (h : List UInt8) : List UInt8 := [60, 115, 105, 112, 58, 97] ++ 64 :: (h ++ [62])
def rows3 (h : List UInt8) : List (List AV) := [[.str [118, 105, 97], .str (v1 h)], [.str [67, 79, 78, 84, 65, 67, 84], .str (v2 h)], [.str [67, 111, 110, 116, 101, 110, 116, 45, 76, 101, 110, 103, 116, 104], .str [48]]]
theorem via_hp {a b p tp : Int} (h0 : 1 ≤ p) (h1 : p ≤ 65535) : spBehind (spDotted a) (spDotted b) (v1 (hp a p)) mkVia [59] p tp = v1 (hp b tp) := by
  have hpl := hp_plain (a := a) (p := p) (by omega)
  rw [show v1 (hp a p) = mkVia ++ (hp a p ++ [59, 120]) from rfl, behind_of (h := hp a p) (c := 59) (r := [120]) (cut_pre (t := mkVia) (r := hp a p ++ [59, 120]) (by decide)) rfl (fun d hd => ?_) rfl, place_hp h0 h1]
  · unfold v1; simp
  · have := plain_ne (hpl d hd) (show plainC 59 = false by decide)
    simp [this]
theorem contact_hp {a b p tp : Int} (h0 : 1 ≤ p) (h1 : p ≤ 65535) : spBehind (spDotted a) (spDotted b) (v2 (hp a p)) [64] [62, 59] p tp = v2 (hp b tp) := by
  have hpl := hp_plain (a := a) (p := p) (by omega)
  rw [show v2 (hp a p) = [60, 115, 105, 112, 58, 97] ++ 64 :: (hp a p ++ [62]) from rfl, behind_of (h := hp a p) (c := 62) (r := []) (cut_char (x := 64) (a := [60, 115, 105, 112, 58, 97]) (r := hp a p ++ [62]) (by decide)) rfl (fun d hd => ?_) rfl, place_hp h0 h1]
  · unfold v2; simp
  · have e1 := plain_ne (hpl d hd) (show plainC 62 = false by decide)
    have e2 := plain_ne (hpl d hd) (show plainC 59 = false by decide)
    simp [e1, e2]
theorem itoa0 : spItoa 0 = [48] := by
  have : spItoa ((0 : Nat) : Int) = [48] := by rw [itoa_nat, Lib.decDigits_one (by decide)]; rfl
  exact this
theorem body0 (a b : Int) : rwBody a b [] [] = [] := by
  unfold rwBody
  have e1 : spLines (([] : List (List AV)).map rowByte) = [([], [])] := by decide
  rw [e1]
  unfold outB spLineOut spLine
  have e2 : (([] : List UInt8) == sgConn ++ spDotted a) = false := rfl
  have e3 : spHasSuf [] (sgOrig ++ spDotted a) = false := by
    unfold spHasSuf Lib.hasSuffix
    cases h : (sgOrig ++ spDotted a).isSuffixOf ([] : List UInt8) with
    | false => rfl
    | true =>
      rw [List.isSuffixOf_iff_suffix] at h
      have := h.length_le
      simp [sgOrig] at this
  have e4 : spIdx [] (spMedN []) = -1 := rfl
  simp only [List.map_cons, List.map_nil, e2, e3, e4]
  rfl
theorem not_crlf {l : List UInt8} (h : ∀ c ∈ l, plainC c = true) : l.any isCrlf = false := by
  rw [List.any_eq_false]
  intro c hc
  have e1 := plain_ne (h c hc) (show plainC 13 = false by decide)
  have e2 := plain_ne (h c hc) (show plainC 10 = false by decide)
  simp [isCrlf, e1, e2]
theorem right3 {h : List UInt8} (hc : ∀ c ∈ h, plainC c = true) (hl : h.length ≤ 200) : spRight sgInv (rows3 h) 0 = true := by
  have hb := not_crlf hc
  have b1 : spBroken (v1 h) = false := by unfold spBroken v1; rw [List.any_append, List.any_append, hb]; rfl
  have b2 : spBroken (v2 h) = false := by unfold spBroken v2; simp only [List.any_append, List.any_cons, List.any_nil, hb]; rfl
  have t1 : spTrim (v1 h) [32] = v1 h := by
    have e : v1 h = 83 :: (([73, 80, 47, 50, 46, 48, 47, 85, 68, 80, 32] ++ (h ++ [59])) ++ [120]) := by unfold v1 mkVia; simp
    rw [e]; exact trim_ends (by decide) (by decide)
  have t2 : spTrim (v2 h) [32] = v2 h := by
    have e : v2 h = 60 :: (([115, 105, 112, 58, 97] ++ 64 :: h) ++ [62]) := by unfold v2; simp
    rw [e]; exact trim_ends (by decide) (by decide)
  have t3 : spTrim [48] [32] = [48] := by decide
  have l1 : (v1 h).length = h.length + 14 := by unfold v1 mkVia; simp
  have l2 : (v2 h).length = h.length + 8 := by unfold v2; simp
  have n1 : isLen [.str [118, 105, 97], .str (v1 h)] = false := by show (spLow [118, 105, 97] == sgLen) = false; decide
  have n2 : isLen [.str [67, 79, 78, 84, 65, 67, 84], .str (v2 h)] = false := by show (spLow [67, 79, 78, 84, 65, 67, 84] == sgLen) = false; decide
  have n3 : isLen [.str [67, 111, 110, 116, 101, 110, 116, 45, 76, 101, 110, 103, 116, 104], .str [48]] = true := by show (spLow [67, 111, 110, 116, 101, 110, 116, 45, 76, 101, 110, 103, 116, 104] == sgLen) = true; decide
  have o1 : okHdr 0 [.str [118, 105, 97], .str (v1 h)] = true := by
    unfold okHdr; rw [n1]
    show (spIsName [118, 105, 97] && (!spBroken (v1 h) && ((spTrim (v1 h) [32] == v1 h) && (!false || _)))) = true
    rw [b1, t1, show spIsName [118, 105, 97] = true by decide]; simp
  have o2 : okHdr 0 [.str [67, 79, 78, 84, 65, 67, 84], .str (v2 h)] = true := by
    unfold okHdr; rw [n2]
    show (spIsName [67, 79, 78, 84, 65, 67, 84] && (!spBroken (v2 h) && ((spTrim (v2 h) [32] == v2 h) && (!false || _)))) = true
    rw [b2, t2, show spIsName [67, 79, 78, 84, 65, 67, 84] = true by decide]; simp
  have o3 : okHdr 0 [.str [67, 111, 110, 116, 101, 110, 116, 45, 76, 101, 110, 103, 116, 104], .str [48]] = true := by
    unfold okHdr; rw [n3]
    show (spIsName [67, 111, 110, 116, 101, 110, 116, 45, 76, 101, 110, 103, 116, 104] && (!spBroken [48] && ((spTrim [48] [32] == [48]) && (!true || ([48] == spItoa 0))))) = true
    rw [t3, itoa0, show spIsName [67, 111, 110, 116, 101, 110, 116, 45, 76, 101, 110, 103, 116, 104] = true by decide]; decide
  unfold spRight rows3
  have hs : hSize [[.str [118, 105, 97], .str (v1 h)], [.str [67, 79, 78, 84, 65, 67, 84], .str (v2 h)], [.str [67, 111, 110, 116, 101, 110, 116, 45, 76, 101, 110, 103, 116, 104], .str [48]]] = 3 + (v1 h).length + 4 + (7 + (v2 h).length + 4 + (14 + 1 + 4)) := rfl
  have hn : nLens [[.str [118, 105, 97], .str (v1 h)], [.str [67, 79, 78, 84, 65, 67, 84], .str (v2 h)], [.str [67, 111, 110, 116, 101, 110, 116, 45, 76, 101, 110, 103, 116, 104], .str [48]]] = 1 := by
    unfold nLens; simp only [List.filter_cons, n1, n2, n3]; rfl
  rw [hs, hn, l1, l2]
  simp only [List.all_cons, List.all_nil, o1, o2, o3]
  have e : decide (sgInv.length + 4 + 0 + (3 + (h.length + 14) + 4 + (7 + (h.length + 8) + 4 + (14 + 1 + 4))) ≤ 4096) = true := decide_eq_true (by simp only [sgInv, List.length_cons, List.length_nil]; omega)
  rw [e]
  rfl
theorem hdr_via (hs ts : List UInt8) (p tp : Int) (m : Nat) (v : List UInt8) : spHdr hs ts p tp m [.str [118, 105, 97], .str v] = [.str [118, 105, 97], .str (spBehind hs ts v mkVia [59] p tp)] := by
  unfold spHdr
  rw [show (spLow (hN [.str [118, 105, 97], .str v]) == sgVia) = true by show (spLow [118, 105, 97] == sgVia) = true; decide]
  rfl
theorem hdr_contact (hs ts : List UInt8) (p tp : Int) (m : Nat) (v : List UInt8) : spHdr hs ts p tp m [.str [67, 79, 78, 84, 65, 67, 84], .str v] = [.str [67, 79, 78, 84, 65, 67, 84], .str (spBehind hs ts v [64] [62, 59] p tp)] := by
  unfold spHdr
  rw [show (spLow (hN [.str [67, 79, 78, 84, 65, 67, 84], .str v]) == sgVia) = false by show (spLow [67, 79, 78, 84, 65, 67, 84] == sgVia) = false; decide,
    show (spLow (hN [.str [67, 79, 78, 84, 65, 67, 84], .str v]) == sgContact) = true by show (spLow [67, 79, 78, 84, 65, 67, 84] == sgContact) = true; decide]
  rfl
theorem hdr_len (hs ts : List UInt8) (p tp : Int) (m : Nat) (v : List UInt8) : spHdr hs ts p tp m [.str [67, 111, 110, 116, 101, 110, 116, 45, 76, 101, 110, 103, 116, 104], .str v] = [.str [67, 111, 110, 116, 101, 110, 116, 45, 76, 101, 110, 103, 116, 104], .str (spItoa (m : Int))] := by
  unfold spHdr
  rw [show (spLow (hN [.str [67, 111, 110, 116, 101, 110, 116, 45, 76, 101, 110, 103, 116, 104], .str v]) == sgVia) = false by show (spLow [67, 111, 110, 116, 101, 110, 116, 45, 76, 101, 110, 103, 116, 104] == sgVia) = false; decide,
    show (spLow (hN [.str [67, 111, 110, 116, 101, 110, 116, 45, 76, 101, 110, 103, 116, 104], .str v]) == sgContact) = false by show (spLow [67, 111, 110, 116, 101, 110, 116, 45, 76, 101, 110, 103, 116, 104] == sgContact) = false; decide,
    show (spLow (hN [.str [67, 111, 110, 116, 101, 110, 116, 45, 76, 101, 110, 103, 116, 104], .str v]) == sgLen) = true by show (spLow [67, 111, 110, 116, 101, 110, 116, 45, 76, 101, 110, 103, 116, 104] == sgLen) = true; decide]
  rfl
theorem hides {host to_ p0 p1 : Int} (h0 : 1 ≤ p0) (h1 : p0 ≤ 65535) (h2 : 0 ≤ p1) (h3 : p1 ≤ 65535) : spRwH sgInv host to_ p0 p1 [] (rows3 (hp host p0)) [] = rows3 (hp to_ p1) := by
  have w0 : IntKind.wrap .i64 p0 = p0 := IntWalk.i64_in _ (by omega)
  have w1 : IntKind.wrap .i64 p1 = p1 := IntWalk.i64_in _ (by omega)
  have e1 : rwHdrs host to_ p0 p1 [] (rows3 (hp host p0)) [] = rows3 (hp to_ p1) := by
    unfold rwHdrs
    rw [body0, w0, w1]
    unfold rows3
    simp only [List.map_cons, List.map_nil]
    rw [hdr_via, hdr_contact, hdr_len, via_hp h0 h1, contact_hp h0 h1]
    rw [show spItoa (([] : List UInt8).length : Int) = [48] from itoa0]
  have r1 := right3 (hp_plain (a := host) (p := p0) (by omega)) (by have := hp_len (a := host) (p := p0) (by omega) h1; omega)
  have r2 := right3 (hp_plain (a := to_) (p := p1) h2) (by have := hp_len (a := to_) (p := p1) h2 h3; omega)
  have e2 : rwOk sgInv host to_ p0 p1 [] (rows3 (hp host p0)) [] = true := by
    unfold rwOk
    rw [e1, body0]
    show (spRight sgInv (rows3 (hp host p0)) 0 && spRight sgInv (rows3 (hp to_ p1)) 0) = true
    rw [r1, r2]; rfl
  unfold spRwH
  rw [e2, e1]
  rfl
end Go.Proofs.YtpdgmgkkbbndfaaGreatDoor
set_option maxRecDepth 100000
set_option maxHeartbeats 6400000
set_option linter.unusedVariables false
set_option linter.unusedSimpArgs false
namespace Go.Proofs.YtpdgmgkkbbndfaaGreatDoor
open Go Go.Proofs Go.Proofs.YtpdgmgkkbbndfaaGreatDoor.SX
theorem c5_T (host : Int) (to_ : Int) (p0 : Int) (p1 : Int) :
    Path (runCallB Tryz.prog P11 100 5 [AV.int IntKind.u32 host, AV.int IntKind.u32 to_, AV.agg [AV.int IntKind.u16 p0, AV.int IntKind.u16 p1]] (st0 [] ([.as_ true]))) 0 [] (SL.mk [] [] 0) (Out.ret (AV.bool true))
      ((True ∧ ((host == to_) = true)) ∧ (true = true)) := by unfold Path; kernel_rfl
theorem c5_FT (host : Int) (to_ : Int) (p0 : Int) (p1 : Int) :
    Path (runCallB Tryz.prog P11 100 5 [AV.int IntKind.u32 host, AV.int IntKind.u32 to_, AV.agg [AV.int IntKind.u16 p0, AV.int IntKind.u16 p1]] (st0 [] ([.as_ false, .as_ true]))) 0 [] (SL.mk [] [] 0) (Out.ret (AV.bool true))
      (((((True ∧ ((host == to_) = false)) ∧ (true = true)) ∧ (true = true)) ∧ ((p0 == (0 : Int)) = true)) ∧ (true = true)) := by unfold Path; kernel_rfl
theorem c5_FFT (host : Int) (to_ : Int) (p0 : Int) (p1 : Int) :
    Path (runCallB Tryz.prog P11 100 5 [AV.int IntKind.u32 host, AV.int IntKind.u32 to_, AV.agg [AV.int IntKind.u16 p0, AV.int IntKind.u16 p1]] (st0 [] ([.as_ false, .as_ false, .as_ true]))) 0 [] (SL.mk [] [] 0) (Out.ret (AV.bool true))
      ((((((((True ∧ ((host == to_) = false)) ∧ (true = true)) ∧ (true = true)) ∧ ((p0 == (0 : Int)) = false)) ∧ (true = true)) ∧ (true = true)) ∧ ((p1 == (0 : Int)) = true)) ∧ (true = true)) := by unfold Path; kernel_rfl
theorem c5_FFFETT (host : Int) (to_ : Int) (p0 : Int) (p1 : Int) :
    Path (runCallB Tryz.prog P11 100 5 [AV.int IntKind.u32 host, AV.int IntKind.u32 to_, AV.agg [AV.int IntKind.u16 p0, AV.int IntKind.u16 p1]] (st0 [] ([.as_ false, .as_ false, .as_ false, PI.ev 1, .as_ true, .as_ true]))) 0 [] (SL.mk [] [] 0) (Out.ret (AV.bool (AV.toStr (List.getD (List.getD (spRwH [(73 : UInt8), (78 : UInt8), (86 : UInt8), (73 : UInt8), (84 : UInt8), (69 : UInt8)] host to_ p0 p1 [] [[AV.str [(118 : UInt8), (105 : UInt8), (97 : UInt8)], AV.str ((83 : UInt8) :: (73 : UInt8) :: (80 : UInt8) :: (47 : UInt8) :: (50 : UInt8) :: (46 : UInt8) :: (48 : UInt8) :: (47 : UInt8) :: (85 : UInt8) :: (68 : UInt8) :: (80 : UInt8) :: (32 : UInt8) :: (spDotted host ++ [(58 : UInt8)] ++ spItoa (IntKind.wrap IntKind.i64 p0) ++ [(59 : UInt8), (120 : UInt8)]))], [AV.str [(67 : UInt8), (79 : UInt8), (78 : UInt8), (84 : UInt8), (65 : UInt8), (67 : UInt8), (84 : UInt8)], AV.str ((60 : UInt8) :: (115 : UInt8) :: (105 : UInt8) :: (112 : UInt8) :: (58 : UInt8) :: (97 : UInt8) :: (64 : UInt8) :: (spDotted host ++ [(58 : UInt8)] ++ spItoa (IntKind.wrap IntKind.i64 p0) ++ [(62 : UInt8)]))], [AV.str [(67 : UInt8), (111 : UInt8), (110 : UInt8), (116 : UInt8), (101 : UInt8), (110 : UInt8), (116 : UInt8), (45 : UInt8), (76 : UInt8), (101 : UInt8), (110 : UInt8), (103 : UInt8), (116 : UInt8), (104 : UInt8)], AV.str [(48 : UInt8)]]] []) (1) []) (1) AV.undef) == (60 : UInt8) :: (115 : UInt8) :: (105 : UInt8) :: (112 : UInt8) :: (58 : UInt8) :: (97 : UInt8) :: (64 : UInt8) :: (spDotted to_ ++ [(58 : UInt8)] ++ spItoa (IntKind.wrap IntKind.i64 p1) ++ [(62 : UInt8)]))))
      (((((((((((((((((((((((((((((((((((((((((((((((((((((((((True ∧ ((host == to_) = false)) ∧ (true = true)) ∧ (true = true)) ∧ ((p0 == (0 : Int)) = false)) ∧ (true = true)) ∧ (true = true)) ∧ ((p1 == (0 : Int)) = false)) ∧ (true = true)) ∧ (true = true)) ∧ (decide ((0 : Int) ≤ host ∧ host < (4294967296 : Int)) = true)) ∧ (decide (List.length (spDotted host) + 1 ≤ 9223372036854775807) = true)) ∧ (decide ((0 : Int) ≤ IntKind.wrap IntKind.i64 p0 ∧ IntKind.wrap IntKind.i64 p0 < (9223372036854775808 : Int)) = true)) ∧ (decide (List.length (spDotted host ++ [(58 : UInt8)]) + List.length (spItoa (IntKind.wrap IntKind.i64 p0)) ≤ 9223372036854775807) = true)) ∧ (decide (12 + List.length (spDotted host ++ [(58 : UInt8)] ++ spItoa (IntKind.wrap IntKind.i64 p0)) ≤ 9223372036854775807) = true)) ∧ (decide (List.length ((83 : UInt8) :: (73 : UInt8) :: (80 : UInt8) :: (47 : UInt8) :: (50 : UInt8) :: (46 : UInt8) :: (48 : UInt8) :: (47 : UInt8) :: (85 : UInt8) :: (68 : UInt8) :: (80 : UInt8) :: (32 : UInt8) :: (spDotted host ++ [(58 : UInt8)] ++ spItoa (IntKind.wrap IntKind.i64 p0))) + 2 ≤ 9223372036854775807) = true)) ∧ (decide (7 + List.length (spDotted host ++ [(58 : UInt8)] ++ spItoa (IntKind.wrap IntKind.i64 p0)) ≤ 9223372036854775807) = true)) ∧ (decide (List.length ((60 : UInt8) :: (115 : UInt8) :: (105 : UInt8) :: (112 : UInt8) :: (58 : UInt8) :: (97 : UInt8) :: (64 : UInt8) :: (spDotted host ++ [(58 : UInt8)] ++ spItoa (IntKind.wrap IntKind.i64 p0))) + 1 ≤ 9223372036854775807) = true)) ∧ (true = true)) ∧ (true = true)) ∧ (true = true)) ∧ (true = true)) ∧ (true = true)) ∧ (true = true)) ∧ (true = true)) ∧ (true = true)) ∧ (true = true)) ∧ (true = true)) ∧ (true = true)) ∧ ((true && (true && (true && decide (6 ≤ 4294967200 ∧ (decide (3 ≤ 4294967200 ∧ List.length ((83 : UInt8) :: (73 : UInt8) :: (80 : UInt8) :: (47 : UInt8) :: (50 : UInt8) :: (46 : UInt8) :: (48 : UInt8) :: (47 : UInt8) :: (85 : UInt8) :: (68 : UInt8) :: (80 : UInt8) :: (32 : UInt8) :: (spDotted host ++ [(58 : UInt8)] ++ spItoa (IntKind.wrap IntKind.i64 p0) ++ [(59 : UInt8), (120 : UInt8)])) ≤ 4294967200) && (decide (7 ≤ 4294967200 ∧ List.length ((60 : UInt8) :: (115 : UInt8) :: (105 : UInt8) :: (112 : UInt8) :: (58 : UInt8) :: (97 : UInt8) :: (64 : UInt8) :: (spDotted host ++ [(58 : UInt8)] ++ spItoa (IntKind.wrap IntKind.i64 p0) ++ [(62 : UInt8)])) ≤ 4294967200) && true)) = true ∧ 3 ≤ 4398046511104 ∧ 0 ≤ 140737488355328 ∧ 0 ≤ 4611686018427387904 ∧ true = true)))) = true)) ∧ (true = true)) ∧ (true = true)) ∧ (true = true)) ∧ (true = true)) ∧ (true = true)) ∧ (true = true)) ∧ (true = true)) ∧ (true = true)) ∧ (decide ((0 : Int) ≤ to_ ∧ to_ < (4294967296 : Int)) = true)) ∧ (decide (List.length (spDotted to_) + 1 ≤ 9223372036854775807) = true)) ∧ (decide ((0 : Int) ≤ IntKind.wrap IntKind.i64 p1 ∧ IntKind.wrap IntKind.i64 p1 < (9223372036854775808 : Int)) = true)) ∧ (decide (List.length (spDotted to_ ++ [(58 : UInt8)]) + List.length (spItoa (IntKind.wrap IntKind.i64 p1)) ≤ 9223372036854775807) = true)) ∧ (true = true)) ∧ (true = true)) ∧ (((↑(List.length (spRwH [(73 : UInt8), (78 : UInt8), (86 : UInt8), (73 : UInt8), (84 : UInt8), (69 : UInt8)] host to_ p0 p1 [] [[AV.str [(118 : UInt8), (105 : UInt8), (97 : UInt8)], AV.str ((83 : UInt8) :: (73 : UInt8) :: (80 : UInt8) :: (47 : UInt8) :: (50 : UInt8) :: (46 : UInt8) :: (48 : UInt8) :: (47 : UInt8) :: (85 : UInt8) :: (68 : UInt8) :: (80 : UInt8) :: (32 : UInt8) :: (spDotted host ++ [(58 : UInt8)] ++ spItoa (IntKind.wrap IntKind.i64 p0) ++ [(59 : UInt8), (120 : UInt8)]))], [AV.str [(67 : UInt8), (79 : UInt8), (78 : UInt8), (84 : UInt8), (65 : UInt8), (67 : UInt8), (84 : UInt8)], AV.str ((60 : UInt8) :: (115 : UInt8) :: (105 : UInt8) :: (112 : UInt8) :: (58 : UInt8) :: (97 : UInt8) :: (64 : UInt8) :: (spDotted host ++ [(58 : UInt8)] ++ spItoa (IntKind.wrap IntKind.i64 p0) ++ [(62 : UInt8)]))], [AV.str [(67 : UInt8), (111 : UInt8), (110 : UInt8), (116 : UInt8), (101 : UInt8), (110 : UInt8), (116 : UInt8), (45 : UInt8), (76 : UInt8), (101 : UInt8), (110 : UInt8), (103 : UInt8), (116 : UInt8), (104 : UInt8)], AV.str [(48 : UInt8)]]] [])) : Int) == (3 : Int)) = true)) ∧ (true = true)) ∧ (decide (0 < List.length (spRwH [(73 : UInt8), (78 : UInt8), (86 : UInt8), (73 : UInt8), (84 : UInt8), (69 : UInt8)] host to_ p0 p1 [] [[AV.str [(118 : UInt8), (105 : UInt8), (97 : UInt8)], AV.str ((83 : UInt8) :: (73 : UInt8) :: (80 : UInt8) :: (47 : UInt8) :: (50 : UInt8) :: (46 : UInt8) :: (48 : UInt8) :: (47 : UInt8) :: (85 : UInt8) :: (68 : UInt8) :: (80 : UInt8) :: (32 : UInt8) :: (spDotted host ++ [(58 : UInt8)] ++ spItoa (IntKind.wrap IntKind.i64 p0) ++ [(59 : UInt8), (120 : UInt8)]))], [AV.str [(67 : UInt8), (79 : UInt8), (78 : UInt8), (84 : UInt8), (65 : UInt8), (67 : UInt8), (84 : UInt8)], AV.str ((60 : UInt8) :: (115 : UInt8) :: (105 : UInt8) :: (112 : UInt8) :: (58 : UInt8) :: (97 : UInt8) :: (64 : UInt8) :: (spDotted host ++ [(58 : UInt8)] ++ spItoa (IntKind.wrap IntKind.i64 p0) ++ [(62 : UInt8)]))], [AV.str [(67 : UInt8), (111 : UInt8), (110 : UInt8), (116 : UInt8), (101 : UInt8), (110 : UInt8), (116 : UInt8), (45 : UInt8), (76 : UInt8), (101 : UInt8), (110 : UInt8), (103 : UInt8), (116 : UInt8), (104 : UInt8)], AV.str [(48 : UInt8)]]] [])) = true)) ∧ (decide ((0 : Int) ≤ (0 : Int) ∧ (0 : Int) < (↑(List.length (spRwH [(73 : UInt8), (78 : UInt8), (86 : UInt8), (73 : UInt8), (84 : UInt8), (69 : UInt8)] host to_ p0 p1 [] [[AV.str [(118 : UInt8), (105 : UInt8), (97 : UInt8)], AV.str ((83 : UInt8) :: (73 : UInt8) :: (80 : UInt8) :: (47 : UInt8) :: (50 : UInt8) :: (46 : UInt8) :: (48 : UInt8) :: (47 : UInt8) :: (85 : UInt8) :: (68 : UInt8) :: (80 : UInt8) :: (32 : UInt8) :: (spDotted host ++ [(58 : UInt8)] ++ spItoa (IntKind.wrap IntKind.i64 p0) ++ [(59 : UInt8), (120 : UInt8)]))], [AV.str [(67 : UInt8), (79 : UInt8), (78 : UInt8), (84 : UInt8), (65 : UInt8), (67 : UInt8), (84 : UInt8)], AV.str ((60 : UInt8) :: (115 : UInt8) :: (105 : UInt8) :: (112 : UInt8) :: (58 : UInt8) :: (97 : UInt8) :: (64 : UInt8) :: (spDotted host ++ [(58 : UInt8)] ++ spItoa (IntKind.wrap IntKind.i64 p0) ++ [(62 : UInt8)]))], [AV.str [(67 : UInt8), (111 : UInt8), (110 : UInt8), (116 : UInt8), (101 : UInt8), (110 : UInt8), (116 : UInt8), (45 : UInt8), (76 : UInt8), (101 : UInt8), (110 : UInt8), (103 : UInt8), (116 : UInt8), (104 : UInt8)], AV.str [(48 : UInt8)]]] [])) : Int)) = true)) ∧ (decide (0 < List.length (spRwH [(73 : UInt8), (78 : UInt8), (86 : UInt8), (73 : UInt8), (84 : UInt8), (69 : UInt8)] host to_ p0 p1 [] [[AV.str [(118 : UInt8), (105 : UInt8), (97 : UInt8)], AV.str ((83 : UInt8) :: (73 : UInt8) :: (80 : UInt8) :: (47 : UInt8) :: (50 : UInt8) :: (46 : UInt8) :: (48 : UInt8) :: (47 : UInt8) :: (85 : UInt8) :: (68 : UInt8) :: (80 : UInt8) :: (32 : UInt8) :: (spDotted host ++ [(58 : UInt8)] ++ spItoa (IntKind.wrap IntKind.i64 p0) ++ [(59 : UInt8), (120 : UInt8)]))], [AV.str [(67 : UInt8), (79 : UInt8), (78 : UInt8), (84 : UInt8), (65 : UInt8), (67 : UInt8), (84 : UInt8)], AV.str ((60 : UInt8) :: (115 : UInt8) :: (105 : UInt8) :: (112 : UInt8) :: (58 : UInt8) :: (97 : UInt8) :: (64 : UInt8) :: (spDotted host ++ [(58 : UInt8)] ++ spItoa (IntKind.wrap IntKind.i64 p0) ++ [(62 : UInt8)]))], [AV.str [(67 : UInt8), (111 : UInt8), (110 : UInt8), (116 : UInt8), (101 : UInt8), (110 : UInt8), (116 : UInt8), (45 : UInt8), (76 : UInt8), (101 : UInt8), (110 : UInt8), (103 : UInt8), (116 : UInt8), (104 : UInt8)], AV.str [(48 : UInt8)]]] [])) = true)) ∧ (decide (12 + List.length (spDotted to_ ++ [(58 : UInt8)] ++ spItoa (IntKind.wrap IntKind.i64 p1)) ≤ 9223372036854775807) = true)) ∧ (decide (List.length ((83 : UInt8) :: (73 : UInt8) :: (80 : UInt8) :: (47 : UInt8) :: (50 : UInt8) :: (46 : UInt8) :: (48 : UInt8) :: (47 : UInt8) :: (85 : UInt8) :: (68 : UInt8) :: (80 : UInt8) :: (32 : UInt8) :: (spDotted to_ ++ [(58 : UInt8)] ++ spItoa (IntKind.wrap IntKind.i64 p1))) + 2 ≤ 9223372036854775807) = true)) ∧ ((AV.toStr (List.getD (List.getD (spRwH [(73 : UInt8), (78 : UInt8), (86 : UInt8), (73 : UInt8), (84 : UInt8), (69 : UInt8)] host to_ p0 p1 [] [[AV.str [(118 : UInt8), (105 : UInt8), (97 : UInt8)], AV.str ((83 : UInt8) :: (73 : UInt8) :: (80 : UInt8) :: (47 : UInt8) :: (50 : UInt8) :: (46 : UInt8) :: (48 : UInt8) :: (47 : UInt8) :: (85 : UInt8) :: (68 : UInt8) :: (80 : UInt8) :: (32 : UInt8) :: (spDotted host ++ [(58 : UInt8)] ++ spItoa (IntKind.wrap IntKind.i64 p0) ++ [(59 : UInt8), (120 : UInt8)]))], [AV.str [(67 : UInt8), (79 : UInt8), (78 : UInt8), (84 : UInt8), (65 : UInt8), (67 : UInt8), (84 : UInt8)], AV.str ((60 : UInt8) :: (115 : UInt8) :: (105 : UInt8) :: (112 : UInt8) :: (58 : UInt8) :: (97 : UInt8) :: (64 : UInt8) :: (spDotted host ++ [(58 : UInt8)] ++ spItoa (IntKind.wrap IntKind.i64 p0) ++ [(62 : UInt8)]))], [AV.str [(67 : UInt8), (111 : UInt8), (110 : UInt8), (116 : UInt8), (101 : UInt8), (110 : UInt8), (116 : UInt8), (45 : UInt8), (76 : UInt8), (101 : UInt8), (110 : UInt8), (103 : UInt8), (116 : UInt8), (104 : UInt8)], AV.str [(48 : UInt8)]]] []) (0) []) (1) AV.undef) == (83 : UInt8) :: (73 : UInt8) :: (80 : UInt8) :: (47 : UInt8) :: (50 : UInt8) :: (46 : UInt8) :: (48 : UInt8) :: (47 : UInt8) :: (85 : UInt8) :: (68 : UInt8) :: (80 : UInt8) :: (32 : UInt8) :: (spDotted to_ ++ [(58 : UInt8)] ++ spItoa (IntKind.wrap IntKind.i64 p1) ++ [(59 : UInt8), (120 : UInt8)])) = true)) ∧ (true = true)) ∧ (decide (0 < List.length (spRwH [(73 : UInt8), (78 : UInt8), (86 : UInt8), (73 : UInt8), (84 : UInt8), (69 : UInt8)] host to_ p0 p1 [] [[AV.str [(118 : UInt8), (105 : UInt8), (97 : UInt8)], AV.str ((83 : UInt8) :: (73 : UInt8) :: (80 : UInt8) :: (47 : UInt8) :: (50 : UInt8) :: (46 : UInt8) :: (48 : UInt8) :: (47 : UInt8) :: (85 : UInt8) :: (68 : UInt8) :: (80 : UInt8) :: (32 : UInt8) :: (spDotted host ++ [(58 : UInt8)] ++ spItoa (IntKind.wrap IntKind.i64 p0) ++ [(59 : UInt8), (120 : UInt8)]))], [AV.str [(67 : UInt8), (79 : UInt8), (78 : UInt8), (84 : UInt8), (65 : UInt8), (67 : UInt8), (84 : UInt8)], AV.str ((60 : UInt8) :: (115 : UInt8) :: (105 : UInt8) :: (112 : UInt8) :: (58 : UInt8) :: (97 : UInt8) :: (64 : UInt8) :: (spDotted host ++ [(58 : UInt8)] ++ spItoa (IntKind.wrap IntKind.i64 p0) ++ [(62 : UInt8)]))], [AV.str [(67 : UInt8), (111 : UInt8), (110 : UInt8), (116 : UInt8), (101 : UInt8), (110 : UInt8), (116 : UInt8), (45 : UInt8), (76 : UInt8), (101 : UInt8), (110 : UInt8), (103 : UInt8), (116 : UInt8), (104 : UInt8)], AV.str [(48 : UInt8)]]] [])) = true)) ∧ (decide ((0 : Int) ≤ (1 : Int) ∧ (1 : Int) < (↑(List.length (spRwH [(73 : UInt8), (78 : UInt8), (86 : UInt8), (73 : UInt8), (84 : UInt8), (69 : UInt8)] host to_ p0 p1 [] [[AV.str [(118 : UInt8), (105 : UInt8), (97 : UInt8)], AV.str ((83 : UInt8) :: (73 : UInt8) :: (80 : UInt8) :: (47 : UInt8) :: (50 : UInt8) :: (46 : UInt8) :: (48 : UInt8) :: (47 : UInt8) :: (85 : UInt8) :: (68 : UInt8) :: (80 : UInt8) :: (32 : UInt8) :: (spDotted host ++ [(58 : UInt8)] ++ spItoa (IntKind.wrap IntKind.i64 p0) ++ [(59 : UInt8), (120 : UInt8)]))], [AV.str [(67 : UInt8), (79 : UInt8), (78 : UInt8), (84 : UInt8), (65 : UInt8), (67 : UInt8), (84 : UInt8)], AV.str ((60 : UInt8) :: (115 : UInt8) :: (105 : UInt8) :: (112 : UInt8) :: (58 : UInt8) :: (97 : UInt8) :: (64 : UInt8) :: (spDotted host ++ [(58 : UInt8)] ++ spItoa (IntKind.wrap IntKind.i64 p0) ++ [(62 : UInt8)]))], [AV.str [(67 : UInt8), (111 : UInt8), (110 : UInt8), (116 : UInt8), (101 : UInt8), (110 : UInt8), (116 : UInt8), (45 : UInt8), (76 : UInt8), (101 : UInt8), (110 : UInt8), (103 : UInt8), (116 : UInt8), (104 : UInt8)], AV.str [(48 : UInt8)]]] [])) : Int)) = true)) ∧ (decide (1 < List.length (spRwH [(73 : UInt8), (78 : UInt8), (86 : UInt8), (73 : UInt8), (84 : UInt8), (69 : UInt8)] host to_ p0 p1 [] [[AV.str [(118 : UInt8), (105 : UInt8), (97 : UInt8)], AV.str ((83 : UInt8) :: (73 : UInt8) :: (80 : UInt8) :: (47 : UInt8) :: (50 : UInt8) :: (46 : UInt8) :: (48 : UInt8) :: (47 : UInt8) :: (85 : UInt8) :: (68 : UInt8) :: (80 : UInt8) :: (32 : UInt8) :: (spDotted host ++ [(58 : UInt8)] ++ spItoa (IntKind.wrap IntKind.i64 p0) ++ [(59 : UInt8), (120 : UInt8)]))], [AV.str [(67 : UInt8), (79 : UInt8), (78 : UInt8), (84 : UInt8), (65 : UInt8), (67 : UInt8), (84 : UInt8)], AV.str ((60 : UInt8) :: (115 : UInt8) :: (105 : UInt8) :: (112 : UInt8) :: (58 : UInt8) :: (97 : UInt8) :: (64 : UInt8) :: (spDotted host ++ [(58 : UInt8)] ++ spItoa (IntKind.wrap IntKind.i64 p0) ++ [(62 : UInt8)]))], [AV.str [(67 : UInt8), (111 : UInt8), (110 : UInt8), (116 : UInt8), (101 : UInt8), (110 : UInt8), (116 : UInt8), (45 : UInt8), (76 : UInt8), (101 : UInt8), (110 : UInt8), (103 : UInt8), (116 : UInt8), (104 : UInt8)], AV.str [(48 : UInt8)]]] [])) = true)) ∧ (decide (7 + List.length (spDotted to_ ++ [(58 : UInt8)] ++ spItoa (IntKind.wrap IntKind.i64 p1)) ≤ 9223372036854775807) = true)) ∧ (decide (List.length ((60 : UInt8) :: (115 : UInt8) :: (105 : UInt8) :: (112 : UInt8) :: (58 : UInt8) :: (97 : UInt8) :: (64 : UInt8) :: (spDotted to_ ++ [(58 : UInt8)] ++ spItoa (IntKind.wrap IntKind.i64 p1))) + 1 ≤ 9223372036854775807) = true)) := by unfold Path; kernel_rfl
theorem hides_calls {host to_ p0 p1 : Int} (h0 : 0 ≤ host ∧ host < 4294967296) (h1 : 0 ≤ to_ ∧ to_ < 4294967296) (h2 : 0 ≤ p0 ∧ p0 ≤ 65535) (h3 : 0 ≤ p1 ∧ p1 ≤ 65535) {w : World} (gw : GW w) :
    Calls Tryz.prog 5 #[.int .u32 host, .int .u32 to_, .agg #[.int .u16 p0, .int .u16 p1]] w (fun e w' => e = .returned (.bool true) ∧ RowKit.Below w.heap.size w w') := by
  have hE : HSim (fun _ => ⟨0, 0, 0, 0, false⟩) (addBlks .e 0 []) ([] : List Blk).length w := HSim.ins gw (fun i blk hi => by simp at hi)
  cases q0 : (host == to_) with
  | true => exact calls_pureB P11_ok (c5_T host to_ p0 p1) ⟨⟨trivial, q0⟩, rfl⟩ hE rfl rfl rfl
  | false =>
    cases q1 : (p0 == (0 : Int)) with
    | true => exact calls_pureB P11_ok (c5_FT host to_ p0 p1) (by simp only [q0, q1, eq_self, and_self]) hE rfl rfl rfl
    | false =>
      cases q2 : (p1 == (0 : Int)) with
      | true => exact calls_pureB P11_ok (c5_FFT host to_ p0 p1) (by simp only [q0, q1, q2, eq_self, and_self]) hE rfl rfl rfl
      | false =>
        have n0 : p0 ≠ 0 := by simpa using q1
        have n1 : p1 ≠ 0 := by simpa using q2
        have w0 : IntKind.wrap .i64 p0 = p0 := IntWalk.i64_in _ (by omega)
        have w1 : IntKind.wrap .i64 p1 = p1 := IntWalk.i64_in _ (by omega)
        have hpath := c5_FFFETT host to_ p0 p1
        rw [w0, w1] at hpath
        have hR : spRwH [(73 : UInt8), (78 : UInt8), (86 : UInt8), (73 : UInt8), (84 : UInt8), (69 : UInt8)] host to_ p0 p1 [] [[AV.str [(118 : UInt8), (105 : UInt8), (97 : UInt8)], AV.str ((83 : UInt8) :: (73 : UInt8) :: (80 : UInt8) :: (47 : UInt8) :: (50 : UInt8) :: (46 : UInt8) :: (48 : UInt8) :: (47 : UInt8) :: (85 : UInt8) :: (68 : UInt8) :: (80 : UInt8) :: (32 : UInt8) :: (spDotted host ++ [(58 : UInt8)] ++ spItoa p0 ++ [(59 : UInt8), (120 : UInt8)]))], [AV.str [(67 : UInt8), (79 : UInt8), (78 : UInt8), (84 : UInt8), (65 : UInt8), (67 : UInt8), (84 : UInt8)], AV.str ((60 : UInt8) :: (115 : UInt8) :: (105 : UInt8) :: (112 : UInt8) :: (58 : UInt8) :: (97 : UInt8) :: (64 : UInt8) :: (spDotted host ++ [(58 : UInt8)] ++ spItoa p0 ++ [(62 : UInt8)]))], [AV.str [(67 : UInt8), (111 : UInt8), (110 : UInt8), (116 : UInt8), (101 : UInt8), (110 : UInt8), (116 : UInt8), (45 : UInt8), (76 : UInt8), (101 : UInt8), (110 : UInt8), (103 : UInt8), (116 : UInt8), (104 : UInt8)], AV.str [(48 : UInt8)]]] [] = rows3 (hp to_ p1) := hides (by omega) h2.2 h3.1 h3.2
        rw [hR] at hpath
        have d0 := len_dotted host; have d1 := len_dotted to_
        have i0 := len_itoa p0 (by omega); have i1 := len_itoa p1 (by omega)
        have hv0 : (v1 (hp to_ p1) == v1 (hp to_ p1)) = true := by simp
        have hv1 : (v2 (hp to_ p1) == v2 (hp to_ p1)) = true := by simp
        refine (calls_pureB P11_ok hpath ⟨⟨⟨⟨⟨⟨⟨⟨⟨⟨⟨⟨⟨⟨⟨⟨⟨⟨⟨⟨⟨⟨⟨⟨⟨⟨⟨⟨⟨⟨⟨⟨⟨⟨⟨⟨⟨⟨⟨⟨⟨⟨⟨⟨⟨⟨⟨⟨⟨⟨⟨⟨⟨⟨⟨⟨⟨trivial, q0⟩, rfl⟩, rfl⟩, q1⟩, rfl⟩, rfl⟩, q2⟩, rfl⟩, rfl⟩, (by first | rfl | (exact decide_eq_true (by (try simp only [List.length_append, List.length_cons, List.length_nil]); omega)))⟩, (by first | rfl | (exact decide_eq_true (by (try simp only [List.length_append, List.length_cons, List.length_nil]); omega)))⟩, (by first | rfl | (exact decide_eq_true (by (try simp only [List.length_append, List.length_cons, List.length_nil]); omega)))⟩, (by first | rfl | (exact decide_eq_true (by (try simp only [List.length_append, List.length_cons, List.length_nil]); omega)))⟩, (by first | rfl | (exact decide_eq_true (by (try simp only [List.length_append, List.length_cons, List.length_nil]); omega)))⟩, (by first | rfl | (exact decide_eq_true (by (try simp only [List.length_append, List.length_cons, List.length_nil]); omega)))⟩, (by first | rfl | (exact decide_eq_true (by (try simp only [List.length_append, List.length_cons, List.length_nil]); omega)))⟩, (by first | rfl | (exact decide_eq_true (by (try simp only [List.length_append, List.length_cons, List.length_nil]); omega)))⟩, rfl⟩, rfl⟩, rfl⟩, rfl⟩, rfl⟩, rfl⟩, rfl⟩, rfl⟩, rfl⟩, rfl⟩, rfl⟩, (by simp only [Bool.and_eq_true, Bool.true_and, Bool.and_true, decide_eq_true_eq, List.length_append, List.length_cons, List.length_nil, List.all_cons, List.all_nil, eq_self, true_and, and_true]; omega)⟩, rfl⟩, rfl⟩, rfl⟩, rfl⟩, rfl⟩, rfl⟩, rfl⟩, rfl⟩, (by first | rfl | (exact decide_eq_true (by (try simp only [List.length_append, List.length_cons, List.length_nil]); omega)))⟩, (by first | rfl | (exact decide_eq_true (by (try simp only [List.length_append, List.length_cons, List.length_nil]); omega)))⟩, (by first | rfl | (exact decide_eq_true (by (try simp only [List.length_append, List.length_cons, List.length_nil]); omega)))⟩, (by first | rfl | (exact decide_eq_true (by (try simp only [List.length_append, List.length_cons, List.length_nil]); omega)))⟩, rfl⟩, rfl⟩, rfl⟩, rfl⟩, (by first | rfl | (exact decide_eq_true (by (try simp only [List.length_append, List.length_cons, List.length_nil]); omega)))⟩, (by first | rfl | (exact decide_eq_true (by (try simp only [List.length_append, List.length_cons, List.length_nil]); omega)))⟩, (by first | rfl | (exact decide_eq_true (by (try simp only [List.length_append, List.length_cons, List.length_nil]); omega)))⟩, (by first | rfl | (exact decide_eq_true (by (try simp only [List.length_append, List.length_cons, List.length_nil]); omega)))⟩, (by first | rfl | (exact decide_eq_true (by (try simp only [List.length_append, List.length_cons, List.length_nil]); omega)))⟩, hv0⟩, rfl⟩, (by first | rfl | (exact decide_eq_true (by (try simp only [List.length_append, List.length_cons, List.length_nil]); omega)))⟩, (by first | rfl | (exact decide_eq_true (by (try simp only [List.length_append, List.length_cons, List.length_nil]); omega)))⟩, (by first | rfl | (exact decide_eq_true (by (try simp only [List.length_append, List.length_cons, List.length_nil]); omega)))⟩, (by first | rfl | (exact decide_eq_true (by (try simp only [List.length_append, List.length_cons, List.length_nil]); omega)))⟩, (by first | rfl | (exact decide_eq_true (by (try simp only [List.length_append, List.length_cons, List.length_nil]); omega)))⟩ hE rfl rfl rfl).mono fun e w' hq => ?_
        obtain ⟨rfl, hb⟩ := hq
        exact ⟨congrArg (fun b => Ending.returned (.bool b)) hv1, hb⟩
end Go.Proofs.YtpdgmgkkbbndfaaGreatDoor
