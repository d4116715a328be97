/- Part 5 of the proof: texts that the last one builds upon. Conditions: as each theorem says. -/
import Derived.Test.YtpdgmgkkbbndfaaGreatDoorB3
import Derived.Lib.BufferKept
import Derived.Lib.BufferOld
import Derived.Lib.Strings
import Derived.WalkKit
import Derived.BigCall
set_option maxRecDepth 100000
set_option maxHeartbeats 6400000
set_option linter.unusedVariables false
set_option linter.unusedSimpArgs false
namespace Go.Proofs.YtpdgmgkkbbndfaaGreatDoor
open Go Go.Proofs Go.Proofs.YtpdgmgkkbbndfaaGreatDoor.SX Go.RowKit
theorem right_reads {w : World} {start : List UInt8} {hrows brows : List (List AV)} {hv bv : Value} (gw : GW w) (h1 : Reads w [.str, .str] hrows hv) (h2 : Reads w [.int .u8] brows bv)
    (hst : start.length ≤ 4294967200) (hsh : hrows.all short = true) (hbn : brows.length ≤ 140737488355328) :
    Calls Tryz.prog 26 #[.agg #[.string ⟨start.toArray⟩, hv, bv]] w (fun e w' => e = .returned (.bool (spRight start hrows brows.length)) ∧ Below w.heap.size w w') := by
  obtain ⟨b1, hb1⟩ := h1.bi gw rfl
  obtain ⟨b2, hb2⟩ := h2.bi gw rfl
  obtain ⟨ρ0, hρ0⟩ : ∃ ρ0 : Nat → BI, (fun i => if i = 0 then b1 else b2) = ρ0 := ⟨_, rfl⟩
  have g1 := hb1 ρ0 0 (by rw [← hρ0]; rfl)
  have g2 := hb2 ρ0 1 (by rw [← hρ0]; rfl)
  have hE : HSim ρ0 (addBlks .e 0 [.cells false [.str, .str] hrows, .cells false [.int .u8] brows]) ([.cells false [.str, .str] hrows, .cells false [.int .u8] brows] : List Blk).length w :=
    HSim.ins gw (fun i blk hi => by
      match i with
      | 0 => simp at hi; subst hi; exact ⟨g1.2, rfl, rfl⟩
      | 1 => simp at hi; subst hi; exact ⟨g2.2, rfl, rfl⟩
      | i + 2 => simp at hi)
  have hcall := right_calls hE hst hsh hbn
  have e1 : concL ρ0 [AV.agg [.str start, .slq 0 hrows.length, .slq 1 brows.length]] = [.agg #[.string ⟨start.toArray⟩, hv, bv]] := by
    show [Value.agg (concL ρ0 [AV.str start, .slq 0 hrows.length, .slq 1 brows.length]).toArray] = _
    simp only [concL]
    rw [g1.1, g2.1]
    rfl
  rw [e1] at hcall
  exact hcall
theorem hdr_cells {w : World} {hrows : List (List AV)} {hv : Value} (h : Reads w [.str, .str] hrows hv) (hp : 0 < hrows.length) :
    ∃ bk off c, hv = .slice (some ⟨bk, off, none⟩) hrows.length c ∧ bk < w.heap.size ∧ ∀ k (h : k < hrows.length), w.cell? ⟨bk, off + k * 2, none⟩ = some (.string ⟨(hN hrows[k]).toArray⟩) ∧ w.cell? ⟨bk, off + k * 2 + 1, none⟩ = some (.string ⟨(hV hrows[k]).toArray⟩) := by
  cases h with
  | nil h => rw [h] at hp; exact absurd hp (by decide)
  | cells bi c h =>
    refine ⟨bi.blk, bi.off, c, rfl, Blk.sat_lt h, fun k hk => ?_⟩
    obtain ⟨hz, cs, t, fr, g1, g2, g3⟩ := h
    have hz : bi.sz = 2 := hz
    have hr : hrows.getD k [] = hrows[k] := by rw [List.getD_eq_getElem?_getD, List.getElem?_eq_getElem hk]; rfl
    have a0 := g2 k 0 .str hk rfl
    have a1 := g2 k 1 .str hk rfl
    simp only [hz] at a0 a1
    constructor
    · simp only [World.cell?]
      rw [g1]
      simp only
      rw [show bi.off + k * 2 = bi.off + (k * 2 + 0) by omega, a0]
      unfold cellAt
      rw [hr]
      rfl
    · simp only [World.cell?]
      rw [g1]
      simp only
      rw [show bi.off + k * 2 + 1 = bi.off + (k * 2 + 1) by omega, a1]
      unfold cellAt
      rw [hr]
      rfl
def hdrLine (r : List AV) : List UInt8 := hN r ++ [58, 32] ++ hV r ++ [13, 10]
def hdrText (rows : List (List AV)) : List UInt8 := (rows.map hdrLine).flatten
theorem hdrText_len (rows : List (List AV)) : (hdrText rows).length = hSize rows := by
  unfold hdrText hSize
  induction rows with
  | nil => rfl
  | cons r l ih =>
    simp only [List.map_cons, List.flatten_cons, List.length_append, List.sum_cons, ih]
    unfold hdrLine hLen
    simp only [List.length_append, List.length_cons, List.length_nil]
    omega
theorem hSize_take (rows : List (List AV)) (k : Nat) : hSize (rows.take k) ≤ hSize rows := by
  have e : hSize rows = hSize (rows.take k) + hSize (rows.drop k) := by
    unfold hSize
    conv => lhs; rw [← List.take_append_drop k rows]
    rw [List.map_append, List.sum_append]
  omega
theorem right_size {start : List UInt8} {rows : List (List AV)} {bn : Nat} (h : spRight start rows bn = true) : start.length + 4 + bn + hSize rows ≤ 4096 := by
  unfold spRight at h
  simp only [Bool.and_eq_true, decide_eq_true_eq] at h
  exact h.2.2.2.2.2
def rowCells (rows : List (List AV)) : List Value := rows.map fun r => Value.int .u8 (AV.toInt (r.getD 0 .undef))
theorem rowCells_bytes (l : List UInt8) : rowCells (byteRows l) = Lib.byteCells l := by
  unfold rowCells byteRows Lib.byteCells
  rw [List.map_map]
  rfl
theorem NewSl.of_owns {w' : World} {b n0 n : Nat} {v : Value} {rows : List (List AV)} (h : w'.ownsRow b 5 1 v n (rowCells rows)) (hn : n = rows.length) (hp : 0 < n) (hb : n0 ≤ b) : NewSl n0 w' [.int .u8] rows v := by
  obtain ⟨hl, (⟨_, h0⟩ | ⟨g, cap, cur, rfl, hg, hheap, hnc, hcm, hcs, htk⟩)⟩ := h
  · omega
  · subst hn
    refine ⟨⟨g, 0, 1, cap, false⟩, .inl (by show n0 ≤ g; omega), fun ρ b' hb' => ⟨by simp [conc, hb'], by rw [hb']; rfl, cur, 5, (0, 0), by rw [hb']; exact hheap, fun i j kd hi hj => ?_, fun h => by cases h⟩⟩
    have hj0 : j = 0 ∧ kd = .int .u8 := by
      match j with
      | 0 => simp at hj; exact ⟨rfl, hj.symm⟩
      | j + 1 => simp at hj
    obtain ⟨rfl, rfl⟩ := hj0
    rw [hb']
    show cur[0 + (i * 1 + 0)]? = _
    rw [show 0 + (i * 1 + 0) = i by omega]
    have h1 : (rowCells rows)[i]? = some (Value.int .u8 (AV.toInt (rows[i].getD 0 .undef))) := by
      unfold rowCells
      rw [List.getElem?_map, List.getElem?_eq_getElem hi]
      rfl
    rw [← htk, List.getElem?_take, if_pos (by omega), Array.getElem?_toList] at h1
    rw [h1]
    unfold cellAt
    have hr : rows.getD i [] = rows[i] := by rw [List.getD_eq_getElem?_getD, List.getElem?_eq_getElem hi]; rfl
    rw [hr]
    rfl
theorem body_cells {w : World} {brows : List (List AV)} {bv : Value} (h : Reads w [.int .u8] brows bv) :
    (bv = .slice none 0 0 ∧ brows = []) ∨ ∃ bk off c, bv = .slice (some ⟨bk, off, none⟩) brows.length c ∧ bk < w.heap.size ∧ ∀ j v, (rowCells brows)[j]? = some v → w.cell? ((⟨bk, off, none⟩ : Addr).add j) = some v := by
  cases h with
  | nil h => exact .inl ⟨rfl, h⟩
  | cells bi c h =>
    refine .inr ⟨bi.blk, bi.off, c, rfl, Blk.sat_lt h, fun j v hj => ?_⟩
    obtain ⟨hz, cs, t, fr, g1, g2, g3⟩ := h
    have hz : bi.sz = 1 := hz
    have hjl : j < brows.length := by
      rcases Nat.lt_or_ge j brows.length with h' | h'
      · exact h'
      · unfold rowCells at hj; rw [List.getElem?_map, List.getElem?_eq_none h'] at hj; cases hj
    have hv : v = Value.int .u8 (AV.toInt (brows[j].getD 0 .undef)) := by
      unfold rowCells at hj
      rw [List.getElem?_map, List.getElem?_eq_getElem hjl] at hj
      exact (Option.some.inj hj).symm
    subst hv
    have a0 := g2 j 0 (.int .u8) hjl rfl
    simp only [hz] at a0
    rw [Lib.addr_add]
    simp only [World.cell?]
    rw [g1]
    simp only
    rw [show bi.off + j = bi.off + (j * 1 + 0) by omega, a0]
    unfold cellAt
    have hr : brows.getD j [] = brows[j] := by rw [List.getD_eq_getElem?_getD, List.getElem?_eq_getElem hjl]; rfl
    rw [hr]
    rfl
theorem build_good {w : World} {start : List UInt8} {hrows brows : List (List AV)} {hv bv : Value} (gw : GW w) (h1 : Reads w [.str, .str] hrows hv) (h2 : Reads w [.int .u8] brows bv)
    (hst : start.length ≤ 4294967200) (hsh : hrows.all short = true) (hbn : brows.length ≤ 140737488355328) (hgood : spRight start hrows brows.length = true) :
    Calls Tryz.prog 24 #[.agg #[.string ⟨start.toArray⟩, hv, bv]] w (fun e w' => (∃ v, e = .returned (.tuple #[v, .int .i64 0]) ∧ NewSl w.heap.size w' [.int .u8] (byteRows (start ++ [13, 10] ++ hdrText hrows ++ [13, 10]) ++ brows) v) ∧ Below w.heap.size w w') := by
  have hs := right_sized hgood
  obtain ⟨bk, off, c, rfl, hbk, hcells⟩ := hdr_cells h1 hs.pos
  have hr := fun (w1 : World) (hx : Below w.heap.size w w1) => right_reads (gw.ext hx) (h1.ext hx) (h2.ext hx) hst hsh hbn
  go_enter Tryz.func24, Tryz.ntmps24
  go_wp2_with (go_at_call 26; refine (hr _ ?_).mono ?_; refine Hid.out ?_)
  · exact (Below.refl _ w).alloc (Nat.le_refl _) _
  refine Lib.hid ?_
  rintro e W1 ⟨rfl, hx1⟩
  rw [hgood]
  have hsz0 : (w.alloc (.cells #[.string ⟨start.toArray⟩, .slice (some ⟨bk, off, none⟩) hrows.length c, bv] 25)).heap.size = w.heap.size + 1 := by simp
  have hbox : W1.heap[w.heap.size]? = some (.cells #[.string ⟨start.toArray⟩, .slice (some ⟨bk, off, none⟩) hrows.length c, bv] 25 (0, 0)) := by
    rw [hx1.block _ (by rw [hsz0]; omega)]
    exact heap_alloc_new w _
  have hw1 : w.heap.size + 1 ≤ W1.heap.size := by have := hx1.size; rw [hsz0] at this; exact this
  have hB1 : Below w.heap.size w W1 := ((Below.refl _ w).alloc (Nat.le_refl _) _).trans (hx1.mono (by rw [hsz0]; omega))
  clear hx1 hsz0
  have hI1 : Lib.IsBuffer 95 5 W1.heap.size W1.heap.size [] (W1.alloc (.cells #[.slice none 0 0, .int .i64 0, .int .i8 0] 95)) := Lib.fresh_isBuffer 95 5 W1
  have hbx2 : (W1.alloc (.cells #[.slice none 0 0, .int .i64 0, .int .i8 0] 95)).heap[w.heap.size]? = some (.cells #[.string ⟨start.toArray⟩, .slice (some ⟨bk, off, none⟩) hrows.length c, bv] 25 (0, 0)) := by
    rw [heap_alloc_old W1 _ (by omega)]; exact hbox
  have c0 : (W1.alloc (.cells #[.slice none 0 0, .int .i64 0, .int .i8 0] 95)).cell? ⟨w.heap.size, 0, none⟩ = some (.string ⟨start.toArray⟩) := by rw [Lib.cell_of_heap hbx2]; rfl
  have es : (⟨start.toArray⟩ ++ ⟨#[13, 10]⟩ : ByteArray).data.toList = start ++ [13, 10] := by simp
  have el : (⟨start.toArray⟩ ++ ⟨#[13, 10]⟩ : ByteArray).size = start.length + 2 := by rw [Lib.size_eq, es]; simp
  go_wp2_with (go_at_call 53; refine (Tryz.Buffer_WriteString_kept W1.heap.size W1.heap.size [] _ _ hI1 (by simp) (by simp) (by rw [el]; simp only [List.length_nil]; omega)).mono ?_; refine Hid.out ?_)
  refine Lib.hid ?_
  rintro e W2 ⟨rfl, hI2, hb2, -⟩
  rw [es, List.nil_append] at hI2
  have hx2 : W2.heap[w.heap.size]? = some (.cells #[.string ⟨start.toArray⟩, .slice (some ⟨bk, off, none⟩) hrows.length c, bv] 25 (0, 0)) := by
    rw [hb2.block _ (by omega)]; exact hbx2
  have hsz2 : W1.heap.size ≤ W2.heap.size := by have := hb2.size; simp at this; omega
  have hB2 : Below w.heap.size w W2 := (hB1.alloc (by omega) _).trans (hb2.mono (by omega))
  have hgb : w.heap.size < W1.heap.size := by omega
  clear hI1 hbx2 c0 hb2 hbox hw1 hB1 hr es
  generalize W1.heap.size = b at *
  clear W1
  have c1 : W2.cell? ⟨w.heap.size, 1, none⟩ = some (.slice (some ⟨bk, off, none⟩) hrows.length c) := by rw [Lib.cell_of_heap hx2]; rfl
  go_wp2
  go_loopw [17] (fun i wr => ∃ k : Nat, k ≤ hrows.length ∧ i = .int .i64 k ∧ Lib.IsBuffer 95 5 b b (Lib.byteCells (start ++ [13, 10] ++ hdrText (hrows.take k))) wr
      ∧ wr.heap[w.heap.size]? = some (.cells #[.string ⟨start.toArray⟩, .slice (some ⟨bk, off, none⟩) hrows.length c, bv] 25 (0, 0)) ∧ b ≤ wr.heap.size ∧ Below w.heap.size w wr)
    (fun i _ => hrows.length - (intOf i).toNat)
  case atStart => exact ⟨0, Nat.zero_le _, rfl, by simpa [hdrText] using hI2, hx2, hsz2, hB2⟩
  case round =>
    obtain ⟨k, hk, rfl, hI, hx, hsz, hB⟩ := hrel
    clear hI2 hx2 hsz2 hB2 c1
    by_cases hlt : k < hrows.length
    · have k0 := (hB.cell (p := ⟨bk, off + k * 2, none⟩) hbk).trans (hcells k hlt).1
      have k1 := (hB.cell (p := ⟨bk, off + k * 2 + 1, none⟩) hbk).trans (hcells k hlt).2
      obtain ⟨lv, ln⟩ := hs.v _ (List.getElem_mem hlt)
      have z1 : (⟨(hN hrows[k]).toArray⟩ ++ ⟨#[58, 32]⟩ : ByteArray).size = (hN hrows[k]).length + 2 := by rw [Lib.size_eq]; simp
      have z2 : (⟨(hN hrows[k]).toArray⟩ ++ ⟨#[58, 32]⟩ ++ ⟨(hV hrows[k]).toArray⟩ : ByteArray).size = (hN hrows[k]).length + 2 + (hV hrows[k]).length := by rw [Lib.size_eq]; simp; omega
      have z3 : (⟨(hN hrows[k]).toArray⟩ ++ ⟨#[58, 32]⟩ ++ ⟨(hV hrows[k]).toArray⟩ ++ ⟨#[13, 10]⟩ : ByteArray).data.toList = hdrLine hrows[k] := by unfold hdrLine; simp
      have z4 : (⟨(hN hrows[k]).toArray⟩ ++ ⟨#[58, 32]⟩ ++ ⟨(hV hrows[k]).toArray⟩ ++ ⟨#[13, 10]⟩ : ByteArray).size = (hN hrows[k]).length + (hV hrows[k]).length + 4 := by rw [Lib.size_eq, z3]; unfold hdrLine; simp; omega
      have hL := hdrText_len (hrows.take k)
      have hT := hSize_take hrows k
      have hR := right_size hgood
      go_wp2_with (go_at_call 53; refine (Tryz.Buffer_WriteString_kept b b _ _ _ (hI.alloc _) (by simp; omega) (Lib.byteCells_one _) (by rw [Lib.byteCells_length, z4]; simp only [List.length_append, List.length_cons, List.length_nil, hL]; omega)).mono ?_; refine Hid.out ?_)
      refine Lib.hid ?_
      rintro e W3 ⟨rfl, hI3, hb3, -⟩
      rw [z3, ← Lib.byteCells_append] at hI3
      have hx3 : W3.heap[w.heap.size]? = some (.cells #[.string ⟨start.toArray⟩, .slice (some ⟨bk, off, none⟩) hrows.length c, bv] 25 (0, 0)) := by
        rw [hb3.block _ hgb, heap_alloc_old wr _ (by omega)]; exact hx
      have hsz3 : b ≤ W3.heap.size := by have := hb3.size; simp at this; omega
      have hB3 : Below w.heap.size w W3 := (hB.alloc (by omega) _).trans (hb3.mono (by omega))
      have e3 : start ++ [13, 10] ++ hdrText (hrows.take k) ++ hdrLine hrows[k] = start ++ [13, 10] ++ hdrText (hrows.take (k + 1)) := by
        unfold hdrText
        rw [take_snoc hlt, List.map_append, List.flatten_append]
        simp
      rw [e3] at hI3
      have hwr : wrap64 ((k : Int) + 1) = ((k + 1 : Nat) : Int) := by have := hs.n; unfold wrap64; omega
      clear hI hx hsz hB k0 k1 z1 z2 z3 z4 hL hT hR hb3 e3
      go_wp2
      go_roundw
      case rel => exact ⟨k + 1, Nat.succ_le_of_lt hlt, congrArg (Value.int .i64) hwr, hI3, hx3, hsz3, hB3⟩
      case measure =>
        rw [hwr]
        show hrows.length - (k + 1) < hrows.length - k
        exact Nat.sub_lt_sub_left hlt (Nat.lt_succ_self k)
    · have hk' : k = hrows.length := Nat.le_antisymm hk (Nat.le_of_not_lt hlt)
      subst hk'
      rw [List.take_length] at hI
      have hL := hdrText_len hrows
      have hR := right_size hgood
      have c2 : wr.cell? ⟨w.heap.size, 2, none⟩ = some bv := by rw [Lib.cell_of_heap hx]; rfl
      go_wp2_with (go_at_call 53; refine (Tryz.Buffer_WriteString_kept b b _ _ _ hI hsz (Lib.byteCells_one _) (by rw [Lib.byteCells_length]; simp only [List.length_append, List.length_cons, List.length_nil, hL]; show _ + 2 ≤ _; omega)).mono ?_; refine Hid.out ?_)
      refine Lib.hid ?_
      intro e W3 he hI3 hb3 _
      subst he
      rw [← Lib.byteCells_append] at hI3
      have e5 : start ++ 13 :: 10 :: hdrText hrows ++ [13, 10] = start ++ [13, 10] ++ hdrText hrows ++ [13, 10] := by simp
      rw [e5] at hI3
      have hx3 : W3.heap[w.heap.size]? = some (.cells #[.string ⟨start.toArray⟩, .slice (some ⟨bk, off, none⟩) hrows.length c, bv] 25 (0, 0)) := (hb3.block _ hgb).trans hx
      have hsz3 : b ≤ W3.heap.size := Nat.le_trans hsz hb3.size
      have hB3 : Below w.heap.size w W3 := hB.trans (hb3.mono (Nat.le_of_lt hgb))
      have d2 : W3.cell? ⟨w.heap.size, 2, none⟩ = some bv := by rw [Lib.cell_of_heap hx3]; rfl
      have hlen : (start ++ [13, 10] ++ hdrText hrows ++ [13, 10]).length + brows.length ≤ 4096 := by simp only [List.length_append, List.length_cons, List.length_nil, hL]; omega
      have hpos : 0 < (start ++ [13, 10] ++ hdrText hrows ++ [13, 10]).length := by simp only [List.length_append, List.length_cons, List.length_nil]; omega
      clear hI hx hsz hB c2 hL hR hb3 e5 hcells hk hlt h1
      obtain ⟨pre, hpre⟩ : ∃ pre, pre = start ++ [13, 10] ++ hdrText hrows ++ [13, 10] := ⟨_, rfl⟩
      rw [← hpre] at hI3 hlen hpos
      have hpre := Lib.hid hpre
      have fin : ∀ (v : Value) (w' : World) (rows : List (List AV)), rows = byteRows pre ++ brows → w'.ownsRow b 5 1 v rows.length (rowCells rows) → NewSl w.heap.size w' [.int .u8] (byteRows pre ++ brows) v := by
        intro v w' rows hr ho
        subst hr
        exact NewSl.of_owns ho rfl (by rw [List.length_append, byteRows_length]; omega) (Nat.le_of_lt hgb)
      have hcut : rowCells (byteRows pre ++ brows) = Lib.byteCells pre ++ rowCells brows := by
        unfold rowCells
        rw [List.map_append]
        show rowCells (byteRows pre) ++ _ = _
        rw [rowCells_bytes]
      have hone : ∀ v ∈ rowCells brows, v.oneCell' = true := by
        intro v hv
        unfold rowCells at hv
        obtain ⟨r, _, rfl⟩ := List.mem_map.1 hv
        rfl
      rcases body_cells h2 with ⟨rfl, rfl⟩ | ⟨bk2, off2, cc, rfl, hlt2, hsrc⟩
      · go_wp2_with (go_at_call 54; refine (buf_write_nil b b _ _ hI3).mono ?_; refine Hid.out ?_)
        intro e W4 hq4
        obtain ⟨rfl, hI4, hb4⟩ := hq4
        go_wp2_with (go_at_call 55; refine (Tryz.Buffer_Bytes b b _ _ hI4).mono ?_; refine Hid.out ?_)
        intro e W5 hq5
        obtain ⟨v, rfl, ho, nn, rfl⟩ := hq5
        have ho := fin v _ (byteRows pre ++ []) rfl (by rw [hcut, List.length_append, byteRows_length]; simpa [rowCells, Lib.byteCells_length] using ho)
        have hB4 : Below w.heap.size w (W4.drewN nn) := (hB3.trans (hb4.mono (Nat.le_of_lt hgb))).trans ⟨rfl, rfl, rfl, Nat.le_refl _, fun _ _ => rfl⟩
        have hpre := hpre.out
        rw [hpre] at ho
        have ho := Lib.hid ho
        clear hpre fin hcut
        go_wp2
        go_ret2
        exact ⟨⟨v, rfl, ho.out⟩, hB4⟩
      · have hlt3 : bk2 < W3.heap.size := Nat.lt_of_lt_of_le hlt2 hB3.size
        go_wp2_with (go_at_call 54; refine (Tryz.Buffer_Write_any b b _ (rowCells brows) ⟨bk2, off2, none⟩ brows.length cc _ hI3 hsz3 (Lib.byteCells_one _) (by simp [rowCells]) (by show bk2 ≠ b; omega) (fun j v hj => (hB3.cell (p := (⟨bk2, off2, none⟩ : Addr).add j) (by rw [Lib.block_add]; exact hlt2)).trans (hsrc j v hj)) hone (by rw [Lib.byteCells_length]; omega)).mono ?_; refine Hid.out ?_)
        intro e W4 hq4
        obtain ⟨rfl, hI4, hb4, -⟩ := hq4
        go_wp2_with (go_at_call 55; refine (Tryz.Buffer_Bytes b b _ _ hI4).mono ?_; refine Hid.out ?_)
        intro e W5 hq5
        obtain ⟨v, rfl, ho, nn, rfl⟩ := hq5
        have ho := fin v _ (byteRows pre ++ brows) rfl (by rw [hcut, List.length_append, byteRows_length]; simpa [rowCells, Lib.byteCells_length] using ho)
        have hB4 : Below w.heap.size w (W4.drewN nn) := (hB3.trans (hb4.mono (Nat.le_of_lt hgb))).trans ⟨rfl, rfl, rfl, Nat.le_refl _, fun _ _ => rfl⟩
        have hpre := hpre.out
        rw [hpre] at ho
        have ho := Lib.hid ho
        clear hpre fin hcut
        go_wp2
        go_ret2
        exact ⟨⟨v, rfl, ho.out⟩, hB4⟩
end Go.Proofs.YtpdgmgkkbbndfaaGreatDoor
set_option maxRecDepth 100000
set_option linter.unusedVariables false
set_option linter.unusedSimpArgs false
namespace Go.Proofs.YtpdgmgkkbbndfaaGreatDoor
open Go Go.Proofs Go.Proofs.YtpdgmgkkbbndfaaGreatDoor.SX
def digF : Nat → Nat → List UInt8
  | 0, _ => []
  | k + 1, n => if n < 10 then [UInt8.ofNat (48 + n)] else digF k (n / 10) ++ [UInt8.ofNat (48 + n % 10)]
def spDigits (n : Nat) : List UInt8 := digF (n + 1) n
theorem digF_eq : ∀ (k k' n : Nat), n < k → n < k' → digF k n = digF k' n := by
  intro k
  induction k with
  | zero => intro k' n h; omega
  | succ k ih =>
    intro k' n h h'
    cases k' with
    | zero => omega
    | succ k' =>
      unfold digF
      by_cases hn : n < 10
      · rw [if_pos hn, if_pos hn]
      · rw [if_neg hn, if_neg hn, ih k' (n / 10) (by omega) (by omega)]
theorem spDigits_lt {n : Nat} (h : n < 10) : spDigits n = [UInt8.ofNat (48 + n)] := by unfold spDigits digF; rw [if_pos h]
theorem spDigits_ge {n : Nat} (h : ¬ n < 10) : spDigits n = spDigits (n / 10) ++ [UInt8.ofNat (48 + n % 10)] := by
  unfold spDigits
  rw [digF, if_neg h, digF_eq n (n / 10 + 1) (n / 10) (by omega) (by omega)]
theorem spDigits_len (n : Nat) : (spDigits n).length ≤ n + 1 := by
  induction n using Nat.strongRecOn with
  | ind n ih =>
    by_cases h : n < 10
    · rw [spDigits_lt h]; simp
    · rw [spDigits_ge h]
      have := ih (n / 10) (by omega)
      simp; omega
def qDig (N : Int) : Entry := fun args hp nx => match args with
  | [.int .i64 m] => some (decide (0 ≤ m ∧ m < N), .str (spDigits m.toNat), [])
  | _ => none
theorem dig_row {n : Int} (h0 : 0 ≤ n) (h : n < 10) : rowByte [AV.int IntKind.u8 (IntKind.wrap IntKind.u8 (IntKind.wrap IntKind.i64 (48 + n)))] = UInt8.ofNat (48 + n.toNat) := by
  rw [IntWalk.i64_in _ (by omega), IntWalk.u8_in _ (by omega)]
  show UInt8.ofNat (48 + n).toNat = _
  rw [show (48 + n).toNat = 48 + n.toNat by omega]
theorem c41_T (m : Int) :
    Path (runCallB Tryz.prog (addP Pr 41 (qDig m)) 100 41 [AV.int IntKind.i64 m] (st0 [] ([.as_ true]))) 0 [] ⟨[], [], 0⟩ (Out.ret (AV.str [rowByte [AV.int IntKind.u8 (IntKind.wrap IntKind.u8 (IntKind.wrap IntKind.i64 ((48 : Int) + m)))]]))
      ((True ∧ (decide (m < (10 : Int)) = true)) ∧ (true = true)) := by unfold Path; kernel_rfl
theorem c41_F (m : Int) :
    Path (runCallB Tryz.prog (addP Pr 41 (qDig m)) 100 41 [AV.int IntKind.i64 m] (st0 [] ([.as_ false]))) 0 [] ⟨[], [], 0⟩ (Out.ret (AV.str (spDigits (Int.toNat (IntKind.wrap IntKind.i64 (Int.tdiv m (10 : Int)))) ++ [rowByte [AV.int IntKind.u8 (IntKind.wrap IntKind.u8 (IntKind.wrap IntKind.i64 ((48 : Int) + Int.tmod m (10 : Int))))]])))
      (((((((((True ∧ (decide (m < (10 : Int)) = false)) ∧ (true = true)) ∧ (true = true)) ∧ (decide ((0 : Int) ≤ IntKind.wrap IntKind.i64 (Int.tdiv m (10 : Int)) ∧ IntKind.wrap IntKind.i64 (Int.tdiv m (10 : Int)) < m) = true)) ∧ (true = true)) ∧ (decide (List.length (spDigits (Int.toNat (IntKind.wrap IntKind.i64 (Int.tdiv m (10 : Int))))) + 1 ≤ 9223372036854775807) = true)) ∧ (true = true)) ∧ (decide ((0 : Int) ≤ IntKind.wrap IntKind.i64 (Int.tdiv m (10 : Int)) ∧ IntKind.wrap IntKind.i64 (Int.tdiv m (10 : Int)) < m) = true)) ∧ (decide (List.length (spDigits (Int.toNat (IntKind.wrap IntKind.i64 (Int.tdiv m (10 : Int))))) + 1 ≤ 9223372036854775807) = true)) := by unfold Path; kernel_rfl
theorem qDig41 : ∀ N : Nat, N ≤ 9223372036854775808 → EntryOK Tryz.prog 41 (qDig N) := by
  intro N
  induction N using Nat.strongRecOn with
  | ind N ih =>
    intro hN args hp nx c v bs h hc ρ w hs hi
    unfold qDig at h
    split at h
    · rename_i m
      cases h
      obtain ⟨h0, h1⟩ := of_decide_eq_true hc
      refine entry_pure hs rfl ?_
      have hE : HSim ρ (addBlks .e 0 []) ([] : List Blk).length w := HSim.ins hs.gw (fun i blk hi => by simp at hi)
      have hm : ((m.toNat : Nat) : Int) = m := by omega
      have hP : PrimsOK Tryz.prog (addP Pr 41 (qDig m)) := by
        have := ih m.toNat (by omega) (by omega)
        rw [hm] at this
        exact addP_ok Pr_ok this
      by_cases hlt : m < 10
      · rw [spDigits_lt (by omega), ← dig_row h0 hlt]
        exact calls_pureB hP (c41_T m) ⟨⟨trivial, by simpa using hlt⟩, rfl⟩ hE rfl rfl rfl
      · have hq : Int.tdiv m 10 = ((m.toNat / 10 : Nat) : Int) := by
          rw [Int.tdiv_eq_ediv_of_nonneg h0]; omega
        have hr : Int.tmod m 10 = ((m.toNat % 10 : Nat) : Int) := by
          rw [Int.tmod_eq_emod_of_nonneg h0]; omega
        have hw : IntKind.wrap IntKind.i64 (Int.tdiv m 10) = ((m.toNat / 10 : Nat) : Int) := by rw [hq]; exact IntWalk.i64_in _ (by omega)
        have e : spDigits m.toNat = spDigits (Int.toNat (IntKind.wrap IntKind.i64 (Int.tdiv m 10))) ++ [rowByte [AV.int IntKind.u8 (IntKind.wrap IntKind.u8 (IntKind.wrap IntKind.i64 (48 + Int.tmod m 10)))]] := by
          rw [spDigits_ge (by omega), hw, hr, dig_row (by omega) (by omega)]; rfl
        rw [e]
        have hl := spDigits_len (m.toNat / 10)
        have hl2 : (spDigits (Int.toNat (IntKind.wrap IntKind.i64 (Int.tdiv m 10)))).length + 1 ≤ 9223372036854775807 := by
          rw [hw]; show (spDigits (m.toNat / 10)).length + 1 ≤ _; omega
        have hc1 : (0 : Int) ≤ IntKind.wrap IntKind.i64 (Int.tdiv m 10) ∧ IntKind.wrap IntKind.i64 (Int.tdiv m 10) < m := by rw [hw]; omega
        exact calls_pureB hP (c41_F m) (by simp only [decide_eq_true_eq, decide_eq_false_iff_not, eq_self, and_true, true_and]; exact ⟨⟨⟨⟨hlt, hc1⟩, hl2⟩, hc1⟩, hl2⟩) hE rfl rfl rfl
    · cases h
end Go.Proofs.YtpdgmgkkbbndfaaGreatDoor
set_option maxRecDepth 100000
set_option linter.unusedVariables false
set_option linter.unusedSimpArgs false
namespace Go.Proofs.YtpdgmgkkbbndfaaGreatDoor
open Go Go.Proofs Go.Proofs.YtpdgmgkkbbndfaaGreatDoor.SX
theorem c22_T (m : Int) :
    Path (runCallB Tryz.prog (addP Pr 22 (qDig m)) 100 22 [AV.int IntKind.i64 m] (st0 [] ([.as_ true]))) 0 [] ⟨[], [], 0⟩ (Out.ret (AV.str [rowByte [AV.int IntKind.u8 (IntKind.wrap IntKind.u8 (IntKind.wrap IntKind.i64 ((48 : Int) + m)))]]))
      ((True ∧ (decide (m < (10 : Int)) = true)) ∧ (true = true)) := by unfold Path; kernel_rfl
theorem c22_F (m : Int) :
    Path (runCallB Tryz.prog (addP Pr 22 (qDig m)) 100 22 [AV.int IntKind.i64 m] (st0 [] ([.as_ false]))) 0 [] ⟨[], [], 0⟩ (Out.ret (AV.str (spDigits (Int.toNat (IntKind.wrap IntKind.i64 (Int.tdiv m (10 : Int)))) ++ [rowByte [AV.int IntKind.u8 (IntKind.wrap IntKind.u8 (IntKind.wrap IntKind.i64 ((48 : Int) + Int.tmod m (10 : Int))))]])))
      (((((((((True ∧ (decide (m < (10 : Int)) = false)) ∧ (true = true)) ∧ (true = true)) ∧ (decide ((0 : Int) ≤ IntKind.wrap IntKind.i64 (Int.tdiv m (10 : Int)) ∧ IntKind.wrap IntKind.i64 (Int.tdiv m (10 : Int)) < m) = true)) ∧ (true = true)) ∧ (decide (List.length (spDigits (Int.toNat (IntKind.wrap IntKind.i64 (Int.tdiv m (10 : Int))))) + 1 ≤ 9223372036854775807) = true)) ∧ (true = true)) ∧ (decide ((0 : Int) ≤ IntKind.wrap IntKind.i64 (Int.tdiv m (10 : Int)) ∧ IntKind.wrap IntKind.i64 (Int.tdiv m (10 : Int)) < m) = true)) ∧ (decide (List.length (spDigits (Int.toNat (IntKind.wrap IntKind.i64 (Int.tdiv m (10 : Int))))) + 1 ≤ 9223372036854775807) = true)) := by unfold Path; kernel_rfl
theorem qDig22 : ∀ N : Nat, N ≤ 9223372036854775808 → EntryOK Tryz.prog 22 (qDig N) := by
  intro N
  induction N using Nat.strongRecOn with
  | ind N ih =>
    intro hN args hp nx c v bs h hc ρ w hs hi
    unfold qDig at h
    split at h
    · rename_i m
      cases h
      obtain ⟨h0, h1⟩ := of_decide_eq_true hc
      refine entry_pure hs rfl ?_
      have hE : HSim ρ (addBlks .e 0 []) ([] : List Blk).length w := HSim.ins hs.gw (fun i blk hi => by simp at hi)
      have hm : ((m.toNat : Nat) : Int) = m := by omega
      have hP : PrimsOK Tryz.prog (addP Pr 22 (qDig m)) := by
        have := ih m.toNat (by omega) (by omega)
        rw [hm] at this
        exact addP_ok Pr_ok this
      by_cases hlt : m < 10
      · rw [spDigits_lt (by omega), ← dig_row h0 hlt]
        exact calls_pureB hP (c22_T m) ⟨⟨trivial, by simpa using hlt⟩, rfl⟩ hE rfl rfl rfl
      · have hq : Int.tdiv m 10 = ((m.toNat / 10 : Nat) : Int) := by
          rw [Int.tdiv_eq_ediv_of_nonneg h0]; omega
        have hr : Int.tmod m 10 = ((m.toNat % 10 : Nat) : Int) := by
          rw [Int.tmod_eq_emod_of_nonneg h0]; omega
        have hw : IntKind.wrap IntKind.i64 (Int.tdiv m 10) = ((m.toNat / 10 : Nat) : Int) := by rw [hq]; exact IntWalk.i64_in _ (by omega)
        have e : spDigits m.toNat = spDigits (Int.toNat (IntKind.wrap IntKind.i64 (Int.tdiv m 10))) ++ [rowByte [AV.int IntKind.u8 (IntKind.wrap IntKind.u8 (IntKind.wrap IntKind.i64 (48 + Int.tmod m 10)))]] := by
          rw [spDigits_ge (by omega), hw, hr, dig_row (by omega) (by omega)]; rfl
        rw [e]
        have hl := spDigits_len (m.toNat / 10)
        have hl2 : (spDigits (Int.toNat (IntKind.wrap IntKind.i64 (Int.tdiv m 10)))).length + 1 ≤ 9223372036854775807 := by
          rw [hw]; show (spDigits (m.toNat / 10)).length + 1 ≤ _; omega
        have hc1 : (0 : Int) ≤ IntKind.wrap IntKind.i64 (Int.tdiv m 10) ∧ IntKind.wrap IntKind.i64 (Int.tdiv m 10) < m := by rw [hw]; omega
        exact calls_pureB hP (c22_F m) (by simp only [decide_eq_true_eq, decide_eq_false_iff_not, eq_self, and_true, true_and]; exact ⟨⟨⟨⟨hlt, hc1⟩, hl2⟩, hc1⟩, hl2⟩) hE rfl rfl rfl
    · cases h
theorem digits_itoa (n : Nat) : spDigits n = spItoa (n : Int) := by
  have h : ∀ n : Nat, spDigits n = Lib.decDigits n := by
    intro n
    induction n using Nat.strongRecOn with
    | ind n ih =>
      rw [Lib.decDigits]
      by_cases h : n < 10
      · rw [spDigits_lt h, dif_pos h]
      · rw [spDigits_ge h, dif_neg h, ih (n / 10) (by omega)]
  unfold spItoa Lib.itoa
  rw [if_neg (by omega), h]
  rfl
def q22 : Entry := fun args hp nx => match args with
  | [.int .i64 m] => some (decide (0 ≤ m ∧ m < 9223372036854775808), .str (spItoa m), [])
  | _ => none
theorem q22_ok : EntryOK Tryz.prog 22 q22 := by
  intro args hp nx c v bs h hc ρ w hs hi
  unfold q22 at h
  split at h
  · rename_i m
    cases h
    obtain ⟨h0, h1⟩ := of_decide_eq_true hc
    have := qDig22 9223372036854775808 (Nat.le_refl _) [.int .i64 m] hp nx true (.str (spDigits m.toNat)) [] (by show some _ = some _; rw [decide_eq_true (show (0:Int) ≤ m ∧ m < ((9223372036854775808 : Nat) : Int) from ⟨h0, h1⟩)]) rfl ρ w hs hi
    rw [digits_itoa, show ((m.toNat : Nat) : Int) = m by omega] at this
    exact this
  · cases h
def P8 : Prims := addP P7 22 q22
theorem P8_ok : PrimsOK Tryz.prog P8 := addP_ok P7_ok q22_ok
end Go.Proofs.YtpdgmgkkbbndfaaGreatDoor
set_option maxRecDepth 100000
set_option linter.unusedVariables false
set_option linter.unusedSimpArgs false
namespace Go.Proofs.YtpdgmgkkbbndfaaGreatDoor
open Go Go.Proofs Go.Proofs.YtpdgmgkkbbndfaaGreatDoor.SX
theorem c21_ (a : Int) :
    Path (runCallB Tryz.prog P8 100 21 [AV.int IntKind.u32 a] (st0 [] ([]))) 0 [] (SL.mk [] [] 0) (Out.ret (AV.str (spItoa (IntKind.wrap IntKind.i64 (Int.fdiv a (16777216 : Int))) ++ [(46 : UInt8)] ++ spItoa (IntKind.wrap IntKind.i64 (bitsI BinOp.and IntKind.u32 (Int.fdiv a (65536 : Int)) (255 : Int))) ++ [(46 : UInt8)] ++ spItoa (IntKind.wrap IntKind.i64 (bitsI BinOp.and IntKind.u32 (Int.fdiv a (256 : Int)) (255 : Int))) ++ [(46 : UInt8)] ++ spItoa (IntKind.wrap IntKind.i64 (bitsI BinOp.and IntKind.u32 a (255 : Int))))))
      (((((((((((((True ∧ (true = true)) ∧ (decide ((0 : Int) ≤ IntKind.wrap IntKind.i64 (Int.fdiv a (16777216 : Int)) ∧ IntKind.wrap IntKind.i64 (Int.fdiv a (16777216 : Int)) < (9223372036854775808 : Int)) = true)) ∧ (decide (List.length (spItoa (IntKind.wrap IntKind.i64 (Int.fdiv a (16777216 : Int)))) + 1 ≤ 9223372036854775807) = true)) ∧ (true = true)) ∧ (decide ((0 : Int) ≤ IntKind.wrap IntKind.i64 (bitsI BinOp.and IntKind.u32 (Int.fdiv a (65536 : Int)) (255 : Int)) ∧ IntKind.wrap IntKind.i64 (bitsI BinOp.and IntKind.u32 (Int.fdiv a (65536 : Int)) (255 : Int)) < (9223372036854775808 : Int)) = true)) ∧ (decide (List.length (spItoa (IntKind.wrap IntKind.i64 (Int.fdiv a (16777216 : Int))) ++ [(46 : UInt8)]) + List.length (spItoa (IntKind.wrap IntKind.i64 (bitsI BinOp.and IntKind.u32 (Int.fdiv a (65536 : Int)) (255 : Int)))) ≤ 9223372036854775807) = true)) ∧ (decide (List.length (spItoa (IntKind.wrap IntKind.i64 (Int.fdiv a (16777216 : Int))) ++ [(46 : UInt8)] ++ spItoa (IntKind.wrap IntKind.i64 (bitsI BinOp.and IntKind.u32 (Int.fdiv a (65536 : Int)) (255 : Int)))) + 1 ≤ 9223372036854775807) = true)) ∧ (true = true)) ∧ (decide ((0 : Int) ≤ IntKind.wrap IntKind.i64 (bitsI BinOp.and IntKind.u32 (Int.fdiv a (256 : Int)) (255 : Int)) ∧ IntKind.wrap IntKind.i64 (bitsI BinOp.and IntKind.u32 (Int.fdiv a (256 : Int)) (255 : Int)) < (9223372036854775808 : Int)) = true)) ∧ (decide (List.length (spItoa (IntKind.wrap IntKind.i64 (Int.fdiv a (16777216 : Int))) ++ [(46 : UInt8)] ++ spItoa (IntKind.wrap IntKind.i64 (bitsI BinOp.and IntKind.u32 (Int.fdiv a (65536 : Int)) (255 : Int))) ++ [(46 : UInt8)]) + List.length (spItoa (IntKind.wrap IntKind.i64 (bitsI BinOp.and IntKind.u32 (Int.fdiv a (256 : Int)) (255 : Int)))) ≤ 9223372036854775807) = true)) ∧ (decide (List.length (spItoa (IntKind.wrap IntKind.i64 (Int.fdiv a (16777216 : Int))) ++ [(46 : UInt8)] ++ spItoa (IntKind.wrap IntKind.i64 (bitsI BinOp.and IntKind.u32 (Int.fdiv a (65536 : Int)) (255 : Int))) ++ [(46 : UInt8)] ++ spItoa (IntKind.wrap IntKind.i64 (bitsI BinOp.and IntKind.u32 (Int.fdiv a (256 : Int)) (255 : Int)))) + 1 ≤ 9223372036854775807) = true)) ∧ (decide ((0 : Int) ≤ IntKind.wrap IntKind.i64 (bitsI BinOp.and IntKind.u32 a (255 : Int)) ∧ IntKind.wrap IntKind.i64 (bitsI BinOp.and IntKind.u32 a (255 : Int)) < (9223372036854775808 : Int)) = true)) ∧ (decide (List.length (spItoa (IntKind.wrap IntKind.i64 (Int.fdiv a (16777216 : Int))) ++ [(46 : UInt8)] ++ spItoa (IntKind.wrap IntKind.i64 (bitsI BinOp.and IntKind.u32 (Int.fdiv a (65536 : Int)) (255 : Int))) ++ [(46 : UInt8)] ++ spItoa (IntKind.wrap IntKind.i64 (bitsI BinOp.and IntKind.u32 (Int.fdiv a (256 : Int)) (255 : Int))) ++ [(46 : UInt8)]) + List.length (spItoa (IntKind.wrap IntKind.i64 (bitsI BinOp.and IntKind.u32 a (255 : Int)))) ≤ 9223372036854775807) = true)) := by unfold Path; kernel_rfl
theorem and255 {x : Int} (h0 : 0 ≤ x) (h1 : x < 4294967296) : bitsI .and .u32 x 255 = x % 256 := by
  obtain ⟨n, rfl⟩ := Int.eq_ofNat_of_zero_le h0
  unfold bitsI
  show IntKind.wrap .u32 (((BitVec.ofInt 32 (n : Int)) &&& BitVec.ofInt 32 255).toNat : Int) = _
  rw [BitVec.toNat_and]
  have e1 : (BitVec.ofInt 32 (n : Int)).toNat = n := by
    rw [BitVec.toNat_ofInt]; omega
  have e2 : (BitVec.ofInt 32 255).toNat = 2 ^ 8 - 1 := by decide
  rw [e1, e2, Nat.and_two_pow_sub_one_eq_mod, IntKind.wrap_u32]
  omega
theorem oct_top {a : Int} (h0 : 0 ≤ a) (h1 : a < 4294967296) : IntKind.wrap IntKind.i64 (Int.fdiv a 16777216) = octet a 16777216 := by
  unfold octet
  rw [Int.fdiv_eq_ediv_of_nonneg _ (by decide), IntKind.wrap_u8, IntKind.wrap_i64, IntKind.wrap_i64]
  omega
theorem oct_mid {a d : Int} (h0 : 0 ≤ a) (h1 : a < 4294967296) (hd : d = 65536 ∨ d = 256 ∨ d = 1) : IntKind.wrap IntKind.i64 (bitsI BinOp.and IntKind.u32 (Int.fdiv a d) 255) = octet a d := by
  unfold octet
  have e : Int.fdiv a d = a / d := Int.fdiv_eq_ediv_of_nonneg _ (by omega)
  rw [e]
  have hx : 0 ≤ a / d ∧ a / d < 4294967296 := by rcases hd with rfl | rfl | rfl <;> omega
  rw [and255 hx.1 hx.2, IntKind.wrap_u8]
def q21 : Entry := fun args hp nx => match args with
  | [.int .u32 a] => some (decide (0 ≤ a ∧ a < 4294967296), .str (spDotted a), [])
  | _ => none
theorem q21_ok : EntryOK Tryz.prog 21 q21 := by
  intro args hp nx c v bs h hc ρ w hs hi
  unfold q21 at h
  split at h
  · rename_i a
    cases h
    obtain ⟨h0, h1⟩ := of_decide_eq_true hc
    refine entry_pure hs rfl ?_
    have hE : HSim ρ (addBlks .e 0 []) ([] : List Blk).length w := HSim.ins hs.gw (fun i blk hi => by simp at hi)
    have hp := c21_ a
    have e1 := oct_top h0 h1
    have e2 := oct_mid h0 h1 (d := 65536) (.inl rfl)
    have e3 := oct_mid h0 h1 (d := 256) (.inr (.inl rfl))
    have e4 := oct_mid h0 h1 (d := 1) (.inr (.inr rfl))
    rw [show Int.fdiv a 1 = a by rw [Int.fdiv_eq_ediv_of_nonneg _ (by decide)]; omega] at e4
    rw [e1, e2, e3, e4] at hp
    have g1 := octet_range a 16777216; have g2 := octet_range a 65536; have g3 := octet_range a 256; have g4 := octet_range a 1
    have l1 := len_itoa _ (show -9223372036854775808 ≤ octet a 16777216 ∧ octet a 16777216 ≤ 9223372036854775807 by omega)
    have l2 := len_itoa _ (show -9223372036854775808 ≤ octet a 65536 ∧ octet a 65536 ≤ 9223372036854775807 by omega)
    have l3 := len_itoa _ (show -9223372036854775808 ≤ octet a 256 ∧ octet a 256 ≤ 9223372036854775807 by omega)
    have l4 := len_itoa _ (show -9223372036854775808 ≤ octet a 1 ∧ octet a 1 ≤ 9223372036854775807 by omega)
    have e5 : spDotted a = spItoa (octet a 16777216) ++ [46] ++ spItoa (octet a 65536) ++ [46] ++ spItoa (octet a 256) ++ [46] ++ spItoa (octet a 1) := by unfold spDotted; rw [join4]
    rw [e5]
    refine calls_pureB P8_ok hp ?_ hE rfl rfl rfl
    simp only [decide_eq_true_eq, List.length_append, List.length_cons, List.length_nil, eq_self, true_and, and_true]
    omega
  · cases h
def P9 : Prims := addP P8 21 q21
theorem P9_ok : PrimsOK Tryz.prog P9 := addP_ok P8_ok q21_ok
end Go.Proofs.YtpdgmgkkbbndfaaGreatDoor
set_option maxRecDepth 100000
set_option maxHeartbeats 6400000
set_option linter.unusedVariables false
set_option linter.unusedSimpArgs false
namespace Go.Proofs.YtpdgmgkkbbndfaaGreatDoor
open Go Go.Proofs Go.Proofs.YtpdgmgkkbbndfaaGreatDoor.SX Go.RowKit
theorem build_bad {w : World} {start : List UInt8} {hrows brows : List (List AV)} {hv bv : Value} (gw : GW w) (h1 : Reads w [.str, .str] hrows hv) (h2 : Reads w [.int .u8] brows bv)
    (hst : start.length ≤ 4294967200) (hsh : hrows.all short = true) (hbn : brows.length ≤ 140737488355328) (hbad : spRight start hrows brows.length = false) :
    Calls Tryz.prog 24 #[.agg #[.string ⟨start.toArray⟩, hv, bv]] w (fun e w' => e = .returned (.tuple #[.slice none 0 0, .int .i64 4]) ∧ Below w.heap.size w w') := by
  have hr := fun (w1 : World) (hx : Below w.heap.size w w1) => right_reads (gw.ext hx) (h1.ext hx) (h2.ext hx) hst hsh hbn
  go_enter Tryz.func24, Tryz.ntmps24
  go_wp2_with (go_at_call 26; refine (hr _ ?_).mono ?_; refine Hid.out ?_)
  · exact (Below.refl _ w).alloc (Nat.le_refl _) _
  refine Lib.hid ?_
  rintro e W1 ⟨rfl, hx1⟩
  rw [hbad]
  have hsz0 : (w.alloc (.cells #[.string ⟨start.toArray⟩, hv, bv] 25)).heap.size = w.heap.size + 1 := by simp
  have hB1 : Below w.heap.size w W1 := ((Below.refl _ w).alloc (Nat.le_refl _) _).trans (hx1.mono (by rw [hsz0]; omega))
  go_wp2
  go_ret2
  exact ⟨rfl, hB1⟩
def spBuildB (start : List UInt8) (hrows brows : List (List AV)) : List (List AV) :=
  bif spRight start hrows brows.length then byteRows (start ++ [13, 10] ++ hdrText hrows ++ [13, 10]) ++ brows else []
def spBuildE (start : List UInt8) (hrows brows : List (List AV)) : Int := bif spRight start hrows brows.length then 0 else 4
theorem build_calls {w : World} {start : List UInt8} {hrows brows : List (List AV)} {hv bv : Value} (gw : GW w) (h1 : Reads w [.str, .str] hrows hv) (h2 : Reads w [.int .u8] brows bv)
    (hst : start.length ≤ 4294967200) (hsh : hrows.all short = true) (hbn : brows.length ≤ 140737488355328) :
    Calls Tryz.prog 24 #[.agg #[.string ⟨start.toArray⟩, hv, bv]] w (fun e w' => (∃ v, e = .returned (.tuple #[v, .int .i64 (spBuildE start hrows brows)]) ∧ NewSl w.heap.size w' [.int .u8] (spBuildB start hrows brows) v) ∧ Ext w w') := by
  unfold spBuildB spBuildE
  cases h : spRight start hrows brows.length with
  | true => exact build_good gw h1 h2 hst hsh hbn h
  | false =>
    refine (build_bad gw h1 h2 hst hsh hbn h).mono fun e w' hq => ?_
    obtain ⟨rfl, hb⟩ := hq
    exact ⟨⟨_, rfl, NewSl.none (ρ' := fun _ => ⟨0, 0, 0, 0, false⟩) (gw.ext hb) rfl⟩, hb⟩
def q24 : Entry := fun args hp nx => match args with
  | [.agg [.str start, hv, bv]] => match slIn hp [.str, .str] hv, slIn hp [.int .u8] bv with
    | some (c1, hrows), some (c2, brows) =>
      some (c1 && (c2 && decide (start.length ≤ 4294967200 ∧ hrows.all short = true ∧ brows.length ≤ 140737488355328)),
        .tup [.slq nx (spBuildB start hrows brows).length, .int .i64 (spBuildE start hrows brows)], [.cells false [.int .u8] (spBuildB start hrows brows)])
    | _, _ => none
  | _ => none
theorem q24_ok : EntryOK Tryz.prog 24 q24 := by
  intro args hp nx c v bs h hc ρ w hs hi
  unfold q24 at h
  split at h
  · rename_i start hv bv
    split at h
    · rename_i c1 hrows c2 brows hs1 hs2
      cases h
      simp only [Bool.and_eq_true] at hc
      obtain ⟨hc1, hc2, hc3⟩ := hc
      obtain ⟨g1, g2, g3⟩ := of_decide_eq_true hc3
      have hcall := build_calls hs.gw (slIn_spec hs hs1 hc1 rfl) (slIn_spec hs hs2 hc2 rfl) g1 g2 g3
      have ea : (concL ρ [AV.agg [.str start, hv, bv]]).toArray = #[.agg #[.string ⟨start.toArray⟩, conc ρ hv, conc ρ bv]] := rfl
      rw [ea]
      refine hcall.mono fun e w' hq => ?_
      obtain ⟨⟨v, rfl, b1, n1, k1⟩, he⟩ := hq
      have e1 : extB ρ nx [b1] nx = b1 := by have := extB_new ρ nx [b1] 0; simpa using this
      have st := HStep.bis (bs := [Blk.cells false [.int .u8] (spBuildB start hrows brows)]) [b1] hs he (fun i blk hi => by
        match i with
        | 0 => simp at hi; subst hi; exact ⟨rfl, n1, rfl, fun ρ' b hb => (k1 ρ' b hb).2⟩
        | i + 1 => simp at hi)
      refine ⟨_, ?_, ?_, st⟩
      · have h1 := (k1 _ _ e1).1
        simp only [conc, concL] at h1 ⊢
        rw [h1]
      · simp [AV.idsB, idsBL, blt_iff]
    · cases h
  · cases h
def P10 : Prims := addP P9 24 q24
theorem P10_ok : PrimsOK Tryz.prog P10 := addP_ok P9_ok q24_ok
end Go.Proofs.YtpdgmgkkbbndfaaGreatDoor
set_option maxRecDepth 100000
set_option maxHeartbeats 6400000
set_option linter.unusedVariables false
set_option linter.unusedSimpArgs false
namespace Go.Proofs.YtpdgmgkkbbndfaaGreatDoor
open Go Go.Proofs Go.Proofs.YtpdgmgkkbbndfaaGreatDoor.SX
theorem c18_EEE :
    Path (runCallB Tryz.prog P10 100 18 [] (st0 [] ([PI.ev 1, PI.ev 1, PI.ev 1]))) 0 [] (SL.mk [] [] 0) (Out.ret (AV.bool true))
      (((((((((((((((((((((True ∧ (true = true)) ∧ (true = true)) ∧ (true = true)) ∧ (true = true)) ∧ (true = true)) ∧ (true = true)) ∧ (true = true)) ∧ (true = true)) ∧ (true = true)) ∧ (true = true)) ∧ (true = true)) ∧ (true = true)) ∧ (true = true)) ∧ (true = true)) ∧ (true = true)) ∧ (true = true)) ∧ (true = true)) ∧ (true = true)) ∧ (true = true)) ∧ (true = true)) ∧ (true = true)) := by unfold Path; kernel_rfl
def q18 : Entry := fun args hp nx => match args with
  | [] => some (true, .bool true, [])
  | _ => none
theorem q18_ok : EntryOK Tryz.prog 18 q18 := by
  intro args hp nx c v bs h hc ρ w hs hi
  unfold q18 at h
  split at h
  · cases h
    have hE : HSim ρ (addBlks .e 0 []) ([] : List Blk).length w := HSim.ins hs.gw (fun i blk hi => by simp at hi)
    exact entry_pure hs rfl (calls_pureB P10_ok c18_EEE (by simp only [eq_self, and_self]) hE rfl rfl rfl)
  · cases h
def P11 : Prims := addP P10 18 q18
theorem P11_ok : PrimsOK Tryz.prog P11 := addP_ok P10_ok q18_ok
end Go.Proofs.YtpdgmgkkbbndfaaGreatDoor
set_option maxRecDepth 100000
set_option linter.unusedVariables false
set_option linter.unusedSimpArgs false
namespace Go.Proofs.YtpdgmgkkbbndfaaGreatDoor
open Go Go.Proofs Go.Proofs.YtpdgmgkkbbndfaaGreatDoor.SX
def b61I (r1 r2 : List (List AV)) (n m : Nat) (k : Int) : SL := ⟨[(0, .slq 0 n), (1, .slq 1 m), (12, .int .i64 n), (13, .int .i64 k)], [(0, .cells false [.str, .str] r1), (1, .cells false [.str, .str] r2)], 2⟩
theorem b61_TT (r1 : List (List AV)) (r2 : List (List AV)) (n : Nat) (m : Nat) (k : Int) :
    Path (run Tryz.prog P11 100 (lbody Tryz.prog 61 0) (SL.mp 26 ([.as_ true, .as_ true]) (b61I r1 r2 n m k))) 2 [] (SL.mk [(4, AV.lit false)] [] 2) (Ex.ret)
      ((((((((True ∧ (decide (k < (↑n : Int)) = true)) ∧ (decide (0 < n) = true)) ∧ (decide ((0 : Int) ≤ k ∧ k < (↑n : Int)) = true)) ∧ (decide (0 + Int.toNat k < List.length r1) = true)) ∧ (decide (0 < m) = true)) ∧ (decide ((0 : Int) ≤ k ∧ k < (↑m : Int)) = true)) ∧ (decide (0 + Int.toNat k < List.length r2) = true)) ∧ ((!(AV.toStr (List.getD (List.getD r1 (0 + Int.toNat k) []) (0) AV.undef) == AV.toStr (List.getD (List.getD r2 (0 + Int.toNat k) []) (0) AV.undef) && AV.toStr (List.getD (List.getD r1 (0 + Int.toNat k) []) (1) AV.undef) == AV.toStr (List.getD (List.getD r2 (0 + Int.toNat k) []) (1) AV.undef))) = true)) := by unfold Path; kernel_rfl
theorem b61_TF (r1 : List (List AV)) (r2 : List (List AV)) (n : Nat) (m : Nat) (k : Int) :
    Path (run Tryz.prog P11 100 (lbody Tryz.prog 61 0) (SL.mp 26 ([.as_ true, .as_ false]) (b61I r1 r2 n m k))) 2 [] (b61I (r1) (r2) (n) (m) (IntKind.wrap IntKind.i64 (k + (1 : Int)))) (Ex.normal)
      ((((((((True ∧ (decide (k < (↑n : Int)) = true)) ∧ (decide (0 < n) = true)) ∧ (decide ((0 : Int) ≤ k ∧ k < (↑n : Int)) = true)) ∧ (decide (0 + Int.toNat k < List.length r1) = true)) ∧ (decide (0 < m) = true)) ∧ (decide ((0 : Int) ≤ k ∧ k < (↑m : Int)) = true)) ∧ (decide (0 + Int.toNat k < List.length r2) = true)) ∧ ((!(AV.toStr (List.getD (List.getD r1 (0 + Int.toNat k) []) (0) AV.undef) == AV.toStr (List.getD (List.getD r2 (0 + Int.toNat k) []) (0) AV.undef) && AV.toStr (List.getD (List.getD r1 (0 + Int.toNat k) []) (1) AV.undef) == AV.toStr (List.getD (List.getD r2 (0 + Int.toNat k) []) (1) AV.undef))) = false)) := by unfold Path; kernel_rfl
theorem b61_F (r1 : List (List AV)) (r2 : List (List AV)) (n : Nat) (m : Nat) (k : Int) :
    Path (run Tryz.prog P11 100 (lbody Tryz.prog 61 0) (SL.mp 26 ([.as_ false]) (b61I r1 r2 n m k))) 2 [] (SL.mk [] [] 2) (Ex.exit 0)
      (True ∧ (decide (k < (↑n : Int)) = false)) := by unfold Path; kernel_rfl
theorem c61a_T (r1 : List (List AV)) (r2 : List (List AV)) :
    Path (runCallB Tryz.prog P11 100 61 [AV.slq 0 (List.length r1), AV.slq 1 (List.length r2)] (st0 [Blk.cells false [Kd.str, Kd.str] r1, Blk.cells false [Kd.str, Kd.str] r2] ([.as_ true]))) 2 [] (SL.mk [] [] 2) (Out.ret (AV.lit false))
      (True ∧ ((!(↑(List.length r1) : Int) == (↑(List.length r2) : Int)) = true)) := by unfold Path; kernel_rfl
theorem c61a_FL (r1 : List (List AV)) (r2 : List (List AV)) :
    Path (runCallB Tryz.prog P11 100 61 [AV.slq 0 (List.length r1), AV.slq 1 (List.length r2)] (st0 [Blk.cells false [Kd.str, Kd.str] r1, Blk.cells false [Kd.str, Kd.str] r2] ([.as_ false, PI.loop (b61I r1 r2 (List.length r1) (List.length r2) (0 : Int)) Ex.ret (SL.mk [(4, AV.lit false)] [] 2)]))) 2 [] (SL.mk [] [] 2) (Out.ret (AV.lit false))
      ((True ∧ ((!(↑(List.length r1) : Int) == (↑(List.length r2) : Int)) = false)) ∧ (LoopOK Tryz.prog (lbody Tryz.prog 61 0) (26) (SL.mk [(0, AV.slq 0 (List.length r1)), (1, AV.slq 1 (List.length r2)), (12, AV.int IntKind.i64 (↑(List.length r1) : Int)), (13, AV.int IntKind.i64 (0 : Int))] [(0, Blk.cells false [Kd.str, Kd.str] r1), (1, Blk.cells false [Kd.str, Kd.str] r2)] 2) Ex.ret (SL.mk [(4, AV.lit false)] [] 2))) := by unfold Path; kernel_rfl
theorem c61b_FL (r1 : List (List AV)) (r2 : List (List AV)) :
    Path (runCallB Tryz.prog P11 100 61 [AV.slq 0 (List.length r1), AV.slq 1 (List.length r2)] (st0 [Blk.cells false [Kd.str, Kd.str] r1, Blk.cells false [Kd.str, Kd.str] r2] ([.as_ false, PI.loop (b61I r1 r2 (List.length r1) (List.length r2) (0 : Int)) (Ex.exit 0) (SL.mk [] [] 2)]))) 2 [] (SL.mk [] [] 2) (Out.ret (AV.lit true))
      ((True ∧ ((!(↑(List.length r1) : Int) == (↑(List.length r2) : Int)) = false)) ∧ (LoopOK Tryz.prog (lbody Tryz.prog 61 0) (26) (SL.mk [(0, AV.slq 0 (List.length r1)), (1, AV.slq 1 (List.length r2)), (12, AV.int IntKind.i64 (↑(List.length r1) : Int)), (13, AV.int IntKind.i64 (0 : Int))] [(0, Blk.cells false [Kd.str, Kd.str] r1), (1, Blk.cells false [Kd.str, Kd.str] r2)] 2) (Ex.exit 0) (SL.mk [] [] 2))) := by unfold Path; kernel_rfl
theorem c62_ (r1 : List (List AV)) (r2 : List (List AV)) :
    Path (runCallB Tryz.prog P11 100 62 [AV.slq 0 (List.length r1), AV.slq 1 (List.length r2)] (st0 [Blk.cells false [Kd.int IntKind.u8] r1, Blk.cells false [Kd.int IntKind.u8] r2] ([]))) 2 [] (SL.mk [] [] 2) (Out.ret (AV.bool (List.map rowByte (sub r1 0 (List.length r1)) == List.map rowByte (sub r2 0 (List.length r2)))))
      ((True ∧ (decide (0 + List.length r1 ≤ List.length r1) = true)) ∧ (decide (0 + List.length r2 ≤ List.length r2) = true)) := by unfold Path; kernel_rfl
def eqAt (r1 r2 : List (List AV)) (k : Nat) : Bool := hN (r1.getD (0 + k) []) == hN (r2.getD (0 + k) []) && hV (r1.getD (0 + k) []) == hV (r2.getD (0 + k) [])
def spEqH (r1 r2 : List (List AV)) : Bool := decide (r1.length = r2.length) && (List.range r1.length).all (eqAt r1 r2)
theorem eq_next {r1 r2 : List (List AV)} {k : Nat} (he : r1.length = r2.length) (hl : r1.length ≤ 4611686018427387904) (h : k < r1.length) (hk : eqAt r1 r2 k = true) :
    BodyOK Tryz.prog (lbody Tryz.prog 61 0) 26 2 (b61I r1 r2 r1.length r2.length (k : Int)) .normal (b61I r1 r2 r1.length r2.length ((k + 1 : Nat) : Int)) := by
  refine body_by P11_ok (b61_TF r1 r2 r1.length r2.length k) (by rw [succ64 (n := r1.length) h hl]) ?_ rfl
  have e : (!eqAt r1 r2 k) = false := by rw [hk]; rfl
  exact ⟨⟨⟨⟨⟨⟨⟨⟨trivial, decide_eq_true (by omega)⟩, decide_eq_true (by omega)⟩, decide_eq_true (by omega)⟩, decide_eq_true (by omega)⟩, decide_eq_true (by omega)⟩, decide_eq_true (by omega)⟩, decide_eq_true (by omega)⟩, e⟩
theorem eq_bad {r1 r2 : List (List AV)} {k : Nat} (he : r1.length = r2.length) (h : k < r1.length) (hk : eqAt r1 r2 k = false) :
    BodyOK Tryz.prog (lbody Tryz.prog 61 0) 26 2 (b61I r1 r2 r1.length r2.length (k : Int)) .ret ⟨[(4, .lit false)], [], 2⟩ := by
  refine body_by P11_ok (b61_TT r1 r2 r1.length r2.length k) rfl ?_ rfl
  have e : (!eqAt r1 r2 k) = true := by rw [hk]; rfl
  exact ⟨⟨⟨⟨⟨⟨⟨⟨trivial, decide_eq_true (by omega)⟩, decide_eq_true (by omega)⟩, decide_eq_true (by omega)⟩, decide_eq_true (by omega)⟩, decide_eq_true (by omega)⟩, decide_eq_true (by omega)⟩, decide_eq_true (by omega)⟩, e⟩
theorem eq_ret {r1 r2 : List (List AV)} {j : Nat} (he : r1.length = r2.length) (hl : r1.length ≤ 4611686018427387904) (h : firstAt (fun k => !eqAt r1 r2 k) (List.range r1.length) = some j) :
    LoopOK Tryz.prog (lbody Tryz.prog 61 0) 26 (b61I r1 r2 r1.length r2.length 0) .ret ⟨[(4, .lit false)], [], 2⟩ := by
  obtain ⟨hj, h2, h3⟩ := firstAt_some h
  have hj' : j < r1.length := by simpa using hj
  refine loop_rule (E := b61I r1 r2 r1.length r2.length 0) (I := fun k : Nat => b61I r1 r2 r1.length r2.length k) (pre := fun k => k ≤ j) (μ := fun k => j - k) _ _ rfl (fun ρ => by simp [Ex.conc]) ?_ (x0 := 0) (pick := []) (Nat.zero_le _) ⟨by kernel_rfl, map_fst_snd (by kernel_rfl)⟩
  intro k hk
  by_cases hkj : k = j
  · right
    subst hkj
    exact eq_bad he hj' (by simpa using h2)
  · left
    exact ⟨k + 1, by omega, by omega, eq_next he hl (by omega) (by have := h3 k (by omega); simpa using this)⟩
theorem eq_end {r1 r2 : List (List AV)} (he : r1.length = r2.length) (hl : r1.length ≤ 4611686018427387904) (h : firstAt (fun k => !eqAt r1 r2 k) (List.range r1.length) = none) :
    LoopOK Tryz.prog (lbody Tryz.prog 61 0) 26 (b61I r1 r2 r1.length r2.length 0) (.exit 0) ⟨[], [], 2⟩ := by
  have h3 := firstAt_none h
  refine loop_rule (E := b61I r1 r2 r1.length r2.length 0) (I := fun k : Nat => b61I r1 r2 r1.length r2.length k) (pre := fun k => k ≤ r1.length) (μ := fun k => r1.length - k) _ _ rfl (fun ρ => by simp [Ex.conc]) ?_ (x0 := 0) (pick := []) (Nat.zero_le _) ⟨by kernel_rfl, map_fst_snd (by kernel_rfl)⟩
  intro k hk
  by_cases hkl : k < r1.length
  · left
    exact ⟨k + 1, by omega, by omega, eq_next he hl hkl (by have := h3 k (by simpa using hkl); simpa using this)⟩
  · right
    exact body_by P11_ok (b61_F r1 r2 r1.length r2.length k) rfl ⟨trivial, decide_eq_false (by omega)⟩ rfl
def ins61 (ks : List Kd) (r1 r2 : List (List AV)) : List Blk := [Blk.cells false ks r1, Blk.cells false ks r2]
theorem two_in {w : World} {ks : List Kd} {r1 r2 : List (List AV)} {v1 v2 : Value} (hk : noAny ks = true) (gw : GW w) (h1 : Reads w ks r1 v1) (h2 : Reads w ks r2 v2) :
    ∃ ρ0 : Nat → BI, HSim ρ0 (addBlks .e 0 (ins61 ks r1 r2)) (ins61 ks r1 r2).length w ∧ conc ρ0 (.slq 0 r1.length) = v1 ∧ conc ρ0 (.slq 1 r2.length) = v2 := by
  obtain ⟨b1, hb1⟩ := h1.bi gw hk
  obtain ⟨b2, hb2⟩ := h2.bi gw hk
  have hkk : ∀ rows : List (List AV), (Blk.cells false ks rows).idsB 2 = true := fun rows => by
    have : ks.any Kd.isAny = false := by simpa [noAny] using hk
    simp [Blk.idsB, this]
  refine ⟨fun i => if i = 0 then b1 else b2, HSim.ins gw (fun i blk hi => ?_), (hb1 _ 0 rfl).1, (hb2 _ 1 rfl).1⟩
  match i with
  | 0 => simp [ins61] at hi; subst hi; exact ⟨(hb1 _ 0 rfl).2, rfl, hkk r1⟩
  | 1 => simp [ins61] at hi; subst hi; exact ⟨(hb2 _ 1 rfl).2, rfl, hkk r2⟩
  | i + 2 => simp [ins61] at hi
def q61 : Entry := fun args hp nx => match args with
  | [v1, v2] => match slIn hp [.str, .str] v1, slIn hp [.str, .str] v2 with
    | some (c1, r1), some (c2, r2) => some (c1 && (c2 && decide (r1.length ≤ 4611686018427387904)), .bool (spEqH r1 r2), [])
    | _, _ => none
  | _ => none
theorem q61_ok : EntryOK Tryz.prog 61 q61 := by
  intro args hp nx c v bs h hc ρ w hs hi
  unfold q61 at h
  split at h
  · rename_i v1 v2
    split at h
    · rename_i c1 r1 c2 r2 hs1 hs2
      cases h
      simp only [Bool.and_eq_true] at hc
      obtain ⟨hc1, hc2, hc3⟩ := hc
      have hl := of_decide_eq_true hc3
      obtain ⟨ρ0, hE, e1, e2⟩ := two_in rfl hs.gw (slIn_spec hs hs1 hc1 rfl) (slIn_spec hs hs2 hc2 rfl)
      refine entry_pure hs rfl ?_
      have ea : concL ρ0 [AV.slq 0 r1.length, AV.slq 1 r2.length] = concL ρ [v1, v2] := by simp only [concL]; rw [e1, e2]
      rw [← ea]
      by_cases he : r1.length = r2.length
      · have q : (!((r1.length : Nat) : Int) == ((r2.length : Nat) : Int)) = false := by rw [he]; simp
        cases hf : firstAt (fun k => !eqAt r1 r2 k) (List.range r1.length) with
        | some j =>
          have ev : spEqH r1 r2 = false := by
            unfold spEqH
            cases h : (List.range r1.length).all (eqAt r1 r2) with
            | false => simp
            | true => rw [← firstAt_all] at h; rw [h] at hf; cases hf
          rw [ev]
          exact calls_pureB P11_ok (c61a_FL r1 r2) ⟨⟨trivial, q⟩, eq_ret he hl hf⟩ hE rfl rfl rfl
        | none =>
          have ev : spEqH r1 r2 = true := by
            unfold spEqH
            rw [decide_eq_true he, firstAt_all.1 hf]; rfl
          rw [ev]
          exact calls_pureB P11_ok (c61b_FL r1 r2) ⟨⟨trivial, q⟩, eq_end he hl hf⟩ hE rfl rfl rfl
      · have ev : spEqH r1 r2 = false := by unfold spEqH; rw [decide_eq_false he]; rfl
        rw [ev]
        have q : (!((r1.length : Nat) : Int) == ((r2.length : Nat) : Int)) = true := by simp; omega
        exact calls_pureB P11_ok (c61a_T r1 r2) ⟨trivial, q⟩ hE rfl rfl rfl
    · cases h
  · cases h
def q62 : Entry := fun args hp nx => match args with
  | [v1, v2] => match slIn hp [.int .u8] v1, slIn hp [.int .u8] v2 with
    | some (c1, r1), some (c2, r2) => some (c1 && c2, .bool (r1.map rowByte == r2.map rowByte), [])
    | _, _ => none
  | _ => none
theorem q62_ok : EntryOK Tryz.prog 62 q62 := by
  intro args hp nx c v bs h hc ρ w hs hi
  unfold q62 at h
  split at h
  · rename_i v1 v2
    split at h
    · rename_i c1 r1 c2 r2 hs1 hs2
      cases h
      simp only [Bool.and_eq_true] at hc
      obtain ⟨hc1, hc2⟩ := hc
      obtain ⟨ρ0, hE, e1, e2⟩ := two_in rfl hs.gw (slIn_spec hs hs1 hc1 rfl) (slIn_spec hs hs2 hc2 rfl)
      refine entry_pure hs rfl ?_
      have ea : concL ρ0 [AV.slq 0 r1.length, AV.slq 1 r2.length] = concL ρ [v1, v2] := by simp only [concL]; rw [e1, e2]
      rw [← ea]
      have hp := c62_ r1 r2
      rw [sub_all r1 rfl, sub_all r2 rfl] at hp
      exact calls_pureB P11_ok hp ⟨⟨trivial, decide_eq_true (by omega)⟩, decide_eq_true (by omega)⟩ hE rfl rfl rfl
    · cases h
  · cases h
def P12 : Prims := addP (addP P11 61 q61) 62 q62
theorem P12_ok : PrimsOK Tryz.prog P12 := addP_ok (addP_ok P11_ok q61_ok) q62_ok
end Go.Proofs.YtpdgmgkkbbndfaaGreatDoor
set_option maxRecDepth 100000
set_option linter.unusedVariables false
set_option linter.unusedSimpArgs false
namespace Go.Proofs.YtpdgmgkkbbndfaaGreatDoor
open Go Go.Proofs Go.Proofs.YtpdgmgkkbbndfaaGreatDoor.SX
theorem parse_snoc : ∀ (l : List UInt8) (acc u : Nat) (d : Nat), Lib.parseUint10 acc l = .ok u → u < 1000000000000000000 → d < 10 → Lib.parseUint10 acc (l ++ [UInt8.ofNat (48 + d)]) = .ok (u * 10 + d)
  | [], acc, u, d, h, hu, hd => by
    simp only [Lib.parseUint10] at h
    cases h
    have e : (UInt8.ofNat (48 + d)).toNat = 48 + d := by rw [UInt8.toNat_ofNat']; omega
    simp only [List.nil_append, Lib.parseUint10, e]
    rw [if_pos (by omega), if_neg (by omega), if_neg (by omega)]
    congr 1
    omega
  | c :: r, acc, u, d, h, hu, hd => by
    simp only [Lib.parseUint10, List.cons_append] at h ⊢
    split at h
    · rename_i h1
      rw [if_pos h1]
      split at h
      · cases h
      · rename_i h2
        rw [if_neg h2]
        split at h
        · cases h
        · rename_i h3
          rw [if_neg h3]
          exact parse_snoc r _ u d h hu hd
    · cases h
theorem parse_dec (n : Nat) (h : n < 1000000000000000000) : Lib.parseUint10 0 (Lib.decDigits n) = .ok n := by
  induction n using Nat.strongRecOn with
  | ind n ih =>
    rw [Lib.decDigits]
    by_cases h0 : n < 10
    · rw [dif_pos h0]
      have := parse_snoc [] 0 0 n rfl (by omega) h0
      simpa using this
    · rw [dif_neg h0]
      have := parse_snoc _ 0 _ (n % 10) (ih (n / 10) (by omega) (by omega)) (by omega) (by omega)
      rw [this]
      congr 1
      omega
def isDig (c : UInt8) : Bool := decide (48 ≤ c.toNat ∧ c.toNat ≤ 57)
theorem dec_dig (n : Nat) : (Lib.decDigits n).all isDig = true ∧ Lib.decDigits n ≠ [] := by
  induction n using Nat.strongRecOn with
  | ind n ih =>
    rw [Lib.decDigits]
    have e : ∀ d, d < 10 → isDig (UInt8.ofNat (48 + d)) = true := fun d hd => by
      have : (UInt8.ofNat (48 + d)).toNat = 48 + d := by rw [UInt8.toNat_ofNat']; omega
      unfold isDig; rw [this]; exact decide_eq_true (by omega)
    by_cases h0 : n < 10
    · rw [dif_pos h0]
      exact ⟨by rw [List.all_cons, e n h0]; rfl, by simp⟩
    · rw [dif_neg h0, List.all_append]
      have := (ih (n / 10) (by omega)).1
      exact ⟨by rw [this, List.all_cons, e (n % 10) (by omega)]; rfl, by simp⟩
theorem itoa_nat (n : Nat) : spItoa (n : Int) = Lib.decDigits n := Lib.itoa_nonneg n
theorem itoa_dig (n : Nat) : (spItoa (n : Int)).all isDig = true ∧ spItoa (n : Int) ≠ [] := by rw [itoa_nat]; exact dec_dig n
theorem atoi_itoa (n : Nat) (h : n < 1000000000000000000) : Lib.atoiAll (spItoa (n : Int)) = .ok (n : Int) := by
  have hp := parse_dec n h
  obtain ⟨hd, hn⟩ := dec_dig n
  rw [itoa_nat]
  cases hl : Lib.decDigits n with
  | nil => exact absurd hl hn
  | cons c r =>
    rw [hl] at hp hd
    simp only [List.all_cons, Bool.and_eq_true] at hd
    have hc := of_decide_eq_true hd.1
    unfold Lib.atoiAll
    simp only
    rw [if_neg (by omega)]
    unfold Lib.parseMag
    rw [if_neg (by simp), hp]
    simp only
    rw [if_neg (by omega), if_neg (by omega), if_neg (by omega)]
theorem numeral_itoa (n : Nat) (h0 : 1 ≤ n) (h1 : n ≤ 65535) : spNumeral (spItoa (n : Int)) = (n : Int) := by
  have h := atoi_itoa n (by omega)
  have e1 : spAtoiOk (spItoa (n : Int)) = true := by unfold spAtoiOk; rw [h]; rfl
  have e2 : spAtoi (spItoa (n : Int)) = n := by unfold spAtoi; rw [h]; rfl
  unfold spNumeral
  rw [e1, cond_true]
  have e3 : c96_cls (spItoa (n : Int)) = 1 := by
    unfold c96_cls c96k1 c96k2 c96k4
    rw [e2, decide_eq_false (by omega), decide_eq_false (by omega)]
    simp
  rw [e3, e2]
  rfl
theorem numeral_inv {s : List UInt8} (h : spNumeral s ≠ 0) : s = spItoa (spNumeral s) ∧ 1 ≤ spNumeral s ∧ spNumeral s ≤ 65535 := by
  unfold spNumeral at h ⊢
  cases h1 : spAtoiOk s with
  | false => rw [h1, cond_false] at h; exact absurd rfl h
  | true =>
    rw [h1, cond_true] at h
    rw [cond_true]
    unfold c96_cls c96k1 c96k2 c96k4 at h ⊢
    by_cases h2 : spAtoi s < 1
    · simp [h2] at h
    · by_cases h3 : spAtoi s > 65535
      · simp [h2, h3] at h
      · cases h4 : (!spItoa (spAtoi s) == s) with
        | true => simp [h2, h3, h4] at h
        | false =>
          simp only [decide_eq_false h2, decide_eq_false h3, cond_false, show Nat.beq 1 0 = false from rfl]
          have h5 : spItoa (spAtoi s) = s := by simpa using h4
          exact ⟨h5.symm, by omega, by omega⟩
theorem cut_char {x : UInt8} {a r : List UInt8} (h : ∀ c ∈ a, c ≠ x) : spBefore (a ++ x :: r) [x] = a ∧ spAfter (a ++ x :: r) [x] = r ∧ spFound (a ++ x :: r) [x] = true := by
  have hi : ∀ a : List UInt8, (∀ c ∈ a, c ≠ x) → Lib.index (a ++ x :: r) [x] = (a.length : Int) := by
    intro a
    induction a with
    | nil => intro _; simp [Lib.index]
    | cons c a ih =>
      intro h
      have hc : c ≠ x := h c (List.mem_cons_self ..)
      have := ih fun d hd => h d (List.mem_cons_of_mem _ hd)
      simp only [List.cons_append, Lib.index, this]
      have e : ([x] : List UInt8).isPrefixOf (c :: (a ++ x :: r)) = false := by simp [List.isPrefixOf, Ne.symm hc]
      rw [e]
      simp only [Bool.false_eq_true, if_false, List.length_cons]
      rw [if_neg (by simp)]
      omega
  have := hi a h
  unfold spBefore spAfter spFound Lib.cut
  rw [this, if_pos (by omega)]
  refine ⟨?_, ?_, rfl⟩
  · simp
  · simp [List.drop_append]
theorem cut_pre {t r : List UInt8} (h : t ≠ []) : spBefore (t ++ r) t = [] ∧ spAfter (t ++ r) t = r ∧ spFound (t ++ r) t = true := by
  have hi : Lib.index (t ++ r) t = 0 := by
    cases t with
    | nil => exact absurd rfl h
    | cons c l =>
      simp only [List.cons_append, Lib.index]
      have e : (c :: l).isPrefixOf (c :: (l ++ r)) = true := by
        rw [List.isPrefixOf_iff_prefix]; exact ⟨r, by simp⟩
      rw [e]; rfl
  unfold spBefore spAfter spFound Lib.cut
  rw [hi]
  simp
theorem firstAt_app {p : UInt8 → Bool} {c : UInt8} {r : List UInt8} : ∀ {a : List UInt8}, (∀ d ∈ a, p d = false) → p c = true → firstAt p (a ++ c :: r) = some a.length
  | [], _, hc => by simp [firstAt, hc]
  | d :: a, h, hc => by
    have := firstAt_app (r := r) (fun e he => h e (List.mem_cons_of_mem _ he)) hc
    simp [firstAt, h d (List.mem_cons_self ..), this]
theorem trim_ends {c d : UInt8} {m : List UInt8} (hc : c ≠ 32) (hd : d ≠ 32) : spTrim (c :: (m ++ [d])) [32] = c :: (m ++ [d]) := by
  unfold spTrim Lib.trimS Lib.trimRightS Lib.trimLeftS
  have e : (c :: (m ++ [d])).reverse = d :: (m.reverse ++ [c]) := by simp
  rw [e]
  simp [List.dropWhile_cons, hc, hd]
end Go.Proofs.YtpdgmgkkbbndfaaGreatDoor
set_option maxRecDepth 100000
set_option linter.unusedVariables false
set_option linter.unusedSimpArgs false
namespace Go.Proofs.YtpdgmgkkbbndfaaGreatDoor
open Go Go.Proofs Go.Proofs.YtpdgmgkkbbndfaaGreatDoor.SX
def plainC (c : UInt8) : Bool := isDig c || (c == 46 || c == 58)
theorem dig_plain {l : List UInt8} (h : l.all isDig = true) : ∀ c ∈ l, plainC c = true := fun c hc => by
  unfold plainC; rw [List.all_eq_true.1 h c hc]; rfl
theorem itoa_plain {n : Int} (h : 0 ≤ n) : ∀ c ∈ spItoa n, plainC c = true := by
  obtain ⟨k, rfl⟩ := Int.eq_ofNat_of_zero_le h
  exact dig_plain (itoa_dig k).1
theorem dotted_plain (a : Int) : ∀ c ∈ spDotted a, plainC c = true := by
  have h1 := itoa_plain (octet_range a 16777216).1; have h2 := itoa_plain (octet_range a 65536).1; have h3 := itoa_plain (octet_range a 256).1; have h4 := itoa_plain (octet_range a 1).1
  unfold spDotted
  rw [join4]
  intro c hc
  simp only [List.mem_append, List.mem_cons, List.not_mem_nil, or_false] at hc
  rcases hc with (((((h | h) | h) | h) | h) | h) | h
  · exact h1 c h
  · subst h; rfl
  · exact h2 c h
  · subst h; rfl
  · exact h3 c h
  · subst h; rfl
  · exact h4 c h
def hp (a p : Int) : List UInt8 := spDotted a ++ [58] ++ spItoa p
theorem hp_plain {a p : Int} (h : 0 ≤ p) : ∀ c ∈ hp a p, plainC c = true := by
  unfold hp
  intro c hc
  simp only [List.mem_append, List.mem_cons, List.not_mem_nil, or_false] at hc
  rcases hc with (h1 | h1) | h1
  · exact dotted_plain a c h1
  · subst h1; rfl
  · exact itoa_plain h c h1
theorem plain_ne {c d : UInt8} (h : plainC c = true) (hd : plainC d = false) : c ≠ d := fun e => by rw [e, hd] at h; cases h
theorem hp_len {a p : Int} (h0 : 0 ≤ p) (h1 : p ≤ 65535) : (hp a p).length ≤ 109 := by
  have h2 := len_dotted a
  have h3 := len_itoa p (by omega)
  unfold hp
  simp only [List.length_append, List.length_cons, List.length_nil]; omega
theorem hasPre_app (p r : List UInt8) : spHasPre (p ++ r) p = true := by
  unfold spHasPre Lib.hasPrefix
  rw [List.isPrefixOf_iff_prefix]
  exact ⟨r, rfl⟩
theorem trimPre_app (p r : List UInt8) : spTrimPre (p ++ r) p = r := by
  unfold spTrimPre Lib.trimPrefix
  have := hasPre_app p r
  unfold spHasPre at this
  rw [this, if_pos rfl]
  simp
theorem place_hp {a b p tp : Int} (h0 : 1 ≤ p) (h1 : p ≤ 65535) : spPlace (spDotted a) (spDotted b) (hp a p) p tp = hp b tp := by
  obtain ⟨n, rfl⟩ := Int.eq_ofNat_of_zero_le (show 0 ≤ p by omega)
  have hn := numeral_itoa n (by omega) (by omega)
  unfold spPlace hp
  rw [hasPre_app, trimPre_app, hn]
  have e1 : (spDotted a ++ [58] ++ spItoa (n : Int) == spDotted a) = false := by
    rw [beq_eq_false_iff_ne]
    intro e
    have := congrArg List.length e
    simp only [List.length_append, List.length_cons, List.length_nil] at this
    omega
  have e2 : ((n : Int) == 0) = false := by rw [beq_eq_false_iff_ne]; omega
  rw [e1, e2, show ((n : Int) == (n : Int)) = true by simp]
  rfl
theorem behind_of {hs ts s mark signs b a : List UInt8} {p tp : Int} {c : UInt8} {h r : List UInt8} (h1 : spBefore s mark = b ∧ spAfter s mark = a ∧ spFound s mark = true) (h2 : a = h ++ c :: r) (h3 : ∀ d ∈ h, signs.contains d = false) (h4 : signs.contains c = true) :
    spBehind hs ts s mark signs p tp = b ++ mark ++ spPlace hs ts h p tp ++ c :: r := by
  obtain ⟨e1, e2, e3⟩ := h1
  subst h2
  unfold spBehind
  rw [e1, e2, e3]
  have e4 : spAnyAt (h ++ c :: r) signs = (h.length : Int) := by
    unfold spAnyAt
    rw [firstAt_app (p := fun c => signs.contains c) h3 h4]
  have e5 : spEnd (h ++ c :: r) signs = h.length := by
    unfold spEnd
    rw [e4, decide_eq_false (by omega)]
    rfl
  rw [e5]
  have e6 : sub (h ++ c :: r) 0 h.length = h := by simp [sub]
  have e7 : sub (h ++ c :: r) h.length ((h ++ c :: r).length - h.length) = c :: r := by simp [sub]
  rw [e6, e7]
  rfl
def sgInv : List UInt8 := [73, 78, 86, 73, 84, 69]
def v1 (h : List UInt8) : List UInt8 := mkVia ++ (h ++ [59, 120])
def v2 (h : List UInt8) : List UInt8 := [60, 115, 105, 112, 58, 97] ++ 64 :: (h ++ [62])
def rows3 (h : List UInt8) : List (List AV) := [[.str [118, 105, 97], .str (v1 h)], [.str [67, 79, 78, 84, 65, 67, 84], .str (v2 h)], [.str [67, 111, 110, 116, 101, 110, 116, 45, 76, 101, 110, 103, 116, 104], .str [48]]]
theorem via_hp {a b p tp : Int} (h0 : 1 ≤ p) (h1 : p ≤ 65535) : spBehind (spDotted a) (spDotted b) (v1 (hp a p)) mkVia [59] p tp = v1 (hp b tp) := by
  have hpl := hp_plain (a := a) (p := p) (by omega)
  rw [show v1 (hp a p) = mkVia ++ (hp a p ++ [59, 120]) from rfl, behind_of (h := hp a p) (c := 59) (r := [120]) (cut_pre (t := mkVia) (r := hp a p ++ [59, 120]) (by decide)) rfl (fun d hd => ?_) rfl, place_hp h0 h1]
  · unfold v1; simp
  · have := plain_ne (hpl d hd) (show plainC 59 = false by decide)
    simp [this]
theorem contact_hp {a b p tp : Int} (h0 : 1 ≤ p) (h1 : p ≤ 65535) : spBehind (spDotted a) (spDotted b) (v2 (hp a p)) [64] [62, 59] p tp = v2 (hp b tp) := by
  have hpl := hp_plain (a := a) (p := p) (by omega)
  rw [show v2 (hp a p) = [60, 115, 105, 112, 58, 97] ++ 64 :: (hp a p ++ [62]) from rfl, behind_of (h := hp a p) (c := 62) (r := []) (cut_char (x := 64) (a := [60, 115, 105, 112, 58, 97]) (r := hp a p ++ [62]) (by decide)) rfl (fun d hd => ?_) rfl, place_hp h0 h1]
  · unfold v2; simp
  · have e1 := plain_ne (hpl d hd) (show plainC 62 = false by decide)
    have e2 := plain_ne (hpl d hd) (show plainC 59 = false by decide)
    simp [e1, e2]
theorem itoa0 : spItoa 0 = [48] := by
  have : spItoa ((0 : Nat) : Int) = [48] := by rw [itoa_nat, Lib.decDigits_one (by decide)]; rfl
  exact this
theorem body0 (a b : Int) : rwBody a b [] [] = [] := by
  unfold rwBody
  have e1 : spLines (([] : List (List AV)).map rowByte) = [([], [])] := by decide
  rw [e1]
  unfold outB spLineOut spLine
  have e2 : (([] : List UInt8) == sgConn ++ spDotted a) = false := rfl
  have e3 : spHasSuf [] (sgOrig ++ spDotted a) = false := by
    unfold spHasSuf Lib.hasSuffix
    cases h : (sgOrig ++ spDotted a).isSuffixOf ([] : List UInt8) with
    | false => rfl
    | true =>
      rw [List.isSuffixOf_iff_suffix] at h
      have := h.length_le
      simp [sgOrig] at this
  have e4 : spIdx [] (spMedN []) = -1 := rfl
  simp only [List.map_cons, List.map_nil, e2, e3, e4]
  rfl
theorem not_crlf {l : List UInt8} (h : ∀ c ∈ l, plainC c = true) : l.any isCrlf = false := by
  rw [List.any_eq_false]
  intro c hc
  have e1 := plain_ne (h c hc) (show plainC 13 = false by decide)
  have e2 := plain_ne (h c hc) (show plainC 10 = false by decide)
  simp [isCrlf, e1, e2]
theorem right3 {h : List UInt8} (hc : ∀ c ∈ h, plainC c = true) (hl : h.length ≤ 200) : spRight sgInv (rows3 h) 0 = true := by
  have hb := not_crlf hc
  have b1 : spBroken (v1 h) = false := by unfold spBroken v1; rw [List.any_append, List.any_append, hb]; rfl
  have b2 : spBroken (v2 h) = false := by unfold spBroken v2; simp only [List.any_append, List.any_cons, List.any_nil, hb]; rfl
  have t1 : spTrim (v1 h) [32] = v1 h := by
    have e : v1 h = 83 :: (([73, 80, 47, 50, 46, 48, 47, 85, 68, 80, 32] ++ (h ++ [59])) ++ [120]) := by unfold v1 mkVia; simp
    rw [e]; exact trim_ends (by decide) (by decide)
  have t2 : spTrim (v2 h) [32] = v2 h := by
    have e : v2 h = 60 :: (([115, 105, 112, 58, 97] ++ 64 :: h) ++ [62]) := by unfold v2; simp
    rw [e]; exact trim_ends (by decide) (by decide)
  have t3 : spTrim [48] [32] = [48] := by decide
  have l1 : (v1 h).length = h.length + 14 := by unfold v1 mkVia; simp
  have l2 : (v2 h).length = h.length + 8 := by unfold v2; simp
  have n1 : isLen [.str [118, 105, 97], .str (v1 h)] = false := by show (spLow [118, 105, 97] == sgLen) = false; decide
  have n2 : isLen [.str [67, 79, 78, 84, 65, 67, 84], .str (v2 h)] = false := by show (spLow [67, 79, 78, 84, 65, 67, 84] == sgLen) = false; decide
  have n3 : isLen [.str [67, 111, 110, 116, 101, 110, 116, 45, 76, 101, 110, 103, 116, 104], .str [48]] = true := by show (spLow [67, 111, 110, 116, 101, 110, 116, 45, 76, 101, 110, 103, 116, 104] == sgLen) = true; decide
  have o1 : okHdr 0 [.str [118, 105, 97], .str (v1 h)] = true := by
    unfold okHdr; rw [n1]
    show (spIsName [118, 105, 97] && (!spBroken (v1 h) && ((spTrim (v1 h) [32] == v1 h) && (!false || _)))) = true
    rw [b1, t1, show spIsName [118, 105, 97] = true by decide]; simp
  have o2 : okHdr 0 [.str [67, 79, 78, 84, 65, 67, 84], .str (v2 h)] = true := by
    unfold okHdr; rw [n2]
    show (spIsName [67, 79, 78, 84, 65, 67, 84] && (!spBroken (v2 h) && ((spTrim (v2 h) [32] == v2 h) && (!false || _)))) = true
    rw [b2, t2, show spIsName [67, 79, 78, 84, 65, 67, 84] = true by decide]; simp
  have o3 : okHdr 0 [.str [67, 111, 110, 116, 101, 110, 116, 45, 76, 101, 110, 103, 116, 104], .str [48]] = true := by
    unfold okHdr; rw [n3]
    show (spIsName [67, 111, 110, 116, 101, 110, 116, 45, 76, 101, 110, 103, 116, 104] && (!spBroken [48] && ((spTrim [48] [32] == [48]) && (!true || ([48] == spItoa 0))))) = true
    rw [t3, itoa0, show spIsName [67, 111, 110, 116, 101, 110, 116, 45, 76, 101, 110, 103, 116, 104] = true by decide]; decide
  unfold spRight rows3
  have hs : hSize [[.str [118, 105, 97], .str (v1 h)], [.str [67, 79, 78, 84, 65, 67, 84], .str (v2 h)], [.str [67, 111, 110, 116, 101, 110, 116, 45, 76, 101, 110, 103, 116, 104], .str [48]]] = 3 + (v1 h).length + 4 + (7 + (v2 h).length + 4 + (14 + 1 + 4)) := rfl
  have hn : nLens [[.str [118, 105, 97], .str (v1 h)], [.str [67, 79, 78, 84, 65, 67, 84], .str (v2 h)], [.str [67, 111, 110, 116, 101, 110, 116, 45, 76, 101, 110, 103, 116, 104], .str [48]]] = 1 := by
    unfold nLens; simp only [List.filter_cons, n1, n2, n3]; rfl
  rw [hs, hn, l1, l2]
  simp only [List.all_cons, List.all_nil, o1, o2, o3]
  have e : decide (sgInv.length + 4 + 0 + (3 + (h.length + 14) + 4 + (7 + (h.length + 8) + 4 + (14 + 1 + 4))) ≤ 4096) = true := decide_eq_true (by simp only [sgInv, List.length_cons, List.length_nil]; omega)
  rw [e]
  rfl
theorem hdr_via (hs ts : List UInt8) (p tp : Int) (m : Nat) (v : List UInt8) : spHdr hs ts p tp m [.str [118, 105, 97], .str v] = [.str [118, 105, 97], .str (spBehind hs ts v mkVia [59] p tp)] := by
  unfold spHdr
  rw [show (spLow (hN [.str [118, 105, 97], .str v]) == sgVia) = true by show (spLow [118, 105, 97] == sgVia) = true; decide]
  rfl
theorem hdr_contact (hs ts : List UInt8) (p tp : Int) (m : Nat) (v : List UInt8) : spHdr hs ts p tp m [.str [67, 79, 78, 84, 65, 67, 84], .str v] = [.str [67, 79, 78, 84, 65, 67, 84], .str (spBehind hs ts v [64] [62, 59] p tp)] := by
  unfold spHdr
  rw [show (spLow (hN [.str [67, 79, 78, 84, 65, 67, 84], .str v]) == sgVia) = false by show (spLow [67, 79, 78, 84, 65, 67, 84] == sgVia) = false; decide,
    show (spLow (hN [.str [67, 79, 78, 84, 65, 67, 84], .str v]) == sgContact) = true by show (spLow [67, 79, 78, 84, 65, 67, 84] == sgContact) = true; decide]
  rfl
theorem hdr_len (hs ts : List UInt8) (p tp : Int) (m : Nat) (v : List UInt8) : spHdr hs ts p tp m [.str [67, 111, 110, 116, 101, 110, 116, 45, 76, 101, 110, 103, 116, 104], .str v] = [.str [67, 111, 110, 116, 101, 110, 116, 45, 76, 101, 110, 103, 116, 104], .str (spItoa (m : Int))] := by
  unfold spHdr
  rw [show (spLow (hN [.str [67, 111, 110, 116, 101, 110, 116, 45, 76, 101, 110, 103, 116, 104], .str v]) == sgVia) = false by show (spLow [67, 111, 110, 116, 101, 110, 116, 45, 76, 101, 110, 103, 116, 104] == sgVia) = false; decide,
    show (spLow (hN [.str [67, 111, 110, 116, 101, 110, 116, 45, 76, 101, 110, 103, 116, 104], .str v]) == sgContact) = false by show (spLow [67, 111, 110, 116, 101, 110, 116, 45, 76, 101, 110, 103, 116, 104] == sgContact) = false; decide,
    show (spLow (hN [.str [67, 111, 110, 116, 101, 110, 116, 45, 76, 101, 110, 103, 116, 104], .str v]) == sgLen) = true by show (spLow [67, 111, 110, 116, 101, 110, 116, 45, 76, 101, 110, 103, 116, 104] == sgLen) = true; decide]
  rfl
theorem hides {host to_ p0 p1 : Int} (h0 : 1 ≤ p0) (h1 : p0 ≤ 65535) (h2 : 0 ≤ p1) (h3 : p1 ≤ 65535) : spRwH sgInv host to_ p0 p1 [] (rows3 (hp host p0)) [] = rows3 (hp to_ p1) := by
  have w0 : IntKind.wrap .i64 p0 = p0 := IntWalk.i64_in _ (by omega)
  have w1 : IntKind.wrap .i64 p1 = p1 := IntWalk.i64_in _ (by omega)
  have e1 : rwHdrs host to_ p0 p1 [] (rows3 (hp host p0)) [] = rows3 (hp to_ p1) := by
    unfold rwHdrs
    rw [body0, w0, w1]
    unfold rows3
    simp only [List.map_cons, List.map_nil]
    rw [hdr_via, hdr_contact, hdr_len, via_hp h0 h1, contact_hp h0 h1]
    rw [show spItoa (([] : List UInt8).length : Int) = [48] from itoa0]
  have r1 := right3 (hp_plain (a := host) (p := p0) (by omega)) (by have := hp_len (a := host) (p := p0) (by omega) h1; omega)
  have r2 := right3 (hp_plain (a := to_) (p := p1) h2) (by have := hp_len (a := to_) (p := p1) h2 h3; omega)
  have e2 : rwOk sgInv host to_ p0 p1 [] (rows3 (hp host p0)) [] = true := by
    unfold rwOk
    rw [e1, body0]
    show (spRight sgInv (rows3 (hp host p0)) 0 && spRight sgInv (rows3 (hp to_ p1)) 0) = true
    rw [r1, r2]; rfl
  unfold spRwH
  rw [e2, e1]
  rfl
end Go.Proofs.YtpdgmgkkbbndfaaGreatDoor
set_option maxRecDepth 100000
set_option linter.unusedVariables false
set_option linter.unusedSimpArgs false
namespace Go.Proofs.YtpdgmgkkbbndfaaGreatDoor
open Go Go.Proofs Go.Proofs.YtpdgmgkkbbndfaaGreatDoor.SX
theorem cut_found {s t : List UInt8} (h : spFound s t = true) : s = spBefore s t ++ t ++ spAfter s t := by
  rcases Lib.index_spec s t with ⟨h1, _⟩ | ⟨i, h1, h2, h3, _⟩
  · unfold spFound Lib.cut at h
    rw [h1, if_neg (by omega)] at h
    cases h
  · unfold spBefore spAfter Lib.cut
    rw [h1, if_pos (by omega)]
    simp only [Int.toNat_natCast]
    unfold Lib.occAt at h3
    rw [List.isPrefixOf_iff_prefix] at h3
    obtain ⟨r, hr⟩ := h3
    have e : s.drop (i + t.length) = r := by
      rw [← List.drop_drop, ← hr]; simp
    rw [e, List.append_assoc, hr, List.take_append_drop]
theorem cut_none {s t : List UInt8} (h : spFound s t = false) : spBefore s t = s := by
  unfold spFound Lib.cut at h
  unfold spBefore Lib.cut
  split at h
  · cases h
  · rename_i hi; rw [if_neg hi]
theorem pre_found {s p : List UInt8} (h : spHasPre s p = true) : s = p ++ spTrimPre s p := by
  unfold spTrimPre Lib.trimPrefix
  unfold spHasPre at h
  rw [h, if_pos rfl]
  unfold Lib.hasPrefix at h
  rw [List.isPrefixOf_iff_prefix] at h
  obtain ⟨r, rfl⟩ := h
  simp
theorem suf_found {s p : List UInt8} (h : spHasSuf s p = true) : spTrimSuf s p ++ p = s := by
  unfold spTrimSuf Lib.trimSuffix
  unfold spHasSuf at h
  rw [h, if_pos rfl]
  unfold Lib.hasSuffix at h
  rw [List.isSuffixOf_iff_suffix] at h
  obtain ⟨r, rfl⟩ := h
  simp
theorem place_self (h s : List UInt8) (p : Int) : spPlace h h s p p = s := by
  unfold spPlace
  cases h1 : (s == h) with
  | true => rw [cond_true]; exact (by simpa using h1 : s = h).symm
  | false =>
    rw [cond_false]
    cases h2 : spHasPre s (h ++ [58]) with
    | false => rfl
    | true =>
      simp only [Bool.not_true, cond_false]
      cases h3 : (spNumeral (spTrimPre s (h ++ [58])) == 0) with
      | true => rfl
      | false =>
        simp only [cond_false]
        have h4 : spNumeral (spTrimPre s (h ++ [58])) ≠ 0 := by simpa using h3
        obtain ⟨h5, _⟩ := numeral_inv h4
        have h6 := pre_found h2
        cases h7 : (spNumeral (spTrimPre s (h ++ [58])) == p) with
        | true =>
          have h8 : spNumeral (spTrimPre s (h ++ [58])) = p := by simpa using h7
          rw [cond_true, ← h8, ← h5]
          exact h6.symm
        | false =>
          rw [cond_false, ← h5]
          exact h6.symm
theorem end_le (r signs : List UInt8) : spEnd r signs ≤ r.length := by
  unfold spEnd
  rcases anyAt_range r signs with h | h
  · cases decide (spAnyAt r signs < 0) with
    | true => exact Nat.le_refl _
    | false => rw [cond_false]; omega
  · rw [h]; exact Nat.le_refl _
theorem sub_split (a : List UInt8) {k : Nat} (h : k ≤ a.length) : sub a 0 k ++ sub a k (a.length - k) = a := by
  have e1 : sub a 0 k = a.take k := by simp [sub]
  have e2 : sub a k (a.length - k) = a.drop k := by
    unfold sub
    exact List.take_of_length_le (by simp)
  rw [e1, e2, List.take_append_drop]
theorem behind_self (h s mark signs : List UInt8) (p : Int) : spBehind h h s mark signs p p = s := by
  unfold spBehind
  cases h1 : spFound s mark with
  | false => rfl
  | true =>
    simp only [Bool.not_true, cond_false]
    rw [place_self, List.append_assoc, sub_split _ (end_le _ _)]
    exact (cut_found h1).symm
theorem med_self {s : List UInt8} (h : 0 < spMedN s) : spMedA s ++ spItoa (spMedN s) ++ spMedB s = s := by
  unfold spMedN at h
  cases hk : spMedK s with
  | false => rw [hk, cond_false] at h; omega
  | true =>
    rw [hk, cond_true] at h
    obtain ⟨h5, _⟩ := numeral_inv (show spNumeral (spMedD s) ≠ 0 by omega)
    have e : spMedA s ++ spItoa (spMedN s) ++ spMedB s = 109 :: 61 :: spMedW s ++ [32] ++ spItoa (spNumeral (spMedD s)) ++ 32 :: spMedR s := by
      unfold spMedA spMedN spMedB; rw [hk]; rfl
    rw [e, ← h5]
    unfold spMedK at hk
    have hcls : c64_cls s = 1 := Nat.eq_of_beq_eq_true hk
    unfold c64_cls at hcls
    have k2 : c64k2 s = true := by cases hh : c64k2 s with | true => rfl | false => rw [hh] at hcls; cases hcls
    have k4 : c64k4 s = false := by cases hh : c64k4 s with | false => rfl | true => rw [k2, hh] at hcls; cases hcls
    have k5 : c64k5 s = false := by cases hh : c64k5 s with | false => rfl | true => rw [k2, k4, hh] at hcls; cases hcls
    have k6 : c64k6 s = false := by cases hh : c64k6 s with | false => rfl | true => rw [k2, k4, k5, hh] at hcls; cases hcls
    have g4 : spHasPre s [109, 61] = true := by unfold c64k4 at k4; simpa using k4
    have g5 : spFound (spTrimPre s [109, 61]) [32] = true := by unfold c64k5 at k5; simpa using k5
    have g6 : spFound (spAfter (spTrimPre s [109, 61]) [32]) [32] = true := by unfold c64k6 at k6; simpa using k6
    have f1 := pre_found g4
    have f2 := cut_found g5
    have f3 := cut_found g6
    unfold spMedW spMedD spMedR
    conv => rhs; rw [f1, f2, f3]
    simp
def samePorts (rows : List (List AV)) : Bool := rows.all fun r => wasOf r == isOf r
theorem line_self (h s : List UInt8) {rows : List (List AV)} (hr : samePorts rows = true) : spLine h h s rows = s := by
  unfold spLine
  cases h1 : (s == sgConn ++ h) with
  | true => rw [cond_true]; exact (by simpa using h1 : s = sgConn ++ h).symm
  | false =>
    rw [cond_false]
    cases h2 : spHasSuf s (sgOrig ++ h) && spHasPre (spTrimSuf s (sgOrig ++ h)) [111, 61] with
    | true =>
      rw [cond_true, List.append_assoc]
      exact suf_found (Bool.and_eq_true _ _ ▸ h2).1
    | false =>
      rw [cond_false]
      unfold spIdx
      cases hf : firstAt (spHit (spMedN s)) rows with
      | none => rfl
      | some j =>
        obtain ⟨hj, hh, _⟩ := firstAt_some hf
        have hneg : decide (((j : Nat) : Int) < 0) = false := decide_eq_false (by omega)
        simp only [hneg, cond_false, Int.toNat_natCast]
        unfold spHit at hh
        simp only [Bool.and_eq_true, decide_eq_true_eq, beq_iff_eq] at hh
        have hs := List.all_eq_true.1 hr rows[j] (List.getElem_mem hj)
        have hs : wasOf rows[j] = isOf rows[j] := by simpa using hs
        have e : List.getD rows j [] = rows[j] := by rw [List.getD_eq_getElem?_getD, List.getElem?_eq_getElem hj]; rfl
        rw [e, ← hs, hh.2]
        exact med_self hh.1
theorem lines_join : ∀ (n : Nat) (s : List UInt8), s.length < n → ((spLinesF n s).map fun q => q.1 ++ q.2).flatten = s
  | 0, s, h => by omega
  | n + 1, s, h => by
    unfold spLinesF
    cases hf : spFound s [13, 10] with
    | true =>
      rw [cond_true]
      have h1 := cut_found hf
      have hl : (spAfter s [13, 10]).length < n := by
        have := congrArg List.length h1
        simp only [List.length_append, List.length_cons, List.length_nil] at this
        omega
      simp only [List.map_cons, List.flatten_cons]
      rw [lines_join n _ hl]
      exact h1.symm
    | false =>
      rw [cond_false]
      simp [cut_none hf]
theorem body_self (host : Int) {mrows : List (List AV)} (hr : samePorts mrows = true) (body : List UInt8) : rwBody host host mrows (byteRows body) = body := by
  unfold rwBody outB
  rw [map_rowByte]
  have e : (spLines body).map (spLineOut (spDotted host) (spDotted host) mrows) = (spLines body).map fun q => q.1 ++ q.2 := by
    refine List.map_congr_left fun q _ => ?_
    unfold spLineOut
    rw [line_self _ _ hr]
  rw [e]
  exact lines_join _ _ (Nat.lt_succ_self _)
theorem right_hdr {start : List UInt8} {rows : List (List AV)} {bn : Nat} (h : spRight start rows bn = true) {r : List AV} (hr : r ∈ rows) : okHdr bn r = true := by
  unfold spRight at h
  simp only [Bool.and_eq_true, decide_eq_true_eq] at h
  exact List.all_eq_true.1 h.2.2.2.1 r hr
theorem hdr_self {start : List UInt8} {rows : List (List AV)} {bn : Nat} (h : spRight start rows bn = true) {r : List AV} (hr : r ∈ rows) (hs : List UInt8) (p : Int) (h2 : ∃ a b, r = [.str a, .str b]) : spHdr hs hs p p bn r = r := by
  have ho := right_hdr h hr
  obtain ⟨a, b, rfl⟩ := h2
  unfold spHdr
  rw [behind_self, behind_self]
  cases h1 : spLow (hN [.str a, .str b]) == sgVia with
  | true => rfl
  | false =>
    cases h2 : spLow (hN [.str a, .str b]) == sgContact with
    | true => rfl
    | false =>
      cases h3 : spLow (hN [.str a, .str b]) == sgLen with
      | false => rfl
      | true =>
        unfold okHdr isLen at ho
        rw [h3] at ho
        simp only [Bool.and_eq_true, Bool.not_true, Bool.false_or] at ho
        have e0 : hV [AV.str a, AV.str b] = spItoa (bn : Int) := by simpa using ho.2.2.2
        have e : b = spItoa (bn : Int) := e0
        rw [e]
        rfl
theorem self_rows {start : List UInt8} {hrows : List (List AV)} {body : List UInt8} {host port : Int} {mrows : List (List AV)} (hr : samePorts mrows = true) (h2 : ∀ r ∈ hrows, ∃ a b, r = [.str a, .str b]) :
    spRwH start host host port port mrows hrows (byteRows body) = hrows ∧ spRwB start host host port port mrows hrows (byteRows body) = byteRows body := by
  unfold spRwH spRwB
  cases ho : rwOk start host host port port mrows hrows (byteRows body) with
  | false => exact ⟨rfl, rfl⟩
  | true =>
    rw [cond_true, cond_true, body_self host hr]
    refine ⟨?_, rfl⟩
    unfold rwOk at ho
    rw [Bool.and_eq_true, byteRows_length] at ho
    unfold rwHdrs
    rw [body_self host hr]
    have : hrows.map (spHdr (spDotted host) (spDotted host) (IntKind.wrap .i64 port) (IntKind.wrap .i64 port) body.length) = hrows.map id := List.map_congr_left fun r hr' => hdr_self ho.1 hr' _ _ (h2 r hr')
    rw [this, List.map_id]
theorem eqH_self (rows : List (List AV)) : spEqH rows rows = true := by
  unfold spEqH eqAt
  simp
theorem samePort_one (p : Int) : samePorts [[AV.int IntKind.u16 p, AV.int IntKind.u16 p]] = true := by
  unfold samePorts wasOf isOf
  simp [AV.toInt]
end Go.Proofs.YtpdgmgkkbbndfaaGreatDoor
set_option maxRecDepth 100000
set_option maxHeartbeats 6400000
set_option linter.unusedVariables false
set_option linter.unusedSimpArgs false
namespace Go.Proofs.YtpdgmgkkbbndfaaGreatDoor
open Go Go.Proofs Go.Proofs.YtpdgmgkkbbndfaaGreatDoor.SX Go.Proofs.YtpdgmgkkbbndfaaGreatDoor
open Go.ChangeShapes Go.WideShapes Go.ChangeAt Go.RowKit
theorem add_eq {a : Addr} (h : a.spot = none) (k : Nat) : a.add k = ⟨a.block, a.off + k, none⟩ := by
  obtain ⟨b, o, s⟩ := a
  have h : s = none := h
  subst h
  unfold Addr.add
  by_cases hk : k = 0
  · rw [if_pos hk, hk]; rfl
  · rw [if_neg hk]
def strAt (W : World) (b o : Nat) : List UInt8 := match W.cell? ⟨b, o, none⟩ with | some (.string s) => s.data.toList | _ => []
def intAt (W : World) (b o : Nat) : Int := match W.cell? ⟨b, o, none⟩ with | some (.int _ n) => n | _ => 0
theorem ba_eta (s : ByteArray) : (⟨s.data.toList.toArray⟩ : ByteArray) = s := by cases s; simp
theorem hdr_cell {H : Type} {enc : TypeId × Value → H} {W : World} {sp : Nat → Bool} {held : Bool} {n k : Nat} {a : Addr} {e : DataW H × List MemPlace} (hs : a.spot = none)
    (h : (W.cells? 0 (a.add k) 2).bind (DataW.trod enc Tryz.prog W 0 sp held n 44) = some e) :
    ∃ s0 s1 : ByteArray, W.cell? ⟨a.block, a.off + k, none⟩ = some (.string s0) ∧ W.cell? ⟨a.block, a.off + (k + 1), none⟩ = some (.string s1) ∧ e.1 = .agg [.lit (.string s0.data.toList), .lit (.string s1.data.toList)] := by
  obtain ⟨l, hl, ht⟩ := Option.bind_eq_some_iff.1 h
  obtain ⟨xs, m, _, ex, hlen, hxs, hf⟩ := DataW.trod_struct Tryz.underlying44 ht
  have hc9 : Tryz.prog.cellsOf 9 = 1 := by kernel_rfl
  have hc44 : Tryz.prog.cellsOf 44 = 2 := by kernel_rfl
  rw [hc44] at hlen
  have hx2 : xs.length = 2 := hxs
  match l, hlen, xs, hx2 with
  | [c0, c1], _, [x0, x1], _ =>
    have h0 : DataW.trod enc Tryz.prog W 0 sp held m 9 (([c0, c1].drop 0).take (Tryz.prog.cellsOf 9)) = some x0 := hf 0 _ rfl
    have h1 : DataW.trod enc Tryz.prog W 0 sp held m 9 (([c0, c1].drop 1).take (Tryz.prog.cellsOf 9)) = some x1 := hf 1 _ rfl
    rw [hc9] at h0 h1
    obtain ⟨s0, e0, f0, _⟩ := DataW.trod_string Tryz.underlying9 (show DataW.trod enc Tryz.prog W 0 sp held m 9 [c0] = some x0 from h0)
    obtain ⟨s1, e1, f1, _⟩ := DataW.trod_string Tryz.underlying9 (show DataW.trod enc Tryz.prog W 0 sp held m 9 [c1] = some x1 from h1)
    cases e0; cases e1
    unfold World.cells? at hl
    rw [if_pos (Nat.zero_le _)] at hl
    have hr : List.range 2 = [0, 1] := rfl
    rw [hr] at hl
    simp only [List.mapM_cons, List.mapM_nil, Option.bind_eq_bind, Option.bind_eq_some_iff, Option.pure_def, Option.some.injEq, List.cons.injEq] at hl
    obtain ⟨y0, hy0, r, ⟨y1, hy1, r2, hr2, hr⟩, hy⟩ := hl
    subst hr2
    obtain ⟨rfl, hy⟩ := hy
    subst hr
    simp only [List.cons.injEq, and_true] at hy
    subst hy
    rw [add_eq hs] at hy0 hy1
    refine ⟨s0, s1, by simpa [Addr.add] using hy0, by simpa [Addr.add, Nat.add_assoc] using hy1, ?_⟩
    rw [ex, f0, f1]
    rfl
theorem byte_cell {H : Type} {enc : TypeId × Value → H} {W : World} {sp : Nat → Bool} {held : Bool} {n k t : Nat} {kk : IntKind} {a : Addr} {e : DataW H × List MemPlace} (hs : a.spot = none) (hu : Tryz.prog.underlying t = some (.int kk))
    (h : (W.cells? 0 (a.add k) 1).bind (DataW.trod enc Tryz.prog W 0 sp held n t) = some e) : ∃ z : Int, W.cell? ⟨a.block, a.off + k, none⟩ = some (.int kk z) ∧ kk.min ≤ z ∧ z ≤ kk.max := by
  obtain ⟨l, hl, ht⟩ := Option.bind_eq_some_iff.1 h
  obtain ⟨z, rfl, _, hz⟩ := DataW.trod_int hu ht
  unfold World.cells? at hl
  rw [if_pos (Nat.zero_le _)] at hl
  have hr : List.range 1 = [0] := rfl
  rw [hr] at hl
  simp only [List.mapM_cons, List.mapM_nil, Option.bind_eq_bind, Option.bind_eq_some_iff, Option.pure_def, Option.some.injEq, List.cons.injEq] at hl
  obtain ⟨y0, hy0, r, hr1, hy⟩ := hl
  subst hr1
  obtain ⟨rfl, _⟩ := hy
  rw [add_eq hs] at hy0
  refine ⟨z, by simpa [Addr.add] using hy0, ?_⟩
  unfold Lit.wf at hz
  simpa using hz
theorem bulk_mem {H : Type} : ∀ {l : List (DataW H)} {d : DataW H}, d ∈ l → Rows.uptoBulk d ≤ Rows.uptoBulkAll l
  | x :: l, d, h => by
    unfold Rows.uptoBulkAll
    rcases List.mem_cons.1 h with rfl | h
    · omega
    · have := bulk_mem h; omega
theorem bulk_pos {H : Type} (d : DataW H) : 1 ≤ Rows.uptoBulk d := by
  cases d with
  | lit l => cases l <;> simp [Rows.uptoBulk]
  | _ => simp [Rows.uptoBulk]
theorem bulk_len {H : Type} : ∀ (l : List (DataW H)), l.length ≤ Rows.uptoBulkAll l
  | [] => by simp
  | x :: l => by
    have := bulk_len l
    have := bulk_pos x
    unfold Rows.uptoBulkAll
    simp only [List.length_cons]; omega
theorem slice_has {W : World} {b0 t e : TypeId} {a : Addr} {len cap : Nat} (hu : Tryz.prog.underlying t = some (.slice e)) (h : Cell.okWide Tryz.prog W .any b0 t (.slice (some a) len cap)) : a.spot = none ∧ ∃ c tt fr, W.heap[a.block]? = some (.cells c tt fr) := by
  unfold Cell.okWide at h
  rw [hu] at h
  simp only [Cell.ok, hu] at h
  obtain ⟨_, _, _, hs, row, cells, hsh, _⟩ := h
  refine ⟨hs, ?_⟩
  unfold World.shape? at hsh
  split at hsh
  · rename_i c tt fr hh; exact ⟨c, tt, fr, hh⟩
  · cases hsh
theorem cell_in {W : World} {b o : Nat} {c : Array Value} {tt : TypeId} {fr : Nat × Nat} {v : Value} (h : W.heap[b]? = some (.cells c tt fr)) (hc : W.cell? ⟨b, o, none⟩ = some v) : c[o]? = some v := by
  unfold World.cell? at hc
  simp only at hc
  rw [h] at hc
  simpa using hc
theorem hdrs_read {H : Type} {enc : TypeId × Value → H} {W : World} {sp : Nat → Bool} {held : Bool} {n b0 : Nat} {hv : Value} {x : DataW H × List MemPlace} (h : DataW.trod enc Tryz.prog W 0 sp held n 22 [hv] = some x) (hok : Cell.okWide Tryz.prog W .any b0 22 hv) :
    ∃ rows, Reads W [.str, .str] rows hv ∧ rows.length ≤ Rows.uptoBulk x.1 ∧ ∀ r ∈ rows, r.length = 2 ∧ (∃ a b, r = [.str a, .str b]) ∧ (hN r).length ≤ Rows.uptoBulk x.1 ∧ (hV r).length ≤ Rows.uptoBulk x.1 := by
  have hc44 : Tryz.prog.cellsOf 44 = 2 := by kernel_rfl
  rcases DataW.trod_slice Tryz.underlying22 h with ⟨hx, _⟩ | ⟨a, len, cap, elems, rest, m, _, hx, ex, _, _, _, hl, hel, _, _⟩
  · cases hx
    exact ⟨[], .nil rfl, Nat.zero_le _, fun r hr => by cases hr⟩
  · cases hx
    obtain ⟨hs, c, tt, fr, hh⟩ := slice_has Tryz.underlying22 hok
    obtain ⟨b, o, sp'⟩ := a
    have hs : sp' = none := hs
    subst hs
    have key : ∀ i, i < len → ∃ s0 s1 : ByteArray, W.cell? ⟨b, o + i * 2, none⟩ = some (.string s0) ∧ W.cell? ⟨b, o + (i * 2 + 1), none⟩ = some (.string s1) ∧ ∃ e ∈ elems, e.1 = .agg [.lit (.string s0.data.toList), .lit (.string s1.data.toList)] := by
      intro i hi
      have h1 := hel i hi
      rw [hc44, List.getElem?_eq_getElem (by omega)] at h1
      obtain ⟨s0, s1, g0, g1, g2⟩ := hdr_cell (a := ⟨b, o, none⟩) rfl h1
      exact ⟨s0, s1, g0, g1, _, List.getElem_mem (by omega), g2⟩
    have hbulk : Rows.uptoBulk x.1 = Rows.uptoBulkAll (elems.map (·.1)) + Rows.uptoBulkAll (rest.map (·.1)) + 1 := by rw [ex]; rfl
    refine ⟨(List.range len).map fun i => [.str (strAt W b (o + i * 2)), .str (strAt W b (o + (i * 2 + 1)))], ?_, ?_, fun r hr => ?_⟩
    · have hR := Reads.cells (w := W) (ks := [.str, .str]) (rows := (List.range len).map fun i => [AV.str (strAt W b (o + i * 2)), .str (strAt W b (o + (i * 2 + 1)))]) ⟨b, o, 2, cap, false⟩ cap
        ⟨rfl, c, tt, fr, hh, fun i j kd hi hj => ?_, fun h => by cases h⟩
      · simpa using hR
      · have hi : i < len := by simpa using hi
        obtain ⟨s0, s1, g0, g1, _⟩ := key i hi
        have hrow : ((List.range len).map fun i => [AV.str (strAt W b (o + i * 2)), .str (strAt W b (o + (i * 2 + 1)))]).getD i [] = [AV.str (strAt W b (o + i * 2)), .str (strAt W b (o + (i * 2 + 1)))] := by
          simp [List.getD_eq_getElem?_getD, hi]
        have hj' : (j = 0 ∨ j = 1) ∧ kd = .str := by
          match j with
          | 0 => simp at hj; exact ⟨.inl rfl, hj.symm⟩
          | 1 => simp at hj; exact ⟨.inr rfl, hj.symm⟩
          | j + 2 => simp at hj
        obtain ⟨hj0, rfl⟩ := hj'
        unfold cellAt
        rw [hrow]
        rcases hj0 with rfl | rfl
        · show c[o + (i * 2 + 0)]? = some (.string ⟨(strAt W b (o + i * 2)).toArray⟩)
          rw [Nat.add_zero, cell_in hh g0]
          have e : strAt W b (o + i * 2) = s0.data.toList := by unfold strAt; rw [g0]
          rw [e, ba_eta]
        · show c[o + (i * 2 + 1)]? = some (.string ⟨(strAt W b (o + (i * 2 + 1))).toArray⟩)
          rw [cell_in hh g1]
          have e : strAt W b (o + (i * 2 + 1)) = s1.data.toList := by unfold strAt; rw [g1]
          rw [e, ba_eta]
    · have := bulk_len (elems.map (·.1))
      simp only [List.length_map, List.length_range] at this ⊢
      omega
    · obtain ⟨i, hi, rfl⟩ := List.mem_map.1 hr
      obtain ⟨s0, s1, g0, g1, e, he, ee⟩ := key i (List.mem_range.1 hi)
      have hb := bulk_mem (List.mem_map_of_mem (f := (·.1)) he)
      rw [ee] at hb
      simp only [Rows.uptoBulk, Rows.uptoBulkAll] at hb
      refine ⟨rfl, ⟨_, _, rfl⟩, ?_, ?_⟩
      · show (strAt W b (o + i * 2)).length ≤ _
        unfold strAt; rw [g0]; simp only; omega
      · show (strAt W b (o + (i * 2 + 1))).length ≤ _
        unfold strAt; rw [g1]; simp only; omega
theorem body_read {H : Type} {enc : TypeId × Value → H} {W : World} {sp : Nat → Bool} {held : Bool} {n b0 : Nat} {hv : Value} {x : DataW H × List MemPlace} (h : DataW.trod enc Tryz.prog W 0 sp held n 23 [hv] = some x) (hok : Cell.okWide Tryz.prog W .any b0 23 hv) :
    ∃ l : List UInt8, Reads W [.int .u8] (byteRows l) hv ∧ l.length ≤ Rows.uptoBulk x.1 := by
  have hc5 : Tryz.prog.cellsOf 5 = 1 := by kernel_rfl
  rcases DataW.trod_slice Tryz.underlying23 h with ⟨hx, _⟩ | ⟨a, len, cap, elems, rest, m, _, hx, ex, _, _, _, hl, hel, _, _⟩
  · cases hx
    exact ⟨[], .nil rfl, Nat.zero_le _⟩
  · cases hx
    obtain ⟨hs, c, tt, fr, hh⟩ := slice_has Tryz.underlying23 hok
    obtain ⟨b, o, sp'⟩ := a
    have hs : sp' = none := hs
    subst hs
    have key : ∀ i, i < len → ∃ z : Int, W.cell? ⟨b, o + i, none⟩ = some (.int .u8 z) ∧ 0 ≤ z ∧ z ≤ 255 := by
      intro i hi
      have h1 := hel i hi
      rw [hc5, List.getElem?_eq_getElem (by omega), Nat.mul_one] at h1
      obtain ⟨z, g0, g1, g2⟩ := byte_cell (a := ⟨b, o, none⟩) rfl Tryz.underlying5 h1
      exact ⟨z, g0, g1, g2⟩
    have hbulk : Rows.uptoBulk x.1 = Rows.uptoBulkAll (elems.map (·.1)) + Rows.uptoBulkAll (rest.map (·.1)) + 1 := by rw [ex]; rfl
    refine ⟨(List.range len).map fun i => UInt8.ofNat (intAt W b (o + i)).toNat, ?_, ?_⟩
    · have hR := Reads.cells (w := W) (ks := [.int .u8]) (rows := byteRows ((List.range len).map fun i => UInt8.ofNat (intAt W b (o + i)).toNat)) ⟨b, o, 1, cap, false⟩ cap
        ⟨rfl, c, tt, fr, hh, fun i j kd hi hj => ?_, fun h => by cases h⟩
      · rw [byteRows_length] at hR
        simpa using hR
      · have hi : i < len := by rw [byteRows_length] at hi; simpa using hi
        obtain ⟨z, g0, g1, g2⟩ := key i hi
        have hj' : j = 0 ∧ kd = .int .u8 := by
          match j with
          | 0 => simp at hj; exact ⟨rfl, hj.symm⟩
          | j + 1 => simp at hj
        obtain ⟨rfl, rfl⟩ := hj'
        have hrow : (byteRows ((List.range len).map fun i => UInt8.ofNat (intAt W b (o + i)).toNat)).getD i [] = byteRow (UInt8.ofNat (intAt W b (o + i)).toNat) := by
          simp [byteRows, List.getD_eq_getElem?_getD, hi]
        unfold cellAt
        rw [hrow]
        show c[o + (i * 1 + 0)]? = some (.int .u8 ((UInt8.ofNat (intAt W b (o + i)).toNat).toNat : Int))
        rw [show o + (i * 1 + 0) = o + i by omega, cell_in hh g0]
        unfold intAt
        rw [g0]
        simp only
        congr 2
        rw [UInt8.toNat_ofNat']
        omega
    · have := bulk_len (elems.map (·.1))
      simp only [List.length_map, List.length_range] at this ⊢
      omega
structure MsgIn (W : World) (N : Nat) (start : List UInt8) (hrows : List (List AV)) (body : List UInt8) (hv bv : Value) : Prop where
  h : Reads W [.str, .str] hrows hv
  b : Reads W [.int .u8] (byteRows body) bv
  st : start.length ≤ N
  hl : hrows.length ≤ N
  bl : body.length ≤ N
  rows : ∀ r ∈ hrows, r.length = 2 ∧ (∃ a b, r = [.str a, .str b]) ∧ (hN r).length ≤ N ∧ (hV r).length ≤ N
  cap : ∀ a n c, hv = .slice a n c → n ≤ c
theorem msg_read {H : Type} {enc : TypeId × Value → H} {W : World} {sp : Nat → Bool} {held : Bool} {b0 N : Nat} {v : Value} {d : DataW H} {ps : List MemPlace} (h : DataW.Trod enc Tryz.prog W 0 sp held 25 v d ps) (hok : Value.okWide Tryz.prog W .any b0 25 v) (hN : Rows.uptoBulk d ≤ N) :
    ∃ start hrows body hv bv, v = .agg #[.string ⟨start.toArray⟩, hv, bv] ∧ MsgIn W N start hrows body hv bv := by
  unfold Value.okWide at hok
  rw [Tryz.underlying25] at hok
  obtain ⟨cs, rfl, hsz, ts, hts, _, hall⟩ := hok
  have hc : Tryz.prog.cellTypes Tryz.prog.depth 25 = some [9, 22, 23] := by kernel_rfl
  rw [hc] at hts
  cases hts
  have h3 : cs.size = 3 := hsz.trans (by kernel_rfl)
  obtain ⟨c0, c1, c2, rfl⟩ : ∃ c0 c1 c2, cs = #[c0, c1, c2] := by
    refine ⟨cs[0], cs[1], cs[2], ?_⟩
    apply Array.ext
    · simp [h3]
    · intro i hi1 hi2
      simp at hi2
      have : i = 0 ∨ i = 1 ∨ i = 2 := by omega
      rcases this with rfl | rfl | rfl <;> rfl
  have ok1 : Cell.okWide Tryz.prog W .any b0 22 c1 := by
    obtain ⟨u, hu, hok⟩ := hall 1 c1 rfl
    have : u = 22 := by simpa using hu.symm
    rw [this] at hok; exact hok
  have ok2 : Cell.okWide Tryz.prog W .any b0 23 c2 := by
    obtain ⟨u, hu, hok⟩ := hall 2 c2 rfl
    have : u = 23 := by simpa using hu.symm
    rw [this] at hok; exact hok
  obtain ⟨fuel, hf⟩ := h
  obtain ⟨xs, m, _, ex, hlen, hxs, hfs⟩ := DataW.trod_struct Tryz.underlying25 hf
  have hx3 : xs.length = 3 := hxs
  match xs, hx3 with
  | [x0, x1, x2], _ =>
    have hc9 : Tryz.prog.cellsOf 9 = 1 := by kernel_rfl
    have hc22 : Tryz.prog.cellsOf 22 = 1 := by kernel_rfl
    have hc23 : Tryz.prog.cellsOf 23 = 1 := by kernel_rfl
    have f0 : DataW.trod enc Tryz.prog W 0 sp held m 9 (((#[c0, c1, c2] : Array Value).toList.drop 0).take (Tryz.prog.cellsOf 9)) = some x0 := hfs 0 _ rfl
    have f1 : DataW.trod enc Tryz.prog W 0 sp held m 22 (((#[c0, c1, c2] : Array Value).toList.drop 1).take (Tryz.prog.cellsOf 22)) = some x1 := hfs 1 _ rfl
    have f2 : DataW.trod enc Tryz.prog W 0 sp held m 23 (((#[c0, c1, c2] : Array Value).toList.drop 2).take (Tryz.prog.cellsOf 23)) = some x2 := hfs 2 _ rfl
    rw [hc9] at f0
    rw [hc22] at f1
    rw [hc23] at f2
    obtain ⟨s, e0, g0, _⟩ := DataW.trod_string Tryz.underlying9 (show DataW.trod enc Tryz.prog W 0 sp held m 9 [c0] = some x0 from f0)
    cases e0
    obtain ⟨hrows, r1, r2, r3⟩ := hdrs_read (show DataW.trod enc Tryz.prog W 0 sp held m 22 [c1] = some x1 from f1) ok1
    obtain ⟨body, b1, b2⟩ := body_read (show DataW.trod enc Tryz.prog W 0 sp held m 23 [c2] = some x2 from f2) ok2
    have hd : d = .agg [x0.1, x1.1, x2.1] := (Prod.mk.inj ex).1
    rw [hd, g0] at hN
    simp only [Rows.uptoBulk, Rows.uptoBulkAll] at hN
    refine ⟨s.data.toList, hrows, body, c1, c2, by rw [ba_eta], r1, b1, by omega, by omega, by omega, fun r hr => ?_, fun a n c he => ?_⟩
    · obtain ⟨k1, k2, k3, k4⟩ := r3 r hr
      exact ⟨k1, k2, by omega, by omega⟩
    · subst he
      unfold Cell.okWide at ok1
      rw [Tryz.underlying22] at ok1
      simp only [Cell.ok, Tryz.underlying22] at ok1
      cases a with
      | none => cases n <;> cases c <;> simp at ok1 ⊢
      | some a => exact ok1.1
end Go.Proofs.YtpdgmgkkbbndfaaGreatDoor
set_option maxRecDepth 100000
set_option maxHeartbeats 6400000
set_option linter.unusedVariables false
set_option linter.unusedSimpArgs false
namespace Go.Proofs.YtpdgmgkkbbndfaaGreatDoor
open Go Go.Proofs Go.Proofs.YtpdgmgkkbbndfaaGreatDoor.SX
theorem c8_FETTTTT (start : List UInt8) (hrows : List (List AV)) (brows : List (List AV)) (host : Int) (port : Int) :
    Path (runCallB Tryz.prog P12 100 8 [AV.agg [AV.str start, AV.slq 0 (List.length hrows), AV.slq 1 (List.length brows)], AV.int IntKind.u32 host, AV.int IntKind.u16 port] (st0 [Blk.cells false [Kd.str, Kd.str] hrows, Blk.cells false [Kd.int IntKind.u8] brows] ([.as_ false, PI.ev 1, .as_ true, .as_ true, .as_ true, .as_ true, .as_ true]))) 2 [] (SL.mk [] [] 2) (Out.ret (AV.bool (List.map rowByte (sub (spRwB start host host port port [[AV.int IntKind.u16 port, AV.int IntKind.u16 port]] (sub hrows 0 (List.length hrows)) (sub brows 0 (List.length brows))) 0 (List.length (spRwB start host host port port [[AV.int IntKind.u16 port, AV.int IntKind.u16 port]] (sub hrows 0 (List.length hrows)) (sub brows 0 (List.length brows))))) == List.map rowByte (sub brows 0 (List.length brows)))))
      (((((((((((((((((((((((((((((((((((((((((((((True ∧ (true = true)) ∧ (true = true)) ∧ (decide ((↑(List.length hrows) : Int) > (100 : Int)) = false)) ∧ (true = true)) ∧ (true = true)) ∧ (true = true)) ∧ (true = true)) ∧ (true = true)) ∧ (true = true)) ∧ (true = true)) ∧ (true = true)) ∧ (true = true)) ∧ (true = true)) ∧ (true = true)) ∧ (true = true)) ∧ (true = true)) ∧ (true = true)) ∧ (true = true)) ∧ (true = true)) ∧ (true = true)) ∧ ((decide (0 + List.length hrows ≤ List.length hrows) && (decide (0 + List.length brows ≤ List.length brows) && (true && decide (List.length start ≤ 4294967200 ∧ List.all (sub hrows 0 (List.length hrows)) short = true ∧ List.length (sub hrows 0 (List.length hrows)) ≤ 4398046511104 ∧ List.length (sub brows 0 (List.length brows)) ≤ 140737488355328 ∧ 0 ≤ 4611686018427387904 ∧ List.all (sub hrows 0 (List.length hrows)) twoB = true)))) = true)) ∧ (true = true)) ∧ (true = true)) ∧ ((start == start) = true)) ∧ (true = true)) ∧ (true = true)) ∧ ((decide (0 + List.length (spRwH start host host port port [] (sub hrows 0 (List.length hrows)) (sub brows 0 (List.length brows))) ≤ List.length (spRwH start host host port port [] (sub hrows 0 (List.length hrows)) (sub brows 0 (List.length brows)))) && (decide (0 + List.length hrows ≤ List.length hrows) && decide (List.length (sub (spRwH start host host port port [] (sub hrows 0 (List.length hrows)) (sub brows 0 (List.length brows))) 0 (List.length (spRwH start host host port port [] (sub hrows 0 (List.length hrows)) (sub brows 0 (List.length brows))))) ≤ 4611686018427387904))) = true)) ∧ (spEqH (sub (spRwH start host host port port [] (sub hrows 0 (List.length hrows)) (sub brows 0 (List.length brows))) 0 (List.length (spRwH start host host port port [] (sub hrows 0 (List.length hrows)) (sub brows 0 (List.length brows))))) (sub hrows 0 (List.length hrows)) = true)) ∧ (true = true)) ∧ (true = true)) ∧ ((decide (0 + List.length (spRwB start host host port port [] (sub hrows 0 (List.length hrows)) (sub brows 0 (List.length brows))) ≤ List.length (spRwB start host host port port [] (sub hrows 0 (List.length hrows)) (sub brows 0 (List.length brows)))) && decide (0 + List.length brows ≤ List.length brows)) = true)) ∧ ((List.map rowByte (sub (spRwB start host host port port [] (sub hrows 0 (List.length hrows)) (sub brows 0 (List.length brows))) 0 (List.length (spRwB start host host port port [] (sub hrows 0 (List.length hrows)) (sub brows 0 (List.length brows))))) == List.map rowByte (sub brows 0 (List.length brows))) = true)) ∧ (true = true)) ∧ (true = true)) ∧ ((decide (0 + List.length hrows ≤ List.length hrows) && (decide (0 + List.length brows ≤ List.length brows) && (true && decide (List.length start ≤ 4294967200 ∧ List.all (sub hrows 0 (List.length hrows)) short = true ∧ List.length (sub hrows 0 (List.length hrows)) ≤ 4398046511104 ∧ List.length (sub brows 0 (List.length brows)) ≤ 140737488355328 ∧ 1 ≤ 4611686018427387904 ∧ List.all (sub hrows 0 (List.length hrows)) twoB = true)))) = true)) ∧ (true = true)) ∧ (true = true)) ∧ ((start == start) = true)) ∧ (true = true)) ∧ (true = true)) ∧ ((decide (0 + List.length (spRwH start host host port port [[AV.int IntKind.u16 port, AV.int IntKind.u16 port]] (sub hrows 0 (List.length hrows)) (sub brows 0 (List.length brows))) ≤ List.length (spRwH start host host port port [[AV.int IntKind.u16 port, AV.int IntKind.u16 port]] (sub hrows 0 (List.length hrows)) (sub brows 0 (List.length brows)))) && (decide (0 + List.length hrows ≤ List.length hrows) && decide (List.length (sub (spRwH start host host port port [[AV.int IntKind.u16 port, AV.int IntKind.u16 port]] (sub hrows 0 (List.length hrows)) (sub brows 0 (List.length brows))) 0 (List.length (spRwH start host host port port [[AV.int IntKind.u16 port, AV.int IntKind.u16 port]] (sub hrows 0 (List.length hrows)) (sub brows 0 (List.length brows))))) ≤ 4611686018427387904))) = true)) ∧ (spEqH (sub (spRwH start host host port port [[AV.int IntKind.u16 port, AV.int IntKind.u16 port]] (sub hrows 0 (List.length hrows)) (sub brows 0 (List.length brows))) 0 (List.length (spRwH start host host port port [[AV.int IntKind.u16 port, AV.int IntKind.u16 port]] (sub hrows 0 (List.length hrows)) (sub brows 0 (List.length brows))))) (sub hrows 0 (List.length hrows)) = true)) ∧ (true = true)) ∧ (true = true)) ∧ ((decide (0 + List.length (spRwB start host host port port [[AV.int IntKind.u16 port, AV.int IntKind.u16 port]] (sub hrows 0 (List.length hrows)) (sub brows 0 (List.length brows))) ≤ List.length (spRwB start host host port port [[AV.int IntKind.u16 port, AV.int IntKind.u16 port]] (sub hrows 0 (List.length hrows)) (sub brows 0 (List.length brows)))) && decide (0 + List.length brows ≤ List.length brows)) = true)) := by unfold Path; kernel_rfl
theorem c8s_TETTTTT (start : List UInt8) (hrows : List (List AV)) (brows : List (List AV)) (host : Int) (port : Int) (c : Nat) :
    Path (runCallB Tryz.prog P12 100 8 [AV.agg [AV.str start, AV.sl (Loc.mk 0 0 0) (List.length hrows) (Cap.known c), AV.slq 1 (List.length brows)], AV.int IntKind.u32 host, AV.int IntKind.u16 port] (st0 [Blk.cells false [Kd.str, Kd.str] hrows, Blk.cells false [Kd.int IntKind.u8] brows] ([.as_ true, PI.ev 1, .as_ true, .as_ true, .as_ true, .as_ true, .as_ true]))) 2 [] (SL.mk [] [] 2) (Out.ret (AV.bool (List.map rowByte (sub (spRwB start host host port port [[AV.int IntKind.u16 port, AV.int IntKind.u16 port]] (sub hrows (0) 100) (sub brows 0 (List.length brows))) 0 (List.length (spRwB start host host port port [[AV.int IntKind.u16 port, AV.int IntKind.u16 port]] (sub hrows (0) 100) (sub brows 0 (List.length brows))))) == List.map rowByte (sub brows 0 (List.length brows)))))
      (((((((((((((((((((((((((((((((((((((((((((((((((True ∧ (true = true)) ∧ (true = true)) ∧ (decide ((↑(List.length hrows) : Int) > (100 : Int)) = true)) ∧ (true = true)) ∧ (decide ((0 : Int) ≤ (0 : Int) ∧ (0 : Int) ≤ (100 : Int) ∧ (100 : Int) ≤ (↑c : Int) ∧ (↑c : Int) ≤ (↑c : Int)) = true)) ∧ (true = true)) ∧ (true = true)) ∧ (true = true)) ∧ (true = true)) ∧ (true = true)) ∧ (true = true)) ∧ (true = true)) ∧ (true = true)) ∧ (true = true)) ∧ (true = true)) ∧ (true = true)) ∧ (true = true)) ∧ (true = true)) ∧ (true = true)) ∧ (true = true)) ∧ (true = true)) ∧ (true = true)) ∧ (true = true)) ∧ (true = true)) ∧ ((decide (100 ≤ List.length hrows) && (decide (0 + List.length brows ≤ List.length brows) && (true && decide (List.length start ≤ 4294967200 ∧ List.all (sub hrows (0) 100) short = true ∧ List.length (sub hrows (0) 100) ≤ 4398046511104 ∧ List.length (sub brows 0 (List.length brows)) ≤ 140737488355328 ∧ 0 ≤ 4611686018427387904 ∧ List.all (sub hrows (0) 100) twoB = true)))) = true)) ∧ (true = true)) ∧ (true = true)) ∧ ((start == start) = true)) ∧ (true = true)) ∧ (true = true)) ∧ ((decide (0 + List.length (spRwH start host host port port [] (sub hrows (0) 100) (sub brows 0 (List.length brows))) ≤ List.length (spRwH start host host port port [] (sub hrows (0) 100) (sub brows 0 (List.length brows)))) && (decide (100 ≤ List.length hrows) && decide (List.length (sub (spRwH start host host port port [] (sub hrows (0) 100) (sub brows 0 (List.length brows))) 0 (List.length (spRwH start host host port port [] (sub hrows (0) 100) (sub brows 0 (List.length brows))))) ≤ 4611686018427387904))) = true)) ∧ (spEqH (sub (spRwH start host host port port [] (sub hrows (0) 100) (sub brows 0 (List.length brows))) 0 (List.length (spRwH start host host port port [] (sub hrows (0) 100) (sub brows 0 (List.length brows))))) (sub hrows (0) 100) = true)) ∧ (true = true)) ∧ (true = true)) ∧ ((decide (0 + List.length (spRwB start host host port port [] (sub hrows (0) 100) (sub brows 0 (List.length brows))) ≤ List.length (spRwB start host host port port [] (sub hrows (0) 100) (sub brows 0 (List.length brows)))) && decide (0 + List.length brows ≤ List.length brows)) = true)) ∧ ((List.map rowByte (sub (spRwB start host host port port [] (sub hrows (0) 100) (sub brows 0 (List.length brows))) 0 (List.length (spRwB start host host port port [] (sub hrows (0) 100) (sub brows 0 (List.length brows))))) == List.map rowByte (sub brows 0 (List.length brows))) = true)) ∧ (true = true)) ∧ (true = true)) ∧ ((decide (100 ≤ List.length hrows) && (decide (0 + List.length brows ≤ List.length brows) && (true && decide (List.length start ≤ 4294967200 ∧ List.all (sub hrows (0) 100) short = true ∧ List.length (sub hrows (0) 100) ≤ 4398046511104 ∧ List.length (sub brows 0 (List.length brows)) ≤ 140737488355328 ∧ 1 ≤ 4611686018427387904 ∧ List.all (sub hrows (0) 100) twoB = true)))) = true)) ∧ (true = true)) ∧ (true = true)) ∧ ((start == start) = true)) ∧ (true = true)) ∧ (true = true)) ∧ ((decide (0 + List.length (spRwH start host host port port [[AV.int IntKind.u16 port, AV.int IntKind.u16 port]] (sub hrows (0) 100) (sub brows 0 (List.length brows))) ≤ List.length (spRwH start host host port port [[AV.int IntKind.u16 port, AV.int IntKind.u16 port]] (sub hrows (0) 100) (sub brows 0 (List.length brows)))) && (decide (100 ≤ List.length hrows) && decide (List.length (sub (spRwH start host host port port [[AV.int IntKind.u16 port, AV.int IntKind.u16 port]] (sub hrows (0) 100) (sub brows 0 (List.length brows))) 0 (List.length (spRwH start host host port port [[AV.int IntKind.u16 port, AV.int IntKind.u16 port]] (sub hrows (0) 100) (sub brows 0 (List.length brows))))) ≤ 4611686018427387904))) = true)) ∧ (spEqH (sub (spRwH start host host port port [[AV.int IntKind.u16 port, AV.int IntKind.u16 port]] (sub hrows (0) 100) (sub brows 0 (List.length brows))) 0 (List.length (spRwH start host host port port [[AV.int IntKind.u16 port, AV.int IntKind.u16 port]] (sub hrows (0) 100) (sub brows 0 (List.length brows))))) (sub hrows (0) 100) = true)) ∧ (true = true)) ∧ (true = true)) ∧ ((decide (0 + List.length (spRwB start host host port port [[AV.int IntKind.u16 port, AV.int IntKind.u16 port]] (sub hrows (0) 100) (sub brows 0 (List.length brows))) ≤ List.length (spRwB start host host port port [[AV.int IntKind.u16 port, AV.int IntKind.u16 port]] (sub hrows (0) 100) (sub brows 0 (List.length brows)))) && decide (0 + List.length brows ≤ List.length brows)) = true)) := by unfold Path; kernel_rfl
theorem sub_whole {α : Type} (l : List α) : sub l 0 (List.length l) = l := sub_all l rfl
theorem msg_ins {w : World} {r1 r2 : List (List AV)} {v1 v2 : Value} (gw : GW w) (h1 : Reads w [.str, .str] r1 v1) (h2 : Reads w [.int .u8] r2 v2) :
    ∃ ρ0 : Nat → BI, HSim ρ0 (addBlks .e 0 [Blk.cells false [Kd.str, Kd.str] r1, Blk.cells false [Kd.int IntKind.u8] r2]) ([Blk.cells false [Kd.str, Kd.str] r1, Blk.cells false [Kd.int IntKind.u8] r2] : List Blk).length w ∧ conc ρ0 (.slq 0 r1.length) = v1 ∧ conc ρ0 (.slq 1 r2.length) = v2 := by
  obtain ⟨b1, hb1⟩ := h1.bi gw rfl
  obtain ⟨b2, hb2⟩ := h2.bi gw rfl
  refine ⟨fun i => if i = 0 then b1 else b2, HSim.ins gw (fun i blk hi => ?_), (hb1 _ 0 rfl).1, (hb2 _ 1 rfl).1⟩
  match i with
  | 0 => simp at hi; subst hi; exact ⟨(hb1 _ 0 rfl).2, rfl, rfl⟩
  | 1 => simp at hi; subst hi; exact ⟨(hb2 _ 1 rfl).2, rfl, rfl⟩
  | i + 2 => simp at hi
theorem msg_ins2 {w : World} {r1 r2 : List (List AV)} {v1 v2 : Value} (gw : GW w) (h1 : Reads w [.str, .str] r1 v1) (hp : 0 < r1.length) (h2 : Reads w [.int .u8] r2 v2) :
    ∃ (ρ0 : Nat → BI) (c : Nat), HSim ρ0 (addBlks .e 0 [Blk.cells false [Kd.str, Kd.str] r1, Blk.cells false [Kd.int IntKind.u8] r2]) ([Blk.cells false [Kd.str, Kd.str] r1, Blk.cells false [Kd.int IntKind.u8] r2] : List Blk).length w ∧ conc ρ0 (.sl ⟨0, 0, 0⟩ r1.length (.known c)) = v1 ∧ conc ρ0 (.slq 1 r2.length) = v2 ∧ ∃ a, v1 = .slice a r1.length c := by
  cases h1 with
  | nil h => rw [h] at hp; exact absurd hp (by decide)
  | cells bi c h =>
    obtain ⟨b2, hb2⟩ := h2.bi gw rfl
    refine ⟨fun i => if i = 0 then bi else b2, c, HSim.ins gw (fun i blk hi => ?_), by simp [conc, addr, capOf], (hb2 _ 1 rfl).1, _, rfl⟩
    match i with
    | 0 => simp at hi; subst hi; exact ⟨Blk.sat_at (ρ := fun _ => bi) (b := 0) rfl rfl h, rfl, rfl⟩
    | 1 => simp at hi; subst hi; exact ⟨(hb2 _ 1 rfl).2, rfl, rfl⟩
    | i + 2 => simp at hi
theorem self_calls {w : World} {start : List UInt8} {hrows : List (List AV)} {body : List UInt8} {hv bv : Value} {host port : Int} (gw : GW w) (hm : MsgIn w 1048576 start hrows body hv bv) (hcap : ∀ a n c, hv = .slice a n c → n ≤ c) :
    Calls Tryz.prog 8 #[.agg #[.string ⟨start.toArray⟩, hv, bv], .int .u32 host, .int .u16 port] w (fun e w' => e = .returned (.bool true) ∧ RowKit.Below w.heap.size w w') := by
  have hst := hm.st; have hhl := hm.hl; have hb0 := hm.bl
  obtain ⟨brs, hbr⟩ : ∃ brs, brs = byteRows body := ⟨_, rfl⟩
  have hbl : brs.length ≤ 1048576 := by rw [hbr, byteRows_length]; exact hb0
  have hmb : Reads w [.int .u8] brs bv := by rw [hbr]; exact hm.b
  by_cases hn : hrows.length ≤ 100
  · obtain ⟨ρ0, hE, g1, g2⟩ := msg_ins gw hm.h hmb
    have hab : ∀ r ∈ hrows, ∃ a b, r = [AV.str a, .str b] := fun r hr => (hm.rows r hr).2.1
    have hsh : hrows.all short = true := List.all_eq_true.2 fun r hr => decide_eq_true (by have := hm.rows r hr; omega)
    have htw : hrows.all twoB = true := List.all_eq_true.2 fun r hr => by unfold twoB; rw [(hm.rows r hr).1]; rfl
    obtain ⟨e1, e2⟩ := self_rows (start := start) (body := body) (host := host) (port := port) (mrows := []) rfl hab
    obtain ⟨e3, e4⟩ := self_rows (start := start) (body := body) (host := host) (port := port) (mrows := [[AV.int IntKind.u16 port, AV.int IntKind.u16 port]]) (samePort_one port) hab
    rw [← hbr] at e1 e2 e3 e4
    have hp := c8_FETTTTT start hrows brs host port
    have hcall := calls_pureB P12_ok hp ⟨⟨⟨⟨⟨⟨⟨⟨⟨⟨⟨⟨⟨⟨⟨⟨⟨⟨⟨⟨⟨⟨⟨⟨⟨⟨⟨⟨⟨⟨⟨⟨⟨⟨⟨⟨⟨⟨⟨⟨⟨⟨⟨⟨⟨trivial, rfl⟩, rfl⟩, (by (first | rfl | exact decide_eq_true (by omega) | exact decide_eq_false (by omega) | (simp only [sub_whole, e1, e2, e3, e4, eqH_self, hsh, htw, Bool.and_eq_true, decide_eq_true_eq, beq_self_eq_true, and_true, true_and, eq_self] <;> omega)))⟩, rfl⟩, rfl⟩, rfl⟩, rfl⟩, rfl⟩, rfl⟩, rfl⟩, rfl⟩, rfl⟩, rfl⟩, rfl⟩, rfl⟩, rfl⟩, rfl⟩, rfl⟩, rfl⟩, rfl⟩, (by (first | rfl | exact decide_eq_true (by omega) | exact decide_eq_false (by omega) | (simp only [sub_whole, e1, e2, e3, e4, eqH_self, hsh, htw, Bool.and_eq_true, decide_eq_true_eq, beq_self_eq_true, and_true, true_and, eq_self] <;> omega)))⟩, rfl⟩, rfl⟩, (by (first | rfl | exact decide_eq_true (by omega) | exact decide_eq_false (by omega) | (simp only [sub_whole, e1, e2, e3, e4, eqH_self, hsh, htw, Bool.and_eq_true, decide_eq_true_eq, beq_self_eq_true, and_true, true_and, eq_self] <;> omega)))⟩, rfl⟩, rfl⟩, (by (first | rfl | exact decide_eq_true (by omega) | exact decide_eq_false (by omega) | (simp only [sub_whole, e1, e2, e3, e4, eqH_self, hsh, htw, Bool.and_eq_true, decide_eq_true_eq, beq_self_eq_true, and_true, true_and, eq_self] <;> omega)))⟩, (by (first | rfl | exact decide_eq_true (by omega) | exact decide_eq_false (by omega) | (simp only [sub_whole, e1, e2, e3, e4, eqH_self, hsh, htw, Bool.and_eq_true, decide_eq_true_eq, beq_self_eq_true, and_true, true_and, eq_self] <;> omega)))⟩, rfl⟩, rfl⟩, (by (first | rfl | exact decide_eq_true (by omega) | exact decide_eq_false (by omega) | (simp only [sub_whole, e1, e2, e3, e4, eqH_self, hsh, htw, Bool.and_eq_true, decide_eq_true_eq, beq_self_eq_true, and_true, true_and, eq_self] <;> omega)))⟩, (by (first | rfl | exact decide_eq_true (by omega) | exact decide_eq_false (by omega) | (simp only [sub_whole, e1, e2, e3, e4, eqH_self, hsh, htw, Bool.and_eq_true, decide_eq_true_eq, beq_self_eq_true, and_true, true_and, eq_self] <;> omega)))⟩, rfl⟩, rfl⟩, (by (first | rfl | exact decide_eq_true (by omega) | exact decide_eq_false (by omega) | (simp only [sub_whole, e1, e2, e3, e4, eqH_self, hsh, htw, Bool.and_eq_true, decide_eq_true_eq, beq_self_eq_true, and_true, true_and, eq_self] <;> omega)))⟩, rfl⟩, rfl⟩, (by (first | rfl | exact decide_eq_true (by omega) | exact decide_eq_false (by omega) | (simp only [sub_whole, e1, e2, e3, e4, eqH_self, hsh, htw, Bool.and_eq_true, decide_eq_true_eq, beq_self_eq_true, and_true, true_and, eq_self] <;> omega)))⟩, rfl⟩, rfl⟩, (by (first | rfl | exact decide_eq_true (by omega) | exact decide_eq_false (by omega) | (simp only [sub_whole, e1, e2, e3, e4, eqH_self, hsh, htw, Bool.and_eq_true, decide_eq_true_eq, beq_self_eq_true, and_true, true_and, eq_self] <;> omega)))⟩, (by (first | rfl | exact decide_eq_true (by omega) | exact decide_eq_false (by omega) | (simp only [sub_whole, e1, e2, e3, e4, eqH_self, hsh, htw, Bool.and_eq_true, decide_eq_true_eq, beq_self_eq_true, and_true, true_and, eq_self] <;> omega)))⟩, rfl⟩, rfl⟩, (by (first | rfl | exact decide_eq_true (by omega) | exact decide_eq_false (by omega) | (simp only [sub_whole, e1, e2, e3, e4, eqH_self, hsh, htw, Bool.and_eq_true, decide_eq_true_eq, beq_self_eq_true, and_true, true_and, eq_self] <;> omega)))⟩ hE rfl rfl rfl
    have ea : concL ρ0 [AV.agg [.str start, .slq 0 hrows.length, .slq 1 brs.length], .int .u32 host, .int .u16 port] = [.agg #[.string ⟨start.toArray⟩, hv, bv], .int .u32 host, .int .u16 port] := by
      show [Value.agg (concL ρ0 [AV.str start, .slq 0 hrows.length, .slq 1 brs.length]).toArray, _, _] = _
      simp only [concL]
      rw [g1, g2]
      rfl
    rw [ea] at hcall
    refine hcall.mono fun e w' hq => ?_
    obtain ⟨rfl, hb⟩ := hq
    refine ⟨?_, hb⟩
    simp only [sub_whole, e1, e2, e3, e4, beq_self_eq_true]
    rfl
  · obtain ⟨ρ0, c, hE, g1, g2, a, ha⟩ := msg_ins2 gw hm.h (by omega) hmb
    have hc := hcap _ _ _ ha
    have hab0 : ∀ r ∈ sub hrows 0 100, r ∈ hrows := fun r hr => List.mem_of_mem_drop (List.mem_of_mem_take hr)
    have hab : ∀ r ∈ sub hrows 0 100, ∃ a b, r = [AV.str a, .str b] := fun r hr => (hm.rows r (hab0 r hr)).2.1
    have hsh : (sub hrows 0 100).all short = true := List.all_eq_true.2 fun r hr => decide_eq_true (by have := hm.rows r (hab0 r hr); omega)
    have htw : (sub hrows 0 100).all twoB = true := List.all_eq_true.2 fun r hr => by unfold twoB; rw [(hm.rows r (hab0 r hr)).1]; rfl
    have h100 : (sub hrows 0 100).length = 100 := sub_length (by omega)
    obtain ⟨e1, e2⟩ := self_rows (start := start) (body := body) (host := host) (port := port) (mrows := []) rfl hab
    obtain ⟨e3, e4⟩ := self_rows (start := start) (body := body) (host := host) (port := port) (mrows := [[AV.int IntKind.u16 port, AV.int IntKind.u16 port]]) (samePort_one port) hab
    rw [← hbr] at e1 e2 e3 e4
    have hp := c8s_TETTTTT start hrows brs host port c
    have hcall := calls_pureB P12_ok hp ⟨⟨⟨⟨⟨⟨⟨⟨⟨⟨⟨⟨⟨⟨⟨⟨⟨⟨⟨⟨⟨⟨⟨⟨⟨⟨⟨⟨⟨⟨⟨⟨⟨⟨⟨⟨⟨⟨⟨⟨⟨⟨⟨⟨⟨⟨⟨⟨⟨trivial, rfl⟩, rfl⟩, (by (first | rfl | exact decide_eq_true (by omega) | exact decide_eq_false (by omega) | (simp only [sub_whole, e1, e2, e3, e4, eqH_self, hsh, htw, Bool.and_eq_true, decide_eq_true_eq, beq_self_eq_true, and_true, true_and, eq_self] <;> omega)))⟩, rfl⟩, (by (first | rfl | exact decide_eq_true (by omega) | exact decide_eq_false (by omega) | (simp only [sub_whole, e1, e2, e3, e4, eqH_self, hsh, htw, Bool.and_eq_true, decide_eq_true_eq, beq_self_eq_true, and_true, true_and, eq_self] <;> omega)))⟩, rfl⟩, rfl⟩, rfl⟩, rfl⟩, rfl⟩, rfl⟩, rfl⟩, rfl⟩, rfl⟩, rfl⟩, rfl⟩, rfl⟩, rfl⟩, rfl⟩, rfl⟩, rfl⟩, rfl⟩, rfl⟩, rfl⟩, (by (first | rfl | exact decide_eq_true (by omega) | exact decide_eq_false (by omega) | (simp only [sub_whole, e1, e2, e3, e4, eqH_self, hsh, htw, Bool.and_eq_true, decide_eq_true_eq, beq_self_eq_true, and_true, true_and, eq_self] <;> omega)))⟩, rfl⟩, rfl⟩, (by (first | rfl | exact decide_eq_true (by omega) | exact decide_eq_false (by omega) | (simp only [sub_whole, e1, e2, e3, e4, eqH_self, hsh, htw, Bool.and_eq_true, decide_eq_true_eq, beq_self_eq_true, and_true, true_and, eq_self] <;> omega)))⟩, rfl⟩, rfl⟩, (by (first | rfl | exact decide_eq_true (by omega) | exact decide_eq_false (by omega) | (simp only [sub_whole, e1, e2, e3, e4, eqH_self, hsh, htw, Bool.and_eq_true, decide_eq_true_eq, beq_self_eq_true, and_true, true_and, eq_self] <;> omega)))⟩, (by (first | rfl | exact decide_eq_true (by omega) | exact decide_eq_false (by omega) | (simp only [sub_whole, e1, e2, e3, e4, eqH_self, hsh, htw, Bool.and_eq_true, decide_eq_true_eq, beq_self_eq_true, and_true, true_and, eq_self] <;> omega)))⟩, rfl⟩, rfl⟩, (by (first | rfl | exact decide_eq_true (by omega) | exact decide_eq_false (by omega) | (simp only [sub_whole, e1, e2, e3, e4, eqH_self, hsh, htw, Bool.and_eq_true, decide_eq_true_eq, beq_self_eq_true, and_true, true_and, eq_self] <;> omega)))⟩, (by (first | rfl | exact decide_eq_true (by omega) | exact decide_eq_false (by omega) | (simp only [sub_whole, e1, e2, e3, e4, eqH_self, hsh, htw, Bool.and_eq_true, decide_eq_true_eq, beq_self_eq_true, and_true, true_and, eq_self] <;> omega)))⟩, rfl⟩, rfl⟩, (by (first | rfl | exact decide_eq_true (by omega) | exact decide_eq_false (by omega) | (simp only [sub_whole, e1, e2, e3, e4, eqH_self, hsh, htw, Bool.and_eq_true, decide_eq_true_eq, beq_self_eq_true, and_true, true_and, eq_self] <;> omega)))⟩, rfl⟩, rfl⟩, (by (first | rfl | exact decide_eq_true (by omega) | exact decide_eq_false (by omega) | (simp only [sub_whole, e1, e2, e3, e4, eqH_self, hsh, htw, Bool.and_eq_true, decide_eq_true_eq, beq_self_eq_true, and_true, true_and, eq_self] <;> omega)))⟩, rfl⟩, rfl⟩, (by (first | rfl | exact decide_eq_true (by omega) | exact decide_eq_false (by omega) | (simp only [sub_whole, e1, e2, e3, e4, eqH_self, hsh, htw, Bool.and_eq_true, decide_eq_true_eq, beq_self_eq_true, and_true, true_and, eq_self] <;> omega)))⟩, (by (first | rfl | exact decide_eq_true (by omega) | exact decide_eq_false (by omega) | (simp only [sub_whole, e1, e2, e3, e4, eqH_self, hsh, htw, Bool.and_eq_true, decide_eq_true_eq, beq_self_eq_true, and_true, true_and, eq_self] <;> omega)))⟩, rfl⟩, rfl⟩, (by (first | rfl | exact decide_eq_true (by omega) | exact decide_eq_false (by omega) | (simp only [sub_whole, e1, e2, e3, e4, eqH_self, hsh, htw, Bool.and_eq_true, decide_eq_true_eq, beq_self_eq_true, and_true, true_and, eq_self] <;> omega)))⟩ hE rfl rfl rfl
    have ea : concL ρ0 [AV.agg [.str start, .sl ⟨0, 0, 0⟩ hrows.length (.known c), .slq 1 brs.length], .int .u32 host, .int .u16 port] = [.agg #[.string ⟨start.toArray⟩, hv, bv], .int .u32 host, .int .u16 port] := by
      show [Value.agg (concL ρ0 [AV.str start, .sl ⟨0, 0, 0⟩ hrows.length (.known c), .slq 1 brs.length]).toArray, _, _] = _
      simp only [concL]
      rw [g1, g2]
      rfl
    rw [ea] at hcall
    refine hcall.mono fun e w' hq => ?_
    obtain ⟨rfl, hb⟩ := hq
    refine ⟨?_, hb⟩
    simp only [sub_whole, e1, e2, e3, e4, beq_self_eq_true]
    rfl
end Go.Proofs.YtpdgmgkkbbndfaaGreatDoor
