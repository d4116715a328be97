/- Part 5 of the proof: texts that the last one builds upon. Conditions: as each theorem says. -/
import Derived.Test.YtpdgmgkkbbndfaaGreatDoorB3
import Derived.Lib.BufferKept
import Derived.Lib.BufferOld
import Derived.Lib.Strings
import Derived.WalkKit
import Derived.BigCall
set_option maxRecDepth 100000
set_option maxHeartbeats 6400000
set_option linter.unusedVariables false
set_option linter.unusedSimpArgs false
namespace Go.Proofs.YtpdgmgkkbbndfaaGreatDoor
open Go Go.Proofs Go.RowKit Go.Shelf
theorem buf_write_nil (B b : Nat) (bs : List Value) (w : World) (h : Lib.IsBuffer 95 5 B b bs w) :
    Calls Tryz.prog 54 #[.pointer (some ⟨b, 0, none⟩), .slice none 0 0] w fun e w' => e = .returned (.tuple #[.int .i64 0, .nilIface]) ∧ Lib.IsBuffer 95 5 B b bs w' ∧ Below B w w' := by
  obtain ⟨hB, v0, lr, hbk, -, -⟩ := id h
  have c2 : w.cell? ⟨b, 2, none⟩ = some (.int .i8 lr) := by rw [Lib.cell_of_heap hbk]; rfl
  have f2 : w.frozen? ⟨b, 2, none⟩ = false := Lib.frozen_of_heap hbk 2
  have h' := h.setLast 0
  have hbel0 : Below B w (w.setCell ⟨b, 2, none⟩ (.int .i8 0)) := (Below.refl B w).setCell (p := ⟨b, 2, none⟩) hB _
  clear hbk v0
  have hinfo : (Tryz.prog.info? 5).map (·.size) = some 1 := by kernel_rfl
  have hce : ∀ d dLen dCap W, (Builtin.copy_ #[23, 23] 3 #[.slice d dLen dCap, .slice none 0 0]).run Tryz.prog W = .ok (goInt 0) W := fun d dLen dCap W => run_copy_none W 23 23 3 5 d none dLen dCap 0 0 Tryz.underlying23 hinfo (by simp)
  have hT : ∀ W, Lib.IsBuffer 95 5 B b bs W → Calls Tryz.prog 84 #[.pointer (some ⟨b, 0, none⟩), .int .i64 0] W _ := fun W hW => Tryz.Buffer_tryGrow_kept B b 0 bs W hW
  go_enter Tryz.func54, Tryz.ntmps54
  go_wp2_with (go_at_call 84; refine (hT _ ?_).mono ?_)
  · exact h'
  rintro e W1 (⟨rfl, xs, hxl, hI, hbel, hk⟩ | ⟨rfl, rfl, hnr⟩)
  · clear h' c2 f2 hT
    have hx0 : xs = [] := List.eq_nil_of_length_eq_zero hxl
    subst hx0
    rw [List.append_nil] at hI
    obtain ⟨-, lr2, hc⟩ := hI.cases
    rcases hc with ⟨hb0, hbk2⟩ | ⟨g, cap, cur, hbk2, -, -, hnc, hcm, -, -, -⟩
    · subst hb0
      have d0 : W1.cell? ⟨b, 0, none⟩ = some (.slice none 0 0) := by rw [Lib.cell_of_heap hbk2]; rfl
      go_wp2
      all_goals (go_ret2; first | exact ⟨rfl, hI, hbel0.trans hbel⟩ | exact ⟨by simp, by simpa using hI, hbel0.trans hbel⟩)
    · have d0 : W1.cell? ⟨b, 0, none⟩ = some (.slice (some ⟨g, 0, none⟩) bs.length cap) := by rw [Lib.cell_of_heap hbk2]; rfl
      unfold maxLen at hcm
      go_wp2
      all_goals (go_ret2; first | exact ⟨rfl, hI, hbel0.trans hbel⟩ | exact ⟨by simp, by simpa using hI, hbel0.trans hbel⟩)
  · obtain ⟨_, _, _, _, hlt⟩ := hnr
    omega
end Go.Proofs.YtpdgmgkkbbndfaaGreatDoor

set_option maxRecDepth 100000
set_option maxHeartbeats 6400000
set_option linter.unusedVariables false
set_option linter.unusedSimpArgs false
namespace Go.Proofs.YtpdgmgkkbbndfaaGreatDoor
open Go Go.Proofs Go.Proofs.YtpdgmgkkbbndfaaGreatDoor.SX Go.RowKit
theorem right_reads {w : World} {start : List UInt8} {hrows brows : List (List AV)} {hv bv : Value} (gw : GW w) (h1 : Reads w [.str, .str] hrows hv) (h2 : Reads w [.int .u8] brows bv)
    (hst : start.length ≤ 4294967200) (hsh : hrows.all short = true) (hbn : brows.length ≤ 140737488355328) :
    Calls Tryz.prog 26 #[.agg #[.string ⟨start.toArray⟩, hv, bv]] w (fun e w' => e = .returned (.bool (spRight start hrows brows.length)) ∧ Below w.heap.size w w') := by
  obtain ⟨b1, hb1⟩ := h1.bi gw rfl
  obtain ⟨b2, hb2⟩ := h2.bi gw rfl
  obtain ⟨ρ0, hρ0⟩ : ∃ ρ0 : Nat → BI, (fun i => if i = 0 then b1 else b2) = ρ0 := ⟨_, rfl⟩
  have g1 := hb1 ρ0 0 (by rw [← hρ0]; rfl)
  have g2 := hb2 ρ0 1 (by rw [← hρ0]; rfl)
  have hE : HSim ρ0 (addBlks .e 0 [.cells false [.str, .str] hrows, .cells false [.int .u8] brows]) ([.cells false [.str, .str] hrows, .cells false [.int .u8] brows] : List Blk).length w :=
    HSim.ins gw (fun i blk hi => by
      match i with
      | 0 => simp at hi; subst hi; exact ⟨g1.2, rfl, rfl⟩
      | 1 => simp at hi; subst hi; exact ⟨g2.2, rfl, rfl⟩
      | i + 2 => simp at hi)
  have hcall := right_calls hE hst hsh hbn
  have e1 : concL ρ0 [AV.agg [.str start, .slq 0 hrows.length, .slq 1 brows.length]] = [.agg #[.string ⟨start.toArray⟩, hv, bv]] := by
    show [Value.agg (concL ρ0 [AV.str start, .slq 0 hrows.length, .slq 1 brows.length]).toArray] = _
    simp only [concL]
    rw [g1.1, g2.1]
    rfl
  rw [e1] at hcall
  exact hcall
theorem hdr_cells {w : World} {hrows : List (List AV)} {hv : Value} (h : Reads w [.str, .str] hrows hv) (hp : 0 < hrows.length) :
    ∃ bk off c, hv = .slice (some ⟨bk, off, none⟩) hrows.length c ∧ bk < w.heap.size ∧ ∀ k (h : k < hrows.length), w.cell? ⟨bk, off + k * 2, none⟩ = some (.string ⟨(hN hrows[k]).toArray⟩) ∧ w.cell? ⟨bk, off + k * 2 + 1, none⟩ = some (.string ⟨(hV hrows[k]).toArray⟩) := by
  cases h with
  | nil h => rw [h] at hp; exact absurd hp (by decide)
  | cells bi c h =>
    refine ⟨bi.blk, bi.off, c, rfl, Blk.sat_lt h, fun k hk => ?_⟩
    obtain ⟨hz, cs, t, fr, g1, g2, g3⟩ := h
    have hz : bi.sz = 2 := hz
    have hr : hrows.getD k [] = hrows[k] := by rw [List.getD_eq_getElem?_getD, List.getElem?_eq_getElem hk]; rfl
    have a0 := g2 k 0 .str hk rfl
    have a1 := g2 k 1 .str hk rfl
    simp only [hz] at a0 a1
    constructor
    · simp only [World.cell?]
      rw [g1]
      simp only
      rw [show bi.off + k * 2 = bi.off + (k * 2 + 0) by omega, a0]
      unfold cellAt
      rw [hr]
      rfl
    · simp only [World.cell?]
      rw [g1]
      simp only
      rw [show bi.off + k * 2 + 1 = bi.off + (k * 2 + 1) by omega, a1]
      unfold cellAt
      rw [hr]
      rfl
def hdrLine (r : List AV) : List UInt8 := hN r ++ [58, 32] ++ hV r ++ [13, 10]
def hdrText (rows : List (List AV)) : List UInt8 := (rows.map hdrLine).flatten
theorem hdrText_len (rows : List (List AV)) : (hdrText rows).length = hSize rows := by
  unfold hdrText hSize
  induction rows with
  | nil => rfl
  | cons r l ih =>
    simp only [List.map_cons, List.flatten_cons, List.length_append, List.sum_cons, ih]
    unfold hdrLine hLen
    simp only [List.length_append, List.length_cons, List.length_nil]
    omega
theorem hSize_take (rows : List (List AV)) (k : Nat) : hSize (rows.take k) ≤ hSize rows := by
  have e : hSize rows = hSize (rows.take k) + hSize (rows.drop k) := by
    unfold hSize
    conv => lhs; rw [← List.take_append_drop k rows]
    rw [List.map_append, List.sum_append]
  omega
theorem right_size {start : List UInt8} {rows : List (List AV)} {bn : Nat} (h : spRight start rows bn = true) : start.length + 4 + bn + hSize rows ≤ 4096 := by
  unfold spRight at h
  simp only [Bool.and_eq_true, decide_eq_true_eq] at h
  exact h.2.2.2.2.2
def rowCells (rows : List (List AV)) : List Value := rows.map fun r => Value.int .u8 (AV.toInt (r.getD 0 .undef))
theorem rowCells_bytes (l : List UInt8) : rowCells (byteRows l) = Lib.byteCells l := by
  unfold rowCells byteRows Lib.byteCells
  rw [List.map_map]
  rfl
theorem NewSl.of_owns {w' : World} {b n0 n : Nat} {v : Value} {rows : List (List AV)} (h : w'.ownsRow b 5 1 v n (rowCells rows)) (hn : n = rows.length) (hp : 0 < n) (hb : n0 ≤ b) : NewSl n0 w' [.int .u8] rows v := by
  obtain ⟨hl, (⟨_, h0⟩ | ⟨g, cap, cur, rfl, hg, hheap, hnc, hcm, hcs, htk⟩)⟩ := h
  · omega
  · subst hn
    refine ⟨⟨g, 0, 1, cap, false⟩, .inl (by show n0 ≤ g; omega), fun ρ b' hb' => ⟨by simp [conc, hb'], by rw [hb']; rfl, cur, 5, (0, 0), by rw [hb']; exact hheap, fun i j kd hi hj => ?_, fun h => by cases h⟩⟩
    have hj0 : j = 0 ∧ kd = .int .u8 := by
      match j with
      | 0 => simp at hj; exact ⟨rfl, hj.symm⟩
      | j + 1 => simp at hj
    obtain ⟨rfl, rfl⟩ := hj0
    rw [hb']
    show cur[0 + (i * 1 + 0)]? = _
    rw [show 0 + (i * 1 + 0) = i by omega]
    have h1 : (rowCells rows)[i]? = some (Value.int .u8 (AV.toInt (rows[i].getD 0 .undef))) := by
      unfold rowCells
      rw [List.getElem?_map, List.getElem?_eq_getElem hi]
      rfl
    rw [← htk, List.getElem?_take, if_pos (by omega), Array.getElem?_toList] at h1
    rw [h1]
    unfold cellAt
    have hr : rows.getD i [] = rows[i] := by rw [List.getD_eq_getElem?_getD, List.getElem?_eq_getElem hi]; rfl
    rw [hr]
    rfl
theorem body_cells {w : World} {brows : List (List AV)} {bv : Value} (h : Reads w [.int .u8] brows bv) :
    (bv = .slice none 0 0 ∧ brows = []) ∨ ∃ bk off c, bv = .slice (some ⟨bk, off, none⟩) brows.length c ∧ bk < w.heap.size ∧ ∀ j v, (rowCells brows)[j]? = some v → w.cell? ((⟨bk, off, none⟩ : Addr).add j) = some v := by
  cases h with
  | nil h => exact .inl ⟨rfl, h⟩
  | cells bi c h =>
    refine .inr ⟨bi.blk, bi.off, c, rfl, Blk.sat_lt h, fun j v hj => ?_⟩
    obtain ⟨hz, cs, t, fr, g1, g2, g3⟩ := h
    have hz : bi.sz = 1 := hz
    have hjl : j < brows.length := by
      rcases Nat.lt_or_ge j brows.length with h' | h'
      · exact h'
      · unfold rowCells at hj; rw [List.getElem?_map, List.getElem?_eq_none h'] at hj; cases hj
    have hv : v = Value.int .u8 (AV.toInt (brows[j].getD 0 .undef)) := by
      unfold rowCells at hj
      rw [List.getElem?_map, List.getElem?_eq_getElem hjl] at hj
      exact (Option.some.inj hj).symm
    subst hv
    have a0 := g2 j 0 (.int .u8) hjl rfl
    simp only [hz] at a0
    rw [Lib.addr_add]
    simp only [World.cell?]
    rw [g1]
    simp only
    rw [show bi.off + j = bi.off + (j * 1 + 0) by omega, a0]
    unfold cellAt
    have hr : brows.getD j [] = brows[j] := by rw [List.getD_eq_getElem?_getD, List.getElem?_eq_getElem hjl]; rfl
    rw [hr]
    rfl
theorem build_good {w : World} {start : List UInt8} {hrows brows : List (List AV)} {hv bv : Value} (gw : GW w) (h1 : Reads w [.str, .str] hrows hv) (h2 : Reads w [.int .u8] brows bv)
    (hst : start.length ≤ 4294967200) (hsh : hrows.all short = true) (hbn : brows.length ≤ 140737488355328) (hgood : spRight start hrows brows.length = true) :
    Calls Tryz.prog 24 #[.agg #[.string ⟨start.toArray⟩, hv, bv]] w (fun e w' => (∃ v, e = .returned (.tuple #[v, .int .i64 0]) ∧ NewSl w.heap.size w' [.int .u8] (byteRows (start ++ [13, 10] ++ hdrText hrows ++ [13, 10]) ++ brows) v) ∧ Below w.heap.size w w') := by
  have hs := right_sized hgood
  obtain ⟨bk, off, c, rfl, hbk, hcells⟩ := hdr_cells h1 hs.pos
  have hr := fun (w1 : World) (hx : Below w.heap.size w w1) => right_reads (gw.ext hx) (h1.ext hx) (h2.ext hx) hst hsh hbn
  go_enter Tryz.func24, Tryz.ntmps24
  go_wp2_with (go_at_call 26; refine (hr _ ?_).mono ?_; refine Hid.out ?_)
  · exact (Below.refl _ w).alloc (Nat.le_refl _) _
  refine Lib.hid ?_
  rintro e W1 ⟨rfl, hx1⟩
  rw [hgood]
  have hsz0 : (w.alloc (.cells #[.string ⟨start.toArray⟩, .slice (some ⟨bk, off, none⟩) hrows.length c, bv] 25)).heap.size = w.heap.size + 1 := by simp
  have hbox : W1.heap[w.heap.size]? = some (.cells #[.string ⟨start.toArray⟩, .slice (some ⟨bk, off, none⟩) hrows.length c, bv] 25 (0, 0)) := by
    rw [hx1.block _ (by rw [hsz0]; omega)]
    exact heap_alloc_new w _
  have hw1 : w.heap.size + 1 ≤ W1.heap.size := by have := hx1.size; rw [hsz0] at this; exact this
  have hB1 : Below w.heap.size w W1 := ((Below.refl _ w).alloc (Nat.le_refl _) _).trans (hx1.mono (by rw [hsz0]; omega))
  clear hx1 hsz0
  have hI1 : Lib.IsBuffer 95 5 W1.heap.size W1.heap.size [] (W1.alloc (.cells #[.slice none 0 0, .int .i64 0, .int .i8 0] 95)) := Lib.fresh_isBuffer 95 5 W1
  have hbx2 : (W1.alloc (.cells #[.slice none 0 0, .int .i64 0, .int .i8 0] 95)).heap[w.heap.size]? = some (.cells #[.string ⟨start.toArray⟩, .slice (some ⟨bk, off, none⟩) hrows.length c, bv] 25 (0, 0)) := by
    rw [heap_alloc_old W1 _ (by omega)]; exact hbox
  have c0 : (W1.alloc (.cells #[.slice none 0 0, .int .i64 0, .int .i8 0] 95)).cell? ⟨w.heap.size, 0, none⟩ = some (.string ⟨start.toArray⟩) := by rw [Lib.cell_of_heap hbx2]; rfl
  have es : (⟨start.toArray⟩ ++ ⟨#[13, 10]⟩ : ByteArray).data.toList = start ++ [13, 10] := by simp
  have el : (⟨start.toArray⟩ ++ ⟨#[13, 10]⟩ : ByteArray).size = start.length + 2 := by rw [Lib.size_eq, es]; simp
  go_wp2_with (go_at_call 53; refine (Tryz.Buffer_WriteString_kept W1.heap.size W1.heap.size [] _ _ hI1 (by simp) (by simp) (by rw [el]; simp only [List.length_nil]; omega)).mono ?_; refine Hid.out ?_)
  refine Lib.hid ?_
  rintro e W2 ⟨rfl, hI2, hb2, -⟩
  rw [es, List.nil_append] at hI2
  have hx2 : W2.heap[w.heap.size]? = some (.cells #[.string ⟨start.toArray⟩, .slice (some ⟨bk, off, none⟩) hrows.length c, bv] 25 (0, 0)) := by
    rw [hb2.block _ (by omega)]; exact hbx2
  have hsz2 : W1.heap.size ≤ W2.heap.size := by have := hb2.size; simp at this; omega
  have hB2 : Below w.heap.size w W2 := (hB1.alloc (by omega) _).trans (hb2.mono (by omega))
  have hgb : w.heap.size < W1.heap.size := by omega
  clear hI1 hbx2 c0 hb2 hbox hw1 hB1 hr es
  generalize W1.heap.size = b at *
  clear W1
  have c1 : W2.cell? ⟨w.heap.size, 1, none⟩ = some (.slice (some ⟨bk, off, none⟩) hrows.length c) := by rw [Lib.cell_of_heap hx2]; rfl
  go_wp2
  go_loopw [17] (fun i wr => ∃ k : Nat, k ≤ hrows.length ∧ i = .int .i64 k ∧ Lib.IsBuffer 95 5 b b (Lib.byteCells (start ++ [13, 10] ++ hdrText (hrows.take k))) wr
      ∧ wr.heap[w.heap.size]? = some (.cells #[.string ⟨start.toArray⟩, .slice (some ⟨bk, off, none⟩) hrows.length c, bv] 25 (0, 0)) ∧ b ≤ wr.heap.size ∧ Below w.heap.size w wr)
    (fun i _ => hrows.length - (intOf i).toNat)
  case atStart => exact ⟨0, Nat.zero_le _, rfl, by simpa [hdrText] using hI2, hx2, hsz2, hB2⟩
  case round =>
    obtain ⟨k, hk, rfl, hI, hx, hsz, hB⟩ := hrel
    clear hI2 hx2 hsz2 hB2 c1
    by_cases hlt : k < hrows.length
    · have k0 := (hB.cell (p := ⟨bk, off + k * 2, none⟩) hbk).trans (hcells k hlt).1
      have k1 := (hB.cell (p := ⟨bk, off + k * 2 + 1, none⟩) hbk).trans (hcells k hlt).2
      obtain ⟨lv, ln⟩ := hs.v _ (List.getElem_mem hlt)
      have z1 : (⟨(hN hrows[k]).toArray⟩ ++ ⟨#[58, 32]⟩ : ByteArray).size = (hN hrows[k]).length + 2 := by rw [Lib.size_eq]; simp
      have z2 : (⟨(hN hrows[k]).toArray⟩ ++ ⟨#[58, 32]⟩ ++ ⟨(hV hrows[k]).toArray⟩ : ByteArray).size = (hN hrows[k]).length + 2 + (hV hrows[k]).length := by rw [Lib.size_eq]; simp; omega
      have z3 : (⟨(hN hrows[k]).toArray⟩ ++ ⟨#[58, 32]⟩ ++ ⟨(hV hrows[k]).toArray⟩ ++ ⟨#[13, 10]⟩ : ByteArray).data.toList = hdrLine hrows[k] := by unfold hdrLine; simp
      have z4 : (⟨(hN hrows[k]).toArray⟩ ++ ⟨#[58, 32]⟩ ++ ⟨(hV hrows[k]).toArray⟩ ++ ⟨#[13, 10]⟩ : ByteArray).size = (hN hrows[k]).length + (hV hrows[k]).length + 4 := by rw [Lib.size_eq, z3]; unfold hdrLine; simp; omega
      have hL := hdrText_len (hrows.take k)
      have hT := hSize_take hrows k
      have hR := right_size hgood
      go_wp2_with (go_at_call 53; refine (Tryz.Buffer_WriteString_kept b b _ _ _ (hI.alloc _) (by simp; omega) (Lib.byteCells_one _) (by rw [Lib.byteCells_length, z4]; simp only [List.length_append, List.length_cons, List.length_nil, hL]; omega)).mono ?_; refine Hid.out ?_)
      refine Lib.hid ?_
      rintro e W3 ⟨rfl, hI3, hb3, -⟩
      rw [z3, ← Lib.byteCells_append] at hI3
      have hx3 : W3.heap[w.heap.size]? = some (.cells #[.string ⟨start.toArray⟩, .slice (some ⟨bk, off, none⟩) hrows.length c, bv] 25 (0, 0)) := by
        rw [hb3.block _ hgb, heap_alloc_old wr _ (by omega)]; exact hx
      have hsz3 : b ≤ W3.heap.size := by have := hb3.size; simp at this; omega
      have hB3 : Below w.heap.size w W3 := (hB.alloc (by omega) _).trans (hb3.mono (by omega))
      have e3 : start ++ [13, 10] ++ hdrText (hrows.take k) ++ hdrLine hrows[k] = start ++ [13, 10] ++ hdrText (hrows.take (k + 1)) := by
        unfold hdrText
        rw [take_snoc hlt, List.map_append, List.flatten_append]
        simp
      rw [e3] at hI3
      have hwr : wrap64 ((k : Int) + 1) = ((k + 1 : Nat) : Int) := by have := hs.n; unfold wrap64; omega
      clear hI hx hsz hB k0 k1 z1 z2 z3 z4 hL hT hR hb3 e3
      go_wp2
      go_roundw
      case rel => exact ⟨k + 1, Nat.succ_le_of_lt hlt, congrArg (Value.int .i64) hwr, hI3, hx3, hsz3, hB3⟩
      case measure =>
        rw [hwr]
        show hrows.length - (k + 1) < hrows.length - k
        exact Nat.sub_lt_sub_left hlt (Nat.lt_succ_self k)
    · have hk' : k = hrows.length := Nat.le_antisymm hk (Nat.le_of_not_lt hlt)
      subst hk'
      rw [List.take_length] at hI
      have hL := hdrText_len hrows
      have hR := right_size hgood
      have c2 : wr.cell? ⟨w.heap.size, 2, none⟩ = some bv := by rw [Lib.cell_of_heap hx]; rfl
      go_wp2_with (go_at_call 53; refine (Tryz.Buffer_WriteString_kept b b _ _ _ hI hsz (Lib.byteCells_one _) (by rw [Lib.byteCells_length]; simp only [List.length_append, List.length_cons, List.length_nil, hL]; show _ + 2 ≤ _; omega)).mono ?_; refine Hid.out ?_)
      refine Lib.hid ?_
      intro e W3 he hI3 hb3 _
      subst he
      rw [← Lib.byteCells_append] at hI3
      have e5 : start ++ 13 :: 10 :: hdrText hrows ++ [13, 10] = start ++ [13, 10] ++ hdrText hrows ++ [13, 10] := by simp
      rw [e5] at hI3
      have hx3 : W3.heap[w.heap.size]? = some (.cells #[.string ⟨start.toArray⟩, .slice (some ⟨bk, off, none⟩) hrows.length c, bv] 25 (0, 0)) := (hb3.block _ hgb).trans hx
      have hsz3 : b ≤ W3.heap.size := Nat.le_trans hsz hb3.size
      have hB3 : Below w.heap.size w W3 := hB.trans (hb3.mono (Nat.le_of_lt hgb))
      have d2 : W3.cell? ⟨w.heap.size, 2, none⟩ = some bv := by rw [Lib.cell_of_heap hx3]; rfl
      have hlen : (start ++ [13, 10] ++ hdrText hrows ++ [13, 10]).length + brows.length ≤ 4096 := by simp only [List.length_append, List.length_cons, List.length_nil, hL]; omega
      have hpos : 0 < (start ++ [13, 10] ++ hdrText hrows ++ [13, 10]).length := by simp only [List.length_append, List.length_cons, List.length_nil]; omega
      clear hI hx hsz hB c2 hL hR hb3 e5 hcells hk hlt h1
      obtain ⟨pre, hpre⟩ : ∃ pre, pre = start ++ [13, 10] ++ hdrText hrows ++ [13, 10] := ⟨_, rfl⟩
      rw [← hpre] at hI3 hlen hpos
      have hpre := Lib.hid hpre
      have fin : ∀ (v : Value) (w' : World) (rows : List (List AV)), rows = byteRows pre ++ brows → w'.ownsRow b 5 1 v rows.length (rowCells rows) → NewSl w.heap.size w' [.int .u8] (byteRows pre ++ brows) v := by
        intro v w' rows hr ho
        subst hr
        exact NewSl.of_owns ho rfl (by rw [List.length_append, byteRows_length]; omega) (Nat.le_of_lt hgb)
      have hcut : rowCells (byteRows pre ++ brows) = Lib.byteCells pre ++ rowCells brows := by
        unfold rowCells
        rw [List.map_append]
        show rowCells (byteRows pre) ++ _ = _
        rw [rowCells_bytes]
      have hone : ∀ v ∈ rowCells brows, v.oneCell' = true := by
        intro v hv
        unfold rowCells at hv
        obtain ⟨r, _, rfl⟩ := List.mem_map.1 hv
        rfl
      rcases body_cells h2 with ⟨rfl, rfl⟩ | ⟨bk2, off2, cc, rfl, hlt2, hsrc⟩
      · go_wp2_with (go_at_call 54; refine (buf_write_nil b b _ _ hI3).mono ?_; refine Hid.out ?_)
        intro e W4 hq4
        obtain ⟨rfl, hI4, hb4⟩ := hq4
        go_wp2_with (go_at_call 55; refine (Tryz.Buffer_Bytes b b _ _ hI4).mono ?_; refine Hid.out ?_)
        intro e W5 hq5
        obtain ⟨v, rfl, ho, nn, rfl⟩ := hq5
        have ho := fin v _ (byteRows pre ++ []) rfl (by rw [hcut, List.length_append, byteRows_length]; simpa [rowCells, Lib.byteCells_length] using ho)
        have hB4 : Below w.heap.size w (W4.drewN nn) := (hB3.trans (hb4.mono (Nat.le_of_lt hgb))).trans ⟨rfl, rfl, rfl, Nat.le_refl _, fun _ _ => rfl⟩
        have hpre := hpre.out
        rw [hpre] at ho
        have ho := Lib.hid ho
        clear hpre fin hcut
        go_wp2
        go_ret2
        exact ⟨⟨v, rfl, ho.out⟩, hB4⟩
      · have hlt3 : bk2 < W3.heap.size := Nat.lt_of_lt_of_le hlt2 hB3.size
        go_wp2_with (go_at_call 54; refine (Tryz.Buffer_Write_any b b _ (rowCells brows) ⟨bk2, off2, none⟩ brows.length cc _ hI3 hsz3 (Lib.byteCells_one _) (by simp [rowCells]) (by show bk2 ≠ b; omega) (fun j v hj => (hB3.cell (p := (⟨bk2, off2, none⟩ : Addr).add j) (by rw [Lib.block_add]; exact hlt2)).trans (hsrc j v hj)) hone (by rw [Lib.byteCells_length]; omega)).mono ?_; refine Hid.out ?_)
        intro e W4 hq4
        obtain ⟨rfl, hI4, hb4, -⟩ := hq4
        go_wp2_with (go_at_call 55; refine (Tryz.Buffer_Bytes b b _ _ hI4).mono ?_; refine Hid.out ?_)
        intro e W5 hq5
        obtain ⟨v, rfl, ho, nn, rfl⟩ := hq5
        have ho := fin v _ (byteRows pre ++ brows) rfl (by rw [hcut, List.length_append, byteRows_length]; simpa [rowCells, Lib.byteCells_length] using ho)
        have hB4 : Below w.heap.size w (W4.drewN nn) := (hB3.trans (hb4.mono (Nat.le_of_lt hgb))).trans ⟨rfl, rfl, rfl, Nat.le_refl _, fun _ _ => rfl⟩
        have hpre := hpre.out
        rw [hpre] at ho
        have ho := Lib.hid ho
        clear hpre fin hcut
        go_wp2
        go_ret2
        exact ⟨⟨v, rfl, ho.out⟩, hB4⟩
end Go.Proofs.YtpdgmgkkbbndfaaGreatDoor

set_option maxRecDepth 100000
set_option linter.unusedVariables false
set_option linter.unusedSimpArgs false
namespace Go.Proofs.YtpdgmgkkbbndfaaGreatDoor
open Go Go.Proofs Go.Proofs.YtpdgmgkkbbndfaaGreatDoor.SX
def digF : Nat → Nat → List UInt8
  | 0, _ => []
  | k + 1, n => if n < 10 then [UInt8.ofNat (48 + n)] else digF k (n / 10) ++ [UInt8.ofNat (48 + n % 10)]
def spDigits (n : Nat) : List UInt8 := digF (n + 1) n
theorem digF_eq : ∀ (k k' n : Nat), n < k → n < k' → digF k n = digF k' n := by
  intro k
  induction k with
  | zero => intro k' n h; omega
  | succ k ih =>
    intro k' n h h'
    cases k' with
    | zero => omega
    | succ k' =>
      unfold digF
      by_cases hn : n < 10
      · rw [if_pos hn, if_pos hn]
      · rw [if_neg hn, if_neg hn, ih k' (n / 10) (by omega) (by omega)]
theorem spDigits_lt {n : Nat} (h : n < 10) : spDigits n = [UInt8.ofNat (48 + n)] := by unfold spDigits digF; rw [if_pos h]
theorem spDigits_ge {n : Nat} (h : ¬ n < 10) : spDigits n = spDigits (n / 10) ++ [UInt8.ofNat (48 + n % 10)] := by
  unfold spDigits
  rw [digF, if_neg h, digF_eq n (n / 10 + 1) (n / 10) (by omega) (by omega)]
theorem spDigits_len (n : Nat) : (spDigits n).length ≤ n + 1 := by
  induction n using Nat.strongRecOn with
  | ind n ih =>
    by_cases h : n < 10
    · rw [spDigits_lt h]; simp
    · rw [spDigits_ge h]
      have := ih (n / 10) (by omega)
      simp; omega
def qDig (N : Int) : Entry := fun args hp nx => match args with
  | [.int .i64 m] => some (decide (0 ≤ m ∧ m < N), .str (spDigits m.toNat), [])
  | _ => none
theorem dig_row {n : Int} (h0 : 0 ≤ n) (h : n < 10) : rowByte [AV.int IntKind.u8 (IntKind.wrap IntKind.u8 (IntKind.wrap IntKind.i64 (48 + n)))] = UInt8.ofNat (48 + n.toNat) := by
  rw [IntWalk.i64_in _ (by omega), IntWalk.u8_in _ (by omega)]
  show UInt8.ofNat (48 + n).toNat = _
  rw [show (48 + n).toNat = 48 + n.toNat by omega]
theorem c41_T (m : Int) :
    Path (runCallB Tryz.prog (addP Pr 41 (qDig m)) 100 41 [AV.int IntKind.i64 m] (st0 [] ([.as_ true]))) 0 [] ⟨[], [], 0⟩ (Out.ret (AV.str [rowByte [AV.int IntKind.u8 (IntKind.wrap IntKind.u8 (IntKind.wrap IntKind.i64 ((48 : Int) + m)))]]))
      ((True ∧ (decide (m < (10 : Int)) = true)) ∧ (true = true)) := by unfold Path; kernel_rfl
theorem c41_F (m : Int) :
    Path (runCallB Tryz.prog (addP Pr 41 (qDig m)) 100 41 [AV.int IntKind.i64 m] (st0 [] ([.as_ false]))) 0 [] ⟨[], [], 0⟩ (Out.ret (AV.str (spDigits (Int.toNat (IntKind.wrap IntKind.i64 (Int.tdiv m (10 : Int)))) ++ [rowByte [AV.int IntKind.u8 (IntKind.wrap IntKind.u8 (IntKind.wrap IntKind.i64 ((48 : Int) + Int.tmod m (10 : Int))))]])))
      (((((((((True ∧ (decide (m < (10 : Int)) = false)) ∧ (true = true)) ∧ (true = true)) ∧ (decide ((0 : Int) ≤ IntKind.wrap IntKind.i64 (Int.tdiv m (10 : Int)) ∧ IntKind.wrap IntKind.i64 (Int.tdiv m (10 : Int)) < m) = true)) ∧ (true = true)) ∧ (decide (List.length (spDigits (Int.toNat (IntKind.wrap IntKind.i64 (Int.tdiv m (10 : Int))))) + 1 ≤ 9223372036854775807) = true)) ∧ (true = true)) ∧ (decide ((0 : Int) ≤ IntKind.wrap IntKind.i64 (Int.tdiv m (10 : Int)) ∧ IntKind.wrap IntKind.i64 (Int.tdiv m (10 : Int)) < m) = true)) ∧ (decide (List.length (spDigits (Int.toNat (IntKind.wrap IntKind.i64 (Int.tdiv m (10 : Int))))) + 1 ≤ 9223372036854775807) = true)) := by unfold Path; kernel_rfl
theorem qDig41 : ∀ N : Nat, N ≤ 9223372036854775808 → EntryOK Tryz.prog 41 (qDig N) := by
  intro N
  induction N using Nat.strongRecOn with
  | ind N ih =>
    intro hN args hp nx c v bs h hc ρ w hs hi
    unfold qDig at h
    split at h
    · rename_i m
      cases h
      obtain ⟨h0, h1⟩ := of_decide_eq_true hc
      refine entry_pure hs rfl ?_
      have hE : HSim ρ (addBlks .e 0 []) ([] : List Blk).length w := HSim.ins hs.gw (fun i blk hi => by simp at hi)
      have hm : ((m.toNat : Nat) : Int) = m := by omega
      have hP : PrimsOK Tryz.prog (addP Pr 41 (qDig m)) := by
        have := ih m.toNat (by omega) (by omega)
        rw [hm] at this
        exact addP_ok Pr_ok this
      by_cases hlt : m < 10
      · rw [spDigits_lt (by omega), ← dig_row h0 hlt]
        exact calls_pureB hP (c41_T m) ⟨⟨trivial, by simpa using hlt⟩, rfl⟩ hE rfl rfl rfl
      · have hq : Int.tdiv m 10 = ((m.toNat / 10 : Nat) : Int) := by
          rw [Int.tdiv_eq_ediv_of_nonneg h0]; omega
        have hr : Int.tmod m 10 = ((m.toNat % 10 : Nat) : Int) := by
          rw [Int.tmod_eq_emod_of_nonneg h0]; omega
        have hw : IntKind.wrap IntKind.i64 (Int.tdiv m 10) = ((m.toNat / 10 : Nat) : Int) := by rw [hq]; exact IntWalk.i64_in _ (by omega)
        have e : spDigits m.toNat = spDigits (Int.toNat (IntKind.wrap IntKind.i64 (Int.tdiv m 10))) ++ [rowByte [AV.int IntKind.u8 (IntKind.wrap IntKind.u8 (IntKind.wrap IntKind.i64 (48 + Int.tmod m 10)))]] := by
          rw [spDigits_ge (by omega), hw, hr, dig_row (by omega) (by omega)]; rfl
        rw [e]
        have hl := spDigits_len (m.toNat / 10)
        have hl2 : (spDigits (Int.toNat (IntKind.wrap IntKind.i64 (Int.tdiv m 10)))).length + 1 ≤ 9223372036854775807 := by
          rw [hw]; show (spDigits (m.toNat / 10)).length + 1 ≤ _; omega
        have hc1 : (0 : Int) ≤ IntKind.wrap IntKind.i64 (Int.tdiv m 10) ∧ IntKind.wrap IntKind.i64 (Int.tdiv m 10) < m := by rw [hw]; omega
        exact calls_pureB hP (c41_F m) (by simp only [decide_eq_true_eq, decide_eq_false_iff_not, eq_self, and_true, true_and]; exact ⟨⟨⟨⟨hlt, hc1⟩, hl2⟩, hc1⟩, hl2⟩) hE rfl rfl rfl
    · cases h
end Go.Proofs.YtpdgmgkkbbndfaaGreatDoor

set_option maxRecDepth 100000
set_option linter.unusedVariables false
set_option linter.unusedSimpArgs false
namespace Go.Proofs.YtpdgmgkkbbndfaaGreatDoor
open Go Go.Proofs Go.Proofs.YtpdgmgkkbbndfaaGreatDoor.SX
theorem c22_T (m : Int) :
    Path (runCallB Tryz.prog (addP Pr 22 (qDig m)) 100 22 [AV.int IntKind.i64 m] (st0 [] ([.as_ true]))) 0 [] ⟨[], [], 0⟩ (Out.ret (AV.str [rowByte [AV.int IntKind.u8 (IntKind.wrap IntKind.u8 (IntKind.wrap IntKind.i64 ((48 : Int) + m)))]]))
      ((True ∧ (decide (m < (10 : Int)) = true)) ∧ (true = true)) := by unfold Path; kernel_rfl
theorem c22_F (m : Int) :
    Path (runCallB Tryz.prog (addP Pr 22 (qDig m)) 100 22 [AV.int IntKind.i64 m] (st0 [] ([.as_ false]))) 0 [] ⟨[], [], 0⟩ (Out.ret (AV.str (spDigits (Int.toNat (IntKind.wrap IntKind.i64 (Int.tdiv m (10 : Int)))) ++ [rowByte [AV.int IntKind.u8 (IntKind.wrap IntKind.u8 (IntKind.wrap IntKind.i64 ((48 : Int) + Int.tmod m (10 : Int))))]])))
      (((((((((True ∧ (decide (m < (10 : Int)) = false)) ∧ (true = true)) ∧ (true = true)) ∧ (decide ((0 : Int) ≤ IntKind.wrap IntKind.i64 (Int.tdiv m (10 : Int)) ∧ IntKind.wrap IntKind.i64 (Int.tdiv m (10 : Int)) < m) = true)) ∧ (true = true)) ∧ (decide (List.length (spDigits (Int.toNat (IntKind.wrap IntKind.i64 (Int.tdiv m (10 : Int))))) + 1 ≤ 9223372036854775807) = true)) ∧ (true = true)) ∧ (decide ((0 : Int) ≤ IntKind.wrap IntKind.i64 (Int.tdiv m (10 : Int)) ∧ IntKind.wrap IntKind.i64 (Int.tdiv m (10 : Int)) < m) = true)) ∧ (decide (List.length (spDigits (Int.toNat (IntKind.wrap IntKind.i64 (Int.tdiv m (10 : Int))))) + 1 ≤ 9223372036854775807) = true)) := by unfold Path; kernel_rfl
theorem qDig22 : ∀ N : Nat, N ≤ 9223372036854775808 → EntryOK Tryz.prog 22 (qDig N) := by
  intro N
  induction N using Nat.strongRecOn with
  | ind N ih =>
    intro hN args hp nx c v bs h hc ρ w hs hi
    unfold qDig at h
    split at h
    · rename_i m
      cases h
      obtain ⟨h0, h1⟩ := of_decide_eq_true hc
      refine entry_pure hs rfl ?_
      have hE : HSim ρ (addBlks .e 0 []) ([] : List Blk).length w := HSim.ins hs.gw (fun i blk hi => by simp at hi)
      have hm : ((m.toNat : Nat) : Int) = m := by omega
      have hP : PrimsOK Tryz.prog (addP Pr 22 (qDig m)) := by
        have := ih m.toNat (by omega) (by omega)
        rw [hm] at this
        exact addP_ok Pr_ok this
      by_cases hlt : m < 10
      · rw [spDigits_lt (by omega), ← dig_row h0 hlt]
        exact calls_pureB hP (c22_T m) ⟨⟨trivial, by simpa using hlt⟩, rfl⟩ hE rfl rfl rfl
      · have hq : Int.tdiv m 10 = ((m.toNat / 10 : Nat) : Int) := by
          rw [Int.tdiv_eq_ediv_of_nonneg h0]; omega
        have hr : Int.tmod m 10 = ((m.toNat % 10 : Nat) : Int) := by
          rw [Int.tmod_eq_emod_of_nonneg h0]; omega
        have hw : IntKind.wrap IntKind.i64 (Int.tdiv m 10) = ((m.toNat / 10 : Nat) : Int) := by rw [hq]; exact IntWalk.i64_in _ (by omega)
        have e : spDigits m.toNat = spDigits (Int.toNat (IntKind.wrap IntKind.i64 (Int.tdiv m 10))) ++ [rowByte [AV.int IntKind.u8 (IntKind.wrap IntKind.u8 (IntKind.wrap IntKind.i64 (48 + Int.tmod m 10)))]] := by
          rw [spDigits_ge (by omega), hw, hr, dig_row (by omega) (by omega)]; rfl
        rw [e]
        have hl := spDigits_len (m.toNat / 10)
        have hl2 : (spDigits (Int.toNat (IntKind.wrap IntKind.i64 (Int.tdiv m 10)))).length + 1 ≤ 9223372036854775807 := by
          rw [hw]; show (spDigits (m.toNat / 10)).length + 1 ≤ _; omega
        have hc1 : (0 : Int) ≤ IntKind.wrap IntKind.i64 (Int.tdiv m 10) ∧ IntKind.wrap IntKind.i64 (Int.tdiv m 10) < m := by rw [hw]; omega
        exact calls_pureB hP (c22_F m) (by simp only [decide_eq_true_eq, decide_eq_false_iff_not, eq_self, and_true, true_and]; exact ⟨⟨⟨⟨hlt, hc1⟩, hl2⟩, hc1⟩, hl2⟩) hE rfl rfl rfl
    · cases h
theorem digits_itoa (n : Nat) : spDigits n = spItoa (n : Int) := by
  have h : ∀ n : Nat, spDigits n = Lib.decDigits n := by
    intro n
    induction n using Nat.strongRecOn with
    | ind n ih =>
      rw [Lib.decDigits]
      by_cases h : n < 10
      · rw [spDigits_lt h, dif_pos h]
      · rw [spDigits_ge h, dif_neg h, ih (n / 10) (by omega)]
  unfold spItoa Lib.itoa
  rw [if_neg (by omega), h]
  rfl
def q22 : Entry := fun args hp nx => match args with
  | [.int .i64 m] => some (decide (0 ≤ m ∧ m < 9223372036854775808), .str (spItoa m), [])
  | _ => none
theorem q22_ok : EntryOK Tryz.prog 22 q22 := by
  intro args hp nx c v bs h hc ρ w hs hi
  unfold q22 at h
  split at h
  · rename_i m
    cases h
    obtain ⟨h0, h1⟩ := of_decide_eq_true hc
    have := qDig22 9223372036854775808 (Nat.le_refl _) [.int .i64 m] hp nx true (.str (spDigits m.toNat)) [] (by show some _ = some _; rw [decide_eq_true (show (0:Int) ≤ m ∧ m < ((9223372036854775808 : Nat) : Int) from ⟨h0, h1⟩)]) rfl ρ w hs hi
    rw [digits_itoa, show ((m.toNat : Nat) : Int) = m by omega] at this
    exact this
  · cases h
def P8 : Prims := addP P7 22 q22
theorem P8_ok : PrimsOK Tryz.prog P8 := addP_ok P7_ok q22_ok
end Go.Proofs.YtpdgmgkkbbndfaaGreatDoor

set_option maxRecDepth 100000
set_option linter.unusedVariables false
set_option linter.unusedSimpArgs false
namespace Go.Proofs.YtpdgmgkkbbndfaaGreatDoor
open Go Go.Proofs Go.Proofs.YtpdgmgkkbbndfaaGreatDoor.SX
theorem c21_ (a : Int) :
    Path (runCallB Tryz.prog P8 100 21 [AV.int IntKind.u32 a] (st0 [] ([]))) 0 [] (SL.mk [] [] 0) (Out.ret (AV.str (spItoa (IntKind.wrap IntKind.i64 (Int.fdiv a (16777216 : Int))) ++ [(46 : UInt8)] ++ spItoa (IntKind.wrap IntKind.i64 (bitsI BinOp.and IntKind.u32 (Int.fdiv a (65536 : Int)) (255 : Int))) ++ [(46 : UInt8)] ++ spItoa (IntKind.wrap IntKind.i64 (bitsI BinOp.and IntKind.u32 (Int.fdiv a (256 : Int)) (255 : Int))) ++ [(46 : UInt8)] ++ spItoa (IntKind.wrap IntKind.i64 (bitsI BinOp.and IntKind.u32 a (255 : Int))))))
      (((((((((((((True ∧ (true = true)) ∧ (decide ((0 : Int) ≤ IntKind.wrap IntKind.i64 (Int.fdiv a (16777216 : Int)) ∧ IntKind.wrap IntKind.i64 (Int.fdiv a (16777216 : Int)) < (9223372036854775808 : Int)) = true)) ∧ (decide (List.length (spItoa (IntKind.wrap IntKind.i64 (Int.fdiv a (16777216 : Int)))) + 1 ≤ 9223372036854775807) = true)) ∧ (true = true)) ∧ (decide ((0 : Int) ≤ IntKind.wrap IntKind.i64 (bitsI BinOp.and IntKind.u32 (Int.fdiv a (65536 : Int)) (255 : Int)) ∧ IntKind.wrap IntKind.i64 (bitsI BinOp.and IntKind.u32 (Int.fdiv a (65536 : Int)) (255 : Int)) < (9223372036854775808 : Int)) = true)) ∧ (decide (List.length (spItoa (IntKind.wrap IntKind.i64 (Int.fdiv a (16777216 : Int))) ++ [(46 : UInt8)]) + List.length (spItoa (IntKind.wrap IntKind.i64 (bitsI BinOp.and IntKind.u32 (Int.fdiv a (65536 : Int)) (255 : Int)))) ≤ 9223372036854775807) = true)) ∧ (decide (List.length (spItoa (IntKind.wrap IntKind.i64 (Int.fdiv a (16777216 : Int))) ++ [(46 : UInt8)] ++ spItoa (IntKind.wrap IntKind.i64 (bitsI BinOp.and IntKind.u32 (Int.fdiv a (65536 : Int)) (255 : Int)))) + 1 ≤ 9223372036854775807) = true)) ∧ (true = true)) ∧ (decide ((0 : Int) ≤ IntKind.wrap IntKind.i64 (bitsI BinOp.and IntKind.u32 (Int.fdiv a (256 : Int)) (255 : Int)) ∧ IntKind.wrap IntKind.i64 (bitsI BinOp.and IntKind.u32 (Int.fdiv a (256 : Int)) (255 : Int)) < (9223372036854775808 : Int)) = true)) ∧ (decide (List.length (spItoa (IntKind.wrap IntKind.i64 (Int.fdiv a (16777216 : Int))) ++ [(46 : UInt8)] ++ spItoa (IntKind.wrap IntKind.i64 (bitsI BinOp.and IntKind.u32 (Int.fdiv a (65536 : Int)) (255 : Int))) ++ [(46 : UInt8)]) + List.length (spItoa (IntKind.wrap IntKind.i64 (bitsI BinOp.and IntKind.u32 (Int.fdiv a (256 : Int)) (255 : Int)))) ≤ 9223372036854775807) = true)) ∧ (decide (List.length (spItoa (IntKind.wrap IntKind.i64 (Int.fdiv a (16777216 : Int))) ++ [(46 : UInt8)] ++ spItoa (IntKind.wrap IntKind.i64 (bitsI BinOp.and IntKind.u32 (Int.fdiv a (65536 : Int)) (255 : Int))) ++ [(46 : UInt8)] ++ spItoa (IntKind.wrap IntKind.i64 (bitsI BinOp.and IntKind.u32 (Int.fdiv a (256 : Int)) (255 : Int)))) + 1 ≤ 9223372036854775807) = true)) ∧ (decide ((0 : Int) ≤ IntKind.wrap IntKind.i64 (bitsI BinOp.and IntKind.u32 a (255 : Int)) ∧ IntKind.wrap IntKind.i64 (bitsI BinOp.and IntKind.u32 a (255 : Int)) < (9223372036854775808 : Int)) = true)) ∧ (decide (List.length (spItoa (IntKind.wrap IntKind.i64 (Int.fdiv a (16777216 : Int))) ++ [(46 : UInt8)] ++ spItoa (IntKind.wrap IntKind.i64 (bitsI BinOp.and IntKind.u32 (Int.fdiv a (65536 : Int)) (255 : Int))) ++ [(46 : UInt8)] ++ spItoa (IntKind.wrap IntKind.i64 (bitsI BinOp.and IntKind.u32 (Int.fdiv a (256 : Int)) (255 : Int))) ++ [(46 : UInt8)]) + List.length (spItoa (IntKind.wrap IntKind.i64 (bitsI BinOp.and IntKind.u32 a (255 : Int)))) ≤ 9223372036854775807) = true)) := by unfold Path; kernel_rfl
theorem and255 {x : Int} (h0 : 0 ≤ x) (h1 : x < 4294967296) : bitsI .and .u32 x 255 = x % 256 := by
  obtain ⟨n, rfl⟩ := Int.eq_ofNat_of_zero_le h0
  unfold bitsI
  show IntKind.wrap .u32 (((BitVec.ofInt 32 (n : Int)) &&& BitVec.ofInt 32 255).toNat : Int) = _
  rw [BitVec.toNat_and]
  have e1 : (BitVec.ofInt 32 (n : Int)).toNat = n := by
    rw [BitVec.toNat_ofInt]; omega
  have e2 : (BitVec.ofInt 32 255).toNat = 2 ^ 8 - 1 := by decide
  rw [e1, e2, Nat.and_two_pow_sub_one_eq_mod, IntKind.wrap_u32]
  omega
theorem oct_top {a : Int} (h0 : 0 ≤ a) (h1 : a < 4294967296) : IntKind.wrap IntKind.i64 (Int.fdiv a 16777216) = octet a 16777216 := by
  unfold octet
  rw [Int.fdiv_eq_ediv_of_nonneg _ (by decide), IntKind.wrap_u8, IntKind.wrap_i64, IntKind.wrap_i64]
  omega
theorem oct_mid {a d : Int} (h0 : 0 ≤ a) (h1 : a < 4294967296) (hd : d = 65536 ∨ d = 256 ∨ d = 1) : IntKind.wrap IntKind.i64 (bitsI BinOp.and IntKind.u32 (Int.fdiv a d) 255) = octet a d := by
  unfold octet
  have e : Int.fdiv a d = a / d := Int.fdiv_eq_ediv_of_nonneg _ (by omega)
  rw [e]
  have hx : 0 ≤ a / d ∧ a / d < 4294967296 := by rcases hd with rfl | rfl | rfl <;> omega
  rw [and255 hx.1 hx.2, IntKind.wrap_u8]
def q21 : Entry := fun args hp nx => match args with
  | [.int .u32 a] => some (decide (0 ≤ a ∧ a < 4294967296), .str (spDotted a), [])
  | _ => none
theorem q21_ok : EntryOK Tryz.prog 21 q21 := by
  intro args hp nx c v bs h hc ρ w hs hi
  unfold q21 at h
  split at h
  · rename_i a
    cases h
    obtain ⟨h0, h1⟩ := of_decide_eq_true hc
    refine entry_pure hs rfl ?_
    have hE : HSim ρ (addBlks .e 0 []) ([] : List Blk).length w := HSim.ins hs.gw (fun i blk hi => by simp at hi)
    have hp := c21_ a
    have e1 := oct_top h0 h1
    have e2 := oct_mid h0 h1 (d := 65536) (.inl rfl)
    have e3 := oct_mid h0 h1 (d := 256) (.inr (.inl rfl))
    have e4 := oct_mid h0 h1 (d := 1) (.inr (.inr rfl))
    rw [show Int.fdiv a 1 = a by rw [Int.fdiv_eq_ediv_of_nonneg _ (by decide)]; omega] at e4
    rw [e1, e2, e3, e4] at hp
    have g1 := octet_range a 16777216; have g2 := octet_range a 65536; have g3 := octet_range a 256; have g4 := octet_range a 1
    have l1 := len_itoa _ (show -9223372036854775808 ≤ octet a 16777216 ∧ octet a 16777216 ≤ 9223372036854775807 by omega)
    have l2 := len_itoa _ (show -9223372036854775808 ≤ octet a 65536 ∧ octet a 65536 ≤ 9223372036854775807 by omega)
    have l3 := len_itoa _ (show -9223372036854775808 ≤ octet a 256 ∧ octet a 256 ≤ 9223372036854775807 by omega)
    have l4 := len_itoa _ (show -9223372036854775808 ≤ octet a 1 ∧ octet a 1 ≤ 9223372036854775807 by omega)
    have e5 : spDotted a = spItoa (octet a 16777216) ++ [46] ++ spItoa (octet a 65536) ++ [46] ++ spItoa (octet a 256) ++ [46] ++ spItoa (octet a 1) := by unfold spDotted; rw [join4]
    rw [e5]
    refine calls_pureB P8_ok hp ?_ hE rfl rfl rfl
    simp only [decide_eq_true_eq, List.length_append, List.length_cons, List.length_nil, eq_self, true_and, and_true]
    omega
  · cases h
def P9 : Prims := addP P8 21 q21
theorem P9_ok : PrimsOK Tryz.prog P9 := addP_ok P8_ok q21_ok
end Go.Proofs.YtpdgmgkkbbndfaaGreatDoor

set_option maxRecDepth 100000
set_option maxHeartbeats 6400000
set_option linter.unusedVariables false
set_option linter.unusedSimpArgs false
namespace Go.Proofs.YtpdgmgkkbbndfaaGreatDoor
open Go Go.Proofs Go.Proofs.YtpdgmgkkbbndfaaGreatDoor.SX Go.RowKit
theorem build_bad {w : World} {start : List UInt8} {hrows brows : List (List AV)} {hv bv : Value} (gw : GW w) (h1 : Reads w [.str, .str] hrows hv) (h2 : Reads w [.int .u8] brows bv)
    (hst : start.length ≤ 4294967200) (hsh : hrows.all short = true) (hbn : brows.length ≤ 140737488355328) (hbad : spRight start hrows brows.length = false) :
    Calls Tryz.prog 24 #[.agg #[.string ⟨start.toArray⟩, hv, bv]] w (fun e w' => e = .returned (.tuple #[.slice none 0 0, .int .i64 4]) ∧ Below w.heap.size w w') := by
  have hr := fun (w1 : World) (hx : Below w.heap.size w w1) => right_reads (gw.ext hx) (h1.ext hx) (h2.ext hx) hst hsh hbn
  go_enter Tryz.func24, Tryz.ntmps24
  go_wp2_with (go_at_call 26; refine (hr _ ?_).mono ?_; refine Hid.out ?_)
  · exact (Below.refl _ w).alloc (Nat.le_refl _) _
  refine Lib.hid ?_
  rintro e W1 ⟨rfl, hx1⟩
  rw [hbad]
  have hsz0 : (w.alloc (.cells #[.string ⟨start.toArray⟩, hv, bv] 25)).heap.size = w.heap.size + 1 := by simp
  have hB1 : Below w.heap.size w W1 := ((Below.refl _ w).alloc (Nat.le_refl _) _).trans (hx1.mono (by rw [hsz0]; omega))
  go_wp2
  go_ret2
  exact ⟨rfl, hB1⟩
def spBuildB (start : List UInt8) (hrows brows : List (List AV)) : List (List AV) :=
  bif spRight start hrows brows.length then byteRows (start ++ [13, 10] ++ hdrText hrows ++ [13, 10]) ++ brows else []
def spBuildE (start : List UInt8) (hrows brows : List (List AV)) : Int := bif spRight start hrows brows.length then 0 else 4
theorem build_calls {w : World} {start : List UInt8} {hrows brows : List (List AV)} {hv bv : Value} (gw : GW w) (h1 : Reads w [.str, .str] hrows hv) (h2 : Reads w [.int .u8] brows bv)
    (hst : start.length ≤ 4294967200) (hsh : hrows.all short = true) (hbn : brows.length ≤ 140737488355328) :
    Calls Tryz.prog 24 #[.agg #[.string ⟨start.toArray⟩, hv, bv]] w (fun e w' => (∃ v, e = .returned (.tuple #[v, .int .i64 (spBuildE start hrows brows)]) ∧ NewSl w.heap.size w' [.int .u8] (spBuildB start hrows brows) v) ∧ Ext w w') := by
  unfold spBuildB spBuildE
  cases h : spRight start hrows brows.length with
  | true => exact build_good gw h1 h2 hst hsh hbn h
  | false =>
    refine (build_bad gw h1 h2 hst hsh hbn h).mono fun e w' hq => ?_
    obtain ⟨rfl, hb⟩ := hq
    exact ⟨⟨_, rfl, NewSl.none (ρ' := fun _ => ⟨0, 0, 0, 0, false⟩) (gw.ext hb) rfl⟩, hb⟩
def q24 : Entry := fun args hp nx => match args with
  | [.agg [.str start, hv, bv]] => match slIn hp [.str, .str] hv, slIn hp [.int .u8] bv with
    | some (c1, hrows), some (c2, brows) =>
      some (c1 && (c2 && decide (start.length ≤ 4294967200 ∧ hrows.all short = true ∧ brows.length ≤ 140737488355328)),
        .tup [.slq nx (spBuildB start hrows brows).length, .int .i64 (spBuildE start hrows brows)], [.cells false [.int .u8] (spBuildB start hrows brows)])
    | _, _ => none
  | _ => none
theorem q24_ok : EntryOK Tryz.prog 24 q24 := by
  intro args hp nx c v bs h hc ρ w hs hi
  unfold q24 at h
  split at h
  · rename_i start hv bv
    split at h
    · rename_i c1 hrows c2 brows hs1 hs2
      cases h
      simp only [Bool.and_eq_true] at hc
      obtain ⟨hc1, hc2, hc3⟩ := hc
      obtain ⟨g1, g2, g3⟩ := of_decide_eq_true hc3
      have hcall := build_calls hs.gw (slIn_spec hs hs1 hc1 rfl) (slIn_spec hs hs2 hc2 rfl) g1 g2 g3
      have ea : (concL ρ [AV.agg [.str start, hv, bv]]).toArray = #[.agg #[.string ⟨start.toArray⟩, conc ρ hv, conc ρ bv]] := rfl
      rw [ea]
      refine hcall.mono fun e w' hq => ?_
      obtain ⟨⟨v, rfl, b1, n1, k1⟩, he⟩ := hq
      have e1 : extB ρ nx [b1] nx = b1 := by have := extB_new ρ nx [b1] 0; simpa using this
      have st := HStep.bis (bs := [Blk.cells false [.int .u8] (spBuildB start hrows brows)]) [b1] hs he (fun i blk hi => by
        match i with
        | 0 => simp at hi; subst hi; exact ⟨rfl, n1, rfl, fun ρ' b hb => (k1 ρ' b hb).2⟩
        | i + 1 => simp at hi)
      refine ⟨_, ?_, ?_, st⟩
      · have h1 := (k1 _ _ e1).1
        simp only [conc, concL] at h1 ⊢
        rw [h1]
      · simp [AV.idsB, idsBL, blt_iff]
    · cases h
  · cases h
def P10 : Prims := addP P9 24 q24
theorem P10_ok : PrimsOK Tryz.prog P10 := addP_ok P9_ok q24_ok
end Go.Proofs.YtpdgmgkkbbndfaaGreatDoor

set_option maxRecDepth 100000
set_option maxHeartbeats 6400000
set_option linter.unusedVariables false
set_option linter.unusedSimpArgs false
namespace Go.Proofs.YtpdgmgkkbbndfaaGreatDoor
open Go Go.Proofs Go.Proofs.YtpdgmgkkbbndfaaGreatDoor.SX
theorem c18_EEE :
    Path (runCallB Tryz.prog P10 100 18 [] (st0 [] ([PI.ev 1, PI.ev 1, PI.ev 1]))) 0 [] (SL.mk [] [] 0) (Out.ret (AV.bool true))
      (((((((((((((((((((((True ∧ (true = true)) ∧ (true = true)) ∧ (true = true)) ∧ (true = true)) ∧ (true = true)) ∧ (true = true)) ∧ (true = true)) ∧ (true = true)) ∧ (true = true)) ∧ (true = true)) ∧ (true = true)) ∧ (true = true)) ∧ (true = true)) ∧ (true = true)) ∧ (true = true)) ∧ (true = true)) ∧ (true = true)) ∧ (true = true)) ∧ (true = true)) ∧ (true = true)) ∧ (true = true)) := by unfold Path; kernel_rfl
def q18 : Entry := fun args hp nx => match args with
  | [] => some (true, .bool true, [])
  | _ => none
theorem q18_ok : EntryOK Tryz.prog 18 q18 := by
  intro args hp nx c v bs h hc ρ w hs hi
  unfold q18 at h
  split at h
  · cases h
    have hE : HSim ρ (addBlks .e 0 []) ([] : List Blk).length w := HSim.ins hs.gw (fun i blk hi => by simp at hi)
    exact entry_pure hs rfl (calls_pureB P10_ok c18_EEE (by simp only [eq_self, and_self]) hE rfl rfl rfl)
  · cases h
def P11 : Prims := addP P10 18 q18
theorem P11_ok : PrimsOK Tryz.prog P11 := addP_ok P10_ok q18_ok
end Go.Proofs.YtpdgmgkkbbndfaaGreatDoor

set_option maxRecDepth 100000
set_option linter.unusedVariables false
set_option linter.unusedSimpArgs false
namespace Go.Proofs.YtpdgmgkkbbndfaaGreatDoor
open Go Go.Proofs Go.Proofs.YtpdgmgkkbbndfaaGreatDoor.SX
def b61I (r1 r2 : List (List AV)) (n m : Nat) (k : Int) : SL := ⟨[(0, .slq 0 n), (1, .slq 1 m), (12, .int .i64 n), (13, .int .i64 k)], [(0, .cells false [.str, .str] r1), (1, .cells false [.str, .str] r2)], 2⟩
theorem b61_TT (r1 : List (List AV)) (r2 : List (List AV)) (n : Nat) (m : Nat) (k : Int) :
    Path (run Tryz.prog P11 100 (lbody Tryz.prog 61 0) (SL.mp 26 ([.as_ true, .as_ true]) (b61I r1 r2 n m k))) 2 [] (SL.mk [(4, AV.lit false)] [] 2) (Ex.ret)
      ((((((((True ∧ (decide (k < (↑n : Int)) = true)) ∧ (decide (0 < n) = true)) ∧ (decide ((0 : Int) ≤ k ∧ k < (↑n : Int)) = true)) ∧ (decide (0 + Int.toNat k < List.length r1) = true)) ∧ (decide (0 < m) = true)) ∧ (decide ((0 : Int) ≤ k ∧ k < (↑m : Int)) = true)) ∧ (decide (0 + Int.toNat k < List.length r2) = true)) ∧ ((!(AV.toStr (List.getD (List.getD r1 (0 + Int.toNat k) []) (0) AV.undef) == AV.toStr (List.getD (List.getD r2 (0 + Int.toNat k) []) (0) AV.undef) && AV.toStr (List.getD (List.getD r1 (0 + Int.toNat k) []) (1) AV.undef) == AV.toStr (List.getD (List.getD r2 (0 + Int.toNat k) []) (1) AV.undef))) = true)) := by unfold Path; kernel_rfl
theorem b61_TF (r1 : List (List AV)) (r2 : List (List AV)) (n : Nat) (m : Nat) (k : Int) :
    Path (run Tryz.prog P11 100 (lbody Tryz.prog 61 0) (SL.mp 26 ([.as_ true, .as_ false]) (b61I r1 r2 n m k))) 2 [] (b61I (r1) (r2) (n) (m) (IntKind.wrap IntKind.i64 (k + (1 : Int)))) (Ex.normal)
      ((((((((True ∧ (decide (k < (↑n : Int)) = true)) ∧ (decide (0 < n) = true)) ∧ (decide ((0 : Int) ≤ k ∧ k < (↑n : Int)) = true)) ∧ (decide (0 + Int.toNat k < List.length r1) = true)) ∧ (decide (0 < m) = true)) ∧ (decide ((0 : Int) ≤ k ∧ k < (↑m : Int)) = true)) ∧ (decide (0 + Int.toNat k < List.length r2) = true)) ∧ ((!(AV.toStr (List.getD (List.getD r1 (0 + Int.toNat k) []) (0) AV.undef) == AV.toStr (List.getD (List.getD r2 (0 + Int.toNat k) []) (0) AV.undef) && AV.toStr (List.getD (List.getD r1 (0 + Int.toNat k) []) (1) AV.undef) == AV.toStr (List.getD (List.getD r2 (0 + Int.toNat k) []) (1) AV.undef))) = false)) := by unfold Path; kernel_rfl
theorem b61_F (r1 : List (List AV)) (r2 : List (List AV)) (n : Nat) (m : Nat) (k : Int) :
    Path (run Tryz.prog P11 100 (lbody Tryz.prog 61 0) (SL.mp 26 ([.as_ false]) (b61I r1 r2 n m k))) 2 [] (SL.mk [] [] 2) (Ex.exit 0)
      (True ∧ (decide (k < (↑n : Int)) = false)) := by unfold Path; kernel_rfl
theorem c61a_T (r1 : List (List AV)) (r2 : List (List AV)) :
    Path (runCallB Tryz.prog P11 100 61 [AV.slq 0 (List.length r1), AV.slq 1 (List.length r2)] (st0 [Blk.cells false [Kd.str, Kd.str] r1, Blk.cells false [Kd.str, Kd.str] r2] ([.as_ true]))) 2 [] (SL.mk [] [] 2) (Out.ret (AV.lit false))
      (True ∧ ((!(↑(List.length r1) : Int) == (↑(List.length r2) : Int)) = true)) := by unfold Path; kernel_rfl
theorem c61a_FL (r1 : List (List AV)) (r2 : List (List AV)) :
    Path (runCallB Tryz.prog P11 100 61 [AV.slq 0 (List.length r1), AV.slq 1 (List.length r2)] (st0 [Blk.cells false [Kd.str, Kd.str] r1, Blk.cells false [Kd.str, Kd.str] r2] ([.as_ false, PI.loop (b61I r1 r2 (List.length r1) (List.length r2) (0 : Int)) Ex.ret (SL.mk [(4, AV.lit false)] [] 2)]))) 2 [] (SL.mk [] [] 2) (Out.ret (AV.lit false))
      ((True ∧ ((!(↑(List.length r1) : Int) == (↑(List.length r2) : Int)) = false)) ∧ (LoopOK Tryz.prog (lbody Tryz.prog 61 0) (26) (SL.mk [(0, AV.slq 0 (List.length r1)), (1, AV.slq 1 (List.length r2)), (12, AV.int IntKind.i64 (↑(List.length r1) : Int)), (13, AV.int IntKind.i64 (0 : Int))] [(0, Blk.cells false [Kd.str, Kd.str] r1), (1, Blk.cells false [Kd.str, Kd.str] r2)] 2) Ex.ret (SL.mk [(4, AV.lit false)] [] 2))) := by unfold Path; kernel_rfl
theorem c61b_FL (r1 : List (List AV)) (r2 : List (List AV)) :
    Path (runCallB Tryz.prog P11 100 61 [AV.slq 0 (List.length r1), AV.slq 1 (List.length r2)] (st0 [Blk.cells false [Kd.str, Kd.str] r1, Blk.cells false [Kd.str, Kd.str] r2] ([.as_ false, PI.loop (b61I r1 r2 (List.length r1) (List.length r2) (0 : Int)) (Ex.exit 0) (SL.mk [] [] 2)]))) 2 [] (SL.mk [] [] 2) (Out.ret (AV.lit true))
      ((True ∧ ((!(↑(List.length r1) : Int) == (↑(List.length r2) : Int)) = false)) ∧ (LoopOK Tryz.prog (lbody Tryz.prog 61 0) (26) (SL.mk [(0, AV.slq 0 (List.length r1)), (1, AV.slq 1 (List.length r2)), (12, AV.int IntKind.i64 (↑(List.length r1) : Int)), (13, AV.int IntKind.i64 (0 : Int))] [(0, Blk.cells false [Kd.str, Kd.str] r1), (1, Blk.cells false [Kd.str, Kd.str] r2)] 2) (Ex.exit 0) (SL.mk [] [] 2))) := by unfold Path; kernel_rfl
theorem c62_ (r1 : List (List AV)) (r2 : List (List AV)) :
    Path (runCallB Tryz.prog P11 100 62 [AV.slq 0 (List.length r1), AV.slq 1 (List.length r2)] (st0 [Blk.cells false [Kd.int IntKind.u8] r1, Blk.cells false [Kd.int IntKind.u8] r2] ([]))) 2 [] (SL.mk [] [] 2) (Out.ret (AV.bool (List.map rowByte (sub r1 0 (List.length r1)) == List.map rowByte (sub r2 0 (List.length r2)))))
      ((True ∧ (decide (0 + List.length r1 ≤ List.length r1) = true)) ∧ (decide (0 + List.length r2 ≤ List.length r2) = true)) := by unfold Path; kernel_rfl
def eqAt (r1 r2 : List (List AV)) (k : Nat) : Bool := hN (r1.getD (0 + k) []) == hN (r2.getD (0 + k) []) && hV (r1.getD (0 + k) []) == hV (r2.getD (0 + k) [])
def spEqH (r1 r2 : List (List AV)) : Bool := decide (r1.length = r2.length) && (List.range r1.length).all (eqAt r1 r2)
theorem eq_next {r1 r2 : List (List AV)} {k : Nat} (he : r1.length = r2.length) (hl : r1.length ≤ 4611686018427387904) (h : k < r1.length) (hk : eqAt r1 r2 k = true) :
    BodyOK Tryz.prog (lbody Tryz.prog 61 0) 26 2 (b61I r1 r2 r1.length r2.length (k : Int)) .normal (b61I r1 r2 r1.length r2.length ((k + 1 : Nat) : Int)) := by
  refine body_by P11_ok (b61_TF r1 r2 r1.length r2.length k) (by rw [succ64 (n := r1.length) h hl]) ?_ rfl
  have e : (!eqAt r1 r2 k) = false := by rw [hk]; rfl
  exact ⟨⟨⟨⟨⟨⟨⟨⟨trivial, decide_eq_true (by omega)⟩, decide_eq_true (by omega)⟩, decide_eq_true (by omega)⟩, decide_eq_true (by omega)⟩, decide_eq_true (by omega)⟩, decide_eq_true (by omega)⟩, decide_eq_true (by omega)⟩, e⟩
theorem eq_bad {r1 r2 : List (List AV)} {k : Nat} (he : r1.length = r2.length) (h : k < r1.length) (hk : eqAt r1 r2 k = false) :
    BodyOK Tryz.prog (lbody Tryz.prog 61 0) 26 2 (b61I r1 r2 r1.length r2.length (k : Int)) .ret ⟨[(4, .lit false)], [], 2⟩ := by
  refine body_by P11_ok (b61_TT r1 r2 r1.length r2.length k) rfl ?_ rfl
  have e : (!eqAt r1 r2 k) = true := by rw [hk]; rfl
  exact ⟨⟨⟨⟨⟨⟨⟨⟨trivial, decide_eq_true (by omega)⟩, decide_eq_true (by omega)⟩, decide_eq_true (by omega)⟩, decide_eq_true (by omega)⟩, decide_eq_true (by omega)⟩, decide_eq_true (by omega)⟩, decide_eq_true (by omega)⟩, e⟩
theorem eq_ret {r1 r2 : List (List AV)} {j : Nat} (he : r1.length = r2.length) (hl : r1.length ≤ 4611686018427387904) (h : firstAt (fun k => !eqAt r1 r2 k) (List.range r1.length) = some j) :
    LoopOK Tryz.prog (lbody Tryz.prog 61 0) 26 (b61I r1 r2 r1.length r2.length 0) .ret ⟨[(4, .lit false)], [], 2⟩ := by
  obtain ⟨hj, h2, h3⟩ := firstAt_some h
  have hj' : j < r1.length := by simpa using hj
  refine loop_rule (E := b61I r1 r2 r1.length r2.length 0) (I := fun k : Nat => b61I r1 r2 r1.length r2.length k) (pre := fun k => k ≤ j) (μ := fun k => j - k) _ _ rfl (fun ρ => by simp [Ex.conc]) ?_ (x0 := 0) (pick := []) (Nat.zero_le _) ⟨by kernel_rfl, map_fst_snd (by kernel_rfl)⟩
  intro k hk
  by_cases hkj : k = j
  · right
    subst hkj
    exact eq_bad he hj' (by simpa using h2)
  · left
    exact ⟨k + 1, by omega, by omega, eq_next he hl (by omega) (by have := h3 k (by omega); simpa using this)⟩
theorem eq_end {r1 r2 : List (List AV)} (he : r1.length = r2.length) (hl : r1.length ≤ 4611686018427387904) (h : firstAt (fun k => !eqAt r1 r2 k) (List.range r1.length) = none) :
    LoopOK Tryz.prog (lbody Tryz.prog 61 0) 26 (b61I r1 r2 r1.length r2.length 0) (.exit 0) ⟨[], [], 2⟩ := by
  have h3 := firstAt_none h
  refine loop_rule (E := b61I r1 r2 r1.length r2.length 0) (I := fun k : Nat => b61I r1 r2 r1.length r2.length k) (pre := fun k => k ≤ r1.length) (μ := fun k => r1.length - k) _ _ rfl (fun ρ => by simp [Ex.conc]) ?_ (x0 := 0) (pick := []) (Nat.zero_le _) ⟨by kernel_rfl, map_fst_snd (by kernel_rfl)⟩
  intro k hk
  by_cases hkl : k < r1.length
  · left
    exact ⟨k + 1, by omega, by omega, eq_next he hl hkl (by have := h3 k (by simpa using hkl); simpa using this)⟩
  · right
    exact body_by P11_ok (b61_F r1 r2 r1.length r2.length k) rfl ⟨trivial, decide_eq_false (by omega)⟩ rfl
def ins61 (ks : List Kd) (r1 r2 : List (List AV)) : List Blk := [Blk.cells false ks r1, Blk.cells false ks r2]
theorem two_in {w : World} {ks : List Kd} {r1 r2 : List (List AV)} {v1 v2 : Value} (hk : noAny ks = true) (gw : GW w) (h1 : Reads w ks r1 v1) (h2 : Reads w ks r2 v2) :
    ∃ ρ0 : Nat → BI, HSim ρ0 (addBlks .e 0 (ins61 ks r1 r2)) (ins61 ks r1 r2).length w ∧ conc ρ0 (.slq 0 r1.length) = v1 ∧ conc ρ0 (.slq 1 r2.length) = v2 := by
  obtain ⟨b1, hb1⟩ := h1.bi gw hk
  obtain ⟨b2, hb2⟩ := h2.bi gw hk
  have hkk : ∀ rows : List (List AV), (Blk.cells false ks rows).idsB 2 = true := fun rows => by
    have : ks.any Kd.isAny = false := by simpa [noAny] using hk
    simp [Blk.idsB, this]
  refine ⟨fun i => if i = 0 then b1 else b2, HSim.ins gw (fun i blk hi => ?_), (hb1 _ 0 rfl).1, (hb2 _ 1 rfl).1⟩
  match i with
  | 0 => simp [ins61] at hi; subst hi; exact ⟨(hb1 _ 0 rfl).2, rfl, hkk r1⟩
  | 1 => simp [ins61] at hi; subst hi; exact ⟨(hb2 _ 1 rfl).2, rfl, hkk r2⟩
  | i + 2 => simp [ins61] at hi
def q61 : Entry := fun args hp nx => match args with
  | [v1, v2] => match slIn hp [.str, .str] v1, slIn hp [.str, .str] v2 with
    | some (c1, r1), some (c2, r2) => some (c1 && (c2 && decide (r1.length ≤ 4611686018427387904)), .bool (spEqH r1 r2), [])
    | _, _ => none
  | _ => none
theorem q61_ok : EntryOK Tryz.prog 61 q61 := by
  intro args hp nx c v bs h hc ρ w hs hi
  unfold q61 at h
  split at h
  · rename_i v1 v2
    split at h
    · rename_i c1 r1 c2 r2 hs1 hs2
      cases h
      simp only [Bool.and_eq_true] at hc
      obtain ⟨hc1, hc2, hc3⟩ := hc
      have hl := of_decide_eq_true hc3
      obtain ⟨ρ0, hE, e1, e2⟩ := two_in rfl hs.gw (slIn_spec hs hs1 hc1 rfl) (slIn_spec hs hs2 hc2 rfl)
      refine entry_pure hs rfl ?_
      have ea : concL ρ0 [AV.slq 0 r1.length, AV.slq 1 r2.length] = concL ρ [v1, v2] := by simp only [concL]; rw [e1, e2]
      rw [← ea]
      by_cases he : r1.length = r2.length
      · have q : (!((r1.length : Nat) : Int) == ((r2.length : Nat) : Int)) = false := by rw [he]; simp
        cases hf : firstAt (fun k => !eqAt r1 r2 k) (List.range r1.length) with
        | some j =>
          have ev : spEqH r1 r2 = false := by
            unfold spEqH
            cases h : (List.range r1.length).all (eqAt r1 r2) with
            | false => simp
            | true => rw [← firstAt_all] at h; rw [h] at hf; cases hf
          rw [ev]
          exact calls_pureB P11_ok (c61a_FL r1 r2) ⟨⟨trivial, q⟩, eq_ret he hl hf⟩ hE rfl rfl rfl
        | none =>
          have ev : spEqH r1 r2 = true := by
            unfold spEqH
            rw [decide_eq_true he, firstAt_all.1 hf]; rfl
          rw [ev]
          exact calls_pureB P11_ok (c61b_FL r1 r2) ⟨⟨trivial, q⟩, eq_end he hl hf⟩ hE rfl rfl rfl
      · have ev : spEqH r1 r2 = false := by unfold spEqH; rw [decide_eq_false he]; rfl
        rw [ev]
        have q : (!((r1.length : Nat) : Int) == ((r2.length : Nat) : Int)) = true := by simp; omega
        exact calls_pureB P11_ok (c61a_T r1 r2) ⟨trivial, q⟩ hE rfl rfl rfl
    · cases h
  · cases h
def q62 : Entry := fun args hp nx => match args with
  | [v1, v2] => match slIn hp [.int .u8] v1, slIn hp [.int .u8] v2 with
    | some (c1, r1), some (c2, r2) => some (c1 && c2, .bool (r1.map rowByte == r2.map rowByte), [])
    | _, _ => none
  | _ => none
theorem q62_ok : EntryOK Tryz.prog 62 q62 := by
  intro args hp nx c v bs h hc ρ w hs hi
  unfold q62 at h
  split at h
  · rename_i v1 v2
    split at h
    · rename_i c1 r1 c2 r2 hs1 hs2
      cases h
      simp only [Bool.and_eq_true] at hc
      obtain ⟨hc1, hc2⟩ := hc
      obtain ⟨ρ0, hE, e1, e2⟩ := two_in rfl hs.gw (slIn_spec hs hs1 hc1 rfl) (slIn_spec hs hs2 hc2 rfl)
      refine entry_pure hs rfl ?_
      have ea : concL ρ0 [AV.slq 0 r1.length, AV.slq 1 r2.length] = concL ρ [v1, v2] := by simp only [concL]; rw [e1, e2]
      rw [← ea]
      have hp := c62_ r1 r2
      rw [sub_all r1 rfl, sub_all r2 rfl] at hp
      exact calls_pureB P11_ok hp ⟨⟨trivial, decide_eq_true (by omega)⟩, decide_eq_true (by omega)⟩ hE rfl rfl rfl
    · cases h
  · cases h
def P12 : Prims := addP (addP P11 61 q61) 62 q62
theorem P12_ok : PrimsOK Tryz.prog P12 := addP_ok (addP_ok P11_ok q61_ok) q62_ok
end Go.Proofs.YtpdgmgkkbbndfaaGreatDoor

set_option maxRecDepth 100000
set_option linter.unusedVariables false
set_option linter.unusedSimpArgs false
namespace Go.Proofs.YtpdgmgkkbbndfaaGreatDoor
open Go Go.Proofs Go.Proofs.YtpdgmgkkbbndfaaGreatDoor.SX
def b31I (s : List UInt8) (i : Int) (n : Nat) (rows : List (List AV)) : SL := ⟨[(0, .str s), (4, .int .i64 i), (3, .sl ⟨0,0,0⟩ n .open_)], [(0, .cells true [.int .u8] rows)], 1⟩
def b31zI (s : List UInt8) : SL := ⟨[(0, .str s), (4, .int .i64 0), (3, .nilSl)], [], 0⟩
theorem b31z_TTTE (s : List UInt8) :
    Path (run Tryz.prog Pr 100 (lbody Tryz.prog 31 0) (SL.mp 29 ([.as_ true, .as_ true, .as_ true, PI.ev 1]) (b31zI s))) 0 [1] (b31I (s) ((1 : Int)) (1) ([[AV.int IntKind.u8 (IntKind.wrap IntKind.u8 (↑(UInt8.toNat (List.getD s 0 (0 : UInt8))) + (32 : Int)))]])) (Ex.normal)
      ((((((True ∧ (decide ((0 : Int) < ↑(List.length s)) = true)) ∧ (decide ((0 : Int) ≤ (0 : Int) ∧ (0 : Int) < ↑(List.length s)) = true)) ∧ (decide (↑(UInt8.toNat (List.getD s 0 (0 : UInt8))) ≥ (65 : Int)) = true)) ∧ (decide (↑(UInt8.toNat (List.getD s 0 (0 : UInt8))) ≤ (90 : Int)) = true)) ∧ (true = true)) ∧ (true = true)) := by unfold Path; kernel_rfl
theorem b31z_TTFE (s : List UInt8) :
    Path (run Tryz.prog Pr 100 (lbody Tryz.prog 31 0) (SL.mp 29 ([.as_ true, .as_ true, .as_ false, PI.ev 1]) (b31zI s))) 0 [1] (b31I (s) ((1 : Int)) (1) ([[AV.int IntKind.u8 ↑(UInt8.toNat (List.getD s 0 (0 : UInt8)))]])) (Ex.normal)
      ((((((True ∧ (decide ((0 : Int) < ↑(List.length s)) = true)) ∧ (decide ((0 : Int) ≤ (0 : Int) ∧ (0 : Int) < ↑(List.length s)) = true)) ∧ (decide (↑(UInt8.toNat (List.getD s 0 (0 : UInt8))) ≥ (65 : Int)) = true)) ∧ (decide (↑(UInt8.toNat (List.getD s 0 (0 : UInt8))) ≤ (90 : Int)) = false)) ∧ (true = true)) ∧ (true = true)) := by unfold Path; kernel_rfl
theorem b31z_TFE (s : List UInt8) :
    Path (run Tryz.prog Pr 100 (lbody Tryz.prog 31 0) (SL.mp 29 ([.as_ true, .as_ false, PI.ev 1]) (b31zI s))) 0 [1] (b31I (s) ((1 : Int)) (1) ([[AV.int IntKind.u8 ↑(UInt8.toNat (List.getD s 0 (0 : UInt8)))]])) (Ex.normal)
      (((((True ∧ (decide ((0 : Int) < ↑(List.length s)) = true)) ∧ (decide ((0 : Int) ≤ (0 : Int) ∧ (0 : Int) < ↑(List.length s)) = true)) ∧ (decide (↑(UInt8.toNat (List.getD s 0 (0 : UInt8))) ≥ (65 : Int)) = false)) ∧ (true = true)) ∧ (true = true)) := by unfold Path; kernel_rfl
theorem b31z_F (s : List UInt8) :
    Path (run Tryz.prog Pr 100 (lbody Tryz.prog 31 0) (SL.mp 29 ([.as_ false]) (b31zI s))) 0 [] (b31zI (s)) (Ex.exit 0)
      (True ∧ (decide ((0 : Int) < ↑(List.length s)) = false)) := by unfold Path; kernel_rfl
theorem b31_TTT (s : List UInt8) (i : Int) (n : Nat) (rows : List (List AV)) :
    Path (run Tryz.prog Pr 100 (lbody Tryz.prog 31 0) (SL.mp 29 ([.as_ true, .as_ true, .as_ true]) (b31I s i n rows))) 0 [2] (b31I (s) (IntKind.wrap IntKind.i64 (i + (1 : Int))) (n + 1) (rows ++ [[AV.int IntKind.u8 (IntKind.wrap IntKind.u8 (↑(UInt8.toNat (List.getD s (Int.toNat i) (0 : UInt8))) + (32 : Int)))]])) (Ex.normal)
      (((((((True ∧ (decide (i < ↑(List.length s)) = true)) ∧ (decide ((0 : Int) ≤ i ∧ i < ↑(List.length s)) = true)) ∧ (decide (↑(UInt8.toNat (List.getD s (Int.toNat i) (0 : UInt8))) ≥ (65 : Int)) = true)) ∧ (decide (↑(UInt8.toNat (List.getD s (Int.toNat i) (0 : UInt8))) ≤ (90 : Int)) = true)) ∧ (true = true)) ∧ (decide (0 = 0 ∧ n = List.length rows) = true)) ∧ (decide ((n + 1) * 1 ≤ 140737488355328) = true)) := by unfold Path; kernel_rfl
theorem b31_TTF (s : List UInt8) (i : Int) (n : Nat) (rows : List (List AV)) :
    Path (run Tryz.prog Pr 100 (lbody Tryz.prog 31 0) (SL.mp 29 ([.as_ true, .as_ true, .as_ false]) (b31I s i n rows))) 0 [2] (b31I (s) (IntKind.wrap IntKind.i64 (i + (1 : Int))) (n + 1) (rows ++ [[AV.int IntKind.u8 ↑(UInt8.toNat (List.getD s (Int.toNat i) (0 : UInt8)))]])) (Ex.normal)
      (((((((True ∧ (decide (i < ↑(List.length s)) = true)) ∧ (decide ((0 : Int) ≤ i ∧ i < ↑(List.length s)) = true)) ∧ (decide (↑(UInt8.toNat (List.getD s (Int.toNat i) (0 : UInt8))) ≥ (65 : Int)) = true)) ∧ (decide (↑(UInt8.toNat (List.getD s (Int.toNat i) (0 : UInt8))) ≤ (90 : Int)) = false)) ∧ (true = true)) ∧ (decide (0 = 0 ∧ n = List.length rows) = true)) ∧ (decide ((n + 1) * 1 ≤ 140737488355328) = true)) := by unfold Path; kernel_rfl
theorem b31_TF (s : List UInt8) (i : Int) (n : Nat) (rows : List (List AV)) :
    Path (run Tryz.prog Pr 100 (lbody Tryz.prog 31 0) (SL.mp 29 ([.as_ true, .as_ false]) (b31I s i n rows))) 0 [2] (b31I (s) (IntKind.wrap IntKind.i64 (i + (1 : Int))) (n + 1) (rows ++ [[AV.int IntKind.u8 ↑(UInt8.toNat (List.getD s (Int.toNat i) (0 : UInt8)))]])) (Ex.normal)
      ((((((True ∧ (decide (i < ↑(List.length s)) = true)) ∧ (decide ((0 : Int) ≤ i ∧ i < ↑(List.length s)) = true)) ∧ (decide (↑(UInt8.toNat (List.getD s (Int.toNat i) (0 : UInt8))) ≥ (65 : Int)) = false)) ∧ (true = true)) ∧ (decide (0 = 0 ∧ n = List.length rows) = true)) ∧ (decide ((n + 1) * 1 ≤ 140737488355328) = true)) := by unfold Path; kernel_rfl
theorem b31_F (s : List UInt8) (i : Int) (n : Nat) (rows : List (List AV)) :
    Path (run Tryz.prog Pr 100 (lbody Tryz.prog 31 0) (SL.mp 29 ([.as_ false]) (b31I s i n rows))) 0 [0] (b31I (s) (i) (n) (rows)) (Ex.exit 0)
      (True ∧ (decide (i < ↑(List.length s)) = false)) := by unfold Path; kernel_rfl
theorem c31_L1 (s : List UInt8) (rows : List (List AV)) :
    Path (runCall Tryz.prog Pr 100 31 [AV.str s] (st0 [] ([PI.loop (b31zI s) (Ex.exit 0) (b31zI s)]))) 0 [] ⟨[], [], 0⟩ (Out.ret (AV.str []))
      (True ∧ (LoopOK Tryz.prog (lbody Tryz.prog 31 0) (29) (SL.mk [(0, AV.str s), (4, AV.int IntKind.i64 (0 : Int)), (3, AV.nilSl)] [] 0) (Ex.exit 0) (SL.mk [(0, AV.str s), (4, AV.int IntKind.i64 (0 : Int)), (3, AV.nilSl)] [] 0))) := by unfold Path; kernel_rfl
theorem c31_L2 (s : List UInt8) (rows : List (List AV)) :
    Path (runCall Tryz.prog Pr 100 31 [AV.str s] (st0 [] ([PI.loop (b31zI s) (Ex.exit 0) (b31I s (↑(List.length s)) (List.length s) rows)]))) 0 [] ⟨[], [], 0⟩ (Out.ret (AV.str (List.map rowByte (sub rows 0 (List.length s)))))
      ((True ∧ (LoopOK Tryz.prog (lbody Tryz.prog 31 0) (29) (SL.mk [(0, AV.str s), (4, AV.int IntKind.i64 (0 : Int)), (3, AV.nilSl)] [] 0) (Ex.exit 0) (SL.mk [(0, AV.str s), (4, AV.int IntKind.i64 ↑(List.length s)), (3, AV.sl (Loc.mk 0 0 0) (List.length s) Cap.open_)] [(0, Blk.cells true [Kd.int IntKind.u8] rows)] 1))) ∧ (decide (0 + List.length s ≤ List.length rows) = true)) := by unfold Path; kernel_rfl
def I31 (s : List UInt8) : Nat → SL
  | 0 => b31zI s
  | k + 1 => b31I s ((k + 1 : Nat) : Int) (k + 1) (lrows s (k + 1))
theorem lower_loop31 (s : List UInt8) (hs : s.length ≤ 140737488355328) : LoopOK Tryz.prog (lbody Tryz.prog 31 0) 29 (I31 s 0) (.exit 0) (I31 s s.length) := by
  refine loop_rule (I := I31 s) (pre := fun k => k ≤ s.length) (μ := fun k => s.length - k) _ _ rfl (fun ρ => by simp [Ex.conc]) ?_ (x0 := 0) (pick := []) (Nat.zero_le _) ⟨by kernel_rfl, map_fst_snd (by kernel_rfl)⟩
  intro k hk
  by_cases h : k < s.length
  · left
    refine ⟨k + 1, by omega, by omega, ?_⟩
    have g := getD_lt h
    have ee : I31 s (k + 1) = b31I s ((k + 1 : Nat) : Int) (k + 1) (lrows s k ++ [[AV.int .u8 (lowerC s[k]).toNat]]) := by rw [← lrows_succ h]; rfl
    rw [ee]
    have hl : (lrows s k).length = k := lrows_length hk
    have w := succ64 h (by omega)
    cases k with
    | zero =>
      by_cases h1 : 65 ≤ s[0].toNat
      · by_cases h2 : s[0].toNat ≤ 90
        · exact body_by Pr_ok (b31z_TTTE s) (by rw [g, lower_up h1 h2]; rfl) (by simp only [decide_eq_true_eq, decide_eq_false_iff_not, g, eq_self, and_true, true_and] <;> omega) rfl
        · exact body_by Pr_ok (b31z_TTFE s) (by rw [g, lower_no (fun x => h2 x.2)]; rfl) (by simp only [decide_eq_true_eq, decide_eq_false_iff_not, g, eq_self, and_true, true_and] <;> omega) rfl
      · exact body_by Pr_ok (b31z_TFE s) (by rw [g, lower_no (fun x => h1 x.1)]; rfl) (by simp only [decide_eq_true_eq, decide_eq_false_iff_not, g, eq_self, and_true, true_and] <;> omega) rfl
    | succ k =>
      by_cases h1 : 65 ≤ s[k + 1].toNat
      · by_cases h2 : s[k + 1].toNat ≤ 90
        · exact body_by Pr_ok (b31_TTT s _ _ _) (by simp only [Int.toNat_natCast, g, lower_up h1 h2, w]) (by simp only [Int.toNat_natCast, decide_eq_true_eq, decide_eq_false_iff_not, g, hl, eq_self, and_true, true_and] <;> omega) rfl
        · exact body_by Pr_ok (b31_TTF s _ _ _) (by simp only [Int.toNat_natCast, g, lower_no (fun x => h2 x.2), w]) (by simp only [Int.toNat_natCast, decide_eq_true_eq, decide_eq_false_iff_not, g, hl, eq_self, and_true, true_and] <;> omega) rfl
      · exact body_by Pr_ok (b31_TF s _ _ _) (by simp only [Int.toNat_natCast, g, lower_no (fun x => h1 x.1), w]) (by simp only [Int.toNat_natCast, decide_eq_true_eq, decide_eq_false_iff_not, g, hl, eq_self, and_true, true_and] <;> omega) rfl
  · right
    have hk' : k = s.length := by omega
    rw [← hk']
    cases k with
    | zero => exact body_by Pr_ok (b31z_F s) rfl (by simp only [decide_eq_true_eq, decide_eq_false_iff_not, eq_self, and_true, true_and] <;> omega) rfl
    | succ k => exact body_by Pr_ok (b31_F s _ _ _) rfl (by simp only [decide_eq_true_eq, decide_eq_false_iff_not, eq_self, and_true, true_and] <;> omega) rfl
def q31 : Entry := fun args hp nx => match args with
  | [.str s] => some (decide (s.length ≤ 140737488355328), .str (lowerS s), [])
  | _ => none
theorem q31_ok : EntryOK Tryz.prog 31 q31 := by
  intro args hp nx c v bs h hc ρ w hs hi
  unfold q31 at h
  split at h
  · rename_i s
    cases h
    have hc := of_decide_eq_true hc
    refine entry_pure hs rfl ?_
    have hl := lower_loop31 s hc
    have h0 : HSim ρ (addBlks .e 0 []) ([] : List Blk).length w := HSim.ins hs.gw (fun i blk hi => by simp at hi)
    cases hn : s.length with
    | zero =>
      rw [hn] at hl
      have : lowerS s = [] := by rw [List.length_eq_zero_iff.1 hn]; rfl
      rw [this]
      exact calls_pure Pr_ok (c31_L1 s []) ⟨trivial, hl⟩ h0 rfl rfl rfl
    | succ k =>
      have e : I31 s s.length = b31I s ((s.length : Nat) : Int) s.length (lrows s s.length) := by rw [hn]; rfl
      rw [e] at hl
      have e2 : lowerS s = List.map rowByte (sub (lrows s s.length) 0 s.length) := by
        rw [sub_all _ (lrows_length (Nat.le_refl _)).symm]
        show _ = List.map rowByte (byteRows _)
        rw [map_rowByte, List.take_length]
      rw [e2]
      exact calls_pure Pr_ok (c31_L2 s (lrows s s.length)) ⟨⟨trivial, hl⟩, by simp [lrows_length]⟩ h0 rfl rfl rfl
  · cases h
end Go.Proofs.YtpdgmgkkbbndfaaGreatDoor

set_option maxRecDepth 100000
set_option linter.unusedVariables false
set_option linter.unusedSimpArgs false
namespace Go.Proofs.YtpdgmgkkbbndfaaGreatDoor
open Go Go.Proofs Go.Proofs.YtpdgmgkkbbndfaaGreatDoor.SX
def b32I (s : List UInt8) (k : Int) : SL := ⟨[(0, .str s), (3, .int .i64 k)], [], 0⟩
theorem b32_TT (s : List UInt8) (k : Int) :
    Path (run Tryz.prog P12 100 (lbody Tryz.prog 32 0) (SL.mp 17 ([.as_ true, .as_ true]) (b32I s k))) 0 [] (SL.mk [(2, AV.lit true)] [] 0) (Ex.ret)
      (((True ∧ (decide (IntKind.wrap IntKind.i64 (k + (15 : Int)) ≤ (↑(List.length s) : Int)) = true)) ∧ (decide ((0 : Int) ≤ k ∧ k ≤ IntKind.wrap IntKind.i64 (k + (15 : Int)) ∧ IntKind.wrap IntKind.i64 (k + (15 : Int)) ≤ (↑(List.length s) : Int)) = true)) ∧ ((sub s (Int.toNat k) (Int.toNat (IntKind.wrap IntKind.i64 (k + (15 : Int))) - Int.toNat k) == [(50 : UInt8), (53 : UInt8), (52 : UInt8), (46 : UInt8), (50 : UInt8), (53 : UInt8), (52 : UInt8), (46 : UInt8), (50 : UInt8), (53 : UInt8), (52 : UInt8), (46 : UInt8), (50 : UInt8), (53 : UInt8), (52 : UInt8)]) = true)) := by unfold Path; kernel_rfl
theorem b32_TF (s : List UInt8) (k : Int) :
    Path (run Tryz.prog P12 100 (lbody Tryz.prog 32 0) (SL.mp 17 ([.as_ true, .as_ false]) (b32I s k))) 0 [] (b32I (s) (IntKind.wrap IntKind.i64 (k + (1 : Int)))) (Ex.normal)
      (((True ∧ (decide (IntKind.wrap IntKind.i64 (k + (15 : Int)) ≤ (↑(List.length s) : Int)) = true)) ∧ (decide ((0 : Int) ≤ k ∧ k ≤ IntKind.wrap IntKind.i64 (k + (15 : Int)) ∧ IntKind.wrap IntKind.i64 (k + (15 : Int)) ≤ (↑(List.length s) : Int)) = true)) ∧ ((sub s (Int.toNat k) (Int.toNat (IntKind.wrap IntKind.i64 (k + (15 : Int))) - Int.toNat k) == [(50 : UInt8), (53 : UInt8), (52 : UInt8), (46 : UInt8), (50 : UInt8), (53 : UInt8), (52 : UInt8), (46 : UInt8), (50 : UInt8), (53 : UInt8), (52 : UInt8), (46 : UInt8), (50 : UInt8), (53 : UInt8), (52 : UInt8)]) = false)) := by unfold Path; kernel_rfl
theorem b32_F (s : List UInt8) (k : Int) :
    Path (run Tryz.prog P12 100 (lbody Tryz.prog 32 0) (SL.mp 17 ([.as_ false]) (b32I s k))) 0 [] (SL.mk [] [] 0) (Ex.exit 0)
      (True ∧ (decide (IntKind.wrap IntKind.i64 (k + (15 : Int)) ≤ (↑(List.length s) : Int)) = false)) := by unfold Path; kernel_rfl
theorem c32a_L (s : List UInt8) :
    Path (runCallB Tryz.prog P12 100 32 [AV.str s] (st0 [] ([PI.loop (b32I s (0 : Int)) Ex.ret (SL.mk [(2, AV.lit true)] [] 0)]))) 0 [] (SL.mk [] [] 0) (Out.ret (AV.lit true))
      (True ∧ (LoopOK Tryz.prog (lbody Tryz.prog 32 0) (17) (SL.mk [(0, AV.str s), (3, AV.int IntKind.i64 (0 : Int))] [] 0) Ex.ret (SL.mk [(2, AV.lit true)] [] 0))) := by unfold Path; kernel_rfl
theorem c32b_L (s : List UInt8) :
    Path (runCallB Tryz.prog P12 100 32 [AV.str s] (st0 [] ([PI.loop (b32I s (0 : Int)) (Ex.exit 0) (SL.mk [] [] 0)]))) 0 [] (SL.mk [] [] 0) (Out.ret (AV.lit false))
      (True ∧ (LoopOK Tryz.prog (lbody Tryz.prog 32 0) (17) (SL.mk [(0, AV.str s), (3, AV.int IntKind.i64 (0 : Int))] [] 0) (Ex.exit 0) (SL.mk [] [] 0))) := by unfold Path; kernel_rfl
def dots : List UInt8 := [50, 53, 52, 46, 50, 53, 52, 46, 50, 53, 52, 46, 50, 53, 52]
def hasAt (s : List UInt8) (k : Nat) : Bool := sub s k 15 == dots
def spHas (s : List UInt8) : Bool := (List.range (s.length - 14)).any (hasAt s)
theorem has_wrap {k n : Nat} (h : k < n - 14) (hl : n ≤ 4611686018427387904) : IntKind.wrap IntKind.i64 ((k : Int) + 15) = ((k + 15 : Nat) : Int) := by
  rw [IntWalk.i64_in _ (by omega)]; omega
theorem has_round {s : List UInt8} (hl : s.length ≤ 4611686018427387904) {k : Nat} (h : k < s.length - 14) :
    (hasAt s k = false → BodyOK Tryz.prog (lbody Tryz.prog 32 0) 17 0 (b32I s (k : Int)) .normal (b32I s ((k + 1 : Nat) : Int))) ∧
    (hasAt s k = true → BodyOK Tryz.prog (lbody Tryz.prog 32 0) 17 0 (b32I s (k : Int)) .ret ⟨[(2, .lit true)], [], 0⟩) := by
  have w := has_wrap h hl
  have e : sub s (Int.toNat (k : Int)) (Int.toNat (IntKind.wrap IntKind.i64 ((k : Int) + 15)) - Int.toNat (k : Int)) = sub s k 15 := by
    rw [w]; simp only [Int.toNat_natCast]; rw [show k + 15 - k = 15 by omega]
  have c1 : decide (IntKind.wrap IntKind.i64 ((k : Int) + 15) ≤ ((s.length : Nat) : Int)) = true := decide_eq_true (by rw [w]; omega)
  have c2 : decide ((0 : Int) ≤ (k : Int) ∧ (k : Int) ≤ IntKind.wrap IntKind.i64 ((k : Int) + 15) ∧ IntKind.wrap IntKind.i64 ((k : Int) + 15) ≤ ((s.length : Nat) : Int)) = true := decide_eq_true (by rw [w]; omega)
  refine ⟨fun hf => ?_, fun ht => ?_⟩
  · exact body_by P12_ok (b32_TF s k) (by rw [succ64 (n := s.length) (by omega) hl]) ⟨⟨⟨trivial, c1⟩, c2⟩, by rw [e]; exact hf⟩ rfl
  · exact body_by P12_ok (b32_TT s k) rfl ⟨⟨⟨trivial, c1⟩, c2⟩, by rw [e]; exact ht⟩ rfl
theorem has_ret {s : List UInt8} (hl : s.length ≤ 4611686018427387904) {j : Nat} (h : firstAt (hasAt s) (List.range (s.length - 14)) = some j) : LoopOK Tryz.prog (lbody Tryz.prog 32 0) 17 (b32I s 0) .ret ⟨[(2, .lit true)], [], 0⟩ := by
  obtain ⟨hj, h2, h3⟩ := firstAt_some h
  have hj' : j < s.length - 14 := by simpa using hj
  refine loop_rule (E := b32I s 0) (I := fun k : Nat => b32I s k) (pre := fun k => k ≤ j) (μ := fun k => j - k) _ _ rfl (fun ρ => by simp [Ex.conc]) ?_ (x0 := 0) (pick := []) (Nat.zero_le _) ⟨by kernel_rfl, map_fst_snd (by kernel_rfl)⟩
  intro k hk
  by_cases hkj : k = j
  · right
    subst hkj
    exact (has_round hl hj').2 (by simpa using h2)
  · left
    exact ⟨k + 1, by omega, by omega, (has_round hl (by omega)).1 (by have := h3 k (by omega); simpa using this)⟩
theorem has_end {s : List UInt8} (hl : s.length ≤ 4611686018427387904) (h : firstAt (hasAt s) (List.range (s.length - 14)) = none) : LoopOK Tryz.prog (lbody Tryz.prog 32 0) 17 (b32I s 0) (.exit 0) ⟨[], [], 0⟩ := by
  have h3 := firstAt_none h
  refine loop_rule (E := b32I s 0) (I := fun k : Nat => b32I s k) (pre := fun k => k ≤ s.length - 14) (μ := fun k => s.length - k) _ _ rfl (fun ρ => by simp [Ex.conc]) ?_ (x0 := 0) (pick := []) (Nat.zero_le _) ⟨by kernel_rfl, map_fst_snd (by kernel_rfl)⟩
  intro k hk
  by_cases hkl : k < s.length - 14
  · left
    exact ⟨k + 1, by omega, by omega, (has_round hl hkl).1 (by have := h3 k (by simpa using hkl); simpa using this)⟩
  · right
    exact body_by P12_ok (b32_F s k) rfl ⟨trivial, decide_eq_false (by rw [IntWalk.i64_in _ (by omega)]; omega)⟩ rfl
def q32 : Entry := fun args hp nx => match args with
  | [.str s] => some (decide (s.length ≤ 4611686018427387904), .bool (spHas s), [])
  | _ => none
theorem q32_ok : EntryOK Tryz.prog 32 q32 := by
  intro args hp nx c v bs h hc ρ w hs hi
  unfold q32 at h
  split at h
  · rename_i s
    cases h
    have hl := of_decide_eq_true hc
    refine entry_pure hs rfl ?_
    have hE : HSim ρ (addBlks .e 0 []) ([] : List Blk).length w := HSim.ins hs.gw (fun i blk hi => by simp at hi)
    cases hf : firstAt (hasAt s) (List.range (s.length - 14)) with
    | some j =>
      obtain ⟨hj, h2, _⟩ := firstAt_some hf
      have ev : spHas s = true := List.any_eq_true.2 ⟨_, List.getElem_mem hj, h2⟩
      rw [ev]
      exact calls_pureB P12_ok (c32a_L s) ⟨trivial, has_ret hl hf⟩ hE rfl rfl rfl
    | none =>
      have h3 := firstAt_none hf
      have ev : spHas s = false := by
        unfold spHas
        rw [List.any_eq_false]
        intro k hk
        obtain ⟨i, hi, rfl⟩ := List.mem_iff_getElem.1 hk
        have := h3 i hi
        rw [this]; decide
      rw [ev]
      exact calls_pureB P12_ok (c32b_L s) ⟨trivial, has_end hl hf⟩ hE rfl rfl rfl
  · cases h
def P13 : Prims := addP (addP P12 32 q32) 31 q31
theorem P13_ok : PrimsOK Tryz.prog P13 := addP_ok (addP_ok P12_ok q32_ok) q31_ok
end Go.Proofs.YtpdgmgkkbbndfaaGreatDoor

set_option maxRecDepth 100000
set_option maxHeartbeats 1600000
set_option linter.unusedVariables false
set_option linter.unusedSimpArgs false
namespace Go.Proofs.YtpdgmgkkbbndfaaGreatDoor
open Go Go.Proofs Go.Proofs.YtpdgmgkkbbndfaaGreatDoor.SX
def b43I (start : List UInt8) (hn bn : Nat) (hrows : List (List AV)) (sz k : Int) : SL := ⟨[(1, .ptr ⟨2, 0, 0⟩), (3, .int .i64 sz), (4, .int .i64 k)], [(0, .cells false [.str, .str] hrows), (2, .cells true [.str, .any, .any] [[.str start, .slq 0 hn, .slq 1 bn]])], 3⟩
theorem b43_TT (start : List UInt8) (hn : Nat) (bn : Nat) (hrows : List (List AV)) (sz : Int) (k : Int) :
    Path (run Tryz.prog P13 100 (lbody Tryz.prog 43 0) (SL.mp 43 ([.as_ true, .as_ true]) (b43I start hn bn hrows sz k))) 3 [] (b43I (start) (hn) (bn) (hrows) (IntKind.wrap IntKind.i64 (sz + IntKind.wrap IntKind.i64 (IntKind.wrap IntKind.i64 ((↑(List.length (AV.toStr (List.getD (List.getD hrows (0 + Int.toNat k) []) (0) AV.undef))) : Int) + (↑(List.length (AV.toStr (List.getD (List.getD hrows (0 + Int.toNat k) []) (1) AV.undef))) : Int)) + (4 : Int)))) (IntKind.wrap IntKind.i64 (k + (1 : Int)))) (Ex.normal)
      (((((((((((True ∧ (true = true)) ∧ (decide (k < (↑hn : Int)) = true)) ∧ (decide (sz ≤ (4096 : Int)) = true)) ∧ (true = true)) ∧ (decide (0 < hn) = true)) ∧ (decide ((0 : Int) ≤ k ∧ k < (↑hn : Int)) = true)) ∧ (decide (0 + Int.toNat k < List.length hrows) = true)) ∧ (true = true)) ∧ (decide (0 < hn) = true)) ∧ (decide ((0 : Int) ≤ k ∧ k < (↑hn : Int)) = true)) ∧ (decide (0 + Int.toNat k < List.length hrows) = true)) := by unfold Path; kernel_rfl
theorem b43_TF (start : List UInt8) (hn : Nat) (bn : Nat) (hrows : List (List AV)) (sz : Int) (k : Int) :
    Path (run Tryz.prog P13 100 (lbody Tryz.prog 43 0) (SL.mp 43 ([.as_ true, .as_ false]) (b43I start hn bn hrows sz k))) 3 [] (SL.mk [(3, AV.int IntKind.i64 sz)] [] 3) (Ex.exit 0)
      (((True ∧ (true = true)) ∧ (decide (k < (↑hn : Int)) = true)) ∧ (decide (sz ≤ (4096 : Int)) = false)) := by unfold Path; kernel_rfl
theorem b43_F (start : List UInt8) (hn : Nat) (bn : Nat) (hrows : List (List AV)) (sz : Int) (k : Int) :
    Path (run Tryz.prog P13 100 (lbody Tryz.prog 43 0) (SL.mp 43 ([.as_ false]) (b43I start hn bn hrows sz k))) 3 [] (SL.mk [(3, AV.int IntKind.i64 sz)] [] 3) (Ex.exit 0)
      ((True ∧ (true = true)) ∧ (decide (k < (↑hn : Int)) = false)) := by unfold Path; kernel_rfl
theorem c43_L (start : List UInt8) (hn : Nat) (bn : Nat) (hrows : List (List AV)) (brows : List (List AV)) (sz : Int) :
    Path (runCallB Tryz.prog P13 100 43 [AV.agg [AV.str start, AV.slq 0 hn, AV.slq 1 bn]] (st0 [Blk.cells false [Kd.str, Kd.str] hrows, Blk.cells false [Kd.int IntKind.u8] brows] ([PI.loop (b43I start hn bn hrows (IntKind.wrap IntKind.i64 (IntKind.wrap IntKind.i64 ((↑(List.length start) : Int) + (4 : Int)) + (↑bn : Int))) (0 : Int)) (Ex.exit 0) (SL.mk [(3, AV.int IntKind.i64 sz)] [] 3)]))) 2 [] (SL.mk [] [] 2) (Out.ret (AV.int IntKind.i64 sz))
      (((True ∧ (true = true)) ∧ (true = true)) ∧ (LoopOK Tryz.prog (lbody Tryz.prog 43 0) (43) (SL.mk [(1, AV.ptr (Loc.mk 2 0 0)), (3, AV.int IntKind.i64 (IntKind.wrap IntKind.i64 (IntKind.wrap IntKind.i64 ((↑(List.length start) : Int) + (4 : Int)) + (↑bn : Int)))), (4, AV.int IntKind.i64 (0 : Int))] [(0, Blk.cells false [Kd.str, Kd.str] hrows), (2, Blk.cells true [Kd.str, Kd.any, Kd.any] [[AV.str start, AV.slq 0 hn, AV.slq 1 bn]])] 3) (Ex.exit 0) (SL.mk [(3, AV.int IntKind.i64 sz)] [] 3))) := by unfold Path; kernel_rfl
def szAt (start : List UInt8) (rows : List (List AV)) (bn k : Nat) : Nat := start.length + 4 + bn + hSize (rows.take k)
def bigAt (start : List UInt8) (rows : List (List AV)) (bn k : Nat) : Bool := decide (4096 < szAt start rows bn k)
def stopAt (start : List UInt8) (rows : List (List AV)) (bn : Nat) : Nat := (firstAt (bigAt start rows bn) (List.range rows.length)).getD rows.length
def spSize (start : List UInt8) (rows : List (List AV)) (bn : Nat) : Nat := szAt start rows bn (stopAt start rows bn)
theorem stop_spec (start : List UInt8) (rows : List (List AV)) (bn : Nat) : stopAt start rows bn ≤ rows.length ∧ (∀ k, k < stopAt start rows bn → szAt start rows bn k ≤ 4096) ∧ (stopAt start rows bn < rows.length → 4096 < spSize start rows bn) := by
  unfold spSize stopAt
  cases h : firstAt (bigAt start rows bn) (List.range rows.length) with
  | some j =>
    obtain ⟨hj, h2, h3⟩ := firstAt_some h
    have hj' : j < rows.length := by simpa using hj
    refine ⟨by simp; omega, fun k hk => ?_, fun _ => ?_⟩
    · have := h3 k (by simpa using hk)
      simp only [List.getElem_range, bigAt, decide_eq_false_iff_not] at this
      omega
    · simp only [List.getElem_range, bigAt, decide_eq_true_eq] at h2
      simpa using h2
  | none =>
    have h3 := firstAt_none h
    refine ⟨by simp, fun k hk => ?_, fun hx => absurd hx (by simp)⟩
    have := h3 k (by simpa using hk)
    simp only [List.getElem_range, bigAt, decide_eq_false_iff_not] at this
    omega
theorem hSize_take_le (rows : List (List AV)) (k : Nat) : hSize (rows.take k) ≤ hSize rows := by
  have : hSize rows = hSize (rows.take k) + hSize (rows.drop k) := by
    unfold hSize
    rw [← List.sum_append, ← List.map_append, List.take_append_drop]
  omega
theorem size_big (start : List UInt8) (rows : List (List AV)) (bn : Nat) : 4096 < spSize start rows bn ↔ 4096 < start.length + 4 + bn + hSize rows := by
  obtain ⟨h1, _, h3⟩ := stop_spec start rows bn
  constructor
  · intro h
    unfold spSize szAt at h
    have := hSize_take_le rows (stopAt start rows bn)
    omega
  · intro h
    by_cases hl : stopAt start rows bn < rows.length
    · exact h3 hl
    · have e : stopAt start rows bn = rows.length := by omega
      unfold spSize szAt
      rw [e, List.take_length]; exact h
def I43 (start : List UInt8) (rows : List (List AV)) (bn k : Nat) : SL := b43I start rows.length bn rows ((szAt start rows bn k : Nat) : Int) (k : Int)
structure SzOK (start : List UInt8) (rows : List (List AV)) (bn : Nat) : Prop where
  st : start.length ≤ 4294967200
  len : rows.length ≤ 1000
  short : rows.all short = true
  bn : bn ≤ 140737488355328
theorem sz_step {start : List UInt8} {rows : List (List AV)} {bn : Nat} (ho : SzOK start rows bn) {k : Nat} (h : k < rows.length) :
    IntKind.wrap IntKind.i64 (((szAt start rows bn k : Nat) : Int) + IntKind.wrap IntKind.i64 (IntKind.wrap IntKind.i64 (((hN rows[k]).length : Int) + ((hV rows[k]).length : Int)) + (4 : Int))) = ((szAt start rows bn (k + 1) : Nat) : Int) := by
  have hsh := short_at ho.short h
  have hsz := hSize_le ho.short k
  have hk9 : k * 8589934404 ≤ 1000 * 8589934404 := Nat.mul_le_mul_right _ (by have := ho.len; omega)
  have h1 := ho.st; have h2 := ho.bn
  unfold szAt
  rw [hSize_succ h]
  unfold hLen
  rw [IntWalk.i64_in (((hN rows[k]).length : Int) + ((hV rows[k]).length : Int)) (by omega), IntWalk.i64_in (((hN rows[k]).length : Int) + ((hV rows[k]).length : Int) + 4) (by omega), IntWalk.i64_in _ (by omega)]
  omega
theorem size_loop {start : List UInt8} {rows : List (List AV)} {bn : Nat} (ho : SzOK start rows bn) :
    LoopOK Tryz.prog (lbody Tryz.prog 43 0) 43 (I43 start rows bn 0) (.exit 0) ⟨[(3, .int .i64 ((spSize start rows bn : Nat) : Int))], [], 3⟩ := by
  obtain ⟨h1, h2, h3⟩ := stop_spec start rows bn
  have hl := ho.len
  refine loop_rule (E := I43 start rows bn 0) (I := fun k : Nat => I43 start rows bn k) (pre := fun k => k ≤ stopAt start rows bn) (μ := fun k => stopAt start rows bn - k) _ _ rfl (fun ρ => by simp [Ex.conc]) ?_ (x0 := 0) (pick := []) (Nat.zero_le _) ⟨by kernel_rfl, map_fst_snd (by kernel_rfl)⟩
  intro k hk
  by_cases hkl : k < stopAt start rows bn
  · left
    refine ⟨k + 1, by omega, by omega, ?_⟩
    have hkr : k < rows.length := by omega
    have h4 := h2 k hkl
    have w := succ64 (n := rows.length) hkr (by omega)
    have c1 : decide ((k : Int) < ((rows.length : Nat) : Int)) = true := decide_eq_true (by omega)
    have c2 : decide (((szAt start rows bn k : Nat) : Int) ≤ (4096 : Int)) = true := decide_eq_true (by omega)
    have c3 : decide (0 < rows.length) = true := decide_eq_true (by omega)
    have c4 : decide ((0 : Int) ≤ (k : Int) ∧ (k : Int) < ((rows.length : Nat) : Int)) = true := decide_eq_true (by omega)
    have c5 : decide (0 + Int.toNat (k : Int) < rows.length) = true := decide_eq_true (by simp; omega)
    refine body_by P13_ok (b43_TT start rows.length bn rows _ _) ?_ ⟨⟨⟨⟨⟨⟨⟨⟨⟨⟨⟨trivial, rfl⟩, c1⟩, c2⟩, rfl⟩, c3⟩, c4⟩, c5⟩, rfl⟩, c3⟩, c4⟩, c5⟩ rfl
    rw [row_at hkr]
    show b43I start rows.length bn rows (IntKind.wrap IntKind.i64 (((szAt start rows bn k : Nat) : Int) + IntKind.wrap IntKind.i64 (IntKind.wrap IntKind.i64 (((hN rows[k]).length : Int) + ((hV rows[k]).length : Int)) + (4 : Int)))) _ = _
    rw [sz_step ho hkr, w]
    rfl
  · right
    have e : k = stopAt start rows bn := by omega
    by_cases hkr : k < rows.length
    · have h5 := h3 (by omega)
      have c1 : decide ((k : Int) < ((rows.length : Nat) : Int)) = true := decide_eq_true (by omega)
      have c2 : decide (((szAt start rows bn k : Nat) : Int) ≤ (4096 : Int)) = false := decide_eq_false (by rw [e]; unfold spSize at h5; omega)
      exact body_by P13_ok (b43_TF start rows.length bn rows _ _) (by rw [e]; rfl) ⟨⟨⟨trivial, rfl⟩, c1⟩, c2⟩ rfl
    · have c1 : decide ((k : Int) < ((rows.length : Nat) : Int)) = false := decide_eq_false (by omega)
      exact body_by P13_ok (b43_F start rows.length bn rows _ _) (by rw [e]; rfl) ⟨⟨trivial, rfl⟩, c1⟩ rfl
theorem msg_ins0 {w : World} {r1 r2 : List (List AV)} {v1 v2 : Value} (gw : GW w) (h1 : Reads w [.str, .str] r1 v1) (h2 : Reads w [.int .u8] r2 v2) :
    ∃ ρ0 : Nat → BI, HSim ρ0 (addBlks .e 0 [Blk.cells false [Kd.str, Kd.str] r1, Blk.cells false [Kd.int IntKind.u8] r2]) ([Blk.cells false [Kd.str, Kd.str] r1, Blk.cells false [Kd.int IntKind.u8] r2] : List Blk).length w ∧ conc ρ0 (.slq 0 r1.length) = v1 ∧ conc ρ0 (.slq 1 r2.length) = v2 := by
  obtain ⟨b1, hb1⟩ := h1.bi gw rfl
  obtain ⟨b2, hb2⟩ := h2.bi gw rfl
  refine ⟨fun i => if i = 0 then b1 else b2, HSim.ins gw (fun i blk hi => ?_), (hb1 _ 0 rfl).1, (hb2 _ 1 rfl).1⟩
  match i with
  | 0 => simp at hi; subst hi; exact ⟨(hb1 _ 0 rfl).2, rfl, rfl⟩
  | 1 => simp at hi; subst hi; exact ⟨(hb2 _ 1 rfl).2, rfl, rfl⟩
  | i + 2 => simp at hi
theorem two_ro {ρ : Nat → BI} {hp : Tr Blk} {nx : Nat} {w : World} {hv bv : AV} {c1 c2 : Bool} {hrows brows : List (List AV)} (hs : HSim ρ hp nx w) (hs1 : slIn hp [.str, .str] hv = some (c1, hrows)) (hc1 : c1 = true) (hs2 : slIn hp [.int .u8] bv = some (c2, brows)) (hc2 : c2 = true) :
    ∃ ρ0 : Nat → BI, HSim ρ0 (addBlks .e 0 [Blk.cells false [Kd.str, Kd.str] hrows, Blk.cells false [Kd.int IntKind.u8] brows]) ([Blk.cells false [Kd.str, Kd.str] hrows, Blk.cells false [Kd.int IntKind.u8] brows] : List Blk).length w ∧ conc ρ0 (.slq 0 hrows.length) = conc ρ hv ∧ conc ρ0 (.slq 1 brows.length) = conc ρ bv :=
  msg_ins0 hs.gw (slIn_spec hs hs1 hc1 rfl) (slIn_spec hs hs2 hc2 rfl)
def q43 : Entry := fun args hp nx => match args with
  | [.agg [.str start, hv, bv]] => match slIn hp [.str, .str] hv, slIn hp [.int .u8] bv with
    | some (c1, hrows), some (c2, brows) => some (c1 && (c2 && decide (start.length ≤ 4294967200 ∧ hrows.all short = true ∧ hrows.length ≤ 1000 ∧ brows.length ≤ 140737488355328)), .int .i64 (spSize start hrows brows.length : Int), [])
    | _, _ => none
  | _ => none
theorem q43_ok : EntryOK Tryz.prog 43 q43 := by
  intro args hp nx c v bs h hc ρ w hs hi
  unfold q43 at h
  split at h
  · rename_i start hv bv
    split at h
    · rename_i c1 hrows c2 brows hs1 hs2
      cases h
      simp only [Bool.and_eq_true] at hc
      obtain ⟨hc1, hc2, hc3⟩ := hc
      obtain ⟨g1, g2, g3, g4⟩ := of_decide_eq_true hc3
      obtain ⟨ρ0, hE, e1, e2⟩ := two_ro hs hs1 hc1 hs2 hc2
      refine entry_pure hs rfl ?_
      have hl := size_loop (start := start) (rows := hrows) (bn := brows.length) ⟨g1, g3, g2, g4⟩
      have hs0 : IntKind.wrap IntKind.i64 (IntKind.wrap IntKind.i64 ((start.length : Int) + 4) + (brows.length : Int)) = ((szAt start hrows brows.length 0 : Nat) : Int) := by
        rw [IntWalk.i64_in ((start.length : Int) + 4) (by omega), IntWalk.i64_in _ (by omega)]
        simp [szAt, hSize]
      unfold I43 at hl
      rw [← hs0] at hl
      have hcall := calls_pureB P13_ok (c43_L start hrows.length brows.length hrows brows ((spSize start hrows brows.length : Nat) : Int)) ⟨⟨⟨trivial, rfl⟩, rfl⟩, hl⟩ hE rfl rfl rfl
      have ea : concL ρ0 [AV.agg [AV.str start, AV.slq 0 hrows.length, AV.slq 1 brows.length]] = concL ρ [AV.agg [.str start, hv, bv]] := by
        show [Value.agg (concL ρ0 [AV.str start, .slq 0 hrows.length, .slq 1 brows.length]).toArray] = _
        simp only [concL]
        rw [e1, e2]
        rfl
      rw [ea] at hcall
      exact hcall
    · cases h
  · cases h
end Go.Proofs.YtpdgmgkkbbndfaaGreatDoor

set_option maxRecDepth 100000
set_option maxHeartbeats 1600000
set_option linter.unusedVariables false
set_option linter.unusedSimpArgs false
namespace Go.Proofs.YtpdgmgkkbbndfaaGreatDoor
open Go Go.Proofs Go.Proofs.YtpdgmgkkbbndfaaGreatDoor.SX
def b14zI (start : List UInt8) (hrows : List (List AV)) (hn bn : Nat) : SL := ⟨[(1, .ptr ⟨2, 0, 0⟩), (2, .ptr ⟨3, 0, 0⟩), (3, .ptr ⟨4, 0, 0⟩), (4, .int .i64 0)], [(0, .cells false [.str, .str] hrows), (2, .cells true [.str, .any, .any] [[.str start, .slq 0 hn, .slq 1 bn]]), (3, .cells true [.str, .any, .any] [[.str [], .nilSl, .nilSl]]), (4, .cells true [.str, .any, .any] [[.str start, .nilSl, .slq 1 bn]])], 5⟩
def b14I (start : List UInt8) (hrows : List (List AV)) (hn bn : Nat) (rows : List (List AV)) (n : Nat) (k : Int) : SL := ⟨[(1, .ptr ⟨2, 0, 0⟩), (2, .ptr ⟨3, 0, 0⟩), (3, .ptr ⟨4, 0, 0⟩), (4, .int .i64 k)], [(0, .cells false [.str, .str] hrows), (2, .cells true [.str, .any, .any] [[.str start, .slq 0 hn, .slq 1 bn]]), (3, .cells true [.str, .any, .any] [[.str [], .nilSl, .nilSl]]), (4, .cells true [.str, .any, .any] [[.str start, .sl ⟨5, 0, 0⟩ n .open_, .slq 1 bn]]), (5, .cells true [.str, .str] rows)], 6⟩
theorem b14z_TEE (start : List UInt8) (hrows : List (List AV)) (hn : Nat) (bn : Nat) :
    Path (run Tryz.prog P13 100 (lbody Tryz.prog 14 0) (SL.mp 40 ([.as_ true, PI.ev 1, PI.ev 1]) (b14zI start hrows hn bn))) 5 [6] (b14I (start) (hrows) (hn) (bn) ([[AV.str (AV.toStr (List.getD (List.getD hrows 0 []) 0 AV.undef)), AV.str (AV.toStr (List.getD (List.getD hrows 0 []) 1 AV.undef))]]) (1) ((1 : Int))) (Ex.normal)
      (((((((((((((((True ∧ (true = true)) ∧ (decide ((0 : Int) < (↑hn : Int)) = true)) ∧ (true = true)) ∧ (true = true)) ∧ (decide (0 < hn) = true)) ∧ (decide ((0 : Int) ≤ (0 : Int) ∧ (0 : Int) < (↑hn : Int)) = true)) ∧ (decide (0 < List.length hrows) = true)) ∧ (true = true)) ∧ (decide (0 < hn) = true)) ∧ (decide ((0 : Int) ≤ (0 : Int) ∧ (0 : Int) < (↑hn : Int)) = true)) ∧ (decide (0 < List.length hrows) = true)) ∧ (true = true)) ∧ (true = true)) ∧ (true = true)) ∧ (true = true)) := by unfold Path; kernel_rfl
theorem b14z_F (start : List UInt8) (hrows : List (List AV)) (hn : Nat) (bn : Nat) :
    Path (run Tryz.prog P13 100 (lbody Tryz.prog 14 0) (SL.mp 40 ([.as_ false]) (b14zI start hrows hn bn))) 5 [] (b14zI (start) (hrows) (hn) (bn)) (Ex.exit 0)
      ((True ∧ (true = true)) ∧ (decide ((0 : Int) < (↑hn : Int)) = false)) := by unfold Path; kernel_rfl
theorem b14_TT (start : List UInt8) (hrows : List (List AV)) (hn : Nat) (bn : Nat) (rows : List (List AV)) (n : Nat) (k : Int) :
    Path (run Tryz.prog P13 100 (lbody Tryz.prog 14 0) (SL.mp 40 ([.as_ true, .as_ true]) (b14I start hrows hn bn rows n k))) 5 [7] (b14I (start) (hrows) (hn) (bn) (rows ++ [[AV.str (AV.toStr (List.getD (List.getD hrows (0 + Int.toNat k) []) (0) AV.undef)), AV.str (AV.toStr (List.getD (List.getD hrows (0 + Int.toNat k) []) (1) AV.undef))]]) (n + 1) (IntKind.wrap IntKind.i64 (k + (1 : Int)))) (Ex.normal)
      (((((((((((((((((True ∧ (true = true)) ∧ (decide (k < (↑hn : Int)) = true)) ∧ (decide (k < (200 : Int)) = true)) ∧ (true = true)) ∧ (true = true)) ∧ (decide (0 < hn) = true)) ∧ (decide ((0 : Int) ≤ k ∧ k < (↑hn : Int)) = true)) ∧ (decide (0 + Int.toNat k < List.length hrows) = true)) ∧ (true = true)) ∧ (decide (0 < hn) = true)) ∧ (decide ((0 : Int) ≤ k ∧ k < (↑hn : Int)) = true)) ∧ (decide (0 + Int.toNat k < List.length hrows) = true)) ∧ (true = true)) ∧ (decide (0 = 0 ∧ n = List.length rows) = true)) ∧ (decide ((n + 1) * 32 ≤ 140737488355328) = true)) ∧ (true = true)) ∧ (true = true)) := by unfold Path; kernel_rfl
theorem b14_F (start : List UInt8) (hrows : List (List AV)) (hn : Nat) (bn : Nat) (rows : List (List AV)) (n : Nat) (k : Int) :
    Path (run Tryz.prog P13 100 (lbody Tryz.prog 14 0) (SL.mp 40 ([.as_ false]) (b14I start hrows hn bn rows n k))) 5 [5] (b14I (start) (hrows) (hn) (bn) (rows) (n) (k)) (Ex.exit 0)
      ((True ∧ (true = true)) ∧ (decide (k < (↑hn : Int)) = false)) := by unfold Path; kernel_rfl
theorem c14z_L (start : List UInt8) (hrows : List (List AV)) (brows : List (List AV)) :
    Path (runCallB Tryz.prog P13 100 14 [AV.agg [AV.str start, AV.slq 0 (List.length hrows), AV.slq 1 (List.length brows)]] (st0 [Blk.cells false [Kd.str, Kd.str] hrows, Blk.cells false [Kd.int IntKind.u8] brows] ([PI.loop (b14zI start hrows (List.length hrows) (List.length brows)) (Ex.exit 0) (b14zI start hrows (List.length hrows) (List.length brows))]))) 2 [] (SL.mk [] [] 2) (Out.ret (AV.agg [AV.str start, AV.nilSl, AV.slq 1 (List.length brows)]))
      (((((((((((((((((True ∧ (true = true)) ∧ (true = true)) ∧ (true = true)) ∧ (true = true)) ∧ (true = true)) ∧ (true = true)) ∧ (true = true)) ∧ (true = true)) ∧ (LoopOK Tryz.prog (lbody Tryz.prog 14 0) (40) (SL.mk [(1, AV.ptr (Loc.mk 2 0 0)), (2, AV.ptr (Loc.mk 3 0 0)), (3, AV.ptr (Loc.mk 4 0 0)), (4, AV.int IntKind.i64 (0 : Int))] [(0, Blk.cells false [Kd.str, Kd.str] hrows), (2, Blk.cells true [Kd.str, Kd.any, Kd.any] [[AV.str start, AV.slq 0 (List.length hrows), AV.slq 1 (List.length brows)]]), (3, Blk.cells true [Kd.str, Kd.any, Kd.any] [[AV.str [], AV.nilSl, AV.nilSl]]), (4, Blk.cells true [Kd.str, Kd.any, Kd.any] [[AV.str start, AV.nilSl, AV.slq 1 (List.length brows)]])] 5) (Ex.exit 0) (SL.mk [(1, AV.ptr (Loc.mk 2 0 0)), (2, AV.ptr (Loc.mk 3 0 0)), (3, AV.ptr (Loc.mk 4 0 0)), (4, AV.int IntKind.i64 (0 : Int))] [(0, Blk.cells false [Kd.str, Kd.str] hrows), (2, Blk.cells true [Kd.str, Kd.any, Kd.any] [[AV.str start, AV.slq 0 (List.length hrows), AV.slq 1 (List.length brows)]]), (3, Blk.cells true [Kd.str, Kd.any, Kd.any] [[AV.str [], AV.nilSl, AV.nilSl]]), (4, Blk.cells true [Kd.str, Kd.any, Kd.any] [[AV.str start, AV.nilSl, AV.slq 1 (List.length brows)]])] 5))) ∧ (true = true)) ∧ (true = true)) ∧ (true = true)) ∧ (true = true)) ∧ (true = true)) ∧ (true = true)) ∧ (true = true)) ∧ (true = true)) := by unfold Path; kernel_rfl
theorem c14_L (start : List UInt8) (hrows : List (List AV)) (brows : List (List AV)) (rows : List (List AV)) (n : Nat) (k : Int) :
    Path (runCallB Tryz.prog P13 100 14 [AV.agg [AV.str start, AV.slq 0 (List.length hrows), AV.slq 1 (List.length brows)]] (st0 [Blk.cells false [Kd.str, Kd.str] hrows, Blk.cells false [Kd.int IntKind.u8] brows] ([PI.loop (b14zI start hrows (List.length hrows) (List.length brows)) (Ex.exit 0) (b14I start hrows (List.length hrows) (List.length brows) rows n k)]))) 2 [5] (SL.mk [] [(2, .cells true [Kd.str, Kd.str] rows)] 3) (Out.ret (ren (sig 2 [5]) (AV.agg [AV.str start, AV.sl (Loc.mk 2 0 0) n Cap.open_, AV.slq 1 (List.length brows)])))
      (((((((((((((((((True ∧ (true = true)) ∧ (true = true)) ∧ (true = true)) ∧ (true = true)) ∧ (true = true)) ∧ (true = true)) ∧ (true = true)) ∧ (true = true)) ∧ (LoopOK Tryz.prog (lbody Tryz.prog 14 0) (40) (SL.mk [(1, AV.ptr (Loc.mk 2 0 0)), (2, AV.ptr (Loc.mk 3 0 0)), (3, AV.ptr (Loc.mk 4 0 0)), (4, AV.int IntKind.i64 (0 : Int))] [(0, Blk.cells false [Kd.str, Kd.str] hrows), (2, Blk.cells true [Kd.str, Kd.any, Kd.any] [[AV.str start, AV.slq 0 (List.length hrows), AV.slq 1 (List.length brows)]]), (3, Blk.cells true [Kd.str, Kd.any, Kd.any] [[AV.str [], AV.nilSl, AV.nilSl]]), (4, Blk.cells true [Kd.str, Kd.any, Kd.any] [[AV.str start, AV.nilSl, AV.slq 1 (List.length brows)]])] 5) (Ex.exit 0) (SL.mk [(1, AV.ptr (Loc.mk 2 0 0)), (2, AV.ptr (Loc.mk 3 0 0)), (3, AV.ptr (Loc.mk 4 0 0)), (4, AV.int IntKind.i64 k)] [(0, Blk.cells false [Kd.str, Kd.str] hrows), (2, Blk.cells true [Kd.str, Kd.any, Kd.any] [[AV.str start, AV.slq 0 (List.length hrows), AV.slq 1 (List.length brows)]]), (3, Blk.cells true [Kd.str, Kd.any, Kd.any] [[AV.str [], AV.nilSl, AV.nilSl]]), (4, Blk.cells true [Kd.str, Kd.any, Kd.any] [[AV.str start, AV.sl (Loc.mk 5 0 0) n Cap.open_, AV.slq 1 (List.length brows)]]), (5, Blk.cells true [Kd.str, Kd.str] rows)] 6))) ∧ (true = true)) ∧ (true = true)) ∧ (true = true)) ∧ (true = true)) ∧ (true = true)) ∧ (true = true)) ∧ (true = true)) ∧ (true = true)) := by unfold Path; kernel_rfl
def nrm (r : List AV) : List AV := [.str (hN r), .str (hV r)]
def spNorm (rows : List (List AV)) : List (List AV) := rows.map nrm
theorem norm_length (rows : List (List AV)) : (spNorm rows).length = rows.length := by simp [spNorm]
def I14 (start : List UInt8) (rows : List (List AV)) (bn : Nat) : Nat → SL
  | 0 => b14zI start rows rows.length bn
  | k + 1 => b14I start rows rows.length bn (spNorm (rows.take (k + 1))) (k + 1) ((k + 1 : Nat) : Int)
theorem norm_succ {rows : List (List AV)} {k : Nat} (h : k < rows.length) : spNorm (rows.take (k + 1)) = spNorm (rows.take k) ++ [[.str (hN rows[k]), .str (hV rows[k])]] := by
  unfold spNorm
  rw [take_snoc h, List.map_append]
  rfl
theorem ref_loop {start : List UInt8} {rows : List (List AV)} (bn : Nat) (hl : rows.length ≤ 200) :
    LoopOK Tryz.prog (lbody Tryz.prog 14 0) 40 (I14 start rows bn 0) (.exit 0) (I14 start rows bn rows.length) := by
  refine loop_rule (I := I14 start rows bn) (pre := fun k => k ≤ rows.length) (μ := fun k => rows.length - k) _ _ rfl (fun ρ => by simp [Ex.conc]) ?_ (x0 := 0) (pick := []) (Nat.zero_le _) ⟨by kernel_rfl, map_fst_snd (by kernel_rfl)⟩
  intro k hk
  by_cases h : k < rows.length
  · left
    refine ⟨k + 1, by omega, by omega, ?_⟩
    have w := succ64 (n := rows.length) h (by omega)
    have hr := row_at h
    have hlen : (spNorm (rows.take k)).length = k := by rw [norm_length, List.length_take]; omega
    cases k with
    | zero =>
      have c1 : decide ((0 : Int) < ((rows.length : Nat) : Int)) = true := decide_eq_true (by omega)
      have c2 : decide (0 < rows.length) = true := decide_eq_true h
      have c3 : decide ((0 : Int) ≤ (0 : Int) ∧ (0 : Int) < ((rows.length : Nat) : Int)) = true := decide_eq_true (by omega)
      refine body_by P13_ok (b14z_TEE start rows rows.length bn) ?_ ⟨⟨⟨⟨⟨⟨⟨⟨⟨⟨⟨⟨⟨⟨⟨trivial, rfl⟩, c1⟩, rfl⟩, rfl⟩, c2⟩, c3⟩, c2⟩, rfl⟩, c2⟩, c3⟩, c2⟩, rfl⟩, rfl⟩, rfl⟩, rfl⟩ rfl
      have hr0 : rows.getD 0 [] = rows[0] := hr
      rw [hr0]
      show _ = b14I start rows rows.length bn (spNorm (rows.take (0 + 1))) (0 + 1) ((0 + 1 : Nat) : Int)
      rw [norm_succ h]
      rfl
    | succ k =>
      have c1 : decide (((k + 1 : Nat) : Int) < ((rows.length : Nat) : Int)) = true := decide_eq_true (by omega)
      have c2 : decide (((k + 1 : Nat) : Int) < (200 : Int)) = true := decide_eq_true (by omega)
      have c3 : decide (0 < rows.length) = true := decide_eq_true (by omega)
      have c4 : decide ((0 : Int) ≤ ((k + 1 : Nat) : Int) ∧ ((k + 1 : Nat) : Int) < ((rows.length : Nat) : Int)) = true := decide_eq_true (by omega)
      have c5 : decide (0 + Int.toNat ((k + 1 : Nat) : Int) < rows.length) = true := decide_eq_true (by simp only [Int.toNat_natCast]; omega)
      have c6 : decide (0 = 0 ∧ k + 1 = (spNorm (rows.take (k + 1))).length) = true := decide_eq_true ⟨rfl, hlen.symm⟩
      have c7 : decide ((k + 1 + 1) * 32 ≤ 140737488355328) = true := decide_eq_true (by omega)
      refine body_by P13_ok (b14_TT start rows rows.length bn _ _ _) ?_ ⟨⟨⟨⟨⟨⟨⟨⟨⟨⟨⟨⟨⟨⟨⟨⟨⟨trivial, rfl⟩, c1⟩, c2⟩, rfl⟩, rfl⟩, c3⟩, c4⟩, c5⟩, rfl⟩, c3⟩, c4⟩, c5⟩, rfl⟩, c6⟩, c7⟩, rfl⟩, rfl⟩ rfl
      rw [hr, w]
      show b14I start rows rows.length bn (spNorm (rows.take (k + 1)) ++ [[AV.str (hN rows[k + 1]), AV.str (hV rows[k + 1])]]) _ _ = _
      rw [← norm_succ h]
      rfl
  · right
    have hk' : k = rows.length := by omega
    have c1 : decide (((k : Nat) : Int) < ((rows.length : Nat) : Int)) = false := decide_eq_false (by omega)
    rw [← hk']
    cases k with
    | zero => exact body_by P13_ok (b14z_F start rows rows.length bn) rfl ⟨⟨trivial, rfl⟩, c1⟩ rfl
    | succ k => exact body_by P13_ok (b14_F start rows rows.length bn _ _ _) rfl ⟨⟨trivial, rfl⟩, c1⟩ rfl
theorem ro_two (r1 r2 : List (List AV)) : ∀ c k, (addBlks .e 0 [Blk.cells false [Kd.str, Kd.str] r1, Blk.cells false [Kd.int IntKind.u8] r2]).get c = some k → k.isRw = false := by
  intro c k hk
  rw [addBlks_get] at hk
  split at hk
  · have := List.mem_of_getElem? hk
    simp only [List.mem_cons, List.not_mem_nil, or_false] at this
    rcases this with rfl | rfl <;> rfl
  · cases c <;> cases hk
theorem ref_calls {start : List UInt8} {hrows brows : List (List AV)} {ρ : Nat → BI} {w : World} (hE : HSim ρ (addBlks .e 0 [Blk.cells false [Kd.str, Kd.str] hrows, Blk.cells false [Kd.int IntKind.u8] brows]) ([Blk.cells false [Kd.str, Kd.str] hrows, Blk.cells false [Kd.int IntKind.u8] brows] : List Blk).length w) (hl : hrows.length ≤ 200) :
    Calls Tryz.prog 14 (concL ρ [.agg [.str start, .slq 0 hrows.length, .slq 1 brows.length]]).toArray w (fun e w' => (∃ v, e = .returned (.agg #[.string ⟨start.toArray⟩, v, conc ρ (.slq 1 brows.length)]) ∧ NewSl w.heap.size w' [.str, .str] (spNorm hrows) v) ∧ Ext w w') := by
  have hL := ref_loop (start := start) (rows := hrows) brows.length hl
  by_cases hn : hrows.length = 0
  · have e0 : hrows = [] := List.length_eq_zero_iff.1 hn
    have hL' : LoopOK Tryz.prog (lbody Tryz.prog 14 0) 40 (b14zI start hrows hrows.length brows.length) (.exit 0) (b14zI start hrows hrows.length brows.length) := by
      subst e0; exact hL
    refine (calls_pureB P13_ok (c14z_L start hrows brows) ⟨⟨⟨⟨⟨⟨⟨⟨⟨⟨⟨⟨⟨⟨⟨⟨⟨trivial, rfl⟩, rfl⟩, rfl⟩, rfl⟩, rfl⟩, rfl⟩, rfl⟩, rfl⟩, hL'⟩, rfl⟩, rfl⟩, rfl⟩, rfl⟩, rfl⟩, rfl⟩, rfl⟩, rfl⟩ hE rfl rfl rfl).mono fun e w' hq => ?_
    obtain ⟨rfl, he⟩ := hq
    refine ⟨⟨_, rfl, ?_⟩, he⟩
    rw [e0]
    exact NewSl.none (ρ' := ρ) (hE.gw.ext he) rfl
  · obtain ⟨k, hn⟩ := Nat.exists_eq_succ_of_ne_zero hn
    have e : I14 start hrows brows.length hrows.length = b14I start hrows hrows.length brows.length (spNorm hrows) hrows.length (hrows.length : Int) := by
      have h9 : I14 start hrows brows.length (k + 1) = b14I start hrows hrows.length brows.length (spNorm (hrows.take (k + 1))) (k + 1) ((k + 1 : Nat) : Int) := rfl
      have h8 : I14 start hrows brows.length hrows.length = I14 start hrows brows.length (k + 1) := congrArg _ hn
      rw [h8, h9, List.take_of_length_le (by omega), ← Nat.succ_eq_add_one, ← hn]
    rw [e] at hL
    have hL' : LoopOK Tryz.prog (lbody Tryz.prog 14 0) 40 (b14zI start hrows hrows.length brows.length) (.exit 0) (b14I start hrows hrows.length brows.length (spNorm hrows) hrows.length (hrows.length : Int)) := hL
    refine (calls_ofB P13_ok (c14_L start hrows brows (spNorm hrows) hrows.length (hrows.length : Int)) ⟨⟨⟨⟨⟨⟨⟨⟨⟨⟨⟨⟨⟨⟨⟨⟨⟨trivial, rfl⟩, rfl⟩, rfl⟩, rfl⟩, rfl⟩, rfl⟩, rfl⟩, rfl⟩, hL'⟩, rfl⟩, rfl⟩, rfl⟩, rfl⟩, rfl⟩, rfl⟩, rfl⟩, rfl⟩ hE rfl).mono fun e w' hq => ?_
    obtain ⟨ρ', rfl, st⟩ := hq
    have hro : ∀ c k, (addBlks .e 0 [Blk.cells false [Kd.str, Kd.str] hrows, Blk.cells false [Kd.int IntKind.u8] brows]).get c = some k → k.isRw = false := ro_two hrows brows
    refine ⟨⟨conc ρ' (.sl ⟨2, 0, 0⟩ hrows.length .open_), ?_, NewSl.of_rw st (by rw [ofList_cons, if_pos rfl]) hro rfl (norm_length hrows).symm⟩, st.below hro⟩
    have h1 : conc ρ' (.slq 1 brows.length) = conc ρ (.slq 1 brows.length) := conc_agree st.agree _ rfl
    rw [← h1]
    rfl
def q14 : Entry := fun args hp nx => match args with
  | [.agg [.str start, hv, bv]] => match slIn hp [.str, .str] hv, slIn hp [.int .u8] bv with
    | some (c1, hrows), some (c2, brows) => some (c1 && (c2 && (decide (hrows.length ≤ 200) && bv.idsB nx)), .agg [.str start, .slq nx (spNorm hrows).length, bv], [.cells false [.str, .str] (spNorm hrows)])
    | _, _ => none
  | _ => none
theorem q14_ok : EntryOK Tryz.prog 14 q14 := by
  intro args hp nx c v bs h hc ρ w hs hi
  unfold q14 at h
  split at h
  · rename_i start hv bv
    split at h
    · rename_i c1 hrows c2 brows hs1 hs2
      cases h
      simp only [Bool.and_eq_true] at hc
      obtain ⟨hc1, hc2, hc3, hbi⟩ := hc
      obtain ⟨ρ0, hE, e1, e2⟩ := two_ro hs hs1 hc1 hs2 hc2
      have hcall := ref_calls (start := start) hE (of_decide_eq_true hc3)
      have ea : concL ρ0 [AV.agg [AV.str start, AV.slq 0 hrows.length, AV.slq 1 brows.length]] = concL ρ [AV.agg [.str start, hv, bv]] := by
        show [Value.agg (concL ρ0 [AV.str start, .slq 0 hrows.length, .slq 1 brows.length]).toArray] = _
        simp only [concL]
        rw [e1, e2]
        rfl
      rw [ea, e2] at hcall
      refine hcall.mono fun e w' hq => ?_
      obtain ⟨⟨v, rfl, b1, n1, k1⟩, he⟩ := hq
      have x1 : extB ρ nx [b1] nx = b1 := by have := extB_new ρ nx [b1] 0; simpa using this
      have st := HStep.bis (bs := [Blk.cells false [.str, .str] (spNorm hrows)]) [b1] hs he (fun i blk hi => by
        match i with
        | 0 => simp at hi; subst hi; exact ⟨rfl, n1, rfl, fun ρ' b hb => (k1 ρ' b hb).2⟩
        | i + 1 => simp at hi)
      refine ⟨_, ?_, ?_, st⟩
      · have h1 := (k1 _ _ x1).1
        have h2 : conc (extB ρ nx [b1]) bv = conc ρ bv := conc_agree st.agree _ hbi
        simp only [conc, concL] at h1 ⊢
        rw [h1, h2]
      · have h3 := idsB_mono (Nat.le_succ nx) bv hbi
        simp only [AV.idsB, idsBL, Bool.and_true, Bool.true_and, Bool.and_eq_true]
        exact ⟨(blt_iff _ _).2 (Nat.lt_succ_self _), h3⟩
    · cases h
  · cases h
end Go.Proofs.YtpdgmgkkbbndfaaGreatDoor

set_option maxRecDepth 100000
set_option linter.unusedVariables false
set_option linter.unusedSimpArgs false
namespace Go.Proofs.YtpdgmgkkbbndfaaGreatDoor
open Go Go.Proofs Go.Proofs.YtpdgmgkkbbndfaaGreatDoor.SX
def b42I (s : List UInt8) (i : Int) : SL := ⟨[(0, .str s), (3, .int .i64 i)], [], 0⟩
theorem b42_TT (s : List UInt8) (i : Int) :
    Path (run Tryz.prog Pr 100 (lbody Tryz.prog 42 0) (SL.mp 20 ([.as_ true, .as_ true]) (b42I s i))) 0 [] (addT (b42I (s) (i)) [(2, AV.lit false)]) (Ex.ret)
      (((True ∧ (decide (i < ↑(List.length s)) = true)) ∧ (decide ((0 : Int) ≤ i ∧ i < ↑(List.length s)) = true)) ∧ ((↑(UInt8.toNat (List.getD s (Int.toNat i) (0 : UInt8))) == (13 : Int)) = true)) := by unfold Path; kernel_rfl
theorem b42_TFT (s : List UInt8) (i : Int) :
    Path (run Tryz.prog Pr 100 (lbody Tryz.prog 42 0) (SL.mp 20 ([.as_ true, .as_ false, .as_ true]) (b42I s i))) 0 [] (addT (b42I (s) (i)) [(2, AV.lit false)]) (Ex.ret)
      (((((True ∧ (decide (i < ↑(List.length s)) = true)) ∧ (decide ((0 : Int) ≤ i ∧ i < ↑(List.length s)) = true)) ∧ ((↑(UInt8.toNat (List.getD s (Int.toNat i) (0 : UInt8))) == (13 : Int)) = false)) ∧ (decide ((0 : Int) ≤ i ∧ i < ↑(List.length s)) = true)) ∧ ((↑(UInt8.toNat (List.getD s (Int.toNat i) (0 : UInt8))) == (10 : Int)) = true)) := by unfold Path; kernel_rfl
theorem b42_TFF (s : List UInt8) (i : Int) :
    Path (run Tryz.prog Pr 100 (lbody Tryz.prog 42 0) (SL.mp 20 ([.as_ true, .as_ false, .as_ false]) (b42I s i))) 0 [] (b42I (s) (IntKind.wrap IntKind.i64 (i + (1 : Int)))) (Ex.normal)
      (((((True ∧ (decide (i < ↑(List.length s)) = true)) ∧ (decide ((0 : Int) ≤ i ∧ i < ↑(List.length s)) = true)) ∧ ((↑(UInt8.toNat (List.getD s (Int.toNat i) (0 : UInt8))) == (13 : Int)) = false)) ∧ (decide ((0 : Int) ≤ i ∧ i < ↑(List.length s)) = true)) ∧ ((↑(UInt8.toNat (List.getD s (Int.toNat i) (0 : UInt8))) == (10 : Int)) = false)) := by unfold Path; kernel_rfl
theorem b42_F (s : List UInt8) (i : Int) :
    Path (run Tryz.prog Pr 100 (lbody Tryz.prog 42 0) (SL.mp 20 ([.as_ false]) (b42I s i))) 0 [] (b42I (s) (i)) (Ex.exit 0)
      (True ∧ (decide (i < ↑(List.length s)) = false)) := by unfold Path; kernel_rfl
theorem c42_L1 (s : List UInt8) (j : Int) :
    Path (runCallB Tryz.prog Pr 100 42 [AV.str s] (st0 [] ([PI.loop (b42I s (0 : Int)) Ex.ret (addT (b42I s j) [(2, AV.lit false)])]))) 0 [] ⟨[], [], 0⟩ (Out.ret (AV.lit false))
      (True ∧ (LoopOK Tryz.prog (lbody Tryz.prog 42 0) (20) (SL.mk [(0, AV.str s), (3, AV.int IntKind.i64 (0 : Int))] [] 0) Ex.ret (SL.mk [(0, AV.str s), (3, AV.int IntKind.i64 j), (2, AV.lit false)] [] (0)))) := by unfold Path; kernel_rfl
theorem c42_L2 (s : List UInt8) (j : Int) :
    Path (runCallB Tryz.prog Pr 100 42 [AV.str s] (st0 [] ([PI.loop (b42I s (0 : Int)) (Ex.exit 0) (b42I s j)]))) 0 [] ⟨[], [], 0⟩ (Out.ret (AV.lit true))
      (True ∧ (LoopOK Tryz.prog (lbody Tryz.prog 42 0) (20) (SL.mk [(0, AV.str s), (3, AV.int IntKind.i64 (0 : Int))] [] 0) (Ex.exit 0) (SL.mk [(0, AV.str s), (3, AV.int IntKind.i64 j)] [] 0))) := by unfold Path; kernel_rfl
def okC (c : UInt8) : Bool := !(c.toNat == 13) && !(c.toNat == 10)
def spPlain (s : List UInt8) : Bool := s.all okC
theorem okC_t {c : UInt8} (h : okC c = true) : ((c.toNat : Int) == 13) = false ∧ ((c.toNat : Int) == 10) = false := by
  simp only [okC, Bool.and_eq_true, Bool.not_eq_true', beq_eq_false_iff_ne] at h
  simp only [beq_eq_false_iff_ne]; omega
theorem plain_t (s : List UInt8) (hs : s.length ≤ 4611686018427387904) (hp : spPlain s = true) : LoopOK Tryz.prog (lbody Tryz.prog 42 0) 20 (b42I s 0) (.exit 0) (b42I s s.length) := by
  refine loop_rule (I := fun k : Nat => b42I s k) (pre := fun k => k ≤ s.length) (μ := fun k => s.length - k) _ _ rfl (fun ρ => by simp [Ex.conc]) ?_ (x0 := 0) (pick := []) (Nat.zero_le _) ⟨by kernel_rfl, map_fst_snd (by kernel_rfl)⟩
  intro k hk
  by_cases h : k < s.length
  · left
    refine ⟨k + 1, by omega, by omega, ?_⟩
    obtain ⟨o1, o2⟩ := okC_t (List.all_eq_true.1 hp s[k] (List.getElem_mem h))
    exact body_by Pr_ok (b42_TFF s k) (by rw [succ64 h hs]) (by simp only [Int.toNat_natCast, getD_lt h, o1, o2, decide_eq_true_eq, eq_self, and_true, true_and] <;> omega) rfl
  · right
    have : k = s.length := by omega
    subst this
    exact body_by Pr_ok (b42_F s _) rfl (by simp only [decide_eq_false_iff_not, true_and] <;> omega) rfl
theorem plain_f (s : List UInt8) (hs : s.length ≤ 4611686018427387904) (hp : spPlain s = false) : ∃ j : Nat, LoopOK Tryz.prog (lbody Tryz.prog 42 0) 20 (b42I s 0) .ret (addT (b42I s (j : Int)) [(2, .lit false)]) := by
  obtain ⟨j, hj, h1, h2⟩ := first_bad hp
  refine ⟨j, loop_rule (I := fun k : Nat => b42I s k) (pre := fun k => k ≤ j) (μ := fun k => j - k) _ _ rfl (fun ρ => by simp [Ex.conc]) ?_ (x0 := 0) (pick := []) (Nat.zero_le _) ⟨by kernel_rfl, map_fst_snd (by kernel_rfl)⟩⟩
  intro k hk
  by_cases h : k < j
  · left
    have hkl : k < s.length := by omega
    refine ⟨k + 1, by omega, by omega, ?_⟩
    obtain ⟨o1, o2⟩ := okC_t (h2 k h)
    exact body_by Pr_ok (b42_TFF s k) (by rw [succ64 hkl hs]) (by simp only [Int.toNat_natCast, getD_lt hkl, o1, o2, decide_eq_true_eq, eq_self, and_true, true_and] <;> omega) rfl
  · right
    have : k = j := by omega
    subst this
    cases o1 : ((s[k].toNat : Int) == 13) with
    | true => exact body_by Pr_ok (b42_TT s k) rfl (by simp only [Int.toNat_natCast, getD_lt hj, o1, decide_eq_true_eq, eq_self, and_true, true_and] <;> omega) rfl
    | false =>
      have o2 : ((s[k].toNat : Int) == 10) = true := by
        simp only [okC, Bool.and_eq_false_iff, Bool.not_eq_false', beq_iff_eq] at h1
        simp only [beq_eq_false_iff_ne] at o1
        simp only [beq_iff_eq]; omega
      exact body_by Pr_ok (b42_TFT s k) rfl (by simp only [Int.toNat_natCast, getD_lt hj, o1, o2, decide_eq_true_eq, eq_self, and_true, true_and] <;> omega) rfl
def q42 : Entry := fun args hp nx => match args with
  | [.str s] => some (decide (s.length ≤ 4611686018427387904), .bool (spPlain s), [])
  | _ => none
theorem q42_ok : EntryOK Tryz.prog 42 q42 := by
  intro args hp nx c v bs h hc ρ w hs hi
  unfold q42 at h
  split at h
  · rename_i s
    cases h
    have hc := of_decide_eq_true hc
    refine entry_pure hs rfl ?_
    have hE : HSim ρ (addBlks .e 0 []) ([] : List Blk).length w := HSim.ins hs.gw (fun i blk hi => by simp at hi)
    cases hf : spPlain s with
    | false =>
      obtain ⟨j, hl⟩ := plain_f s hc hf
      exact calls_pureB Pr_ok (c42_L1 s j) ⟨trivial, hl⟩ hE rfl rfl rfl
    | true => exact calls_pureB Pr_ok (c42_L2 s _) ⟨trivial, plain_t s hc hf⟩ hE rfl rfl rfl
  · cases h
end Go.Proofs.YtpdgmgkkbbndfaaGreatDoor

set_option maxRecDepth 100000
set_option maxHeartbeats 1600000
set_option linter.unusedVariables false
set_option linter.unusedSimpArgs false
namespace Go.Proofs.YtpdgmgkkbbndfaaGreatDoor
open Go Go.Proofs Go.Proofs.YtpdgmgkkbbndfaaGreatDoor.SX
def P14 : Prims := addP (addP (addP (addP (addP (addP P13 38 q38) 41 (qDig 9223372036854775808)) 42 q42) 44 q44) 43 q43) 14 q14
theorem P14_ok : PrimsOK Tryz.prog P14 := addP_ok (addP_ok (addP_ok (addP_ok (addP_ok (addP_ok P13_ok q38_ok) (qDig41 _ (Nat.le_refl _))) q42_ok) q44_ok) q43_ok) q14_ok
def b20I (start : List UInt8) (hn bn : Nat) (hrows : List (List AV)) (ln k : Int) : SL := ⟨[(1, .ptr ⟨2, 0, 0⟩), (3, .int .i64 ln), (4, .int .i64 k)], [(0, .cells false [.str, .str] hrows), (2, .cells true [.str, .any, .any] [[.str start, .slq 0 hn, .slq 1 bn]])], 3⟩
def b20k0 (start : List UInt8) (hn bn : Nat) (hrows : List (List AV)) (ln k : Int) : Bool := decide (k < (↑hn : Int))
def b20k1 (start : List UInt8) (hn bn : Nat) (hrows : List (List AV)) (ln k : Int) : Bool := decide (0 < hn)
def b20k2 (start : List UInt8) (hn bn : Nat) (hrows : List (List AV)) (ln k : Int) : Bool := decide ((0 : Int) ≤ k ∧ k < (↑hn : Int))
def b20k3 (start : List UInt8) (hn bn : Nat) (hrows : List (List AV)) (ln k : Int) : Bool := decide (0 + Int.toNat k < List.length hrows)
def b20k4 (start : List UInt8) (hn bn : Nat) (hrows : List (List AV)) (ln k : Int) : Bool := decide (List.length (AV.toStr (List.getD (List.getD hrows (0 + Int.toNat k) []) (0) AV.undef)) ≤ 4611686018427387904)
def b20k5 (start : List UInt8) (hn bn : Nat) (hrows : List (List AV)) (ln k : Int) : Bool := !spName (AV.toStr (List.getD (List.getD hrows (0 + Int.toNat k) []) (0) AV.undef))
theorem b20_TT (start : List UInt8) (hn : Nat) (bn : Nat) (hrows : List (List AV)) (ln : Int) (k : Int) :
    Path (run Tryz.prog P14 100 (lbody Tryz.prog 20 0) (SL.mp 81 ([pT, pT]) (b20I start hn bn hrows ln k))) 3 [] (SL.mk [(2, AV.lit false)] [] 3) (Ex.ret)
      (((((((((((((True ∧ true = true) ∧ b20k0 start hn bn hrows ln k = true) ∧ true = true) ∧ b20k1 start hn bn hrows ln k = true) ∧ b20k2 start hn bn hrows ln k = true) ∧ b20k3 start hn bn hrows ln k = true) ∧ true = true) ∧ true = true) ∧ true = true) ∧ true = true) ∧ true = true) ∧ b20k4 start hn bn hrows ln k = true) ∧ b20k5 start hn bn hrows ln k = true) := by unfold Path; kernel_rfl
def b20k6 (start : List UInt8) (hn bn : Nat) (hrows : List (List AV)) (ln k : Int) : Bool := decide (List.length (AV.toStr (List.getD (List.getD hrows (0 + Int.toNat k) []) (1) AV.undef)) ≤ 4611686018427387904)
def b20k7 (start : List UInt8) (hn bn : Nat) (hrows : List (List AV)) (ln k : Int) : Bool := !spPlain (AV.toStr (List.getD (List.getD hrows (0 + Int.toNat k) []) (1) AV.undef))
theorem b20_TFT (start : List UInt8) (hn : Nat) (bn : Nat) (hrows : List (List AV)) (ln : Int) (k : Int) :
    Path (run Tryz.prog P14 100 (lbody Tryz.prog 20 0) (SL.mp 81 ([pT, pF, pT]) (b20I start hn bn hrows ln k))) 3 [] (SL.mk [(2, AV.lit false)] [] 3) (Ex.ret)
      ((((((((((((((((True ∧ true = true) ∧ b20k0 start hn bn hrows ln k = true) ∧ true = true) ∧ b20k1 start hn bn hrows ln k = true) ∧ b20k2 start hn bn hrows ln k = true) ∧ b20k3 start hn bn hrows ln k = true) ∧ true = true) ∧ true = true) ∧ true = true) ∧ true = true) ∧ true = true) ∧ b20k4 start hn bn hrows ln k = true) ∧ b20k5 start hn bn hrows ln k = false) ∧ true = true) ∧ b20k6 start hn bn hrows ln k = true) ∧ b20k7 start hn bn hrows ln k = true) := by unfold Path; kernel_rfl
def b20k8 (start : List UInt8) (hn bn : Nat) (hrows : List (List AV)) (ln k : Int) : Bool := !AV.toStr (List.getD (List.getD hrows (0 + Int.toNat k) []) (1) AV.undef) == []
def b20k9 (start : List UInt8) (hn bn : Nat) (hrows : List (List AV)) (ln k : Int) : Bool := decide ((0 : Int) ≤ (0 : Int) ∧ (0 : Int) < (↑(List.length (AV.toStr (List.getD (List.getD hrows (0 + Int.toNat k) []) (1) AV.undef))) : Int))
def b20k10 (start : List UInt8) (hn bn : Nat) (hrows : List (List AV)) (ln k : Int) : Bool := (↑(UInt8.toNat (List.getD (AV.toStr (List.getD (List.getD hrows (0 + Int.toNat k) []) (1) AV.undef)) 0 (0 : UInt8))) : Int) == (32 : Int)
theorem b20_TFFTT (start : List UInt8) (hn : Nat) (bn : Nat) (hrows : List (List AV)) (ln : Int) (k : Int) :
    Path (run Tryz.prog P14 100 (lbody Tryz.prog 20 0) (SL.mp 81 ([pT, pF, pF, pT, pT]) (b20I start hn bn hrows ln k))) 3 [] (SL.mk [(2, AV.lit false)] [] 3) (Ex.ret)
      ((((((((((((((((((((True ∧ true = true) ∧ b20k0 start hn bn hrows ln k = true) ∧ true = true) ∧ b20k1 start hn bn hrows ln k = true) ∧ b20k2 start hn bn hrows ln k = true) ∧ b20k3 start hn bn hrows ln k = true) ∧ true = true) ∧ true = true) ∧ true = true) ∧ true = true) ∧ true = true) ∧ b20k4 start hn bn hrows ln k = true) ∧ b20k5 start hn bn hrows ln k = false) ∧ true = true) ∧ b20k6 start hn bn hrows ln k = true) ∧ b20k7 start hn bn hrows ln k = false) ∧ true = true) ∧ b20k8 start hn bn hrows ln k = true) ∧ b20k9 start hn bn hrows ln k = true) ∧ b20k10 start hn bn hrows ln k = true) := by unfold Path; kernel_rfl
def b20k11 (start : List UInt8) (hn bn : Nat) (hrows : List (List AV)) (ln k : Int) : Bool := decide ((0 : Int) ≤ IntKind.wrap IntKind.i64 ((↑(List.length (AV.toStr (List.getD (List.getD hrows (0 + Int.toNat k) []) (1) AV.undef))) : Int) - (1 : Int)) ∧ IntKind.wrap IntKind.i64 ((↑(List.length (AV.toStr (List.getD (List.getD hrows (0 + Int.toNat k) []) (1) AV.undef))) : Int) - (1 : Int)) < (↑(List.length (AV.toStr (List.getD (List.getD hrows (0 + Int.toNat k) []) (1) AV.undef))) : Int))
def b20k12 (start : List UInt8) (hn bn : Nat) (hrows : List (List AV)) (ln k : Int) : Bool := (↑(UInt8.toNat (List.getD (AV.toStr (List.getD (List.getD hrows (0 + Int.toNat k) []) (1) AV.undef)) (Int.toNat (IntKind.wrap IntKind.i64 ((↑(List.length (AV.toStr (List.getD (List.getD hrows (0 + Int.toNat k) []) (1) AV.undef))) : Int) - (1 : Int)))) (0 : UInt8))) : Int) == (32 : Int)
theorem b20_TFFTFT (start : List UInt8) (hn : Nat) (bn : Nat) (hrows : List (List AV)) (ln : Int) (k : Int) :
    Path (run Tryz.prog P14 100 (lbody Tryz.prog 20 0) (SL.mp 81 ([pT, pF, pF, pT, pF, pT]) (b20I start hn bn hrows ln k))) 3 [] (SL.mk [(2, AV.lit false)] [] 3) (Ex.ret)
      ((((((((((((((((((((((True ∧ true = true) ∧ b20k0 start hn bn hrows ln k = true) ∧ true = true) ∧ b20k1 start hn bn hrows ln k = true) ∧ b20k2 start hn bn hrows ln k = true) ∧ b20k3 start hn bn hrows ln k = true) ∧ true = true) ∧ true = true) ∧ true = true) ∧ true = true) ∧ true = true) ∧ b20k4 start hn bn hrows ln k = true) ∧ b20k5 start hn bn hrows ln k = false) ∧ true = true) ∧ b20k6 start hn bn hrows ln k = true) ∧ b20k7 start hn bn hrows ln k = false) ∧ true = true) ∧ b20k8 start hn bn hrows ln k = true) ∧ b20k9 start hn bn hrows ln k = true) ∧ b20k10 start hn bn hrows ln k = false) ∧ b20k11 start hn bn hrows ln k = true) ∧ b20k12 start hn bn hrows ln k = true) := by unfold Path; kernel_rfl
def b20k13 (start : List UInt8) (hn bn : Nat) (hrows : List (List AV)) (ln k : Int) : Bool := decide (List.length (AV.toStr (List.getD (List.getD hrows (0 + Int.toNat k) []) (0) AV.undef)) ≤ 140737488355328)
def b20k14 (start : List UInt8) (hn bn : Nat) (hrows : List (List AV)) (ln k : Int) : Bool := List.map lowerC (AV.toStr (List.getD (List.getD hrows (0 + Int.toNat k) []) (0) AV.undef)) == [(99 : UInt8), (111 : UInt8), (110 : UInt8), (116 : UInt8), (101 : UInt8), (110 : UInt8), (116 : UInt8), (45 : UInt8), (108 : UInt8), (101 : UInt8), (110 : UInt8), (103 : UInt8), (116 : UInt8), (104 : UInt8)]
def b20k15 (start : List UInt8) (hn bn : Nat) (hrows : List (List AV)) (ln k : Int) : Bool := decide ((0 : Int) ≤ (↑bn : Int) ∧ (↑bn : Int) < (9223372036854775808 : Int))
def b20k16 (start : List UInt8) (hn bn : Nat) (hrows : List (List AV)) (ln k : Int) : Bool := !AV.toStr (List.getD (List.getD hrows (0 + Int.toNat k) []) (1) AV.undef) == spDigits (Int.toNat (↑bn : Int))
theorem b20_TFFTFFTT (start : List UInt8) (hn : Nat) (bn : Nat) (hrows : List (List AV)) (ln : Int) (k : Int) :
    Path (run Tryz.prog P14 100 (lbody Tryz.prog 20 0) (SL.mp 81 ([pT, pF, pF, pT, pF, pF, pT, pT]) (b20I start hn bn hrows ln k))) 3 [] (SL.mk [(2, AV.lit false)] [] 3) (Ex.ret)
      (((((((((((((((((((((((((((((True ∧ true = true) ∧ b20k0 start hn bn hrows ln k = true) ∧ true = true) ∧ b20k1 start hn bn hrows ln k = true) ∧ b20k2 start hn bn hrows ln k = true) ∧ b20k3 start hn bn hrows ln k = true) ∧ true = true) ∧ true = true) ∧ true = true) ∧ true = true) ∧ true = true) ∧ b20k4 start hn bn hrows ln k = true) ∧ b20k5 start hn bn hrows ln k = false) ∧ true = true) ∧ b20k6 start hn bn hrows ln k = true) ∧ b20k7 start hn bn hrows ln k = false) ∧ true = true) ∧ b20k8 start hn bn hrows ln k = true) ∧ b20k9 start hn bn hrows ln k = true) ∧ b20k10 start hn bn hrows ln k = false) ∧ b20k11 start hn bn hrows ln k = true) ∧ b20k12 start hn bn hrows ln k = false) ∧ true = true) ∧ b20k13 start hn bn hrows ln k = true) ∧ b20k14 start hn bn hrows ln k = true) ∧ true = true) ∧ true = true) ∧ b20k15 start hn bn hrows ln k = true) ∧ b20k16 start hn bn hrows ln k = true) := by unfold Path; kernel_rfl
theorem b20_TFFTFFTF (start : List UInt8) (hn : Nat) (bn : Nat) (hrows : List (List AV)) (ln : Int) (k : Int) :
    Path (run Tryz.prog P14 100 (lbody Tryz.prog 20 0) (SL.mp 81 ([pT, pF, pF, pT, pF, pF, pT, pF]) (b20I start hn bn hrows ln k))) 3 [] (b20I (start) (hn) (bn) (hrows) (IntKind.wrap IntKind.i64 (ln + (1 : Int))) (IntKind.wrap IntKind.i64 (k + (1 : Int)))) (Ex.normal)
      (((((((((((((((((((((((((((((True ∧ true = true) ∧ b20k0 start hn bn hrows ln k = true) ∧ true = true) ∧ b20k1 start hn bn hrows ln k = true) ∧ b20k2 start hn bn hrows ln k = true) ∧ b20k3 start hn bn hrows ln k = true) ∧ true = true) ∧ true = true) ∧ true = true) ∧ true = true) ∧ true = true) ∧ b20k4 start hn bn hrows ln k = true) ∧ b20k5 start hn bn hrows ln k = false) ∧ true = true) ∧ b20k6 start hn bn hrows ln k = true) ∧ b20k7 start hn bn hrows ln k = false) ∧ true = true) ∧ b20k8 start hn bn hrows ln k = true) ∧ b20k9 start hn bn hrows ln k = true) ∧ b20k10 start hn bn hrows ln k = false) ∧ b20k11 start hn bn hrows ln k = true) ∧ b20k12 start hn bn hrows ln k = false) ∧ true = true) ∧ b20k13 start hn bn hrows ln k = true) ∧ b20k14 start hn bn hrows ln k = true) ∧ true = true) ∧ true = true) ∧ b20k15 start hn bn hrows ln k = true) ∧ b20k16 start hn bn hrows ln k = false) := by unfold Path; kernel_rfl
theorem b20_TFFTFFF (start : List UInt8) (hn : Nat) (bn : Nat) (hrows : List (List AV)) (ln : Int) (k : Int) :
    Path (run Tryz.prog P14 100 (lbody Tryz.prog 20 0) (SL.mp 81 ([pT, pF, pF, pT, pF, pF, pF]) (b20I start hn bn hrows ln k))) 3 [] (b20I (start) (hn) (bn) (hrows) (ln) (IntKind.wrap IntKind.i64 (k + (1 : Int)))) (Ex.normal)
      (((((((((((((((((((((((((True ∧ true = true) ∧ b20k0 start hn bn hrows ln k = true) ∧ true = true) ∧ b20k1 start hn bn hrows ln k = true) ∧ b20k2 start hn bn hrows ln k = true) ∧ b20k3 start hn bn hrows ln k = true) ∧ true = true) ∧ true = true) ∧ true = true) ∧ true = true) ∧ true = true) ∧ b20k4 start hn bn hrows ln k = true) ∧ b20k5 start hn bn hrows ln k = false) ∧ true = true) ∧ b20k6 start hn bn hrows ln k = true) ∧ b20k7 start hn bn hrows ln k = false) ∧ true = true) ∧ b20k8 start hn bn hrows ln k = true) ∧ b20k9 start hn bn hrows ln k = true) ∧ b20k10 start hn bn hrows ln k = false) ∧ b20k11 start hn bn hrows ln k = true) ∧ b20k12 start hn bn hrows ln k = false) ∧ true = true) ∧ b20k13 start hn bn hrows ln k = true) ∧ b20k14 start hn bn hrows ln k = false) := by unfold Path; kernel_rfl
theorem b20_TFFFTT (start : List UInt8) (hn : Nat) (bn : Nat) (hrows : List (List AV)) (ln : Int) (k : Int) :
    Path (run Tryz.prog P14 100 (lbody Tryz.prog 20 0) (SL.mp 81 ([pT, pF, pF, pF, pT, pT]) (b20I start hn bn hrows ln k))) 3 [] (SL.mk [(2, AV.lit false)] [] 3) (Ex.ret)
      (((((((((((((((((((((((((True ∧ true = true) ∧ b20k0 start hn bn hrows ln k = true) ∧ true = true) ∧ b20k1 start hn bn hrows ln k = true) ∧ b20k2 start hn bn hrows ln k = true) ∧ b20k3 start hn bn hrows ln k = true) ∧ true = true) ∧ true = true) ∧ true = true) ∧ true = true) ∧ true = true) ∧ b20k4 start hn bn hrows ln k = true) ∧ b20k5 start hn bn hrows ln k = false) ∧ true = true) ∧ b20k6 start hn bn hrows ln k = true) ∧ b20k7 start hn bn hrows ln k = false) ∧ true = true) ∧ b20k8 start hn bn hrows ln k = false) ∧ true = true) ∧ b20k13 start hn bn hrows ln k = true) ∧ b20k14 start hn bn hrows ln k = true) ∧ true = true) ∧ true = true) ∧ b20k15 start hn bn hrows ln k = true) ∧ b20k16 start hn bn hrows ln k = true) := by unfold Path; kernel_rfl
theorem b20_TFFFTF (start : List UInt8) (hn : Nat) (bn : Nat) (hrows : List (List AV)) (ln : Int) (k : Int) :
    Path (run Tryz.prog P14 100 (lbody Tryz.prog 20 0) (SL.mp 81 ([pT, pF, pF, pF, pT, pF]) (b20I start hn bn hrows ln k))) 3 [] (b20I (start) (hn) (bn) (hrows) (IntKind.wrap IntKind.i64 (ln + (1 : Int))) (IntKind.wrap IntKind.i64 (k + (1 : Int)))) (Ex.normal)
      (((((((((((((((((((((((((True ∧ true = true) ∧ b20k0 start hn bn hrows ln k = true) ∧ true = true) ∧ b20k1 start hn bn hrows ln k = true) ∧ b20k2 start hn bn hrows ln k = true) ∧ b20k3 start hn bn hrows ln k = true) ∧ true = true) ∧ true = true) ∧ true = true) ∧ true = true) ∧ true = true) ∧ b20k4 start hn bn hrows ln k = true) ∧ b20k5 start hn bn hrows ln k = false) ∧ true = true) ∧ b20k6 start hn bn hrows ln k = true) ∧ b20k7 start hn bn hrows ln k = false) ∧ true = true) ∧ b20k8 start hn bn hrows ln k = false) ∧ true = true) ∧ b20k13 start hn bn hrows ln k = true) ∧ b20k14 start hn bn hrows ln k = true) ∧ true = true) ∧ true = true) ∧ b20k15 start hn bn hrows ln k = true) ∧ b20k16 start hn bn hrows ln k = false) := by unfold Path; kernel_rfl
theorem b20_TFFFF (start : List UInt8) (hn : Nat) (bn : Nat) (hrows : List (List AV)) (ln : Int) (k : Int) :
    Path (run Tryz.prog P14 100 (lbody Tryz.prog 20 0) (SL.mp 81 ([pT, pF, pF, pF, pF]) (b20I start hn bn hrows ln k))) 3 [] (b20I (start) (hn) (bn) (hrows) (ln) (IntKind.wrap IntKind.i64 (k + (1 : Int)))) (Ex.normal)
      (((((((((((((((((((((True ∧ true = true) ∧ b20k0 start hn bn hrows ln k = true) ∧ true = true) ∧ b20k1 start hn bn hrows ln k = true) ∧ b20k2 start hn bn hrows ln k = true) ∧ b20k3 start hn bn hrows ln k = true) ∧ true = true) ∧ true = true) ∧ true = true) ∧ true = true) ∧ true = true) ∧ b20k4 start hn bn hrows ln k = true) ∧ b20k5 start hn bn hrows ln k = false) ∧ true = true) ∧ b20k6 start hn bn hrows ln k = true) ∧ b20k7 start hn bn hrows ln k = false) ∧ true = true) ∧ b20k8 start hn bn hrows ln k = false) ∧ true = true) ∧ b20k13 start hn bn hrows ln k = true) ∧ b20k14 start hn bn hrows ln k = false) := by unfold Path; kernel_rfl
theorem b20_F (start : List UInt8) (hn : Nat) (bn : Nat) (hrows : List (List AV)) (ln : Int) (k : Int) :
    Path (run Tryz.prog P14 100 (lbody Tryz.prog 20 0) (SL.mp 81 ([pF]) (b20I start hn bn hrows ln k))) 3 [] (SL.mk [(3, AV.int IntKind.i64 ln)] [] 3) (Ex.exit 0)
      ((True ∧ true = true) ∧ b20k0 start hn bn hrows ln k = false) := by unfold Path; kernel_rfl
def b20_cls (start : List UInt8) (hn bn : Nat) (hrows : List (List AV)) (ln k : Int) : Nat := (bif b20k0 start hn bn hrows ln k then (bif b20k5 start hn bn hrows ln k then 0 else (bif b20k7 start hn bn hrows ln k then 0 else (bif b20k8 start hn bn hrows ln k then (bif b20k10 start hn bn hrows ln k then 0 else (bif b20k12 start hn bn hrows ln k then 0 else (bif b20k14 start hn bn hrows ln k then (bif b20k16 start hn bn hrows ln k then 0 else 1) else 2))) else (bif b20k14 start hn bn hrows ln k then (bif b20k16 start hn bn hrows ln k then 0 else 1) else 2)))) else 3)
theorem b20_c0 (start : List UInt8) (hn bn : Nat) (hrows : List (List AV)) (ln k : Int) (h : b20_cls start hn bn hrows ln k = 0) (m0 : b20k0 start hn bn hrows ln k = true → b20k1 start hn bn hrows ln k = true) (m1 : b20k0 start hn bn hrows ln k = true → b20k2 start hn bn hrows ln k = true) (m2 : b20k0 start hn bn hrows ln k = true → b20k3 start hn bn hrows ln k = true) (m3 : b20k0 start hn bn hrows ln k = true → b20k4 start hn bn hrows ln k = true) (m4 : b20k0 start hn bn hrows ln k = true → b20k5 start hn bn hrows ln k = false → b20k6 start hn bn hrows ln k = true) (m5 : b20k0 start hn bn hrows ln k = true → b20k5 start hn bn hrows ln k = false → b20k7 start hn bn hrows ln k = false → b20k8 start hn bn hrows ln k = true → b20k9 start hn bn hrows ln k = true) (m6 : b20k0 start hn bn hrows ln k = true → b20k5 start hn bn hrows ln k = false → b20k7 start hn bn hrows ln k = false → b20k8 start hn bn hrows ln k = true → b20k10 start hn bn hrows ln k = false → b20k11 start hn bn hrows ln k = true) (m7 : b20k0 start hn bn hrows ln k = true → b20k5 start hn bn hrows ln k = false → b20k7 start hn bn hrows ln k = false → b20k13 start hn bn hrows ln k = true) (m8 : b20k0 start hn bn hrows ln k = true → b20k5 start hn bn hrows ln k = false → b20k7 start hn bn hrows ln k = false → b20k14 start hn bn hrows ln k = true → b20k15 start hn bn hrows ln k = true) : BodyOK Tryz.prog (lbody Tryz.prog 20 0) 81 3 (b20I start hn bn hrows ln k) (Ex.ret) (SL.mk [(2, AV.lit false)] [] 3) := by
  unfold b20_cls at h
  cases q1 : b20k0 start hn bn hrows ln k with
  | true =>
    rw [q1, cond_true] at h
    cases q2 : b20k5 start hn bn hrows ln k with
    | true =>
      rw [q2, cond_true] at h
      exact body_by P14_ok (b20_TT start hn bn hrows ln k) rfl (by simp only [q1, q2, (m0 q1), (m1 q1), (m2 q1), (m3 q1), eq_self, and_true, true_and]) rfl
    | false =>
      rw [q2, cond_false] at h
      cases q3 : b20k7 start hn bn hrows ln k with
      | true =>
        rw [q3, cond_true] at h
        exact body_by P14_ok (b20_TFT start hn bn hrows ln k) rfl (by simp only [q1, q2, q3, (m0 q1), (m1 q1), (m2 q1), (m3 q1), (m4 q1 q2), eq_self, and_true, true_and]) rfl
      | false =>
        rw [q3, cond_false] at h
        cases q4 : b20k8 start hn bn hrows ln k with
        | true =>
          rw [q4, cond_true] at h
          cases q5 : b20k10 start hn bn hrows ln k with
          | true =>
            rw [q5, cond_true] at h
            exact body_by P14_ok (b20_TFFTT start hn bn hrows ln k) rfl (by simp only [q1, q2, q3, q4, q5, (m0 q1), (m1 q1), (m2 q1), (m3 q1), (m4 q1 q2), (m5 q1 q2 q3 q4), eq_self, and_true, true_and]) rfl
          | false =>
            rw [q5, cond_false] at h
            cases q6 : b20k12 start hn bn hrows ln k with
            | true =>
              rw [q6, cond_true] at h
              exact body_by P14_ok (b20_TFFTFT start hn bn hrows ln k) rfl (by simp only [q1, q2, q3, q4, q5, q6, (m0 q1), (m1 q1), (m2 q1), (m3 q1), (m4 q1 q2), (m5 q1 q2 q3 q4), (m6 q1 q2 q3 q4 q5), eq_self, and_true, true_and]) rfl
            | false =>
              rw [q6, cond_false] at h
              cases q7 : b20k14 start hn bn hrows ln k with
              | true =>
                rw [q7, cond_true] at h
                cases q8 : b20k16 start hn bn hrows ln k with
                | true =>
                  rw [q8, cond_true] at h
                  exact body_by P14_ok (b20_TFFTFFTT start hn bn hrows ln k) rfl (by simp only [q1, q2, q3, q4, q5, q6, q7, q8, (m0 q1), (m1 q1), (m2 q1), (m3 q1), (m4 q1 q2), (m5 q1 q2 q3 q4), (m6 q1 q2 q3 q4 q5), (m7 q1 q2 q3), (m8 q1 q2 q3 q7), eq_self, and_true, true_and]) rfl
                | false =>
                  rw [q8, cond_false] at h
                  exact absurd h (by decide)
              | false =>
                rw [q7, cond_false] at h
                exact absurd h (by decide)
        | false =>
          rw [q4, cond_false] at h
          cases q5 : b20k14 start hn bn hrows ln k with
          | true =>
            rw [q5, cond_true] at h
            cases q6 : b20k16 start hn bn hrows ln k with
            | true =>
              rw [q6, cond_true] at h
              exact body_by P14_ok (b20_TFFFTT start hn bn hrows ln k) rfl (by simp only [q1, q2, q3, q4, q5, q6, (m0 q1), (m1 q1), (m2 q1), (m3 q1), (m4 q1 q2), (m7 q1 q2 q3), (m8 q1 q2 q3 q5), eq_self, and_true, true_and]) rfl
            | false =>
              rw [q6, cond_false] at h
              exact absurd h (by decide)
          | false =>
            rw [q5, cond_false] at h
            exact absurd h (by decide)
  | false =>
    rw [q1, cond_false] at h
    exact absurd h (by decide)
theorem b20_c1 (start : List UInt8) (hn bn : Nat) (hrows : List (List AV)) (ln k : Int) (h : b20_cls start hn bn hrows ln k = 1) (m0 : b20k0 start hn bn hrows ln k = true → b20k1 start hn bn hrows ln k = true) (m1 : b20k0 start hn bn hrows ln k = true → b20k2 start hn bn hrows ln k = true) (m2 : b20k0 start hn bn hrows ln k = true → b20k3 start hn bn hrows ln k = true) (m3 : b20k0 start hn bn hrows ln k = true → b20k4 start hn bn hrows ln k = true) (m4 : b20k0 start hn bn hrows ln k = true → b20k5 start hn bn hrows ln k = false → b20k6 start hn bn hrows ln k = true) (m5 : b20k0 start hn bn hrows ln k = true → b20k5 start hn bn hrows ln k = false → b20k7 start hn bn hrows ln k = false → b20k8 start hn bn hrows ln k = true → b20k9 start hn bn hrows ln k = true) (m6 : b20k0 start hn bn hrows ln k = true → b20k5 start hn bn hrows ln k = false → b20k7 start hn bn hrows ln k = false → b20k8 start hn bn hrows ln k = true → b20k10 start hn bn hrows ln k = false → b20k11 start hn bn hrows ln k = true) (m7 : b20k0 start hn bn hrows ln k = true → b20k5 start hn bn hrows ln k = false → b20k7 start hn bn hrows ln k = false → b20k13 start hn bn hrows ln k = true) (m8 : b20k0 start hn bn hrows ln k = true → b20k5 start hn bn hrows ln k = false → b20k7 start hn bn hrows ln k = false → b20k14 start hn bn hrows ln k = true → b20k15 start hn bn hrows ln k = true) : BodyOK Tryz.prog (lbody Tryz.prog 20 0) 81 3 (b20I start hn bn hrows ln k) (Ex.normal) (b20I (start) (hn) (bn) (hrows) (IntKind.wrap IntKind.i64 (ln + (1 : Int))) (IntKind.wrap IntKind.i64 (k + (1 : Int)))) := by
  unfold b20_cls at h
  cases q1 : b20k0 start hn bn hrows ln k with
  | true =>
    rw [q1, cond_true] at h
    cases q2 : b20k5 start hn bn hrows ln k with
    | true =>
      rw [q2, cond_true] at h
      exact absurd h (by decide)
    | false =>
      rw [q2, cond_false] at h
      cases q3 : b20k7 start hn bn hrows ln k with
      | true =>
        rw [q3, cond_true] at h
        exact absurd h (by decide)
      | false =>
        rw [q3, cond_false] at h
        cases q4 : b20k8 start hn bn hrows ln k with
        | true =>
          rw [q4, cond_true] at h
          cases q5 : b20k10 start hn bn hrows ln k with
          | true =>
            rw [q5, cond_true] at h
            exact absurd h (by decide)
          | false =>
            rw [q5, cond_false] at h
            cases q6 : b20k12 start hn bn hrows ln k with
            | true =>
              rw [q6, cond_true] at h
              exact absurd h (by decide)
            | false =>
              rw [q6, cond_false] at h
              cases q7 : b20k14 start hn bn hrows ln k with
              | true =>
                rw [q7, cond_true] at h
                cases q8 : b20k16 start hn bn hrows ln k with
                | true =>
                  rw [q8, cond_true] at h
                  exact absurd h (by decide)
                | false =>
                  rw [q8, cond_false] at h
                  exact body_by P14_ok (b20_TFFTFFTF start hn bn hrows ln k) rfl (by simp only [q1, q2, q3, q4, q5, q6, q7, q8, (m0 q1), (m1 q1), (m2 q1), (m3 q1), (m4 q1 q2), (m5 q1 q2 q3 q4), (m6 q1 q2 q3 q4 q5), (m7 q1 q2 q3), (m8 q1 q2 q3 q7), eq_self, and_true, true_and]) rfl
              | false =>
                rw [q7, cond_false] at h
                exact absurd h (by decide)
        | false =>
          rw [q4, cond_false] at h
          cases q5 : b20k14 start hn bn hrows ln k with
          | true =>
            rw [q5, cond_true] at h
            cases q6 : b20k16 start hn bn hrows ln k with
            | true =>
              rw [q6, cond_true] at h
              exact absurd h (by decide)
            | false =>
              rw [q6, cond_false] at h
              exact body_by P14_ok (b20_TFFFTF start hn bn hrows ln k) rfl (by simp only [q1, q2, q3, q4, q5, q6, (m0 q1), (m1 q1), (m2 q1), (m3 q1), (m4 q1 q2), (m7 q1 q2 q3), (m8 q1 q2 q3 q5), eq_self, and_true, true_and]) rfl
          | false =>
            rw [q5, cond_false] at h
            exact absurd h (by decide)
  | false =>
    rw [q1, cond_false] at h
    exact absurd h (by decide)
theorem b20_c2 (start : List UInt8) (hn bn : Nat) (hrows : List (List AV)) (ln k : Int) (h : b20_cls start hn bn hrows ln k = 2) (m0 : b20k0 start hn bn hrows ln k = true → b20k1 start hn bn hrows ln k = true) (m1 : b20k0 start hn bn hrows ln k = true → b20k2 start hn bn hrows ln k = true) (m2 : b20k0 start hn bn hrows ln k = true → b20k3 start hn bn hrows ln k = true) (m3 : b20k0 start hn bn hrows ln k = true → b20k4 start hn bn hrows ln k = true) (m4 : b20k0 start hn bn hrows ln k = true → b20k5 start hn bn hrows ln k = false → b20k6 start hn bn hrows ln k = true) (m5 : b20k0 start hn bn hrows ln k = true → b20k5 start hn bn hrows ln k = false → b20k7 start hn bn hrows ln k = false → b20k8 start hn bn hrows ln k = true → b20k9 start hn bn hrows ln k = true) (m6 : b20k0 start hn bn hrows ln k = true → b20k5 start hn bn hrows ln k = false → b20k7 start hn bn hrows ln k = false → b20k8 start hn bn hrows ln k = true → b20k10 start hn bn hrows ln k = false → b20k11 start hn bn hrows ln k = true) (m7 : b20k0 start hn bn hrows ln k = true → b20k5 start hn bn hrows ln k = false → b20k7 start hn bn hrows ln k = false → b20k13 start hn bn hrows ln k = true) : BodyOK Tryz.prog (lbody Tryz.prog 20 0) 81 3 (b20I start hn bn hrows ln k) (Ex.normal) (b20I (start) (hn) (bn) (hrows) (ln) (IntKind.wrap IntKind.i64 (k + (1 : Int)))) := by
  unfold b20_cls at h
  cases q1 : b20k0 start hn bn hrows ln k with
  | true =>
    rw [q1, cond_true] at h
    cases q2 : b20k5 start hn bn hrows ln k with
    | true =>
      rw [q2, cond_true] at h
      exact absurd h (by decide)
    | false =>
      rw [q2, cond_false] at h
      cases q3 : b20k7 start hn bn hrows ln k with
      | true =>
        rw [q3, cond_true] at h
        exact absurd h (by decide)
      | false =>
        rw [q3, cond_false] at h
        cases q4 : b20k8 start hn bn hrows ln k with
        | true =>
          rw [q4, cond_true] at h
          cases q5 : b20k10 start hn bn hrows ln k with
          | true =>
            rw [q5, cond_true] at h
            exact absurd h (by decide)
          | false =>
            rw [q5, cond_false] at h
            cases q6 : b20k12 start hn bn hrows ln k with
            | true =>
              rw [q6, cond_true] at h
              exact absurd h (by decide)
            | false =>
              rw [q6, cond_false] at h
              cases q7 : b20k14 start hn bn hrows ln k with
              | true =>
                rw [q7, cond_true] at h
                cases q8 : b20k16 start hn bn hrows ln k with
                | true =>
                  rw [q8, cond_true] at h
                  exact absurd h (by decide)
                | false =>
                  rw [q8, cond_false] at h
                  exact absurd h (by decide)
              | false =>
                rw [q7, cond_false] at h
                exact body_by P14_ok (b20_TFFTFFF start hn bn hrows ln k) rfl (by simp only [q1, q2, q3, q4, q5, q6, q7, (m0 q1), (m1 q1), (m2 q1), (m3 q1), (m4 q1 q2), (m5 q1 q2 q3 q4), (m6 q1 q2 q3 q4 q5), (m7 q1 q2 q3), eq_self, and_true, true_and]) rfl
        | false =>
          rw [q4, cond_false] at h
          cases q5 : b20k14 start hn bn hrows ln k with
          | true =>
            rw [q5, cond_true] at h
            cases q6 : b20k16 start hn bn hrows ln k with
            | true =>
              rw [q6, cond_true] at h
              exact absurd h (by decide)
            | false =>
              rw [q6, cond_false] at h
              exact absurd h (by decide)
          | false =>
            rw [q5, cond_false] at h
            exact body_by P14_ok (b20_TFFFF start hn bn hrows ln k) rfl (by simp only [q1, q2, q3, q4, q5, (m0 q1), (m1 q1), (m2 q1), (m3 q1), (m4 q1 q2), (m7 q1 q2 q3), eq_self, and_true, true_and]) rfl
  | false =>
    rw [q1, cond_false] at h
    exact absurd h (by decide)
theorem b20_c3 (start : List UInt8) (hn bn : Nat) (hrows : List (List AV)) (ln k : Int) (h : b20_cls start hn bn hrows ln k = 3)  : BodyOK Tryz.prog (lbody Tryz.prog 20 0) 81 3 (b20I start hn bn hrows ln k) (Ex.exit 0) (SL.mk [(3, AV.int IntKind.i64 ln)] [] 3) := by
  unfold b20_cls at h
  cases q1 : b20k0 start hn bn hrows ln k with
  | true =>
    rw [q1, cond_true] at h
    cases q2 : b20k5 start hn bn hrows ln k with
    | true =>
      rw [q2, cond_true] at h
      exact absurd h (by decide)
    | false =>
      rw [q2, cond_false] at h
      cases q3 : b20k7 start hn bn hrows ln k with
      | true =>
        rw [q3, cond_true] at h
        exact absurd h (by decide)
      | false =>
        rw [q3, cond_false] at h
        cases q4 : b20k8 start hn bn hrows ln k with
        | true =>
          rw [q4, cond_true] at h
          cases q5 : b20k10 start hn bn hrows ln k with
          | true =>
            rw [q5, cond_true] at h
            exact absurd h (by decide)
          | false =>
            rw [q5, cond_false] at h
            cases q6 : b20k12 start hn bn hrows ln k with
            | true =>
              rw [q6, cond_true] at h
              exact absurd h (by decide)
            | false =>
              rw [q6, cond_false] at h
              cases q7 : b20k14 start hn bn hrows ln k with
              | true =>
                rw [q7, cond_true] at h
                cases q8 : b20k16 start hn bn hrows ln k with
                | true =>
                  rw [q8, cond_true] at h
                  exact absurd h (by decide)
                | false =>
                  rw [q8, cond_false] at h
                  exact absurd h (by decide)
              | false =>
                rw [q7, cond_false] at h
                exact absurd h (by decide)
        | false =>
          rw [q4, cond_false] at h
          cases q5 : b20k14 start hn bn hrows ln k with
          | true =>
            rw [q5, cond_true] at h
            cases q6 : b20k16 start hn bn hrows ln k with
            | true =>
              rw [q6, cond_true] at h
              exact absurd h (by decide)
            | false =>
              rw [q6, cond_false] at h
              exact absurd h (by decide)
          | false =>
            rw [q5, cond_false] at h
            exact absurd h (by decide)
  | false =>
    rw [q1, cond_false] at h
    exact body_by P14_ok (b20_F start hn bn hrows ln k) rfl (by simp only [q1, eq_self, and_true, true_and]) rfl
theorem c20_T (start : List UInt8) (hrows : List (List AV)) (brows : List (List AV)) (ln : Int) :
    Path (runCallB Tryz.prog P14 100 20 [AV.agg [AV.str start, AV.slq 0 (List.length hrows), AV.slq 1 (List.length brows)]] (st0 [Blk.cells false [Kd.str, Kd.str] hrows, Blk.cells false [Kd.int IntKind.u8] brows] ([pT]))) 2 [] (SL.mk [] [] 2) (Out.ret (AV.lit false))
      ((True ∧ (true = true)) ∧ ((start == []) = true)) := by unfold Path; kernel_rfl
theorem c20_FT (start : List UInt8) (hrows : List (List AV)) (brows : List (List AV)) (ln : Int) :
    Path (runCallB Tryz.prog P14 100 20 [AV.agg [AV.str start, AV.slq 0 (List.length hrows), AV.slq 1 (List.length brows)]] (st0 [Blk.cells false [Kd.str, Kd.str] hrows, Blk.cells false [Kd.int IntKind.u8] brows] ([pF, pT]))) 2 [] (SL.mk [] [] 2) (Out.ret (AV.lit false))
      (((((True ∧ (true = true)) ∧ ((start == []) = false)) ∧ (true = true)) ∧ (decide (List.length start ≤ 4611686018427387904) = true)) ∧ ((!spPlain start) = true)) := by unfold Path; kernel_rfl
theorem c20_FFT (start : List UInt8) (hrows : List (List AV)) (brows : List (List AV)) (ln : Int) :
    Path (runCallB Tryz.prog P14 100 20 [AV.agg [AV.str start, AV.slq 0 (List.length hrows), AV.slq 1 (List.length brows)]] (st0 [Blk.cells false [Kd.str, Kd.str] hrows, Blk.cells false [Kd.int IntKind.u8] brows] ([pF, pF, pT]))) 2 [] (SL.mk [] [] 2) (Out.ret (AV.lit false))
      (((((((True ∧ (true = true)) ∧ ((start == []) = false)) ∧ (true = true)) ∧ (decide (List.length start ≤ 4611686018427387904) = true)) ∧ ((!spPlain start) = false)) ∧ (true = true)) ∧ (decide ((↑(List.length hrows) : Int) > (64 : Int)) = true)) := by unfold Path; kernel_rfl
theorem c20_FFFT (start : List UInt8) (hrows : List (List AV)) (brows : List (List AV)) (ln : Int) :
    Path (runCallB Tryz.prog P14 100 20 [AV.agg [AV.str start, AV.slq 0 (List.length hrows), AV.slq 1 (List.length brows)]] (st0 [Blk.cells false [Kd.str, Kd.str] hrows, Blk.cells false [Kd.int IntKind.u8] brows] ([pF, pF, pF, pT]))) 2 [] (SL.mk [] [] 2) (Out.ret (AV.lit false))
      ((((((((((True ∧ (true = true)) ∧ ((start == []) = false)) ∧ (true = true)) ∧ (decide (List.length start ≤ 4611686018427387904) = true)) ∧ ((!spPlain start) = false)) ∧ (true = true)) ∧ (decide ((↑(List.length hrows) : Int) > (64 : Int)) = false)) ∧ (true = true)) ∧ ((decide (0 + List.length hrows ≤ List.length hrows) && (decide (0 + List.length brows ≤ List.length brows) && decide (List.length start ≤ 4294967200 ∧ List.all (sub hrows 0 (List.length hrows)) short = true ∧ List.length (sub hrows 0 (List.length hrows)) ≤ 1000 ∧ List.length (sub brows 0 (List.length brows)) ≤ 140737488355328))) = true)) ∧ (decide ((↑(spSize start (sub hrows 0 (List.length hrows)) (List.length (sub brows 0 (List.length brows)))) : Int) > (4096 : Int)) = true)) := by unfold Path; kernel_rfl
theorem c20_FFFFL (start : List UInt8) (hrows : List (List AV)) (brows : List (List AV)) (ln : Int) :
    Path (runCallB Tryz.prog P14 100 20 [AV.agg [AV.str start, AV.slq 0 (List.length hrows), AV.slq 1 (List.length brows)]] (st0 [Blk.cells false [Kd.str, Kd.str] hrows, Blk.cells false [Kd.int IntKind.u8] brows] ([pF, pF, pF, pF, PI.loop (b20I start (List.length hrows) (List.length brows) hrows (0 : Int) (0 : Int)) (Ex.exit 0) (SL.mk [(3, AV.int IntKind.i64 ln)] [] 3)]))) 2 [] (SL.mk [] [] 2) (Out.ret (AV.bool (ln == (1 : Int))))
      (((((((((((True ∧ (true = true)) ∧ ((start == []) = false)) ∧ (true = true)) ∧ (decide (List.length start ≤ 4611686018427387904) = true)) ∧ ((!spPlain start) = false)) ∧ (true = true)) ∧ (decide ((↑(List.length hrows) : Int) > (64 : Int)) = false)) ∧ (true = true)) ∧ ((decide (0 + List.length hrows ≤ List.length hrows) && (decide (0 + List.length brows ≤ List.length brows) && decide (List.length start ≤ 4294967200 ∧ List.all (sub hrows 0 (List.length hrows)) short = true ∧ List.length (sub hrows 0 (List.length hrows)) ≤ 1000 ∧ List.length (sub brows 0 (List.length brows)) ≤ 140737488355328))) = true)) ∧ (decide ((↑(spSize start (sub hrows 0 (List.length hrows)) (List.length (sub brows 0 (List.length brows)))) : Int) > (4096 : Int)) = false)) ∧ (LoopOK Tryz.prog (lbody Tryz.prog 20 0) (81) (SL.mk [(1, AV.ptr (Loc.mk 2 0 0)), (3, AV.int IntKind.i64 (0 : Int)), (4, AV.int IntKind.i64 (0 : Int))] [(0, Blk.cells false [Kd.str, Kd.str] hrows), (2, Blk.cells true [Kd.str, Kd.any, Kd.any] [[AV.str start, AV.slq 0 (List.length hrows), AV.slq 1 (List.length brows)]])] 3) (Ex.exit 0) (SL.mk [(3, AV.int IntKind.i64 ln)] [] 3))) := by unfold Path; kernel_rfl
theorem c20r_FFFFL (start : List UInt8) (hrows : List (List AV)) (brows : List (List AV)) :
    Path (runCallB Tryz.prog P14 100 20 [AV.agg [AV.str start, AV.slq 0 (List.length hrows), AV.slq 1 (List.length brows)]] (st0 [Blk.cells false [Kd.str, Kd.str] hrows, Blk.cells false [Kd.int IntKind.u8] brows] ([pF, pF, pF, pF, PI.loop (b20I start (List.length hrows) (List.length brows) hrows (0 : Int) (0 : Int)) Ex.ret (SL.mk [(2, AV.lit false)] [] 3)]))) 2 [] (SL.mk [] [] 2) (Out.ret (AV.lit false))
      (((((((((((True ∧ (true = true)) ∧ ((start == []) = false)) ∧ (true = true)) ∧ (decide (List.length start ≤ 4611686018427387904) = true)) ∧ ((!spPlain start) = false)) ∧ (true = true)) ∧ (decide ((↑(List.length hrows) : Int) > (64 : Int)) = false)) ∧ (true = true)) ∧ ((decide (0 + List.length hrows ≤ List.length hrows) && (decide (0 + List.length brows ≤ List.length brows) && decide (List.length start ≤ 4294967200 ∧ List.all (sub hrows 0 (List.length hrows)) short = true ∧ List.length (sub hrows 0 (List.length hrows)) ≤ 1000 ∧ List.length (sub brows 0 (List.length brows)) ≤ 140737488355328))) = true)) ∧ (decide ((↑(spSize start (sub hrows 0 (List.length hrows)) (List.length (sub brows 0 (List.length brows)))) : Int) > (4096 : Int)) = false)) ∧ (LoopOK Tryz.prog (lbody Tryz.prog 20 0) (81) (SL.mk [(1, AV.ptr (Loc.mk 2 0 0)), (3, AV.int IntKind.i64 (0 : Int)), (4, AV.int IntKind.i64 (0 : Int))] [(0, Blk.cells false [Kd.str, Kd.str] hrows), (2, Blk.cells true [Kd.str, Kd.any, Kd.any] [[AV.str start, AV.slq 0 (List.length hrows), AV.slq 1 (List.length brows)]])] 3) Ex.ret (SL.mk [(2, AV.lit false)] [] 3))) := by unfold Path; kernel_rfl
def isLenR (r : List AV) : Bool := List.map lowerC (hN r) == sgLen
def edgeOK (v : List UInt8) : Bool := (v == []) || (!(((v.getD 0 (0 : UInt8)).toNat : Int) == 32) && !(((v.getD (v.length - 1) (0 : UInt8)).toNat : Int) == 32))
def okRef (bn : Nat) (r : List AV) : Bool := spName (hN r) && (spPlain (hV r) && (edgeOK (hV r) && (!isLenR r || hV r == spDigits bn)))
def nLensR (rows : List (List AV)) : Nat := (rows.filter isLenR).length
def spRefRight (start : List UInt8) (rows : List (List AV)) (bn : Nat) : Bool :=
  !(start == []) && (spPlain start && (decide (rows.length ≤ 64) && (decide (start.length + 4 + bn + hSize rows ≤ 4096) && (rows.all (okRef bn) && nLensR rows == 1))))
theorem nLensR_succ {rows : List (List AV)} {k : Nat} (h : k < rows.length) : nLensR (rows.take (k + 1)) = nLensR (rows.take k) + (bif isLenR rows[k] then 1 else 0) := by
  unfold nLensR
  rw [take_snoc h, List.filter_append, List.length_append]
  cases hl : isLenR rows[k] <;> simp only [List.filter_cons, List.filter_nil, hl, if_true, Bool.false_eq_true, if_false, List.length_cons, List.length_nil, cond_true, cond_false]
theorem nLensR_le (rows : List (List AV)) : nLensR rows ≤ rows.length := List.length_filter_le ..
theorem wlast {n : Nat} (h : n ≤ 4294967200) : Int.toNat (IntKind.wrap IntKind.i64 ((n : Int) - 1)) = n - 1 := by
  rw [IntWalk.i64_in _ (by omega)]; omega
theorem row_clsR {start : List UInt8} {bn : Nat} {rows : List (List AV)} {ln : Int} {k : Nat} (h : k < rows.length) (hv : (hV rows[k]).length ≤ 4294967200) :
    b20_cls start rows.length bn rows ln k = bif okRef bn rows[k] then (bif isLenR rows[k] then 1 else 2) else 0 := by
  unfold hV at hv
  unfold b20_cls b20k0 b20k5 b20k7 b20k8 b20k10 b20k12 b20k14 b20k16 okRef isLenR edgeOK hN hV sgLen
  rw [row_at h, decide_eq_true (by omega : (k : Int) < (rows.length : Int)), wlast hv, Int.toNat_natCast]
  cases spName (AV.toStr (List.getD rows[k] 0 AV.undef)) <;> cases spPlain (AV.toStr (List.getD rows[k] 1 AV.undef)) <;> cases (AV.toStr (List.getD rows[k] 1 AV.undef) == []) <;>
    cases (((List.getD (AV.toStr (List.getD rows[k] 1 AV.undef)) 0 (0 : UInt8)).toNat : Int) == 32) <;> cases (((List.getD (AV.toStr (List.getD rows[k] 1 AV.undef)) ((AV.toStr (List.getD rows[k] 1 AV.undef)).length - 1) (0 : UInt8)).toNat : Int) == 32) <;>
    cases (List.map lowerC (AV.toStr (List.getD rows[k] 0 AV.undef)) == [99, 111, 110, 116, 101, 110, 116, 45, 108, 101, 110, 103, 116, 104]) <;> cases (AV.toStr (List.getD rows[k] 1 AV.undef) == spDigits bn) <;> rfl
theorem ref_musts {start : List UInt8} {rows : List (List AV)} {bn : Nat} (ho : RowOK rows bn) {k : Nat} (h : k < rows.length) (ln : Int) :
    b20k1 start rows.length bn rows ln k = true ∧ b20k2 start rows.length bn rows ln k = true ∧ b20k3 start rows.length bn rows ln k = true ∧ b20k4 start rows.length bn rows ln k = true ∧
    b20k6 start rows.length bn rows ln k = true ∧ (b20k8 start rows.length bn rows ln k = true → b20k9 start rows.length bn rows ln k = true) ∧ (b20k8 start rows.length bn rows ln k = true → b20k11 start rows.length bn rows ln k = true) ∧ b20k13 start rows.length bn rows ln k = true ∧ b20k15 start rows.length bn rows ln k = true := by
  have hsh := short_at ho.short h
  have hbn := ho.bn
  unfold hN hV at hsh
  unfold b20k1 b20k2 b20k3 b20k4 b20k6 b20k8 b20k9 b20k11 b20k13 b20k15
  rw [row_at h]
  have hp : (!AV.toStr (List.getD rows[k] 1 AV.undef) == []) = true → 0 < (AV.toStr (List.getD rows[k] 1 AV.undef)).length := by
    intro hx
    cases hl : AV.toStr (List.getD rows[k] 1 AV.undef) with
    | nil => rw [hl] at hx; cases hx
    | cons a l => exact Nat.succ_pos _
  refine ⟨decide_eq_true (by omega), decide_eq_true (by omega), decide_eq_true (by simp; omega), decide_eq_true (by omega), decide_eq_true (by omega), fun hx => ?_, fun hx => ?_, decide_eq_true (by omega), decide_eq_true (by omega)⟩
  · have := hp hx
    exact decide_eq_true (by omega)
  · have := hp hx
    exact decide_eq_true (by rw [IntWalk.i64_in _ (by omega)]; omega)
def I20 (start : List UInt8) (rows : List (List AV)) (bn k : Nat) : SL := b20I start rows.length bn rows ((nLensR (rows.take k) : Nat) : Int) k
theorem ref_ret {start : List UInt8} {rows : List (List AV)} {bn : Nat} (ho : RowOK rows bn) {k : Nat} (h : k < rows.length) (hb : okRef bn rows[k] = false) :
    BodyOK Tryz.prog (lbody Tryz.prog 20 0) 81 3 (I20 start rows bn k) .ret ⟨[(2, .lit false)], [], 3⟩ := by
  obtain ⟨m1, m2, m3, m4, m6, m9, m11, m13, m15⟩ := ref_musts (start := start) ho h ((nLensR (rows.take k) : Nat) : Int)
  have hcl : b20_cls start rows.length bn rows ((nLensR (rows.take k) : Nat) : Int) k = 0 := by rw [row_clsR h (short_at ho.short h).2, hb]; rfl
  exact b20_c0 start rows.length bn rows _ _ hcl (fun _ => m1) (fun _ => m2) (fun _ => m3) (fun _ => m4) (fun _ _ => m6) (fun _ _ _ h => m9 h) (fun _ _ _ h _ => m11 h) (fun _ _ _ => m13) (fun _ _ _ _ => m15)
theorem ref_next {start : List UInt8} {rows : List (List AV)} {bn : Nat} (ho : RowOK rows bn) {k : Nat} (h : k < rows.length) (hb : okRef bn rows[k] = true) :
    BodyOK Tryz.prog (lbody Tryz.prog 20 0) 81 3 (I20 start rows bn k) .normal (I20 start rows bn (k + 1)) := by
  obtain ⟨m1, m2, m3, m4, m6, m9, m11, m13, m15⟩ := ref_musts (start := start) ho h ((nLensR (rows.take k) : Nat) : Int)
  have hlen := ho.len
  have hn1 : nLensR (rows.take k) ≤ 64 := by
    have := nLensR_le (rows.take k)
    have : (rows.take k).length ≤ k := by rw [List.length_take]; exact Nat.min_le_left _ _
    omega
  have w2 := succ64 (n := rows.length) h (by omega)
  have w3 : IntKind.wrap IntKind.i64 (((nLensR (rows.take k) : Nat) : Int) + 1) = ((nLensR (rows.take k) + 1 : Nat) : Int) := by rw [IntWalk.i64_in _ (by omega)]; omega
  have hls := nLensR_succ h
  have hv := (short_at ho.short h).2
  cases hl : isLenR rows[k] with
  | true =>
    rw [hl, cond_true] at hls
    have hcl : b20_cls start rows.length bn rows ((nLensR (rows.take k) : Nat) : Int) k = 1 := by rw [row_clsR h hv, hb, hl]; rfl
    refine BodyOK.to (R := b20I start rows.length bn rows (IntKind.wrap IntKind.i64 (((nLensR (rows.take k) : Nat) : Int) + 1)) (IntKind.wrap IntKind.i64 ((k : Int) + 1))) ?_ (by unfold I20; rw [w2, w3, hls])
    exact b20_c1 start rows.length bn rows _ _ hcl (fun _ => m1) (fun _ => m2) (fun _ => m3) (fun _ => m4) (fun _ _ => m6) (fun _ _ _ h => m9 h) (fun _ _ _ h _ => m11 h) (fun _ _ _ => m13) (fun _ _ _ _ => m15)
  | false =>
    rw [hl, cond_false] at hls
    have hcl : b20_cls start rows.length bn rows ((nLensR (rows.take k) : Nat) : Int) k = 2 := by rw [row_clsR h hv, hb, hl]; rfl
    refine BodyOK.to (R := b20I start rows.length bn rows ((nLensR (rows.take k) : Nat) : Int) (IntKind.wrap IntKind.i64 ((k : Int) + 1))) ?_ (by unfold I20; rw [w2, hls]; rfl)
    exact b20_c2 start rows.length bn rows _ _ hcl (fun _ => m1) (fun _ => m2) (fun _ => m3) (fun _ => m4) (fun _ _ => m6) (fun _ _ _ h => m9 h) (fun _ _ _ h _ => m11 h) (fun _ _ _ => m13)
theorem ref_bad {start : List UInt8} {rows : List (List AV)} {bn : Nat} (ho : RowOK rows bn) {j : Nat} (h : firstAt (fun r => !okRef bn r) rows = some j) :
    LoopOK Tryz.prog (lbody Tryz.prog 20 0) 81 (I20 start rows bn 0) .ret ⟨[(2, .lit false)], [], 3⟩ := by
  obtain ⟨hj, h2, h3⟩ := firstAt_some h
  refine loop_rule (E := I20 start rows bn 0) (I := fun k : Nat => I20 start rows bn k) (pre := fun k => k ≤ j) (μ := fun k => j - k) _ _ rfl (fun ρ => by simp [Ex.conc]) ?_ (x0 := 0) (pick := []) (Nat.zero_le _) ⟨by kernel_rfl, map_fst_snd (by kernel_rfl)⟩
  intro k hk
  by_cases hkj : k = j
  · right
    subst hkj
    exact ref_ret ho hj (by simpa using h2)
  · left
    exact ⟨k + 1, by omega, by omega, ref_next ho (by omega) (by have := h3 k (by omega); simpa using this)⟩
theorem ref_end {start : List UInt8} {rows : List (List AV)} {bn : Nat} (ho : RowOK rows bn) (h : firstAt (fun r => !okRef bn r) rows = none) :
    LoopOK Tryz.prog (lbody Tryz.prog 20 0) 81 (I20 start rows bn 0) (.exit 0) ⟨[(3, .int .i64 ((nLensR rows : Nat) : Int))], [], 3⟩ := by
  have h3 := firstAt_none h
  refine loop_rule (E := I20 start rows bn 0) (I := fun k : Nat => I20 start rows bn k) (pre := fun k => k ≤ rows.length) (μ := fun k => rows.length - k) _ _ rfl (fun ρ => by simp [Ex.conc]) ?_ (x0 := 0) (pick := []) (Nat.zero_le _) ⟨by kernel_rfl, map_fst_snd (by kernel_rfl)⟩
  intro k hk
  by_cases hkl : k < rows.length
  · left
    exact ⟨k + 1, by omega, by omega, ref_next ho hkl (by have := h3 k hkl; simpa using this)⟩
  · right
    have hk' : k = rows.length := by omega
    subst hk'
    have hx := b20_c3 start rows.length bn rows ((nLensR (rows.take rows.length) : Nat) : Int) rows.length (by unfold b20_cls b20k0; rw [decide_eq_false (by omega)]; rfl)
    rw [List.take_length] at hx
    exact (by unfold I20; rw [List.take_length]; exact hx)
theorem ref_right_calls {start : List UInt8} {hrows brows : List (List AV)} {ρ : Nat → BI} {w : World} (hE : HSim ρ (addBlks .e 0 [.cells false [.str, .str] hrows, .cells false [.int .u8] brows]) ([.cells false [.str, .str] hrows, .cells false [.int .u8] brows] : List Blk).length w)
    (hst : start.length ≤ 4294967200) (hsh : hrows.all short = true) (hbn : brows.length ≤ 140737488355328) :
    Calls Tryz.prog 20 (concL ρ [.agg [.str start, .slq 0 hrows.length, .slq 1 brows.length]]).toArray w (fun e w' => e = .returned (conc ρ (.bool (spRefRight start hrows brows.length))) ∧ Ext w w') := by
  have hs1 : sub hrows 0 hrows.length = hrows := sub_all hrows rfl
  have hs2 : sub brows 0 brows.length = brows := sub_all brows rfl
  have b1 : decide (start.length ≤ 4611686018427387904) = true := decide_eq_true (by omega)
  unfold spRefRight
  cases e1 : (start == ([] : List UInt8)) with
  | true => exact calls_pureB P14_ok (c20_T start hrows brows 0) ⟨⟨trivial, rfl⟩, e1⟩ hE rfl rfl rfl
  | false =>
    cases e2 : spPlain start with
    | false =>
      have e2 : (!spPlain start) = true := by rw [e2]; rfl
      exact calls_pureB P14_ok (c20_FT start hrows brows 0) ⟨⟨⟨⟨⟨trivial, rfl⟩, e1⟩, rfl⟩, b1⟩, e2⟩ hE rfl rfl rfl
    | true =>
      have e2 : (!spPlain start) = false := by rw [e2]; rfl
      by_cases h3 : hrows.length ≤ 64
      · rw [decide_eq_true h3]
        have e3 : decide ((hrows.length : Int) > 64) = false := decide_eq_false (by omega)
        have ho : RowOK hrows brows.length := ⟨h3, hsh, hbn⟩
        have b2 : (decide (0 + hrows.length ≤ hrows.length) && (decide (0 + brows.length ≤ brows.length) && decide (start.length ≤ 4294967200 ∧ (sub hrows 0 hrows.length).all short = true ∧ (sub hrows 0 hrows.length).length ≤ 1000 ∧ (sub brows 0 brows.length).length ≤ 140737488355328))) = true := by
          rw [hs1, hs2]; simp only [Bool.and_eq_true, decide_eq_true_eq]; exact ⟨by omega, by omega, hst, hsh, by omega, hbn⟩
        by_cases h4 : start.length + 4 + brows.length + hSize hrows ≤ 4096
        · rw [decide_eq_true h4]
          have e4 : decide (((spSize start (sub hrows 0 hrows.length) (sub brows 0 brows.length).length : Nat) : Int) > 4096) = false := by
            rw [hs1, hs2]
            have := size_big start hrows brows.length
            exact decide_eq_false (by omega)
          cases hf : firstAt (fun r => !okRef brows.length r) hrows with
          | some j =>
            have hall : hrows.all (okRef brows.length) = false := by
              cases h : hrows.all (okRef brows.length) with
              | false => rfl
              | true => rw [← firstAt_all] at h; rw [h] at hf; cases hf
            rw [hall]
            have hl := ref_bad (start := start) ho hf
            exact calls_pureB P14_ok (c20r_FFFFL start hrows brows) ⟨⟨⟨⟨⟨⟨⟨⟨⟨⟨⟨trivial, rfl⟩, e1⟩, rfl⟩, b1⟩, e2⟩, rfl⟩, e3⟩, rfl⟩, b2⟩, e4⟩, hl⟩ hE rfl rfl rfl
          | none =>
            have hall : hrows.all (okRef brows.length) = true := firstAt_all.1 hf
            rw [hall]
            have hl := ref_end (start := start) ho hf
            have e5 : (((nLensR hrows : Nat) : Int) == 1) = (nLensR hrows == 1) := by rw [Bool.eq_iff_iff]; simp only [beq_iff_eq]; omega
            have hr := calls_pureB P14_ok (c20_FFFFL start hrows brows ((nLensR hrows : Nat) : Int)) ⟨⟨⟨⟨⟨⟨⟨⟨⟨⟨⟨trivial, rfl⟩, e1⟩, rfl⟩, b1⟩, e2⟩, rfl⟩, e3⟩, rfl⟩, b2⟩, e4⟩, hl⟩ hE rfl rfl rfl
            rw [e5] at hr
            exact hr
        · rw [decide_eq_false h4]
          have e4 : decide (((spSize start (sub hrows 0 hrows.length) (sub brows 0 brows.length).length : Nat) : Int) > 4096) = true := by
            rw [hs1, hs2]
            have := size_big start hrows brows.length
            exact decide_eq_true (by omega)
          exact calls_pureB P14_ok (c20_FFFT start hrows brows 0) ⟨⟨⟨⟨⟨⟨⟨⟨⟨⟨trivial, rfl⟩, e1⟩, rfl⟩, b1⟩, e2⟩, rfl⟩, e3⟩, rfl⟩, b2⟩, e4⟩ hE rfl rfl rfl
      · rw [decide_eq_false h3]
        have e3 : decide ((hrows.length : Int) > 64) = true := decide_eq_true (by omega)
        exact calls_pureB P14_ok (c20_FFT start hrows brows 0) ⟨⟨⟨⟨⟨⟨⟨trivial, rfl⟩, e1⟩, rfl⟩, b1⟩, e2⟩, rfl⟩, e3⟩ hE rfl rfl rfl
def q20 : Entry := fun args hp nx => match args with
  | [.agg [.str start, hv, bv]] => match slIn hp [.str, .str] hv, slIn hp [.int .u8] bv with
    | some (c1, hrows), some (c2, brows) => some (c1 && (c2 && decide (start.length ≤ 4294967200 ∧ hrows.all short = true ∧ brows.length ≤ 140737488355328)), .bool (spRefRight start hrows brows.length), [])
    | _, _ => none
  | _ => none
theorem q20_ok : EntryOK Tryz.prog 20 q20 := by
  intro args hp nx c v bs h hc ρ w hs hi
  unfold q20 at h
  split at h
  · rename_i start hv bv
    split at h
    · rename_i c1 hrows c2 brows hs1 hs2
      cases h
      simp only [Bool.and_eq_true] at hc
      obtain ⟨hc1, hc2, hc3⟩ := hc
      obtain ⟨g1, g2, g3⟩ := of_decide_eq_true hc3
      obtain ⟨ρ0, hE, e1, e2⟩ := two_ro hs hs1 hc1 hs2 hc2
      refine entry_pure hs rfl ?_
      have hcall := ref_right_calls (start := start) hE g1 g2 g3
      have ea : concL ρ0 [AV.agg [AV.str start, AV.slq 0 hrows.length, AV.slq 1 brows.length]] = concL ρ [AV.agg [.str start, hv, bv]] := by
        show [Value.agg (concL ρ0 [AV.str start, .slq 0 hrows.length, .slq 1 brows.length]).toArray] = _
        simp only [concL]
        rw [e1, e2]
        rfl
      rw [ea] at hcall
      exact hcall
    · cases h
  · cases h
def P15 : Prims := addP P14 20 q20
theorem P15_ok : PrimsOK Tryz.prog P15 := addP_ok P14_ok q20_ok
end Go.Proofs.YtpdgmgkkbbndfaaGreatDoor

set_option maxRecDepth 100000
set_option maxHeartbeats 1600000
set_option linter.unusedVariables false
set_option linter.unusedSimpArgs false
namespace Go.Proofs.YtpdgmgkkbbndfaaGreatDoor
open Go Go.Proofs Go.Proofs.YtpdgmgkkbbndfaaGreatDoor.SX
def b56zI (start : List UInt8) (hrows brows : List (List AV)) (hn bn : Nat) (rows : List (List AV)) (n : Nat) : SL := ⟨[(1, .ptr ⟨2, 0, 0⟩), (3, .sl ⟨3, 0, 0⟩ n .open_), (4, .int .i64 0)], [(0, .cells false [.str, .str] hrows), (1, .cells false [.int .u8] brows), (2, .cells true [.str, .any, .any] [[.str start, .slq 0 hn, .slq 1 bn]]), (3, .cells true [.int .u8] rows)], 4⟩
def b56I (start : List UInt8) (hrows brows : List (List AV)) (hn bn : Nat) (rows : List (List AV)) (n : Nat) (k : Int) : SL := ⟨[(1, .ptr ⟨2, 0, 0⟩), (3, .sl ⟨4, 0, 0⟩ n .open_), (4, .int .i64 k)], [(0, .cells false [.str, .str] hrows), (1, .cells false [.int .u8] brows), (2, .cells true [.str, .any, .any] [[.str start, .slq 0 hn, .slq 1 bn]]), (4, .cells true [.int .u8] rows)], 5⟩
theorem b56z_T (start : List UInt8) (hrows : List (List AV)) (brows : List (List AV)) (hn : Nat) (bn : Nat) (rows : List (List AV)) (n : Nat) :
    Path (run Tryz.prog P15 100 (lbody Tryz.prog 56 0) (SL.mp 42 ([.as_ true]) (b56zI start hrows brows hn bn rows n))) 4 [7] (b56I (start) (hrows) (brows) (hn) (bn) (rows ++ List.map byteRow (AV.toStr (List.getD (List.getD hrows 0 []) 0 AV.undef)) ++ [[AV.int IntKind.u8 (58 : Int)], [AV.int IntKind.u8 (32 : Int)]] ++ List.map byteRow (AV.toStr (List.getD (List.getD hrows 0 []) 1 AV.undef)) ++ [[AV.int IntKind.u8 (13 : Int)], [AV.int IntKind.u8 (10 : Int)]]) (n + List.length (AV.toStr (List.getD (List.getD hrows 0 []) 0 AV.undef)) + 2 + List.length (AV.toStr (List.getD (List.getD hrows 0 []) 1 AV.undef)) + 2) ((1 : Int))) (Ex.normal)
      ((((((((((((((((((True ∧ (true = true)) ∧ (decide ((0 : Int) < (↑hn : Int)) = true)) ∧ (true = true)) ∧ (decide (0 < hn) = true)) ∧ (decide ((0 : Int) ≤ (0 : Int) ∧ (0 : Int) < (↑hn : Int)) = true)) ∧ (decide (0 < List.length hrows) = true)) ∧ (decide (0 = 0 ∧ n = List.length rows) = true)) ∧ (decide ((n + List.length (AV.toStr (List.getD (List.getD hrows 0 []) 0 AV.undef))) * 1 ≤ 140737488355328) = true)) ∧ (decide (0 = 0 ∧ n + List.length (AV.toStr (List.getD (List.getD hrows 0 []) 0 AV.undef)) = List.length (rows ++ List.map byteRow (AV.toStr (List.getD (List.getD hrows 0 []) 0 AV.undef)))) = true)) ∧ (decide ((n + List.length (AV.toStr (List.getD (List.getD hrows 0 []) 0 AV.undef)) + 2) * 1 ≤ 140737488355328) = true)) ∧ (true = true)) ∧ (decide (0 < hn) = true)) ∧ (decide ((0 : Int) ≤ (0 : Int) ∧ (0 : Int) < (↑hn : Int)) = true)) ∧ (decide (0 < List.length hrows) = true)) ∧ (decide (0 = 0 ∧ n + List.length (AV.toStr (List.getD (List.getD hrows 0 []) 0 AV.undef)) + 2 = List.length (rows ++ List.map byteRow (AV.toStr (List.getD (List.getD hrows 0 []) 0 AV.undef)) ++ [[AV.int IntKind.u8 (58 : Int)], [AV.int IntKind.u8 (32 : Int)]])) = true)) ∧ (decide ((n + List.length (AV.toStr (List.getD (List.getD hrows 0 []) 0 AV.undef)) + 2 + List.length (AV.toStr (List.getD (List.getD hrows 0 []) 1 AV.undef))) * 1 ≤ 140737488355328) = true)) ∧ (decide (0 = 0 ∧ n + List.length (AV.toStr (List.getD (List.getD hrows 0 []) 0 AV.undef)) + 2 + List.length (AV.toStr (List.getD (List.getD hrows 0 []) 1 AV.undef)) = List.length (rows ++ List.map byteRow (AV.toStr (List.getD (List.getD hrows 0 []) 0 AV.undef)) ++ [[AV.int IntKind.u8 (58 : Int)], [AV.int IntKind.u8 (32 : Int)]] ++ List.map byteRow (AV.toStr (List.getD (List.getD hrows 0 []) 1 AV.undef)))) = true)) ∧ (decide ((n + List.length (AV.toStr (List.getD (List.getD hrows 0 []) 0 AV.undef)) + 2 + List.length (AV.toStr (List.getD (List.getD hrows 0 []) 1 AV.undef)) + 2) * 1 ≤ 140737488355328) = true)) := by unfold Path; kernel_rfl
theorem b56z_F (start : List UInt8) (hrows : List (List AV)) (brows : List (List AV)) (hn : Nat) (bn : Nat) (rows : List (List AV)) (n : Nat) :
    Path (run Tryz.prog P15 100 (lbody Tryz.prog 56 0) (SL.mp 42 ([.as_ false]) (b56zI start hrows brows hn bn rows n))) 4 [] (b56zI (start) (hrows) (brows) (hn) (bn) (rows) (n)) (Ex.exit 0)
      ((True ∧ (true = true)) ∧ (decide ((0 : Int) < (↑hn : Int)) = false)) := by unfold Path; kernel_rfl
theorem b56_T (start : List UInt8) (hrows : List (List AV)) (brows : List (List AV)) (hn : Nat) (bn : Nat) (rows : List (List AV)) (n : Nat) (k : Int) :
    Path (run Tryz.prog P15 100 (lbody Tryz.prog 56 0) (SL.mp 42 ([.as_ true]) (b56I start hrows brows hn bn rows n k))) 4 [8] (b56I (start) (hrows) (brows) (hn) (bn) (rows ++ List.map byteRow (AV.toStr (List.getD (List.getD hrows (0 + Int.toNat k) []) (0) AV.undef)) ++ [[AV.int IntKind.u8 (58 : Int)], [AV.int IntKind.u8 (32 : Int)]] ++ List.map byteRow (AV.toStr (List.getD (List.getD hrows (0 + Int.toNat k) []) (1) AV.undef)) ++ [[AV.int IntKind.u8 (13 : Int)], [AV.int IntKind.u8 (10 : Int)]]) (n + List.length (AV.toStr (List.getD (List.getD hrows (0 + Int.toNat k) []) (0) AV.undef)) + 2 + List.length (AV.toStr (List.getD (List.getD hrows (0 + Int.toNat k) []) (1) AV.undef)) + 2) (IntKind.wrap IntKind.i64 (k + (1 : Int)))) (Ex.normal)
      ((((((((((((((((((True ∧ (true = true)) ∧ (decide (k < (↑hn : Int)) = true)) ∧ (true = true)) ∧ (decide (0 < hn) = true)) ∧ (decide ((0 : Int) ≤ k ∧ k < (↑hn : Int)) = true)) ∧ (decide (0 + Int.toNat k < List.length hrows) = true)) ∧ (decide (0 = 0 ∧ n = List.length rows) = true)) ∧ (decide ((n + List.length (AV.toStr (List.getD (List.getD hrows (0 + Int.toNat k) []) (0) AV.undef))) * 1 ≤ 140737488355328) = true)) ∧ (decide (0 = 0 ∧ n + List.length (AV.toStr (List.getD (List.getD hrows (0 + Int.toNat k) []) (0) AV.undef)) = List.length (rows ++ List.map byteRow (AV.toStr (List.getD (List.getD hrows (0 + Int.toNat k) []) (0) AV.undef)))) = true)) ∧ (decide ((n + List.length (AV.toStr (List.getD (List.getD hrows (0 + Int.toNat k) []) (0) AV.undef)) + 2) * 1 ≤ 140737488355328) = true)) ∧ (true = true)) ∧ (decide (0 < hn) = true)) ∧ (decide ((0 : Int) ≤ k ∧ k < (↑hn : Int)) = true)) ∧ (decide (0 + Int.toNat k < List.length hrows) = true)) ∧ (decide (0 = 0 ∧ n + List.length (AV.toStr (List.getD (List.getD hrows (0 + Int.toNat k) []) (0) AV.undef)) + 2 = List.length (rows ++ List.map byteRow (AV.toStr (List.getD (List.getD hrows (0 + Int.toNat k) []) (0) AV.undef)) ++ [[AV.int IntKind.u8 (58 : Int)], [AV.int IntKind.u8 (32 : Int)]])) = true)) ∧ (decide ((n + List.length (AV.toStr (List.getD (List.getD hrows (0 + Int.toNat k) []) (0) AV.undef)) + 2 + List.length (AV.toStr (List.getD (List.getD hrows (0 + Int.toNat k) []) (1) AV.undef))) * 1 ≤ 140737488355328) = true)) ∧ (decide (0 = 0 ∧ n + List.length (AV.toStr (List.getD (List.getD hrows (0 + Int.toNat k) []) (0) AV.undef)) + 2 + List.length (AV.toStr (List.getD (List.getD hrows (0 + Int.toNat k) []) (1) AV.undef)) = List.length (rows ++ List.map byteRow (AV.toStr (List.getD (List.getD hrows (0 + Int.toNat k) []) (0) AV.undef)) ++ [[AV.int IntKind.u8 (58 : Int)], [AV.int IntKind.u8 (32 : Int)]] ++ List.map byteRow (AV.toStr (List.getD (List.getD hrows (0 + Int.toNat k) []) (1) AV.undef)))) = true)) ∧ (decide ((n + List.length (AV.toStr (List.getD (List.getD hrows (0 + Int.toNat k) []) (0) AV.undef)) + 2 + List.length (AV.toStr (List.getD (List.getD hrows (0 + Int.toNat k) []) (1) AV.undef)) + 2) * 1 ≤ 140737488355328) = true)) := by unfold Path; kernel_rfl
theorem b56_F (start : List UInt8) (hrows : List (List AV)) (brows : List (List AV)) (hn : Nat) (bn : Nat) (rows : List (List AV)) (n : Nat) (k : Int) :
    Path (run Tryz.prog P15 100 (lbody Tryz.prog 56 0) (SL.mp 42 ([.as_ false]) (b56I start hrows brows hn bn rows n k))) 4 [4] (b56I (start) (hrows) (brows) (hn) (bn) (rows) (n) (k)) (Ex.exit 0)
      ((True ∧ (true = true)) ∧ (decide (k < (↑hn : Int)) = false)) := by unfold Path; kernel_rfl
theorem c56z_L (start : List UInt8) (hrows : List (List AV)) (brows : List (List AV)) (rows : List (List AV)) (n : Nat) :
    Path (runCallB Tryz.prog P15 100 56 [AV.agg [AV.str start, AV.slq 0 (List.length hrows), AV.slq 1 (List.length brows)]] (st0 [Blk.cells false [Kd.str, Kd.str] hrows, Blk.cells false [Kd.int IntKind.u8] brows] ([PI.loop (b56zI start hrows brows (List.length hrows) (List.length brows) (List.map byteRow (start ++ [(13 : UInt8), (10 : UInt8)])) (List.length (start ++ [(13 : UInt8), (10 : UInt8)]))) (Ex.exit 0) (b56zI start hrows brows (List.length hrows) (List.length brows) (List.map byteRow (start ++ [(13 : UInt8), (10 : UInt8)])) (List.length (start ++ [(13 : UInt8), (10 : UInt8)])))]))) 2 [5] (SL.mk [] [(2, .cells true [Kd.int IntKind.u8] (List.map byteRow (start ++ [(13 : UInt8), (10 : UInt8)]) ++ [[AV.int IntKind.u8 (13 : Int)], [AV.int IntKind.u8 (10 : Int)]] ++ sub brows 0 (List.length brows)))] 3) (Out.ret (ren (sig 2 [5]) (AV.sl (Loc.mk 2 0 0) (List.length (start ++ [(13 : UInt8), (10 : UInt8)]) + 2 + List.length brows) Cap.open_)))
      (((((((((True ∧ (true = true)) ∧ (decide (List.length start + 2 ≤ 9223372036854775807) = true)) ∧ (LoopOK Tryz.prog (lbody Tryz.prog 56 0) (42) (SL.mk [(1, AV.ptr (Loc.mk 2 0 0)), (3, AV.sl (Loc.mk 3 0 0) (List.length (start ++ [(13 : UInt8), (10 : UInt8)])) Cap.open_), (4, AV.int IntKind.i64 (0 : Int))] [(0, Blk.cells false [Kd.str, Kd.str] hrows), (1, Blk.cells false [Kd.int IntKind.u8] brows), (2, Blk.cells true [Kd.str, Kd.any, Kd.any] [[AV.str start, AV.slq 0 (List.length hrows), AV.slq 1 (List.length brows)]]), (3, Blk.cells true [Kd.int IntKind.u8] (List.map byteRow (start ++ [(13 : UInt8), (10 : UInt8)])))] 4) (Ex.exit 0) (SL.mk [(1, AV.ptr (Loc.mk 2 0 0)), (3, AV.sl (Loc.mk 3 0 0) (List.length (start ++ [(13 : UInt8), (10 : UInt8)])) Cap.open_), (4, AV.int IntKind.i64 (0 : Int))] [(0, Blk.cells false [Kd.str, Kd.str] hrows), (1, Blk.cells false [Kd.int IntKind.u8] brows), (2, Blk.cells true [Kd.str, Kd.any, Kd.any] [[AV.str start, AV.slq 0 (List.length hrows), AV.slq 1 (List.length brows)]]), (3, Blk.cells true [Kd.int IntKind.u8] (List.map byteRow (start ++ [(13 : UInt8), (10 : UInt8)])))] 4))) ∧ (decide (0 = 0 ∧ List.length (start ++ [(13 : UInt8), (10 : UInt8)]) = List.length (List.map byteRow (start ++ [(13 : UInt8), (10 : UInt8)]))) = true)) ∧ (decide ((List.length (start ++ [(13 : UInt8), (10 : UInt8)]) + 2) * 1 ≤ 140737488355328) = true)) ∧ (true = true)) ∧ (decide (List.length brows ≤ List.length brows) = true)) ∧ (decide (0 = 0 ∧ List.length (start ++ [(13 : UInt8), (10 : UInt8)]) + 2 = List.length (List.map byteRow (start ++ [(13 : UInt8), (10 : UInt8)]) ++ [[AV.int IntKind.u8 (13 : Int)], [AV.int IntKind.u8 (10 : Int)]])) = true)) ∧ (decide ((List.length (start ++ [(13 : UInt8), (10 : UInt8)]) + 2 + List.length brows) * 1 ≤ 140737488355328) = true)) := by unfold Path; kernel_rfl
theorem c56_L (start : List UInt8) (hrows : List (List AV)) (brows : List (List AV)) (rows : List (List AV)) (n : Nat) :
    Path (runCallB Tryz.prog P15 100 56 [AV.agg [AV.str start, AV.slq 0 (List.length hrows), AV.slq 1 (List.length brows)]] (st0 [Blk.cells false [Kd.str, Kd.str] hrows, Blk.cells false [Kd.int IntKind.u8] brows] ([PI.loop (b56zI start hrows brows (List.length hrows) (List.length brows) (List.map byteRow (start ++ [(13 : UInt8), (10 : UInt8)])) (List.length (start ++ [(13 : UInt8), (10 : UInt8)]))) (Ex.exit 0) (b56I start hrows brows (List.length hrows) (List.length brows) rows n (↑(List.length hrows) : Int))]))) 2 [6] (SL.mk [] [(2, .cells true [Kd.int IntKind.u8] (rows ++ [[AV.int IntKind.u8 (13 : Int)], [AV.int IntKind.u8 (10 : Int)]] ++ sub brows 0 (List.length brows)))] 3) (Out.ret (ren (sig 2 [6]) (AV.sl (Loc.mk 2 0 0) (n + 2 + List.length brows) Cap.open_)))
      (((((((((True ∧ (true = true)) ∧ (decide (List.length start + 2 ≤ 9223372036854775807) = true)) ∧ (LoopOK Tryz.prog (lbody Tryz.prog 56 0) (42) (SL.mk [(1, AV.ptr (Loc.mk 2 0 0)), (3, AV.sl (Loc.mk 3 0 0) (List.length (start ++ [(13 : UInt8), (10 : UInt8)])) Cap.open_), (4, AV.int IntKind.i64 (0 : Int))] [(0, Blk.cells false [Kd.str, Kd.str] hrows), (1, Blk.cells false [Kd.int IntKind.u8] brows), (2, Blk.cells true [Kd.str, Kd.any, Kd.any] [[AV.str start, AV.slq 0 (List.length hrows), AV.slq 1 (List.length brows)]]), (3, Blk.cells true [Kd.int IntKind.u8] (List.map byteRow (start ++ [(13 : UInt8), (10 : UInt8)])))] 4) (Ex.exit 0) (SL.mk [(1, AV.ptr (Loc.mk 2 0 0)), (3, AV.sl (Loc.mk 4 0 0) n Cap.open_), (4, AV.int IntKind.i64 (↑(List.length hrows) : Int))] [(0, Blk.cells false [Kd.str, Kd.str] hrows), (1, Blk.cells false [Kd.int IntKind.u8] brows), (2, Blk.cells true [Kd.str, Kd.any, Kd.any] [[AV.str start, AV.slq 0 (List.length hrows), AV.slq 1 (List.length brows)]]), (4, Blk.cells true [Kd.int IntKind.u8] rows)] 5))) ∧ (decide (0 = 0 ∧ n = List.length rows) = true)) ∧ (decide ((n + 2) * 1 ≤ 140737488355328) = true)) ∧ (true = true)) ∧ (decide (List.length brows ≤ List.length brows) = true)) ∧ (decide (0 = 0 ∧ n + 2 = List.length (rows ++ [[AV.int IntKind.u8 (13 : Int)], [AV.int IntKind.u8 (10 : Int)]])) = true)) ∧ (decide ((n + 2 + List.length brows) * 1 ≤ 140737488355328) = true)) := by unfold Path; kernel_rfl
def txtAt (start : List UInt8) (rows : List (List AV)) (k : Nat) : List UInt8 := start ++ [13, 10] ++ hdrText (rows.take k)
theorem txt_succ (start : List UInt8) {rows : List (List AV)} {k : Nat} (h : k < rows.length) : byteRows (txtAt start rows (k + 1)) = byteRows (txtAt start rows k) ++ List.map byteRow (hN rows[k]) ++ [[AV.int IntKind.u8 (58 : Int)], [AV.int IntKind.u8 (32 : Int)]] ++ List.map byteRow (hV rows[k]) ++ [[AV.int IntKind.u8 (13 : Int)], [AV.int IntKind.u8 (10 : Int)]] := by
  unfold txtAt hdrText byteRows
  rw [take_snoc h]
  simp only [List.map_append, List.flatten_append, List.map_cons, List.map_nil, List.flatten_cons, List.flatten_nil, List.append_nil, hdrLine, List.append_assoc]
  rfl
theorem txt_len (start : List UInt8) (rows : List (List AV)) (k : Nat) : (txtAt start rows k).length = start.length + 2 + hSize (rows.take k) := by
  unfold txtAt
  simp only [List.length_append, List.length_cons, List.length_nil, hdrText_len]
def I56 (start : List UInt8) (rows brows : List (List AV)) (bn : Nat) : Nat → SL
  | 0 => b56zI start rows brows rows.length bn (byteRows (txtAt start rows 0)) (txtAt start rows 0).length
  | k + 1 => b56I start rows brows rows.length bn (byteRows (txtAt start rows (k + 1))) (txtAt start rows (k + 1)).length ((k + 1 : Nat) : Int)
theorem text_loop {start : List UInt8} {rows brows : List (List AV)} {bn : Nat} (hst : start.length ≤ 4294967200) (hlen : rows.length ≤ 1000) (hs : rows.all short = true) :
    LoopOK Tryz.prog (lbody Tryz.prog 56 0) 42 (I56 start rows brows bn 0) (.exit 0) (I56 start rows brows bn rows.length) := by
  refine loop_rule (I := I56 start rows brows bn) (pre := fun k => k ≤ rows.length) (μ := fun k => rows.length - k) _ _ rfl (fun ρ => by simp [Ex.conc]) ?_ (x0 := 0) (pick := []) (Nat.zero_le _) ⟨by kernel_rfl, map_fst_snd (by kernel_rfl)⟩
  intro k hk
  by_cases h : k < rows.length
  · left
    refine ⟨k + 1, by omega, by omega, ?_⟩
    have w := succ64 (n := rows.length) h (by omega)
    have hsh := short_at hs h
    have hsz := hSize_le hs k
    have hk9 : k * 8589934404 ≤ 1000 * 8589934404 := Nat.mul_le_mul_right _ (by omega)
    have htl := txt_len start rows k
    have hlen : (byteRows (txtAt start rows k)).length = (txtAt start rows k).length := byteRows_length _
    have hr := row_at h
    have b1 : ((txtAt start rows k).length + (AV.toStr (List.getD rows[k] 0 AV.undef)).length) * 1 ≤ 140737488355328 := by unfold hN hV at hsh; omega
    have b2 : ((txtAt start rows k).length + (AV.toStr (List.getD rows[k] 0 AV.undef)).length + 2) * 1 ≤ 140737488355328 := by unfold hN hV at hsh; omega
    have b3 : ((txtAt start rows k).length + (AV.toStr (List.getD rows[k] 0 AV.undef)).length + 2 + (AV.toStr (List.getD rows[k] 1 AV.undef)).length) * 1 ≤ 140737488355328 := by unfold hN hV at hsh; omega
    have b4 : ((txtAt start rows k).length + (AV.toStr (List.getD rows[k] 0 AV.undef)).length + 2 + (AV.toStr (List.getD rows[k] 1 AV.undef)).length + 2) * 1 ≤ 140737488355328 := by unfold hN hV at hsh; omega
    have e1 : byteRows (txtAt start rows k) ++ List.map byteRow (AV.toStr (List.getD rows[k] 0 AV.undef)) ++ [[AV.int IntKind.u8 (58 : Int)], [AV.int IntKind.u8 (32 : Int)]] ++ List.map byteRow (AV.toStr (List.getD rows[k] 1 AV.undef)) ++ [[AV.int IntKind.u8 (13 : Int)], [AV.int IntKind.u8 (10 : Int)]] = byteRows (txtAt start rows (k + 1)) := (txt_succ start h).symm
    have e2 : (txtAt start rows k).length + (AV.toStr (List.getD rows[k] 0 AV.undef)).length + 2 + (AV.toStr (List.getD rows[k] 1 AV.undef)).length + 2 = (txtAt start rows (k + 1)).length := by
      rw [txt_len, txt_len, hSize_succ h]
      unfold hLen hN hV
      omega
    cases k with
    | zero =>
      have hr : rows.getD 0 [] = rows[0] := hr
      have c1 : decide ((0 : Int) < ((rows.length : Nat) : Int)) = true := decide_eq_true (by omega)
      have c2 : decide (0 < rows.length) = true := decide_eq_true h
      have c3 : decide ((0 : Int) ≤ (0 : Int) ∧ (0 : Int) < ((rows.length : Nat) : Int)) = true := decide_eq_true (by omega)
      have c4 := c2
      refine body_by P15_ok (b56z_T start rows brows rows.length bn (byteRows (txtAt start rows 0)) (txtAt start rows 0).length) ?_ (by rw [hr]; exact ⟨⟨⟨⟨⟨⟨⟨⟨⟨⟨⟨⟨⟨⟨⟨⟨⟨⟨trivial, rfl⟩, c1⟩, rfl⟩, c2⟩, c3⟩, c4⟩, (decide_eq_true ⟨rfl, by simp only [List.length_append, List.length_map, List.length_cons, List.length_nil, hlen]⟩)⟩, (decide_eq_true b1)⟩, (decide_eq_true ⟨rfl, by simp only [List.length_append, List.length_map, List.length_cons, List.length_nil, hlen]⟩)⟩, (decide_eq_true b2)⟩, rfl⟩, c2⟩, c3⟩, c4⟩, (decide_eq_true ⟨rfl, by simp only [List.length_append, List.length_map, List.length_cons, List.length_nil, hlen]⟩)⟩, (decide_eq_true b3)⟩, (decide_eq_true ⟨rfl, by simp only [List.length_append, List.length_map, List.length_cons, List.length_nil, hlen]⟩)⟩, (decide_eq_true b4)⟩) rfl
      rw [hr, e1, e2]
      rfl
    | succ k =>
      have c1 : decide (((k + 1 : Nat) : Int) < ((rows.length : Nat) : Int)) = true := decide_eq_true (by omega)
      have c2 : decide (0 < rows.length) = true := decide_eq_true (by omega)
      have c3 : decide ((0 : Int) ≤ ((k + 1 : Nat) : Int) ∧ ((k + 1 : Nat) : Int) < ((rows.length : Nat) : Int)) = true := decide_eq_true (by omega)
      have c4 : decide (0 + Int.toNat ((k + 1 : Nat) : Int) < rows.length) = true := decide_eq_true (by simp only [Int.toNat_natCast]; omega)
      refine body_by P15_ok (b56_T start rows brows rows.length bn (byteRows (txtAt start rows (k + 1))) (txtAt start rows (k + 1)).length ((k + 1 : Nat) : Int)) ?_ (by rw [hr]; exact ⟨⟨⟨⟨⟨⟨⟨⟨⟨⟨⟨⟨⟨⟨⟨⟨⟨⟨trivial, rfl⟩, c1⟩, rfl⟩, c2⟩, c3⟩, c4⟩, (decide_eq_true ⟨rfl, by simp only [List.length_append, List.length_map, List.length_cons, List.length_nil, hlen]⟩)⟩, (decide_eq_true b1)⟩, (decide_eq_true ⟨rfl, by simp only [List.length_append, List.length_map, List.length_cons, List.length_nil, hlen]⟩)⟩, (decide_eq_true b2)⟩, rfl⟩, c2⟩, c3⟩, c4⟩, (decide_eq_true ⟨rfl, by simp only [List.length_append, List.length_map, List.length_cons, List.length_nil, hlen]⟩)⟩, (decide_eq_true b3)⟩, (decide_eq_true ⟨rfl, by simp only [List.length_append, List.length_map, List.length_cons, List.length_nil, hlen]⟩)⟩, (decide_eq_true b4)⟩) rfl
      rw [hr, w, e1, e2]
      rfl
  · right
    have hk' : k = rows.length := by omega
    have c1 : decide (((k : Nat) : Int) < ((rows.length : Nat) : Int)) = false := decide_eq_false (by omega)
    rw [← hk']
    cases k with
    | zero => exact body_by P15_ok (b56z_F start rows brows rows.length bn _ _) rfl ⟨⟨trivial, rfl⟩, c1⟩ rfl
    | succ k => exact body_by P15_ok (b56_F start rows brows rows.length bn _ _ _) rfl ⟨⟨trivial, rfl⟩, c1⟩ rfl
def spTextB (start : List UInt8) (hrows brows : List (List AV)) : List (List AV) := byteRows (start ++ [13, 10] ++ hdrText hrows ++ [13, 10]) ++ brows
theorem text_calls {start : List UInt8} {hrows brows : List (List AV)} {ρ : Nat → BI} {w : World} (hE : HSim ρ (addBlks .e 0 [Blk.cells false [Kd.str, Kd.str] hrows, Blk.cells false [Kd.int IntKind.u8] brows]) ([Blk.cells false [Kd.str, Kd.str] hrows, Blk.cells false [Kd.int IntKind.u8] brows] : List Blk).length w)
    (hst : start.length ≤ 4294967200) (hlen : hrows.length ≤ 1000) (hs : hrows.all short = true) (hbn : brows.length ≤ 4398046511104) :
    Calls Tryz.prog 56 (concL ρ [.agg [.str start, .slq 0 hrows.length, .slq 1 brows.length]]).toArray w (fun e w' => (∃ v, e = .returned v ∧ NewSl w.heap.size w' [.int .u8] (spTextB start hrows brows) v) ∧ Ext w w') := by
  have hL := text_loop (start := start) (rows := hrows) (brows := brows) (bn := brows.length) hst hlen hs
  have hsz := hSize_le hs hrows.length
  have hk9 : hrows.length * 8589934404 ≤ 1000 * 8589934404 := Nat.mul_le_mul_right _ hlen
  have htl := txt_len start hrows hrows.length
  have hro := ro_two hrows brows
  have e0 : txtAt start hrows 0 = start ++ [(13 : UInt8), (10 : UInt8)] := by simp [txtAt, hdrText]
  have er : byteRows (txtAt start hrows hrows.length) ++ [[AV.int IntKind.u8 (13 : Int)], [AV.int IntKind.u8 (10 : Int)]] ++ sub brows 0 (List.length brows) = spTextB start hrows brows := by
    rw [sub_all brows rfl]
    unfold spTextB txtAt byteRows
    rw [List.take_length]
    simp only [List.map_append, List.append_assoc]
    rfl
  have en : (txtAt start hrows hrows.length).length + 2 + brows.length = (spTextB start hrows brows).length := by
    rw [← er]
    simp only [List.length_append, byteRows_length, List.length_cons, List.length_nil, sub_all brows rfl]
  by_cases hn : hrows.length = 0
  · have e1 : txtAt start hrows hrows.length = start ++ [(13 : UInt8), (10 : UInt8)] := by rw [hn]; exact e0
    have hl : LoopOK Tryz.prog (lbody Tryz.prog 56 0) 42 (b56zI start hrows brows hrows.length brows.length (List.map byteRow (start ++ [(13 : UInt8), (10 : UInt8)])) (List.length (start ++ [(13 : UInt8), (10 : UInt8)]))) (.exit 0) (b56zI start hrows brows hrows.length brows.length (List.map byteRow (start ++ [(13 : UInt8), (10 : UInt8)])) (List.length (start ++ [(13 : UInt8), (10 : UInt8)]))) := by
      have h8 : I56 start hrows brows brows.length hrows.length = I56 start hrows brows brows.length 0 := congrArg _ hn
      rw [h8] at hL
      unfold I56 at hL
      rw [e0] at hL
      exact hL
    have hl2 : (start ++ [(13 : UInt8), (10 : UInt8)]).length = start.length + 2 := by simp
    refine (calls_ofB P15_ok (c56z_L start hrows brows [] 0) ⟨⟨⟨⟨⟨⟨⟨⟨⟨trivial, rfl⟩, (decide_eq_true (by first | omega | exact Nat.le_refl _))⟩, hl⟩, (decide_eq_true ⟨rfl, by simp only [List.length_append, List.length_map, List.length_cons, List.length_nil, byteRows_length]⟩)⟩, (decide_eq_true (by first | omega | exact Nat.le_refl _))⟩, rfl⟩, (decide_eq_true (by first | omega | exact Nat.le_refl _))⟩, (decide_eq_true ⟨rfl, by simp only [List.length_append, List.length_map, List.length_cons, List.length_nil, byteRows_length]⟩)⟩, (decide_eq_true (by first | omega | exact Nat.le_refl _))⟩ hE rfl).mono fun e w' hq => ?_
    obtain ⟨ρ', rfl, st⟩ := hq
    rw [e1] at er en
    have er' : List.map byteRow (start ++ [(13 : UInt8), (10 : UInt8)]) ++ [[AV.int IntKind.u8 (13 : Int)], [AV.int IntKind.u8 (10 : Int)]] ++ sub brows 0 (List.length brows) = spTextB start hrows brows := er
    rw [er'] at st
    rw [en]
    exact ⟨⟨_, rfl, NewSl.of_rw st (by rw [ofList_cons, if_pos rfl]) hro rfl rfl⟩, st.below hro⟩
  · obtain ⟨k, hn⟩ := Nat.exists_eq_succ_of_ne_zero hn
    have hl : LoopOK Tryz.prog (lbody Tryz.prog 56 0) 42 (b56zI start hrows brows hrows.length brows.length (List.map byteRow (start ++ [(13 : UInt8), (10 : UInt8)])) (List.length (start ++ [(13 : UInt8), (10 : UInt8)]))) (.exit 0) (b56I start hrows brows hrows.length brows.length (byteRows (txtAt start hrows hrows.length)) (txtAt start hrows hrows.length).length (hrows.length : Int)) := by
      have h8 : I56 start hrows brows brows.length hrows.length = I56 start hrows brows brows.length (k + 1) := congrArg _ hn
      have h9 : I56 start hrows brows brows.length (k + 1) = b56I start hrows brows hrows.length brows.length (byteRows (txtAt start hrows (k + 1))) (txtAt start hrows (k + 1)).length ((k + 1 : Nat) : Int) := rfl
      rw [h8, h9, ← Nat.succ_eq_add_one, ← hn] at hL
      unfold I56 at hL
      rw [e0] at hL
      exact hL
    refine (calls_ofB P15_ok (c56_L start hrows brows (byteRows (txtAt start hrows hrows.length)) (txtAt start hrows hrows.length).length) ⟨⟨⟨⟨⟨⟨⟨⟨⟨trivial, rfl⟩, (decide_eq_true (by first | omega | exact Nat.le_refl _))⟩, hl⟩, (decide_eq_true ⟨rfl, by simp only [List.length_append, List.length_map, List.length_cons, List.length_nil, byteRows_length]⟩)⟩, (decide_eq_true (by first | omega | exact Nat.le_refl _))⟩, rfl⟩, (decide_eq_true (by first | omega | exact Nat.le_refl _))⟩, (decide_eq_true ⟨rfl, by simp only [List.length_append, List.length_map, List.length_cons, List.length_nil, byteRows_length]⟩)⟩, (decide_eq_true (by first | omega | exact Nat.le_refl _))⟩ hE rfl).mono fun e w' hq => ?_
    obtain ⟨ρ', rfl, st⟩ := hq
    rw [er] at st
    rw [en]
    exact ⟨⟨_, rfl, NewSl.of_rw st (by rw [ofList_cons, if_pos rfl]) hro rfl rfl⟩, st.below hro⟩
def q56 : Entry := fun args hp nx => match args with
  | [.agg [.str start, hv, bv]] => match slIn hp [.str, .str] hv, slIn hp [.int .u8] bv with
    | some (c1, hrows), some (c2, brows) => some (c1 && (c2 && decide (start.length ≤ 4294967200 ∧ hrows.length ≤ 1000 ∧ hrows.all short = true ∧ brows.length ≤ 4398046511104)), .slq nx (spTextB start hrows brows).length, [.cells false [.int .u8] (spTextB start hrows brows)])
    | _, _ => none
  | _ => none
theorem q56_ok : EntryOK Tryz.prog 56 q56 := by
  intro args hp nx c v bs h hc ρ w hs hi
  unfold q56 at h
  split at h
  · rename_i start hv bv
    split at h
    · rename_i c1 hrows c2 brows hs1 hs2
      cases h
      simp only [Bool.and_eq_true] at hc
      obtain ⟨hc1, hc2, hc3⟩ := hc
      obtain ⟨g1, g2, g3, g4⟩ := of_decide_eq_true hc3
      obtain ⟨ρ0, hE, e1, e2⟩ := two_ro hs hs1 hc1 hs2 hc2
      have hcall := text_calls (start := start) hE g1 g2 g3 g4
      have ea : concL ρ0 [AV.agg [AV.str start, AV.slq 0 hrows.length, AV.slq 1 brows.length]] = concL ρ [AV.agg [.str start, hv, bv]] := by
        show [Value.agg (concL ρ0 [AV.str start, .slq 0 hrows.length, .slq 1 brows.length]).toArray] = _
        simp only [concL]
        rw [e1, e2]
        rfl
      rw [ea] at hcall
      refine hcall.mono fun e w' hq => ?_
      obtain ⟨⟨v, rfl, b1, n1, k1⟩, he⟩ := hq
      have x1 : extB ρ nx [b1] nx = b1 := by have := extB_new ρ nx [b1] 0; simpa using this
      have st := HStep.bis (bs := [Blk.cells false [.int .u8] (spTextB start hrows brows)]) [b1] hs he (fun i blk hi => by
        match i with
        | 0 => simp at hi; subst hi; exact ⟨rfl, n1, rfl, fun ρ' b hb => (k1 ρ' b hb).2⟩
        | i + 1 => simp at hi)
      refine ⟨_, ?_, ?_, st⟩
      · rw [(k1 _ _ x1).1]
      · exact (blt_iff _ _).2 (Nat.lt_succ_self _)
    · cases h
  · cases h
end Go.Proofs.YtpdgmgkkbbndfaaGreatDoor

set_option maxRecDepth 100000
set_option maxHeartbeats 1600000
set_option linter.unusedVariables false
set_option linter.unusedSimpArgs false
namespace Go.Proofs.YtpdgmgkkbbndfaaGreatDoor
open Go Go.Proofs Go.Proofs.YtpdgmgkkbbndfaaGreatDoor.SX
def b28I (s1 s2 : List UInt8) (h1 h2 : List (List AV)) (n1 n2 m1 m2 : Nat) (k : Int) : SL := ⟨[(2, .ptr ⟨4, 0, 0⟩), (3, .ptr ⟨5, 0, 0⟩), (5, .int .i64 k)], [(0, .cells false [.str, .str] h1), (2, .cells false [.str, .str] h2), (4, .cells true [.str, .any, .any] [[.str s1, .slq 0 n1, .slq 1 m1]]), (5, .cells true [.str, .any, .any] [[.str s2, .slq 2 n2, .slq 3 m2]])], 6⟩
theorem b28_TT (s1 : List UInt8) (s2 : List UInt8) (h1 : List (List AV)) (h2 : List (List AV)) (n1 : Nat) (n2 : Nat) (m1 : Nat) (m2 : Nat) (k : Int) :
    Path (run Tryz.prog P15 100 (lbody Tryz.prog 28 0) (SL.mp 47 ([.as_ true, .as_ true]) (b28I s1 s2 h1 h2 n1 n2 m1 m2 k))) 6 [] (SL.mk [(4, AV.lit false)] [] 6) (Ex.ret)
      (((((((((((True ∧ (true = true)) ∧ (decide (k < (↑n1 : Int)) = true)) ∧ (true = true)) ∧ (decide (0 < n1) = true)) ∧ (decide ((0 : Int) ≤ k ∧ k < (↑n1 : Int)) = true)) ∧ (decide (0 + Int.toNat k < List.length h1) = true)) ∧ (true = true)) ∧ (decide (0 < n2) = true)) ∧ (decide ((0 : Int) ≤ k ∧ k < (↑n2 : Int)) = true)) ∧ (decide (0 + Int.toNat k < List.length h2) = true)) ∧ ((!(AV.toStr (List.getD (List.getD h1 (0 + Int.toNat k) []) (0) AV.undef) == AV.toStr (List.getD (List.getD h2 (0 + Int.toNat k) []) (0) AV.undef) && AV.toStr (List.getD (List.getD h1 (0 + Int.toNat k) []) (1) AV.undef) == AV.toStr (List.getD (List.getD h2 (0 + Int.toNat k) []) (1) AV.undef))) = true)) := by unfold Path; kernel_rfl
theorem b28_TF (s1 : List UInt8) (s2 : List UInt8) (h1 : List (List AV)) (h2 : List (List AV)) (n1 : Nat) (n2 : Nat) (m1 : Nat) (m2 : Nat) (k : Int) :
    Path (run Tryz.prog P15 100 (lbody Tryz.prog 28 0) (SL.mp 47 ([.as_ true, .as_ false]) (b28I s1 s2 h1 h2 n1 n2 m1 m2 k))) 6 [] (b28I (s1) (s2) (h1) (h2) (n1) (n2) (m1) (m2) (IntKind.wrap IntKind.i64 (k + (1 : Int)))) (Ex.normal)
      (((((((((((True ∧ (true = true)) ∧ (decide (k < (↑n1 : Int)) = true)) ∧ (true = true)) ∧ (decide (0 < n1) = true)) ∧ (decide ((0 : Int) ≤ k ∧ k < (↑n1 : Int)) = true)) ∧ (decide (0 + Int.toNat k < List.length h1) = true)) ∧ (true = true)) ∧ (decide (0 < n2) = true)) ∧ (decide ((0 : Int) ≤ k ∧ k < (↑n2 : Int)) = true)) ∧ (decide (0 + Int.toNat k < List.length h2) = true)) ∧ ((!(AV.toStr (List.getD (List.getD h1 (0 + Int.toNat k) []) (0) AV.undef) == AV.toStr (List.getD (List.getD h2 (0 + Int.toNat k) []) (0) AV.undef) && AV.toStr (List.getD (List.getD h1 (0 + Int.toNat k) []) (1) AV.undef) == AV.toStr (List.getD (List.getD h2 (0 + Int.toNat k) []) (1) AV.undef))) = false)) := by unfold Path; kernel_rfl
theorem b28_F (s1 : List UInt8) (s2 : List UInt8) (h1 : List (List AV)) (h2 : List (List AV)) (n1 : Nat) (n2 : Nat) (m1 : Nat) (m2 : Nat) (k : Int) :
    Path (run Tryz.prog P15 100 (lbody Tryz.prog 28 0) (SL.mp 47 ([.as_ false]) (b28I s1 s2 h1 h2 n1 n2 m1 m2 k))) 6 [] (SL.mk [] [] 6) (Ex.exit 0)
      ((True ∧ (true = true)) ∧ (decide (k < (↑n1 : Int)) = false)) := by unfold Path; kernel_rfl
theorem c28_T (s1 : List UInt8) (s2 : List UInt8) (h1 : List (List AV)) (b1 : List (List AV)) (h2 : List (List AV)) (b2 : List (List AV)) :
    Path (runCallB Tryz.prog P15 100 28 [AV.agg [AV.str s1, AV.slq 0 (List.length h1), AV.slq 1 (List.length b1)], AV.agg [AV.str s2, AV.slq 2 (List.length h2), AV.slq 3 (List.length b2)]] (st0 [Blk.cells false [Kd.str, Kd.str] h1, Blk.cells false [Kd.int IntKind.u8] b1, Blk.cells false [Kd.str, Kd.str] h2, Blk.cells false [Kd.int IntKind.u8] b2] ([.as_ true]))) 4 [] (SL.mk [] [] 4) (Out.ret (AV.lit false))
      (((True ∧ (true = true)) ∧ (true = true)) ∧ ((!s1 == s2) = true)) := by unfold Path; kernel_rfl
theorem c28_FT (s1 : List UInt8) (s2 : List UInt8) (h1 : List (List AV)) (b1 : List (List AV)) (h2 : List (List AV)) (b2 : List (List AV)) :
    Path (runCallB Tryz.prog P15 100 28 [AV.agg [AV.str s1, AV.slq 0 (List.length h1), AV.slq 1 (List.length b1)], AV.agg [AV.str s2, AV.slq 2 (List.length h2), AV.slq 3 (List.length b2)]] (st0 [Blk.cells false [Kd.str, Kd.str] h1, Blk.cells false [Kd.int IntKind.u8] b1, Blk.cells false [Kd.str, Kd.str] h2, Blk.cells false [Kd.int IntKind.u8] b2] ([.as_ false, .as_ true]))) 4 [] (SL.mk [] [] 4) (Out.ret (AV.lit false))
      ((((((True ∧ (true = true)) ∧ (true = true)) ∧ ((!s1 == s2) = false)) ∧ (true = true)) ∧ (true = true)) ∧ ((!(↑(List.length h1) : Int) == (↑(List.length h2) : Int)) = true)) := by unfold Path; kernel_rfl
theorem c28_FFT (s1 : List UInt8) (s2 : List UInt8) (h1 : List (List AV)) (b1 : List (List AV)) (h2 : List (List AV)) (b2 : List (List AV)) :
    Path (runCallB Tryz.prog P15 100 28 [AV.agg [AV.str s1, AV.slq 0 (List.length h1), AV.slq 1 (List.length b1)], AV.agg [AV.str s2, AV.slq 2 (List.length h2), AV.slq 3 (List.length b2)]] (st0 [Blk.cells false [Kd.str, Kd.str] h1, Blk.cells false [Kd.int IntKind.u8] b1, Blk.cells false [Kd.str, Kd.str] h2, Blk.cells false [Kd.int IntKind.u8] b2] ([.as_ false, .as_ false, .as_ true]))) 4 [] (SL.mk [] [] 4) (Out.ret (AV.lit false))
      (((((((((((True ∧ (true = true)) ∧ (true = true)) ∧ ((!s1 == s2) = false)) ∧ (true = true)) ∧ (true = true)) ∧ ((!(↑(List.length h1) : Int) == (↑(List.length h2) : Int)) = false)) ∧ (true = true)) ∧ (decide (0 + List.length b1 ≤ List.length b1) = true)) ∧ (true = true)) ∧ (decide (0 + List.length b2 ≤ List.length b2) = true)) ∧ ((!List.map rowByte (sub b1 0 (List.length b1)) == List.map rowByte (sub b2 0 (List.length b2))) = true)) := by unfold Path; kernel_rfl
theorem c28_FFFL (s1 : List UInt8) (s2 : List UInt8) (h1 : List (List AV)) (b1 : List (List AV)) (h2 : List (List AV)) (b2 : List (List AV)) :
    Path (runCallB Tryz.prog P15 100 28 [AV.agg [AV.str s1, AV.slq 0 (List.length h1), AV.slq 1 (List.length b1)], AV.agg [AV.str s2, AV.slq 2 (List.length h2), AV.slq 3 (List.length b2)]] (st0 [Blk.cells false [Kd.str, Kd.str] h1, Blk.cells false [Kd.int IntKind.u8] b1, Blk.cells false [Kd.str, Kd.str] h2, Blk.cells false [Kd.int IntKind.u8] b2] ([.as_ false, .as_ false, .as_ false, PI.loop (b28I s1 s2 h1 h2 (List.length h1) (List.length h2) (List.length b1) (List.length b2) (0 : Int)) (Ex.exit 0) (SL.mk [] [] 6)]))) 4 [] (SL.mk [] [] 4) (Out.ret (AV.lit true))
      ((((((((((((True ∧ (true = true)) ∧ (true = true)) ∧ ((!s1 == s2) = false)) ∧ (true = true)) ∧ (true = true)) ∧ ((!(↑(List.length h1) : Int) == (↑(List.length h2) : Int)) = false)) ∧ (true = true)) ∧ (decide (0 + List.length b1 ≤ List.length b1) = true)) ∧ (true = true)) ∧ (decide (0 + List.length b2 ≤ List.length b2) = true)) ∧ ((!List.map rowByte (sub b1 0 (List.length b1)) == List.map rowByte (sub b2 0 (List.length b2))) = false)) ∧ (LoopOK Tryz.prog (lbody Tryz.prog 28 0) (47) (SL.mk [(2, AV.ptr (Loc.mk 4 0 0)), (3, AV.ptr (Loc.mk 5 0 0)), (5, AV.int IntKind.i64 (0 : Int))] [(0, Blk.cells false [Kd.str, Kd.str] h1), (2, Blk.cells false [Kd.str, Kd.str] h2), (4, Blk.cells true [Kd.str, Kd.any, Kd.any] [[AV.str s1, AV.slq 0 (List.length h1), AV.slq 1 (List.length b1)]]), (5, Blk.cells true [Kd.str, Kd.any, Kd.any] [[AV.str s2, AV.slq 2 (List.length h2), AV.slq 3 (List.length b2)]])] 6) (Ex.exit 0) (SL.mk [] [] 6))) := by unfold Path; kernel_rfl
theorem c28r_FFFL (s1 : List UInt8) (s2 : List UInt8) (h1 : List (List AV)) (b1 : List (List AV)) (h2 : List (List AV)) (b2 : List (List AV)) :
    Path (runCallB Tryz.prog P15 100 28 [AV.agg [AV.str s1, AV.slq 0 (List.length h1), AV.slq 1 (List.length b1)], AV.agg [AV.str s2, AV.slq 2 (List.length h2), AV.slq 3 (List.length b2)]] (st0 [Blk.cells false [Kd.str, Kd.str] h1, Blk.cells false [Kd.int IntKind.u8] b1, Blk.cells false [Kd.str, Kd.str] h2, Blk.cells false [Kd.int IntKind.u8] b2] ([.as_ false, .as_ false, .as_ false, PI.loop (b28I s1 s2 h1 h2 (List.length h1) (List.length h2) (List.length b1) (List.length b2) (0 : Int)) Ex.ret (SL.mk [(4, AV.lit false)] [] 6)]))) 4 [] (SL.mk [] [] 4) (Out.ret (AV.lit false))
      ((((((((((((True ∧ (true = true)) ∧ (true = true)) ∧ ((!s1 == s2) = false)) ∧ (true = true)) ∧ (true = true)) ∧ ((!(↑(List.length h1) : Int) == (↑(List.length h2) : Int)) = false)) ∧ (true = true)) ∧ (decide (0 + List.length b1 ≤ List.length b1) = true)) ∧ (true = true)) ∧ (decide (0 + List.length b2 ≤ List.length b2) = true)) ∧ ((!List.map rowByte (sub b1 0 (List.length b1)) == List.map rowByte (sub b2 0 (List.length b2))) = false)) ∧ (LoopOK Tryz.prog (lbody Tryz.prog 28 0) (47) (SL.mk [(2, AV.ptr (Loc.mk 4 0 0)), (3, AV.ptr (Loc.mk 5 0 0)), (5, AV.int IntKind.i64 (0 : Int))] [(0, Blk.cells false [Kd.str, Kd.str] h1), (2, Blk.cells false [Kd.str, Kd.str] h2), (4, Blk.cells true [Kd.str, Kd.any, Kd.any] [[AV.str s1, AV.slq 0 (List.length h1), AV.slq 1 (List.length b1)]]), (5, Blk.cells true [Kd.str, Kd.any, Kd.any] [[AV.str s2, AV.slq 2 (List.length h2), AV.slq 3 (List.length b2)]])] 6) Ex.ret (SL.mk [(4, AV.lit false)] [] 6))) := by unfold Path; kernel_rfl
def spSameM (s1 : List UInt8) (h1 b1 : List (List AV)) (s2 : List UInt8) (h2 b2 : List (List AV)) : Bool := (s1 == s2) && (spEqH h1 h2 && (List.map rowByte b1 == List.map rowByte b2))
theorem s28_round {s1 s2 : List UInt8} {h1 h2 : List (List AV)} {m1 m2 : Nat} (he : h1.length = h2.length) (hl : h1.length ≤ 4611686018427387904) {k : Nat} (h : k < h1.length) :
    (eqAt h1 h2 k = true → BodyOK Tryz.prog (lbody Tryz.prog 28 0) 47 6 (b28I s1 s2 h1 h2 h1.length h2.length m1 m2 (k : Int)) .normal (b28I s1 s2 h1 h2 h1.length h2.length m1 m2 ((k + 1 : Nat) : Int))) ∧
    (eqAt h1 h2 k = false → BodyOK Tryz.prog (lbody Tryz.prog 28 0) 47 6 (b28I s1 s2 h1 h2 h1.length h2.length m1 m2 (k : Int)) .ret ⟨[(4, .lit false)], [], 6⟩) := by
  have w := succ64 (n := h1.length) h hl
  have c1 : decide ((k : Int) < ((h1.length : Nat) : Int)) = true := decide_eq_true (by omega)
  have c2 : decide (0 < h1.length) = true := decide_eq_true (by omega)
  have c2b : decide (0 < h2.length) = true := decide_eq_true (by omega)
  have c3 : decide ((0 : Int) ≤ (k : Int) ∧ (k : Int) < ((h1.length : Nat) : Int)) = true := decide_eq_true (by omega)
  have c3b : decide ((0 : Int) ≤ (k : Int) ∧ (k : Int) < ((h2.length : Nat) : Int)) = true := decide_eq_true (by omega)
  have c4 : decide (0 + Int.toNat (k : Int) < h1.length) = true := decide_eq_true (by simp only [Int.toNat_natCast]; omega)
  have c4b : decide (0 + Int.toNat (k : Int) < h2.length) = true := decide_eq_true (by simp only [Int.toNat_natCast]; omega)
  refine ⟨fun hx => ?_, fun hx => ?_⟩
  · have hq : (!eqAt h1 h2 k) = false := by rw [hx]; rfl
    exact body_by P15_ok (b28_TF s1 s2 h1 h2 h1.length h2.length m1 m2 k) (by rw [w]) ⟨⟨⟨⟨⟨⟨⟨⟨⟨⟨⟨trivial, rfl⟩, c1⟩, rfl⟩, c2⟩, c3⟩, c4⟩, rfl⟩, c2b⟩, c3b⟩, c4b⟩, hq⟩ rfl
  · have hq : (!eqAt h1 h2 k) = true := by rw [hx]; rfl
    exact body_by P15_ok (b28_TT s1 s2 h1 h2 h1.length h2.length m1 m2 k) rfl ⟨⟨⟨⟨⟨⟨⟨⟨⟨⟨⟨trivial, rfl⟩, c1⟩, rfl⟩, c2⟩, c3⟩, c4⟩, rfl⟩, c2b⟩, c3b⟩, c4b⟩, hq⟩ rfl
theorem s28_ret {s1 s2 : List UInt8} {h1 h2 : List (List AV)} {m1 m2 : Nat} (he : h1.length = h2.length) (hl : h1.length ≤ 4611686018427387904) {j : Nat} (h : firstAt (fun k => !eqAt h1 h2 k) (List.range h1.length) = some j) :
    LoopOK Tryz.prog (lbody Tryz.prog 28 0) 47 (b28I s1 s2 h1 h2 h1.length h2.length m1 m2 0) .ret ⟨[(4, .lit false)], [], 6⟩ := by
  obtain ⟨hj, h2', h3⟩ := firstAt_some h
  have hj' : j < h1.length := by simpa using hj
  refine loop_rule (E := b28I s1 s2 h1 h2 h1.length h2.length m1 m2 0) (I := fun k : Nat => b28I s1 s2 h1 h2 h1.length h2.length m1 m2 k) (pre := fun k => k ≤ j) (μ := fun k => j - k) _ _ rfl (fun ρ => by simp [Ex.conc]) ?_ (x0 := 0) (pick := []) (Nat.zero_le _) ⟨by kernel_rfl, map_fst_snd (by kernel_rfl)⟩
  intro k hk
  by_cases hkj : k = j
  · right
    subst hkj
    exact (s28_round he hl hj').2 (by simpa using h2')
  · left
    exact ⟨k + 1, by omega, by omega, (s28_round he hl (by omega)).1 (by have := h3 k (by omega); simpa using this)⟩
theorem s28_end {s1 s2 : List UInt8} {h1 h2 : List (List AV)} {m1 m2 : Nat} (he : h1.length = h2.length) (hl : h1.length ≤ 4611686018427387904) (h : firstAt (fun k => !eqAt h1 h2 k) (List.range h1.length) = none) :
    LoopOK Tryz.prog (lbody Tryz.prog 28 0) 47 (b28I s1 s2 h1 h2 h1.length h2.length m1 m2 0) (.exit 0) ⟨[], [], 6⟩ := by
  have h3 := firstAt_none h
  refine loop_rule (E := b28I s1 s2 h1 h2 h1.length h2.length m1 m2 0) (I := fun k : Nat => b28I s1 s2 h1 h2 h1.length h2.length m1 m2 k) (pre := fun k => k ≤ h1.length) (μ := fun k => h1.length - k) _ _ rfl (fun ρ => by simp [Ex.conc]) ?_ (x0 := 0) (pick := []) (Nat.zero_le _) ⟨by kernel_rfl, map_fst_snd (by kernel_rfl)⟩
  intro k hk
  by_cases hkl : k < h1.length
  · left
    exact ⟨k + 1, by omega, by omega, (s28_round he hl hkl).1 (by have := h3 k (by simpa using hkl); simpa using this)⟩
  · right
    have c1 : decide ((k : Int) < ((h1.length : Nat) : Int)) = false := decide_eq_false (by omega)
    exact body_by P15_ok (b28_F s1 s2 h1 h2 h1.length h2.length m1 m2 k) rfl ⟨⟨trivial, rfl⟩, c1⟩ rfl
def ins28 (h1 b1 h2 b2 : List (List AV)) : List Blk := [Blk.cells false [Kd.str, Kd.str] h1, Blk.cells false [Kd.int IntKind.u8] b1, Blk.cells false [Kd.str, Kd.str] h2, Blk.cells false [Kd.int IntKind.u8] b2]
theorem same28_calls {s1 s2 : List UInt8} {h1 b1 h2 b2 : List (List AV)} {ρ : Nat → BI} {w : World} (hE : HSim ρ (addBlks .e 0 (ins28 h1 b1 h2 b2)) (ins28 h1 b1 h2 b2).length w) (hl : h1.length ≤ 4611686018427387904) :
    Calls Tryz.prog 28 (concL ρ [.agg [.str s1, .slq 0 h1.length, .slq 1 b1.length], .agg [.str s2, .slq 2 h2.length, .slq 3 b2.length]]).toArray w (fun e w' => e = .returned (conc ρ (.bool (spSameM s1 h1 b1 s2 h2 b2))) ∧ Ext w w') := by
  have f1 : sub b1 0 (List.length b1) = b1 := sub_all b1 rfl
  have f2 : sub b2 0 (List.length b2) = b2 := sub_all b2 rfl
  unfold spSameM
  cases e1 : (s1 == s2) with
  | false =>
    have e1 : (!s1 == s2) = true := by rw [e1]; rfl
    exact calls_pureB P15_ok (c28_T s1 s2 h1 b1 h2 b2) ⟨⟨⟨trivial, rfl⟩, rfl⟩, e1⟩ hE rfl rfl rfl
  | true =>
    have e1 : (!s1 == s2) = false := by rw [e1]; rfl
    by_cases he : h1.length = h2.length
    · have e2 : (!((h1.length : Nat) : Int) == ((h2.length : Nat) : Int)) = false := by rw [he]; simp
      cases e3 : (List.map rowByte b1 == List.map rowByte b2) with
      | false =>
        have e3 : (!List.map rowByte (sub b1 0 (List.length b1)) == List.map rowByte (sub b2 0 (List.length b2))) = true := by rw [f1, f2, e3]; rfl
        rw [Bool.and_false]
        exact calls_pureB P15_ok (c28_FFT s1 s2 h1 b1 h2 b2) ⟨⟨⟨⟨⟨⟨⟨⟨⟨⟨⟨trivial, rfl⟩, rfl⟩, e1⟩, rfl⟩, rfl⟩, e2⟩, rfl⟩, (decide_eq_true (by omega))⟩, rfl⟩, (decide_eq_true (by omega))⟩, e3⟩ hE rfl rfl rfl
      | true =>
        have e3 : (!List.map rowByte (sub b1 0 (List.length b1)) == List.map rowByte (sub b2 0 (List.length b2))) = false := by rw [f1, f2, e3]; rfl
        rw [Bool.and_true]
        cases hf : firstAt (fun k => !eqAt h1 h2 k) (List.range h1.length) with
        | some j =>
          have ev : spEqH h1 h2 = false := by
            unfold spEqH
            have : (List.range h1.length).all (eqAt h1 h2) = false := by
              cases h : (List.range h1.length).all (eqAt h1 h2) with
              | false => rfl
              | true => rw [← firstAt_all] at h; rw [h] at hf; cases hf
            rw [this, Bool.and_false]
          rw [ev]
          have hl := s28_ret (s1 := s1) (s2 := s2) (m1 := b1.length) (m2 := b2.length) he hl hf
          exact calls_pureB P15_ok (c28r_FFFL s1 s2 h1 b1 h2 b2) ⟨⟨⟨⟨⟨⟨⟨⟨⟨⟨⟨⟨trivial, rfl⟩, rfl⟩, e1⟩, rfl⟩, rfl⟩, e2⟩, rfl⟩, (decide_eq_true (by omega))⟩, rfl⟩, (decide_eq_true (by omega))⟩, e3⟩, hl⟩ hE rfl rfl rfl
        | none =>
          have ev : spEqH h1 h2 = true := by
            unfold spEqH
            rw [firstAt_all.1 hf, decide_eq_true he]; rfl
          rw [ev]
          have hl := s28_end (s1 := s1) (s2 := s2) (m1 := b1.length) (m2 := b2.length) he hl hf
          exact calls_pureB P15_ok (c28_FFFL s1 s2 h1 b1 h2 b2) ⟨⟨⟨⟨⟨⟨⟨⟨⟨⟨⟨⟨trivial, rfl⟩, rfl⟩, e1⟩, rfl⟩, rfl⟩, e2⟩, rfl⟩, (decide_eq_true (by omega))⟩, rfl⟩, (decide_eq_true (by omega))⟩, e3⟩, hl⟩ hE rfl rfl rfl
    · have e2 : (!((h1.length : Nat) : Int) == ((h2.length : Nat) : Int)) = true := by
        rw [Bool.not_eq_true', beq_eq_false_iff_ne]; omega
      have ev : spEqH h1 h2 = false := by unfold spEqH; rw [decide_eq_false he]; rfl
      rw [ev]
      exact calls_pureB P15_ok (c28_FT s1 s2 h1 b1 h2 b2) ⟨⟨⟨⟨⟨⟨trivial, rfl⟩, rfl⟩, e1⟩, rfl⟩, rfl⟩, e2⟩ hE rfl rfl rfl
theorem four_in {w : World} {r1 r2 r3 r4 : List (List AV)} {v1 v2 v3 v4 : Value} (gw : GW w) (h1 : Reads w [.str, .str] r1 v1) (h2 : Reads w [.int .u8] r2 v2) (h3 : Reads w [.str, .str] r3 v3) (h4 : Reads w [.int .u8] r4 v4) :
    ∃ ρ0 : Nat → BI, HSim ρ0 (addBlks .e 0 (ins28 r1 r2 r3 r4)) (ins28 r1 r2 r3 r4).length w ∧ conc ρ0 (.slq 0 r1.length) = v1 ∧ conc ρ0 (.slq 1 r2.length) = v2 ∧ conc ρ0 (.slq 2 r3.length) = v3 ∧ conc ρ0 (.slq 3 r4.length) = v4 := by
  obtain ⟨b1, hb1⟩ := h1.bi gw rfl
  obtain ⟨b2, hb2⟩ := h2.bi gw rfl
  obtain ⟨b3, hb3⟩ := h3.bi gw rfl
  obtain ⟨b4, hb4⟩ := h4.bi gw rfl
  refine ⟨fun i => if i = 0 then b1 else if i = 1 then b2 else if i = 2 then b3 else b4, HSim.ins gw (fun i blk hi => ?_), (hb1 _ 0 rfl).1, (hb2 _ 1 rfl).1, (hb3 _ 2 rfl).1, (hb4 _ 3 rfl).1⟩
  match i with
  | 0 => simp [ins28] at hi; subst hi; exact ⟨(hb1 _ 0 rfl).2, rfl, rfl⟩
  | 1 => simp [ins28] at hi; subst hi; exact ⟨(hb2 _ 1 rfl).2, rfl, rfl⟩
  | 2 => simp [ins28] at hi; subst hi; exact ⟨(hb3 _ 2 rfl).2, rfl, rfl⟩
  | 3 => simp [ins28] at hi; subst hi; exact ⟨(hb4 _ 3 rfl).2, rfl, rfl⟩
  | i + 4 => simp [ins28] at hi
def q28 : Entry := fun args hp nx => match args with
  | [.agg [.str s1, hv1, bv1], .agg [.str s2, hv2, bv2]] => match slIn hp [.str, .str] hv1, slIn hp [.int .u8] bv1, slIn hp [.str, .str] hv2, slIn hp [.int .u8] bv2 with
    | some (c1, h1), some (c2, b1), some (c3, h2), some (c4, b2) => some (c1 && (c2 && (c3 && (c4 && decide (h1.length ≤ 4611686018427387904)))), .bool (spSameM s1 h1 b1 s2 h2 b2), [])
    | _, _, _, _ => none
  | _ => none
theorem q28_ok : EntryOK Tryz.prog 28 q28 := by
  intro args hp nx c v bs h hc ρ w hs hi
  unfold q28 at h
  split at h
  · rename_i s1 hv1 bv1 s2 hv2 bv2
    split at h
    · rename_i c1 h1 c2 b1 c3 h2 c4 b2 hs1 hs2 hs3 hs4
      cases h
      simp only [Bool.and_eq_true] at hc
      obtain ⟨hc1, hc2, hc3, hc4, hc5⟩ := hc
      obtain ⟨ρ0, hE, e1, e2, e3, e4⟩ := four_in hs.gw (slIn_spec hs hs1 hc1 rfl) (slIn_spec hs hs2 hc2 rfl) (slIn_spec hs hs3 hc3 rfl) (slIn_spec hs hs4 hc4 rfl)
      refine entry_pure hs rfl ?_
      have hcall := same28_calls (s1 := s1) (s2 := s2) hE (of_decide_eq_true hc5)
      have ea : concL ρ0 [AV.agg [.str s1, .slq 0 h1.length, .slq 1 b1.length], .agg [.str s2, .slq 2 h2.length, .slq 3 b2.length]] = concL ρ [AV.agg [.str s1, hv1, bv1], .agg [.str s2, hv2, bv2]] := by
        show [Value.agg (concL ρ0 [AV.str s1, .slq 0 h1.length, .slq 1 b1.length]).toArray, Value.agg (concL ρ0 [AV.str s2, .slq 2 h2.length, .slq 3 b2.length]).toArray] = _
        simp only [concL]
        rw [e1, e2, e3, e4]
        rfl
      rw [ea] at hcall
      exact hcall
    · cases h
  · cases h
def P16 : Prims := addP (addP P15 56 q56) 28 q28
theorem P16_ok : PrimsOK Tryz.prog P16 := addP_ok (addP_ok P15_ok q56_ok) q28_ok
end Go.Proofs.YtpdgmgkkbbndfaaGreatDoor

set_option maxRecDepth 100000
set_option linter.unusedVariables false
set_option linter.unusedSimpArgs false
namespace Go.Proofs.YtpdgmgkkbbndfaaGreatDoor
open Go Go.Proofs Go.Proofs.YtpdgmgkkbbndfaaGreatDoor.SX
theorem trim_ends {c d : UInt8} {m : List UInt8} (hc : c ≠ 32) (hd : d ≠ 32) : spTrim (c :: (m ++ [d])) [32] = c :: (m ++ [d]) := by
  unfold spTrim Lib.trimS Lib.trimRightS Lib.trimLeftS
  have e : (c :: (m ++ [d])).reverse = d :: (m.reverse ++ [c]) := by simp
  rw [e]
  simp [List.dropWhile_cons, hc, hd]
end Go.Proofs.YtpdgmgkkbbndfaaGreatDoor

set_option maxRecDepth 100000
set_option linter.unusedVariables false
set_option linter.unusedSimpArgs false
namespace Go.Proofs.YtpdgmgkkbbndfaaGreatDoor
open Go Go.Proofs Go.Proofs.YtpdgmgkkbbndfaaGreatDoor.SX
def hp (a p : Int) : List UInt8 := spDotted a ++ [58] ++ spItoa p
def v1 (h : List UInt8) : List UInt8 := mkVia ++ (h ++ [59, 120])
def v2 (h : List UInt8) : List UInt8 := [60, 115, 105, 112, 58, 97] ++ 64 :: (h ++ [62])
end Go.Proofs.YtpdgmgkkbbndfaaGreatDoor

set_option maxRecDepth 100000
set_option linter.unusedVariables false
set_option linter.unusedSimpArgs false
namespace Go.Proofs.YtpdgmgkkbbndfaaGreatDoor
open Go Go.Proofs Go.Proofs.YtpdgmgkkbbndfaaGreatDoor.SX
theorem cut_none {s t : List UInt8} (h : spFound s t = false) : spBefore s t = s := by
  unfold spFound Lib.cut at h
  unfold spBefore Lib.cut
  split at h
  · cases h
  · rename_i hi; rw [if_neg hi]
end Go.Proofs.YtpdgmgkkbbndfaaGreatDoor

set_option maxRecDepth 100000
set_option linter.unusedVariables false
set_option linter.unusedSimpArgs false
namespace Go.Proofs.YtpdgmgkkbbndfaaGreatDoor
open Go Go.Proofs Go.Proofs.YtpdgmgkkbbndfaaGreatDoor.SX
end Go.Proofs.YtpdgmgkkbbndfaaGreatDoor

set_option maxRecDepth 100000
set_option linter.unusedVariables false
set_option linter.unusedSimpArgs false
namespace Go.Proofs.YtpdgmgkkbbndfaaGreatDoor
open Go Go.Proofs Go.Proofs.YtpdgmgkkbbndfaaGreatDoor.SX
theorem dw_keep {α : Type} {p : α → Bool} {c : α} {t : List α} (h : (c :: t).dropWhile p = c :: t) : p c = false := by
  cases hp : p c with
  | false => rfl
  | true =>
    rw [List.dropWhile_cons, if_pos hp] at h
    have := (List.dropWhile_suffix p (l := t)).length_le
    rw [h] at this
    simp only [List.length_cons] at this
    omega
theorem trim_edge (v : List UInt8) : (spTrim v [32] == v) = edgeOK v := by
  rw [Bool.eq_iff_iff]
  constructor
  · intro h
    have h : spTrim v [32] = v := by simpa using h
    unfold spTrim Lib.trimS Lib.trimLeftS Lib.trimRightS at h
    have l1 := (List.dropWhile_suffix (fun x => ([32] : List UInt8).contains x) (l := (v.reverse.dropWhile (fun x => ([32] : List UInt8).contains x)).reverse)).length_le
    have l2 := List.dropWhile_suffix (fun x => ([32] : List UInt8).contains x) (l := v.reverse)
    rw [h] at l1
    have e2 : v.reverse.dropWhile (fun x => ([32] : List UInt8).contains x) = v.reverse := by
      refine l2.eq_of_length ?_
      have := l2.length_le
      simp only [List.length_reverse] at l1 this ⊢
      omega
    have e1 : v.dropWhile (fun x => ([32] : List UInt8).contains x) = v := by
      rw [e2, List.reverse_reverse] at h; exact h
    unfold edgeOK
    cases v with
    | nil => rfl
    | cons c t =>
      have n1 := dw_keep e1
      have n1 : c ≠ 32 := by simpa using n1
      have hr : ∃ d m, (c :: t).reverse = d :: m := by
        cases h3 : (c :: t).reverse with
        | nil => have := congrArg List.length h3; simp at this
        | cons d m => exact ⟨d, m, rfl⟩
      obtain ⟨d, m, hd⟩ := hr
      rw [hd] at e2
      have n2 := dw_keep e2
      have n2 : d ≠ 32 := by simpa using n2
      have ed : (c :: t).getD ((c :: t).length - 1) (0 : UInt8) = d := by
        have e3 : c :: t = m.reverse ++ [d] := by have := congrArg List.reverse hd; simpa using this
        rw [e3]
        simp [List.getD_eq_getElem?_getD]
      rw [ed]
      have a1 : ((c.toNat : Nat) : Int) ≠ 32 := fun hx => n1 (UInt8.toNat_inj.1 (by show c.toNat = 32; omega))
      have a2 : ((d.toNat : Nat) : Int) ≠ 32 := fun hx => n2 (UInt8.toNat_inj.1 (by show d.toNat = 32; omega))
      simp [a1, a2]
  · intro h
    unfold edgeOK at h
    cases v with
    | nil => rfl
    | cons c t =>
      have h0 : ((c :: t) == ([] : List UInt8)) = false := rfl
      rw [h0, Bool.false_or, Bool.and_eq_true, Bool.not_eq_true', Bool.not_eq_true', beq_eq_false_iff_ne, beq_eq_false_iff_ne] at h
      obtain ⟨n1, n2⟩ := h
      have p1 : c ≠ 32 := fun hx => n1 (by rw [hx]; rfl)
      cases hr : t.reverse with
      | nil =>
        have et : t = [] := by simpa using hr
        subst et
        unfold spTrim Lib.trimS Lib.trimLeftS Lib.trimRightS
        simp [List.dropWhile_cons, p1]
      | cons d m =>
        have et : t = m.reverse ++ [d] := by have := congrArg List.reverse hr; simpa using this
        subst et
        have p2 : d ≠ 32 := fun hx => n2 (by rw [hx]; simp [List.getD_eq_getElem?_getD])
        rw [trim_ends p1 p2]
        simp
theorem plain_broken (s : List UInt8) : spPlain s = !spBroken s := by
  unfold spPlain spBroken
  rw [List.not_any_eq_all_not]
  congr 1
  funext c
  unfold okC isCrlf
  rw [Bool.not_or]
  have e1 : (c.toNat == 13) = (c == 13) := by rw [Bool.eq_iff_iff]; simp only [beq_iff_eq]; exact ⟨fun h => UInt8.toNat_inj.1 h, fun h => by rw [h]; rfl⟩
  have e2 : (c.toNat == 10) = (c == 10) := by rw [Bool.eq_iff_iff]; simp only [beq_iff_eq]; exact ⟨fun h => UInt8.toNat_inj.1 h, fun h => by rw [h]; rfl⟩
  rw [e1, e2]
theorem okRef_eq (bn : Nat) (r : List AV) : okRef bn r = okHdr bn r := by
  unfold okRef okHdr
  rw [plain_broken, trim_edge, digits_itoa]
  rfl
theorem refRight_eq (start : List UInt8) (rows : List (List AV)) (bn : Nat) : spRefRight start rows bn = spRight start rows bn := by
  unfold spRefRight spRight
  have e : okRef bn = okHdr bn := funext (okRef_eq bn)
  have en : nLensR rows = nLens rows := rfl
  rw [plain_broken, e, en]
  cases (start == ([] : List UInt8)) <;> cases spBroken start <;> cases decide (rows.length ≤ 64) <;> cases decide (start.length + 4 + bn + hSize rows ≤ 4096) <;> cases rows.all (okHdr bn) <;> cases nLens rows == 1 <;> rfl
theorem norm_right (start : List UInt8) (rows : List (List AV)) (bn : Nat) : spRight start (spNorm rows) bn = spRight start rows bn := by
  unfold spRight
  have e1 : (spNorm rows).all (okHdr bn) = rows.all (okHdr bn) := by
    unfold spNorm; rw [List.all_map]; rfl
  have e2 : hSize (spNorm rows) = hSize rows := by
    unfold hSize spNorm; rw [List.map_map]; rfl
  have e3 : nLens (spNorm rows) = nLens rows := by
    unfold nLens spNorm; rw [List.filter_map, List.length_map]; rfl
  rw [e1, e2, e3, norm_length]
end Go.Proofs.YtpdgmgkkbbndfaaGreatDoor

set_option maxRecDepth 100000
set_option linter.unusedVariables false
set_option linter.unusedSimpArgs false
namespace Go.Proofs.YtpdgmgkkbbndfaaGreatDoor
open Go Go.Proofs Go.Proofs.YtpdgmgkkbbndfaaGreatDoor.SX
theorem sub_whl {α : Type} (l : List α) : sub l 0 (List.length l) = l := sub_all l rfl
end Go.Proofs.YtpdgmgkkbbndfaaGreatDoor

set_option maxRecDepth 100000
set_option maxHeartbeats 1600000
set_option linter.unusedVariables false
set_option linter.unusedSimpArgs false
namespace Go.Proofs.YtpdgmgkkbbndfaaGreatDoor
open Go Go.Proofs Go.Proofs.YtpdgmgkkbbndfaaGreatDoor.SX
theorem c13_F (start : List UInt8) (hrows : List (List AV)) (brows : List (List AV)) :
    Path (runCallB Tryz.prog P16 100 13 [AV.agg [AV.str start, AV.slq 0 (List.length hrows), AV.slq 1 (List.length brows)]] (st0 [Blk.cells false [Kd.str, Kd.str] hrows, Blk.cells false [Kd.int IntKind.u8] brows] ([.as_ false]))) 2 [] (SL.mk [] [] 2) (Out.ret (AV.agg [AV.str start, AV.slq 0 (List.length hrows), AV.slq 1 (List.length brows)]))
      ((((((((((True ∧ (true = true)) ∧ (decide ((↑(List.length hrows) : Int) > (100 : Int)) = false)) ∧ (true = true)) ∧ (true = true)) ∧ (true = true)) ∧ (true = true)) ∧ (true = true)) ∧ (true = true)) ∧ (true = true)) ∧ (true = true)) := by unfold Path; kernel_rfl
theorem c13s_T (start : List UInt8) (hrows : List (List AV)) (brows : List (List AV)) (c : Nat) :
    Path (runCallB Tryz.prog P16 100 13 [AV.agg [AV.str start, AV.sl (Loc.mk 0 0 0) (List.length hrows) (Cap.known c), AV.slq 1 (List.length brows)]] (st0 [Blk.cells false [Kd.str, Kd.str] hrows, Blk.cells false [Kd.int IntKind.u8] brows] ([.as_ true]))) 2 [] (SL.mk [] [] 2) (Out.ret (AV.agg [AV.str start, AV.sl (Loc.mk 0 (0) 0) 100 (Cap.known (Int.toNat (↑c : Int) - 0)), AV.slq 1 (List.length brows)]))
      ((((((((((((((True ∧ (true = true)) ∧ (decide ((↑(List.length hrows) : Int) > (100 : Int)) = true)) ∧ (true = true)) ∧ (decide ((0 : Int) ≤ (0 : Int) ∧ (0 : Int) ≤ (100 : Int) ∧ (100 : Int) ≤ (↑c : Int) ∧ (↑c : Int) ≤ (↑c : Int)) = true)) ∧ (true = true)) ∧ (true = true)) ∧ (true = true)) ∧ (true = true)) ∧ (true = true)) ∧ (true = true)) ∧ (true = true)) ∧ (true = true)) ∧ (true = true)) ∧ (true = true)) := by unfold Path; kernel_rfl
theorem c25_T (start : List UInt8) (hrows : List (List AV)) (brows : List (List AV)) :
    Path (runCallB Tryz.prog P16 100 25 [AV.agg [AV.str start, AV.slq 0 (List.length hrows), AV.slq 1 (List.length brows)]] (st0 [Blk.cells false [Kd.str, Kd.str] hrows, Blk.cells false [Kd.int IntKind.u8] brows] ([.as_ true]))) 2 [] (SL.mk [] [] 2) (Out.ret (AV.tup [AV.nilSl, AV.int IntKind.i64 (4 : Int)]))
      (((True ∧ (true = true)) ∧ ((decide (0 + List.length hrows ≤ List.length hrows) && (decide (0 + List.length brows ≤ List.length brows) && decide (List.length start ≤ 4294967200 ∧ List.all (sub hrows 0 (List.length hrows)) short = true ∧ List.length (sub brows 0 (List.length brows)) ≤ 140737488355328))) = true)) ∧ ((!spRefRight start (sub hrows 0 (List.length hrows)) (List.length (sub brows 0 (List.length brows)))) = true)) := by unfold Path; kernel_rfl
theorem c25_F (start : List UInt8) (hrows : List (List AV)) (brows : List (List AV)) :
    Path (runCallB Tryz.prog P16 100 25 [AV.agg [AV.str start, AV.slq 0 (List.length hrows), AV.slq 1 (List.length brows)]] (st0 [Blk.cells false [Kd.str, Kd.str] hrows, Blk.cells false [Kd.int IntKind.u8] brows] ([.as_ false]))) 2 [3] (SL.mk [] [(2, .cells false [Kd.int IntKind.u8] (spTextB start (sub hrows 0 (List.length hrows)) (sub brows 0 (List.length brows))))] 3) (Out.ret (ren (sig 2 [3]) (AV.tup [AV.slq 2 (List.length (spTextB start (sub hrows 0 (List.length hrows)) (sub brows 0 (List.length brows)))), AV.int IntKind.i64 (0 : Int)])))
      (((((True ∧ (true = true)) ∧ ((decide (0 + List.length hrows ≤ List.length hrows) && (decide (0 + List.length brows ≤ List.length brows) && decide (List.length start ≤ 4294967200 ∧ List.all (sub hrows 0 (List.length hrows)) short = true ∧ List.length (sub brows 0 (List.length brows)) ≤ 140737488355328))) = true)) ∧ ((!spRefRight start (sub hrows 0 (List.length hrows)) (List.length (sub brows 0 (List.length brows)))) = false)) ∧ (true = true)) ∧ ((decide (0 + List.length hrows ≤ List.length hrows) && (decide (0 + List.length brows ≤ List.length brows) && decide (List.length start ≤ 4294967200 ∧ List.length (sub hrows 0 (List.length hrows)) ≤ 1000 ∧ List.all (sub hrows 0 (List.length hrows)) short = true ∧ List.length (sub brows 0 (List.length brows)) ≤ 4398046511104))) = true)) := by unfold Path; kernel_rfl
theorem c27_TT (s1 : List UInt8) (s2 : List UInt8) (h1 : List (List AV)) (b1 : List (List AV)) (h2 : List (List AV)) (b2 : List (List AV)) :
    Path (runCallB Tryz.prog P16 100 27 [AV.agg [AV.str s1, AV.slq 0 (List.length h1), AV.slq 1 (List.length b1)], AV.agg [AV.str s2, AV.slq 2 (List.length h2), AV.slq 3 (List.length b2)]] (st0 [Blk.cells false [Kd.str, Kd.str] h1, Blk.cells false [Kd.int IntKind.u8] b1, Blk.cells false [Kd.str, Kd.str] h2, Blk.cells false [Kd.int IntKind.u8] b2] ([.as_ true, .as_ true]))) 4 [] (SL.mk [] [] 4) (Out.ret (AV.bool (List.map rowByte (sub b1 0 (List.length b1)) == List.map rowByte (sub b2 0 (List.length b2)))))
      ((((((((((True ∧ (true = true)) ∧ (true = true)) ∧ ((s1 == s2) = true)) ∧ (true = true)) ∧ (true = true)) ∧ ((decide (0 + List.length h1 ≤ List.length h1) && (decide (0 + List.length h2 ≤ List.length h2) && decide (List.length (sub h1 0 (List.length h1)) ≤ 4611686018427387904))) = true)) ∧ (spEqH (sub h1 0 (List.length h1)) (sub h2 0 (List.length h2)) = true)) ∧ (true = true)) ∧ (true = true)) ∧ ((decide (0 + List.length b1 ≤ List.length b1) && decide (0 + List.length b2 ≤ List.length b2)) = true)) := by unfold Path; kernel_rfl
theorem c27_TF (s1 : List UInt8) (s2 : List UInt8) (h1 : List (List AV)) (b1 : List (List AV)) (h2 : List (List AV)) (b2 : List (List AV)) :
    Path (runCallB Tryz.prog P16 100 27 [AV.agg [AV.str s1, AV.slq 0 (List.length h1), AV.slq 1 (List.length b1)], AV.agg [AV.str s2, AV.slq 2 (List.length h2), AV.slq 3 (List.length b2)]] (st0 [Blk.cells false [Kd.str, Kd.str] h1, Blk.cells false [Kd.int IntKind.u8] b1, Blk.cells false [Kd.str, Kd.str] h2, Blk.cells false [Kd.int IntKind.u8] b2] ([.as_ true, .as_ false]))) 4 [] (SL.mk [] [] 4) (Out.ret (AV.lit false))
      (((((((True ∧ (true = true)) ∧ (true = true)) ∧ ((s1 == s2) = true)) ∧ (true = true)) ∧ (true = true)) ∧ ((decide (0 + List.length h1 ≤ List.length h1) && (decide (0 + List.length h2 ≤ List.length h2) && decide (List.length (sub h1 0 (List.length h1)) ≤ 4611686018427387904))) = true)) ∧ (spEqH (sub h1 0 (List.length h1)) (sub h2 0 (List.length h2)) = false)) := by unfold Path; kernel_rfl
theorem c27_F (s1 : List UInt8) (s2 : List UInt8) (h1 : List (List AV)) (b1 : List (List AV)) (h2 : List (List AV)) (b2 : List (List AV)) :
    Path (runCallB Tryz.prog P16 100 27 [AV.agg [AV.str s1, AV.slq 0 (List.length h1), AV.slq 1 (List.length b1)], AV.agg [AV.str s2, AV.slq 2 (List.length h2), AV.slq 3 (List.length b2)]] (st0 [Blk.cells false [Kd.str, Kd.str] h1, Blk.cells false [Kd.int IntKind.u8] b1, Blk.cells false [Kd.str, Kd.str] h2, Blk.cells false [Kd.int IntKind.u8] b2] ([.as_ false]))) 4 [] (SL.mk [] [] 4) (Out.ret (AV.lit false))
      (((True ∧ (true = true)) ∧ (true = true)) ∧ ((s1 == s2) = false)) := by unfold Path; kernel_rfl
theorem few_ins {w : World} {r1 r2 : List (List AV)} {v1 v2 : Value} (gw : GW w) (h1 : Reads w [.str, .str] r1 v1) (hp : 0 < r1.length) (h2 : Reads w [.int .u8] r2 v2) :
    ∃ (ρ0 : Nat → BI) (c : Nat), HSim ρ0 (addBlks .e 0 [Blk.cells false [Kd.str, Kd.str] r1, Blk.cells false [Kd.int IntKind.u8] r2]) ([Blk.cells false [Kd.str, Kd.str] r1, Blk.cells false [Kd.int IntKind.u8] r2] : List Blk).length w ∧ conc ρ0 (.sl ⟨0, 0, 0⟩ r1.length (.known c)) = v1 ∧ conc ρ0 (.slq 1 r2.length) = v2 ∧ ∃ a, v1 = .slice a r1.length c := by
  cases h1 with
  | nil h => rw [h] at hp; exact absurd hp (by decide)
  | cells bi c h =>
    obtain ⟨b2, hb2⟩ := h2.bi gw rfl
    refine ⟨fun i => if i = 0 then bi else b2, c, HSim.ins gw (fun i blk hi => ?_), by simp [conc, addr, capOf], (hb2 _ 1 rfl).1, _, rfl⟩
    match i with
    | 0 => simp at hi; subst hi; exact ⟨Blk.sat_at (ρ := fun _ => bi) (b := 0) rfl rfl h, rfl, rfl⟩
    | 1 => simp at hi; subst hi; exact ⟨(hb2 _ 1 rfl).2, rfl, rfl⟩
    | i + 2 => simp at hi
def q13 : Entry := fun args hp nx => match args with
  | [.agg [.str start, .slq b n, bv]] => match slIn hp [.str, .str] (.slq b n), slIn hp [.int .u8] bv with
    | some (c1, hrows), some (c2, brows) => some (c1 && (c2 && decide (hrows.length ≤ 100)), .agg [.str start, .slq b n, bv], [])
    | _, _ => none
  | [.agg [.str start, .sl ⟨b, 0, 0⟩ n (.known c), bv]] => match slIn hp [.str, .str] (.sl ⟨b, 0, 0⟩ n (.known c)), slIn hp [.int .u8] bv with
    | some (c1, hrows), some (c2, brows) => some (c1 && (c2 && decide (100 < hrows.length ∧ 100 ≤ c)), .agg [.str start, .sl ⟨b, 0, 0⟩ 100 (.known c), bv], [])
    | _, _ => none
  | _ => none
theorem q13_ok : EntryOK Tryz.prog 13 q13 := by
  intro args hp nx c v bs h hc ρ w hs hi
  unfold q13 at h
  split at h
  · rename_i start b n bv
    split at h
    · rename_i c1 hrows c2 brows hs1 hs2
      cases h
      simp only [Bool.and_eq_true] at hc
      obtain ⟨hc1, hc2, hc3⟩ := hc
      have g1 := of_decide_eq_true hc3
      obtain ⟨ρ0, hE, e1, e2⟩ := two_ro hs hs1 hc1 hs2 hc2
      refine entry_pure hs (by simp only [idsBL, Bool.and_true] at hi; exact hi) ?_
      have hcall := calls_pureB P16_ok (c13_F start hrows brows) ⟨⟨⟨⟨⟨⟨⟨⟨⟨⟨trivial, rfl⟩, (decide_eq_false (by omega))⟩, rfl⟩, rfl⟩, rfl⟩, rfl⟩, rfl⟩, rfl⟩, rfl⟩, rfl⟩ hE rfl rfl rfl
      have ea : concL ρ0 [AV.agg [AV.str start, AV.slq 0 hrows.length, AV.slq 1 brows.length]] = concL ρ [AV.agg [.str start, .slq b n, bv]] := by
        show [Value.agg (concL ρ0 [AV.str start, .slq 0 hrows.length, .slq 1 brows.length]).toArray] = _
        simp only [concL]
        rw [e1, e2]
        rfl
      have eb : conc ρ0 (AV.agg [AV.str start, AV.slq 0 hrows.length, AV.slq 1 brows.length]) = conc ρ (AV.agg [.str start, .slq b n, bv]) := List.cons.inj ea |>.1
      rw [ea, eb] at hcall
      exact hcall
    · cases h
  · rename_i start b n k bv
    split at h
    · rename_i c1 hrows c2 brows hs1 hs2
      cases h
      simp only [Bool.and_eq_true] at hc
      obtain ⟨hc1, hc2, hc3⟩ := hc
      obtain ⟨g1, g2⟩ := of_decide_eq_true hc3
      obtain ⟨ρ0, k', hE, e1, e2, a, ha⟩ := few_ins hs.gw (slIn_spec hs hs1 hc1 rfl) (by omega) (slIn_spec hs hs2 hc2 rfl)
      have hk : k' = k := by
        simp only [conc, capOf] at ha
        injection ha with _ _ h3
        exact h3.symm
      subst hk
      have e3 : conc ρ0 (.sl ⟨0, 0, 0⟩ 100 (.known k')) = conc ρ (.sl ⟨b, 0, 0⟩ 100 (.known k')) := by
        simp only [conc, capOf] at e1 ⊢
        injection e1 with h1 _ _
        rw [h1]
      refine entry_pure hs (by simp only [idsBL, Bool.and_true] at hi; exact hi) ?_
      have hcall := calls_pureB P16_ok (c13s_T start hrows brows k') ⟨⟨⟨⟨⟨⟨⟨⟨⟨⟨⟨⟨⟨⟨trivial, rfl⟩, (decide_eq_true (by omega))⟩, rfl⟩, (decide_eq_true (by omega))⟩, rfl⟩, rfl⟩, rfl⟩, rfl⟩, rfl⟩, rfl⟩, rfl⟩, rfl⟩, rfl⟩, rfl⟩ hE rfl rfl rfl
      have ea : concL ρ0 [AV.agg [AV.str start, AV.sl ⟨0, 0, 0⟩ hrows.length (.known k'), AV.slq 1 brows.length]] = concL ρ [AV.agg [.str start, .sl ⟨b, 0, 0⟩ n (.known k'), bv]] := by
        show [Value.agg (concL ρ0 [AV.str start, .sl ⟨0, 0, 0⟩ hrows.length (.known k'), .slq 1 brows.length]).toArray] = _
        simp only [concL]
        rw [e1, e2]
        rfl
      have eb : conc ρ0 (AV.agg [AV.str start, AV.sl ⟨0, 0, 0⟩ 100 (.known k'), AV.slq 1 brows.length]) = conc ρ (AV.agg [.str start, .sl ⟨b, 0, 0⟩ 100 (.known k'), bv]) := by
        show Value.agg (concL ρ0 [AV.str start, .sl ⟨0, 0, 0⟩ 100 (.known k'), .slq 1 brows.length]).toArray = _
        simp only [concL]
        rw [e3, e2]
        rfl
      rw [ea] at hcall
      rw [← eb]
      exact hcall
    · cases h
  · cases h
theorem build25_calls {start : List UInt8} {hrows brows : List (List AV)} {ρ : Nat → BI} {w : World} (hE : HSim ρ (addBlks .e 0 [Blk.cells false [Kd.str, Kd.str] hrows, Blk.cells false [Kd.int IntKind.u8] brows]) ([Blk.cells false [Kd.str, Kd.str] hrows, Blk.cells false [Kd.int IntKind.u8] brows] : List Blk).length w)
    (hst : start.length ≤ 4294967200) (hsh : hrows.all short = true) (hbn : brows.length ≤ 140737488355328) :
    Calls Tryz.prog 25 (concL ρ [.agg [.str start, .slq 0 hrows.length, .slq 1 brows.length]]).toArray w (fun e w' => (∃ v, e = .returned (.tuple #[v, .int .i64 (spBuildE start hrows brows)]) ∧ NewSl w.heap.size w' [.int .u8] (spBuildB start hrows brows) v) ∧ Ext w w') := by
  have f1 : sub hrows 0 hrows.length = hrows := sub_all hrows rfl
  have f2 : sub brows 0 brows.length = brows := sub_all brows rfl
  have k1 : (decide (0 + hrows.length ≤ hrows.length) && (decide (0 + brows.length ≤ brows.length) && decide (start.length ≤ 4294967200 ∧ (sub hrows 0 hrows.length).all short = true ∧ (sub brows 0 brows.length).length ≤ 140737488355328))) = true := by
    rw [f1, f2]; simp only [Bool.and_eq_true, decide_eq_true_eq]; exact ⟨by omega, by omega, hst, hsh, hbn⟩
  unfold spBuildB spBuildE
  cases h : spRight start hrows brows.length with
  | false =>
    have er : (!spRefRight start (sub hrows 0 hrows.length) (sub brows 0 brows.length).length) = true := by rw [f1, f2, refRight_eq, h]; rfl
    refine (calls_pureB P16_ok (c25_T start hrows brows) ⟨⟨⟨trivial, rfl⟩, k1⟩, er⟩ hE rfl rfl rfl).mono fun e w' hq => ?_
    obtain ⟨rfl, he⟩ := hq
    exact ⟨⟨_, rfl, NewSl.none (ρ' := ρ) (hE.gw.ext he) rfl⟩, he⟩
  | true =>
    have hz := right_sized h
    have hz1 := hz.n
    have hz2 := hz.bn
    have er : (!spRefRight start (sub hrows 0 hrows.length) (sub brows 0 brows.length).length) = false := by rw [f1, f2, refRight_eq, h]; rfl
    have k2 : (decide (0 + hrows.length ≤ hrows.length) && (decide (0 + brows.length ≤ brows.length) && decide (start.length ≤ 4294967200 ∧ (sub hrows 0 hrows.length).length ≤ 1000 ∧ (sub hrows 0 hrows.length).all short = true ∧ (sub brows 0 brows.length).length ≤ 4398046511104))) = true := by
      rw [f1, f2]; simp only [Bool.and_eq_true, decide_eq_true_eq]; exact ⟨by omega, by omega, hst, by omega, hsh, by omega⟩
    refine (calls_ofB P16_ok (c25_F start hrows brows) ⟨⟨⟨⟨⟨trivial, rfl⟩, k1⟩, er⟩, rfl⟩, k2⟩ hE rfl).mono fun e w' hq => ?_
    obtain ⟨ρ', rfl, st⟩ := hq
    rw [f1, f2] at st
    rw [f1, f2]
    show (∃ v, Ending.returned (conc ρ' (AV.tup [AV.slq 2 (spTextB start hrows brows).length, AV.int IntKind.i64 0])) = Ending.returned (.tuple #[v, .int .i64 0]) ∧ NewSl w.heap.size w' [.int .u8] (spTextB start hrows brows) v) ∧ Ext w w'
    exact ⟨⟨conc ρ' (.slq 2 (spTextB start hrows brows).length), rfl, NewSl.of_ro st (b := 2) (by rw [ofList_cons, if_pos rfl]) (show 2 ≤ 2 from Nat.le_refl 2) rfl rfl⟩, st.below (ro_two hrows brows)⟩
def q25 : Entry := fun args hp nx => match args with
  | [.agg [.str start, hv, bv]] => match slIn hp [.str, .str] hv, slIn hp [.int .u8] bv with
    | some (c1, hrows), some (c2, brows) =>
      some (c1 && (c2 && decide (start.length ≤ 4294967200 ∧ hrows.all short = true ∧ brows.length ≤ 140737488355328)),
        .tup [.slq nx (spBuildB start hrows brows).length, .int .i64 (spBuildE start hrows brows)], [.cells false [.int .u8] (spBuildB start hrows brows)])
    | _, _ => none
  | _ => none
theorem q25_ok : EntryOK Tryz.prog 25 q25 := by
  intro args hp nx c v bs h hc ρ w hs hi
  unfold q25 at h
  split at h
  · rename_i start hv bv
    split at h
    · rename_i c1 hrows c2 brows hs1 hs2
      cases h
      simp only [Bool.and_eq_true] at hc
      obtain ⟨hc1, hc2, hc3⟩ := hc
      obtain ⟨g1, g2, g3⟩ := of_decide_eq_true hc3
      obtain ⟨ρ0, hE, e1, e2⟩ := two_ro hs hs1 hc1 hs2 hc2
      have hcall := build25_calls (start := start) hE g1 g2 g3
      have ea : concL ρ0 [AV.agg [AV.str start, AV.slq 0 hrows.length, AV.slq 1 brows.length]] = concL ρ [AV.agg [.str start, hv, bv]] := by
        show [Value.agg (concL ρ0 [AV.str start, .slq 0 hrows.length, .slq 1 brows.length]).toArray] = _
        simp only [concL]
        rw [e1, e2]
        rfl
      rw [ea] at hcall
      refine hcall.mono fun e w' hq => ?_
      obtain ⟨⟨v, rfl, b1, n1, k1⟩, he⟩ := hq
      have e1 : extB ρ nx [b1] nx = b1 := by have := extB_new ρ nx [b1] 0; simpa using this
      have st := HStep.bis (bs := [Blk.cells false [.int .u8] (spBuildB start hrows brows)]) [b1] hs he (fun i blk hi => by
        match i with
        | 0 => simp at hi; subst hi; exact ⟨rfl, n1, rfl, fun ρ' b hb => (k1 ρ' b hb).2⟩
        | i + 1 => simp at hi)
      refine ⟨_, ?_, ?_, st⟩
      · have h1 := (k1 _ _ e1).1
        simp only [conc, concL] at h1 ⊢
        rw [h1]
      · simp [AV.idsB, idsBL, blt_iff]
    · cases h
  · cases h
theorem same27_calls {s1 s2 : List UInt8} {h1 b1 h2 b2 : List (List AV)} {ρ : Nat → BI} {w : World} (hE : HSim ρ (addBlks .e 0 (ins28 h1 b1 h2 b2)) (ins28 h1 b1 h2 b2).length w) (hl : h1.length ≤ 4611686018427387904) :
    Calls Tryz.prog 27 (concL ρ [.agg [.str s1, .slq 0 h1.length, .slq 1 b1.length], .agg [.str s2, .slq 2 h2.length, .slq 3 b2.length]]).toArray w (fun e w' => e = .returned (conc ρ (.bool (spSameM s1 h1 b1 s2 h2 b2))) ∧ Ext w w') := by
  have f1 : sub b1 0 (List.length b1) = b1 := sub_all b1 rfl
  have f2 : sub b2 0 (List.length b2) = b2 := sub_all b2 rfl
  have f3 : sub h1 0 (List.length h1) = h1 := sub_all h1 rfl
  have f4 : sub h2 0 (List.length h2) = h2 := sub_all h2 rfl
  have k1 : (decide (0 + h1.length ≤ h1.length) && (decide (0 + h2.length ≤ h2.length) && decide ((sub h1 0 h1.length).length ≤ 4611686018427387904))) = true := by
    rw [f3]; simp only [Bool.and_eq_true, decide_eq_true_eq]; omega
  have k2 : (decide (0 + b1.length ≤ b1.length) && decide (0 + b2.length ≤ b2.length)) = true := by
    simp only [Bool.and_eq_true, decide_eq_true_eq]; omega
  unfold spSameM
  cases e1 : (s1 == s2) with
  | false => exact calls_pureB P16_ok (c27_F s1 s2 h1 b1 h2 b2) ⟨⟨⟨trivial, rfl⟩, rfl⟩, e1⟩ hE rfl rfl rfl
  | true =>
    cases e : spEqH h1 h2 with
    | false =>
      have e2 : spEqH (sub h1 0 h1.length) (sub h2 0 h2.length) = false := by rw [f3, f4]; exact e
      exact calls_pureB P16_ok (c27_TF s1 s2 h1 b1 h2 b2) ⟨⟨⟨⟨⟨⟨⟨trivial, rfl⟩, rfl⟩, e1⟩, rfl⟩, rfl⟩, k1⟩, e2⟩ hE rfl rfl rfl
    | true =>
      have e2 : spEqH (sub h1 0 h1.length) (sub h2 0 h2.length) = true := by rw [f3, f4]; exact e
      have hr := calls_pureB P16_ok (c27_TT s1 s2 h1 b1 h2 b2) ⟨⟨⟨⟨⟨⟨⟨⟨⟨⟨trivial, rfl⟩, rfl⟩, e1⟩, rfl⟩, rfl⟩, k1⟩, e2⟩, rfl⟩, rfl⟩, k2⟩ hE rfl rfl rfl
      rw [f1, f2] at hr
      exact hr
def q27 : Entry := fun args hp nx => match args with
  | [.agg [.str s1, hv1, bv1], .agg [.str s2, hv2, bv2]] => match slIn hp [.str, .str] hv1, slIn hp [.int .u8] bv1, slIn hp [.str, .str] hv2, slIn hp [.int .u8] bv2 with
    | some (c1, h1), some (c2, b1), some (c3, h2), some (c4, b2) => some (c1 && (c2 && (c3 && (c4 && decide (h1.length ≤ 4611686018427387904)))), .bool (spSameM s1 h1 b1 s2 h2 b2), [])
    | _, _, _, _ => none
  | _ => none
theorem q27_ok : EntryOK Tryz.prog 27 q27 := by
  intro args hp nx c v bs h hc ρ w hs hi
  unfold q27 at h
  split at h
  · rename_i s1 hv1 bv1 s2 hv2 bv2
    split at h
    · rename_i c1 h1 c2 b1 c3 h2 c4 b2 hs1 hs2 hs3 hs4
      cases h
      simp only [Bool.and_eq_true] at hc
      obtain ⟨hc1, hc2, hc3, hc4, hc5⟩ := hc
      obtain ⟨ρ0, hE, e1, e2, e3, e4⟩ := four_in hs.gw (slIn_spec hs hs1 hc1 rfl) (slIn_spec hs hs2 hc2 rfl) (slIn_spec hs hs3 hc3 rfl) (slIn_spec hs hs4 hc4 rfl)
      refine entry_pure hs rfl ?_
      have hcall := same27_calls (s1 := s1) (s2 := s2) hE (of_decide_eq_true hc5)
      have ea : concL ρ0 [AV.agg [.str s1, .slq 0 h1.length, .slq 1 b1.length], .agg [.str s2, .slq 2 h2.length, .slq 3 b2.length]] = concL ρ [AV.agg [.str s1, hv1, bv1], .agg [.str s2, hv2, bv2]] := by
        show [Value.agg (concL ρ0 [AV.str s1, .slq 0 h1.length, .slq 1 b1.length]).toArray, Value.agg (concL ρ0 [AV.str s2, .slq 2 h2.length, .slq 3 b2.length]).toArray] = _
        simp only [concL]
        rw [e1, e2, e3, e4]
        rfl
      rw [ea] at hcall
      exact hcall
    · cases h
  · cases h
def P17 : Prims := addP (addP (addP P16 13 q13) 25 q25) 27 q27
theorem P17_ok : PrimsOK Tryz.prog P17 := addP_ok (addP_ok (addP_ok P16_ok q13_ok) q25_ok) q27_ok
end Go.Proofs.YtpdgmgkkbbndfaaGreatDoor

set_option maxRecDepth 100000
set_option maxHeartbeats 6400000
set_option linter.unusedVariables false
set_option linter.unusedSimpArgs false
namespace Go.Proofs.YtpdgmgkkbbndfaaGreatDoor
open Go Go.Proofs Go.Proofs.YtpdgmgkkbbndfaaGreatDoor.SX Go.Proofs.YtpdgmgkkbbndfaaGreatDoor
open Go.ChangeShapes Go.WideShapes Go.ChangeAt Go.RowKit
theorem add_eq {a : Addr} (h : a.spot = none) (k : Nat) : a.add k = ⟨a.block, a.off + k, none⟩ := by
  obtain ⟨b, o, s⟩ := a
  have h : s = none := h
  subst h
  unfold Addr.add
  by_cases hk : k = 0
  · rw [if_pos hk, hk]; rfl
  · rw [if_neg hk]
def strAt (W : World) (b o : Nat) : List UInt8 := match W.cell? ⟨b, o, none⟩ with | some (.string s) => s.data.toList | _ => []
def intAt (W : World) (b o : Nat) : Int := match W.cell? ⟨b, o, none⟩ with | some (.int _ n) => n | _ => 0
theorem ba_eta (s : ByteArray) : (⟨s.data.toList.toArray⟩ : ByteArray) = s := by cases s; simp
theorem hdr_cell {H : Type} {enc : TypeId × Value → H} {W : World} {sp : Nat → Bool} {held : Bool} {n k : Nat} {a : Addr} {e : DataW H × List MemPlace} (hs : a.spot = none)
    (h : (W.cells? 0 (a.add k) 2).bind (DataW.trod enc Tryz.prog W 0 sp held n 44) = some e) :
    ∃ s0 s1 : ByteArray, W.cell? ⟨a.block, a.off + k, none⟩ = some (.string s0) ∧ W.cell? ⟨a.block, a.off + (k + 1), none⟩ = some (.string s1) ∧ e.1 = .agg [.lit (.string s0.data.toList), .lit (.string s1.data.toList)] := by
  obtain ⟨l, hl, ht⟩ := Option.bind_eq_some_iff.1 h
  obtain ⟨xs, m, _, ex, hlen, hxs, hf⟩ := DataW.trod_struct Tryz.underlying44 ht
  have hc9 : Tryz.prog.cellsOf 9 = 1 := by kernel_rfl
  have hc44 : Tryz.prog.cellsOf 44 = 2 := by kernel_rfl
  rw [hc44] at hlen
  have hx2 : xs.length = 2 := hxs
  match l, hlen, xs, hx2 with
  | [c0, c1], _, [x0, x1], _ =>
    have h0 : DataW.trod enc Tryz.prog W 0 sp held m 9 (([c0, c1].drop 0).take (Tryz.prog.cellsOf 9)) = some x0 := hf 0 _ rfl
    have h1 : DataW.trod enc Tryz.prog W 0 sp held m 9 (([c0, c1].drop 1).take (Tryz.prog.cellsOf 9)) = some x1 := hf 1 _ rfl
    rw [hc9] at h0 h1
    obtain ⟨s0, e0, f0, _⟩ := DataW.trod_string Tryz.underlying9 (show DataW.trod enc Tryz.prog W 0 sp held m 9 [c0] = some x0 from h0)
    obtain ⟨s1, e1, f1, _⟩ := DataW.trod_string Tryz.underlying9 (show DataW.trod enc Tryz.prog W 0 sp held m 9 [c1] = some x1 from h1)
    cases e0; cases e1
    unfold World.cells? at hl
    rw [if_pos (Nat.zero_le _)] at hl
    have hr : List.range 2 = [0, 1] := rfl
    rw [hr] at hl
    simp only [List.mapM_cons, List.mapM_nil, Option.bind_eq_bind, Option.bind_eq_some_iff, Option.pure_def, Option.some.injEq, List.cons.injEq] at hl
    obtain ⟨y0, hy0, r, ⟨y1, hy1, r2, hr2, hr⟩, hy⟩ := hl
    subst hr2
    obtain ⟨rfl, hy⟩ := hy
    subst hr
    simp only [List.cons.injEq, and_true] at hy
    subst hy
    rw [add_eq hs] at hy0 hy1
    refine ⟨s0, s1, by simpa [Addr.add] using hy0, by simpa [Addr.add, Nat.add_assoc] using hy1, ?_⟩
    rw [ex, f0, f1]
    rfl
theorem byte_cell {H : Type} {enc : TypeId × Value → H} {W : World} {sp : Nat → Bool} {held : Bool} {n k t : Nat} {kk : IntKind} {a : Addr} {e : DataW H × List MemPlace} (hs : a.spot = none) (hu : Tryz.prog.underlying t = some (.int kk))
    (h : (W.cells? 0 (a.add k) 1).bind (DataW.trod enc Tryz.prog W 0 sp held n t) = some e) : ∃ z : Int, W.cell? ⟨a.block, a.off + k, none⟩ = some (.int kk z) ∧ kk.min ≤ z ∧ z ≤ kk.max := by
  obtain ⟨l, hl, ht⟩ := Option.bind_eq_some_iff.1 h
  obtain ⟨z, rfl, _, hz⟩ := DataW.trod_int hu ht
  unfold World.cells? at hl
  rw [if_pos (Nat.zero_le _)] at hl
  have hr : List.range 1 = [0] := rfl
  rw [hr] at hl
  simp only [List.mapM_cons, List.mapM_nil, Option.bind_eq_bind, Option.bind_eq_some_iff, Option.pure_def, Option.some.injEq, List.cons.injEq] at hl
  obtain ⟨y0, hy0, r, hr1, hy⟩ := hl
  subst hr1
  obtain ⟨rfl, _⟩ := hy
  rw [add_eq hs] at hy0
  refine ⟨z, by simpa [Addr.add] using hy0, ?_⟩
  unfold Lit.wf at hz
  simpa using hz
theorem bulk_mem {H : Type} : ∀ {l : List (DataW H)} {d : DataW H}, d ∈ l → Rows.uptoBulk d ≤ Rows.uptoBulkAll l
  | x :: l, d, h => by
    unfold Rows.uptoBulkAll
    rcases List.mem_cons.1 h with rfl | h
    · omega
    · have := bulk_mem h; omega
theorem bulk_pos {H : Type} (d : DataW H) : 1 ≤ Rows.uptoBulk d := by
  cases d with
  | lit l => cases l <;> simp [Rows.uptoBulk]
  | _ => simp [Rows.uptoBulk]
theorem bulk_len {H : Type} : ∀ (l : List (DataW H)), l.length ≤ Rows.uptoBulkAll l
  | [] => by simp
  | x :: l => by
    have := bulk_len l
    have := bulk_pos x
    unfold Rows.uptoBulkAll
    simp only [List.length_cons]; omega
theorem slice_has {W : World} {b0 t e : TypeId} {a : Addr} {len cap : Nat} (hu : Tryz.prog.underlying t = some (.slice e)) (h : Cell.okWide Tryz.prog W .any b0 t (.slice (some a) len cap)) : a.spot = none ∧ ∃ c tt fr, W.heap[a.block]? = some (.cells c tt fr) := by
  unfold Cell.okWide at h
  rw [hu] at h
  simp only [Cell.ok, hu] at h
  obtain ⟨_, _, _, hs, row, cells, hsh, _⟩ := h
  refine ⟨hs, ?_⟩
  unfold World.shape? at hsh
  split at hsh
  · rename_i c tt fr hh; exact ⟨c, tt, fr, hh⟩
  · cases hsh
theorem cell_in {W : World} {b o : Nat} {c : Array Value} {tt : TypeId} {fr : Nat × Nat} {v : Value} (h : W.heap[b]? = some (.cells c tt fr)) (hc : W.cell? ⟨b, o, none⟩ = some v) : c[o]? = some v := by
  unfold World.cell? at hc
  simp only at hc
  rw [h] at hc
  simpa using hc
theorem hdrs_read {H : Type} {enc : TypeId × Value → H} {W : World} {sp : Nat → Bool} {held : Bool} {n b0 : Nat} {hv : Value} {x : DataW H × List MemPlace} (h : DataW.trod enc Tryz.prog W 0 sp held n 22 [hv] = some x) (hok : Cell.okWide Tryz.prog W .any b0 22 hv) :
    ∃ rows, Reads W [.str, .str] rows hv ∧ rows.length ≤ Rows.uptoBulk x.1 ∧ ∀ r ∈ rows, r.length = 2 ∧ (∃ a b, r = [.str a, .str b]) ∧ (hN r).length ≤ Rows.uptoBulk x.1 ∧ (hV r).length ≤ Rows.uptoBulk x.1 := by
  have hc44 : Tryz.prog.cellsOf 44 = 2 := by kernel_rfl
  rcases DataW.trod_slice Tryz.underlying22 h with ⟨hx, _⟩ | ⟨a, len, cap, elems, rest, m, _, hx, ex, _, _, _, hl, hel, _, _⟩
  · cases hx
    exact ⟨[], .nil rfl, Nat.zero_le _, fun r hr => by cases hr⟩
  · cases hx
    obtain ⟨hs, c, tt, fr, hh⟩ := slice_has Tryz.underlying22 hok
    obtain ⟨b, o, sp'⟩ := a
    have hs : sp' = none := hs
    subst hs
    have key : ∀ i, i < len → ∃ s0 s1 : ByteArray, W.cell? ⟨b, o + i * 2, none⟩ = some (.string s0) ∧ W.cell? ⟨b, o + (i * 2 + 1), none⟩ = some (.string s1) ∧ ∃ e ∈ elems, e.1 = .agg [.lit (.string s0.data.toList), .lit (.string s1.data.toList)] := by
      intro i hi
      have h1 := hel i hi
      rw [hc44, List.getElem?_eq_getElem (by omega)] at h1
      obtain ⟨s0, s1, g0, g1, g2⟩ := hdr_cell (a := ⟨b, o, none⟩) rfl h1
      exact ⟨s0, s1, g0, g1, _, List.getElem_mem (by omega), g2⟩
    have hbulk : Rows.uptoBulk x.1 = Rows.uptoBulkAll (elems.map (·.1)) + Rows.uptoBulkAll (rest.map (·.1)) + 1 := by rw [ex]; rfl
    refine ⟨(List.range len).map fun i => [.str (strAt W b (o + i * 2)), .str (strAt W b (o + (i * 2 + 1)))], ?_, ?_, fun r hr => ?_⟩
    · have hR := Reads.cells (w := W) (ks := [.str, .str]) (rows := (List.range len).map fun i => [AV.str (strAt W b (o + i * 2)), .str (strAt W b (o + (i * 2 + 1)))]) ⟨b, o, 2, cap, false⟩ cap
        ⟨rfl, c, tt, fr, hh, fun i j kd hi hj => ?_, fun h => by cases h⟩
      · simpa using hR
      · have hi : i < len := by simpa using hi
        obtain ⟨s0, s1, g0, g1, _⟩ := key i hi
        have hrow : ((List.range len).map fun i => [AV.str (strAt W b (o + i * 2)), .str (strAt W b (o + (i * 2 + 1)))]).getD i [] = [AV.str (strAt W b (o + i * 2)), .str (strAt W b (o + (i * 2 + 1)))] := by
          simp [List.getD_eq_getElem?_getD, hi]
        have hj' : (j = 0 ∨ j = 1) ∧ kd = .str := by
          match j with
          | 0 => simp at hj; exact ⟨.inl rfl, hj.symm⟩
          | 1 => simp at hj; exact ⟨.inr rfl, hj.symm⟩
          | j + 2 => simp at hj
        obtain ⟨hj0, rfl⟩ := hj'
        unfold cellAt
        rw [hrow]
        rcases hj0 with rfl | rfl
        · show c[o + (i * 2 + 0)]? = some (.string ⟨(strAt W b (o + i * 2)).toArray⟩)
          rw [Nat.add_zero, cell_in hh g0]
          have e : strAt W b (o + i * 2) = s0.data.toList := by unfold strAt; rw [g0]
          rw [e, ba_eta]
        · show c[o + (i * 2 + 1)]? = some (.string ⟨(strAt W b (o + (i * 2 + 1))).toArray⟩)
          rw [cell_in hh g1]
          have e : strAt W b (o + (i * 2 + 1)) = s1.data.toList := by unfold strAt; rw [g1]
          rw [e, ba_eta]
    · have := bulk_len (elems.map (·.1))
      simp only [List.length_map, List.length_range] at this ⊢
      omega
    · obtain ⟨i, hi, rfl⟩ := List.mem_map.1 hr
      obtain ⟨s0, s1, g0, g1, e, he, ee⟩ := key i (List.mem_range.1 hi)
      have hb := bulk_mem (List.mem_map_of_mem (f := (·.1)) he)
      rw [ee] at hb
      simp only [Rows.uptoBulk, Rows.uptoBulkAll] at hb
      refine ⟨rfl, ⟨_, _, rfl⟩, ?_, ?_⟩
      · show (strAt W b (o + i * 2)).length ≤ _
        unfold strAt; rw [g0]; simp only; omega
      · show (strAt W b (o + (i * 2 + 1))).length ≤ _
        unfold strAt; rw [g1]; simp only; omega
theorem body_read {H : Type} {enc : TypeId × Value → H} {W : World} {sp : Nat → Bool} {held : Bool} {n b0 : Nat} {hv : Value} {x : DataW H × List MemPlace} (h : DataW.trod enc Tryz.prog W 0 sp held n 23 [hv] = some x) (hok : Cell.okWide Tryz.prog W .any b0 23 hv) :
    ∃ l : List UInt8, Reads W [.int .u8] (byteRows l) hv ∧ l.length ≤ Rows.uptoBulk x.1 := by
  have hc5 : Tryz.prog.cellsOf 5 = 1 := by kernel_rfl
  rcases DataW.trod_slice Tryz.underlying23 h with ⟨hx, _⟩ | ⟨a, len, cap, elems, rest, m, _, hx, ex, _, _, _, hl, hel, _, _⟩
  · cases hx
    exact ⟨[], .nil rfl, Nat.zero_le _⟩
  · cases hx
    obtain ⟨hs, c, tt, fr, hh⟩ := slice_has Tryz.underlying23 hok
    obtain ⟨b, o, sp'⟩ := a
    have hs : sp' = none := hs
    subst hs
    have key : ∀ i, i < len → ∃ z : Int, W.cell? ⟨b, o + i, none⟩ = some (.int .u8 z) ∧ 0 ≤ z ∧ z ≤ 255 := by
      intro i hi
      have h1 := hel i hi
      rw [hc5, List.getElem?_eq_getElem (by omega), Nat.mul_one] at h1
      obtain ⟨z, g0, g1, g2⟩ := byte_cell (a := ⟨b, o, none⟩) rfl Tryz.underlying5 h1
      exact ⟨z, g0, g1, g2⟩
    have hbulk : Rows.uptoBulk x.1 = Rows.uptoBulkAll (elems.map (·.1)) + Rows.uptoBulkAll (rest.map (·.1)) + 1 := by rw [ex]; rfl
    refine ⟨(List.range len).map fun i => UInt8.ofNat (intAt W b (o + i)).toNat, ?_, ?_⟩
    · have hR := Reads.cells (w := W) (ks := [.int .u8]) (rows := byteRows ((List.range len).map fun i => UInt8.ofNat (intAt W b (o + i)).toNat)) ⟨b, o, 1, cap, false⟩ cap
        ⟨rfl, c, tt, fr, hh, fun i j kd hi hj => ?_, fun h => by cases h⟩
      · rw [byteRows_length] at hR
        simpa using hR
      · have hi : i < len := by rw [byteRows_length] at hi; simpa using hi
        obtain ⟨z, g0, g1, g2⟩ := key i hi
        have hj' : j = 0 ∧ kd = .int .u8 := by
          match j with
          | 0 => simp at hj; exact ⟨rfl, hj.symm⟩
          | j + 1 => simp at hj
        obtain ⟨rfl, rfl⟩ := hj'
        have hrow : (byteRows ((List.range len).map fun i => UInt8.ofNat (intAt W b (o + i)).toNat)).getD i [] = byteRow (UInt8.ofNat (intAt W b (o + i)).toNat) := by
          simp [byteRows, List.getD_eq_getElem?_getD, hi]
        unfold cellAt
        rw [hrow]
        show c[o + (i * 1 + 0)]? = some (.int .u8 ((UInt8.ofNat (intAt W b (o + i)).toNat).toNat : Int))
        rw [show o + (i * 1 + 0) = o + i by omega, cell_in hh g0]
        unfold intAt
        rw [g0]
        simp only
        congr 2
        rw [UInt8.toNat_ofNat']
        omega
    · have := bulk_len (elems.map (·.1))
      simp only [List.length_map, List.length_range] at this ⊢
      omega
structure MsgIn (W : World) (N : Nat) (start : List UInt8) (hrows : List (List AV)) (body : List UInt8) (hv bv : Value) : Prop where
  h : Reads W [.str, .str] hrows hv
  b : Reads W [.int .u8] (byteRows body) bv
  st : start.length ≤ N
  hl : hrows.length ≤ N
  bl : body.length ≤ N
  rows : ∀ r ∈ hrows, r.length = 2 ∧ (∃ a b, r = [.str a, .str b]) ∧ (hN r).length ≤ N ∧ (hV r).length ≤ N
  cap : ∀ a n c, hv = .slice a n c → n ≤ c
theorem msg_read {H : Type} {enc : TypeId × Value → H} {W : World} {sp : Nat → Bool} {held : Bool} {b0 N : Nat} {v : Value} {d : DataW H} {ps : List MemPlace} (h : DataW.Trod enc Tryz.prog W 0 sp held 25 v d ps) (hok : Value.okWide Tryz.prog W .any b0 25 v) (hN : Rows.uptoBulk d ≤ N) :
    ∃ start hrows body hv bv, v = .agg #[.string ⟨start.toArray⟩, hv, bv] ∧ MsgIn W N start hrows body hv bv := by
  unfold Value.okWide at hok
  rw [Tryz.underlying25] at hok
  obtain ⟨cs, rfl, hsz, ts, hts, _, hall⟩ := hok
  have hc : Tryz.prog.cellTypes Tryz.prog.depth 25 = some [9, 22, 23] := by kernel_rfl
  rw [hc] at hts
  cases hts
  have h3 : cs.size = 3 := hsz.trans (by kernel_rfl)
  obtain ⟨c0, c1, c2, rfl⟩ : ∃ c0 c1 c2, cs = #[c0, c1, c2] := by
    refine ⟨cs[0], cs[1], cs[2], ?_⟩
    apply Array.ext
    · simp [h3]
    · intro i hi1 hi2
      simp at hi2
      have : i = 0 ∨ i = 1 ∨ i = 2 := by omega
      rcases this with rfl | rfl | rfl <;> rfl
  have ok1 : Cell.okWide Tryz.prog W .any b0 22 c1 := by
    obtain ⟨u, hu, hok⟩ := hall 1 c1 rfl
    have : u = 22 := by simpa using hu.symm
    rw [this] at hok; exact hok
  have ok2 : Cell.okWide Tryz.prog W .any b0 23 c2 := by
    obtain ⟨u, hu, hok⟩ := hall 2 c2 rfl
    have : u = 23 := by simpa using hu.symm
    rw [this] at hok; exact hok
  obtain ⟨fuel, hf⟩ := h
  obtain ⟨xs, m, _, ex, hlen, hxs, hfs⟩ := DataW.trod_struct Tryz.underlying25 hf
  have hx3 : xs.length = 3 := hxs
  match xs, hx3 with
  | [x0, x1, x2], _ =>
    have hc9 : Tryz.prog.cellsOf 9 = 1 := by kernel_rfl
    have hc22 : Tryz.prog.cellsOf 22 = 1 := by kernel_rfl
    have hc23 : Tryz.prog.cellsOf 23 = 1 := by kernel_rfl
    have f0 : DataW.trod enc Tryz.prog W 0 sp held m 9 (((#[c0, c1, c2] : Array Value).toList.drop 0).take (Tryz.prog.cellsOf 9)) = some x0 := hfs 0 _ rfl
    have f1 : DataW.trod enc Tryz.prog W 0 sp held m 22 (((#[c0, c1, c2] : Array Value).toList.drop 1).take (Tryz.prog.cellsOf 22)) = some x1 := hfs 1 _ rfl
    have f2 : DataW.trod enc Tryz.prog W 0 sp held m 23 (((#[c0, c1, c2] : Array Value).toList.drop 2).take (Tryz.prog.cellsOf 23)) = some x2 := hfs 2 _ rfl
    rw [hc9] at f0
    rw [hc22] at f1
    rw [hc23] at f2
    obtain ⟨s, e0, g0, _⟩ := DataW.trod_string Tryz.underlying9 (show DataW.trod enc Tryz.prog W 0 sp held m 9 [c0] = some x0 from f0)
    cases e0
    obtain ⟨hrows, r1, r2, r3⟩ := hdrs_read (show DataW.trod enc Tryz.prog W 0 sp held m 22 [c1] = some x1 from f1) ok1
    obtain ⟨body, b1, b2⟩ := body_read (show DataW.trod enc Tryz.prog W 0 sp held m 23 [c2] = some x2 from f2) ok2
    have hd : d = .agg [x0.1, x1.1, x2.1] := (Prod.mk.inj ex).1
    rw [hd, g0] at hN
    simp only [Rows.uptoBulk, Rows.uptoBulkAll] at hN
    refine ⟨s.data.toList, hrows, body, c1, c2, by rw [ba_eta], r1, b1, by omega, by omega, by omega, fun r hr => ?_, fun a n c he => ?_⟩
    · obtain ⟨k1, k2, k3, k4⟩ := r3 r hr
      exact ⟨k1, k2, by omega, by omega⟩
    · subst he
      unfold Cell.okWide at ok1
      rw [Tryz.underlying22] at ok1
      simp only [Cell.ok, Tryz.underlying22] at ok1
      cases a with
      | none => cases n <;> cases c <;> simp at ok1 ⊢
      | some a => exact ok1.1
end Go.Proofs.YtpdgmgkkbbndfaaGreatDoor

